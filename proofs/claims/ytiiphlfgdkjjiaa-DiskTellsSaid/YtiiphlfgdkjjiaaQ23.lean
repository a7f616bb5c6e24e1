-- Written by a program of this session (pr2.py) that drives the kit's print. Lean checks it.
import Derived.Test.YtiiphlfgdkjjiaaQ0
import Derived.Test.YtiiphlfgdkjjiaaQ3
import Derived.Test.YtiiphlfgdkjjiaaDPut
import Derived.Test.YtiiphlfgdkjjiaaQ7
import Derived.Test.YtiiphlfgdkjjiaaDRot
import Derived.Test.YtiiphlfgdkjjiaaQ9
import Derived.Test.YtiiphlfgdkjjiaaQ10
import Derived.Test.YtiiphlfgdkjjiaaQ11
import Derived.Test.YtiiphlfgdkjjiaaQ13
import Derived.Test.YtiiphlfgdkjjiaaQ14
import Derived.Test.YtiiphlfgdkjjiaaQ15
import Derived.Test.YtiiphlfgdkjjiaaDAlive
import Derived.Test.YtiiphlfgdkjjiaaQ19
import Derived.Test.YtiiphlfgdkjjiaaQ21
import Derived.Test.YtiiphlfgdkjjiaaDRefRot
namespace Go.Proofs.Ytiiphlfgdkjjiaa.Q
open Go.RowKit Go.Proofs.YtiiphlfgdkjjiaaW.PrintWords Go.Proofs.YtiiphlfgdkjjiaaW.PrintLast Go.Proofs.YtiiphlfgdkjjiaaW.PrintMore
attribute [local go_sem] max2_int min2_int max_two min_two max_three min_three max_four min_four   -- for this text's walks alone
set_option linter.unusedVariables false
set_option linter.unusedSimpArgs false

/-! ### transeptlaw04_DiskTells: function 11 -/
def transeptlaw04_DiskTells.j0 : Nat → List Int → List Int → Bool → List (List Int) → List (S55) → List (List Int) → List (S61) → Option (Bool)
  | 0, _, _, _, _, _, _, _ => none
  | k + 1, x2, x12, x130, x470000, x470001, x480000, x480001 => if x130 = true then (none) else ((disk_Check.f k x480000 x480001).bind fun t544 => ((transeptlaw04_num.f t544).bind fun t545 => ((transeptref04_Check.f k x470000 x470001).bind fun t546 => (if t545 = t546 then ((transeptlaw04_Alike.f k x480000 x480001 x470000 x470001).bind fun t547 => (if t547 = 0 then ((transeptplain_SameBytes.f k x12 x2).bind fun t548 => (if t548 = true then ((transeptlaw04_alive.f).bind fun t549 => (some t549)) else (none))) else (none))) else (none)))))
def transeptlaw04_DiskTells.f (k : Nat) (l0_0 : List (List Int)) (l0_1 : List (S55)) (a1 : Int) (l2 : List Int) (a3 : Int) (a4 : Int) : Option (Bool) := (transeptlaw04_Of.f k l0_0 l0_1).bind fun bt470 => ((transeptplain_CopyBytes.f l2).bind fun t476 => ((disk_Put.f k bt470.1 bt470.2 a1 t476).bind fun bt480 => ((transeptref04_Put.f k l0_0 l0_1 a1 l2).bind fun bt488 => ((disk_Get.f k bt470.1 bt470.2 a1).bind fun bt496 => ((transeptref04_Get.f k l0_0 l0_1 a1).bind fun bt500 => ((disk_Flush.f k bt470.1 bt470.2).bind fun bt504 => ((transeptref04_Flush.f k l0_0 l0_1).bind fun bt512 => ((disk_Rot.f k bt470.1 bt470.2 a1 a3 a4).bind fun bt520 => ((transeptref04_Rot.f k l0_0 l0_1 a1 a3 a4).bind fun bt528 => ((transeptlaw04_Alike.f k bt480.1 bt480.2.1 bt488.1 bt488.2.1).bind fun t536 => (if t536 = 0 then ((transeptlaw04_num.f bt480.2.2).bind fun t537 => (if t537 = bt488.2.2 then ((transeptplain_SameBytes.f k bt496.1 bt500.1).bind fun t538 => (if t538 = true then ((transeptlaw04_num.f bt496.2).bind fun t539 => (if t539 = bt500.2 then ((transeptlaw04_Alike.f k bt504.1 bt504.2.1 bt512.1 bt512.2.1).bind fun t540 => (if t540 = 0 then ((transeptlaw04_num.f bt504.2.2).bind fun t541 => (if t541 = bt512.2.2 then ((transeptlaw04_Alike.f k bt520.1 bt520.2.1 bt528.1 bt528.2.1).bind fun t542 => (if t542 = 0 then ((transeptlaw04_num.f bt520.2.2).bind fun t543 => (transeptlaw04_DiskTells.j0 k l2 t476 (t543 != bt528.2.2) l0_0 l0_1 bt470.1 bt470.2)) else (transeptlaw04_DiskTells.j0 k l2 t476 true l0_0 l0_1 bt470.1 bt470.2))) else (transeptlaw04_DiskTells.j0 k l2 t476 true l0_0 l0_1 bt470.1 bt470.2))) else (transeptlaw04_DiskTells.j0 k l2 t476 true l0_0 l0_1 bt470.1 bt470.2))) else (transeptlaw04_DiskTells.j0 k l2 t476 true l0_0 l0_1 bt470.1 bt470.2))) else (transeptlaw04_DiskTells.j0 k l2 t476 true l0_0 l0_1 bt470.1 bt470.2))) else (transeptlaw04_DiskTells.j0 k l2 t476 true l0_0 l0_1 bt470.1 bt470.2))) else (transeptlaw04_DiskTells.j0 k l2 t476 true l0_0 l0_1 bt470.1 bt470.2))))))))))))
theorem transeptlaw04_DiskTells.mono_l : ∀ k, (∀ y0 y1 y2 y3 y4 y5 y6, LeO (transeptlaw04_DiskTells.j0 k y0 y1 y2 y3 y4 y5 y6) (transeptlaw04_DiskTells.j0 (k + 1) y0 y1 y2 y3 y4 y5 y6))
  | 0 => fun _ _ _ _ _ _ _ r h => by simp [transeptlaw04_DiskTells.j0] at h
  | k + 1 => by
    have ih0 := transeptlaw04_DiskTells.mono_l k
    · intro y0 y1 y2 y3 y4 y5 y6
      unfold transeptlaw04_DiskTells.j0
      repeat' first
      | (with_reducible exact ih0 _ _ _ _ _ _ _)
      | (with_reducible exact disk_Check.mono _ _ _)
      | (with_reducible exact disk_Flush.mono _ _ _)
      | (with_reducible exact disk_Get.mono _ _ _ _)
      | (with_reducible exact disk_Put.mono _ _ _ _ _)
      | (with_reducible exact disk_Rot.mono _ _ _ _ _ _)
      | (with_reducible exact transeptlaw04_Alike.mono _ _ _ _ _)
      | (with_reducible exact transeptlaw04_Of.mono _ _ _)
      | (with_reducible exact transeptplain_SameBytes.mono _ _ _)
      | (with_reducible exact transeptref04_Check.mono _ _ _)
      | (with_reducible exact transeptref04_Flush.mono _ _ _)
      | (with_reducible exact transeptref04_Get.mono _ _ _ _)
      | (with_reducible exact transeptref04_Put.mono _ _ _ _ _)
      | (with_reducible exact transeptref04_Rot.mono _ _ _ _ _ _)
      | (with_reducible exact LeO.refl _)
      | (with_reducible exact LeO.none _)
      | (with_reducible refine LeO.ite ?_ ?_)
      | (with_reducible refine LeO.bind ?_ (fun _ => ?_))
      | exact ih0 _ _ _ _ _ _ _
      | exact disk_Check.mono _ _ _
      | exact disk_Flush.mono _ _ _
      | exact disk_Get.mono _ _ _ _
      | exact disk_Put.mono _ _ _ _ _
      | exact disk_Rot.mono _ _ _ _ _ _
      | exact transeptlaw04_Alike.mono _ _ _ _ _
      | exact transeptlaw04_Of.mono _ _ _
      | exact transeptplain_SameBytes.mono _ _ _
      | exact transeptref04_Check.mono _ _ _
      | exact transeptref04_Flush.mono _ _ _
      | exact transeptref04_Get.mono _ _ _ _
      | exact transeptref04_Put.mono _ _ _ _ _
      | exact transeptref04_Rot.mono _ _ _ _ _ _
      | exact LeO.none _
      | refine LeO.ite ?_ ?_
      | refine LeO.bind ?_ (fun _ => ?_)
theorem transeptlaw04_DiskTells.mono : ∀ a0 a1 a2 a3 a4 a5 k, LeO (transeptlaw04_DiskTells.f k a0 a1 a2 a3 a4 a5) (transeptlaw04_DiskTells.f (k + 1) a0 a1 a2 a3 a4 a5) := by
  intro a0 a1 a2 a3 a4 a5 k
  have ih0 := transeptlaw04_DiskTells.mono_l k
  unfold transeptlaw04_DiskTells.f
  repeat' first
      | (with_reducible exact ih0 _ _ _ _ _ _ _)
      | (with_reducible exact disk_Check.mono _ _ _)
      | (with_reducible exact disk_Flush.mono _ _ _)
      | (with_reducible exact disk_Get.mono _ _ _ _)
      | (with_reducible exact disk_Put.mono _ _ _ _ _)
      | (with_reducible exact disk_Rot.mono _ _ _ _ _ _)
      | (with_reducible exact transeptlaw04_Alike.mono _ _ _ _ _)
      | (with_reducible exact transeptlaw04_Of.mono _ _ _)
      | (with_reducible exact transeptplain_SameBytes.mono _ _ _)
      | (with_reducible exact transeptref04_Check.mono _ _ _)
      | (with_reducible exact transeptref04_Flush.mono _ _ _)
      | (with_reducible exact transeptref04_Get.mono _ _ _ _)
      | (with_reducible exact transeptref04_Put.mono _ _ _ _ _)
      | (with_reducible exact transeptref04_Rot.mono _ _ _ _ _ _)
      | (with_reducible exact LeO.refl _)
      | (with_reducible exact LeO.none _)
      | (with_reducible refine LeO.ite ?_ ?_)
      | (with_reducible refine LeO.bind ?_ (fun _ => ?_))
      | exact ih0 _ _ _ _ _ _ _
      | exact disk_Check.mono _ _ _
      | exact disk_Flush.mono _ _ _
      | exact disk_Get.mono _ _ _ _
      | exact disk_Put.mono _ _ _ _ _
      | exact disk_Rot.mono _ _ _ _ _ _
      | exact transeptlaw04_Alike.mono _ _ _ _ _
      | exact transeptlaw04_Of.mono _ _ _
      | exact transeptplain_SameBytes.mono _ _ _
      | exact transeptref04_Check.mono _ _ _
      | exact transeptref04_Flush.mono _ _ _
      | exact transeptref04_Get.mono _ _ _ _
      | exact transeptref04_Put.mono _ _ _ _ _
      | exact transeptref04_Rot.mono _ _ _ _ _ _
      | exact LeO.none _
      | refine LeO.ite ?_ ?_
      | refine LeO.bind ?_ (fun _ => ?_)
def transeptlaw04_DiskTells.T12 : Bool × List (List Nat × List Nat) := (true, [([], []), ([0], [0]), ([1, 1], [1]), ([], []), ([3, 2], [3]), ([2, 4], [2, 4]), ([5, 4], [5]), ([6], [6]), ([6], [6]), ([7, 8, 6, 6], [6, 7, 8]), ([9, 6], [6, 9]), ([6, 10], [6, 10]), ([11, 9], [11]), ([12], [12]), ([12], [12]), ([13, 14, 12, 12], [12, 13, 14]), ([12, 15], [12, 15]), ([16, 15], [16]), ([17, 17], [17]), ([17, 18], [17, 18]), ([19, 18, 0, 1, 2, 3, 4, 5, 6, 7, 8, 9, 10, 11, 12, 13, 14, 15, 16, 17, 18, 19], [19])])
def transeptlaw04_DiskTells.B12 : List Nat := [0, 1, 3, 0, 15, 31, 63, 127, 127, 511, 1023, 2047, 4095, 8191, 8191, 32767, 65535, 131071, 262143, 524287, 1048575]
theorem transeptlaw04_DiskTells.tab12 : rtab .any (opsOf Try.f11 12) = transeptlaw04_DiskTells.T12 := by kernel_rfl
theorem transeptlaw04_DiskTells.bits12 : waitsOk transeptlaw04_DiskTells.T12.2 transeptlaw04_DiskTells.B12 = true := by kernel_rfl
set_option maxHeartbeats 8000000 in
set_option maxRecDepth 100000 in
theorem transeptlaw04_DiskTells.calls (k : Nat) (A0_0 : Option Addr) (c0_0 : Nat) (l0_0 : List (List Int)) (A0_1 : Option Addr) (c0_1 : Nat) (l0_1 : List (S55)) (a1 : Int) (A2 : Option Addr) (c2 : Nat) (l2 : List Int) (a3 : Int) (a4 : Int) (r : Bool) (w : World) (hr0_0 : Kd.C (Kd.slice 5 (Kd.int .u8)) w A0_0 l0_0.length l0_0) (hc0_0 : l0_0.length ≤ c0_0) (hr0_1 : Kd.C k55 w A0_1 l0_1.length l0_1) (hc0_1 : l0_1.length ≤ c0_1) (hr2 : Kd.C (Kd.int .u8) w A2 l2.length l2) (hc2 : l2.length ≤ c2) (h : transeptlaw04_DiskTells.f k l0_0 l0_1 a1 l2 a3 a4 = some r) :
    Calls Try.prog 11 #[.agg #[.slice A0_0 l0_0.length c0_0, .slice A0_1 l0_1.length c0_1], .int .i64 a1, .slice A2 l2.length c2, .int .i64 a3, .int .u8 a4] w fun e w' => e = .returned (.bool r) ∧ Below w.heap.size w w' := by
 have hu42 := Try.underlying42
 have hu28 := Try.underlying28
 have HR0_0 := Aside0.mk hr0_0
 have HC0_0 := Aside0.mk hc0_0
 clear hr0_0 hc0_0
 have HR0_1 := Aside0.mk hr0_1
 have HC0_1 := Aside0.mk hc0_1
 clear hr0_1 hc0_1
 have HR2 := Aside0.mk hr2
 have HC2 := Aside0.mk hc2
 clear hr2 hc2
 have HB := Aside0.mk (Below.refl w.heap.size w)
 have H : ((transeptlaw04_Of.f k l0_0 l0_1).bind fun bt470 => ((transeptplain_CopyBytes.f l2).bind fun t476 => ((disk_Put.f k bt470.1 bt470.2 a1 t476).bind fun bt480 => ((transeptref04_Put.f k l0_0 l0_1 a1 l2).bind fun bt488 => ((disk_Get.f k bt470.1 bt470.2 a1).bind fun bt496 => ((transeptref04_Get.f k l0_0 l0_1 a1).bind fun bt500 => ((disk_Flush.f k bt470.1 bt470.2).bind fun bt504 => ((transeptref04_Flush.f k l0_0 l0_1).bind fun bt512 => ((disk_Rot.f k bt470.1 bt470.2 a1 a3 a4).bind fun bt520 => ((transeptref04_Rot.f k l0_0 l0_1 a1 a3 a4).bind fun bt528 => ((transeptlaw04_Alike.f k bt480.1 bt480.2.1 bt488.1 bt488.2.1).bind fun t536 => (if t536 = 0 then ((transeptlaw04_num.f bt480.2.2).bind fun t537 => (if t537 = bt488.2.2 then ((transeptplain_SameBytes.f k bt496.1 bt500.1).bind fun t538 => (if t538 = true then ((transeptlaw04_num.f bt496.2).bind fun t539 => (if t539 = bt500.2 then ((transeptlaw04_Alike.f k bt504.1 bt504.2.1 bt512.1 bt512.2.1).bind fun t540 => (if t540 = 0 then ((transeptlaw04_num.f bt504.2.2).bind fun t541 => (if t541 = bt512.2.2 then ((transeptlaw04_Alike.f k bt520.1 bt520.2.1 bt528.1 bt528.2.1).bind fun t542 => (if t542 = 0 then ((transeptlaw04_num.f bt520.2.2).bind fun t543 => (transeptlaw04_DiskTells.j0 k l2 t476 (t543 != bt528.2.2) l0_0 l0_1 bt470.1 bt470.2)) else (transeptlaw04_DiskTells.j0 k l2 t476 true l0_0 l0_1 bt470.1 bt470.2))) else (transeptlaw04_DiskTells.j0 k l2 t476 true l0_0 l0_1 bt470.1 bt470.2))) else (transeptlaw04_DiskTells.j0 k l2 t476 true l0_0 l0_1 bt470.1 bt470.2))) else (transeptlaw04_DiskTells.j0 k l2 t476 true l0_0 l0_1 bt470.1 bt470.2))) else (transeptlaw04_DiskTells.j0 k l2 t476 true l0_0 l0_1 bt470.1 bt470.2))) else (transeptlaw04_DiskTells.j0 k l2 t476 true l0_0 l0_1 bt470.1 bt470.2))) else (transeptlaw04_DiskTells.j0 k l2 t476 true l0_0 l0_1 bt470.1 bt470.2))))))))))))) = some r := h
 clear h
 replace H := Option.bind_eq_some_iff.mp H
 obtain ⟨⟨t470, t473⟩, A60, H⟩ := H
 replace H : ((transeptplain_CopyBytes.f l2).bind fun t476 => ((disk_Put.f k t470 t473 a1 t476).bind fun bt480 => ((transeptref04_Put.f k l0_0 l0_1 a1 l2).bind fun bt488 => ((disk_Get.f k t470 t473 a1).bind fun bt496 => ((transeptref04_Get.f k l0_0 l0_1 a1).bind fun bt500 => ((disk_Flush.f k t470 t473).bind fun bt504 => ((transeptref04_Flush.f k l0_0 l0_1).bind fun bt512 => ((disk_Rot.f k t470 t473 a1 a3 a4).bind fun bt520 => ((transeptref04_Rot.f k l0_0 l0_1 a1 a3 a4).bind fun bt528 => ((transeptlaw04_Alike.f k bt480.1 bt480.2.1 bt488.1 bt488.2.1).bind fun t536 => (if t536 = 0 then ((transeptlaw04_num.f bt480.2.2).bind fun t537 => (if t537 = bt488.2.2 then ((transeptplain_SameBytes.f k bt496.1 bt500.1).bind fun t538 => (if t538 = true then ((transeptlaw04_num.f bt496.2).bind fun t539 => (if t539 = bt500.2 then ((transeptlaw04_Alike.f k bt504.1 bt504.2.1 bt512.1 bt512.2.1).bind fun t540 => (if t540 = 0 then ((transeptlaw04_num.f bt504.2.2).bind fun t541 => (if t541 = bt512.2.2 then ((transeptlaw04_Alike.f k bt520.1 bt520.2.1 bt528.1 bt528.2.1).bind fun t542 => (if t542 = 0 then ((transeptlaw04_num.f bt520.2.2).bind fun t543 => (transeptlaw04_DiskTells.j0 k l2 t476 (t543 != bt528.2.2) l0_0 l0_1 t470 t473)) else (transeptlaw04_DiskTells.j0 k l2 t476 true l0_0 l0_1 t470 t473))) else (transeptlaw04_DiskTells.j0 k l2 t476 true l0_0 l0_1 t470 t473))) else (transeptlaw04_DiskTells.j0 k l2 t476 true l0_0 l0_1 t470 t473))) else (transeptlaw04_DiskTells.j0 k l2 t476 true l0_0 l0_1 t470 t473))) else (transeptlaw04_DiskTells.j0 k l2 t476 true l0_0 l0_1 t470 t473))) else (transeptlaw04_DiskTells.j0 k l2 t476 true l0_0 l0_1 t470 t473))) else (transeptlaw04_DiskTells.j0 k l2 t476 true l0_0 l0_1 t470 t473)))))))))))) = some r := H
 have A6 := Aside0.mk A60
 clear A60
 replace H := Option.bind_eq_some_iff.mp H
 obtain ⟨t476, A70, H⟩ := H
 replace H : ((disk_Put.f k t470 t473 a1 t476).bind fun bt480 => ((transeptref04_Put.f k l0_0 l0_1 a1 l2).bind fun bt488 => ((disk_Get.f k t470 t473 a1).bind fun bt496 => ((transeptref04_Get.f k l0_0 l0_1 a1).bind fun bt500 => ((disk_Flush.f k t470 t473).bind fun bt504 => ((transeptref04_Flush.f k l0_0 l0_1).bind fun bt512 => ((disk_Rot.f k t470 t473 a1 a3 a4).bind fun bt520 => ((transeptref04_Rot.f k l0_0 l0_1 a1 a3 a4).bind fun bt528 => ((transeptlaw04_Alike.f k bt480.1 bt480.2.1 bt488.1 bt488.2.1).bind fun t536 => (if t536 = 0 then ((transeptlaw04_num.f bt480.2.2).bind fun t537 => (if t537 = bt488.2.2 then ((transeptplain_SameBytes.f k bt496.1 bt500.1).bind fun t538 => (if t538 = true then ((transeptlaw04_num.f bt496.2).bind fun t539 => (if t539 = bt500.2 then ((transeptlaw04_Alike.f k bt504.1 bt504.2.1 bt512.1 bt512.2.1).bind fun t540 => (if t540 = 0 then ((transeptlaw04_num.f bt504.2.2).bind fun t541 => (if t541 = bt512.2.2 then ((transeptlaw04_Alike.f k bt520.1 bt520.2.1 bt528.1 bt528.2.1).bind fun t542 => (if t542 = 0 then ((transeptlaw04_num.f bt520.2.2).bind fun t543 => (transeptlaw04_DiskTells.j0 k l2 t476 (t543 != bt528.2.2) l0_0 l0_1 t470 t473)) else (transeptlaw04_DiskTells.j0 k l2 t476 true l0_0 l0_1 t470 t473))) else (transeptlaw04_DiskTells.j0 k l2 t476 true l0_0 l0_1 t470 t473))) else (transeptlaw04_DiskTells.j0 k l2 t476 true l0_0 l0_1 t470 t473))) else (transeptlaw04_DiskTells.j0 k l2 t476 true l0_0 l0_1 t470 t473))) else (transeptlaw04_DiskTells.j0 k l2 t476 true l0_0 l0_1 t470 t473))) else (transeptlaw04_DiskTells.j0 k l2 t476 true l0_0 l0_1 t470 t473))) else (transeptlaw04_DiskTells.j0 k l2 t476 true l0_0 l0_1 t470 t473))))))))))) = some r := H
 have A7 := Aside0.mk A70
 clear A70
 replace H := Option.bind_eq_some_iff.mp H
 obtain ⟨⟨t480, t483, t486⟩, A80, H⟩ := H
 replace H : ((transeptref04_Put.f k l0_0 l0_1 a1 l2).bind fun bt488 => ((disk_Get.f k t470 t473 a1).bind fun bt496 => ((transeptref04_Get.f k l0_0 l0_1 a1).bind fun bt500 => ((disk_Flush.f k t470 t473).bind fun bt504 => ((transeptref04_Flush.f k l0_0 l0_1).bind fun bt512 => ((disk_Rot.f k t470 t473 a1 a3 a4).bind fun bt520 => ((transeptref04_Rot.f k l0_0 l0_1 a1 a3 a4).bind fun bt528 => ((transeptlaw04_Alike.f k t480 t483 bt488.1 bt488.2.1).bind fun t536 => (if t536 = 0 then ((transeptlaw04_num.f t486).bind fun t537 => (if t537 = bt488.2.2 then ((transeptplain_SameBytes.f k bt496.1 bt500.1).bind fun t538 => (if t538 = true then ((transeptlaw04_num.f bt496.2).bind fun t539 => (if t539 = bt500.2 then ((transeptlaw04_Alike.f k bt504.1 bt504.2.1 bt512.1 bt512.2.1).bind fun t540 => (if t540 = 0 then ((transeptlaw04_num.f bt504.2.2).bind fun t541 => (if t541 = bt512.2.2 then ((transeptlaw04_Alike.f k bt520.1 bt520.2.1 bt528.1 bt528.2.1).bind fun t542 => (if t542 = 0 then ((transeptlaw04_num.f bt520.2.2).bind fun t543 => (transeptlaw04_DiskTells.j0 k l2 t476 (t543 != bt528.2.2) l0_0 l0_1 t470 t473)) else (transeptlaw04_DiskTells.j0 k l2 t476 true l0_0 l0_1 t470 t473))) else (transeptlaw04_DiskTells.j0 k l2 t476 true l0_0 l0_1 t470 t473))) else (transeptlaw04_DiskTells.j0 k l2 t476 true l0_0 l0_1 t470 t473))) else (transeptlaw04_DiskTells.j0 k l2 t476 true l0_0 l0_1 t470 t473))) else (transeptlaw04_DiskTells.j0 k l2 t476 true l0_0 l0_1 t470 t473))) else (transeptlaw04_DiskTells.j0 k l2 t476 true l0_0 l0_1 t470 t473))) else (transeptlaw04_DiskTells.j0 k l2 t476 true l0_0 l0_1 t470 t473)))))))))) = some r := H
 have A8 := Aside0.mk A80
 clear A80
 replace H := Option.bind_eq_some_iff.mp H
 obtain ⟨⟨t488, t491, t494⟩, A90, H⟩ := H
 replace H : ((disk_Get.f k t470 t473 a1).bind fun bt496 => ((transeptref04_Get.f k l0_0 l0_1 a1).bind fun bt500 => ((disk_Flush.f k t470 t473).bind fun bt504 => ((transeptref04_Flush.f k l0_0 l0_1).bind fun bt512 => ((disk_Rot.f k t470 t473 a1 a3 a4).bind fun bt520 => ((transeptref04_Rot.f k l0_0 l0_1 a1 a3 a4).bind fun bt528 => ((transeptlaw04_Alike.f k t480 t483 t488 t491).bind fun t536 => (if t536 = 0 then ((transeptlaw04_num.f t486).bind fun t537 => (if t537 = t494 then ((transeptplain_SameBytes.f k bt496.1 bt500.1).bind fun t538 => (if t538 = true then ((transeptlaw04_num.f bt496.2).bind fun t539 => (if t539 = bt500.2 then ((transeptlaw04_Alike.f k bt504.1 bt504.2.1 bt512.1 bt512.2.1).bind fun t540 => (if t540 = 0 then ((transeptlaw04_num.f bt504.2.2).bind fun t541 => (if t541 = bt512.2.2 then ((transeptlaw04_Alike.f k bt520.1 bt520.2.1 bt528.1 bt528.2.1).bind fun t542 => (if t542 = 0 then ((transeptlaw04_num.f bt520.2.2).bind fun t543 => (transeptlaw04_DiskTells.j0 k l2 t476 (t543 != bt528.2.2) l0_0 l0_1 t470 t473)) else (transeptlaw04_DiskTells.j0 k l2 t476 true l0_0 l0_1 t470 t473))) else (transeptlaw04_DiskTells.j0 k l2 t476 true l0_0 l0_1 t470 t473))) else (transeptlaw04_DiskTells.j0 k l2 t476 true l0_0 l0_1 t470 t473))) else (transeptlaw04_DiskTells.j0 k l2 t476 true l0_0 l0_1 t470 t473))) else (transeptlaw04_DiskTells.j0 k l2 t476 true l0_0 l0_1 t470 t473))) else (transeptlaw04_DiskTells.j0 k l2 t476 true l0_0 l0_1 t470 t473))) else (transeptlaw04_DiskTells.j0 k l2 t476 true l0_0 l0_1 t470 t473))))))))) = some r := H
 have A9 := Aside0.mk A90
 clear A90
 replace H := Option.bind_eq_some_iff.mp H
 obtain ⟨⟨t496, t499⟩, A100, H⟩ := H
 replace H : ((transeptref04_Get.f k l0_0 l0_1 a1).bind fun bt500 => ((disk_Flush.f k t470 t473).bind fun bt504 => ((transeptref04_Flush.f k l0_0 l0_1).bind fun bt512 => ((disk_Rot.f k t470 t473 a1 a3 a4).bind fun bt520 => ((transeptref04_Rot.f k l0_0 l0_1 a1 a3 a4).bind fun bt528 => ((transeptlaw04_Alike.f k t480 t483 t488 t491).bind fun t536 => (if t536 = 0 then ((transeptlaw04_num.f t486).bind fun t537 => (if t537 = t494 then ((transeptplain_SameBytes.f k t496 bt500.1).bind fun t538 => (if t538 = true then ((transeptlaw04_num.f t499).bind fun t539 => (if t539 = bt500.2 then ((transeptlaw04_Alike.f k bt504.1 bt504.2.1 bt512.1 bt512.2.1).bind fun t540 => (if t540 = 0 then ((transeptlaw04_num.f bt504.2.2).bind fun t541 => (if t541 = bt512.2.2 then ((transeptlaw04_Alike.f k bt520.1 bt520.2.1 bt528.1 bt528.2.1).bind fun t542 => (if t542 = 0 then ((transeptlaw04_num.f bt520.2.2).bind fun t543 => (transeptlaw04_DiskTells.j0 k l2 t476 (t543 != bt528.2.2) l0_0 l0_1 t470 t473)) else (transeptlaw04_DiskTells.j0 k l2 t476 true l0_0 l0_1 t470 t473))) else (transeptlaw04_DiskTells.j0 k l2 t476 true l0_0 l0_1 t470 t473))) else (transeptlaw04_DiskTells.j0 k l2 t476 true l0_0 l0_1 t470 t473))) else (transeptlaw04_DiskTells.j0 k l2 t476 true l0_0 l0_1 t470 t473))) else (transeptlaw04_DiskTells.j0 k l2 t476 true l0_0 l0_1 t470 t473))) else (transeptlaw04_DiskTells.j0 k l2 t476 true l0_0 l0_1 t470 t473))) else (transeptlaw04_DiskTells.j0 k l2 t476 true l0_0 l0_1 t470 t473)))))))) = some r := H
 have A10 := Aside0.mk A100
 clear A100
 replace H := Option.bind_eq_some_iff.mp H
 obtain ⟨⟨t500, t503⟩, A110, H⟩ := H
 replace H : ((disk_Flush.f k t470 t473).bind fun bt504 => ((transeptref04_Flush.f k l0_0 l0_1).bind fun bt512 => ((disk_Rot.f k t470 t473 a1 a3 a4).bind fun bt520 => ((transeptref04_Rot.f k l0_0 l0_1 a1 a3 a4).bind fun bt528 => ((transeptlaw04_Alike.f k t480 t483 t488 t491).bind fun t536 => (if t536 = 0 then ((transeptlaw04_num.f t486).bind fun t537 => (if t537 = t494 then ((transeptplain_SameBytes.f k t496 t500).bind fun t538 => (if t538 = true then ((transeptlaw04_num.f t499).bind fun t539 => (if t539 = t503 then ((transeptlaw04_Alike.f k bt504.1 bt504.2.1 bt512.1 bt512.2.1).bind fun t540 => (if t540 = 0 then ((transeptlaw04_num.f bt504.2.2).bind fun t541 => (if t541 = bt512.2.2 then ((transeptlaw04_Alike.f k bt520.1 bt520.2.1 bt528.1 bt528.2.1).bind fun t542 => (if t542 = 0 then ((transeptlaw04_num.f bt520.2.2).bind fun t543 => (transeptlaw04_DiskTells.j0 k l2 t476 (t543 != bt528.2.2) l0_0 l0_1 t470 t473)) else (transeptlaw04_DiskTells.j0 k l2 t476 true l0_0 l0_1 t470 t473))) else (transeptlaw04_DiskTells.j0 k l2 t476 true l0_0 l0_1 t470 t473))) else (transeptlaw04_DiskTells.j0 k l2 t476 true l0_0 l0_1 t470 t473))) else (transeptlaw04_DiskTells.j0 k l2 t476 true l0_0 l0_1 t470 t473))) else (transeptlaw04_DiskTells.j0 k l2 t476 true l0_0 l0_1 t470 t473))) else (transeptlaw04_DiskTells.j0 k l2 t476 true l0_0 l0_1 t470 t473))) else (transeptlaw04_DiskTells.j0 k l2 t476 true l0_0 l0_1 t470 t473))))))) = some r := H
 have A11 := Aside0.mk A110
 clear A110
 replace H := Option.bind_eq_some_iff.mp H
 obtain ⟨⟨t504, t507, t510⟩, A120, H⟩ := H
 replace H : ((transeptref04_Flush.f k l0_0 l0_1).bind fun bt512 => ((disk_Rot.f k t470 t473 a1 a3 a4).bind fun bt520 => ((transeptref04_Rot.f k l0_0 l0_1 a1 a3 a4).bind fun bt528 => ((transeptlaw04_Alike.f k t480 t483 t488 t491).bind fun t536 => (if t536 = 0 then ((transeptlaw04_num.f t486).bind fun t537 => (if t537 = t494 then ((transeptplain_SameBytes.f k t496 t500).bind fun t538 => (if t538 = true then ((transeptlaw04_num.f t499).bind fun t539 => (if t539 = t503 then ((transeptlaw04_Alike.f k t504 t507 bt512.1 bt512.2.1).bind fun t540 => (if t540 = 0 then ((transeptlaw04_num.f t510).bind fun t541 => (if t541 = bt512.2.2 then ((transeptlaw04_Alike.f k bt520.1 bt520.2.1 bt528.1 bt528.2.1).bind fun t542 => (if t542 = 0 then ((transeptlaw04_num.f bt520.2.2).bind fun t543 => (transeptlaw04_DiskTells.j0 k l2 t476 (t543 != bt528.2.2) l0_0 l0_1 t470 t473)) else (transeptlaw04_DiskTells.j0 k l2 t476 true l0_0 l0_1 t470 t473))) else (transeptlaw04_DiskTells.j0 k l2 t476 true l0_0 l0_1 t470 t473))) else (transeptlaw04_DiskTells.j0 k l2 t476 true l0_0 l0_1 t470 t473))) else (transeptlaw04_DiskTells.j0 k l2 t476 true l0_0 l0_1 t470 t473))) else (transeptlaw04_DiskTells.j0 k l2 t476 true l0_0 l0_1 t470 t473))) else (transeptlaw04_DiskTells.j0 k l2 t476 true l0_0 l0_1 t470 t473))) else (transeptlaw04_DiskTells.j0 k l2 t476 true l0_0 l0_1 t470 t473)))))) = some r := H
 have A12 := Aside0.mk A120
 clear A120
 replace H := Option.bind_eq_some_iff.mp H
 obtain ⟨⟨t512, t515, t518⟩, A130, H⟩ := H
 replace H : ((disk_Rot.f k t470 t473 a1 a3 a4).bind fun bt520 => ((transeptref04_Rot.f k l0_0 l0_1 a1 a3 a4).bind fun bt528 => ((transeptlaw04_Alike.f k t480 t483 t488 t491).bind fun t536 => (if t536 = 0 then ((transeptlaw04_num.f t486).bind fun t537 => (if t537 = t494 then ((transeptplain_SameBytes.f k t496 t500).bind fun t538 => (if t538 = true then ((transeptlaw04_num.f t499).bind fun t539 => (if t539 = t503 then ((transeptlaw04_Alike.f k t504 t507 t512 t515).bind fun t540 => (if t540 = 0 then ((transeptlaw04_num.f t510).bind fun t541 => (if t541 = t518 then ((transeptlaw04_Alike.f k bt520.1 bt520.2.1 bt528.1 bt528.2.1).bind fun t542 => (if t542 = 0 then ((transeptlaw04_num.f bt520.2.2).bind fun t543 => (transeptlaw04_DiskTells.j0 k l2 t476 (t543 != bt528.2.2) l0_0 l0_1 t470 t473)) else (transeptlaw04_DiskTells.j0 k l2 t476 true l0_0 l0_1 t470 t473))) else (transeptlaw04_DiskTells.j0 k l2 t476 true l0_0 l0_1 t470 t473))) else (transeptlaw04_DiskTells.j0 k l2 t476 true l0_0 l0_1 t470 t473))) else (transeptlaw04_DiskTells.j0 k l2 t476 true l0_0 l0_1 t470 t473))) else (transeptlaw04_DiskTells.j0 k l2 t476 true l0_0 l0_1 t470 t473))) else (transeptlaw04_DiskTells.j0 k l2 t476 true l0_0 l0_1 t470 t473))) else (transeptlaw04_DiskTells.j0 k l2 t476 true l0_0 l0_1 t470 t473))))) = some r := H
 have A13 := Aside0.mk A130
 clear A130
 replace H := Option.bind_eq_some_iff.mp H
 obtain ⟨⟨t520, t523, t526⟩, A140, H⟩ := H
 replace H : ((transeptref04_Rot.f k l0_0 l0_1 a1 a3 a4).bind fun bt528 => ((transeptlaw04_Alike.f k t480 t483 t488 t491).bind fun t536 => (if t536 = 0 then ((transeptlaw04_num.f t486).bind fun t537 => (if t537 = t494 then ((transeptplain_SameBytes.f k t496 t500).bind fun t538 => (if t538 = true then ((transeptlaw04_num.f t499).bind fun t539 => (if t539 = t503 then ((transeptlaw04_Alike.f k t504 t507 t512 t515).bind fun t540 => (if t540 = 0 then ((transeptlaw04_num.f t510).bind fun t541 => (if t541 = t518 then ((transeptlaw04_Alike.f k t520 t523 bt528.1 bt528.2.1).bind fun t542 => (if t542 = 0 then ((transeptlaw04_num.f t526).bind fun t543 => (transeptlaw04_DiskTells.j0 k l2 t476 (t543 != bt528.2.2) l0_0 l0_1 t470 t473)) else (transeptlaw04_DiskTells.j0 k l2 t476 true l0_0 l0_1 t470 t473))) else (transeptlaw04_DiskTells.j0 k l2 t476 true l0_0 l0_1 t470 t473))) else (transeptlaw04_DiskTells.j0 k l2 t476 true l0_0 l0_1 t470 t473))) else (transeptlaw04_DiskTells.j0 k l2 t476 true l0_0 l0_1 t470 t473))) else (transeptlaw04_DiskTells.j0 k l2 t476 true l0_0 l0_1 t470 t473))) else (transeptlaw04_DiskTells.j0 k l2 t476 true l0_0 l0_1 t470 t473))) else (transeptlaw04_DiskTells.j0 k l2 t476 true l0_0 l0_1 t470 t473)))) = some r := H
 have A14 := Aside0.mk A140
 clear A140
 replace H := Option.bind_eq_some_iff.mp H
 obtain ⟨⟨t528, t531, t534⟩, A150, H⟩ := H
 replace H : ((transeptlaw04_Alike.f k t480 t483 t488 t491).bind fun t536 => (if t536 = 0 then ((transeptlaw04_num.f t486).bind fun t537 => (if t537 = t494 then ((transeptplain_SameBytes.f k t496 t500).bind fun t538 => (if t538 = true then ((transeptlaw04_num.f t499).bind fun t539 => (if t539 = t503 then ((transeptlaw04_Alike.f k t504 t507 t512 t515).bind fun t540 => (if t540 = 0 then ((transeptlaw04_num.f t510).bind fun t541 => (if t541 = t518 then ((transeptlaw04_Alike.f k t520 t523 t528 t531).bind fun t542 => (if t542 = 0 then ((transeptlaw04_num.f t526).bind fun t543 => (transeptlaw04_DiskTells.j0 k l2 t476 (t543 != t534) l0_0 l0_1 t470 t473)) else (transeptlaw04_DiskTells.j0 k l2 t476 true l0_0 l0_1 t470 t473))) else (transeptlaw04_DiskTells.j0 k l2 t476 true l0_0 l0_1 t470 t473))) else (transeptlaw04_DiskTells.j0 k l2 t476 true l0_0 l0_1 t470 t473))) else (transeptlaw04_DiskTells.j0 k l2 t476 true l0_0 l0_1 t470 t473))) else (transeptlaw04_DiskTells.j0 k l2 t476 true l0_0 l0_1 t470 t473))) else (transeptlaw04_DiskTells.j0 k l2 t476 true l0_0 l0_1 t470 t473))) else (transeptlaw04_DiskTells.j0 k l2 t476 true l0_0 l0_1 t470 t473))) = some r := H
 have A15 := Aside0.mk A150
 clear A150
 have HC16 := Aside0.mk H
 clear H
 go_enter Try.func11, Try.ntmps11
 go_upto_region 10 with (first | ((with_reducible refine gate_dst (N := 5) rfl ?_); refine box_event ?hg (N := 5) ?hd (cs := #[.slice A0_0 l0_0.length c0_0, .slice A0_1 l0_1.length c0_1]) (t := 42) ?hr ?_; (case hd => rfl); (case hg => rfl); (case hr => first | (go_simp; done) | (go_simp; rfl)); intro gb469 hg w17 hbox hb; have n0_ := Aside0.mk (below_step (by repeat (first | (with_reducible first | exact HB.out | apply below_alloc | apply pw_below_drewN | apply below_drew1) | exact HB.out)) hb); have n1_ := Aside0.mk (hbox); have n2_ := Aside0.mk ((by rw [hg]; exact (below_size (by repeat (first | (with_reducible first | exact HB.out | apply below_alloc | apply pw_below_drewN | apply below_drew1) | exact HB.out))) : w.heap.size ≤ gb469)); have n3_ := Aside0.mk ((by rw [hg]; exact (below_size (by repeat (first | (with_reducible first | exact HB.out | apply below_alloc | apply pw_below_drewN | apply below_drew1) | exact HB.out))) : w.heap.size ≤ gb469)); clear HB; have HB := n0_; have BK469 := n1_; have GW469 := n2_; have GE469 := n3_; clear n0_ n1_ n2_ n3_; clear hb hbox hg; have hcz18_0 : w17.cell? ⟨gb469, 0, none⟩ = some (.slice A0_0 l0_0.length c0_0) := (blk_cell BK469.out 0).trans rfl; have hcz18_1 : w17.cell? ⟨gb469, 1, none⟩ = some (.slice A0_1 l0_1.length c0_1) := (blk_cell BK469.out 1).trans rfl; have hfz18_0 := blk_frozen BK469.out 0; have hfz18_1 := blk_frozen BK469.out 1) | ((with_reducible refine gate_callee (f := 21) rfl ?_); refine goesL_ (some 30) rfl rfl Try.func21 (by kernel_rfl) rfl #[.agg #[.slice A0_0 l0_0.length c0_0, .slice A0_1 l0_1.length c0_1]] rfl (by (try simp only [List.map_toArray, List.map_cons, List.map_nil]); first | done | rfl | (simp only [List.length_drop, List.length_take]; rfl)) ?_; (with_reducible refine (transeptlaw04_Of.calls k _ _ l0_0 _ _ l0_1 t470 t473 _ ?side1 ?side2 ?side3 ?side4 A6.out).mono ?_); (case side1 => repeat (first | exact (Kd.C_below HR0_0.out HB.out) | (with_reducible refine Kd.C_alloc ?_ _) | (with_reducible refine Kd.C_drewN ?_ _) | (with_reducible refine Kd.C_drew ?_))); (case side2 => exact HC0_0.out); (case side3 => repeat (first | exact (Kd.C_below HR0_1.out HB.out) | (with_reducible refine Kd.C_alloc ?_ _) | (with_reducible refine Kd.C_drewN ?_ _) | (with_reducible refine Kd.C_drew ?_))); (case side4 => exact HC0_1.out); rintro e w19 ⟨v471, v474, rfl, ho0, ho1, hb⟩; refine ⟨_, rfl, ?_⟩; have n0_ := Aside0.mk (Kd.S_lower ho0 (below_size (by repeat (first | (with_reducible first | exact HB.out | apply below_alloc | apply pw_below_drewN | apply below_drew1 | refine below_set ?_ GE469.out) | exact HB.out)))); have n1_ := Aside0.mk (Kd.S_lower ho1 (below_size (by repeat (first | (with_reducible first | exact HB.out | apply below_alloc | apply pw_below_drewN | apply below_drew1 | refine below_set ?_ GE469.out) | exact HB.out)))); have n2_ := Aside0.mk (blk_below (g := gb469) (o := .cells #[.slice A0_0 l0_0.length c0_0, .slice A0_1 l0_1.length c0_1] 42 (0, 0)) (BU BK469.out) hb); have n3_ := Aside0.mk (below_step (by repeat (first | (with_reducible first | exact HB.out | apply below_alloc | apply pw_below_drewN | apply below_drew1 | refine below_set ?_ GE469.out) | exact HB.out)) hb); clear BK469; clear HB; have HO472 := n0_; have HO475 := n1_; have BK469 := n2_; have HB := n3_; clear n0_ n1_ n2_ n3_; (try clear hb); (try clear hb2); (try clear hk); (try clear hi); (try clear ho0); (try clear ho1)) | ((with_reducible refine gate_callee (f := 29) rfl ?_); refine goesL_ (some 32) rfl rfl Try.func29 (by kernel_rfl) rfl #[.slice A2 l2.length c2] rfl (by (try simp only [List.map_toArray, List.map_cons, List.map_nil]); first | done | rfl | (simp only [List.length_drop, List.length_take]; rfl)) ?_; (with_reducible refine (transeptplain_CopyBytes.calls _ _ l2 t476 _ ?side1 ?side2 A7.out).mono ?_); (case side1 => repeat (first | exact (Kd.C_below HR2.out HB.out) | (with_reducible refine Kd.C_alloc ?_ _) | (with_reducible refine Kd.C_drewN ?_ _) | (with_reducible refine Kd.C_drew ?_))); (case side2 => exact HC2.out); rintro e w20 ⟨v477, rfl, ho0, hb⟩; refine ⟨_, rfl, ?_⟩; have n0_ := Aside0.mk (Kd.S_elder' (SU HO472.out) (Kd.R_base ho0) hb); have n1_ := Aside0.mk (Kd.S_elder' (SU HO475.out) (Kd.R_base ho0) hb); have n2_ := Aside0.mk (Kd.R_lower ho0 (below_size (by repeat (first | (with_reducible first | exact HB.out | apply below_alloc | apply pw_below_drewN | apply below_drew1 | refine below_set ?_ GE469.out) | exact HB.out)))); have n3_ := Aside0.mk (blk_below (g := gb469) (o := .cells #[.slice A0_0 l0_0.length c0_0, .slice A0_1 l0_1.length c0_1] 42 (0, 0)) (BU BK469.out) hb); have n4_ := Aside0.mk (below_step (by repeat (first | (with_reducible first | exact HB.out | apply below_alloc | apply pw_below_drewN | apply below_drew1 | refine below_set ?_ GE469.out) | exact HB.out)) hb); clear HO472; clear HO475; clear BK469; clear HB; have HO472 := n0_; have HO475 := n1_; have HO478 := n2_; have BK469 := n3_; have HB := n4_; clear n0_ n1_ n2_ n3_ n4_; (try clear hb); (try clear hb2); (try clear hk); (try clear hi); (try clear ho0)) | ((with_reducible refine gate_dst (N := 11) rfl ?_); refine box_event ?hg (N := 11) ?hd (cs := #[.slice none 0 0, .slice none 0 0]) (t := 28) ?hr ?_; (case hd => rfl); (case hg => rfl); (case hr => first | (go_simp; done) | (go_simp; rfl)); intro gb479 hg w21 hbox hb; have n0_ := Aside0.mk (Kd.S_below (SU HO472.out) hb); have n1_ := Aside0.mk (Kd.S_below (SU HO475.out) hb); have n2_ := Aside0.mk (Kd.R_below (RU HO478.out) hb); have n3_ := Aside0.mk (blk_below (g := gb469) (o := .cells #[.slice A0_0 l0_0.length c0_0, .slice A0_1 l0_1.length c0_1] 42 (0, 0)) (BU BK469.out) hb); have n4_ := Aside0.mk (below_step (by repeat (first | (with_reducible first | exact HB.out | apply below_alloc | apply pw_below_drewN | apply below_drew1 | refine below_set ?_ GE469.out) | exact HB.out)) hb); have n5_ := Aside0.mk (hbox); have n6_ := Aside0.mk ((by rw [hg]; exact (below_size (by repeat (first | (with_reducible first | exact HB.out | apply below_alloc | apply pw_below_drewN | apply below_drew1 | refine below_set ?_ GE469.out) | exact HB.out))) : w.heap.size ≤ gb479)); have n7_ := Aside0.mk ((by rw [hg]; exact (below_size (by repeat (first | (with_reducible first | exact HB.out | apply below_alloc | apply pw_below_drewN | apply below_drew1 | refine below_set ?_ GE469.out) | exact HB.out))) : w.heap.size ≤ gb479)); have n8_ := Aside0.mk ((by rw [hg]; exact Nat.ne_of_lt (blk_lt (g := gb469) (o := .cells #[.slice A0_0 l0_0.length c0_0, .slice A0_1 l0_1.length c0_1] 42 (0, 0)) (BU BK469.out)) : gb469 ≠ gb479)); have n9_ := Aside0.mk ((by rw [hg]; exact Nat.ne_of_gt (blk_lt (g := gb469) (o := .cells #[.slice A0_0 l0_0.length c0_0, .slice A0_1 l0_1.length c0_1] 42 (0, 0)) (BU BK469.out)) : gb479 ≠ gb469)); clear HO472; clear HO475; clear HO478; clear BK469; clear HB; have HO472 := n0_; have HO475 := n1_; have HO478 := n2_; have BK469 := n3_; have HB := n4_; have BK479 := n5_; have GW479 := n6_; have GE479 := n7_; have NB469_479 := n8_; have NB479_469 := n9_; clear n0_ n1_ n2_ n3_ n4_ n5_ n6_ n7_ n8_ n9_; clear hb hbox hg; obtain ⟨Ao22, co22, eo22⟩ := Kd.S_slice HO472.out; subst eo22; have hnb23 := NB479_469.out; have hnc23 := NB469_479.out; have hcz24_0 : w21.cell? ⟨gb479, 0, none⟩ = some (.slice none 0 0) := (blk_cell BK479.out 0).trans rfl; have hcz24_1 : w21.cell? ⟨gb479, 1, none⟩ = some (.slice none 0 0) := (blk_cell BK479.out 1).trans rfl; have hfz24_0 := blk_frozen BK479.out 0; have hfz24_1 := blk_frozen BK479.out 1; obtain ⟨Ao25, co25, eo25⟩ := Kd.S_slice HO475.out; subst eo25; obtain ⟨Ao26, co26, eo26⟩ := Kd.R_slice HO478.out; subst eo26) | ((with_reducible refine gate_callee (f := 30) rfl ?_); refine goesL_ (some 37) rfl rfl Try.func30 (by kernel_rfl) rfl #[.agg #[.slice Ao22 t470.length co22, .slice Ao25 t473.length co25], .int .i64 a1, .slice Ao26 t476.length co26] rfl (by (try simp only [List.map_toArray, List.map_cons, List.map_nil]); first | done | rfl | (simp only [List.length_drop, List.length_take]; rfl)) ?_; (with_reducible refine (disk_Put.calls k _ _ t470 _ _ t473 a1 _ _ t476 t480 t483 t486 _ ?side1 ?side2 ?side3 ?side4 ?side5 ?side6 A8.out).mono ?_); (case side1 => refine (Kd.S_reads' (e := 50) (base := w.heap.size) (ok := fun k_ => (True ∧ some k_ ≠ (.slice Ao26 t476.length co26 : Value).ownBlock)) (n := t470.length) (c := co22) ?_).2.2; exact (by (with_reducible repeat (first | apply Kd.S_alloc | apply Kd.S_drewN | apply Kd.S_drew)); exact (Kd.S_mono (Kd.S_far (p := ⟨gb479, 1, none⟩) (Kd.S_far (p := ⟨gb479, 0, none⟩) (Kd.S_types HO472.out BK479.out (by decide)) (fun _ hk => hk.2) (.slice Ao22 t470.length co22)) (fun _ hk => hk.2) (.slice Ao25 t473.length co25)) (fun _ h_ => h_.1)))); (case side2 => exact (Kd.S_reads' HO472.out).2.1); (case side3 => refine (Kd.S_reads' (e := 61) (base := w.heap.size) (ok := fun k_ => (True ∧ some k_ ≠ (.slice Ao26 t476.length co26 : Value).ownBlock)) (n := t473.length) (c := co25) ?_).2.2; exact (by (with_reducible repeat (first | apply Kd.S_alloc | apply Kd.S_drewN | apply Kd.S_drew)); exact (Kd.S_mono (Kd.S_far (p := ⟨gb479, 1, none⟩) (Kd.S_far (p := ⟨gb479, 0, none⟩) (Kd.S_types HO475.out BK479.out (by decide)) (fun _ hk => hk.2) (.slice Ao22 t470.length co22)) (fun _ hk => hk.2) (.slice Ao25 t473.length co25)) (fun _ h_ => h_.1)))); (case side4 => exact (Kd.S_reads' HO475.out).2.1); (case side5 => refine (Kd.R_reads' (e := 5) (base := w.heap.size) (ok := fun k_ => True) (n := t476.length) (c := co26) ?_).2.2; exact (by (with_reducible repeat (first | apply Kd.R_alloc | apply Kd.R_drewN | apply Kd.R_drew)); exact (Kd.R_mono (Kd.R_far (p := ⟨gb479, 1, none⟩) (Kd.R_far (p := ⟨gb479, 0, none⟩) (Kd.R_types HO478.out BK479.out (by decide)) (fun _ hk => hk.2) (.slice Ao22 t470.length co22)) (fun _ hk => hk.2) (.slice Ao25 t473.length co25)) (fun _ h_ => h_.1)))); (case side6 => exact (Kd.R_reads' HO478.out).2.1); rintro e w27 ⟨v481, v484, rfl, ho0, ho1, hb⟩; refine ⟨_, rfl, ?_⟩; have n0_ := Aside0.mk (Kd.S_elder' (by (with_reducible repeat (first | apply Kd.S_alloc | apply Kd.S_drewN | apply Kd.S_drew)); exact (Kd.S_mono (Kd.S_far (p := ⟨gb479, 1, none⟩) (Kd.S_far (p := ⟨gb479, 0, none⟩) (Kd.S_types HO472.out BK479.out (by decide)) (fun _ hk => hk.2) (.slice Ao22 t470.length co22)) (fun _ hk => hk.2) (.slice Ao25 t473.length co25)) (fun _ h_ => h_.1))) (Kd.S_base ho0) hb); have n1_ := Aside0.mk (Kd.S_elder' (by (with_reducible repeat (first | apply Kd.S_alloc | apply Kd.S_drewN | apply Kd.S_drew)); exact (Kd.S_mono (Kd.S_far (p := ⟨gb479, 1, none⟩) (Kd.S_far (p := ⟨gb479, 0, none⟩) (Kd.S_types HO475.out BK479.out (by decide)) (fun _ hk => hk.2) (.slice Ao22 t470.length co22)) (fun _ hk => hk.2) (.slice Ao25 t473.length co25)) (fun _ h_ => h_.1))) (Kd.S_base ho1) hb); have n2_ := Aside0.mk (Kd.R_below (by (with_reducible repeat (first | apply Kd.R_alloc | apply Kd.R_drewN | apply Kd.R_drew)); exact (Kd.R_mono (Kd.R_far (p := ⟨gb479, 1, none⟩) (Kd.R_far (p := ⟨gb479, 0, none⟩) (Kd.R_types HO478.out BK479.out (by decide)) (fun _ hk => hk.2) (.slice Ao22 t470.length co22)) (fun _ hk => hk.2) (.slice Ao25 t473.length co25)) (fun _ h_ => h_.1))) hb); have n3_ := Aside0.mk (Kd.S_lower (Kd.S_new' (Kd.S_new' ho0 (Kd.S_lt (by (with_reducible repeat (first | apply Kd.S_alloc | apply Kd.S_drewN | apply Kd.S_drew)); exact (Kd.S_mono (Kd.S_far (p := ⟨gb479, 1, none⟩) (Kd.S_far (p := ⟨gb479, 0, none⟩) (Kd.S_types HO472.out BK479.out (by decide)) (fun _ hk => hk.2) (.slice Ao22 t470.length co22)) (fun _ hk => hk.2) (.slice Ao25 t473.length co25)) (fun _ h_ => h_.1))))) (Kd.R_lt (by (with_reducible repeat (first | apply Kd.R_alloc | apply Kd.R_drewN | apply Kd.R_drew)); exact (Kd.R_mono (Kd.R_far (p := ⟨gb479, 1, none⟩) (Kd.R_far (p := ⟨gb479, 0, none⟩) (Kd.R_types HO478.out BK479.out (by decide)) (fun _ hk => hk.2) (.slice Ao22 t470.length co22)) (fun _ hk => hk.2) (.slice Ao25 t473.length co25)) (fun _ h_ => h_.1))))) (below_size (by repeat (first | (with_reducible first | exact HB.out | apply below_alloc | apply pw_below_drewN | apply below_drew1 | refine below_set ?_ GE469.out | refine below_set ?_ GE479.out) | exact HB.out)))); have n4_ := Aside0.mk (Kd.S_lower (Kd.S_new' (Kd.S_new' ho1 (Kd.S_lt (by (with_reducible repeat (first | apply Kd.S_alloc | apply Kd.S_drewN | apply Kd.S_drew)); exact (Kd.S_mono (Kd.S_far (p := ⟨gb479, 1, none⟩) (Kd.S_far (p := ⟨gb479, 0, none⟩) (Kd.S_types HO475.out BK479.out (by decide)) (fun _ hk => hk.2) (.slice Ao22 t470.length co22)) (fun _ hk => hk.2) (.slice Ao25 t473.length co25)) (fun _ h_ => h_.1))))) (Kd.R_lt (by (with_reducible repeat (first | apply Kd.R_alloc | apply Kd.R_drewN | apply Kd.R_drew)); exact (Kd.R_mono (Kd.R_far (p := ⟨gb479, 1, none⟩) (Kd.R_far (p := ⟨gb479, 0, none⟩) (Kd.R_types HO478.out BK479.out (by decide)) (fun _ hk => hk.2) (.slice Ao22 t470.length co22)) (fun _ hk => hk.2) (.slice Ao25 t473.length co25)) (fun _ h_ => h_.1))))) (below_size (by repeat (first | (with_reducible first | exact HB.out | apply below_alloc | apply pw_below_drewN | apply below_drew1 | refine below_set ?_ GE469.out | refine below_set ?_ GE479.out) | exact HB.out)))); have n5_ := Aside0.mk (blk_below (g := gb469) (o := .cells #[.slice A0_0 l0_0.length c0_0, .slice A0_1 l0_1.length c0_1] 42 (0, 0)) (by (with_reducible repeat (first | refine blk_drewN ?_ _ | refine blk_drew ?_ | refine blk_alloc ?_ _)); refine blk_far ?_ NB469_479.out _; (with_reducible repeat (first | refine blk_drewN ?_ _ | refine blk_drew ?_ | refine blk_alloc ?_ _)); refine blk_far ?_ NB469_479.out _; (with_reducible repeat (first | refine blk_drewN ?_ _ | refine blk_drew ?_ | refine blk_alloc ?_ _)); exact BK469.out) hb); have n6_ := Aside0.mk (blk_below (g := gb479) (o := .cells #[.slice Ao22 t470.length co22, .slice Ao25 t473.length co25] 28 (0, 0)) (by (with_reducible repeat (first | refine blk_drewN ?_ _ | refine blk_drew ?_ | refine blk_alloc ?_ _)); refine blk_put (cs := #[.slice Ao22 t470.length co22, .slice none 0 0]) ?_ 1 _ rfl; (with_reducible repeat (first | refine blk_drewN ?_ _ | refine blk_drew ?_ | refine blk_alloc ?_ _)); refine blk_put (cs := #[.slice none 0 0, .slice none 0 0]) ?_ 0 _ rfl; (with_reducible repeat (first | refine blk_drewN ?_ _ | refine blk_drew ?_ | refine blk_alloc ?_ _)); exact BK479.out) hb); have n7_ := Aside0.mk (below_step (by repeat (first | (with_reducible first | exact HB.out | apply below_alloc | apply pw_below_drewN | apply below_drew1 | refine below_set ?_ GE469.out | refine below_set ?_ GE479.out) | exact HB.out)) hb); clear HO472; clear HO475; clear HO478; clear BK469; clear BK479; clear HB; have HO472 := n0_; have HO475 := n1_; have HO478 := n2_; have HO482 := n3_; have HO485 := n4_; have BK469 := n5_; have BK479 := n6_; have HB := n7_; clear n0_ n1_ n2_ n3_ n4_ n5_ n6_ n7_; (try clear hb); (try clear hb2); (try clear hk); (try clear hi); (try clear ho0); (try clear ho1)) | ((with_reducible refine gate_dst (N := 13) rfl ?_); refine box_event ?hg (N := 13) ?hd (cs := #[.slice none 0 0, .slice none 0 0]) (t := 28) ?hr ?_; (case hd => rfl); (case hg => rfl); (case hr => first | (go_simp; done) | (go_simp; rfl)); intro gb487 hg w28 hbox hb; have n0_ := Aside0.mk (Kd.S_below (SU HO472.out) hb); have n1_ := Aside0.mk (Kd.S_below (SU HO475.out) hb); have n2_ := Aside0.mk (Kd.R_below (RU HO478.out) hb); have n3_ := Aside0.mk (Kd.S_below (SU HO482.out) hb); have n4_ := Aside0.mk (Kd.S_below (SU HO485.out) hb); have n5_ := Aside0.mk (blk_below (g := gb469) (o := .cells #[.slice A0_0 l0_0.length c0_0, .slice A0_1 l0_1.length c0_1] 42 (0, 0)) (BU BK469.out) hb); have n6_ := Aside0.mk (blk_below (g := gb479) (o := .cells #[.slice Ao22 t470.length co22, .slice Ao25 t473.length co25] 28 (0, 0)) (BU BK479.out) hb); have n7_ := Aside0.mk (below_step (by repeat (first | (with_reducible first | exact HB.out | apply below_alloc | apply pw_below_drewN | apply below_drew1 | refine below_set ?_ GE469.out | refine below_set ?_ GE479.out) | exact HB.out)) hb); have n8_ := Aside0.mk (hbox); have n9_ := Aside0.mk ((by rw [hg]; exact (below_size (by repeat (first | (with_reducible first | exact HB.out | apply below_alloc | apply pw_below_drewN | apply below_drew1 | refine below_set ?_ GE469.out | refine below_set ?_ GE479.out) | exact HB.out))) : w.heap.size ≤ gb487)); have n10_ := Aside0.mk ((by rw [hg]; exact (below_size (by repeat (first | (with_reducible first | exact HB.out | apply below_alloc | apply pw_below_drewN | apply below_drew1 | refine below_set ?_ GE469.out | refine below_set ?_ GE479.out) | exact HB.out))) : w.heap.size ≤ gb487)); have n11_ := Aside0.mk ((by rw [hg]; exact Nat.ne_of_lt (blk_lt (g := gb469) (o := .cells #[.slice A0_0 l0_0.length c0_0, .slice A0_1 l0_1.length c0_1] 42 (0, 0)) (BU BK469.out)) : gb469 ≠ gb487)); have n12_ := Aside0.mk ((by rw [hg]; exact Nat.ne_of_gt (blk_lt (g := gb469) (o := .cells #[.slice A0_0 l0_0.length c0_0, .slice A0_1 l0_1.length c0_1] 42 (0, 0)) (BU BK469.out)) : gb487 ≠ gb469)); have n13_ := Aside0.mk ((by rw [hg]; exact Nat.ne_of_lt (blk_lt (g := gb479) (o := .cells #[.slice Ao22 t470.length co22, .slice Ao25 t473.length co25] 28 (0, 0)) (BU BK479.out)) : gb479 ≠ gb487)); have n14_ := Aside0.mk ((by rw [hg]; exact Nat.ne_of_gt (blk_lt (g := gb479) (o := .cells #[.slice Ao22 t470.length co22, .slice Ao25 t473.length co25] 28 (0, 0)) (BU BK479.out)) : gb487 ≠ gb479)); clear HO472; clear HO475; clear HO478; clear HO482; clear HO485; clear BK469; clear BK479; clear HB; have HO472 := n0_; have HO475 := n1_; have HO478 := n2_; have HO482 := n3_; have HO485 := n4_; have BK469 := n5_; have BK479 := n6_; have HB := n7_; have BK487 := n8_; have GW487 := n9_; have GE487 := n10_; have NB469_487 := n11_; have NB487_469 := n12_; have NB479_487 := n13_; have NB487_479 := n14_; clear n0_ n1_ n2_ n3_ n4_ n5_ n6_ n7_ n8_ n9_ n10_ n11_ n12_ n13_ n14_; clear hb hbox hg; obtain ⟨Ao29, co29, eo29⟩ := Kd.S_slice HO482.out; subst eo29; have hnb30 := NB487_469.out; have hnc30 := NB469_487.out; have hnb31 := NB487_479.out; have hnc31 := NB479_487.out; have hcz32_0 : w28.cell? ⟨gb487, 0, none⟩ = some (.slice none 0 0) := (blk_cell BK487.out 0).trans rfl; have hcz32_1 : w28.cell? ⟨gb487, 1, none⟩ = some (.slice none 0 0) := (blk_cell BK487.out 1).trans rfl; have hfz32_0 := blk_frozen BK487.out 0; have hfz32_1 := blk_frozen BK487.out 1; obtain ⟨Ao33, co33, eo33⟩ := Kd.S_slice HO485.out; subst eo33; have hcz34_0 : w28.cell? ⟨gb469, 0, none⟩ = some (.slice A0_0 l0_0.length c0_0) := (blk_cell BK469.out 0).trans rfl; have hcz34_1 : w28.cell? ⟨gb469, 1, none⟩ = some (.slice A0_1 l0_1.length c0_1) := (blk_cell BK469.out 1).trans rfl; have hfz34_0 := blk_frozen BK469.out 0; have hfz34_1 := blk_frozen BK469.out 1) | ((with_reducible refine gate_callee (f := 31) rfl ?_); refine goesL_ (some 44) rfl rfl Try.func31 (by kernel_rfl) rfl #[.agg #[.slice A0_0 l0_0.length c0_0, .slice A0_1 l0_1.length c0_1], .int .i64 a1, .slice A2 l2.length c2] rfl (by (try simp only [List.map_toArray, List.map_cons, List.map_nil]); first | done | rfl | (simp only [List.length_drop, List.length_take]; rfl)) ?_; (with_reducible refine (transeptref04_Put.calls k _ _ l0_0 _ _ l0_1 a1 _ _ l2 t488 t491 t494 _ ?side1 ?side2 ?side3 ?side4 ?side5 ?side6 A9.out).mono ?_); (case side1 => exact Kd.C_below HR0_0.out (by repeat (first | (with_reducible first | exact HB.out | apply below_alloc | apply pw_below_drewN | apply below_drew1 | refine below_set ?_ GE469.out | refine below_set ?_ GE479.out | refine below_set ?_ GE487.out) | exact HB.out))); (case side2 => exact HC0_0.out); (case side3 => exact Kd.C_below HR0_1.out (by repeat (first | (with_reducible first | exact HB.out | apply below_alloc | apply pw_below_drewN | apply below_drew1 | refine below_set ?_ GE469.out | refine below_set ?_ GE479.out | refine below_set ?_ GE487.out) | exact HB.out))); (case side4 => exact HC0_1.out); (case side5 => exact Kd.C_below HR2.out (by repeat (first | (with_reducible first | exact HB.out | apply below_alloc | apply pw_below_drewN | apply below_drew1 | refine below_set ?_ GE469.out | refine below_set ?_ GE479.out | refine below_set ?_ GE487.out) | exact HB.out))); (case side6 => exact HC2.out); rintro e w35 ⟨v489, v492, rfl, ho0, ho1, hb⟩; refine ⟨_, rfl, ?_⟩; have n0_ := Aside0.mk (Kd.S_elder' (by (with_reducible repeat (first | apply Kd.S_alloc | apply Kd.S_drewN | apply Kd.S_drew)); exact (Kd.S_mono (Kd.S_far (p := ⟨gb487, 1, none⟩) (Kd.S_far (p := ⟨gb487, 0, none⟩) (Kd.S_types HO472.out BK487.out (by decide)) (fun _ hk => hk.2) (.slice Ao29 t480.length co29)) (fun _ hk => hk.2) (.slice Ao33 t483.length co33)) (fun _ h_ => h_.1))) (Kd.S_base ho0) hb); have n1_ := Aside0.mk (Kd.S_below (by (with_reducible repeat (first | apply Kd.S_alloc | apply Kd.S_drewN | apply Kd.S_drew)); exact (Kd.S_mono (Kd.S_far (p := ⟨gb487, 1, none⟩) (Kd.S_far (p := ⟨gb487, 0, none⟩) (Kd.S_types HO475.out BK487.out (by decide)) (fun _ hk => hk.2) (.slice Ao29 t480.length co29)) (fun _ hk => hk.2) (.slice Ao33 t483.length co33)) (fun _ h_ => h_.1))) hb); have n2_ := Aside0.mk (Kd.R_below (by (with_reducible repeat (first | apply Kd.R_alloc | apply Kd.R_drewN | apply Kd.R_drew)); exact (Kd.R_mono (Kd.R_far (p := ⟨gb487, 1, none⟩) (Kd.R_far (p := ⟨gb487, 0, none⟩) (Kd.R_types HO478.out BK487.out (by decide)) (fun _ hk => hk.2) (.slice Ao29 t480.length co29)) (fun _ hk => hk.2) (.slice Ao33 t483.length co33)) (fun _ h_ => h_.1))) hb); have n3_ := Aside0.mk (Kd.S_elder' (by (with_reducible repeat (first | apply Kd.S_alloc | apply Kd.S_drewN | apply Kd.S_drew)); exact (Kd.S_mono (Kd.S_far (p := ⟨gb487, 1, none⟩) (Kd.S_far (p := ⟨gb487, 0, none⟩) (Kd.S_types HO482.out BK487.out (by decide)) (fun _ hk => hk.2) (.slice Ao29 t480.length co29)) (fun _ hk => hk.2) (.slice Ao33 t483.length co33)) (fun _ h_ => h_.1))) (Kd.S_base ho0) hb); have n4_ := Aside0.mk (Kd.S_below (by (with_reducible repeat (first | apply Kd.S_alloc | apply Kd.S_drewN | apply Kd.S_drew)); exact (Kd.S_mono (Kd.S_far (p := ⟨gb487, 1, none⟩) (Kd.S_far (p := ⟨gb487, 0, none⟩) (Kd.S_types HO485.out BK487.out (by decide)) (fun _ hk => hk.2) (.slice Ao29 t480.length co29)) (fun _ hk => hk.2) (.slice Ao33 t483.length co33)) (fun _ h_ => h_.1))) hb); have n5_ := Aside0.mk (Kd.S_lower (Kd.S_new' (Kd.S_new' (Kd.S_new' ho0 (Kd.S_lt (by (with_reducible repeat (first | apply Kd.S_alloc | apply Kd.S_drewN | apply Kd.S_drew)); exact (Kd.S_mono (Kd.S_far (p := ⟨gb487, 1, none⟩) (Kd.S_far (p := ⟨gb487, 0, none⟩) (Kd.S_types HO472.out BK487.out (by decide)) (fun _ hk => hk.2) (.slice Ao29 t480.length co29)) (fun _ hk => hk.2) (.slice Ao33 t483.length co33)) (fun _ h_ => h_.1))))) (Kd.R_lt (by (with_reducible repeat (first | apply Kd.R_alloc | apply Kd.R_drewN | apply Kd.R_drew)); exact (Kd.R_mono (Kd.R_far (p := ⟨gb487, 1, none⟩) (Kd.R_far (p := ⟨gb487, 0, none⟩) (Kd.R_types HO478.out BK487.out (by decide)) (fun _ hk => hk.2) (.slice Ao29 t480.length co29)) (fun _ hk => hk.2) (.slice Ao33 t483.length co33)) (fun _ h_ => h_.1))))) (Kd.S_lt (by (with_reducible repeat (first | apply Kd.S_alloc | apply Kd.S_drewN | apply Kd.S_drew)); exact (Kd.S_mono (Kd.S_far (p := ⟨gb487, 1, none⟩) (Kd.S_far (p := ⟨gb487, 0, none⟩) (Kd.S_types HO482.out BK487.out (by decide)) (fun _ hk => hk.2) (.slice Ao29 t480.length co29)) (fun _ hk => hk.2) (.slice Ao33 t483.length co33)) (fun _ h_ => h_.1))))) (below_size (by repeat (first | (with_reducible first | exact HB.out | apply below_alloc | apply pw_below_drewN | apply below_drew1 | refine below_set ?_ GE469.out | refine below_set ?_ GE479.out | refine below_set ?_ GE487.out) | exact HB.out)))); have n6_ := Aside0.mk (Kd.S_lower (Kd.S_new' ho1 (Kd.R_lt (by (with_reducible repeat (first | apply Kd.R_alloc | apply Kd.R_drewN | apply Kd.R_drew)); exact (Kd.R_mono (Kd.R_far (p := ⟨gb487, 1, none⟩) (Kd.R_far (p := ⟨gb487, 0, none⟩) (Kd.R_types HO478.out BK487.out (by decide)) (fun _ hk => hk.2) (.slice Ao29 t480.length co29)) (fun _ hk => hk.2) (.slice Ao33 t483.length co33)) (fun _ h_ => h_.1))))) (below_size (by repeat (first | (with_reducible first | exact HB.out | apply below_alloc | apply pw_below_drewN | apply below_drew1 | refine below_set ?_ GE469.out | refine below_set ?_ GE479.out | refine below_set ?_ GE487.out) | exact HB.out)))); have n7_ := Aside0.mk (blk_below (g := gb469) (o := .cells #[.slice A0_0 l0_0.length c0_0, .slice A0_1 l0_1.length c0_1] 42 (0, 0)) (by (with_reducible repeat (first | refine blk_drewN ?_ _ | refine blk_drew ?_ | refine blk_alloc ?_ _)); refine blk_far ?_ NB469_487.out _; (with_reducible repeat (first | refine blk_drewN ?_ _ | refine blk_drew ?_ | refine blk_alloc ?_ _)); refine blk_far ?_ NB469_487.out _; (with_reducible repeat (first | refine blk_drewN ?_ _ | refine blk_drew ?_ | refine blk_alloc ?_ _)); exact BK469.out) hb); have n8_ := Aside0.mk (blk_below (g := gb479) (o := .cells #[.slice Ao22 t470.length co22, .slice Ao25 t473.length co25] 28 (0, 0)) (by (with_reducible repeat (first | refine blk_drewN ?_ _ | refine blk_drew ?_ | refine blk_alloc ?_ _)); refine blk_far ?_ NB479_487.out _; (with_reducible repeat (first | refine blk_drewN ?_ _ | refine blk_drew ?_ | refine blk_alloc ?_ _)); refine blk_far ?_ NB479_487.out _; (with_reducible repeat (first | refine blk_drewN ?_ _ | refine blk_drew ?_ | refine blk_alloc ?_ _)); exact BK479.out) hb); have n9_ := Aside0.mk (blk_below (g := gb487) (o := .cells #[.slice Ao29 t480.length co29, .slice Ao33 t483.length co33] 28 (0, 0)) (by (with_reducible repeat (first | refine blk_drewN ?_ _ | refine blk_drew ?_ | refine blk_alloc ?_ _)); refine blk_put (cs := #[.slice Ao29 t480.length co29, .slice none 0 0]) ?_ 1 _ rfl; (with_reducible repeat (first | refine blk_drewN ?_ _ | refine blk_drew ?_ | refine blk_alloc ?_ _)); refine blk_put (cs := #[.slice none 0 0, .slice none 0 0]) ?_ 0 _ rfl; (with_reducible repeat (first | refine blk_drewN ?_ _ | refine blk_drew ?_ | refine blk_alloc ?_ _)); exact BK487.out) hb); have n10_ := Aside0.mk (below_step (by repeat (first | (with_reducible first | exact HB.out | apply below_alloc | apply pw_below_drewN | apply below_drew1 | refine below_set ?_ GE469.out | refine below_set ?_ GE479.out | refine below_set ?_ GE487.out) | exact HB.out)) hb); clear HO472; clear HO475; clear HO478; clear HO482; clear HO485; clear BK469; clear BK479; clear BK487; clear HB; have HO472 := n0_; have HO475 := n1_; have HO478 := n2_; have HO482 := n3_; have HO485 := n4_; have HO490 := n5_; have HO493 := n6_; have BK469 := n7_; have BK479 := n8_; have BK487 := n9_; have HB := n10_; clear n0_ n1_ n2_ n3_ n4_ n5_ n6_ n7_ n8_ n9_ n10_; (try clear hb); (try clear hb2); (try clear hk); (try clear hi); (try clear ho0); (try clear ho1)) | ((with_reducible refine gate_dst (N := 15) rfl ?_); refine box_event ?hg (N := 15) ?hd (cs := #[.slice none 0 0, .slice none 0 0]) (t := 42) ?hr ?_; (case hd => rfl); (case hg => rfl); (case hr => first | (go_simp; done) | (go_simp; rfl)); intro gb495 hg w36 hbox hb; have n0_ := Aside0.mk (Kd.S_below (SU HO472.out) hb); have n1_ := Aside0.mk (Kd.S_below (SU HO475.out) hb); have n2_ := Aside0.mk (Kd.R_below (RU HO478.out) hb); have n3_ := Aside0.mk (Kd.S_below (SU HO482.out) hb); have n4_ := Aside0.mk (Kd.S_below (SU HO485.out) hb); have n5_ := Aside0.mk (Kd.S_below (SU HO490.out) hb); have n6_ := Aside0.mk (Kd.S_below (SU HO493.out) hb); have n7_ := Aside0.mk (blk_below (g := gb469) (o := .cells #[.slice A0_0 l0_0.length c0_0, .slice A0_1 l0_1.length c0_1] 42 (0, 0)) (BU BK469.out) hb); have n8_ := Aside0.mk (blk_below (g := gb479) (o := .cells #[.slice Ao22 t470.length co22, .slice Ao25 t473.length co25] 28 (0, 0)) (BU BK479.out) hb); have n9_ := Aside0.mk (blk_below (g := gb487) (o := .cells #[.slice Ao29 t480.length co29, .slice Ao33 t483.length co33] 28 (0, 0)) (BU BK487.out) hb); have n10_ := Aside0.mk (below_step (by repeat (first | (with_reducible first | exact HB.out | apply below_alloc | apply pw_below_drewN | apply below_drew1 | refine below_set ?_ GE469.out | refine below_set ?_ GE479.out | refine below_set ?_ GE487.out) | exact HB.out)) hb); have n11_ := Aside0.mk (hbox); have n12_ := Aside0.mk ((by rw [hg]; exact (below_size (by repeat (first | (with_reducible first | exact HB.out | apply below_alloc | apply pw_below_drewN | apply below_drew1 | refine below_set ?_ GE469.out | refine below_set ?_ GE479.out | refine below_set ?_ GE487.out) | exact HB.out))) : w.heap.size ≤ gb495)); have n13_ := Aside0.mk ((by rw [hg]; exact (below_size (by repeat (first | (with_reducible first | exact HB.out | apply below_alloc | apply pw_below_drewN | apply below_drew1 | refine below_set ?_ GE469.out | refine below_set ?_ GE479.out | refine below_set ?_ GE487.out) | exact HB.out))) : w.heap.size ≤ gb495)); have n14_ := Aside0.mk ((by rw [hg]; exact Nat.ne_of_lt (blk_lt (g := gb469) (o := .cells #[.slice A0_0 l0_0.length c0_0, .slice A0_1 l0_1.length c0_1] 42 (0, 0)) (BU BK469.out)) : gb469 ≠ gb495)); have n15_ := Aside0.mk ((by rw [hg]; exact Nat.ne_of_gt (blk_lt (g := gb469) (o := .cells #[.slice A0_0 l0_0.length c0_0, .slice A0_1 l0_1.length c0_1] 42 (0, 0)) (BU BK469.out)) : gb495 ≠ gb469)); have n16_ := Aside0.mk ((by rw [hg]; exact Nat.ne_of_lt (blk_lt (g := gb479) (o := .cells #[.slice Ao22 t470.length co22, .slice Ao25 t473.length co25] 28 (0, 0)) (BU BK479.out)) : gb479 ≠ gb495)); have n17_ := Aside0.mk ((by rw [hg]; exact Nat.ne_of_gt (blk_lt (g := gb479) (o := .cells #[.slice Ao22 t470.length co22, .slice Ao25 t473.length co25] 28 (0, 0)) (BU BK479.out)) : gb495 ≠ gb479)); have n18_ := Aside0.mk ((by rw [hg]; exact Nat.ne_of_lt (blk_lt (g := gb487) (o := .cells #[.slice Ao29 t480.length co29, .slice Ao33 t483.length co33] 28 (0, 0)) (BU BK487.out)) : gb487 ≠ gb495)); have n19_ := Aside0.mk ((by rw [hg]; exact Nat.ne_of_gt (blk_lt (g := gb487) (o := .cells #[.slice Ao29 t480.length co29, .slice Ao33 t483.length co33] 28 (0, 0)) (BU BK487.out)) : gb495 ≠ gb487)); clear HO472; clear HO475; clear HO478; clear HO482; clear HO485; clear HO490; clear HO493; clear BK469; clear BK479; clear BK487; clear HB; have HO472 := n0_; have HO475 := n1_; have HO478 := n2_; have HO482 := n3_; have HO485 := n4_; have HO490 := n5_; have HO493 := n6_; have BK469 := n7_; have BK479 := n8_; have BK487 := n9_; have HB := n10_; have BK495 := n11_; have GW495 := n12_; have GE495 := n13_; have NB469_495 := n14_; have NB495_469 := n15_; have NB479_495 := n16_; have NB495_479 := n17_; have NB487_495 := n18_; have NB495_487 := n19_; clear n0_ n1_ n2_ n3_ n4_ n5_ n6_ n7_ n8_ n9_ n10_ n11_ n12_ n13_ n14_ n15_ n16_ n17_ n18_ n19_; clear hb hbox hg; obtain ⟨Ao37, co37, eo37⟩ := Kd.S_slice HO490.out; subst eo37; have hnb38 := NB495_469.out; have hnc38 := NB469_495.out; have hnb39 := NB495_479.out; have hnc39 := NB479_495.out; have hnb40 := NB495_487.out; have hnc40 := NB487_495.out; have hcz41_0 : w36.cell? ⟨gb495, 0, none⟩ = some (.slice none 0 0) := (blk_cell BK495.out 0).trans rfl; have hcz41_1 : w36.cell? ⟨gb495, 1, none⟩ = some (.slice none 0 0) := (blk_cell BK495.out 1).trans rfl; have hfz41_0 := blk_frozen BK495.out 0; have hfz41_1 := blk_frozen BK495.out 1; obtain ⟨Ao42, co42, eo42⟩ := Kd.S_slice HO493.out; subst eo42; have hcz43_0 : w36.cell? ⟨gb479, 0, none⟩ = some (.slice Ao22 t470.length co22) := (blk_cell BK479.out 0).trans rfl; have hcz43_1 : w36.cell? ⟨gb479, 1, none⟩ = some (.slice Ao25 t473.length co25) := (blk_cell BK479.out 1).trans rfl; have hfz43_0 := blk_frozen BK479.out 0; have hfz43_1 := blk_frozen BK479.out 1) | ((with_reducible refine gate_callee (f := 27) rfl ?_); refine goesL_ (some 50) rfl rfl Try.func27 (by kernel_rfl) rfl #[.agg #[.slice Ao22 t470.length co22, .slice Ao25 t473.length co25], .int .i64 a1] rfl (by (try simp only [List.map_toArray, List.map_cons, List.map_nil]); first | done | rfl | (simp only [List.length_drop, List.length_take]; rfl)) ?_; (with_reducible refine (disk_Get.calls k _ _ t470 _ _ t473 a1 t496 t499 _ ?side1 ?side2 ?side3 ?side4 A10.out).mono ?_); (case side1 => refine (Kd.S_reads' (e := 50) (base := w.heap.size) (ok := fun k_ => (((True ∧ some k_ ≠ (.slice Ao26 t476.length co26 : Value).ownBlock) ∧ some k_ ≠ (.slice Ao29 t480.length co29 : Value).ownBlock) ∧ some k_ ≠ (.slice Ao37 t488.length co37 : Value).ownBlock)) (n := t470.length) (c := co22) ?_).2.2; exact (by (with_reducible repeat (first | apply Kd.S_alloc | apply Kd.S_drewN | apply Kd.S_drew)); exact (Kd.S_mono (Kd.S_far (p := ⟨gb495, 1, none⟩) (Kd.S_far (p := ⟨gb495, 0, none⟩) (Kd.S_types HO472.out BK495.out (by decide)) (fun _ hk => hk.2) (.slice Ao37 t488.length co37)) (fun _ hk => hk.2) (.slice Ao42 t491.length co42)) (fun _ h_ => h_.1)))); (case side2 => exact (Kd.S_reads' HO472.out).2.1); (case side3 => refine (Kd.S_reads' (e := 61) (base := w.heap.size) (ok := fun k_ => ((True ∧ some k_ ≠ (.slice Ao26 t476.length co26 : Value).ownBlock) ∧ some k_ ≠ (.slice Ao33 t483.length co33 : Value).ownBlock)) (n := t473.length) (c := co25) ?_).2.2; exact (by (with_reducible repeat (first | apply Kd.S_alloc | apply Kd.S_drewN | apply Kd.S_drew)); exact (Kd.S_mono (Kd.S_far (p := ⟨gb495, 1, none⟩) (Kd.S_far (p := ⟨gb495, 0, none⟩) (Kd.S_types HO475.out BK495.out (by decide)) (fun _ hk => hk.2) (.slice Ao37 t488.length co37)) (fun _ hk => hk.2) (.slice Ao42 t491.length co42)) (fun _ h_ => h_.1)))); (case side4 => exact (Kd.S_reads' HO475.out).2.1); rintro e w44 ⟨v497, rfl, ho0, hb⟩; refine ⟨_, rfl, ?_⟩; have n0_ := Aside0.mk (Kd.S_elder' (by (with_reducible repeat (first | apply Kd.S_alloc | apply Kd.S_drewN | apply Kd.S_drew)); exact (Kd.S_mono (Kd.S_far (p := ⟨gb495, 1, none⟩) (Kd.S_far (p := ⟨gb495, 0, none⟩) (Kd.S_types HO472.out BK495.out (by decide)) (fun _ hk => hk.2) (.slice Ao37 t488.length co37)) (fun _ hk => hk.2) (.slice Ao42 t491.length co42)) (fun _ h_ => h_.1))) (Kd.R_base ho0) hb); have n1_ := Aside0.mk (Kd.S_elder' (by (with_reducible repeat (first | apply Kd.S_alloc | apply Kd.S_drewN | apply Kd.S_drew)); exact (Kd.S_mono (Kd.S_far (p := ⟨gb495, 1, none⟩) (Kd.S_far (p := ⟨gb495, 0, none⟩) (Kd.S_types HO475.out BK495.out (by decide)) (fun _ hk => hk.2) (.slice Ao37 t488.length co37)) (fun _ hk => hk.2) (.slice Ao42 t491.length co42)) (fun _ h_ => h_.1))) (Kd.R_base ho0) hb); have n2_ := Aside0.mk (Kd.R_elder' (by (with_reducible repeat (first | apply Kd.R_alloc | apply Kd.R_drewN | apply Kd.R_drew)); exact (Kd.R_mono (Kd.R_far (p := ⟨gb495, 1, none⟩) (Kd.R_far (p := ⟨gb495, 0, none⟩) (Kd.R_types HO478.out BK495.out (by decide)) (fun _ hk => hk.2) (.slice Ao37 t488.length co37)) (fun _ hk => hk.2) (.slice Ao42 t491.length co42)) (fun _ h_ => h_.1))) (Kd.R_base ho0) hb); have n3_ := Aside0.mk (Kd.S_elder' (by (with_reducible repeat (first | apply Kd.S_alloc | apply Kd.S_drewN | apply Kd.S_drew)); exact (Kd.S_mono (Kd.S_far (p := ⟨gb495, 1, none⟩) (Kd.S_far (p := ⟨gb495, 0, none⟩) (Kd.S_types HO482.out BK495.out (by decide)) (fun _ hk => hk.2) (.slice Ao37 t488.length co37)) (fun _ hk => hk.2) (.slice Ao42 t491.length co42)) (fun _ h_ => h_.1))) (Kd.R_base ho0) hb); have n4_ := Aside0.mk (Kd.S_elder' (by (with_reducible repeat (first | apply Kd.S_alloc | apply Kd.S_drewN | apply Kd.S_drew)); exact (Kd.S_mono (Kd.S_far (p := ⟨gb495, 1, none⟩) (Kd.S_far (p := ⟨gb495, 0, none⟩) (Kd.S_types HO485.out BK495.out (by decide)) (fun _ hk => hk.2) (.slice Ao37 t488.length co37)) (fun _ hk => hk.2) (.slice Ao42 t491.length co42)) (fun _ h_ => h_.1))) (Kd.R_base ho0) hb); have n5_ := Aside0.mk (Kd.S_elder' (by (with_reducible repeat (first | apply Kd.S_alloc | apply Kd.S_drewN | apply Kd.S_drew)); exact (Kd.S_mono (Kd.S_far (p := ⟨gb495, 1, none⟩) (Kd.S_far (p := ⟨gb495, 0, none⟩) (Kd.S_types HO490.out BK495.out (by decide)) (fun _ hk => hk.2) (.slice Ao37 t488.length co37)) (fun _ hk => hk.2) (.slice Ao42 t491.length co42)) (fun _ h_ => h_.1))) (Kd.R_base ho0) hb); have n6_ := Aside0.mk (Kd.S_elder' (by (with_reducible repeat (first | apply Kd.S_alloc | apply Kd.S_drewN | apply Kd.S_drew)); exact (Kd.S_mono (Kd.S_far (p := ⟨gb495, 1, none⟩) (Kd.S_far (p := ⟨gb495, 0, none⟩) (Kd.S_types HO493.out BK495.out (by decide)) (fun _ hk => hk.2) (.slice Ao37 t488.length co37)) (fun _ hk => hk.2) (.slice Ao42 t491.length co42)) (fun _ h_ => h_.1))) (Kd.R_base ho0) hb); have n7_ := Aside0.mk (Kd.R_lower (Kd.R_new' ho0 (Kd.R_lt (by (with_reducible repeat (first | apply Kd.R_alloc | apply Kd.R_drewN | apply Kd.R_drew)); exact (Kd.R_mono (Kd.R_far (p := ⟨gb495, 1, none⟩) (Kd.R_far (p := ⟨gb495, 0, none⟩) (Kd.R_types HO478.out BK495.out (by decide)) (fun _ hk => hk.2) (.slice Ao37 t488.length co37)) (fun _ hk => hk.2) (.slice Ao42 t491.length co42)) (fun _ h_ => h_.1))))) (below_size (by repeat (first | (with_reducible first | exact HB.out | apply below_alloc | apply pw_below_drewN | apply below_drew1 | refine below_set ?_ GE469.out | refine below_set ?_ GE479.out | refine below_set ?_ GE487.out | refine below_set ?_ GE495.out) | exact HB.out)))); have n8_ := Aside0.mk (blk_below (g := gb469) (o := .cells #[.slice A0_0 l0_0.length c0_0, .slice A0_1 l0_1.length c0_1] 42 (0, 0)) (by (with_reducible repeat (first | refine blk_drewN ?_ _ | refine blk_drew ?_ | refine blk_alloc ?_ _)); refine blk_far ?_ NB469_495.out _; (with_reducible repeat (first | refine blk_drewN ?_ _ | refine blk_drew ?_ | refine blk_alloc ?_ _)); refine blk_far ?_ NB469_495.out _; (with_reducible repeat (first | refine blk_drewN ?_ _ | refine blk_drew ?_ | refine blk_alloc ?_ _)); exact BK469.out) hb); have n9_ := Aside0.mk (blk_below (g := gb479) (o := .cells #[.slice Ao22 t470.length co22, .slice Ao25 t473.length co25] 28 (0, 0)) (by (with_reducible repeat (first | refine blk_drewN ?_ _ | refine blk_drew ?_ | refine blk_alloc ?_ _)); refine blk_far ?_ NB479_495.out _; (with_reducible repeat (first | refine blk_drewN ?_ _ | refine blk_drew ?_ | refine blk_alloc ?_ _)); refine blk_far ?_ NB479_495.out _; (with_reducible repeat (first | refine blk_drewN ?_ _ | refine blk_drew ?_ | refine blk_alloc ?_ _)); exact BK479.out) hb); have n10_ := Aside0.mk (blk_below (g := gb487) (o := .cells #[.slice Ao29 t480.length co29, .slice Ao33 t483.length co33] 28 (0, 0)) (by (with_reducible repeat (first | refine blk_drewN ?_ _ | refine blk_drew ?_ | refine blk_alloc ?_ _)); refine blk_far ?_ NB487_495.out _; (with_reducible repeat (first | refine blk_drewN ?_ _ | refine blk_drew ?_ | refine blk_alloc ?_ _)); refine blk_far ?_ NB487_495.out _; (with_reducible repeat (first | refine blk_drewN ?_ _ | refine blk_drew ?_ | refine blk_alloc ?_ _)); exact BK487.out) hb); have n11_ := Aside0.mk (blk_below (g := gb495) (o := .cells #[.slice Ao37 t488.length co37, .slice Ao42 t491.length co42] 42 (0, 0)) (by (with_reducible repeat (first | refine blk_drewN ?_ _ | refine blk_drew ?_ | refine blk_alloc ?_ _)); refine blk_put (cs := #[.slice Ao37 t488.length co37, .slice none 0 0]) ?_ 1 _ rfl; (with_reducible repeat (first | refine blk_drewN ?_ _ | refine blk_drew ?_ | refine blk_alloc ?_ _)); refine blk_put (cs := #[.slice none 0 0, .slice none 0 0]) ?_ 0 _ rfl; (with_reducible repeat (first | refine blk_drewN ?_ _ | refine blk_drew ?_ | refine blk_alloc ?_ _)); exact BK495.out) hb); have n12_ := Aside0.mk (below_step (by repeat (first | (with_reducible first | exact HB.out | apply below_alloc | apply pw_below_drewN | apply below_drew1 | refine below_set ?_ GE469.out | refine below_set ?_ GE479.out | refine below_set ?_ GE487.out | refine below_set ?_ GE495.out) | exact HB.out)) hb); clear HO472; clear HO475; clear HO478; clear HO482; clear HO485; clear HO490; clear HO493; clear BK469; clear BK479; clear BK487; clear BK495; clear HB; have HO472 := n0_; have HO475 := n1_; have HO478 := n2_; have HO482 := n3_; have HO485 := n4_; have HO490 := n5_; have HO493 := n6_; have HO498 := n7_; have BK469 := n8_; have BK479 := n9_; have BK487 := n10_; have BK495 := n11_; have HB := n12_; clear n0_ n1_ n2_ n3_ n4_ n5_ n6_ n7_ n8_ n9_ n10_ n11_ n12_; (try clear hb); (try clear hb2); (try clear hk); (try clear hi); (try clear ho0); have hcz45_0 : w44.cell? ⟨gb469, 0, none⟩ = some (.slice A0_0 l0_0.length c0_0) := (blk_cell BK469.out 0).trans rfl; have hcz45_1 : w44.cell? ⟨gb469, 1, none⟩ = some (.slice A0_1 l0_1.length c0_1) := (blk_cell BK469.out 1).trans rfl; have hfz45_0 := blk_frozen BK469.out 0; have hfz45_1 := blk_frozen BK469.out 1) | ((with_reducible refine gate_callee (f := 36) rfl ?_); refine goesL_ (some 56) rfl rfl Try.func36 (by kernel_rfl) rfl #[.agg #[.slice A0_0 l0_0.length c0_0, .slice A0_1 l0_1.length c0_1], .int .i64 a1] rfl (by (try simp only [List.map_toArray, List.map_cons, List.map_nil]); first | done | rfl | (simp only [List.length_drop, List.length_take]; rfl)) ?_; (with_reducible refine (transeptref04_Get.calls k (fun k_ => k_ < w.heap.size) _ _ l0_0 (fun k_ => k_ < w.heap.size) _ _ l0_1 a1 t500 t503 _ ?side1 ?side2 A11.out).mono ?_); (case side1 => exact Kd.V_mk HC0_0.out (Kd.F_below (Kd.C_F (Kd.heap_slice 5 (Kd.heap_int .u8)) HR0_0.out) (by repeat (first | (with_reducible first | exact HB.out | apply below_alloc | apply pw_below_drewN | apply below_drew1 | refine below_set ?_ GE469.out | refine below_set ?_ GE479.out | refine below_set ?_ GE487.out | refine below_set ?_ GE495.out) | exact HB.out)))); (case side2 => exact Kd.V_mk HC0_1.out (Kd.F_below (Kd.C_F k55_heap HR0_1.out) (by repeat (first | (with_reducible first | exact HB.out | apply below_alloc | apply pw_below_drewN | apply below_drew1 | refine below_set ?_ GE469.out | refine below_set ?_ GE479.out | refine below_set ?_ GE487.out | refine below_set ?_ GE495.out) | exact HB.out)))); rintro e w46 ⟨v501, rfl, ho0, hb⟩; refine ⟨_, rfl, ?_⟩; have n0_ := Aside0.mk (Kd.S_elder' (SU HO472.out) (Kd.R_base ho0) hb); have n1_ := Aside0.mk (Kd.S_elder' (SU HO475.out) (Kd.R_base ho0) hb); have n2_ := Aside0.mk (Kd.R_elder' (RU HO478.out) (Kd.R_base ho0) hb); have n3_ := Aside0.mk (Kd.S_elder' (SU HO482.out) (Kd.R_base ho0) hb); have n4_ := Aside0.mk (Kd.S_elder' (SU HO485.out) (Kd.R_base ho0) hb); have n5_ := Aside0.mk (Kd.S_elder' (SU HO490.out) (Kd.R_base ho0) hb); have n6_ := Aside0.mk (Kd.S_elder' (SU HO493.out) (Kd.R_base ho0) hb); have n7_ := Aside0.mk (Kd.R_elder' (RU HO498.out) (Kd.R_base ho0) hb); have n8_ := Aside0.mk (Kd.R_lower (Kd.R_new' (Kd.R_new' (Kd.R_mono (ok' := fun k_ => True) ho0 (fun _ hk_ => trivial)) (Kd.R_lt (RU HO478.out))) (Kd.R_lt (RU HO498.out))) (below_size (by repeat (first | (with_reducible first | exact HB.out | apply below_alloc | apply pw_below_drewN | apply below_drew1 | refine below_set ?_ GE469.out | refine below_set ?_ GE479.out | refine below_set ?_ GE487.out | refine below_set ?_ GE495.out) | exact HB.out)))); have n9_ := Aside0.mk (blk_below (g := gb469) (o := .cells #[.slice A0_0 l0_0.length c0_0, .slice A0_1 l0_1.length c0_1] 42 (0, 0)) (BU BK469.out) hb); have n10_ := Aside0.mk (blk_below (g := gb479) (o := .cells #[.slice Ao22 t470.length co22, .slice Ao25 t473.length co25] 28 (0, 0)) (BU BK479.out) hb); have n11_ := Aside0.mk (blk_below (g := gb487) (o := .cells #[.slice Ao29 t480.length co29, .slice Ao33 t483.length co33] 28 (0, 0)) (BU BK487.out) hb); have n12_ := Aside0.mk (blk_below (g := gb495) (o := .cells #[.slice Ao37 t488.length co37, .slice Ao42 t491.length co42] 42 (0, 0)) (BU BK495.out) hb); have n13_ := Aside0.mk (below_step (by repeat (first | (with_reducible first | exact HB.out | apply below_alloc | apply pw_below_drewN | apply below_drew1 | refine below_set ?_ GE469.out | refine below_set ?_ GE479.out | refine below_set ?_ GE487.out | refine below_set ?_ GE495.out) | exact HB.out)) hb); clear HO472; clear HO475; clear HO478; clear HO482; clear HO485; clear HO490; clear HO493; clear HO498; clear BK469; clear BK479; clear BK487; clear BK495; clear HB; have HO472 := n0_; have HO475 := n1_; have HO478 := n2_; have HO482 := n3_; have HO485 := n4_; have HO490 := n5_; have HO493 := n6_; have HO498 := n7_; have HO502 := n8_; have BK469 := n9_; have BK479 := n10_; have BK487 := n11_; have BK495 := n12_; have HB := n13_; clear n0_ n1_ n2_ n3_ n4_ n5_ n6_ n7_ n8_ n9_ n10_ n11_ n12_ n13_; (try clear hb); (try clear hb2); (try clear hk); (try clear hi); (try clear ho0); have hcz47_0 : w46.cell? ⟨gb479, 0, none⟩ = some (.slice Ao22 t470.length co22) := (blk_cell BK479.out 0).trans rfl; have hcz47_1 : w46.cell? ⟨gb479, 1, none⟩ = some (.slice Ao25 t473.length co25) := (blk_cell BK479.out 1).trans rfl; have hfz47_0 := blk_frozen BK479.out 0; have hfz47_1 := blk_frozen BK479.out 1) | ((with_reducible refine gate_callee (f := 33) rfl ?_); refine goesL_ (some 61) rfl rfl Try.func33 (by kernel_rfl) rfl #[.agg #[.slice Ao22 t470.length co22, .slice Ao25 t473.length co25]] rfl (by (try simp only [List.map_toArray, List.map_cons, List.map_nil]); first | done | rfl | (simp only [List.length_drop, List.length_take]; rfl)) ?_; (with_reducible refine (disk_Flush.calls k _ _ t470 _ _ t473 t504 t507 t510 _ ?side1 ?side2 ?side3 ?side4 A12.out).mono ?_); (case side1 => repeat (first | exact (Kd.S_reads' HO472.out).2.2 | (with_reducible refine Kd.C_alloc ?_ _) | (with_reducible refine Kd.C_drewN ?_ _) | (with_reducible refine Kd.C_drew ?_))); (case side2 => exact (Kd.S_reads' HO472.out).2.1); (case side3 => repeat (first | exact (Kd.S_reads' HO475.out).2.2 | (with_reducible refine Kd.C_alloc ?_ _) | (with_reducible refine Kd.C_drewN ?_ _) | (with_reducible refine Kd.C_drew ?_))); (case side4 => exact (Kd.S_reads' HO475.out).2.1); rintro e w48 ⟨v505, v508, rfl, ho0, ho1, hb⟩; refine ⟨_, rfl, ?_⟩; have n0_ := Aside0.mk (Kd.S_elder' (SU HO472.out) (Kd.S_base ho0) hb); have n1_ := Aside0.mk (Kd.S_elder' (SU HO475.out) (Kd.S_base ho1) hb); have n2_ := Aside0.mk (Kd.R_below (RU HO478.out) hb); have n3_ := Aside0.mk (Kd.S_elder' (SU HO482.out) (Kd.S_base ho0) hb); have n4_ := Aside0.mk (Kd.S_elder' (SU HO485.out) (Kd.S_base ho1) hb); have n5_ := Aside0.mk (Kd.S_elder' (SU HO490.out) (Kd.S_base ho0) hb); have n6_ := Aside0.mk (Kd.S_below (SU HO493.out) hb); have n7_ := Aside0.mk (Kd.R_below (RU HO498.out) hb); have n8_ := Aside0.mk (Kd.R_below (RU HO502.out) hb); have n9_ := Aside0.mk (Kd.S_lower (Kd.S_new' (Kd.S_new' (Kd.S_new' (Kd.S_new' (Kd.S_new' (Kd.S_new' ho0 (Kd.S_lt (SU HO472.out))) (Kd.R_lt (RU HO478.out))) (Kd.S_lt (SU HO482.out))) (Kd.S_lt (SU HO490.out))) (Kd.R_lt (RU HO498.out))) (Kd.R_lt (RU HO502.out))) (below_size (by repeat (first | (with_reducible first | exact HB.out | apply below_alloc | apply pw_below_drewN | apply below_drew1 | refine below_set ?_ GE469.out | refine below_set ?_ GE479.out | refine below_set ?_ GE487.out | refine below_set ?_ GE495.out) | exact HB.out)))); have n10_ := Aside0.mk (Kd.S_lower (Kd.S_new' (Kd.S_new' (Kd.S_new' (Kd.S_new' (Kd.S_new' ho1 (Kd.S_lt (SU HO475.out))) (Kd.R_lt (RU HO478.out))) (Kd.S_lt (SU HO485.out))) (Kd.R_lt (RU HO498.out))) (Kd.R_lt (RU HO502.out))) (below_size (by repeat (first | (with_reducible first | exact HB.out | apply below_alloc | apply pw_below_drewN | apply below_drew1 | refine below_set ?_ GE469.out | refine below_set ?_ GE479.out | refine below_set ?_ GE487.out | refine below_set ?_ GE495.out) | exact HB.out)))); have n11_ := Aside0.mk (blk_below (g := gb469) (o := .cells #[.slice A0_0 l0_0.length c0_0, .slice A0_1 l0_1.length c0_1] 42 (0, 0)) (BU BK469.out) hb); have n12_ := Aside0.mk (blk_below (g := gb479) (o := .cells #[.slice Ao22 t470.length co22, .slice Ao25 t473.length co25] 28 (0, 0)) (BU BK479.out) hb); have n13_ := Aside0.mk (blk_below (g := gb487) (o := .cells #[.slice Ao29 t480.length co29, .slice Ao33 t483.length co33] 28 (0, 0)) (BU BK487.out) hb); have n14_ := Aside0.mk (blk_below (g := gb495) (o := .cells #[.slice Ao37 t488.length co37, .slice Ao42 t491.length co42] 42 (0, 0)) (BU BK495.out) hb); have n15_ := Aside0.mk (below_step (by repeat (first | (with_reducible first | exact HB.out | apply below_alloc | apply pw_below_drewN | apply below_drew1 | refine below_set ?_ GE469.out | refine below_set ?_ GE479.out | refine below_set ?_ GE487.out | refine below_set ?_ GE495.out) | exact HB.out)) hb); clear HO472; clear HO475; clear HO478; clear HO482; clear HO485; clear HO490; clear HO493; clear HO498; clear HO502; clear BK469; clear BK479; clear BK487; clear BK495; clear HB; have HO472 := n0_; have HO475 := n1_; have HO478 := n2_; have HO482 := n3_; have HO485 := n4_; have HO490 := n5_; have HO493 := n6_; have HO498 := n7_; have HO502 := n8_; have HO506 := n9_; have HO509 := n10_; have BK469 := n11_; have BK479 := n12_; have BK487 := n13_; have BK495 := n14_; have HB := n15_; clear n0_ n1_ n2_ n3_ n4_ n5_ n6_ n7_ n8_ n9_ n10_ n11_ n12_ n13_ n14_ n15_; (try clear hb); (try clear hb2); (try clear hk); (try clear hi); (try clear ho0); (try clear ho1)) | ((with_reducible refine gate_dst (N := 21) rfl ?_); refine box_event ?hg (N := 21) ?hd (cs := #[.slice none 0 0, .slice none 0 0]) (t := 28) ?hr ?_; (case hd => rfl); (case hg => rfl); (case hr => first | (go_simp; done) | (go_simp; rfl)); intro gb511 hg w49 hbox hb; have n0_ := Aside0.mk (Kd.S_below (SU HO472.out) hb); have n1_ := Aside0.mk (Kd.S_below (SU HO475.out) hb); have n2_ := Aside0.mk (Kd.R_below (RU HO478.out) hb); have n3_ := Aside0.mk (Kd.S_below (SU HO482.out) hb); have n4_ := Aside0.mk (Kd.S_below (SU HO485.out) hb); have n5_ := Aside0.mk (Kd.S_below (SU HO490.out) hb); have n6_ := Aside0.mk (Kd.S_below (SU HO493.out) hb); have n7_ := Aside0.mk (Kd.R_below (RU HO498.out) hb); have n8_ := Aside0.mk (Kd.R_below (RU HO502.out) hb); have n9_ := Aside0.mk (Kd.S_below (SU HO506.out) hb); have n10_ := Aside0.mk (Kd.S_below (SU HO509.out) hb); have n11_ := Aside0.mk (blk_below (g := gb469) (o := .cells #[.slice A0_0 l0_0.length c0_0, .slice A0_1 l0_1.length c0_1] 42 (0, 0)) (BU BK469.out) hb); have n12_ := Aside0.mk (blk_below (g := gb479) (o := .cells #[.slice Ao22 t470.length co22, .slice Ao25 t473.length co25] 28 (0, 0)) (BU BK479.out) hb); have n13_ := Aside0.mk (blk_below (g := gb487) (o := .cells #[.slice Ao29 t480.length co29, .slice Ao33 t483.length co33] 28 (0, 0)) (BU BK487.out) hb); have n14_ := Aside0.mk (blk_below (g := gb495) (o := .cells #[.slice Ao37 t488.length co37, .slice Ao42 t491.length co42] 42 (0, 0)) (BU BK495.out) hb); have n15_ := Aside0.mk (below_step (by repeat (first | (with_reducible first | exact HB.out | apply below_alloc | apply pw_below_drewN | apply below_drew1 | refine below_set ?_ GE469.out | refine below_set ?_ GE479.out | refine below_set ?_ GE487.out | refine below_set ?_ GE495.out) | exact HB.out)) hb); have n16_ := Aside0.mk (hbox); have n17_ := Aside0.mk ((by rw [hg]; exact (below_size (by repeat (first | (with_reducible first | exact HB.out | apply below_alloc | apply pw_below_drewN | apply below_drew1 | refine below_set ?_ GE469.out | refine below_set ?_ GE479.out | refine below_set ?_ GE487.out | refine below_set ?_ GE495.out) | exact HB.out))) : w.heap.size ≤ gb511)); have n18_ := Aside0.mk ((by rw [hg]; exact (below_size (by repeat (first | (with_reducible first | exact HB.out | apply below_alloc | apply pw_below_drewN | apply below_drew1 | refine below_set ?_ GE469.out | refine below_set ?_ GE479.out | refine below_set ?_ GE487.out | refine below_set ?_ GE495.out) | exact HB.out))) : w.heap.size ≤ gb511)); have n19_ := Aside0.mk ((by rw [hg]; exact Nat.ne_of_lt (blk_lt (g := gb469) (o := .cells #[.slice A0_0 l0_0.length c0_0, .slice A0_1 l0_1.length c0_1] 42 (0, 0)) (BU BK469.out)) : gb469 ≠ gb511)); have n20_ := Aside0.mk ((by rw [hg]; exact Nat.ne_of_gt (blk_lt (g := gb469) (o := .cells #[.slice A0_0 l0_0.length c0_0, .slice A0_1 l0_1.length c0_1] 42 (0, 0)) (BU BK469.out)) : gb511 ≠ gb469)); have n21_ := Aside0.mk ((by rw [hg]; exact Nat.ne_of_lt (blk_lt (g := gb479) (o := .cells #[.slice Ao22 t470.length co22, .slice Ao25 t473.length co25] 28 (0, 0)) (BU BK479.out)) : gb479 ≠ gb511)); have n22_ := Aside0.mk ((by rw [hg]; exact Nat.ne_of_gt (blk_lt (g := gb479) (o := .cells #[.slice Ao22 t470.length co22, .slice Ao25 t473.length co25] 28 (0, 0)) (BU BK479.out)) : gb511 ≠ gb479)); have n23_ := Aside0.mk ((by rw [hg]; exact Nat.ne_of_lt (blk_lt (g := gb487) (o := .cells #[.slice Ao29 t480.length co29, .slice Ao33 t483.length co33] 28 (0, 0)) (BU BK487.out)) : gb487 ≠ gb511)); have n24_ := Aside0.mk ((by rw [hg]; exact Nat.ne_of_gt (blk_lt (g := gb487) (o := .cells #[.slice Ao29 t480.length co29, .slice Ao33 t483.length co33] 28 (0, 0)) (BU BK487.out)) : gb511 ≠ gb487)); have n25_ := Aside0.mk ((by rw [hg]; exact Nat.ne_of_lt (blk_lt (g := gb495) (o := .cells #[.slice Ao37 t488.length co37, .slice Ao42 t491.length co42] 42 (0, 0)) (BU BK495.out)) : gb495 ≠ gb511)); have n26_ := Aside0.mk ((by rw [hg]; exact Nat.ne_of_gt (blk_lt (g := gb495) (o := .cells #[.slice Ao37 t488.length co37, .slice Ao42 t491.length co42] 42 (0, 0)) (BU BK495.out)) : gb511 ≠ gb495)); clear HO472; clear HO475; clear HO478; clear HO482; clear HO485; clear HO490; clear HO493; clear HO498; clear HO502; clear HO506; clear HO509; clear BK469; clear BK479; clear BK487; clear BK495; clear HB; have HO472 := n0_; have HO475 := n1_; have HO478 := n2_; have HO482 := n3_; have HO485 := n4_; have HO490 := n5_; have HO493 := n6_; have HO498 := n7_; have HO502 := n8_; have HO506 := n9_; have HO509 := n10_; have BK469 := n11_; have BK479 := n12_; have BK487 := n13_; have BK495 := n14_; have HB := n15_; have BK511 := n16_; have GW511 := n17_; have GE511 := n18_; have NB469_511 := n19_; have NB511_469 := n20_; have NB479_511 := n21_; have NB511_479 := n22_; have NB487_511 := n23_; have NB511_487 := n24_; have NB495_511 := n25_; have NB511_495 := n26_; clear n0_ n1_ n2_ n3_ n4_ n5_ n6_ n7_ n8_ n9_ n10_ n11_ n12_ n13_ n14_ n15_ n16_ n17_ n18_ n19_ n20_ n21_ n22_ n23_ n24_ n25_ n26_; clear hb hbox hg; obtain ⟨Ao50, co50, eo50⟩ := Kd.S_slice HO506.out; subst eo50; have hnb51 := NB511_469.out; have hnc51 := NB469_511.out; have hnb52 := NB511_479.out; have hnc52 := NB479_511.out; have hnb53 := NB511_487.out; have hnc53 := NB487_511.out; have hnb54 := NB511_495.out; have hnc54 := NB495_511.out; have hcz55_0 : w49.cell? ⟨gb511, 0, none⟩ = some (.slice none 0 0) := (blk_cell BK511.out 0).trans rfl; have hcz55_1 : w49.cell? ⟨gb511, 1, none⟩ = some (.slice none 0 0) := (blk_cell BK511.out 1).trans rfl; have hfz55_0 := blk_frozen BK511.out 0; have hfz55_1 := blk_frozen BK511.out 1; obtain ⟨Ao56, co56, eo56⟩ := Kd.S_slice HO509.out; subst eo56; have hcz57_0 : w49.cell? ⟨gb469, 0, none⟩ = some (.slice A0_0 l0_0.length c0_0) := (blk_cell BK469.out 0).trans rfl; have hcz57_1 : w49.cell? ⟨gb469, 1, none⟩ = some (.slice A0_1 l0_1.length c0_1) := (blk_cell BK469.out 1).trans rfl; have hfz57_0 := blk_frozen BK469.out 0; have hfz57_1 := blk_frozen BK469.out 1) | ((with_reducible refine gate_callee (f := 37) rfl ?_); refine goesL_ (some 66) rfl rfl Try.func37 (by kernel_rfl) rfl #[.agg #[.slice A0_0 l0_0.length c0_0, .slice A0_1 l0_1.length c0_1]] rfl (by (try simp only [List.map_toArray, List.map_cons, List.map_nil]); first | done | rfl | (simp only [List.length_drop, List.length_take]; rfl)) ?_; (with_reducible refine (transeptref04_Flush.calls k _ _ l0_0 _ _ l0_1 t512 t515 t518 _ ?side1 ?side2 ?side3 ?side4 A13.out).mono ?_); (case side1 => exact Kd.C_below HR0_0.out (by repeat (first | (with_reducible first | exact HB.out | apply below_alloc | apply pw_below_drewN | apply below_drew1 | refine below_set ?_ GE469.out | refine below_set ?_ GE479.out | refine below_set ?_ GE487.out | refine below_set ?_ GE495.out | refine below_set ?_ GE511.out) | exact HB.out))); (case side2 => exact HC0_0.out); (case side3 => exact Kd.C_below HR0_1.out (by repeat (first | (with_reducible first | exact HB.out | apply below_alloc | apply pw_below_drewN | apply below_drew1 | refine below_set ?_ GE469.out | refine below_set ?_ GE479.out | refine below_set ?_ GE487.out | refine below_set ?_ GE495.out | refine below_set ?_ GE511.out) | exact HB.out))); (case side4 => exact HC0_1.out); rintro e w58 ⟨v513, v516, rfl, ho0, ho1, hb⟩; refine ⟨_, rfl, ?_⟩; have n0_ := Aside0.mk (Kd.S_elder' (by (with_reducible repeat (first | apply Kd.S_alloc | apply Kd.S_drewN | apply Kd.S_drew)); exact (Kd.S_mono (Kd.S_far (p := ⟨gb511, 1, none⟩) (Kd.S_far (p := ⟨gb511, 0, none⟩) (Kd.S_types HO472.out BK511.out (by decide)) (fun _ hk => hk.2) (.slice Ao50 t504.length co50)) (fun _ hk => hk.2) (.slice Ao56 t507.length co56)) (fun _ h_ => h_.1))) (Kd.S_base ho0) hb); have n1_ := Aside0.mk (Kd.S_below (by (with_reducible repeat (first | apply Kd.S_alloc | apply Kd.S_drewN | apply Kd.S_drew)); exact (Kd.S_mono (Kd.S_far (p := ⟨gb511, 1, none⟩) (Kd.S_far (p := ⟨gb511, 0, none⟩) (Kd.S_types HO475.out BK511.out (by decide)) (fun _ hk => hk.2) (.slice Ao50 t504.length co50)) (fun _ hk => hk.2) (.slice Ao56 t507.length co56)) (fun _ h_ => h_.1))) hb); have n2_ := Aside0.mk (Kd.R_below (by (with_reducible repeat (first | apply Kd.R_alloc | apply Kd.R_drewN | apply Kd.R_drew)); exact (Kd.R_mono (Kd.R_far (p := ⟨gb511, 1, none⟩) (Kd.R_far (p := ⟨gb511, 0, none⟩) (Kd.R_types HO478.out BK511.out (by decide)) (fun _ hk => hk.2) (.slice Ao50 t504.length co50)) (fun _ hk => hk.2) (.slice Ao56 t507.length co56)) (fun _ h_ => h_.1))) hb); have n3_ := Aside0.mk (Kd.S_elder' (by (with_reducible repeat (first | apply Kd.S_alloc | apply Kd.S_drewN | apply Kd.S_drew)); exact (Kd.S_mono (Kd.S_far (p := ⟨gb511, 1, none⟩) (Kd.S_far (p := ⟨gb511, 0, none⟩) (Kd.S_types HO482.out BK511.out (by decide)) (fun _ hk => hk.2) (.slice Ao50 t504.length co50)) (fun _ hk => hk.2) (.slice Ao56 t507.length co56)) (fun _ h_ => h_.1))) (Kd.S_base ho0) hb); have n4_ := Aside0.mk (Kd.S_below (by (with_reducible repeat (first | apply Kd.S_alloc | apply Kd.S_drewN | apply Kd.S_drew)); exact (Kd.S_mono (Kd.S_far (p := ⟨gb511, 1, none⟩) (Kd.S_far (p := ⟨gb511, 0, none⟩) (Kd.S_types HO485.out BK511.out (by decide)) (fun _ hk => hk.2) (.slice Ao50 t504.length co50)) (fun _ hk => hk.2) (.slice Ao56 t507.length co56)) (fun _ h_ => h_.1))) hb); have n5_ := Aside0.mk (Kd.S_elder' (by (with_reducible repeat (first | apply Kd.S_alloc | apply Kd.S_drewN | apply Kd.S_drew)); exact (Kd.S_mono (Kd.S_far (p := ⟨gb511, 1, none⟩) (Kd.S_far (p := ⟨gb511, 0, none⟩) (Kd.S_types HO490.out BK511.out (by decide)) (fun _ hk => hk.2) (.slice Ao50 t504.length co50)) (fun _ hk => hk.2) (.slice Ao56 t507.length co56)) (fun _ h_ => h_.1))) (Kd.S_base ho0) hb); have n6_ := Aside0.mk (Kd.S_elder' (by (with_reducible repeat (first | apply Kd.S_alloc | apply Kd.S_drewN | apply Kd.S_drew)); exact (Kd.S_mono (Kd.S_far (p := ⟨gb511, 1, none⟩) (Kd.S_far (p := ⟨gb511, 0, none⟩) (Kd.S_types HO493.out BK511.out (by decide)) (fun _ hk => hk.2) (.slice Ao50 t504.length co50)) (fun _ hk => hk.2) (.slice Ao56 t507.length co56)) (fun _ h_ => h_.1))) (Kd.S_base ho1) hb); have n7_ := Aside0.mk (Kd.R_below (by (with_reducible repeat (first | apply Kd.R_alloc | apply Kd.R_drewN | apply Kd.R_drew)); exact (Kd.R_mono (Kd.R_far (p := ⟨gb511, 1, none⟩) (Kd.R_far (p := ⟨gb511, 0, none⟩) (Kd.R_types HO498.out BK511.out (by decide)) (fun _ hk => hk.2) (.slice Ao50 t504.length co50)) (fun _ hk => hk.2) (.slice Ao56 t507.length co56)) (fun _ h_ => h_.1))) hb); have n8_ := Aside0.mk (Kd.R_below (by (with_reducible repeat (first | apply Kd.R_alloc | apply Kd.R_drewN | apply Kd.R_drew)); exact (Kd.R_mono (Kd.R_far (p := ⟨gb511, 1, none⟩) (Kd.R_far (p := ⟨gb511, 0, none⟩) (Kd.R_types HO502.out BK511.out (by decide)) (fun _ hk => hk.2) (.slice Ao50 t504.length co50)) (fun _ hk => hk.2) (.slice Ao56 t507.length co56)) (fun _ h_ => h_.1))) hb); have n9_ := Aside0.mk (Kd.S_elder' (by (with_reducible repeat (first | apply Kd.S_alloc | apply Kd.S_drewN | apply Kd.S_drew)); exact (Kd.S_mono (Kd.S_far (p := ⟨gb511, 1, none⟩) (Kd.S_far (p := ⟨gb511, 0, none⟩) (Kd.S_types HO506.out BK511.out (by decide)) (fun _ hk => hk.2) (.slice Ao50 t504.length co50)) (fun _ hk => hk.2) (.slice Ao56 t507.length co56)) (fun _ h_ => h_.1))) (Kd.S_base ho0) hb); have n10_ := Aside0.mk (Kd.S_below (by (with_reducible repeat (first | apply Kd.S_alloc | apply Kd.S_drewN | apply Kd.S_drew)); exact (Kd.S_mono (Kd.S_far (p := ⟨gb511, 1, none⟩) (Kd.S_far (p := ⟨gb511, 0, none⟩) (Kd.S_types HO509.out BK511.out (by decide)) (fun _ hk => hk.2) (.slice Ao50 t504.length co50)) (fun _ hk => hk.2) (.slice Ao56 t507.length co56)) (fun _ h_ => h_.1))) hb); have n11_ := Aside0.mk (Kd.S_lower (Kd.S_new' (Kd.S_new' (Kd.S_new' (Kd.S_new' (Kd.S_new' (Kd.S_new' (Kd.S_new' ho0 (Kd.S_lt (by (with_reducible repeat (first | apply Kd.S_alloc | apply Kd.S_drewN | apply Kd.S_drew)); exact (Kd.S_mono (Kd.S_far (p := ⟨gb511, 1, none⟩) (Kd.S_far (p := ⟨gb511, 0, none⟩) (Kd.S_types HO472.out BK511.out (by decide)) (fun _ hk => hk.2) (.slice Ao50 t504.length co50)) (fun _ hk => hk.2) (.slice Ao56 t507.length co56)) (fun _ h_ => h_.1))))) (Kd.R_lt (by (with_reducible repeat (first | apply Kd.R_alloc | apply Kd.R_drewN | apply Kd.R_drew)); exact (Kd.R_mono (Kd.R_far (p := ⟨gb511, 1, none⟩) (Kd.R_far (p := ⟨gb511, 0, none⟩) (Kd.R_types HO478.out BK511.out (by decide)) (fun _ hk => hk.2) (.slice Ao50 t504.length co50)) (fun _ hk => hk.2) (.slice Ao56 t507.length co56)) (fun _ h_ => h_.1))))) (Kd.S_lt (by (with_reducible repeat (first | apply Kd.S_alloc | apply Kd.S_drewN | apply Kd.S_drew)); exact (Kd.S_mono (Kd.S_far (p := ⟨gb511, 1, none⟩) (Kd.S_far (p := ⟨gb511, 0, none⟩) (Kd.S_types HO482.out BK511.out (by decide)) (fun _ hk => hk.2) (.slice Ao50 t504.length co50)) (fun _ hk => hk.2) (.slice Ao56 t507.length co56)) (fun _ h_ => h_.1))))) (Kd.S_lt (by (with_reducible repeat (first | apply Kd.S_alloc | apply Kd.S_drewN | apply Kd.S_drew)); exact (Kd.S_mono (Kd.S_far (p := ⟨gb511, 1, none⟩) (Kd.S_far (p := ⟨gb511, 0, none⟩) (Kd.S_types HO490.out BK511.out (by decide)) (fun _ hk => hk.2) (.slice Ao50 t504.length co50)) (fun _ hk => hk.2) (.slice Ao56 t507.length co56)) (fun _ h_ => h_.1))))) (Kd.R_lt (by (with_reducible repeat (first | apply Kd.R_alloc | apply Kd.R_drewN | apply Kd.R_drew)); exact (Kd.R_mono (Kd.R_far (p := ⟨gb511, 1, none⟩) (Kd.R_far (p := ⟨gb511, 0, none⟩) (Kd.R_types HO498.out BK511.out (by decide)) (fun _ hk => hk.2) (.slice Ao50 t504.length co50)) (fun _ hk => hk.2) (.slice Ao56 t507.length co56)) (fun _ h_ => h_.1))))) (Kd.R_lt (by (with_reducible repeat (first | apply Kd.R_alloc | apply Kd.R_drewN | apply Kd.R_drew)); exact (Kd.R_mono (Kd.R_far (p := ⟨gb511, 1, none⟩) (Kd.R_far (p := ⟨gb511, 0, none⟩) (Kd.R_types HO502.out BK511.out (by decide)) (fun _ hk => hk.2) (.slice Ao50 t504.length co50)) (fun _ hk => hk.2) (.slice Ao56 t507.length co56)) (fun _ h_ => h_.1))))) (Kd.S_lt (by (with_reducible repeat (first | apply Kd.S_alloc | apply Kd.S_drewN | apply Kd.S_drew)); exact (Kd.S_mono (Kd.S_far (p := ⟨gb511, 1, none⟩) (Kd.S_far (p := ⟨gb511, 0, none⟩) (Kd.S_types HO506.out BK511.out (by decide)) (fun _ hk => hk.2) (.slice Ao50 t504.length co50)) (fun _ hk => hk.2) (.slice Ao56 t507.length co56)) (fun _ h_ => h_.1))))) (below_size (by repeat (first | (with_reducible first | exact HB.out | apply below_alloc | apply pw_below_drewN | apply below_drew1 | refine below_set ?_ GE469.out | refine below_set ?_ GE479.out | refine below_set ?_ GE487.out | refine below_set ?_ GE495.out | refine below_set ?_ GE511.out) | exact HB.out)))); have n12_ := Aside0.mk (Kd.S_lower (Kd.S_new' (Kd.S_new' (Kd.S_new' (Kd.S_new' ho1 (Kd.R_lt (by (with_reducible repeat (first | apply Kd.R_alloc | apply Kd.R_drewN | apply Kd.R_drew)); exact (Kd.R_mono (Kd.R_far (p := ⟨gb511, 1, none⟩) (Kd.R_far (p := ⟨gb511, 0, none⟩) (Kd.R_types HO478.out BK511.out (by decide)) (fun _ hk => hk.2) (.slice Ao50 t504.length co50)) (fun _ hk => hk.2) (.slice Ao56 t507.length co56)) (fun _ h_ => h_.1))))) (Kd.S_lt (by (with_reducible repeat (first | apply Kd.S_alloc | apply Kd.S_drewN | apply Kd.S_drew)); exact (Kd.S_mono (Kd.S_far (p := ⟨gb511, 1, none⟩) (Kd.S_far (p := ⟨gb511, 0, none⟩) (Kd.S_types HO493.out BK511.out (by decide)) (fun _ hk => hk.2) (.slice Ao50 t504.length co50)) (fun _ hk => hk.2) (.slice Ao56 t507.length co56)) (fun _ h_ => h_.1))))) (Kd.R_lt (by (with_reducible repeat (first | apply Kd.R_alloc | apply Kd.R_drewN | apply Kd.R_drew)); exact (Kd.R_mono (Kd.R_far (p := ⟨gb511, 1, none⟩) (Kd.R_far (p := ⟨gb511, 0, none⟩) (Kd.R_types HO498.out BK511.out (by decide)) (fun _ hk => hk.2) (.slice Ao50 t504.length co50)) (fun _ hk => hk.2) (.slice Ao56 t507.length co56)) (fun _ h_ => h_.1))))) (Kd.R_lt (by (with_reducible repeat (first | apply Kd.R_alloc | apply Kd.R_drewN | apply Kd.R_drew)); exact (Kd.R_mono (Kd.R_far (p := ⟨gb511, 1, none⟩) (Kd.R_far (p := ⟨gb511, 0, none⟩) (Kd.R_types HO502.out BK511.out (by decide)) (fun _ hk => hk.2) (.slice Ao50 t504.length co50)) (fun _ hk => hk.2) (.slice Ao56 t507.length co56)) (fun _ h_ => h_.1))))) (below_size (by repeat (first | (with_reducible first | exact HB.out | apply below_alloc | apply pw_below_drewN | apply below_drew1 | refine below_set ?_ GE469.out | refine below_set ?_ GE479.out | refine below_set ?_ GE487.out | refine below_set ?_ GE495.out | refine below_set ?_ GE511.out) | exact HB.out)))); have n13_ := Aside0.mk (blk_below (g := gb469) (o := .cells #[.slice A0_0 l0_0.length c0_0, .slice A0_1 l0_1.length c0_1] 42 (0, 0)) (by (with_reducible repeat (first | refine blk_drewN ?_ _ | refine blk_drew ?_ | refine blk_alloc ?_ _)); refine blk_far ?_ NB469_511.out _; (with_reducible repeat (first | refine blk_drewN ?_ _ | refine blk_drew ?_ | refine blk_alloc ?_ _)); refine blk_far ?_ NB469_511.out _; (with_reducible repeat (first | refine blk_drewN ?_ _ | refine blk_drew ?_ | refine blk_alloc ?_ _)); exact BK469.out) hb); have n14_ := Aside0.mk (blk_below (g := gb479) (o := .cells #[.slice Ao22 t470.length co22, .slice Ao25 t473.length co25] 28 (0, 0)) (by (with_reducible repeat (first | refine blk_drewN ?_ _ | refine blk_drew ?_ | refine blk_alloc ?_ _)); refine blk_far ?_ NB479_511.out _; (with_reducible repeat (first | refine blk_drewN ?_ _ | refine blk_drew ?_ | refine blk_alloc ?_ _)); refine blk_far ?_ NB479_511.out _; (with_reducible repeat (first | refine blk_drewN ?_ _ | refine blk_drew ?_ | refine blk_alloc ?_ _)); exact BK479.out) hb); have n15_ := Aside0.mk (blk_below (g := gb487) (o := .cells #[.slice Ao29 t480.length co29, .slice Ao33 t483.length co33] 28 (0, 0)) (by (with_reducible repeat (first | refine blk_drewN ?_ _ | refine blk_drew ?_ | refine blk_alloc ?_ _)); refine blk_far ?_ NB487_511.out _; (with_reducible repeat (first | refine blk_drewN ?_ _ | refine blk_drew ?_ | refine blk_alloc ?_ _)); refine blk_far ?_ NB487_511.out _; (with_reducible repeat (first | refine blk_drewN ?_ _ | refine blk_drew ?_ | refine blk_alloc ?_ _)); exact BK487.out) hb); have n16_ := Aside0.mk (blk_below (g := gb495) (o := .cells #[.slice Ao37 t488.length co37, .slice Ao42 t491.length co42] 42 (0, 0)) (by (with_reducible repeat (first | refine blk_drewN ?_ _ | refine blk_drew ?_ | refine blk_alloc ?_ _)); refine blk_far ?_ NB495_511.out _; (with_reducible repeat (first | refine blk_drewN ?_ _ | refine blk_drew ?_ | refine blk_alloc ?_ _)); refine blk_far ?_ NB495_511.out _; (with_reducible repeat (first | refine blk_drewN ?_ _ | refine blk_drew ?_ | refine blk_alloc ?_ _)); exact BK495.out) hb); have n17_ := Aside0.mk (blk_below (g := gb511) (o := .cells #[.slice Ao50 t504.length co50, .slice Ao56 t507.length co56] 28 (0, 0)) (by (with_reducible repeat (first | refine blk_drewN ?_ _ | refine blk_drew ?_ | refine blk_alloc ?_ _)); refine blk_put (cs := #[.slice Ao50 t504.length co50, .slice none 0 0]) ?_ 1 _ rfl; (with_reducible repeat (first | refine blk_drewN ?_ _ | refine blk_drew ?_ | refine blk_alloc ?_ _)); refine blk_put (cs := #[.slice none 0 0, .slice none 0 0]) ?_ 0 _ rfl; (with_reducible repeat (first | refine blk_drewN ?_ _ | refine blk_drew ?_ | refine blk_alloc ?_ _)); exact BK511.out) hb); have n18_ := Aside0.mk (below_step (by repeat (first | (with_reducible first | exact HB.out | apply below_alloc | apply pw_below_drewN | apply below_drew1 | refine below_set ?_ GE469.out | refine below_set ?_ GE479.out | refine below_set ?_ GE487.out | refine below_set ?_ GE495.out | refine below_set ?_ GE511.out) | exact HB.out)) hb); clear HO472; clear HO475; clear HO478; clear HO482; clear HO485; clear HO490; clear HO493; clear HO498; clear HO502; clear HO506; clear HO509; clear BK469; clear BK479; clear BK487; clear BK495; clear BK511; clear HB; have HO472 := n0_; have HO475 := n1_; have HO478 := n2_; have HO482 := n3_; have HO485 := n4_; have HO490 := n5_; have HO493 := n6_; have HO498 := n7_; have HO502 := n8_; have HO506 := n9_; have HO509 := n10_; have HO514 := n11_; have HO517 := n12_; have BK469 := n13_; have BK479 := n14_; have BK487 := n15_; have BK495 := n16_; have BK511 := n17_; have HB := n18_; clear n0_ n1_ n2_ n3_ n4_ n5_ n6_ n7_ n8_ n9_ n10_ n11_ n12_ n13_ n14_ n15_ n16_ n17_ n18_; (try clear hb); (try clear hb2); (try clear hk); (try clear hi); (try clear ho0); (try clear ho1)) | ((with_reducible refine gate_dst (N := 23) rfl ?_); refine box_event ?hg (N := 23) ?hd (cs := #[.slice none 0 0, .slice none 0 0]) (t := 42) ?hr ?_; (case hd => rfl); (case hg => rfl); (case hr => first | (go_simp; done) | (go_simp; rfl)); intro gb519 hg w59 hbox hb; have n0_ := Aside0.mk (Kd.S_below (SU HO472.out) hb); have n1_ := Aside0.mk (Kd.S_below (SU HO475.out) hb); have n2_ := Aside0.mk (Kd.R_below (RU HO478.out) hb); have n3_ := Aside0.mk (Kd.S_below (SU HO482.out) hb); have n4_ := Aside0.mk (Kd.S_below (SU HO485.out) hb); have n5_ := Aside0.mk (Kd.S_below (SU HO490.out) hb); have n6_ := Aside0.mk (Kd.S_below (SU HO493.out) hb); have n7_ := Aside0.mk (Kd.R_below (RU HO498.out) hb); have n8_ := Aside0.mk (Kd.R_below (RU HO502.out) hb); have n9_ := Aside0.mk (Kd.S_below (SU HO506.out) hb); have n10_ := Aside0.mk (Kd.S_below (SU HO509.out) hb); have n11_ := Aside0.mk (Kd.S_below (SU HO514.out) hb); have n12_ := Aside0.mk (Kd.S_below (SU HO517.out) hb); have n13_ := Aside0.mk (blk_below (g := gb469) (o := .cells #[.slice A0_0 l0_0.length c0_0, .slice A0_1 l0_1.length c0_1] 42 (0, 0)) (BU BK469.out) hb); have n14_ := Aside0.mk (blk_below (g := gb479) (o := .cells #[.slice Ao22 t470.length co22, .slice Ao25 t473.length co25] 28 (0, 0)) (BU BK479.out) hb); have n15_ := Aside0.mk (blk_below (g := gb487) (o := .cells #[.slice Ao29 t480.length co29, .slice Ao33 t483.length co33] 28 (0, 0)) (BU BK487.out) hb); have n16_ := Aside0.mk (blk_below (g := gb495) (o := .cells #[.slice Ao37 t488.length co37, .slice Ao42 t491.length co42] 42 (0, 0)) (BU BK495.out) hb); have n17_ := Aside0.mk (blk_below (g := gb511) (o := .cells #[.slice Ao50 t504.length co50, .slice Ao56 t507.length co56] 28 (0, 0)) (BU BK511.out) hb); have n18_ := Aside0.mk (below_step (by repeat (first | (with_reducible first | exact HB.out | apply below_alloc | apply pw_below_drewN | apply below_drew1 | refine below_set ?_ GE469.out | refine below_set ?_ GE479.out | refine below_set ?_ GE487.out | refine below_set ?_ GE495.out | refine below_set ?_ GE511.out) | exact HB.out)) hb); have n19_ := Aside0.mk (hbox); have n20_ := Aside0.mk ((by rw [hg]; exact (below_size (by repeat (first | (with_reducible first | exact HB.out | apply below_alloc | apply pw_below_drewN | apply below_drew1 | refine below_set ?_ GE469.out | refine below_set ?_ GE479.out | refine below_set ?_ GE487.out | refine below_set ?_ GE495.out | refine below_set ?_ GE511.out) | exact HB.out))) : w.heap.size ≤ gb519)); have n21_ := Aside0.mk ((by rw [hg]; exact (below_size (by repeat (first | (with_reducible first | exact HB.out | apply below_alloc | apply pw_below_drewN | apply below_drew1 | refine below_set ?_ GE469.out | refine below_set ?_ GE479.out | refine below_set ?_ GE487.out | refine below_set ?_ GE495.out | refine below_set ?_ GE511.out) | exact HB.out))) : w.heap.size ≤ gb519)); have n22_ := Aside0.mk ((by rw [hg]; exact Nat.ne_of_lt (blk_lt (g := gb469) (o := .cells #[.slice A0_0 l0_0.length c0_0, .slice A0_1 l0_1.length c0_1] 42 (0, 0)) (BU BK469.out)) : gb469 ≠ gb519)); have n23_ := Aside0.mk ((by rw [hg]; exact Nat.ne_of_gt (blk_lt (g := gb469) (o := .cells #[.slice A0_0 l0_0.length c0_0, .slice A0_1 l0_1.length c0_1] 42 (0, 0)) (BU BK469.out)) : gb519 ≠ gb469)); have n24_ := Aside0.mk ((by rw [hg]; exact Nat.ne_of_lt (blk_lt (g := gb479) (o := .cells #[.slice Ao22 t470.length co22, .slice Ao25 t473.length co25] 28 (0, 0)) (BU BK479.out)) : gb479 ≠ gb519)); have n25_ := Aside0.mk ((by rw [hg]; exact Nat.ne_of_gt (blk_lt (g := gb479) (o := .cells #[.slice Ao22 t470.length co22, .slice Ao25 t473.length co25] 28 (0, 0)) (BU BK479.out)) : gb519 ≠ gb479)); have n26_ := Aside0.mk ((by rw [hg]; exact Nat.ne_of_lt (blk_lt (g := gb487) (o := .cells #[.slice Ao29 t480.length co29, .slice Ao33 t483.length co33] 28 (0, 0)) (BU BK487.out)) : gb487 ≠ gb519)); have n27_ := Aside0.mk ((by rw [hg]; exact Nat.ne_of_gt (blk_lt (g := gb487) (o := .cells #[.slice Ao29 t480.length co29, .slice Ao33 t483.length co33] 28 (0, 0)) (BU BK487.out)) : gb519 ≠ gb487)); have n28_ := Aside0.mk ((by rw [hg]; exact Nat.ne_of_lt (blk_lt (g := gb495) (o := .cells #[.slice Ao37 t488.length co37, .slice Ao42 t491.length co42] 42 (0, 0)) (BU BK495.out)) : gb495 ≠ gb519)); have n29_ := Aside0.mk ((by rw [hg]; exact Nat.ne_of_gt (blk_lt (g := gb495) (o := .cells #[.slice Ao37 t488.length co37, .slice Ao42 t491.length co42] 42 (0, 0)) (BU BK495.out)) : gb519 ≠ gb495)); have n30_ := Aside0.mk ((by rw [hg]; exact Nat.ne_of_lt (blk_lt (g := gb511) (o := .cells #[.slice Ao50 t504.length co50, .slice Ao56 t507.length co56] 28 (0, 0)) (BU BK511.out)) : gb511 ≠ gb519)); have n31_ := Aside0.mk ((by rw [hg]; exact Nat.ne_of_gt (blk_lt (g := gb511) (o := .cells #[.slice Ao50 t504.length co50, .slice Ao56 t507.length co56] 28 (0, 0)) (BU BK511.out)) : gb519 ≠ gb511)); clear HO472; clear HO475; clear HO478; clear HO482; clear HO485; clear HO490; clear HO493; clear HO498; clear HO502; clear HO506; clear HO509; clear HO514; clear HO517; clear BK469; clear BK479; clear BK487; clear BK495; clear BK511; clear HB; have HO472 := n0_; have HO475 := n1_; have HO478 := n2_; have HO482 := n3_; have HO485 := n4_; have HO490 := n5_; have HO493 := n6_; have HO498 := n7_; have HO502 := n8_; have HO506 := n9_; have HO509 := n10_; have HO514 := n11_; have HO517 := n12_; have BK469 := n13_; have BK479 := n14_; have BK487 := n15_; have BK495 := n16_; have BK511 := n17_; have HB := n18_; have BK519 := n19_; have GW519 := n20_; have GE519 := n21_; have NB469_519 := n22_; have NB519_469 := n23_; have NB479_519 := n24_; have NB519_479 := n25_; have NB487_519 := n26_; have NB519_487 := n27_; have NB495_519 := n28_; have NB519_495 := n29_; have NB511_519 := n30_; have NB519_511 := n31_; clear n0_ n1_ n2_ n3_ n4_ n5_ n6_ n7_ n8_ n9_ n10_ n11_ n12_ n13_ n14_ n15_ n16_ n17_ n18_ n19_ n20_ n21_ n22_ n23_ n24_ n25_ n26_ n27_ n28_ n29_ n30_ n31_; clear hb hbox hg; obtain ⟨Ao60, co60, eo60⟩ := Kd.S_slice HO514.out; subst eo60; have hnb61 := NB519_469.out; have hnc61 := NB469_519.out; have hnb62 := NB519_479.out; have hnc62 := NB479_519.out; have hnb63 := NB519_487.out; have hnc63 := NB487_519.out; have hnb64 := NB519_495.out; have hnc64 := NB495_519.out; have hnb65 := NB519_511.out; have hnc65 := NB511_519.out; have hcz66_0 : w59.cell? ⟨gb519, 0, none⟩ = some (.slice none 0 0) := (blk_cell BK519.out 0).trans rfl; have hcz66_1 : w59.cell? ⟨gb519, 1, none⟩ = some (.slice none 0 0) := (blk_cell BK519.out 1).trans rfl; have hfz66_0 := blk_frozen BK519.out 0; have hfz66_1 := blk_frozen BK519.out 1; obtain ⟨Ao67, co67, eo67⟩ := Kd.S_slice HO517.out; subst eo67; have hcz68_0 : w59.cell? ⟨gb479, 0, none⟩ = some (.slice Ao22 t470.length co22) := (blk_cell BK479.out 0).trans rfl; have hcz68_1 : w59.cell? ⟨gb479, 1, none⟩ = some (.slice Ao25 t473.length co25) := (blk_cell BK479.out 1).trans rfl; have hfz68_0 := blk_frozen BK479.out 0; have hfz68_1 := blk_frozen BK479.out 1) | ((with_reducible refine gate_callee (f := 19) rfl ?_); refine goesL_ (some 74) rfl rfl Try.func19 (by kernel_rfl) rfl #[.agg #[.slice Ao22 t470.length co22, .slice Ao25 t473.length co25], .int .i64 a1, .int .i64 a3, .int .u8 a4] rfl (by (try simp only [List.map_toArray, List.map_cons, List.map_nil]); first | done | rfl | (simp only [List.length_drop, List.length_take]; rfl)) ?_; (with_reducible refine (disk_Rot.calls k _ _ t470 _ _ t473 a1 a3 a4 t520 t523 t526 _ ?side1 ?side2 ?side3 ?side4 A14.out).mono ?_); (case side1 => refine (Kd.S_reads' (e := 50) (base := w.heap.size) (ok := fun k_ => (((((((True ∧ some k_ ≠ (.slice Ao26 t476.length co26 : Value).ownBlock) ∧ some k_ ≠ (.slice Ao29 t480.length co29 : Value).ownBlock) ∧ some k_ ≠ (.slice Ao37 t488.length co37 : Value).ownBlock) ∧ some k_ ≠ (v497 : Value).ownBlock) ∧ some k_ ≠ (v501 : Value).ownBlock) ∧ some k_ ≠ (.slice Ao50 t504.length co50 : Value).ownBlock) ∧ some k_ ≠ (.slice Ao60 t512.length co60 : Value).ownBlock)) (n := t470.length) (c := co22) ?_).2.2; exact (by (with_reducible repeat (first | apply Kd.S_alloc | apply Kd.S_drewN | apply Kd.S_drew)); exact (Kd.S_mono (Kd.S_far (p := ⟨gb519, 1, none⟩) (Kd.S_far (p := ⟨gb519, 0, none⟩) (Kd.S_types HO472.out BK519.out (by decide)) (fun _ hk => hk.2) (.slice Ao60 t512.length co60)) (fun _ hk => hk.2) (.slice Ao67 t515.length co67)) (fun _ h_ => h_.1)))); (case side2 => exact (Kd.S_reads' HO472.out).2.1); (case side3 => refine (Kd.S_reads' (e := 61) (base := w.heap.size) (ok := fun k_ => (((((True ∧ some k_ ≠ (.slice Ao26 t476.length co26 : Value).ownBlock) ∧ some k_ ≠ (.slice Ao33 t483.length co33 : Value).ownBlock) ∧ some k_ ≠ (v497 : Value).ownBlock) ∧ some k_ ≠ (v501 : Value).ownBlock) ∧ some k_ ≠ (.slice Ao56 t507.length co56 : Value).ownBlock)) (n := t473.length) (c := co25) ?_).2.2; exact (by (with_reducible repeat (first | apply Kd.S_alloc | apply Kd.S_drewN | apply Kd.S_drew)); exact (Kd.S_mono (Kd.S_far (p := ⟨gb519, 1, none⟩) (Kd.S_far (p := ⟨gb519, 0, none⟩) (Kd.S_types HO475.out BK519.out (by decide)) (fun _ hk => hk.2) (.slice Ao60 t512.length co60)) (fun _ hk => hk.2) (.slice Ao67 t515.length co67)) (fun _ h_ => h_.1)))); (case side4 => exact (Kd.S_reads' HO475.out).2.1); rintro e w69 ⟨v521, v524, rfl, ho0, ho1, hb⟩; refine ⟨_, rfl, ?_⟩; have n0_ := Aside0.mk (Kd.S_elder' (by (with_reducible repeat (first | apply Kd.S_alloc | apply Kd.S_drewN | apply Kd.S_drew)); exact (Kd.S_mono (Kd.S_far (p := ⟨gb519, 1, none⟩) (Kd.S_far (p := ⟨gb519, 0, none⟩) (Kd.S_types HO472.out BK519.out (by decide)) (fun _ hk => hk.2) (.slice Ao60 t512.length co60)) (fun _ hk => hk.2) (.slice Ao67 t515.length co67)) (fun _ h_ => h_.1))) (Kd.S_base ho0) hb); have n1_ := Aside0.mk (Kd.S_elder' (by (with_reducible repeat (first | apply Kd.S_alloc | apply Kd.S_drewN | apply Kd.S_drew)); exact (Kd.S_mono (Kd.S_far (p := ⟨gb519, 1, none⟩) (Kd.S_far (p := ⟨gb519, 0, none⟩) (Kd.S_types HO475.out BK519.out (by decide)) (fun _ hk => hk.2) (.slice Ao60 t512.length co60)) (fun _ hk => hk.2) (.slice Ao67 t515.length co67)) (fun _ h_ => h_.1))) (Kd.S_base ho1) hb); have n2_ := Aside0.mk (Kd.R_below (by (with_reducible repeat (first | apply Kd.R_alloc | apply Kd.R_drewN | apply Kd.R_drew)); exact (Kd.R_mono (Kd.R_far (p := ⟨gb519, 1, none⟩) (Kd.R_far (p := ⟨gb519, 0, none⟩) (Kd.R_types HO478.out BK519.out (by decide)) (fun _ hk => hk.2) (.slice Ao60 t512.length co60)) (fun _ hk => hk.2) (.slice Ao67 t515.length co67)) (fun _ h_ => h_.1))) hb); have n3_ := Aside0.mk (Kd.S_elder' (by (with_reducible repeat (first | apply Kd.S_alloc | apply Kd.S_drewN | apply Kd.S_drew)); exact (Kd.S_mono (Kd.S_far (p := ⟨gb519, 1, none⟩) (Kd.S_far (p := ⟨gb519, 0, none⟩) (Kd.S_types HO482.out BK519.out (by decide)) (fun _ hk => hk.2) (.slice Ao60 t512.length co60)) (fun _ hk => hk.2) (.slice Ao67 t515.length co67)) (fun _ h_ => h_.1))) (Kd.S_base ho0) hb); have n4_ := Aside0.mk (Kd.S_elder' (by (with_reducible repeat (first | apply Kd.S_alloc | apply Kd.S_drewN | apply Kd.S_drew)); exact (Kd.S_mono (Kd.S_far (p := ⟨gb519, 1, none⟩) (Kd.S_far (p := ⟨gb519, 0, none⟩) (Kd.S_types HO485.out BK519.out (by decide)) (fun _ hk => hk.2) (.slice Ao60 t512.length co60)) (fun _ hk => hk.2) (.slice Ao67 t515.length co67)) (fun _ h_ => h_.1))) (Kd.S_base ho1) hb); have n5_ := Aside0.mk (Kd.S_elder' (by (with_reducible repeat (first | apply Kd.S_alloc | apply Kd.S_drewN | apply Kd.S_drew)); exact (Kd.S_mono (Kd.S_far (p := ⟨gb519, 1, none⟩) (Kd.S_far (p := ⟨gb519, 0, none⟩) (Kd.S_types HO490.out BK519.out (by decide)) (fun _ hk => hk.2) (.slice Ao60 t512.length co60)) (fun _ hk => hk.2) (.slice Ao67 t515.length co67)) (fun _ h_ => h_.1))) (Kd.S_base ho0) hb); have n6_ := Aside0.mk (Kd.S_below (by (with_reducible repeat (first | apply Kd.S_alloc | apply Kd.S_drewN | apply Kd.S_drew)); exact (Kd.S_mono (Kd.S_far (p := ⟨gb519, 1, none⟩) (Kd.S_far (p := ⟨gb519, 0, none⟩) (Kd.S_types HO493.out BK519.out (by decide)) (fun _ hk => hk.2) (.slice Ao60 t512.length co60)) (fun _ hk => hk.2) (.slice Ao67 t515.length co67)) (fun _ h_ => h_.1))) hb); have n7_ := Aside0.mk (Kd.R_below (by (with_reducible repeat (first | apply Kd.R_alloc | apply Kd.R_drewN | apply Kd.R_drew)); exact (Kd.R_mono (Kd.R_far (p := ⟨gb519, 1, none⟩) (Kd.R_far (p := ⟨gb519, 0, none⟩) (Kd.R_types HO498.out BK519.out (by decide)) (fun _ hk => hk.2) (.slice Ao60 t512.length co60)) (fun _ hk => hk.2) (.slice Ao67 t515.length co67)) (fun _ h_ => h_.1))) hb); have n8_ := Aside0.mk (Kd.R_below (by (with_reducible repeat (first | apply Kd.R_alloc | apply Kd.R_drewN | apply Kd.R_drew)); exact (Kd.R_mono (Kd.R_far (p := ⟨gb519, 1, none⟩) (Kd.R_far (p := ⟨gb519, 0, none⟩) (Kd.R_types HO502.out BK519.out (by decide)) (fun _ hk => hk.2) (.slice Ao60 t512.length co60)) (fun _ hk => hk.2) (.slice Ao67 t515.length co67)) (fun _ h_ => h_.1))) hb); have n9_ := Aside0.mk (Kd.S_elder' (by (with_reducible repeat (first | apply Kd.S_alloc | apply Kd.S_drewN | apply Kd.S_drew)); exact (Kd.S_mono (Kd.S_far (p := ⟨gb519, 1, none⟩) (Kd.S_far (p := ⟨gb519, 0, none⟩) (Kd.S_types HO506.out BK519.out (by decide)) (fun _ hk => hk.2) (.slice Ao60 t512.length co60)) (fun _ hk => hk.2) (.slice Ao67 t515.length co67)) (fun _ h_ => h_.1))) (Kd.S_base ho0) hb); have n10_ := Aside0.mk (Kd.S_elder' (by (with_reducible repeat (first | apply Kd.S_alloc | apply Kd.S_drewN | apply Kd.S_drew)); exact (Kd.S_mono (Kd.S_far (p := ⟨gb519, 1, none⟩) (Kd.S_far (p := ⟨gb519, 0, none⟩) (Kd.S_types HO509.out BK519.out (by decide)) (fun _ hk => hk.2) (.slice Ao60 t512.length co60)) (fun _ hk => hk.2) (.slice Ao67 t515.length co67)) (fun _ h_ => h_.1))) (Kd.S_base ho1) hb); have n11_ := Aside0.mk (Kd.S_elder' (by (with_reducible repeat (first | apply Kd.S_alloc | apply Kd.S_drewN | apply Kd.S_drew)); exact (Kd.S_mono (Kd.S_far (p := ⟨gb519, 1, none⟩) (Kd.S_far (p := ⟨gb519, 0, none⟩) (Kd.S_types HO514.out BK519.out (by decide)) (fun _ hk => hk.2) (.slice Ao60 t512.length co60)) (fun _ hk => hk.2) (.slice Ao67 t515.length co67)) (fun _ h_ => h_.1))) (Kd.S_base ho0) hb); have n12_ := Aside0.mk (Kd.S_below (by (with_reducible repeat (first | apply Kd.S_alloc | apply Kd.S_drewN | apply Kd.S_drew)); exact (Kd.S_mono (Kd.S_far (p := ⟨gb519, 1, none⟩) (Kd.S_far (p := ⟨gb519, 0, none⟩) (Kd.S_types HO517.out BK519.out (by decide)) (fun _ hk => hk.2) (.slice Ao60 t512.length co60)) (fun _ hk => hk.2) (.slice Ao67 t515.length co67)) (fun _ h_ => h_.1))) hb); have n13_ := Aside0.mk (Kd.S_lower (Kd.S_new' (Kd.S_new' (Kd.S_new' (Kd.S_new' (Kd.S_new' (Kd.S_new' (Kd.S_new' (Kd.S_new' ho0 (Kd.S_lt (by (with_reducible repeat (first | apply Kd.S_alloc | apply Kd.S_drewN | apply Kd.S_drew)); exact (Kd.S_mono (Kd.S_far (p := ⟨gb519, 1, none⟩) (Kd.S_far (p := ⟨gb519, 0, none⟩) (Kd.S_types HO472.out BK519.out (by decide)) (fun _ hk => hk.2) (.slice Ao60 t512.length co60)) (fun _ hk => hk.2) (.slice Ao67 t515.length co67)) (fun _ h_ => h_.1))))) (Kd.R_lt (by (with_reducible repeat (first | apply Kd.R_alloc | apply Kd.R_drewN | apply Kd.R_drew)); exact (Kd.R_mono (Kd.R_far (p := ⟨gb519, 1, none⟩) (Kd.R_far (p := ⟨gb519, 0, none⟩) (Kd.R_types HO478.out BK519.out (by decide)) (fun _ hk => hk.2) (.slice Ao60 t512.length co60)) (fun _ hk => hk.2) (.slice Ao67 t515.length co67)) (fun _ h_ => h_.1))))) (Kd.S_lt (by (with_reducible repeat (first | apply Kd.S_alloc | apply Kd.S_drewN | apply Kd.S_drew)); exact (Kd.S_mono (Kd.S_far (p := ⟨gb519, 1, none⟩) (Kd.S_far (p := ⟨gb519, 0, none⟩) (Kd.S_types HO482.out BK519.out (by decide)) (fun _ hk => hk.2) (.slice Ao60 t512.length co60)) (fun _ hk => hk.2) (.slice Ao67 t515.length co67)) (fun _ h_ => h_.1))))) (Kd.S_lt (by (with_reducible repeat (first | apply Kd.S_alloc | apply Kd.S_drewN | apply Kd.S_drew)); exact (Kd.S_mono (Kd.S_far (p := ⟨gb519, 1, none⟩) (Kd.S_far (p := ⟨gb519, 0, none⟩) (Kd.S_types HO490.out BK519.out (by decide)) (fun _ hk => hk.2) (.slice Ao60 t512.length co60)) (fun _ hk => hk.2) (.slice Ao67 t515.length co67)) (fun _ h_ => h_.1))))) (Kd.R_lt (by (with_reducible repeat (first | apply Kd.R_alloc | apply Kd.R_drewN | apply Kd.R_drew)); exact (Kd.R_mono (Kd.R_far (p := ⟨gb519, 1, none⟩) (Kd.R_far (p := ⟨gb519, 0, none⟩) (Kd.R_types HO498.out BK519.out (by decide)) (fun _ hk => hk.2) (.slice Ao60 t512.length co60)) (fun _ hk => hk.2) (.slice Ao67 t515.length co67)) (fun _ h_ => h_.1))))) (Kd.R_lt (by (with_reducible repeat (first | apply Kd.R_alloc | apply Kd.R_drewN | apply Kd.R_drew)); exact (Kd.R_mono (Kd.R_far (p := ⟨gb519, 1, none⟩) (Kd.R_far (p := ⟨gb519, 0, none⟩) (Kd.R_types HO502.out BK519.out (by decide)) (fun _ hk => hk.2) (.slice Ao60 t512.length co60)) (fun _ hk => hk.2) (.slice Ao67 t515.length co67)) (fun _ h_ => h_.1))))) (Kd.S_lt (by (with_reducible repeat (first | apply Kd.S_alloc | apply Kd.S_drewN | apply Kd.S_drew)); exact (Kd.S_mono (Kd.S_far (p := ⟨gb519, 1, none⟩) (Kd.S_far (p := ⟨gb519, 0, none⟩) (Kd.S_types HO506.out BK519.out (by decide)) (fun _ hk => hk.2) (.slice Ao60 t512.length co60)) (fun _ hk => hk.2) (.slice Ao67 t515.length co67)) (fun _ h_ => h_.1))))) (Kd.S_lt (by (with_reducible repeat (first | apply Kd.S_alloc | apply Kd.S_drewN | apply Kd.S_drew)); exact (Kd.S_mono (Kd.S_far (p := ⟨gb519, 1, none⟩) (Kd.S_far (p := ⟨gb519, 0, none⟩) (Kd.S_types HO514.out BK519.out (by decide)) (fun _ hk => hk.2) (.slice Ao60 t512.length co60)) (fun _ hk => hk.2) (.slice Ao67 t515.length co67)) (fun _ h_ => h_.1))))) (below_size (by repeat (first | (with_reducible first | exact HB.out | apply below_alloc | apply pw_below_drewN | apply below_drew1 | refine below_set ?_ GE469.out | refine below_set ?_ GE479.out | refine below_set ?_ GE487.out | refine below_set ?_ GE495.out | refine below_set ?_ GE511.out | refine below_set ?_ GE519.out) | exact HB.out)))); have n14_ := Aside0.mk (Kd.S_lower (Kd.S_new' (Kd.S_new' (Kd.S_new' (Kd.S_new' (Kd.S_new' (Kd.S_new' ho1 (Kd.S_lt (by (with_reducible repeat (first | apply Kd.S_alloc | apply Kd.S_drewN | apply Kd.S_drew)); exact (Kd.S_mono (Kd.S_far (p := ⟨gb519, 1, none⟩) (Kd.S_far (p := ⟨gb519, 0, none⟩) (Kd.S_types HO475.out BK519.out (by decide)) (fun _ hk => hk.2) (.slice Ao60 t512.length co60)) (fun _ hk => hk.2) (.slice Ao67 t515.length co67)) (fun _ h_ => h_.1))))) (Kd.R_lt (by (with_reducible repeat (first | apply Kd.R_alloc | apply Kd.R_drewN | apply Kd.R_drew)); exact (Kd.R_mono (Kd.R_far (p := ⟨gb519, 1, none⟩) (Kd.R_far (p := ⟨gb519, 0, none⟩) (Kd.R_types HO478.out BK519.out (by decide)) (fun _ hk => hk.2) (.slice Ao60 t512.length co60)) (fun _ hk => hk.2) (.slice Ao67 t515.length co67)) (fun _ h_ => h_.1))))) (Kd.S_lt (by (with_reducible repeat (first | apply Kd.S_alloc | apply Kd.S_drewN | apply Kd.S_drew)); exact (Kd.S_mono (Kd.S_far (p := ⟨gb519, 1, none⟩) (Kd.S_far (p := ⟨gb519, 0, none⟩) (Kd.S_types HO485.out BK519.out (by decide)) (fun _ hk => hk.2) (.slice Ao60 t512.length co60)) (fun _ hk => hk.2) (.slice Ao67 t515.length co67)) (fun _ h_ => h_.1))))) (Kd.R_lt (by (with_reducible repeat (first | apply Kd.R_alloc | apply Kd.R_drewN | apply Kd.R_drew)); exact (Kd.R_mono (Kd.R_far (p := ⟨gb519, 1, none⟩) (Kd.R_far (p := ⟨gb519, 0, none⟩) (Kd.R_types HO498.out BK519.out (by decide)) (fun _ hk => hk.2) (.slice Ao60 t512.length co60)) (fun _ hk => hk.2) (.slice Ao67 t515.length co67)) (fun _ h_ => h_.1))))) (Kd.R_lt (by (with_reducible repeat (first | apply Kd.R_alloc | apply Kd.R_drewN | apply Kd.R_drew)); exact (Kd.R_mono (Kd.R_far (p := ⟨gb519, 1, none⟩) (Kd.R_far (p := ⟨gb519, 0, none⟩) (Kd.R_types HO502.out BK519.out (by decide)) (fun _ hk => hk.2) (.slice Ao60 t512.length co60)) (fun _ hk => hk.2) (.slice Ao67 t515.length co67)) (fun _ h_ => h_.1))))) (Kd.S_lt (by (with_reducible repeat (first | apply Kd.S_alloc | apply Kd.S_drewN | apply Kd.S_drew)); exact (Kd.S_mono (Kd.S_far (p := ⟨gb519, 1, none⟩) (Kd.S_far (p := ⟨gb519, 0, none⟩) (Kd.S_types HO509.out BK519.out (by decide)) (fun _ hk => hk.2) (.slice Ao60 t512.length co60)) (fun _ hk => hk.2) (.slice Ao67 t515.length co67)) (fun _ h_ => h_.1))))) (below_size (by repeat (first | (with_reducible first | exact HB.out | apply below_alloc | apply pw_below_drewN | apply below_drew1 | refine below_set ?_ GE469.out | refine below_set ?_ GE479.out | refine below_set ?_ GE487.out | refine below_set ?_ GE495.out | refine below_set ?_ GE511.out | refine below_set ?_ GE519.out) | exact HB.out)))); have n15_ := Aside0.mk (blk_below (g := gb469) (o := .cells #[.slice A0_0 l0_0.length c0_0, .slice A0_1 l0_1.length c0_1] 42 (0, 0)) (by (with_reducible repeat (first | refine blk_drewN ?_ _ | refine blk_drew ?_ | refine blk_alloc ?_ _)); refine blk_far ?_ NB469_519.out _; (with_reducible repeat (first | refine blk_drewN ?_ _ | refine blk_drew ?_ | refine blk_alloc ?_ _)); refine blk_far ?_ NB469_519.out _; (with_reducible repeat (first | refine blk_drewN ?_ _ | refine blk_drew ?_ | refine blk_alloc ?_ _)); exact BK469.out) hb); have n16_ := Aside0.mk (blk_below (g := gb479) (o := .cells #[.slice Ao22 t470.length co22, .slice Ao25 t473.length co25] 28 (0, 0)) (by (with_reducible repeat (first | refine blk_drewN ?_ _ | refine blk_drew ?_ | refine blk_alloc ?_ _)); refine blk_far ?_ NB479_519.out _; (with_reducible repeat (first | refine blk_drewN ?_ _ | refine blk_drew ?_ | refine blk_alloc ?_ _)); refine blk_far ?_ NB479_519.out _; (with_reducible repeat (first | refine blk_drewN ?_ _ | refine blk_drew ?_ | refine blk_alloc ?_ _)); exact BK479.out) hb); have n17_ := Aside0.mk (blk_below (g := gb487) (o := .cells #[.slice Ao29 t480.length co29, .slice Ao33 t483.length co33] 28 (0, 0)) (by (with_reducible repeat (first | refine blk_drewN ?_ _ | refine blk_drew ?_ | refine blk_alloc ?_ _)); refine blk_far ?_ NB487_519.out _; (with_reducible repeat (first | refine blk_drewN ?_ _ | refine blk_drew ?_ | refine blk_alloc ?_ _)); refine blk_far ?_ NB487_519.out _; (with_reducible repeat (first | refine blk_drewN ?_ _ | refine blk_drew ?_ | refine blk_alloc ?_ _)); exact BK487.out) hb); have n18_ := Aside0.mk (blk_below (g := gb495) (o := .cells #[.slice Ao37 t488.length co37, .slice Ao42 t491.length co42] 42 (0, 0)) (by (with_reducible repeat (first | refine blk_drewN ?_ _ | refine blk_drew ?_ | refine blk_alloc ?_ _)); refine blk_far ?_ NB495_519.out _; (with_reducible repeat (first | refine blk_drewN ?_ _ | refine blk_drew ?_ | refine blk_alloc ?_ _)); refine blk_far ?_ NB495_519.out _; (with_reducible repeat (first | refine blk_drewN ?_ _ | refine blk_drew ?_ | refine blk_alloc ?_ _)); exact BK495.out) hb); have n19_ := Aside0.mk (blk_below (g := gb511) (o := .cells #[.slice Ao50 t504.length co50, .slice Ao56 t507.length co56] 28 (0, 0)) (by (with_reducible repeat (first | refine blk_drewN ?_ _ | refine blk_drew ?_ | refine blk_alloc ?_ _)); refine blk_far ?_ NB511_519.out _; (with_reducible repeat (first | refine blk_drewN ?_ _ | refine blk_drew ?_ | refine blk_alloc ?_ _)); refine blk_far ?_ NB511_519.out _; (with_reducible repeat (first | refine blk_drewN ?_ _ | refine blk_drew ?_ | refine blk_alloc ?_ _)); exact BK511.out) hb); have n20_ := Aside0.mk (blk_below (g := gb519) (o := .cells #[.slice Ao60 t512.length co60, .slice Ao67 t515.length co67] 42 (0, 0)) (by (with_reducible repeat (first | refine blk_drewN ?_ _ | refine blk_drew ?_ | refine blk_alloc ?_ _)); refine blk_put (cs := #[.slice Ao60 t512.length co60, .slice none 0 0]) ?_ 1 _ rfl; (with_reducible repeat (first | refine blk_drewN ?_ _ | refine blk_drew ?_ | refine blk_alloc ?_ _)); refine blk_put (cs := #[.slice none 0 0, .slice none 0 0]) ?_ 0 _ rfl; (with_reducible repeat (first | refine blk_drewN ?_ _ | refine blk_drew ?_ | refine blk_alloc ?_ _)); exact BK519.out) hb); have n21_ := Aside0.mk (below_step (by repeat (first | (with_reducible first | exact HB.out | apply below_alloc | apply pw_below_drewN | apply below_drew1 | refine below_set ?_ GE469.out | refine below_set ?_ GE479.out | refine below_set ?_ GE487.out | refine below_set ?_ GE495.out | refine below_set ?_ GE511.out | refine below_set ?_ GE519.out) | exact HB.out)) hb); clear HO472; clear HO475; clear HO478; clear HO482; clear HO485; clear HO490; clear HO493; clear HO498; clear HO502; clear HO506; clear HO509; clear HO514; clear HO517; clear BK469; clear BK479; clear BK487; clear BK495; clear BK511; clear BK519; clear HB; have HO472 := n0_; have HO475 := n1_; have HO478 := n2_; have HO482 := n3_; have HO485 := n4_; have HO490 := n5_; have HO493 := n6_; have HO498 := n7_; have HO502 := n8_; have HO506 := n9_; have HO509 := n10_; have HO514 := n11_; have HO517 := n12_; have HO522 := n13_; have HO525 := n14_; have BK469 := n15_; have BK479 := n16_; have BK487 := n17_; have BK495 := n18_; have BK511 := n19_; have BK519 := n20_; have HB := n21_; clear n0_ n1_ n2_ n3_ n4_ n5_ n6_ n7_ n8_ n9_ n10_ n11_ n12_ n13_ n14_ n15_ n16_ n17_ n18_ n19_ n20_ n21_; (try clear hb); (try clear hb2); (try clear hk); (try clear hi); (try clear ho0); (try clear ho1)) | ((with_reducible refine gate_dst (N := 25) rfl ?_); refine box_event ?hg (N := 25) ?hd (cs := #[.slice none 0 0, .slice none 0 0]) (t := 28) ?hr ?_; (case hd => rfl); (case hg => rfl); (case hr => first | (go_simp; done) | (go_simp; rfl)); intro gb527 hg w70 hbox hb; have n0_ := Aside0.mk (Kd.S_below (SU HO472.out) hb); have n1_ := Aside0.mk (Kd.S_below (SU HO475.out) hb); have n2_ := Aside0.mk (Kd.R_below (RU HO478.out) hb); have n3_ := Aside0.mk (Kd.S_below (SU HO482.out) hb); have n4_ := Aside0.mk (Kd.S_below (SU HO485.out) hb); have n5_ := Aside0.mk (Kd.S_below (SU HO490.out) hb); have n6_ := Aside0.mk (Kd.S_below (SU HO493.out) hb); have n7_ := Aside0.mk (Kd.R_below (RU HO498.out) hb); have n8_ := Aside0.mk (Kd.R_below (RU HO502.out) hb); have n9_ := Aside0.mk (Kd.S_below (SU HO506.out) hb); have n10_ := Aside0.mk (Kd.S_below (SU HO509.out) hb); have n11_ := Aside0.mk (Kd.S_below (SU HO514.out) hb); have n12_ := Aside0.mk (Kd.S_below (SU HO517.out) hb); have n13_ := Aside0.mk (Kd.S_below (SU HO522.out) hb); have n14_ := Aside0.mk (Kd.S_below (SU HO525.out) hb); have n15_ := Aside0.mk (blk_below (g := gb469) (o := .cells #[.slice A0_0 l0_0.length c0_0, .slice A0_1 l0_1.length c0_1] 42 (0, 0)) (BU BK469.out) hb); have n16_ := Aside0.mk (blk_below (g := gb479) (o := .cells #[.slice Ao22 t470.length co22, .slice Ao25 t473.length co25] 28 (0, 0)) (BU BK479.out) hb); have n17_ := Aside0.mk (blk_below (g := gb487) (o := .cells #[.slice Ao29 t480.length co29, .slice Ao33 t483.length co33] 28 (0, 0)) (BU BK487.out) hb); have n18_ := Aside0.mk (blk_below (g := gb495) (o := .cells #[.slice Ao37 t488.length co37, .slice Ao42 t491.length co42] 42 (0, 0)) (BU BK495.out) hb); have n19_ := Aside0.mk (blk_below (g := gb511) (o := .cells #[.slice Ao50 t504.length co50, .slice Ao56 t507.length co56] 28 (0, 0)) (BU BK511.out) hb); have n20_ := Aside0.mk (blk_below (g := gb519) (o := .cells #[.slice Ao60 t512.length co60, .slice Ao67 t515.length co67] 42 (0, 0)) (BU BK519.out) hb); have n21_ := Aside0.mk (below_step (by repeat (first | (with_reducible first | exact HB.out | apply below_alloc | apply pw_below_drewN | apply below_drew1 | refine below_set ?_ GE469.out | refine below_set ?_ GE479.out | refine below_set ?_ GE487.out | refine below_set ?_ GE495.out | refine below_set ?_ GE511.out | refine below_set ?_ GE519.out) | exact HB.out)) hb); have n22_ := Aside0.mk (hbox); have n23_ := Aside0.mk ((by rw [hg]; exact (below_size (by repeat (first | (with_reducible first | exact HB.out | apply below_alloc | apply pw_below_drewN | apply below_drew1 | refine below_set ?_ GE469.out | refine below_set ?_ GE479.out | refine below_set ?_ GE487.out | refine below_set ?_ GE495.out | refine below_set ?_ GE511.out | refine below_set ?_ GE519.out) | exact HB.out))) : w.heap.size ≤ gb527)); have n24_ := Aside0.mk ((by rw [hg]; exact (below_size (by repeat (first | (with_reducible first | exact HB.out | apply below_alloc | apply pw_below_drewN | apply below_drew1 | refine below_set ?_ GE469.out | refine below_set ?_ GE479.out | refine below_set ?_ GE487.out | refine below_set ?_ GE495.out | refine below_set ?_ GE511.out | refine below_set ?_ GE519.out) | exact HB.out))) : w.heap.size ≤ gb527)); have n25_ := Aside0.mk ((by rw [hg]; exact Nat.ne_of_lt (blk_lt (g := gb469) (o := .cells #[.slice A0_0 l0_0.length c0_0, .slice A0_1 l0_1.length c0_1] 42 (0, 0)) (BU BK469.out)) : gb469 ≠ gb527)); have n26_ := Aside0.mk ((by rw [hg]; exact Nat.ne_of_gt (blk_lt (g := gb469) (o := .cells #[.slice A0_0 l0_0.length c0_0, .slice A0_1 l0_1.length c0_1] 42 (0, 0)) (BU BK469.out)) : gb527 ≠ gb469)); have n27_ := Aside0.mk ((by rw [hg]; exact Nat.ne_of_lt (blk_lt (g := gb479) (o := .cells #[.slice Ao22 t470.length co22, .slice Ao25 t473.length co25] 28 (0, 0)) (BU BK479.out)) : gb479 ≠ gb527)); have n28_ := Aside0.mk ((by rw [hg]; exact Nat.ne_of_gt (blk_lt (g := gb479) (o := .cells #[.slice Ao22 t470.length co22, .slice Ao25 t473.length co25] 28 (0, 0)) (BU BK479.out)) : gb527 ≠ gb479)); have n29_ := Aside0.mk ((by rw [hg]; exact Nat.ne_of_lt (blk_lt (g := gb487) (o := .cells #[.slice Ao29 t480.length co29, .slice Ao33 t483.length co33] 28 (0, 0)) (BU BK487.out)) : gb487 ≠ gb527)); have n30_ := Aside0.mk ((by rw [hg]; exact Nat.ne_of_gt (blk_lt (g := gb487) (o := .cells #[.slice Ao29 t480.length co29, .slice Ao33 t483.length co33] 28 (0, 0)) (BU BK487.out)) : gb527 ≠ gb487)); have n31_ := Aside0.mk ((by rw [hg]; exact Nat.ne_of_lt (blk_lt (g := gb495) (o := .cells #[.slice Ao37 t488.length co37, .slice Ao42 t491.length co42] 42 (0, 0)) (BU BK495.out)) : gb495 ≠ gb527)); have n32_ := Aside0.mk ((by rw [hg]; exact Nat.ne_of_gt (blk_lt (g := gb495) (o := .cells #[.slice Ao37 t488.length co37, .slice Ao42 t491.length co42] 42 (0, 0)) (BU BK495.out)) : gb527 ≠ gb495)); have n33_ := Aside0.mk ((by rw [hg]; exact Nat.ne_of_lt (blk_lt (g := gb511) (o := .cells #[.slice Ao50 t504.length co50, .slice Ao56 t507.length co56] 28 (0, 0)) (BU BK511.out)) : gb511 ≠ gb527)); have n34_ := Aside0.mk ((by rw [hg]; exact Nat.ne_of_gt (blk_lt (g := gb511) (o := .cells #[.slice Ao50 t504.length co50, .slice Ao56 t507.length co56] 28 (0, 0)) (BU BK511.out)) : gb527 ≠ gb511)); have n35_ := Aside0.mk ((by rw [hg]; exact Nat.ne_of_lt (blk_lt (g := gb519) (o := .cells #[.slice Ao60 t512.length co60, .slice Ao67 t515.length co67] 42 (0, 0)) (BU BK519.out)) : gb519 ≠ gb527)); have n36_ := Aside0.mk ((by rw [hg]; exact Nat.ne_of_gt (blk_lt (g := gb519) (o := .cells #[.slice Ao60 t512.length co60, .slice Ao67 t515.length co67] 42 (0, 0)) (BU BK519.out)) : gb527 ≠ gb519)); clear HO472; clear HO475; clear HO478; clear HO482; clear HO485; clear HO490; clear HO493; clear HO498; clear HO502; clear HO506; clear HO509; clear HO514; clear HO517; clear HO522; clear HO525; clear BK469; clear BK479; clear BK487; clear BK495; clear BK511; clear BK519; clear HB; have HO472 := n0_; have HO475 := n1_; have HO478 := n2_; have HO482 := n3_; have HO485 := n4_; have HO490 := n5_; have HO493 := n6_; have HO498 := n7_; have HO502 := n8_; have HO506 := n9_; have HO509 := n10_; have HO514 := n11_; have HO517 := n12_; have HO522 := n13_; have HO525 := n14_; have BK469 := n15_; have BK479 := n16_; have BK487 := n17_; have BK495 := n18_; have BK511 := n19_; have BK519 := n20_; have HB := n21_; have BK527 := n22_; have GW527 := n23_; have GE527 := n24_; have NB469_527 := n25_; have NB527_469 := n26_; have NB479_527 := n27_; have NB527_479 := n28_; have NB487_527 := n29_; have NB527_487 := n30_; have NB495_527 := n31_; have NB527_495 := n32_; have NB511_527 := n33_; have NB527_511 := n34_; have NB519_527 := n35_; have NB527_519 := n36_; clear n0_ n1_ n2_ n3_ n4_ n5_ n6_ n7_ n8_ n9_ n10_ n11_ n12_ n13_ n14_ n15_ n16_ n17_ n18_ n19_ n20_ n21_ n22_ n23_ n24_ n25_ n26_ n27_ n28_ n29_ n30_ n31_ n32_ n33_ n34_ n35_ n36_; clear hb hbox hg; obtain ⟨Ao71, co71, eo71⟩ := Kd.S_slice HO522.out; subst eo71; have hnb72 := NB527_469.out; have hnc72 := NB469_527.out; have hnb73 := NB527_479.out; have hnc73 := NB479_527.out; have hnb74 := NB527_487.out; have hnc74 := NB487_527.out; have hnb75 := NB527_495.out; have hnc75 := NB495_527.out; have hnb76 := NB527_511.out; have hnc76 := NB511_527.out; have hnb77 := NB527_519.out; have hnc77 := NB519_527.out; have hcz78_0 : w70.cell? ⟨gb527, 0, none⟩ = some (.slice none 0 0) := (blk_cell BK527.out 0).trans rfl; have hcz78_1 : w70.cell? ⟨gb527, 1, none⟩ = some (.slice none 0 0) := (blk_cell BK527.out 1).trans rfl; have hfz78_0 := blk_frozen BK527.out 0; have hfz78_1 := blk_frozen BK527.out 1; obtain ⟨Ao79, co79, eo79⟩ := Kd.S_slice HO525.out; subst eo79; have hcz80_0 : w70.cell? ⟨gb469, 0, none⟩ = some (.slice A0_0 l0_0.length c0_0) := (blk_cell BK469.out 0).trans rfl; have hcz80_1 : w70.cell? ⟨gb469, 1, none⟩ = some (.slice A0_1 l0_1.length c0_1) := (blk_cell BK469.out 1).trans rfl; have hfz80_0 := blk_frozen BK469.out 0; have hfz80_1 := blk_frozen BK469.out 1) | ((with_reducible refine gate_callee (f := 38) rfl ?_); refine goesL_ (some 82) rfl rfl Try.func38 (by kernel_rfl) rfl #[.agg #[.slice A0_0 l0_0.length c0_0, .slice A0_1 l0_1.length c0_1], .int .i64 a1, .int .i64 a3, .int .u8 a4] rfl (by (try simp only [List.map_toArray, List.map_cons, List.map_nil]); first | done | rfl | (simp only [List.length_drop, List.length_take]; rfl)) ?_; (with_reducible refine (transeptref04_Rot.calls k _ _ l0_0 _ _ l0_1 a1 a3 a4 t528 t531 t534 _ ?side1 ?side2 ?side3 ?side4 A15.out).mono ?_); (case side1 => exact Kd.C_below HR0_0.out (by repeat (first | (with_reducible first | exact HB.out | apply below_alloc | apply pw_below_drewN | apply below_drew1 | refine below_set ?_ GE469.out | refine below_set ?_ GE479.out | refine below_set ?_ GE487.out | refine below_set ?_ GE495.out | refine below_set ?_ GE511.out | refine below_set ?_ GE519.out | refine below_set ?_ GE527.out) | exact HB.out))); (case side2 => exact HC0_0.out); (case side3 => exact Kd.C_below HR0_1.out (by repeat (first | (with_reducible first | exact HB.out | apply below_alloc | apply pw_below_drewN | apply below_drew1 | refine below_set ?_ GE469.out | refine below_set ?_ GE479.out | refine below_set ?_ GE487.out | refine below_set ?_ GE495.out | refine below_set ?_ GE511.out | refine below_set ?_ GE519.out | refine below_set ?_ GE527.out) | exact HB.out))); (case side4 => exact HC0_1.out); rintro e w81 ⟨v529, v532, rfl, ho0, ho1, hb⟩; refine ⟨_, rfl, ?_⟩; have n0_ := Aside0.mk (Kd.S_elder' (by (with_reducible repeat (first | apply Kd.S_alloc | apply Kd.S_drewN | apply Kd.S_drew)); exact (Kd.S_mono (Kd.S_far (p := ⟨gb527, 1, none⟩) (Kd.S_far (p := ⟨gb527, 0, none⟩) (Kd.S_types HO472.out BK527.out (by decide)) (fun _ hk => hk.2) (.slice Ao71 t520.length co71)) (fun _ hk => hk.2) (.slice Ao79 t523.length co79)) (fun _ h_ => h_.1))) (Kd.S_base ho0) hb); have n1_ := Aside0.mk (Kd.S_below (by (with_reducible repeat (first | apply Kd.S_alloc | apply Kd.S_drewN | apply Kd.S_drew)); exact (Kd.S_mono (Kd.S_far (p := ⟨gb527, 1, none⟩) (Kd.S_far (p := ⟨gb527, 0, none⟩) (Kd.S_types HO475.out BK527.out (by decide)) (fun _ hk => hk.2) (.slice Ao71 t520.length co71)) (fun _ hk => hk.2) (.slice Ao79 t523.length co79)) (fun _ h_ => h_.1))) hb); have n2_ := Aside0.mk (Kd.R_below (by (with_reducible repeat (first | apply Kd.R_alloc | apply Kd.R_drewN | apply Kd.R_drew)); exact (Kd.R_mono (Kd.R_far (p := ⟨gb527, 1, none⟩) (Kd.R_far (p := ⟨gb527, 0, none⟩) (Kd.R_types HO478.out BK527.out (by decide)) (fun _ hk => hk.2) (.slice Ao71 t520.length co71)) (fun _ hk => hk.2) (.slice Ao79 t523.length co79)) (fun _ h_ => h_.1))) hb); have n3_ := Aside0.mk (Kd.S_elder' (by (with_reducible repeat (first | apply Kd.S_alloc | apply Kd.S_drewN | apply Kd.S_drew)); exact (Kd.S_mono (Kd.S_far (p := ⟨gb527, 1, none⟩) (Kd.S_far (p := ⟨gb527, 0, none⟩) (Kd.S_types HO482.out BK527.out (by decide)) (fun _ hk => hk.2) (.slice Ao71 t520.length co71)) (fun _ hk => hk.2) (.slice Ao79 t523.length co79)) (fun _ h_ => h_.1))) (Kd.S_base ho0) hb); have n4_ := Aside0.mk (Kd.S_below (by (with_reducible repeat (first | apply Kd.S_alloc | apply Kd.S_drewN | apply Kd.S_drew)); exact (Kd.S_mono (Kd.S_far (p := ⟨gb527, 1, none⟩) (Kd.S_far (p := ⟨gb527, 0, none⟩) (Kd.S_types HO485.out BK527.out (by decide)) (fun _ hk => hk.2) (.slice Ao71 t520.length co71)) (fun _ hk => hk.2) (.slice Ao79 t523.length co79)) (fun _ h_ => h_.1))) hb); have n5_ := Aside0.mk (Kd.S_elder' (by (with_reducible repeat (first | apply Kd.S_alloc | apply Kd.S_drewN | apply Kd.S_drew)); exact (Kd.S_mono (Kd.S_far (p := ⟨gb527, 1, none⟩) (Kd.S_far (p := ⟨gb527, 0, none⟩) (Kd.S_types HO490.out BK527.out (by decide)) (fun _ hk => hk.2) (.slice Ao71 t520.length co71)) (fun _ hk => hk.2) (.slice Ao79 t523.length co79)) (fun _ h_ => h_.1))) (Kd.S_base ho0) hb); have n6_ := Aside0.mk (Kd.S_elder' (by (with_reducible repeat (first | apply Kd.S_alloc | apply Kd.S_drewN | apply Kd.S_drew)); exact (Kd.S_mono (Kd.S_far (p := ⟨gb527, 1, none⟩) (Kd.S_far (p := ⟨gb527, 0, none⟩) (Kd.S_types HO493.out BK527.out (by decide)) (fun _ hk => hk.2) (.slice Ao71 t520.length co71)) (fun _ hk => hk.2) (.slice Ao79 t523.length co79)) (fun _ h_ => h_.1))) (Kd.S_base ho1) hb); have n7_ := Aside0.mk (Kd.R_below (by (with_reducible repeat (first | apply Kd.R_alloc | apply Kd.R_drewN | apply Kd.R_drew)); exact (Kd.R_mono (Kd.R_far (p := ⟨gb527, 1, none⟩) (Kd.R_far (p := ⟨gb527, 0, none⟩) (Kd.R_types HO498.out BK527.out (by decide)) (fun _ hk => hk.2) (.slice Ao71 t520.length co71)) (fun _ hk => hk.2) (.slice Ao79 t523.length co79)) (fun _ h_ => h_.1))) hb); have n8_ := Aside0.mk (Kd.R_below (by (with_reducible repeat (first | apply Kd.R_alloc | apply Kd.R_drewN | apply Kd.R_drew)); exact (Kd.R_mono (Kd.R_far (p := ⟨gb527, 1, none⟩) (Kd.R_far (p := ⟨gb527, 0, none⟩) (Kd.R_types HO502.out BK527.out (by decide)) (fun _ hk => hk.2) (.slice Ao71 t520.length co71)) (fun _ hk => hk.2) (.slice Ao79 t523.length co79)) (fun _ h_ => h_.1))) hb); have n9_ := Aside0.mk (Kd.S_elder' (by (with_reducible repeat (first | apply Kd.S_alloc | apply Kd.S_drewN | apply Kd.S_drew)); exact (Kd.S_mono (Kd.S_far (p := ⟨gb527, 1, none⟩) (Kd.S_far (p := ⟨gb527, 0, none⟩) (Kd.S_types HO506.out BK527.out (by decide)) (fun _ hk => hk.2) (.slice Ao71 t520.length co71)) (fun _ hk => hk.2) (.slice Ao79 t523.length co79)) (fun _ h_ => h_.1))) (Kd.S_base ho0) hb); have n10_ := Aside0.mk (Kd.S_below (by (with_reducible repeat (first | apply Kd.S_alloc | apply Kd.S_drewN | apply Kd.S_drew)); exact (Kd.S_mono (Kd.S_far (p := ⟨gb527, 1, none⟩) (Kd.S_far (p := ⟨gb527, 0, none⟩) (Kd.S_types HO509.out BK527.out (by decide)) (fun _ hk => hk.2) (.slice Ao71 t520.length co71)) (fun _ hk => hk.2) (.slice Ao79 t523.length co79)) (fun _ h_ => h_.1))) hb); have n11_ := Aside0.mk (Kd.S_elder' (by (with_reducible repeat (first | apply Kd.S_alloc | apply Kd.S_drewN | apply Kd.S_drew)); exact (Kd.S_mono (Kd.S_far (p := ⟨gb527, 1, none⟩) (Kd.S_far (p := ⟨gb527, 0, none⟩) (Kd.S_types HO514.out BK527.out (by decide)) (fun _ hk => hk.2) (.slice Ao71 t520.length co71)) (fun _ hk => hk.2) (.slice Ao79 t523.length co79)) (fun _ h_ => h_.1))) (Kd.S_base ho0) hb); have n12_ := Aside0.mk (Kd.S_elder' (by (with_reducible repeat (first | apply Kd.S_alloc | apply Kd.S_drewN | apply Kd.S_drew)); exact (Kd.S_mono (Kd.S_far (p := ⟨gb527, 1, none⟩) (Kd.S_far (p := ⟨gb527, 0, none⟩) (Kd.S_types HO517.out BK527.out (by decide)) (fun _ hk => hk.2) (.slice Ao71 t520.length co71)) (fun _ hk => hk.2) (.slice Ao79 t523.length co79)) (fun _ h_ => h_.1))) (Kd.S_base ho1) hb); have n13_ := Aside0.mk (Kd.S_elder' (by (with_reducible repeat (first | apply Kd.S_alloc | apply Kd.S_drewN | apply Kd.S_drew)); exact (Kd.S_mono (Kd.S_far (p := ⟨gb527, 1, none⟩) (Kd.S_far (p := ⟨gb527, 0, none⟩) (Kd.S_types HO522.out BK527.out (by decide)) (fun _ hk => hk.2) (.slice Ao71 t520.length co71)) (fun _ hk => hk.2) (.slice Ao79 t523.length co79)) (fun _ h_ => h_.1))) (Kd.S_base ho0) hb); have n14_ := Aside0.mk (Kd.S_below (by (with_reducible repeat (first | apply Kd.S_alloc | apply Kd.S_drewN | apply Kd.S_drew)); exact (Kd.S_mono (Kd.S_far (p := ⟨gb527, 1, none⟩) (Kd.S_far (p := ⟨gb527, 0, none⟩) (Kd.S_types HO525.out BK527.out (by decide)) (fun _ hk => hk.2) (.slice Ao71 t520.length co71)) (fun _ hk => hk.2) (.slice Ao79 t523.length co79)) (fun _ h_ => h_.1))) hb); have n15_ := Aside0.mk (Kd.S_lower (Kd.S_new' (Kd.S_new' (Kd.S_new' (Kd.S_new' (Kd.S_new' (Kd.S_new' (Kd.S_new' (Kd.S_new' (Kd.S_new' ho0 (Kd.S_lt (by (with_reducible repeat (first | apply Kd.S_alloc | apply Kd.S_drewN | apply Kd.S_drew)); exact (Kd.S_mono (Kd.S_far (p := ⟨gb527, 1, none⟩) (Kd.S_far (p := ⟨gb527, 0, none⟩) (Kd.S_types HO472.out BK527.out (by decide)) (fun _ hk => hk.2) (.slice Ao71 t520.length co71)) (fun _ hk => hk.2) (.slice Ao79 t523.length co79)) (fun _ h_ => h_.1))))) (Kd.R_lt (by (with_reducible repeat (first | apply Kd.R_alloc | apply Kd.R_drewN | apply Kd.R_drew)); exact (Kd.R_mono (Kd.R_far (p := ⟨gb527, 1, none⟩) (Kd.R_far (p := ⟨gb527, 0, none⟩) (Kd.R_types HO478.out BK527.out (by decide)) (fun _ hk => hk.2) (.slice Ao71 t520.length co71)) (fun _ hk => hk.2) (.slice Ao79 t523.length co79)) (fun _ h_ => h_.1))))) (Kd.S_lt (by (with_reducible repeat (first | apply Kd.S_alloc | apply Kd.S_drewN | apply Kd.S_drew)); exact (Kd.S_mono (Kd.S_far (p := ⟨gb527, 1, none⟩) (Kd.S_far (p := ⟨gb527, 0, none⟩) (Kd.S_types HO482.out BK527.out (by decide)) (fun _ hk => hk.2) (.slice Ao71 t520.length co71)) (fun _ hk => hk.2) (.slice Ao79 t523.length co79)) (fun _ h_ => h_.1))))) (Kd.S_lt (by (with_reducible repeat (first | apply Kd.S_alloc | apply Kd.S_drewN | apply Kd.S_drew)); exact (Kd.S_mono (Kd.S_far (p := ⟨gb527, 1, none⟩) (Kd.S_far (p := ⟨gb527, 0, none⟩) (Kd.S_types HO490.out BK527.out (by decide)) (fun _ hk => hk.2) (.slice Ao71 t520.length co71)) (fun _ hk => hk.2) (.slice Ao79 t523.length co79)) (fun _ h_ => h_.1))))) (Kd.R_lt (by (with_reducible repeat (first | apply Kd.R_alloc | apply Kd.R_drewN | apply Kd.R_drew)); exact (Kd.R_mono (Kd.R_far (p := ⟨gb527, 1, none⟩) (Kd.R_far (p := ⟨gb527, 0, none⟩) (Kd.R_types HO498.out BK527.out (by decide)) (fun _ hk => hk.2) (.slice Ao71 t520.length co71)) (fun _ hk => hk.2) (.slice Ao79 t523.length co79)) (fun _ h_ => h_.1))))) (Kd.R_lt (by (with_reducible repeat (first | apply Kd.R_alloc | apply Kd.R_drewN | apply Kd.R_drew)); exact (Kd.R_mono (Kd.R_far (p := ⟨gb527, 1, none⟩) (Kd.R_far (p := ⟨gb527, 0, none⟩) (Kd.R_types HO502.out BK527.out (by decide)) (fun _ hk => hk.2) (.slice Ao71 t520.length co71)) (fun _ hk => hk.2) (.slice Ao79 t523.length co79)) (fun _ h_ => h_.1))))) (Kd.S_lt (by (with_reducible repeat (first | apply Kd.S_alloc | apply Kd.S_drewN | apply Kd.S_drew)); exact (Kd.S_mono (Kd.S_far (p := ⟨gb527, 1, none⟩) (Kd.S_far (p := ⟨gb527, 0, none⟩) (Kd.S_types HO506.out BK527.out (by decide)) (fun _ hk => hk.2) (.slice Ao71 t520.length co71)) (fun _ hk => hk.2) (.slice Ao79 t523.length co79)) (fun _ h_ => h_.1))))) (Kd.S_lt (by (with_reducible repeat (first | apply Kd.S_alloc | apply Kd.S_drewN | apply Kd.S_drew)); exact (Kd.S_mono (Kd.S_far (p := ⟨gb527, 1, none⟩) (Kd.S_far (p := ⟨gb527, 0, none⟩) (Kd.S_types HO514.out BK527.out (by decide)) (fun _ hk => hk.2) (.slice Ao71 t520.length co71)) (fun _ hk => hk.2) (.slice Ao79 t523.length co79)) (fun _ h_ => h_.1))))) (Kd.S_lt (by (with_reducible repeat (first | apply Kd.S_alloc | apply Kd.S_drewN | apply Kd.S_drew)); exact (Kd.S_mono (Kd.S_far (p := ⟨gb527, 1, none⟩) (Kd.S_far (p := ⟨gb527, 0, none⟩) (Kd.S_types HO522.out BK527.out (by decide)) (fun _ hk => hk.2) (.slice Ao71 t520.length co71)) (fun _ hk => hk.2) (.slice Ao79 t523.length co79)) (fun _ h_ => h_.1))))) (below_size (by repeat (first | (with_reducible first | exact HB.out | apply below_alloc | apply pw_below_drewN | apply below_drew1 | refine below_set ?_ GE469.out | refine below_set ?_ GE479.out | refine below_set ?_ GE487.out | refine below_set ?_ GE495.out | refine below_set ?_ GE511.out | refine below_set ?_ GE519.out | refine below_set ?_ GE527.out) | exact HB.out)))); have n16_ := Aside0.mk (Kd.S_lower (Kd.S_new' (Kd.S_new' (Kd.S_new' (Kd.S_new' (Kd.S_new' ho1 (Kd.R_lt (by (with_reducible repeat (first | apply Kd.R_alloc | apply Kd.R_drewN | apply Kd.R_drew)); exact (Kd.R_mono (Kd.R_far (p := ⟨gb527, 1, none⟩) (Kd.R_far (p := ⟨gb527, 0, none⟩) (Kd.R_types HO478.out BK527.out (by decide)) (fun _ hk => hk.2) (.slice Ao71 t520.length co71)) (fun _ hk => hk.2) (.slice Ao79 t523.length co79)) (fun _ h_ => h_.1))))) (Kd.S_lt (by (with_reducible repeat (first | apply Kd.S_alloc | apply Kd.S_drewN | apply Kd.S_drew)); exact (Kd.S_mono (Kd.S_far (p := ⟨gb527, 1, none⟩) (Kd.S_far (p := ⟨gb527, 0, none⟩) (Kd.S_types HO493.out BK527.out (by decide)) (fun _ hk => hk.2) (.slice Ao71 t520.length co71)) (fun _ hk => hk.2) (.slice Ao79 t523.length co79)) (fun _ h_ => h_.1))))) (Kd.R_lt (by (with_reducible repeat (first | apply Kd.R_alloc | apply Kd.R_drewN | apply Kd.R_drew)); exact (Kd.R_mono (Kd.R_far (p := ⟨gb527, 1, none⟩) (Kd.R_far (p := ⟨gb527, 0, none⟩) (Kd.R_types HO498.out BK527.out (by decide)) (fun _ hk => hk.2) (.slice Ao71 t520.length co71)) (fun _ hk => hk.2) (.slice Ao79 t523.length co79)) (fun _ h_ => h_.1))))) (Kd.R_lt (by (with_reducible repeat (first | apply Kd.R_alloc | apply Kd.R_drewN | apply Kd.R_drew)); exact (Kd.R_mono (Kd.R_far (p := ⟨gb527, 1, none⟩) (Kd.R_far (p := ⟨gb527, 0, none⟩) (Kd.R_types HO502.out BK527.out (by decide)) (fun _ hk => hk.2) (.slice Ao71 t520.length co71)) (fun _ hk => hk.2) (.slice Ao79 t523.length co79)) (fun _ h_ => h_.1))))) (Kd.S_lt (by (with_reducible repeat (first | apply Kd.S_alloc | apply Kd.S_drewN | apply Kd.S_drew)); exact (Kd.S_mono (Kd.S_far (p := ⟨gb527, 1, none⟩) (Kd.S_far (p := ⟨gb527, 0, none⟩) (Kd.S_types HO517.out BK527.out (by decide)) (fun _ hk => hk.2) (.slice Ao71 t520.length co71)) (fun _ hk => hk.2) (.slice Ao79 t523.length co79)) (fun _ h_ => h_.1))))) (below_size (by repeat (first | (with_reducible first | exact HB.out | apply below_alloc | apply pw_below_drewN | apply below_drew1 | refine below_set ?_ GE469.out | refine below_set ?_ GE479.out | refine below_set ?_ GE487.out | refine below_set ?_ GE495.out | refine below_set ?_ GE511.out | refine below_set ?_ GE519.out | refine below_set ?_ GE527.out) | exact HB.out)))); have n17_ := Aside0.mk (blk_below (g := gb469) (o := .cells #[.slice A0_0 l0_0.length c0_0, .slice A0_1 l0_1.length c0_1] 42 (0, 0)) (by (with_reducible repeat (first | refine blk_drewN ?_ _ | refine blk_drew ?_ | refine blk_alloc ?_ _)); refine blk_far ?_ NB469_527.out _; (with_reducible repeat (first | refine blk_drewN ?_ _ | refine blk_drew ?_ | refine blk_alloc ?_ _)); refine blk_far ?_ NB469_527.out _; (with_reducible repeat (first | refine blk_drewN ?_ _ | refine blk_drew ?_ | refine blk_alloc ?_ _)); exact BK469.out) hb); have n18_ := Aside0.mk (blk_below (g := gb479) (o := .cells #[.slice Ao22 t470.length co22, .slice Ao25 t473.length co25] 28 (0, 0)) (by (with_reducible repeat (first | refine blk_drewN ?_ _ | refine blk_drew ?_ | refine blk_alloc ?_ _)); refine blk_far ?_ NB479_527.out _; (with_reducible repeat (first | refine blk_drewN ?_ _ | refine blk_drew ?_ | refine blk_alloc ?_ _)); refine blk_far ?_ NB479_527.out _; (with_reducible repeat (first | refine blk_drewN ?_ _ | refine blk_drew ?_ | refine blk_alloc ?_ _)); exact BK479.out) hb); have n19_ := Aside0.mk (blk_below (g := gb487) (o := .cells #[.slice Ao29 t480.length co29, .slice Ao33 t483.length co33] 28 (0, 0)) (by (with_reducible repeat (first | refine blk_drewN ?_ _ | refine blk_drew ?_ | refine blk_alloc ?_ _)); refine blk_far ?_ NB487_527.out _; (with_reducible repeat (first | refine blk_drewN ?_ _ | refine blk_drew ?_ | refine blk_alloc ?_ _)); refine blk_far ?_ NB487_527.out _; (with_reducible repeat (first | refine blk_drewN ?_ _ | refine blk_drew ?_ | refine blk_alloc ?_ _)); exact BK487.out) hb); have n20_ := Aside0.mk (blk_below (g := gb495) (o := .cells #[.slice Ao37 t488.length co37, .slice Ao42 t491.length co42] 42 (0, 0)) (by (with_reducible repeat (first | refine blk_drewN ?_ _ | refine blk_drew ?_ | refine blk_alloc ?_ _)); refine blk_far ?_ NB495_527.out _; (with_reducible repeat (first | refine blk_drewN ?_ _ | refine blk_drew ?_ | refine blk_alloc ?_ _)); refine blk_far ?_ NB495_527.out _; (with_reducible repeat (first | refine blk_drewN ?_ _ | refine blk_drew ?_ | refine blk_alloc ?_ _)); exact BK495.out) hb); have n21_ := Aside0.mk (blk_below (g := gb511) (o := .cells #[.slice Ao50 t504.length co50, .slice Ao56 t507.length co56] 28 (0, 0)) (by (with_reducible repeat (first | refine blk_drewN ?_ _ | refine blk_drew ?_ | refine blk_alloc ?_ _)); refine blk_far ?_ NB511_527.out _; (with_reducible repeat (first | refine blk_drewN ?_ _ | refine blk_drew ?_ | refine blk_alloc ?_ _)); refine blk_far ?_ NB511_527.out _; (with_reducible repeat (first | refine blk_drewN ?_ _ | refine blk_drew ?_ | refine blk_alloc ?_ _)); exact BK511.out) hb); have n22_ := Aside0.mk (blk_below (g := gb519) (o := .cells #[.slice Ao60 t512.length co60, .slice Ao67 t515.length co67] 42 (0, 0)) (by (with_reducible repeat (first | refine blk_drewN ?_ _ | refine blk_drew ?_ | refine blk_alloc ?_ _)); refine blk_far ?_ NB519_527.out _; (with_reducible repeat (first | refine blk_drewN ?_ _ | refine blk_drew ?_ | refine blk_alloc ?_ _)); refine blk_far ?_ NB519_527.out _; (with_reducible repeat (first | refine blk_drewN ?_ _ | refine blk_drew ?_ | refine blk_alloc ?_ _)); exact BK519.out) hb); have n23_ := Aside0.mk (blk_below (g := gb527) (o := .cells #[.slice Ao71 t520.length co71, .slice Ao79 t523.length co79] 28 (0, 0)) (by (with_reducible repeat (first | refine blk_drewN ?_ _ | refine blk_drew ?_ | refine blk_alloc ?_ _)); refine blk_put (cs := #[.slice Ao71 t520.length co71, .slice none 0 0]) ?_ 1 _ rfl; (with_reducible repeat (first | refine blk_drewN ?_ _ | refine blk_drew ?_ | refine blk_alloc ?_ _)); refine blk_put (cs := #[.slice none 0 0, .slice none 0 0]) ?_ 0 _ rfl; (with_reducible repeat (first | refine blk_drewN ?_ _ | refine blk_drew ?_ | refine blk_alloc ?_ _)); exact BK527.out) hb); have n24_ := Aside0.mk (below_step (by repeat (first | (with_reducible first | exact HB.out | apply below_alloc | apply pw_below_drewN | apply below_drew1 | refine below_set ?_ GE469.out | refine below_set ?_ GE479.out | refine below_set ?_ GE487.out | refine below_set ?_ GE495.out | refine below_set ?_ GE511.out | refine below_set ?_ GE519.out | refine below_set ?_ GE527.out) | exact HB.out)) hb); clear HO472; clear HO475; clear HO478; clear HO482; clear HO485; clear HO490; clear HO493; clear HO498; clear HO502; clear HO506; clear HO509; clear HO514; clear HO517; clear HO522; clear HO525; clear BK469; clear BK479; clear BK487; clear BK495; clear BK511; clear BK519; clear BK527; clear HB; have HO472 := n0_; have HO475 := n1_; have HO478 := n2_; have HO482 := n3_; have HO485 := n4_; have HO490 := n5_; have HO493 := n6_; have HO498 := n7_; have HO502 := n8_; have HO506 := n9_; have HO509 := n10_; have HO514 := n11_; have HO517 := n12_; have HO522 := n13_; have HO525 := n14_; have HO530 := n15_; have HO533 := n16_; have BK469 := n17_; have BK479 := n18_; have BK487 := n19_; have BK495 := n20_; have BK511 := n21_; have BK519 := n22_; have BK527 := n23_; have HB := n24_; clear n0_ n1_ n2_ n3_ n4_ n5_ n6_ n7_ n8_ n9_ n10_ n11_ n12_ n13_ n14_ n15_ n16_ n17_ n18_ n19_ n20_ n21_ n22_ n23_ n24_; (try clear hb); (try clear hb2); (try clear hk); (try clear hi); (try clear ho0); (try clear ho1)) | ((with_reducible refine gate_dst (N := 27) rfl ?_); refine box_event ?hg (N := 27) ?hd (cs := #[.slice none 0 0, .slice none 0 0]) (t := 42) ?hr ?_; (case hd => rfl); (case hg => rfl); (case hr => first | (go_simp; done) | (go_simp; rfl)); intro gb535 hg w82 hbox hb; have n0_ := Aside0.mk (Kd.S_below (SU HO472.out) hb); have n1_ := Aside0.mk (Kd.S_below (SU HO475.out) hb); have n2_ := Aside0.mk (Kd.R_below (RU HO478.out) hb); have n3_ := Aside0.mk (Kd.S_below (SU HO482.out) hb); have n4_ := Aside0.mk (Kd.S_below (SU HO485.out) hb); have n5_ := Aside0.mk (Kd.S_below (SU HO490.out) hb); have n6_ := Aside0.mk (Kd.S_below (SU HO493.out) hb); have n7_ := Aside0.mk (Kd.R_below (RU HO498.out) hb); have n8_ := Aside0.mk (Kd.R_below (RU HO502.out) hb); have n9_ := Aside0.mk (Kd.S_below (SU HO506.out) hb); have n10_ := Aside0.mk (Kd.S_below (SU HO509.out) hb); have n11_ := Aside0.mk (Kd.S_below (SU HO514.out) hb); have n12_ := Aside0.mk (Kd.S_below (SU HO517.out) hb); have n13_ := Aside0.mk (Kd.S_below (SU HO522.out) hb); have n14_ := Aside0.mk (Kd.S_below (SU HO525.out) hb); have n15_ := Aside0.mk (Kd.S_below (SU HO530.out) hb); have n16_ := Aside0.mk (Kd.S_below (SU HO533.out) hb); have n17_ := Aside0.mk (blk_below (g := gb469) (o := .cells #[.slice A0_0 l0_0.length c0_0, .slice A0_1 l0_1.length c0_1] 42 (0, 0)) (BU BK469.out) hb); have n18_ := Aside0.mk (blk_below (g := gb479) (o := .cells #[.slice Ao22 t470.length co22, .slice Ao25 t473.length co25] 28 (0, 0)) (BU BK479.out) hb); have n19_ := Aside0.mk (blk_below (g := gb487) (o := .cells #[.slice Ao29 t480.length co29, .slice Ao33 t483.length co33] 28 (0, 0)) (BU BK487.out) hb); have n20_ := Aside0.mk (blk_below (g := gb495) (o := .cells #[.slice Ao37 t488.length co37, .slice Ao42 t491.length co42] 42 (0, 0)) (BU BK495.out) hb); have n21_ := Aside0.mk (blk_below (g := gb511) (o := .cells #[.slice Ao50 t504.length co50, .slice Ao56 t507.length co56] 28 (0, 0)) (BU BK511.out) hb); have n22_ := Aside0.mk (blk_below (g := gb519) (o := .cells #[.slice Ao60 t512.length co60, .slice Ao67 t515.length co67] 42 (0, 0)) (BU BK519.out) hb); have n23_ := Aside0.mk (blk_below (g := gb527) (o := .cells #[.slice Ao71 t520.length co71, .slice Ao79 t523.length co79] 28 (0, 0)) (BU BK527.out) hb); have n24_ := Aside0.mk (below_step (by repeat (first | (with_reducible first | exact HB.out | apply below_alloc | apply pw_below_drewN | apply below_drew1 | refine below_set ?_ GE469.out | refine below_set ?_ GE479.out | refine below_set ?_ GE487.out | refine below_set ?_ GE495.out | refine below_set ?_ GE511.out | refine below_set ?_ GE519.out | refine below_set ?_ GE527.out) | exact HB.out)) hb); have n25_ := Aside0.mk (hbox); have n26_ := Aside0.mk ((by rw [hg]; exact (below_size (by repeat (first | (with_reducible first | exact HB.out | apply below_alloc | apply pw_below_drewN | apply below_drew1 | refine below_set ?_ GE469.out | refine below_set ?_ GE479.out | refine below_set ?_ GE487.out | refine below_set ?_ GE495.out | refine below_set ?_ GE511.out | refine below_set ?_ GE519.out | refine below_set ?_ GE527.out) | exact HB.out))) : w.heap.size ≤ gb535)); have n27_ := Aside0.mk ((by rw [hg]; exact (below_size (by repeat (first | (with_reducible first | exact HB.out | apply below_alloc | apply pw_below_drewN | apply below_drew1 | refine below_set ?_ GE469.out | refine below_set ?_ GE479.out | refine below_set ?_ GE487.out | refine below_set ?_ GE495.out | refine below_set ?_ GE511.out | refine below_set ?_ GE519.out | refine below_set ?_ GE527.out) | exact HB.out))) : w.heap.size ≤ gb535)); have n28_ := Aside0.mk ((by rw [hg]; exact Nat.ne_of_lt (blk_lt (g := gb469) (o := .cells #[.slice A0_0 l0_0.length c0_0, .slice A0_1 l0_1.length c0_1] 42 (0, 0)) (BU BK469.out)) : gb469 ≠ gb535)); have n29_ := Aside0.mk ((by rw [hg]; exact Nat.ne_of_gt (blk_lt (g := gb469) (o := .cells #[.slice A0_0 l0_0.length c0_0, .slice A0_1 l0_1.length c0_1] 42 (0, 0)) (BU BK469.out)) : gb535 ≠ gb469)); have n30_ := Aside0.mk ((by rw [hg]; exact Nat.ne_of_lt (blk_lt (g := gb479) (o := .cells #[.slice Ao22 t470.length co22, .slice Ao25 t473.length co25] 28 (0, 0)) (BU BK479.out)) : gb479 ≠ gb535)); have n31_ := Aside0.mk ((by rw [hg]; exact Nat.ne_of_gt (blk_lt (g := gb479) (o := .cells #[.slice Ao22 t470.length co22, .slice Ao25 t473.length co25] 28 (0, 0)) (BU BK479.out)) : gb535 ≠ gb479)); have n32_ := Aside0.mk ((by rw [hg]; exact Nat.ne_of_lt (blk_lt (g := gb487) (o := .cells #[.slice Ao29 t480.length co29, .slice Ao33 t483.length co33] 28 (0, 0)) (BU BK487.out)) : gb487 ≠ gb535)); have n33_ := Aside0.mk ((by rw [hg]; exact Nat.ne_of_gt (blk_lt (g := gb487) (o := .cells #[.slice Ao29 t480.length co29, .slice Ao33 t483.length co33] 28 (0, 0)) (BU BK487.out)) : gb535 ≠ gb487)); have n34_ := Aside0.mk ((by rw [hg]; exact Nat.ne_of_lt (blk_lt (g := gb495) (o := .cells #[.slice Ao37 t488.length co37, .slice Ao42 t491.length co42] 42 (0, 0)) (BU BK495.out)) : gb495 ≠ gb535)); have n35_ := Aside0.mk ((by rw [hg]; exact Nat.ne_of_gt (blk_lt (g := gb495) (o := .cells #[.slice Ao37 t488.length co37, .slice Ao42 t491.length co42] 42 (0, 0)) (BU BK495.out)) : gb535 ≠ gb495)); have n36_ := Aside0.mk ((by rw [hg]; exact Nat.ne_of_lt (blk_lt (g := gb511) (o := .cells #[.slice Ao50 t504.length co50, .slice Ao56 t507.length co56] 28 (0, 0)) (BU BK511.out)) : gb511 ≠ gb535)); have n37_ := Aside0.mk ((by rw [hg]; exact Nat.ne_of_gt (blk_lt (g := gb511) (o := .cells #[.slice Ao50 t504.length co50, .slice Ao56 t507.length co56] 28 (0, 0)) (BU BK511.out)) : gb535 ≠ gb511)); have n38_ := Aside0.mk ((by rw [hg]; exact Nat.ne_of_lt (blk_lt (g := gb519) (o := .cells #[.slice Ao60 t512.length co60, .slice Ao67 t515.length co67] 42 (0, 0)) (BU BK519.out)) : gb519 ≠ gb535)); have n39_ := Aside0.mk ((by rw [hg]; exact Nat.ne_of_gt (blk_lt (g := gb519) (o := .cells #[.slice Ao60 t512.length co60, .slice Ao67 t515.length co67] 42 (0, 0)) (BU BK519.out)) : gb535 ≠ gb519)); have n40_ := Aside0.mk ((by rw [hg]; exact Nat.ne_of_lt (blk_lt (g := gb527) (o := .cells #[.slice Ao71 t520.length co71, .slice Ao79 t523.length co79] 28 (0, 0)) (BU BK527.out)) : gb527 ≠ gb535)); have n41_ := Aside0.mk ((by rw [hg]; exact Nat.ne_of_gt (blk_lt (g := gb527) (o := .cells #[.slice Ao71 t520.length co71, .slice Ao79 t523.length co79] 28 (0, 0)) (BU BK527.out)) : gb535 ≠ gb527)); clear HO472; clear HO475; clear HO478; clear HO482; clear HO485; clear HO490; clear HO493; clear HO498; clear HO502; clear HO506; clear HO509; clear HO514; clear HO517; clear HO522; clear HO525; clear HO530; clear HO533; clear BK469; clear BK479; clear BK487; clear BK495; clear BK511; clear BK519; clear BK527; clear HB; have HO472 := n0_; have HO475 := n1_; have HO478 := n2_; have HO482 := n3_; have HO485 := n4_; have HO490 := n5_; have HO493 := n6_; have HO498 := n7_; have HO502 := n8_; have HO506 := n9_; have HO509 := n10_; have HO514 := n11_; have HO517 := n12_; have HO522 := n13_; have HO525 := n14_; have HO530 := n15_; have HO533 := n16_; have BK469 := n17_; have BK479 := n18_; have BK487 := n19_; have BK495 := n20_; have BK511 := n21_; have BK519 := n22_; have BK527 := n23_; have HB := n24_; have BK535 := n25_; have GW535 := n26_; have GE535 := n27_; have NB469_535 := n28_; have NB535_469 := n29_; have NB479_535 := n30_; have NB535_479 := n31_; have NB487_535 := n32_; have NB535_487 := n33_; have NB495_535 := n34_; have NB535_495 := n35_; have NB511_535 := n36_; have NB535_511 := n37_; have NB519_535 := n38_; have NB535_519 := n39_; have NB527_535 := n40_; have NB535_527 := n41_; clear n0_ n1_ n2_ n3_ n4_ n5_ n6_ n7_ n8_ n9_ n10_ n11_ n12_ n13_ n14_ n15_ n16_ n17_ n18_ n19_ n20_ n21_ n22_ n23_ n24_ n25_ n26_ n27_ n28_ n29_ n30_ n31_ n32_ n33_ n34_ n35_ n36_ n37_ n38_ n39_ n40_ n41_; clear hb hbox hg; obtain ⟨Ao83, co83, eo83⟩ := Kd.S_slice HO530.out; subst eo83; have hnb84 := NB535_469.out; have hnc84 := NB469_535.out; have hnb85 := NB535_479.out; have hnc85 := NB479_535.out; have hnb86 := NB535_487.out; have hnc86 := NB487_535.out; have hnb87 := NB535_495.out; have hnc87 := NB495_535.out; have hnb88 := NB535_511.out; have hnc88 := NB511_535.out; have hnb89 := NB535_519.out; have hnc89 := NB519_535.out; have hnb90 := NB535_527.out; have hnc90 := NB527_535.out; have hcz91_0 : w82.cell? ⟨gb535, 0, none⟩ = some (.slice none 0 0) := (blk_cell BK535.out 0).trans rfl; have hcz91_1 : w82.cell? ⟨gb535, 1, none⟩ = some (.slice none 0 0) := (blk_cell BK535.out 1).trans rfl; have hfz91_0 := blk_frozen BK535.out 0; have hfz91_1 := blk_frozen BK535.out 1; obtain ⟨Ao92, co92, eo92⟩ := Kd.S_slice HO533.out; subst eo92))
 (try simp only [Act.put, Q.A1, Q.A2, Q.A3])
 go_cut [130] (fun v130 wc => ∃ (kq : Nat) (x130_15 : Bool), v130 = .bool x130_15 ∧ Aside0 (transeptlaw04_DiskTells.j0 kq l2 t476 x130_15 l0_0 l0_1 t470 t473 = some r) ∧ Aside0 (kq ≤ k) ∧ Aside0 (Kd.R (Kd.int .u8) 5 wc w.heap.size (fun _ => True) (.slice Ao26 t476.length co26) t476) ∧ Aside0 (Kd.S (Kd.slice 5 (Kd.int .u8)) 50 wc w.heap.size (fun k_ => some k_ ≠ ((.slice Ao26 t476.length co26) : Value).ownBlock ∧ some k_ ≠ ((.slice Ao29 t480.length co29) : Value).ownBlock ∧ some k_ ≠ ((.slice Ao37 t488.length co37) : Value).ownBlock ∧ some k_ ≠ ((.slice Ao50 t504.length co50) : Value).ownBlock ∧ some k_ ≠ ((.slice Ao60 t512.length co60) : Value).ownBlock ∧ some k_ ≠ ((.slice Ao71 t520.length co71) : Value).ownBlock ∧ some k_ ≠ ((.slice Ao83 t528.length co83) : Value).ownBlock) (.slice Ao22 t470.length co22) t470) ∧ Aside0 (Kd.S k61 61 wc w.heap.size (fun k_ => some k_ ≠ ((.slice Ao26 t476.length co26) : Value).ownBlock ∧ some k_ ≠ ((.slice Ao33 t483.length co33) : Value).ownBlock ∧ some k_ ≠ ((.slice Ao56 t507.length co56) : Value).ownBlock ∧ some k_ ≠ ((.slice Ao79 t523.length co79) : Value).ownBlock) (.slice Ao25 t473.length co25) t473) ∧ Aside0 (Kd.S (Kd.slice 5 (Kd.int .u8)) 50 wc w.heap.size (fun k_ => some k_ ≠ ((.slice Ao26 t476.length co26) : Value).ownBlock ∧ some k_ ≠ ((.slice Ao22 t470.length co22) : Value).ownBlock ∧ some k_ ≠ ((.slice Ao37 t488.length co37) : Value).ownBlock ∧ some k_ ≠ ((.slice Ao50 t504.length co50) : Value).ownBlock ∧ some k_ ≠ ((.slice Ao60 t512.length co60) : Value).ownBlock ∧ some k_ ≠ ((.slice Ao71 t520.length co71) : Value).ownBlock ∧ some k_ ≠ ((.slice Ao83 t528.length co83) : Value).ownBlock) (.slice Ao29 t480.length co29) t480) ∧ Aside0 (Kd.S k61 61 wc w.heap.size (fun k_ => some k_ ≠ ((.slice Ao26 t476.length co26) : Value).ownBlock ∧ some k_ ≠ ((.slice Ao25 t473.length co25) : Value).ownBlock ∧ some k_ ≠ ((.slice Ao56 t507.length co56) : Value).ownBlock ∧ some k_ ≠ ((.slice Ao79 t523.length co79) : Value).ownBlock) (.slice Ao33 t483.length co33) t483) ∧ Aside0 (Kd.S (Kd.slice 5 (Kd.int .u8)) 50 wc w.heap.size (fun k_ => some k_ ≠ ((.slice Ao26 t476.length co26) : Value).ownBlock ∧ some k_ ≠ ((.slice Ao22 t470.length co22) : Value).ownBlock ∧ some k_ ≠ ((.slice Ao29 t480.length co29) : Value).ownBlock ∧ some k_ ≠ ((.slice Ao50 t504.length co50) : Value).ownBlock ∧ some k_ ≠ ((.slice Ao60 t512.length co60) : Value).ownBlock ∧ some k_ ≠ ((.slice Ao71 t520.length co71) : Value).ownBlock ∧ some k_ ≠ ((.slice Ao83 t528.length co83) : Value).ownBlock) (.slice Ao37 t488.length co37) t488) ∧ Aside0 (Kd.S k55 55 wc w.heap.size (fun k_ => some k_ ≠ ((.slice Ao26 t476.length co26) : Value).ownBlock ∧ some k_ ≠ ((.slice Ao67 t515.length co67) : Value).ownBlock ∧ some k_ ≠ ((.slice Ao92 t531.length co92) : Value).ownBlock) (.slice Ao42 t491.length co42) t491) ∧ Aside0 (Kd.S (Kd.slice 5 (Kd.int .u8)) 50 wc w.heap.size (fun k_ => some k_ ≠ ((.slice Ao26 t476.length co26) : Value).ownBlock ∧ some k_ ≠ ((.slice Ao22 t470.length co22) : Value).ownBlock ∧ some k_ ≠ ((.slice Ao29 t480.length co29) : Value).ownBlock ∧ some k_ ≠ ((.slice Ao37 t488.length co37) : Value).ownBlock ∧ some k_ ≠ ((.slice Ao60 t512.length co60) : Value).ownBlock ∧ some k_ ≠ ((.slice Ao71 t520.length co71) : Value).ownBlock ∧ some k_ ≠ ((.slice Ao83 t528.length co83) : Value).ownBlock) (.slice Ao50 t504.length co50) t504) ∧ Aside0 (Kd.S k61 61 wc w.heap.size (fun k_ => some k_ ≠ ((.slice Ao26 t476.length co26) : Value).ownBlock ∧ some k_ ≠ ((.slice Ao25 t473.length co25) : Value).ownBlock ∧ some k_ ≠ ((.slice Ao33 t483.length co33) : Value).ownBlock ∧ some k_ ≠ ((.slice Ao79 t523.length co79) : Value).ownBlock) (.slice Ao56 t507.length co56) t507) ∧ Aside0 (Kd.S (Kd.slice 5 (Kd.int .u8)) 50 wc w.heap.size (fun k_ => some k_ ≠ ((.slice Ao26 t476.length co26) : Value).ownBlock ∧ some k_ ≠ ((.slice Ao22 t470.length co22) : Value).ownBlock ∧ some k_ ≠ ((.slice Ao29 t480.length co29) : Value).ownBlock ∧ some k_ ≠ ((.slice Ao37 t488.length co37) : Value).ownBlock ∧ some k_ ≠ ((.slice Ao50 t504.length co50) : Value).ownBlock ∧ some k_ ≠ ((.slice Ao71 t520.length co71) : Value).ownBlock ∧ some k_ ≠ ((.slice Ao83 t528.length co83) : Value).ownBlock) (.slice Ao60 t512.length co60) t512) ∧ Aside0 (Kd.S k55 55 wc w.heap.size (fun k_ => some k_ ≠ ((.slice Ao26 t476.length co26) : Value).ownBlock ∧ some k_ ≠ ((.slice Ao42 t491.length co42) : Value).ownBlock ∧ some k_ ≠ ((.slice Ao92 t531.length co92) : Value).ownBlock) (.slice Ao67 t515.length co67) t515) ∧ Aside0 (Kd.S (Kd.slice 5 (Kd.int .u8)) 50 wc w.heap.size (fun k_ => some k_ ≠ ((.slice Ao26 t476.length co26) : Value).ownBlock ∧ some k_ ≠ ((.slice Ao22 t470.length co22) : Value).ownBlock ∧ some k_ ≠ ((.slice Ao29 t480.length co29) : Value).ownBlock ∧ some k_ ≠ ((.slice Ao37 t488.length co37) : Value).ownBlock ∧ some k_ ≠ ((.slice Ao50 t504.length co50) : Value).ownBlock ∧ some k_ ≠ ((.slice Ao60 t512.length co60) : Value).ownBlock ∧ some k_ ≠ ((.slice Ao83 t528.length co83) : Value).ownBlock) (.slice Ao71 t520.length co71) t520) ∧ Aside0 (Kd.S k61 61 wc w.heap.size (fun k_ => some k_ ≠ ((.slice Ao26 t476.length co26) : Value).ownBlock ∧ some k_ ≠ ((.slice Ao25 t473.length co25) : Value).ownBlock ∧ some k_ ≠ ((.slice Ao33 t483.length co33) : Value).ownBlock ∧ some k_ ≠ ((.slice Ao56 t507.length co56) : Value).ownBlock) (.slice Ao79 t523.length co79) t523) ∧ Aside0 (Kd.S (Kd.slice 5 (Kd.int .u8)) 50 wc w.heap.size (fun k_ => some k_ ≠ ((.slice Ao26 t476.length co26) : Value).ownBlock ∧ some k_ ≠ ((.slice Ao22 t470.length co22) : Value).ownBlock ∧ some k_ ≠ ((.slice Ao29 t480.length co29) : Value).ownBlock ∧ some k_ ≠ ((.slice Ao37 t488.length co37) : Value).ownBlock ∧ some k_ ≠ ((.slice Ao50 t504.length co50) : Value).ownBlock ∧ some k_ ≠ ((.slice Ao60 t512.length co60) : Value).ownBlock ∧ some k_ ≠ ((.slice Ao71 t520.length co71) : Value).ownBlock) (.slice Ao83 t528.length co83) t528) ∧ Aside0 (Kd.S k55 55 wc w.heap.size (fun k_ => some k_ ≠ ((.slice Ao26 t476.length co26) : Value).ownBlock ∧ some k_ ≠ ((.slice Ao42 t491.length co42) : Value).ownBlock ∧ some k_ ≠ ((.slice Ao67 t515.length co67) : Value).ownBlock) (.slice Ao92 t531.length co92) t531) ∧ Aside0 (wc.heap[gb469]? = some (.cells #[(.slice A0_0 l0_0.length c0_0), (.slice A0_1 l0_1.length c0_1)] 42 (0, 0))) ∧ Aside0 (wc.heap[gb479]? = some (.cells #[(.slice Ao22 t470.length co22), (.slice Ao25 t473.length co25)] 28 (0, 0))) ∧ Aside0 (wc.heap[gb487]? = some (.cells #[(.slice Ao29 t480.length co29), (.slice Ao33 t483.length co33)] 28 (0, 0))) ∧ Aside0 (wc.heap[gb495]? = some (.cells #[(.slice Ao37 t488.length co37), (.slice Ao42 t491.length co42)] 42 (0, 0))) ∧ Aside0 (wc.heap[gb511]? = some (.cells #[(.slice Ao50 t504.length co50), (.slice Ao56 t507.length co56)] 28 (0, 0))) ∧ Aside0 (wc.heap[gb519]? = some (.cells #[(.slice Ao60 t512.length co60), (.slice Ao67 t515.length co67)] 42 (0, 0))) ∧ Aside0 (wc.heap[gb527]? = some (.cells #[(.slice Ao71 t520.length co71), (.slice Ao79 t523.length co79)] 28 (0, 0))) ∧ Aside0 (wc.heap[gb535]? = some (.cells #[(.slice Ao83 t528.length co83), (.slice Ao92 t531.length co92)] 42 (0, 0))) ∧ Aside0 (Below w.heap.size w wc))
 case first =>
  have H := HC16.out
  clear HC16
  replace H := Option.bind_eq_some_iff.mp H
  obtain ⟨t536, A930, H⟩ := H
  replace H : (if t536 = 0 then ((transeptlaw04_num.f t486).bind fun t537 => (if t537 = t494 then ((transeptplain_SameBytes.f k t496 t500).bind fun t538 => (if t538 = true then ((transeptlaw04_num.f t499).bind fun t539 => (if t539 = t503 then ((transeptlaw04_Alike.f k t504 t507 t512 t515).bind fun t540 => (if t540 = 0 then ((transeptlaw04_num.f t510).bind fun t541 => (if t541 = t518 then ((transeptlaw04_Alike.f k t520 t523 t528 t531).bind fun t542 => (if t542 = 0 then ((transeptlaw04_num.f t526).bind fun t543 => (transeptlaw04_DiskTells.j0 k l2 t476 (t543 != t534) l0_0 l0_1 t470 t473)) else (transeptlaw04_DiskTells.j0 k l2 t476 true l0_0 l0_1 t470 t473))) else (transeptlaw04_DiskTells.j0 k l2 t476 true l0_0 l0_1 t470 t473))) else (transeptlaw04_DiskTells.j0 k l2 t476 true l0_0 l0_1 t470 t473))) else (transeptlaw04_DiskTells.j0 k l2 t476 true l0_0 l0_1 t470 t473))) else (transeptlaw04_DiskTells.j0 k l2 t476 true l0_0 l0_1 t470 t473))) else (transeptlaw04_DiskTells.j0 k l2 t476 true l0_0 l0_1 t470 t473))) else (transeptlaw04_DiskTells.j0 k l2 t476 true l0_0 l0_1 t470 t473)) = some r := H
  have A93 := Aside0.mk A930
  clear A930
  by_cases c94 : t536 = 0
  ·
   rw [if_pos c94] at H
   have c94b0 : (t536 == 0) = true := beq_iff_eq.mpr c94
   have c94b1 : (t536 != 0) = false := bne_eq_false_iff_eq.mpr c94
   clear c94
   (first | rw [c94b0] | (simp only [i64_w, i32_w]; rw [c94b0]) | skip)
   replace H := Option.bind_eq_some_iff.mp H
   obtain ⟨t537, A950, H⟩ := H
   replace H : (if t537 = t494 then ((transeptplain_SameBytes.f k t496 t500).bind fun t538 => (if t538 = true then ((transeptlaw04_num.f t499).bind fun t539 => (if t539 = t503 then ((transeptlaw04_Alike.f k t504 t507 t512 t515).bind fun t540 => (if t540 = 0 then ((transeptlaw04_num.f t510).bind fun t541 => (if t541 = t518 then ((transeptlaw04_Alike.f k t520 t523 t528 t531).bind fun t542 => (if t542 = 0 then ((transeptlaw04_num.f t526).bind fun t543 => (transeptlaw04_DiskTells.j0 k l2 t476 (t543 != t534) l0_0 l0_1 t470 t473)) else (transeptlaw04_DiskTells.j0 k l2 t476 true l0_0 l0_1 t470 t473))) else (transeptlaw04_DiskTells.j0 k l2 t476 true l0_0 l0_1 t470 t473))) else (transeptlaw04_DiskTells.j0 k l2 t476 true l0_0 l0_1 t470 t473))) else (transeptlaw04_DiskTells.j0 k l2 t476 true l0_0 l0_1 t470 t473))) else (transeptlaw04_DiskTells.j0 k l2 t476 true l0_0 l0_1 t470 t473))) else (transeptlaw04_DiskTells.j0 k l2 t476 true l0_0 l0_1 t470 t473)) = some r := H
   have A95 := Aside0.mk A950
   clear A950
   by_cases c96 : t537 = t494
   ·
    rw [if_pos c96] at H
    have c96b0 : (t537 == t494) = true := beq_iff_eq.mpr c96
    have c96b1 : (t537 != t494) = false := bne_eq_false_iff_eq.mpr c96
    clear c96
    replace H := Option.bind_eq_some_iff.mp H
    obtain ⟨t538, A970, H⟩ := H
    replace H : (if t538 = true then ((transeptlaw04_num.f t499).bind fun t539 => (if t539 = t503 then ((transeptlaw04_Alike.f k t504 t507 t512 t515).bind fun t540 => (if t540 = 0 then ((transeptlaw04_num.f t510).bind fun t541 => (if t541 = t518 then ((transeptlaw04_Alike.f k t520 t523 t528 t531).bind fun t542 => (if t542 = 0 then ((transeptlaw04_num.f t526).bind fun t543 => (transeptlaw04_DiskTells.j0 k l2 t476 (t543 != t534) l0_0 l0_1 t470 t473)) else (transeptlaw04_DiskTells.j0 k l2 t476 true l0_0 l0_1 t470 t473))) else (transeptlaw04_DiskTells.j0 k l2 t476 true l0_0 l0_1 t470 t473))) else (transeptlaw04_DiskTells.j0 k l2 t476 true l0_0 l0_1 t470 t473))) else (transeptlaw04_DiskTells.j0 k l2 t476 true l0_0 l0_1 t470 t473))) else (transeptlaw04_DiskTells.j0 k l2 t476 true l0_0 l0_1 t470 t473)) = some r := H
    have A97 := Aside0.mk A970
    clear A970
    by_cases c98 : t538 = true
    ·
     subst c98
     have H1 : ((transeptlaw04_num.f t499).bind fun t539 => (if t539 = t503 then ((transeptlaw04_Alike.f k t504 t507 t512 t515).bind fun t540 => (if t540 = 0 then ((transeptlaw04_num.f t510).bind fun t541 => (if t541 = t518 then ((transeptlaw04_Alike.f k t520 t523 t528 t531).bind fun t542 => (if t542 = 0 then ((transeptlaw04_num.f t526).bind fun t543 => (transeptlaw04_DiskTells.j0 k l2 t476 (t543 != t534) l0_0 l0_1 t470 t473)) else (transeptlaw04_DiskTells.j0 k l2 t476 true l0_0 l0_1 t470 t473))) else (transeptlaw04_DiskTells.j0 k l2 t476 true l0_0 l0_1 t470 t473))) else (transeptlaw04_DiskTells.j0 k l2 t476 true l0_0 l0_1 t470 t473))) else (transeptlaw04_DiskTells.j0 k l2 t476 true l0_0 l0_1 t470 t473))) = some r := by rw [if_pos rfl] at H; exact H
     clear H
     have H := H1
     clear H1
     replace H := Option.bind_eq_some_iff.mp H
     obtain ⟨t539, A990, H⟩ := H
     replace H : (if t539 = t503 then ((transeptlaw04_Alike.f k t504 t507 t512 t515).bind fun t540 => (if t540 = 0 then ((transeptlaw04_num.f t510).bind fun t541 => (if t541 = t518 then ((transeptlaw04_Alike.f k t520 t523 t528 t531).bind fun t542 => (if t542 = 0 then ((transeptlaw04_num.f t526).bind fun t543 => (transeptlaw04_DiskTells.j0 k l2 t476 (t543 != t534) l0_0 l0_1 t470 t473)) else (transeptlaw04_DiskTells.j0 k l2 t476 true l0_0 l0_1 t470 t473))) else (transeptlaw04_DiskTells.j0 k l2 t476 true l0_0 l0_1 t470 t473))) else (transeptlaw04_DiskTells.j0 k l2 t476 true l0_0 l0_1 t470 t473))) else (transeptlaw04_DiskTells.j0 k l2 t476 true l0_0 l0_1 t470 t473)) = some r := H
     have A99 := Aside0.mk A990
     clear A990
     by_cases c100 : t539 = t503
     ·
      rw [if_pos c100] at H
      have c100b0 : (t539 == t503) = true := beq_iff_eq.mpr c100
      have c100b1 : (t539 != t503) = false := bne_eq_false_iff_eq.mpr c100
      clear c100
      replace H := Option.bind_eq_some_iff.mp H
      obtain ⟨t540, A1010, H⟩ := H
      replace H : (if t540 = 0 then ((transeptlaw04_num.f t510).bind fun t541 => (if t541 = t518 then ((transeptlaw04_Alike.f k t520 t523 t528 t531).bind fun t542 => (if t542 = 0 then ((transeptlaw04_num.f t526).bind fun t543 => (transeptlaw04_DiskTells.j0 k l2 t476 (t543 != t534) l0_0 l0_1 t470 t473)) else (transeptlaw04_DiskTells.j0 k l2 t476 true l0_0 l0_1 t470 t473))) else (transeptlaw04_DiskTells.j0 k l2 t476 true l0_0 l0_1 t470 t473))) else (transeptlaw04_DiskTells.j0 k l2 t476 true l0_0 l0_1 t470 t473)) = some r := H
      have A101 := Aside0.mk A1010
      clear A1010
      by_cases c102 : t540 = 0
      ·
       rw [if_pos c102] at H
       have c102b0 : (t540 == 0) = true := beq_iff_eq.mpr c102
       have c102b1 : (t540 != 0) = false := bne_eq_false_iff_eq.mpr c102
       clear c102
       replace H := Option.bind_eq_some_iff.mp H
       obtain ⟨t541, A1030, H⟩ := H
       replace H : (if t541 = t518 then ((transeptlaw04_Alike.f k t520 t523 t528 t531).bind fun t542 => (if t542 = 0 then ((transeptlaw04_num.f t526).bind fun t543 => (transeptlaw04_DiskTells.j0 k l2 t476 (t543 != t534) l0_0 l0_1 t470 t473)) else (transeptlaw04_DiskTells.j0 k l2 t476 true l0_0 l0_1 t470 t473))) else (transeptlaw04_DiskTells.j0 k l2 t476 true l0_0 l0_1 t470 t473)) = some r := H
       have A103 := Aside0.mk A1030
       clear A1030
       by_cases c104 : t541 = t518
       ·
        rw [if_pos c104] at H
        have c104b0 : (t541 == t518) = true := beq_iff_eq.mpr c104
        have c104b1 : (t541 != t518) = false := bne_eq_false_iff_eq.mpr c104
        clear c104
        replace H := Option.bind_eq_some_iff.mp H
        obtain ⟨t542, A1050, H⟩ := H
        replace H : (if t542 = 0 then ((transeptlaw04_num.f t526).bind fun t543 => (transeptlaw04_DiskTells.j0 k l2 t476 (t543 != t534) l0_0 l0_1 t470 t473)) else (transeptlaw04_DiskTells.j0 k l2 t476 true l0_0 l0_1 t470 t473)) = some r := H
        have A105 := Aside0.mk A1050
        clear A1050
        by_cases c106 : t542 = 0
        ·
         rw [if_pos c106] at H
         have c106b0 : (t542 == 0) = true := beq_iff_eq.mpr c106
         have c106b1 : (t542 != 0) = false := bne_eq_false_iff_eq.mpr c106
         clear c106
         replace H := Option.bind_eq_some_iff.mp H
         obtain ⟨t543, A1070, H⟩ := H
         replace H : (transeptlaw04_DiskTells.j0 k l2 t476 (t543 != t534) l0_0 l0_1 t470 t473) = some r := H
         have A107 := Aside0.mk A1070
         clear A1070
         have H' := Aside0.mk H
         clear H
         have hnb108 := NB487_469.out
         have hnc108 := NB469_487.out
         have hnb109 := NB487_479.out
         have hnc109 := NB479_487.out
         have hnb110 := NB487_495.out
         have hnc110 := NB495_487.out
         have hnb111 := NB487_511.out
         have hnc111 := NB511_487.out
         have hnb112 := NB487_519.out
         have hnc112 := NB519_487.out
         have hnb113 := NB487_527.out
         have hnc113 := NB527_487.out
         have hnb114 := NB487_535.out
         have hnc114 := NB535_487.out
         have hcz115_0 : w82.cell? ⟨gb487, 0, none⟩ = some (.slice Ao29 t480.length co29) := (blk_cell BK487.out 0).trans rfl
         have hcz115_1 : w82.cell? ⟨gb487, 1, none⟩ = some (.slice Ao33 t483.length co33) := (blk_cell BK487.out 1).trans rfl
         have hfz115_0 := blk_frozen BK487.out 0
         have hfz115_1 := blk_frozen BK487.out 1
         have hnb116 := NB495_469.out
         have hnc116 := NB469_495.out
         have hnb117 := NB495_479.out
         have hnc117 := NB479_495.out
         have hnb118 := NB495_511.out
         have hnc118 := NB511_495.out
         have hnb119 := NB495_519.out
         have hnc119 := NB519_495.out
         have hnb120 := NB495_527.out
         have hnc120 := NB527_495.out
         have hnb121 := NB495_535.out
         have hnc121 := NB535_495.out
         have hcz122_0 : w82.cell? ⟨gb495, 0, none⟩ = some (.slice Ao37 t488.length co37) := (blk_cell BK495.out 0).trans rfl
         have hcz122_1 : w82.cell? ⟨gb495, 1, none⟩ = some (.slice Ao42 t491.length co42) := (blk_cell BK495.out 1).trans rfl
         have hfz122_0 := blk_frozen BK495.out 0
         have hfz122_1 := blk_frozen BK495.out 1
         go_wp2_with (first | ((with_reducible refine gate_callee (f := 24) rfl ?_); refine goesL_ (some 87) rfl rfl Try.func24 (by kernel_rfl) rfl #[.agg #[.slice Ao29 t480.length co29, .slice Ao33 t483.length co33], .agg #[.slice Ao37 t488.length co37, .slice Ao42 t491.length co42]] rfl (by (try simp only [List.map_toArray, List.map_cons, List.map_nil]); first | done | rfl | (simp only [List.length_drop, List.length_take]; rfl)) ?_; (with_reducible refine (transeptlaw04_Alike.calls k _ _ t480 _ _ t483 _ _ t488 _ _ t491 t536 _ ?side1 ?side2 ?side3 ?side4 ?side5 ?side6 ?side7 ?side8 A93.out).mono ?_); (case side1 => refine (Kd.S_reads' (e := 50) (base := w.heap.size) (ok := fun k_ => (((((((((True ∧ some k_ ≠ (.slice Ao22 t470.length co22 : Value).ownBlock) ∧ some k_ ≠ (.slice Ao26 t476.length co26 : Value).ownBlock) ∧ some k_ ≠ (.slice Ao37 t488.length co37 : Value).ownBlock) ∧ some k_ ≠ (v497 : Value).ownBlock) ∧ some k_ ≠ (v501 : Value).ownBlock) ∧ some k_ ≠ (.slice Ao50 t504.length co50 : Value).ownBlock) ∧ some k_ ≠ (.slice Ao60 t512.length co60 : Value).ownBlock) ∧ some k_ ≠ (.slice Ao71 t520.length co71 : Value).ownBlock) ∧ some k_ ≠ (.slice Ao83 t528.length co83 : Value).ownBlock)) (n := t480.length) (c := co29) ?_).2.2; exact (by (with_reducible repeat (first | apply Kd.S_alloc | apply Kd.S_drewN | apply Kd.S_drew)); exact (Kd.S_mono (Kd.S_far (p := ⟨gb535, 1, none⟩) (Kd.S_far (p := ⟨gb535, 0, none⟩) (Kd.S_types HO482.out BK535.out (by decide)) (fun _ hk => hk.2) (.slice Ao83 t528.length co83)) (fun _ hk => hk.2) (.slice Ao92 t531.length co92)) (fun _ h_ => h_.1)))); (case side2 => exact (Kd.S_reads' HO482.out).2.1); (case side3 => refine (Kd.S_reads' (e := 61) (base := w.heap.size) (ok := fun k_ => ((((((True ∧ some k_ ≠ (.slice Ao25 t473.length co25 : Value).ownBlock) ∧ some k_ ≠ (.slice Ao26 t476.length co26 : Value).ownBlock) ∧ some k_ ≠ (v497 : Value).ownBlock) ∧ some k_ ≠ (v501 : Value).ownBlock) ∧ some k_ ≠ (.slice Ao56 t507.length co56 : Value).ownBlock) ∧ some k_ ≠ (.slice Ao79 t523.length co79 : Value).ownBlock)) (n := t483.length) (c := co33) ?_).2.2; exact (by (with_reducible repeat (first | apply Kd.S_alloc | apply Kd.S_drewN | apply Kd.S_drew)); exact (Kd.S_mono (Kd.S_far (p := ⟨gb535, 1, none⟩) (Kd.S_far (p := ⟨gb535, 0, none⟩) (Kd.S_types HO485.out BK535.out (by decide)) (fun _ hk => hk.2) (.slice Ao83 t528.length co83)) (fun _ hk => hk.2) (.slice Ao92 t531.length co92)) (fun _ h_ => h_.1)))); (case side4 => exact (Kd.S_reads' HO485.out).2.1); (case side5 => refine (Kd.S_reads' (e := 50) (base := w.heap.size) (ok := fun k_ => (((((((((True ∧ some k_ ≠ (.slice Ao22 t470.length co22 : Value).ownBlock) ∧ some k_ ≠ (.slice Ao26 t476.length co26 : Value).ownBlock) ∧ some k_ ≠ (.slice Ao29 t480.length co29 : Value).ownBlock) ∧ some k_ ≠ (v497 : Value).ownBlock) ∧ some k_ ≠ (v501 : Value).ownBlock) ∧ some k_ ≠ (.slice Ao50 t504.length co50 : Value).ownBlock) ∧ some k_ ≠ (.slice Ao60 t512.length co60 : Value).ownBlock) ∧ some k_ ≠ (.slice Ao71 t520.length co71 : Value).ownBlock) ∧ some k_ ≠ (.slice Ao83 t528.length co83 : Value).ownBlock)) (n := t488.length) (c := co37) ?_).2.2; exact (by (with_reducible repeat (first | apply Kd.S_alloc | apply Kd.S_drewN | apply Kd.S_drew)); exact (Kd.S_mono (Kd.S_far (p := ⟨gb535, 1, none⟩) (Kd.S_far (p := ⟨gb535, 0, none⟩) (Kd.S_types HO490.out BK535.out (by decide)) (fun _ hk => hk.2) (.slice Ao83 t528.length co83)) (fun _ hk => hk.2) (.slice Ao92 t531.length co92)) (fun _ h_ => h_.1)))); (case side6 => exact (Kd.S_reads' HO490.out).2.1); (case side7 => refine (Kd.S_reads' (e := 55) (base := w.heap.size) (ok := fun k_ => (((((True ∧ some k_ ≠ (.slice Ao26 t476.length co26 : Value).ownBlock) ∧ some k_ ≠ (v497 : Value).ownBlock) ∧ some k_ ≠ (v501 : Value).ownBlock) ∧ some k_ ≠ (.slice Ao67 t515.length co67 : Value).ownBlock) ∧ some k_ ≠ (.slice Ao92 t531.length co92 : Value).ownBlock)) (n := t491.length) (c := co42) ?_).2.2; exact (by (with_reducible repeat (first | apply Kd.S_alloc | apply Kd.S_drewN | apply Kd.S_drew)); exact (Kd.S_mono (Kd.S_far (p := ⟨gb535, 1, none⟩) (Kd.S_far (p := ⟨gb535, 0, none⟩) (Kd.S_types HO493.out BK535.out (by decide)) (fun _ hk => hk.2) (.slice Ao83 t528.length co83)) (fun _ hk => hk.2) (.slice Ao92 t531.length co92)) (fun _ h_ => h_.1)))); (case side8 => exact (Kd.S_reads' HO493.out).2.1); rintro e w123 ⟨rfl, hb⟩; refine ⟨_, rfl, ?_⟩; have n0_ := Aside0.mk (Kd.S_below (by (with_reducible repeat (first | apply Kd.S_alloc | apply Kd.S_drewN | apply Kd.S_drew)); exact (Kd.S_mono (Kd.S_far (p := ⟨gb535, 1, none⟩) (Kd.S_far (p := ⟨gb535, 0, none⟩) (Kd.S_types HO472.out BK535.out (by decide)) (fun _ hk => hk.2) (.slice Ao83 t528.length co83)) (fun _ hk => hk.2) (.slice Ao92 t531.length co92)) (fun _ h_ => h_.1))) hb); have n1_ := Aside0.mk (Kd.S_below (by (with_reducible repeat (first | apply Kd.S_alloc | apply Kd.S_drewN | apply Kd.S_drew)); exact (Kd.S_mono (Kd.S_far (p := ⟨gb535, 1, none⟩) (Kd.S_far (p := ⟨gb535, 0, none⟩) (Kd.S_types HO475.out BK535.out (by decide)) (fun _ hk => hk.2) (.slice Ao83 t528.length co83)) (fun _ hk => hk.2) (.slice Ao92 t531.length co92)) (fun _ h_ => h_.1))) hb); have n2_ := Aside0.mk (Kd.R_below (by (with_reducible repeat (first | apply Kd.R_alloc | apply Kd.R_drewN | apply Kd.R_drew)); exact (Kd.R_mono (Kd.R_far (p := ⟨gb535, 1, none⟩) (Kd.R_far (p := ⟨gb535, 0, none⟩) (Kd.R_types HO478.out BK535.out (by decide)) (fun _ hk => hk.2) (.slice Ao83 t528.length co83)) (fun _ hk => hk.2) (.slice Ao92 t531.length co92)) (fun _ h_ => h_.1))) hb); have n3_ := Aside0.mk (Kd.S_below (by (with_reducible repeat (first | apply Kd.S_alloc | apply Kd.S_drewN | apply Kd.S_drew)); exact (Kd.S_mono (Kd.S_far (p := ⟨gb535, 1, none⟩) (Kd.S_far (p := ⟨gb535, 0, none⟩) (Kd.S_types HO482.out BK535.out (by decide)) (fun _ hk => hk.2) (.slice Ao83 t528.length co83)) (fun _ hk => hk.2) (.slice Ao92 t531.length co92)) (fun _ h_ => h_.1))) hb); have n4_ := Aside0.mk (Kd.S_below (by (with_reducible repeat (first | apply Kd.S_alloc | apply Kd.S_drewN | apply Kd.S_drew)); exact (Kd.S_mono (Kd.S_far (p := ⟨gb535, 1, none⟩) (Kd.S_far (p := ⟨gb535, 0, none⟩) (Kd.S_types HO485.out BK535.out (by decide)) (fun _ hk => hk.2) (.slice Ao83 t528.length co83)) (fun _ hk => hk.2) (.slice Ao92 t531.length co92)) (fun _ h_ => h_.1))) hb); have n5_ := Aside0.mk (Kd.S_below (by (with_reducible repeat (first | apply Kd.S_alloc | apply Kd.S_drewN | apply Kd.S_drew)); exact (Kd.S_mono (Kd.S_far (p := ⟨gb535, 1, none⟩) (Kd.S_far (p := ⟨gb535, 0, none⟩) (Kd.S_types HO490.out BK535.out (by decide)) (fun _ hk => hk.2) (.slice Ao83 t528.length co83)) (fun _ hk => hk.2) (.slice Ao92 t531.length co92)) (fun _ h_ => h_.1))) hb); have n6_ := Aside0.mk (Kd.S_below (by (with_reducible repeat (first | apply Kd.S_alloc | apply Kd.S_drewN | apply Kd.S_drew)); exact (Kd.S_mono (Kd.S_far (p := ⟨gb535, 1, none⟩) (Kd.S_far (p := ⟨gb535, 0, none⟩) (Kd.S_types HO493.out BK535.out (by decide)) (fun _ hk => hk.2) (.slice Ao83 t528.length co83)) (fun _ hk => hk.2) (.slice Ao92 t531.length co92)) (fun _ h_ => h_.1))) hb); have n7_ := Aside0.mk (Kd.R_below (by (with_reducible repeat (first | apply Kd.R_alloc | apply Kd.R_drewN | apply Kd.R_drew)); exact (Kd.R_mono (Kd.R_far (p := ⟨gb535, 1, none⟩) (Kd.R_far (p := ⟨gb535, 0, none⟩) (Kd.R_types HO498.out BK535.out (by decide)) (fun _ hk => hk.2) (.slice Ao83 t528.length co83)) (fun _ hk => hk.2) (.slice Ao92 t531.length co92)) (fun _ h_ => h_.1))) hb); have n8_ := Aside0.mk (Kd.R_below (by (with_reducible repeat (first | apply Kd.R_alloc | apply Kd.R_drewN | apply Kd.R_drew)); exact (Kd.R_mono (Kd.R_far (p := ⟨gb535, 1, none⟩) (Kd.R_far (p := ⟨gb535, 0, none⟩) (Kd.R_types HO502.out BK535.out (by decide)) (fun _ hk => hk.2) (.slice Ao83 t528.length co83)) (fun _ hk => hk.2) (.slice Ao92 t531.length co92)) (fun _ h_ => h_.1))) hb); have n9_ := Aside0.mk (Kd.S_below (by (with_reducible repeat (first | apply Kd.S_alloc | apply Kd.S_drewN | apply Kd.S_drew)); exact (Kd.S_mono (Kd.S_far (p := ⟨gb535, 1, none⟩) (Kd.S_far (p := ⟨gb535, 0, none⟩) (Kd.S_types HO506.out BK535.out (by decide)) (fun _ hk => hk.2) (.slice Ao83 t528.length co83)) (fun _ hk => hk.2) (.slice Ao92 t531.length co92)) (fun _ h_ => h_.1))) hb); have n10_ := Aside0.mk (Kd.S_below (by (with_reducible repeat (first | apply Kd.S_alloc | apply Kd.S_drewN | apply Kd.S_drew)); exact (Kd.S_mono (Kd.S_far (p := ⟨gb535, 1, none⟩) (Kd.S_far (p := ⟨gb535, 0, none⟩) (Kd.S_types HO509.out BK535.out (by decide)) (fun _ hk => hk.2) (.slice Ao83 t528.length co83)) (fun _ hk => hk.2) (.slice Ao92 t531.length co92)) (fun _ h_ => h_.1))) hb); have n11_ := Aside0.mk (Kd.S_below (by (with_reducible repeat (first | apply Kd.S_alloc | apply Kd.S_drewN | apply Kd.S_drew)); exact (Kd.S_mono (Kd.S_far (p := ⟨gb535, 1, none⟩) (Kd.S_far (p := ⟨gb535, 0, none⟩) (Kd.S_types HO514.out BK535.out (by decide)) (fun _ hk => hk.2) (.slice Ao83 t528.length co83)) (fun _ hk => hk.2) (.slice Ao92 t531.length co92)) (fun _ h_ => h_.1))) hb); have n12_ := Aside0.mk (Kd.S_below (by (with_reducible repeat (first | apply Kd.S_alloc | apply Kd.S_drewN | apply Kd.S_drew)); exact (Kd.S_mono (Kd.S_far (p := ⟨gb535, 1, none⟩) (Kd.S_far (p := ⟨gb535, 0, none⟩) (Kd.S_types HO517.out BK535.out (by decide)) (fun _ hk => hk.2) (.slice Ao83 t528.length co83)) (fun _ hk => hk.2) (.slice Ao92 t531.length co92)) (fun _ h_ => h_.1))) hb); have n13_ := Aside0.mk (Kd.S_below (by (with_reducible repeat (first | apply Kd.S_alloc | apply Kd.S_drewN | apply Kd.S_drew)); exact (Kd.S_mono (Kd.S_far (p := ⟨gb535, 1, none⟩) (Kd.S_far (p := ⟨gb535, 0, none⟩) (Kd.S_types HO522.out BK535.out (by decide)) (fun _ hk => hk.2) (.slice Ao83 t528.length co83)) (fun _ hk => hk.2) (.slice Ao92 t531.length co92)) (fun _ h_ => h_.1))) hb); have n14_ := Aside0.mk (Kd.S_below (by (with_reducible repeat (first | apply Kd.S_alloc | apply Kd.S_drewN | apply Kd.S_drew)); exact (Kd.S_mono (Kd.S_far (p := ⟨gb535, 1, none⟩) (Kd.S_far (p := ⟨gb535, 0, none⟩) (Kd.S_types HO525.out BK535.out (by decide)) (fun _ hk => hk.2) (.slice Ao83 t528.length co83)) (fun _ hk => hk.2) (.slice Ao92 t531.length co92)) (fun _ h_ => h_.1))) hb); have n15_ := Aside0.mk (Kd.S_below (by (with_reducible repeat (first | apply Kd.S_alloc | apply Kd.S_drewN | apply Kd.S_drew)); exact (Kd.S_mono (Kd.S_far (p := ⟨gb535, 1, none⟩) (Kd.S_far (p := ⟨gb535, 0, none⟩) (Kd.S_types HO530.out BK535.out (by decide)) (fun _ hk => hk.2) (.slice Ao83 t528.length co83)) (fun _ hk => hk.2) (.slice Ao92 t531.length co92)) (fun _ h_ => h_.1))) hb); have n16_ := Aside0.mk (Kd.S_below (by (with_reducible repeat (first | apply Kd.S_alloc | apply Kd.S_drewN | apply Kd.S_drew)); exact (Kd.S_mono (Kd.S_far (p := ⟨gb535, 1, none⟩) (Kd.S_far (p := ⟨gb535, 0, none⟩) (Kd.S_types HO533.out BK535.out (by decide)) (fun _ hk => hk.2) (.slice Ao83 t528.length co83)) (fun _ hk => hk.2) (.slice Ao92 t531.length co92)) (fun _ h_ => h_.1))) hb); have n17_ := Aside0.mk (blk_below (g := gb469) (o := .cells #[.slice A0_0 l0_0.length c0_0, .slice A0_1 l0_1.length c0_1] 42 (0, 0)) (by (with_reducible repeat (first | refine blk_drewN ?_ _ | refine blk_drew ?_ | refine blk_alloc ?_ _)); refine blk_far ?_ NB469_535.out _; (with_reducible repeat (first | refine blk_drewN ?_ _ | refine blk_drew ?_ | refine blk_alloc ?_ _)); refine blk_far ?_ NB469_535.out _; (with_reducible repeat (first | refine blk_drewN ?_ _ | refine blk_drew ?_ | refine blk_alloc ?_ _)); exact BK469.out) hb); have n18_ := Aside0.mk (blk_below (g := gb479) (o := .cells #[.slice Ao22 t470.length co22, .slice Ao25 t473.length co25] 28 (0, 0)) (by (with_reducible repeat (first | refine blk_drewN ?_ _ | refine blk_drew ?_ | refine blk_alloc ?_ _)); refine blk_far ?_ NB479_535.out _; (with_reducible repeat (first | refine blk_drewN ?_ _ | refine blk_drew ?_ | refine blk_alloc ?_ _)); refine blk_far ?_ NB479_535.out _; (with_reducible repeat (first | refine blk_drewN ?_ _ | refine blk_drew ?_ | refine blk_alloc ?_ _)); exact BK479.out) hb); have n19_ := Aside0.mk (blk_below (g := gb487) (o := .cells #[.slice Ao29 t480.length co29, .slice Ao33 t483.length co33] 28 (0, 0)) (by (with_reducible repeat (first | refine blk_drewN ?_ _ | refine blk_drew ?_ | refine blk_alloc ?_ _)); refine blk_far ?_ NB487_535.out _; (with_reducible repeat (first | refine blk_drewN ?_ _ | refine blk_drew ?_ | refine blk_alloc ?_ _)); refine blk_far ?_ NB487_535.out _; (with_reducible repeat (first | refine blk_drewN ?_ _ | refine blk_drew ?_ | refine blk_alloc ?_ _)); exact BK487.out) hb); have n20_ := Aside0.mk (blk_below (g := gb495) (o := .cells #[.slice Ao37 t488.length co37, .slice Ao42 t491.length co42] 42 (0, 0)) (by (with_reducible repeat (first | refine blk_drewN ?_ _ | refine blk_drew ?_ | refine blk_alloc ?_ _)); refine blk_far ?_ NB495_535.out _; (with_reducible repeat (first | refine blk_drewN ?_ _ | refine blk_drew ?_ | refine blk_alloc ?_ _)); refine blk_far ?_ NB495_535.out _; (with_reducible repeat (first | refine blk_drewN ?_ _ | refine blk_drew ?_ | refine blk_alloc ?_ _)); exact BK495.out) hb); have n21_ := Aside0.mk (blk_below (g := gb511) (o := .cells #[.slice Ao50 t504.length co50, .slice Ao56 t507.length co56] 28 (0, 0)) (by (with_reducible repeat (first | refine blk_drewN ?_ _ | refine blk_drew ?_ | refine blk_alloc ?_ _)); refine blk_far ?_ NB511_535.out _; (with_reducible repeat (first | refine blk_drewN ?_ _ | refine blk_drew ?_ | refine blk_alloc ?_ _)); refine blk_far ?_ NB511_535.out _; (with_reducible repeat (first | refine blk_drewN ?_ _ | refine blk_drew ?_ | refine blk_alloc ?_ _)); exact BK511.out) hb); have n22_ := Aside0.mk (blk_below (g := gb519) (o := .cells #[.slice Ao60 t512.length co60, .slice Ao67 t515.length co67] 42 (0, 0)) (by (with_reducible repeat (first | refine blk_drewN ?_ _ | refine blk_drew ?_ | refine blk_alloc ?_ _)); refine blk_far ?_ NB519_535.out _; (with_reducible repeat (first | refine blk_drewN ?_ _ | refine blk_drew ?_ | refine blk_alloc ?_ _)); refine blk_far ?_ NB519_535.out _; (with_reducible repeat (first | refine blk_drewN ?_ _ | refine blk_drew ?_ | refine blk_alloc ?_ _)); exact BK519.out) hb); have n23_ := Aside0.mk (blk_below (g := gb527) (o := .cells #[.slice Ao71 t520.length co71, .slice Ao79 t523.length co79] 28 (0, 0)) (by (with_reducible repeat (first | refine blk_drewN ?_ _ | refine blk_drew ?_ | refine blk_alloc ?_ _)); refine blk_far ?_ NB527_535.out _; (with_reducible repeat (first | refine blk_drewN ?_ _ | refine blk_drew ?_ | refine blk_alloc ?_ _)); refine blk_far ?_ NB527_535.out _; (with_reducible repeat (first | refine blk_drewN ?_ _ | refine blk_drew ?_ | refine blk_alloc ?_ _)); exact BK527.out) hb); have n24_ := Aside0.mk (blk_below (g := gb535) (o := .cells #[.slice Ao83 t528.length co83, .slice Ao92 t531.length co92] 42 (0, 0)) (by (with_reducible repeat (first | refine blk_drewN ?_ _ | refine blk_drew ?_ | refine blk_alloc ?_ _)); refine blk_put (cs := #[.slice Ao83 t528.length co83, .slice none 0 0]) ?_ 1 _ rfl; (with_reducible repeat (first | refine blk_drewN ?_ _ | refine blk_drew ?_ | refine blk_alloc ?_ _)); refine blk_put (cs := #[.slice none 0 0, .slice none 0 0]) ?_ 0 _ rfl; (with_reducible repeat (first | refine blk_drewN ?_ _ | refine blk_drew ?_ | refine blk_alloc ?_ _)); exact BK535.out) hb); have n25_ := Aside0.mk (below_step (by repeat (first | (with_reducible first | exact HB.out | apply below_alloc | apply pw_below_drewN | apply below_drew1 | refine below_set ?_ GE469.out | refine below_set ?_ GE479.out | refine below_set ?_ GE487.out | refine below_set ?_ GE495.out | refine below_set ?_ GE511.out | refine below_set ?_ GE519.out | refine below_set ?_ GE527.out | refine below_set ?_ GE535.out) | exact HB.out)) hb); clear HO472; clear HO475; clear HO478; clear HO482; clear HO485; clear HO490; clear HO493; clear HO498; clear HO502; clear HO506; clear HO509; clear HO514; clear HO517; clear HO522; clear HO525; clear HO530; clear HO533; clear BK469; clear BK479; clear BK487; clear BK495; clear BK511; clear BK519; clear BK527; clear BK535; clear HB; have HO472 := n0_; have HO475 := n1_; have HO478 := n2_; have HO482 := n3_; have HO485 := n4_; have HO490 := n5_; have HO493 := n6_; have HO498 := n7_; have HO502 := n8_; have HO506 := n9_; have HO509 := n10_; have HO514 := n11_; have HO517 := n12_; have HO522 := n13_; have HO525 := n14_; have HO530 := n15_; have HO533 := n16_; have BK469 := n17_; have BK479 := n18_; have BK487 := n19_; have BK495 := n20_; have BK511 := n21_; have BK519 := n22_; have BK527 := n23_; have BK535 := n24_; have HB := n25_; clear n0_ n1_ n2_ n3_ n4_ n5_ n6_ n7_ n8_ n9_ n10_ n11_ n12_ n13_ n14_ n15_ n16_ n17_ n18_ n19_ n20_ n21_ n22_ n23_ n24_ n25_; (try clear hb); (try clear hb2); (try clear hk); (try clear hi)) | (go_at_call 25; (with_reducible refine (transeptlaw04_num.calls t486 t537 _ A95.out).mono ?_); rintro e w' ⟨rfl, ⟨nd, rfl⟩⟩; obtain ⟨Ao124, co124, eo124⟩ := Kd.R_slice HO498.out; subst eo124; obtain ⟨Ao125, co125, eo125⟩ := Kd.R_slice HO502.out; subst eo125) | (go_at_call 28; (with_reducible refine (transeptplain_SameBytes.calls k _ _ t496 _ _ t500 true _ ?side1 ?side2 ?side3 ?side4 A97.out).mono ?_); (case side1 => repeat (first | exact (Kd.R_reads' HO498.out).2.2 | (with_reducible refine Kd.C_alloc ?_ _) | (with_reducible refine Kd.C_drewN ?_ _) | (with_reducible refine Kd.C_drew ?_))); (case side2 => exact (Kd.R_reads' HO498.out).2.1); (case side3 => repeat (first | exact (Kd.R_reads' HO502.out).2.2 | (with_reducible refine Kd.C_alloc ?_ _) | (with_reducible refine Kd.C_drewN ?_ _) | (with_reducible refine Kd.C_drew ?_))); (case side4 => exact (Kd.R_reads' HO502.out).2.1); rintro e w' ⟨rfl, ⟨nd, rfl⟩⟩) | (go_at_call 25; (with_reducible refine (transeptlaw04_num.calls t499 t539 _ A99.out).mono ?_); rintro e w' ⟨rfl, ⟨nd, rfl⟩⟩; have hnb126 := NB511_469.out; have hnc126 := NB469_511.out; have hnb127 := NB511_479.out; have hnc127 := NB479_511.out; have hnb128 := NB511_519.out; have hnc128 := NB519_511.out; have hnb129 := NB511_527.out; have hnc129 := NB527_511.out; have hnb130 := NB511_535.out; have hnc130 := NB535_511.out; have hcz131_0 : w123.cell? ⟨gb511, 0, none⟩ = some (.slice Ao50 t504.length co50) := (blk_cell BK511.out 0).trans rfl; have hcz131_1 : w123.cell? ⟨gb511, 1, none⟩ = some (.slice Ao56 t507.length co56) := (blk_cell BK511.out 1).trans rfl; have hfz131_0 := blk_frozen BK511.out 0; have hfz131_1 := blk_frozen BK511.out 1; have hnb132 := NB519_469.out; have hnc132 := NB469_519.out; have hnb133 := NB519_479.out; have hnc133 := NB479_519.out; have hnb134 := NB519_527.out; have hnc134 := NB527_519.out; have hnb135 := NB519_535.out; have hnc135 := NB535_519.out; have hcz136_0 : w123.cell? ⟨gb519, 0, none⟩ = some (.slice Ao60 t512.length co60) := (blk_cell BK519.out 0).trans rfl; have hcz136_1 : w123.cell? ⟨gb519, 1, none⟩ = some (.slice Ao67 t515.length co67) := (blk_cell BK519.out 1).trans rfl; have hfz136_0 := blk_frozen BK519.out 0; have hfz136_1 := blk_frozen BK519.out 1) | (go_at_call 24; (with_reducible refine (transeptlaw04_Alike.calls k _ _ t504 _ _ t507 _ _ t512 _ _ t515 t540 _ ?side1 ?side2 ?side3 ?side4 ?side5 ?side6 ?side7 ?side8 A101.out).mono ?_); (case side1 => repeat (first | exact (Kd.S_reads' HO506.out).2.2 | (with_reducible refine Kd.C_alloc ?_ _) | (with_reducible refine Kd.C_drewN ?_ _) | (with_reducible refine Kd.C_drew ?_))); (case side2 => exact (Kd.S_reads' HO506.out).2.1); (case side3 => repeat (first | exact (Kd.S_reads' HO509.out).2.2 | (with_reducible refine Kd.C_alloc ?_ _) | (with_reducible refine Kd.C_drewN ?_ _) | (with_reducible refine Kd.C_drew ?_))); (case side4 => exact (Kd.S_reads' HO509.out).2.1); (case side5 => repeat (first | exact (Kd.S_reads' HO514.out).2.2 | (with_reducible refine Kd.C_alloc ?_ _) | (with_reducible refine Kd.C_drewN ?_ _) | (with_reducible refine Kd.C_drew ?_))); (case side6 => exact (Kd.S_reads' HO514.out).2.1); (case side7 => repeat (first | exact (Kd.S_reads' HO517.out).2.2 | (with_reducible refine Kd.C_alloc ?_ _) | (with_reducible refine Kd.C_drewN ?_ _) | (with_reducible refine Kd.C_drew ?_))); (case side8 => exact (Kd.S_reads' HO517.out).2.1); rintro e w137 ⟨rfl, hb⟩; have n0_ := Aside0.mk (Kd.S_below (SU HO472.out) hb); have n1_ := Aside0.mk (Kd.S_below (SU HO475.out) hb); have n2_ := Aside0.mk (Kd.R_below (RU HO478.out) hb); have n3_ := Aside0.mk (Kd.S_below (SU HO482.out) hb); have n4_ := Aside0.mk (Kd.S_below (SU HO485.out) hb); have n5_ := Aside0.mk (Kd.S_below (SU HO490.out) hb); have n6_ := Aside0.mk (Kd.S_below (SU HO493.out) hb); have n7_ := Aside0.mk (Kd.R_below (RU HO498.out) hb); have n8_ := Aside0.mk (Kd.R_below (RU HO502.out) hb); have n9_ := Aside0.mk (Kd.S_below (SU HO506.out) hb); have n10_ := Aside0.mk (Kd.S_below (SU HO509.out) hb); have n11_ := Aside0.mk (Kd.S_below (SU HO514.out) hb); have n12_ := Aside0.mk (Kd.S_below (SU HO517.out) hb); have n13_ := Aside0.mk (Kd.S_below (SU HO522.out) hb); have n14_ := Aside0.mk (Kd.S_below (SU HO525.out) hb); have n15_ := Aside0.mk (Kd.S_below (SU HO530.out) hb); have n16_ := Aside0.mk (Kd.S_below (SU HO533.out) hb); have n17_ := Aside0.mk (blk_below (g := gb469) (o := .cells #[.slice A0_0 l0_0.length c0_0, .slice A0_1 l0_1.length c0_1] 42 (0, 0)) (BU BK469.out) hb); have n18_ := Aside0.mk (blk_below (g := gb479) (o := .cells #[.slice Ao22 t470.length co22, .slice Ao25 t473.length co25] 28 (0, 0)) (BU BK479.out) hb); have n19_ := Aside0.mk (blk_below (g := gb487) (o := .cells #[.slice Ao29 t480.length co29, .slice Ao33 t483.length co33] 28 (0, 0)) (BU BK487.out) hb); have n20_ := Aside0.mk (blk_below (g := gb495) (o := .cells #[.slice Ao37 t488.length co37, .slice Ao42 t491.length co42] 42 (0, 0)) (BU BK495.out) hb); have n21_ := Aside0.mk (blk_below (g := gb511) (o := .cells #[.slice Ao50 t504.length co50, .slice Ao56 t507.length co56] 28 (0, 0)) (BU BK511.out) hb); have n22_ := Aside0.mk (blk_below (g := gb519) (o := .cells #[.slice Ao60 t512.length co60, .slice Ao67 t515.length co67] 42 (0, 0)) (BU BK519.out) hb); have n23_ := Aside0.mk (blk_below (g := gb527) (o := .cells #[.slice Ao71 t520.length co71, .slice Ao79 t523.length co79] 28 (0, 0)) (BU BK527.out) hb); have n24_ := Aside0.mk (blk_below (g := gb535) (o := .cells #[.slice Ao83 t528.length co83, .slice Ao92 t531.length co92] 42 (0, 0)) (BU BK535.out) hb); have n25_ := Aside0.mk (below_step (by repeat (first | (with_reducible first | exact HB.out | apply below_alloc | apply pw_below_drewN | apply below_drew1 | refine below_set ?_ GE469.out | refine below_set ?_ GE479.out | refine below_set ?_ GE487.out | refine below_set ?_ GE495.out | refine below_set ?_ GE511.out | refine below_set ?_ GE519.out | refine below_set ?_ GE527.out | refine below_set ?_ GE535.out) | exact HB.out)) hb); clear HO472; clear HO475; clear HO478; clear HO482; clear HO485; clear HO490; clear HO493; clear HO498; clear HO502; clear HO506; clear HO509; clear HO514; clear HO517; clear HO522; clear HO525; clear HO530; clear HO533; clear BK469; clear BK479; clear BK487; clear BK495; clear BK511; clear BK519; clear BK527; clear BK535; clear HB; have HO472 := n0_; have HO475 := n1_; have HO478 := n2_; have HO482 := n3_; have HO485 := n4_; have HO490 := n5_; have HO493 := n6_; have HO498 := n7_; have HO502 := n8_; have HO506 := n9_; have HO509 := n10_; have HO514 := n11_; have HO517 := n12_; have HO522 := n13_; have HO525 := n14_; have HO530 := n15_; have HO533 := n16_; have BK469 := n17_; have BK479 := n18_; have BK487 := n19_; have BK495 := n20_; have BK511 := n21_; have BK519 := n22_; have BK527 := n23_; have BK535 := n24_; have HB := n25_; clear n0_ n1_ n2_ n3_ n4_ n5_ n6_ n7_ n8_ n9_ n10_ n11_ n12_ n13_ n14_ n15_ n16_ n17_ n18_ n19_ n20_ n21_ n22_ n23_ n24_ n25_; (try clear hb); (try clear hb2); (try clear hk); (try clear hi)) | (go_at_call 25; (with_reducible refine (transeptlaw04_num.calls t510 t541 _ A103.out).mono ?_); rintro e w' ⟨rfl, ⟨nd, rfl⟩⟩; have hnb138 := NB527_469.out; have hnc138 := NB469_527.out; have hnb139 := NB527_479.out; have hnc139 := NB479_527.out; have hnb140 := NB527_535.out; have hnc140 := NB535_527.out; have hcz141_0 : w137.cell? ⟨gb527, 0, none⟩ = some (.slice Ao71 t520.length co71) := (blk_cell BK527.out 0).trans rfl; have hcz141_1 : w137.cell? ⟨gb527, 1, none⟩ = some (.slice Ao79 t523.length co79) := (blk_cell BK527.out 1).trans rfl; have hfz141_0 := blk_frozen BK527.out 0; have hfz141_1 := blk_frozen BK527.out 1; have hnb142 := NB535_469.out; have hnc142 := NB469_535.out; have hnb143 := NB535_479.out; have hnc143 := NB479_535.out; have hcz144_0 : w137.cell? ⟨gb535, 0, none⟩ = some (.slice Ao83 t528.length co83) := (blk_cell BK535.out 0).trans rfl; have hcz144_1 : w137.cell? ⟨gb535, 1, none⟩ = some (.slice Ao92 t531.length co92) := (blk_cell BK535.out 1).trans rfl; have hfz144_0 := blk_frozen BK535.out 0; have hfz144_1 := blk_frozen BK535.out 1) | (go_at_call 24; (with_reducible refine (transeptlaw04_Alike.calls k _ _ t520 _ _ t523 _ _ t528 _ _ t531 t542 _ ?side1 ?side2 ?side3 ?side4 ?side5 ?side6 ?side7 ?side8 A105.out).mono ?_); (case side1 => repeat (first | exact (Kd.S_reads' HO522.out).2.2 | (with_reducible refine Kd.C_alloc ?_ _) | (with_reducible refine Kd.C_drewN ?_ _) | (with_reducible refine Kd.C_drew ?_))); (case side2 => exact (Kd.S_reads' HO522.out).2.1); (case side3 => repeat (first | exact (Kd.S_reads' HO525.out).2.2 | (with_reducible refine Kd.C_alloc ?_ _) | (with_reducible refine Kd.C_drewN ?_ _) | (with_reducible refine Kd.C_drew ?_))); (case side4 => exact (Kd.S_reads' HO525.out).2.1); (case side5 => repeat (first | exact (Kd.S_reads' HO530.out).2.2 | (with_reducible refine Kd.C_alloc ?_ _) | (with_reducible refine Kd.C_drewN ?_ _) | (with_reducible refine Kd.C_drew ?_))); (case side6 => exact (Kd.S_reads' HO530.out).2.1); (case side7 => repeat (first | exact (Kd.S_reads' HO533.out).2.2 | (with_reducible refine Kd.C_alloc ?_ _) | (with_reducible refine Kd.C_drewN ?_ _) | (with_reducible refine Kd.C_drew ?_))); (case side8 => exact (Kd.S_reads' HO533.out).2.1); rintro e w145 ⟨rfl, hb⟩; have n0_ := Aside0.mk (Kd.S_below (SU HO472.out) hb); have n1_ := Aside0.mk (Kd.S_below (SU HO475.out) hb); have n2_ := Aside0.mk (Kd.R_below (RU HO478.out) hb); have n3_ := Aside0.mk (Kd.S_below (SU HO482.out) hb); have n4_ := Aside0.mk (Kd.S_below (SU HO485.out) hb); have n5_ := Aside0.mk (Kd.S_below (SU HO490.out) hb); have n6_ := Aside0.mk (Kd.S_below (SU HO493.out) hb); have n7_ := Aside0.mk (Kd.R_below (RU HO498.out) hb); have n8_ := Aside0.mk (Kd.R_below (RU HO502.out) hb); have n9_ := Aside0.mk (Kd.S_below (SU HO506.out) hb); have n10_ := Aside0.mk (Kd.S_below (SU HO509.out) hb); have n11_ := Aside0.mk (Kd.S_below (SU HO514.out) hb); have n12_ := Aside0.mk (Kd.S_below (SU HO517.out) hb); have n13_ := Aside0.mk (Kd.S_below (SU HO522.out) hb); have n14_ := Aside0.mk (Kd.S_below (SU HO525.out) hb); have n15_ := Aside0.mk (Kd.S_below (SU HO530.out) hb); have n16_ := Aside0.mk (Kd.S_below (SU HO533.out) hb); have n17_ := Aside0.mk (blk_below (g := gb469) (o := .cells #[.slice A0_0 l0_0.length c0_0, .slice A0_1 l0_1.length c0_1] 42 (0, 0)) (BU BK469.out) hb); have n18_ := Aside0.mk (blk_below (g := gb479) (o := .cells #[.slice Ao22 t470.length co22, .slice Ao25 t473.length co25] 28 (0, 0)) (BU BK479.out) hb); have n19_ := Aside0.mk (blk_below (g := gb487) (o := .cells #[.slice Ao29 t480.length co29, .slice Ao33 t483.length co33] 28 (0, 0)) (BU BK487.out) hb); have n20_ := Aside0.mk (blk_below (g := gb495) (o := .cells #[.slice Ao37 t488.length co37, .slice Ao42 t491.length co42] 42 (0, 0)) (BU BK495.out) hb); have n21_ := Aside0.mk (blk_below (g := gb511) (o := .cells #[.slice Ao50 t504.length co50, .slice Ao56 t507.length co56] 28 (0, 0)) (BU BK511.out) hb); have n22_ := Aside0.mk (blk_below (g := gb519) (o := .cells #[.slice Ao60 t512.length co60, .slice Ao67 t515.length co67] 42 (0, 0)) (BU BK519.out) hb); have n23_ := Aside0.mk (blk_below (g := gb527) (o := .cells #[.slice Ao71 t520.length co71, .slice Ao79 t523.length co79] 28 (0, 0)) (BU BK527.out) hb); have n24_ := Aside0.mk (blk_below (g := gb535) (o := .cells #[.slice Ao83 t528.length co83, .slice Ao92 t531.length co92] 42 (0, 0)) (BU BK535.out) hb); have n25_ := Aside0.mk (below_step (by repeat (first | (with_reducible first | exact HB.out | apply below_alloc | apply pw_below_drewN | apply below_drew1 | refine below_set ?_ GE469.out | refine below_set ?_ GE479.out | refine below_set ?_ GE487.out | refine below_set ?_ GE495.out | refine below_set ?_ GE511.out | refine below_set ?_ GE519.out | refine below_set ?_ GE527.out | refine below_set ?_ GE535.out) | exact HB.out)) hb); clear HO472; clear HO475; clear HO478; clear HO482; clear HO485; clear HO490; clear HO493; clear HO498; clear HO502; clear HO506; clear HO509; clear HO514; clear HO517; clear HO522; clear HO525; clear HO530; clear HO533; clear BK469; clear BK479; clear BK487; clear BK495; clear BK511; clear BK519; clear BK527; clear BK535; clear HB; have HO472 := n0_; have HO475 := n1_; have HO478 := n2_; have HO482 := n3_; have HO485 := n4_; have HO490 := n5_; have HO493 := n6_; have HO498 := n7_; have HO502 := n8_; have HO506 := n9_; have HO509 := n10_; have HO514 := n11_; have HO517 := n12_; have HO522 := n13_; have HO525 := n14_; have HO530 := n15_; have HO533 := n16_; have BK469 := n17_; have BK479 := n18_; have BK487 := n19_; have BK495 := n20_; have BK511 := n21_; have BK519 := n22_; have BK527 := n23_; have BK535 := n24_; have HB := n25_; clear n0_ n1_ n2_ n3_ n4_ n5_ n6_ n7_ n8_ n9_ n10_ n11_ n12_ n13_ n14_ n15_ n16_ n17_ n18_ n19_ n20_ n21_ n22_ n23_ n24_ n25_; (try clear hb); (try clear hb2); (try clear hk); (try clear hi)) | (go_at_call 25; (with_reducible refine (transeptlaw04_num.calls t526 t543 _ A107.out).mono ?_); rintro e w' ⟨rfl, ⟨nd, rfl⟩⟩))
         go_meet
         case rel => exact ⟨_, ((t543 != t534)), (by first | rfl | (simp; done) | (simp [*]; done)), H', ⟨by first | omega | exact Nat.le_refl _⟩, ⟨by (with_reducible repeat (first | apply Kd.R_alloc | apply Kd.R_drewN | apply Kd.R_drew)); exact Kd.R_mono HO478.out (fun _ hk => trivial)⟩, ⟨by (with_reducible repeat (first | apply Kd.S_alloc | apply Kd.S_drewN | apply Kd.S_drew)); exact Kd.S_mono HO472.out (fun _ hk => ⟨hk.1.1.1.1.1.1.1.1.2, ⟨hk.1.1.1.1.1.1.1.2, ⟨hk.1.1.1.1.1.1.2, ⟨hk.1.1.1.2, ⟨hk.1.1.2, ⟨hk.1.2, hk.2⟩⟩⟩⟩⟩⟩)⟩, ⟨by (with_reducible repeat (first | apply Kd.S_alloc | apply Kd.S_drewN | apply Kd.S_drew)); exact Kd.S_mono HO475.out (fun _ hk => ⟨hk.1.1.1.1.1.2, ⟨hk.1.1.1.1.2, ⟨hk.1.2, hk.2⟩⟩⟩)⟩, ⟨by (with_reducible repeat (first | apply Kd.S_alloc | apply Kd.S_drewN | apply Kd.S_drew)); exact Kd.S_mono HO482.out (fun _ hk => ⟨hk.1.1.1.1.1.1.1.2, ⟨hk.1.1.1.1.1.1.1.1.2, ⟨hk.1.1.1.1.1.1.2, ⟨hk.1.1.1.2, ⟨hk.1.1.2, ⟨hk.1.2, hk.2⟩⟩⟩⟩⟩⟩)⟩, ⟨by (with_reducible repeat (first | apply Kd.S_alloc | apply Kd.S_drewN | apply Kd.S_drew)); exact Kd.S_mono HO485.out (fun _ hk => ⟨hk.1.1.1.1.2, ⟨hk.1.1.1.1.1.2, ⟨hk.1.2, hk.2⟩⟩⟩)⟩, ⟨by (with_reducible repeat (first | apply Kd.S_alloc | apply Kd.S_drewN | apply Kd.S_drew)); exact Kd.S_mono HO490.out (fun _ hk => ⟨hk.1.1.1.1.1.1.1.2, ⟨hk.1.1.1.1.1.1.1.1.2, ⟨hk.1.1.1.1.1.1.2, ⟨hk.1.1.1.2, ⟨hk.1.1.2, ⟨hk.1.2, hk.2⟩⟩⟩⟩⟩⟩)⟩, ⟨by (with_reducible repeat (first | apply Kd.S_alloc | apply Kd.S_drewN | apply Kd.S_drew)); exact Kd.S_mono HO493.out (fun _ hk => ⟨hk.1.1.1.1.2, ⟨hk.1.2, hk.2⟩⟩)⟩, ⟨by (with_reducible repeat (first | apply Kd.S_alloc | apply Kd.S_drewN | apply Kd.S_drew)); exact Kd.S_mono HO506.out (fun _ hk => ⟨hk.1.1.1.1.1.1.1.2, ⟨hk.1.1.1.1.1.1.1.1.2, ⟨hk.1.1.1.1.1.1.2, ⟨hk.1.1.1.1.1.2, ⟨hk.1.1.2, ⟨hk.1.2, hk.2⟩⟩⟩⟩⟩⟩)⟩, ⟨by (with_reducible repeat (first | apply Kd.S_alloc | apply Kd.S_drewN | apply Kd.S_drew)); exact Kd.S_mono HO509.out (fun _ hk => ⟨hk.1.1.1.1.2, ⟨hk.1.1.1.1.1.2, ⟨hk.1.1.1.2, hk.2⟩⟩⟩)⟩, ⟨by (with_reducible repeat (first | apply Kd.S_alloc | apply Kd.S_drewN | apply Kd.S_drew)); exact Kd.S_mono HO514.out (fun _ hk => ⟨hk.1.1.1.1.1.1.1.2, ⟨hk.1.1.1.1.1.1.1.1.2, ⟨hk.1.1.1.1.1.1.2, ⟨hk.1.1.1.1.1.2, ⟨hk.1.1.2, ⟨hk.1.2, hk.2⟩⟩⟩⟩⟩⟩)⟩, ⟨by (with_reducible repeat (first | apply Kd.S_alloc | apply Kd.S_drewN | apply Kd.S_drew)); exact Kd.S_mono HO517.out (fun _ hk => ⟨hk.1.1.1.1.2, ⟨hk.1.1.1.2, hk.2⟩⟩)⟩, ⟨by (with_reducible repeat (first | apply Kd.S_alloc | apply Kd.S_drewN | apply Kd.S_drew)); exact Kd.S_mono HO522.out (fun _ hk => ⟨hk.1.1.1.1.1.1.1.2, ⟨hk.1.1.1.1.1.1.1.1.2, ⟨hk.1.1.1.1.1.1.2, ⟨hk.1.1.1.1.1.2, ⟨hk.1.1.2, ⟨hk.1.2, hk.2⟩⟩⟩⟩⟩⟩)⟩, ⟨by (with_reducible repeat (first | apply Kd.S_alloc | apply Kd.S_drewN | apply Kd.S_drew)); exact Kd.S_mono HO525.out (fun _ hk => ⟨hk.1.1.1.1.2, ⟨hk.1.1.1.1.1.2, ⟨hk.1.1.1.2, hk.2⟩⟩⟩)⟩, ⟨by (with_reducible repeat (first | apply Kd.S_alloc | apply Kd.S_drewN | apply Kd.S_drew)); exact Kd.S_mono HO530.out (fun _ hk => ⟨hk.1.1.1.1.1.1.1.2, ⟨hk.1.1.1.1.1.1.1.1.2, ⟨hk.1.1.1.1.1.1.2, ⟨hk.1.1.1.1.1.2, ⟨hk.1.1.2, ⟨hk.1.2, hk.2⟩⟩⟩⟩⟩⟩)⟩, ⟨by (with_reducible repeat (first | apply Kd.S_alloc | apply Kd.S_drewN | apply Kd.S_drew)); exact Kd.S_mono HO533.out (fun _ hk => ⟨hk.1.1.1.1.2, ⟨hk.1.1.1.2, hk.2⟩⟩)⟩, ⟨by (with_reducible repeat (first | refine blk_drewN ?_ _ | refine blk_drew ?_ | refine blk_alloc ?_ _)); exact BK469.out⟩, ⟨by (with_reducible repeat (first | refine blk_drewN ?_ _ | refine blk_drew ?_ | refine blk_alloc ?_ _)); exact BK479.out⟩, ⟨by (with_reducible repeat (first | refine blk_drewN ?_ _ | refine blk_drew ?_ | refine blk_alloc ?_ _)); exact BK487.out⟩, ⟨by (with_reducible repeat (first | refine blk_drewN ?_ _ | refine blk_drew ?_ | refine blk_alloc ?_ _)); exact BK495.out⟩, ⟨by (with_reducible repeat (first | refine blk_drewN ?_ _ | refine blk_drew ?_ | refine blk_alloc ?_ _)); exact BK511.out⟩, ⟨by (with_reducible repeat (first | refine blk_drewN ?_ _ | refine blk_drew ?_ | refine blk_alloc ?_ _)); exact BK519.out⟩, ⟨by (with_reducible repeat (first | refine blk_drewN ?_ _ | refine blk_drew ?_ | refine blk_alloc ?_ _)); exact BK527.out⟩, ⟨by (with_reducible repeat (first | refine blk_drewN ?_ _ | refine blk_drew ?_ | refine blk_alloc ?_ _)); exact BK535.out⟩, ⟨by repeat (first | (with_reducible first | exact HB.out | apply below_alloc | apply pw_below_drewN | apply below_drew1 | refine below_set ?_ GE469.out | refine below_set ?_ GE479.out | refine below_set ?_ GE487.out | refine below_set ?_ GE495.out | refine below_set ?_ GE511.out | refine below_set ?_ GE519.out | refine below_set ?_ GE527.out | refine below_set ?_ GE535.out) | exact HB.out)⟩⟩
        ·
         rw [if_neg c106] at H
         exact absurd H (by rcases k with _ | k <;> (unfold transeptlaw04_DiskTells.j0; simp))
       ·
        rw [if_neg c104] at H
        exact absurd H (by rcases k with _ | k <;> (unfold transeptlaw04_DiskTells.j0; simp))
      ·
       rw [if_neg c102] at H
       exact absurd H (by rcases k with _ | k <;> (unfold transeptlaw04_DiskTells.j0; simp))
     ·
      rw [if_neg c100] at H
      exact absurd H (by rcases k with _ | k <;> (unfold transeptlaw04_DiskTells.j0; simp))
    ·
     replace c98 := Bool.eq_false_iff.mpr c98
     subst c98
     have H1 : (transeptlaw04_DiskTells.j0 k l2 t476 true l0_0 l0_1 t470 t473) = some r := by rw [if_neg (show ¬ (false = true) by decide)] at H; exact H
     clear H
     have H := H1
     clear H1
     have H' := Aside0.mk H
     clear H
     have hnb262 := NB487_469.out
     have hnc262 := NB469_487.out
     have hnb263 := NB487_479.out
     have hnc263 := NB479_487.out
     have hnb264 := NB487_495.out
     have hnc264 := NB495_487.out
     have hnb265 := NB487_511.out
     have hnc265 := NB511_487.out
     have hnb266 := NB487_519.out
     have hnc266 := NB519_487.out
     have hnb267 := NB487_527.out
     have hnc267 := NB527_487.out
     have hnb268 := NB487_535.out
     have hnc268 := NB535_487.out
     have hcz269_0 : w82.cell? ⟨gb487, 0, none⟩ = some (.slice Ao29 t480.length co29) := (blk_cell BK487.out 0).trans rfl
     have hcz269_1 : w82.cell? ⟨gb487, 1, none⟩ = some (.slice Ao33 t483.length co33) := (blk_cell BK487.out 1).trans rfl
     have hfz269_0 := blk_frozen BK487.out 0
     have hfz269_1 := blk_frozen BK487.out 1
     have hnb270 := NB495_469.out
     have hnc270 := NB469_495.out
     have hnb271 := NB495_479.out
     have hnc271 := NB479_495.out
     have hnb272 := NB495_511.out
     have hnc272 := NB511_495.out
     have hnb273 := NB495_519.out
     have hnc273 := NB519_495.out
     have hnb274 := NB495_527.out
     have hnc274 := NB527_495.out
     have hnb275 := NB495_535.out
     have hnc275 := NB535_495.out
     have hcz276_0 : w82.cell? ⟨gb495, 0, none⟩ = some (.slice Ao37 t488.length co37) := (blk_cell BK495.out 0).trans rfl
     have hcz276_1 : w82.cell? ⟨gb495, 1, none⟩ = some (.slice Ao42 t491.length co42) := (blk_cell BK495.out 1).trans rfl
     have hfz276_0 := blk_frozen BK495.out 0
     have hfz276_1 := blk_frozen BK495.out 1
     go_wp2_with (first | ((with_reducible refine gate_callee (f := 24) rfl ?_); refine goesL_ (some 87) rfl rfl Try.func24 (by kernel_rfl) rfl #[.agg #[.slice Ao29 t480.length co29, .slice Ao33 t483.length co33], .agg #[.slice Ao37 t488.length co37, .slice Ao42 t491.length co42]] rfl (by (try simp only [List.map_toArray, List.map_cons, List.map_nil]); first | done | rfl | (simp only [List.length_drop, List.length_take]; rfl)) ?_; (with_reducible refine (transeptlaw04_Alike.calls k _ _ t480 _ _ t483 _ _ t488 _ _ t491 t536 _ ?side1 ?side2 ?side3 ?side4 ?side5 ?side6 ?side7 ?side8 A93.out).mono ?_); (case side1 => refine (Kd.S_reads' (e := 50) (base := w.heap.size) (ok := fun k_ => (((((((((True ∧ some k_ ≠ (.slice Ao22 t470.length co22 : Value).ownBlock) ∧ some k_ ≠ (.slice Ao26 t476.length co26 : Value).ownBlock) ∧ some k_ ≠ (.slice Ao37 t488.length co37 : Value).ownBlock) ∧ some k_ ≠ (v497 : Value).ownBlock) ∧ some k_ ≠ (v501 : Value).ownBlock) ∧ some k_ ≠ (.slice Ao50 t504.length co50 : Value).ownBlock) ∧ some k_ ≠ (.slice Ao60 t512.length co60 : Value).ownBlock) ∧ some k_ ≠ (.slice Ao71 t520.length co71 : Value).ownBlock) ∧ some k_ ≠ (.slice Ao83 t528.length co83 : Value).ownBlock)) (n := t480.length) (c := co29) ?_).2.2; exact (by (with_reducible repeat (first | apply Kd.S_alloc | apply Kd.S_drewN | apply Kd.S_drew)); exact (Kd.S_mono (Kd.S_far (p := ⟨gb535, 1, none⟩) (Kd.S_far (p := ⟨gb535, 0, none⟩) (Kd.S_types HO482.out BK535.out (by decide)) (fun _ hk => hk.2) (.slice Ao83 t528.length co83)) (fun _ hk => hk.2) (.slice Ao92 t531.length co92)) (fun _ h_ => h_.1)))); (case side2 => exact (Kd.S_reads' HO482.out).2.1); (case side3 => refine (Kd.S_reads' (e := 61) (base := w.heap.size) (ok := fun k_ => ((((((True ∧ some k_ ≠ (.slice Ao25 t473.length co25 : Value).ownBlock) ∧ some k_ ≠ (.slice Ao26 t476.length co26 : Value).ownBlock) ∧ some k_ ≠ (v497 : Value).ownBlock) ∧ some k_ ≠ (v501 : Value).ownBlock) ∧ some k_ ≠ (.slice Ao56 t507.length co56 : Value).ownBlock) ∧ some k_ ≠ (.slice Ao79 t523.length co79 : Value).ownBlock)) (n := t483.length) (c := co33) ?_).2.2; exact (by (with_reducible repeat (first | apply Kd.S_alloc | apply Kd.S_drewN | apply Kd.S_drew)); exact (Kd.S_mono (Kd.S_far (p := ⟨gb535, 1, none⟩) (Kd.S_far (p := ⟨gb535, 0, none⟩) (Kd.S_types HO485.out BK535.out (by decide)) (fun _ hk => hk.2) (.slice Ao83 t528.length co83)) (fun _ hk => hk.2) (.slice Ao92 t531.length co92)) (fun _ h_ => h_.1)))); (case side4 => exact (Kd.S_reads' HO485.out).2.1); (case side5 => refine (Kd.S_reads' (e := 50) (base := w.heap.size) (ok := fun k_ => (((((((((True ∧ some k_ ≠ (.slice Ao22 t470.length co22 : Value).ownBlock) ∧ some k_ ≠ (.slice Ao26 t476.length co26 : Value).ownBlock) ∧ some k_ ≠ (.slice Ao29 t480.length co29 : Value).ownBlock) ∧ some k_ ≠ (v497 : Value).ownBlock) ∧ some k_ ≠ (v501 : Value).ownBlock) ∧ some k_ ≠ (.slice Ao50 t504.length co50 : Value).ownBlock) ∧ some k_ ≠ (.slice Ao60 t512.length co60 : Value).ownBlock) ∧ some k_ ≠ (.slice Ao71 t520.length co71 : Value).ownBlock) ∧ some k_ ≠ (.slice Ao83 t528.length co83 : Value).ownBlock)) (n := t488.length) (c := co37) ?_).2.2; exact (by (with_reducible repeat (first | apply Kd.S_alloc | apply Kd.S_drewN | apply Kd.S_drew)); exact (Kd.S_mono (Kd.S_far (p := ⟨gb535, 1, none⟩) (Kd.S_far (p := ⟨gb535, 0, none⟩) (Kd.S_types HO490.out BK535.out (by decide)) (fun _ hk => hk.2) (.slice Ao83 t528.length co83)) (fun _ hk => hk.2) (.slice Ao92 t531.length co92)) (fun _ h_ => h_.1)))); (case side6 => exact (Kd.S_reads' HO490.out).2.1); (case side7 => refine (Kd.S_reads' (e := 55) (base := w.heap.size) (ok := fun k_ => (((((True ∧ some k_ ≠ (.slice Ao26 t476.length co26 : Value).ownBlock) ∧ some k_ ≠ (v497 : Value).ownBlock) ∧ some k_ ≠ (v501 : Value).ownBlock) ∧ some k_ ≠ (.slice Ao67 t515.length co67 : Value).ownBlock) ∧ some k_ ≠ (.slice Ao92 t531.length co92 : Value).ownBlock)) (n := t491.length) (c := co42) ?_).2.2; exact (by (with_reducible repeat (first | apply Kd.S_alloc | apply Kd.S_drewN | apply Kd.S_drew)); exact (Kd.S_mono (Kd.S_far (p := ⟨gb535, 1, none⟩) (Kd.S_far (p := ⟨gb535, 0, none⟩) (Kd.S_types HO493.out BK535.out (by decide)) (fun _ hk => hk.2) (.slice Ao83 t528.length co83)) (fun _ hk => hk.2) (.slice Ao92 t531.length co92)) (fun _ h_ => h_.1)))); (case side8 => exact (Kd.S_reads' HO493.out).2.1); rintro e w277 ⟨rfl, hb⟩; refine ⟨_, rfl, ?_⟩; have n0_ := Aside0.mk (Kd.S_below (by (with_reducible repeat (first | apply Kd.S_alloc | apply Kd.S_drewN | apply Kd.S_drew)); exact (Kd.S_mono (Kd.S_far (p := ⟨gb535, 1, none⟩) (Kd.S_far (p := ⟨gb535, 0, none⟩) (Kd.S_types HO472.out BK535.out (by decide)) (fun _ hk => hk.2) (.slice Ao83 t528.length co83)) (fun _ hk => hk.2) (.slice Ao92 t531.length co92)) (fun _ h_ => h_.1))) hb); have n1_ := Aside0.mk (Kd.S_below (by (with_reducible repeat (first | apply Kd.S_alloc | apply Kd.S_drewN | apply Kd.S_drew)); exact (Kd.S_mono (Kd.S_far (p := ⟨gb535, 1, none⟩) (Kd.S_far (p := ⟨gb535, 0, none⟩) (Kd.S_types HO475.out BK535.out (by decide)) (fun _ hk => hk.2) (.slice Ao83 t528.length co83)) (fun _ hk => hk.2) (.slice Ao92 t531.length co92)) (fun _ h_ => h_.1))) hb); have n2_ := Aside0.mk (Kd.R_below (by (with_reducible repeat (first | apply Kd.R_alloc | apply Kd.R_drewN | apply Kd.R_drew)); exact (Kd.R_mono (Kd.R_far (p := ⟨gb535, 1, none⟩) (Kd.R_far (p := ⟨gb535, 0, none⟩) (Kd.R_types HO478.out BK535.out (by decide)) (fun _ hk => hk.2) (.slice Ao83 t528.length co83)) (fun _ hk => hk.2) (.slice Ao92 t531.length co92)) (fun _ h_ => h_.1))) hb); have n3_ := Aside0.mk (Kd.S_below (by (with_reducible repeat (first | apply Kd.S_alloc | apply Kd.S_drewN | apply Kd.S_drew)); exact (Kd.S_mono (Kd.S_far (p := ⟨gb535, 1, none⟩) (Kd.S_far (p := ⟨gb535, 0, none⟩) (Kd.S_types HO482.out BK535.out (by decide)) (fun _ hk => hk.2) (.slice Ao83 t528.length co83)) (fun _ hk => hk.2) (.slice Ao92 t531.length co92)) (fun _ h_ => h_.1))) hb); have n4_ := Aside0.mk (Kd.S_below (by (with_reducible repeat (first | apply Kd.S_alloc | apply Kd.S_drewN | apply Kd.S_drew)); exact (Kd.S_mono (Kd.S_far (p := ⟨gb535, 1, none⟩) (Kd.S_far (p := ⟨gb535, 0, none⟩) (Kd.S_types HO485.out BK535.out (by decide)) (fun _ hk => hk.2) (.slice Ao83 t528.length co83)) (fun _ hk => hk.2) (.slice Ao92 t531.length co92)) (fun _ h_ => h_.1))) hb); have n5_ := Aside0.mk (Kd.S_below (by (with_reducible repeat (first | apply Kd.S_alloc | apply Kd.S_drewN | apply Kd.S_drew)); exact (Kd.S_mono (Kd.S_far (p := ⟨gb535, 1, none⟩) (Kd.S_far (p := ⟨gb535, 0, none⟩) (Kd.S_types HO490.out BK535.out (by decide)) (fun _ hk => hk.2) (.slice Ao83 t528.length co83)) (fun _ hk => hk.2) (.slice Ao92 t531.length co92)) (fun _ h_ => h_.1))) hb); have n6_ := Aside0.mk (Kd.S_below (by (with_reducible repeat (first | apply Kd.S_alloc | apply Kd.S_drewN | apply Kd.S_drew)); exact (Kd.S_mono (Kd.S_far (p := ⟨gb535, 1, none⟩) (Kd.S_far (p := ⟨gb535, 0, none⟩) (Kd.S_types HO493.out BK535.out (by decide)) (fun _ hk => hk.2) (.slice Ao83 t528.length co83)) (fun _ hk => hk.2) (.slice Ao92 t531.length co92)) (fun _ h_ => h_.1))) hb); have n7_ := Aside0.mk (Kd.R_below (by (with_reducible repeat (first | apply Kd.R_alloc | apply Kd.R_drewN | apply Kd.R_drew)); exact (Kd.R_mono (Kd.R_far (p := ⟨gb535, 1, none⟩) (Kd.R_far (p := ⟨gb535, 0, none⟩) (Kd.R_types HO498.out BK535.out (by decide)) (fun _ hk => hk.2) (.slice Ao83 t528.length co83)) (fun _ hk => hk.2) (.slice Ao92 t531.length co92)) (fun _ h_ => h_.1))) hb); have n8_ := Aside0.mk (Kd.R_below (by (with_reducible repeat (first | apply Kd.R_alloc | apply Kd.R_drewN | apply Kd.R_drew)); exact (Kd.R_mono (Kd.R_far (p := ⟨gb535, 1, none⟩) (Kd.R_far (p := ⟨gb535, 0, none⟩) (Kd.R_types HO502.out BK535.out (by decide)) (fun _ hk => hk.2) (.slice Ao83 t528.length co83)) (fun _ hk => hk.2) (.slice Ao92 t531.length co92)) (fun _ h_ => h_.1))) hb); have n9_ := Aside0.mk (Kd.S_below (by (with_reducible repeat (first | apply Kd.S_alloc | apply Kd.S_drewN | apply Kd.S_drew)); exact (Kd.S_mono (Kd.S_far (p := ⟨gb535, 1, none⟩) (Kd.S_far (p := ⟨gb535, 0, none⟩) (Kd.S_types HO506.out BK535.out (by decide)) (fun _ hk => hk.2) (.slice Ao83 t528.length co83)) (fun _ hk => hk.2) (.slice Ao92 t531.length co92)) (fun _ h_ => h_.1))) hb); have n10_ := Aside0.mk (Kd.S_below (by (with_reducible repeat (first | apply Kd.S_alloc | apply Kd.S_drewN | apply Kd.S_drew)); exact (Kd.S_mono (Kd.S_far (p := ⟨gb535, 1, none⟩) (Kd.S_far (p := ⟨gb535, 0, none⟩) (Kd.S_types HO509.out BK535.out (by decide)) (fun _ hk => hk.2) (.slice Ao83 t528.length co83)) (fun _ hk => hk.2) (.slice Ao92 t531.length co92)) (fun _ h_ => h_.1))) hb); have n11_ := Aside0.mk (Kd.S_below (by (with_reducible repeat (first | apply Kd.S_alloc | apply Kd.S_drewN | apply Kd.S_drew)); exact (Kd.S_mono (Kd.S_far (p := ⟨gb535, 1, none⟩) (Kd.S_far (p := ⟨gb535, 0, none⟩) (Kd.S_types HO514.out BK535.out (by decide)) (fun _ hk => hk.2) (.slice Ao83 t528.length co83)) (fun _ hk => hk.2) (.slice Ao92 t531.length co92)) (fun _ h_ => h_.1))) hb); have n12_ := Aside0.mk (Kd.S_below (by (with_reducible repeat (first | apply Kd.S_alloc | apply Kd.S_drewN | apply Kd.S_drew)); exact (Kd.S_mono (Kd.S_far (p := ⟨gb535, 1, none⟩) (Kd.S_far (p := ⟨gb535, 0, none⟩) (Kd.S_types HO517.out BK535.out (by decide)) (fun _ hk => hk.2) (.slice Ao83 t528.length co83)) (fun _ hk => hk.2) (.slice Ao92 t531.length co92)) (fun _ h_ => h_.1))) hb); have n13_ := Aside0.mk (Kd.S_below (by (with_reducible repeat (first | apply Kd.S_alloc | apply Kd.S_drewN | apply Kd.S_drew)); exact (Kd.S_mono (Kd.S_far (p := ⟨gb535, 1, none⟩) (Kd.S_far (p := ⟨gb535, 0, none⟩) (Kd.S_types HO522.out BK535.out (by decide)) (fun _ hk => hk.2) (.slice Ao83 t528.length co83)) (fun _ hk => hk.2) (.slice Ao92 t531.length co92)) (fun _ h_ => h_.1))) hb); have n14_ := Aside0.mk (Kd.S_below (by (with_reducible repeat (first | apply Kd.S_alloc | apply Kd.S_drewN | apply Kd.S_drew)); exact (Kd.S_mono (Kd.S_far (p := ⟨gb535, 1, none⟩) (Kd.S_far (p := ⟨gb535, 0, none⟩) (Kd.S_types HO525.out BK535.out (by decide)) (fun _ hk => hk.2) (.slice Ao83 t528.length co83)) (fun _ hk => hk.2) (.slice Ao92 t531.length co92)) (fun _ h_ => h_.1))) hb); have n15_ := Aside0.mk (Kd.S_below (by (with_reducible repeat (first | apply Kd.S_alloc | apply Kd.S_drewN | apply Kd.S_drew)); exact (Kd.S_mono (Kd.S_far (p := ⟨gb535, 1, none⟩) (Kd.S_far (p := ⟨gb535, 0, none⟩) (Kd.S_types HO530.out BK535.out (by decide)) (fun _ hk => hk.2) (.slice Ao83 t528.length co83)) (fun _ hk => hk.2) (.slice Ao92 t531.length co92)) (fun _ h_ => h_.1))) hb); have n16_ := Aside0.mk (Kd.S_below (by (with_reducible repeat (first | apply Kd.S_alloc | apply Kd.S_drewN | apply Kd.S_drew)); exact (Kd.S_mono (Kd.S_far (p := ⟨gb535, 1, none⟩) (Kd.S_far (p := ⟨gb535, 0, none⟩) (Kd.S_types HO533.out BK535.out (by decide)) (fun _ hk => hk.2) (.slice Ao83 t528.length co83)) (fun _ hk => hk.2) (.slice Ao92 t531.length co92)) (fun _ h_ => h_.1))) hb); have n17_ := Aside0.mk (blk_below (g := gb469) (o := .cells #[.slice A0_0 l0_0.length c0_0, .slice A0_1 l0_1.length c0_1] 42 (0, 0)) (by (with_reducible repeat (first | refine blk_drewN ?_ _ | refine blk_drew ?_ | refine blk_alloc ?_ _)); refine blk_far ?_ NB469_535.out _; (with_reducible repeat (first | refine blk_drewN ?_ _ | refine blk_drew ?_ | refine blk_alloc ?_ _)); refine blk_far ?_ NB469_535.out _; (with_reducible repeat (first | refine blk_drewN ?_ _ | refine blk_drew ?_ | refine blk_alloc ?_ _)); exact BK469.out) hb); have n18_ := Aside0.mk (blk_below (g := gb479) (o := .cells #[.slice Ao22 t470.length co22, .slice Ao25 t473.length co25] 28 (0, 0)) (by (with_reducible repeat (first | refine blk_drewN ?_ _ | refine blk_drew ?_ | refine blk_alloc ?_ _)); refine blk_far ?_ NB479_535.out _; (with_reducible repeat (first | refine blk_drewN ?_ _ | refine blk_drew ?_ | refine blk_alloc ?_ _)); refine blk_far ?_ NB479_535.out _; (with_reducible repeat (first | refine blk_drewN ?_ _ | refine blk_drew ?_ | refine blk_alloc ?_ _)); exact BK479.out) hb); have n19_ := Aside0.mk (blk_below (g := gb487) (o := .cells #[.slice Ao29 t480.length co29, .slice Ao33 t483.length co33] 28 (0, 0)) (by (with_reducible repeat (first | refine blk_drewN ?_ _ | refine blk_drew ?_ | refine blk_alloc ?_ _)); refine blk_far ?_ NB487_535.out _; (with_reducible repeat (first | refine blk_drewN ?_ _ | refine blk_drew ?_ | refine blk_alloc ?_ _)); refine blk_far ?_ NB487_535.out _; (with_reducible repeat (first | refine blk_drewN ?_ _ | refine blk_drew ?_ | refine blk_alloc ?_ _)); exact BK487.out) hb); have n20_ := Aside0.mk (blk_below (g := gb495) (o := .cells #[.slice Ao37 t488.length co37, .slice Ao42 t491.length co42] 42 (0, 0)) (by (with_reducible repeat (first | refine blk_drewN ?_ _ | refine blk_drew ?_ | refine blk_alloc ?_ _)); refine blk_far ?_ NB495_535.out _; (with_reducible repeat (first | refine blk_drewN ?_ _ | refine blk_drew ?_ | refine blk_alloc ?_ _)); refine blk_far ?_ NB495_535.out _; (with_reducible repeat (first | refine blk_drewN ?_ _ | refine blk_drew ?_ | refine blk_alloc ?_ _)); exact BK495.out) hb); have n21_ := Aside0.mk (blk_below (g := gb511) (o := .cells #[.slice Ao50 t504.length co50, .slice Ao56 t507.length co56] 28 (0, 0)) (by (with_reducible repeat (first | refine blk_drewN ?_ _ | refine blk_drew ?_ | refine blk_alloc ?_ _)); refine blk_far ?_ NB511_535.out _; (with_reducible repeat (first | refine blk_drewN ?_ _ | refine blk_drew ?_ | refine blk_alloc ?_ _)); refine blk_far ?_ NB511_535.out _; (with_reducible repeat (first | refine blk_drewN ?_ _ | refine blk_drew ?_ | refine blk_alloc ?_ _)); exact BK511.out) hb); have n22_ := Aside0.mk (blk_below (g := gb519) (o := .cells #[.slice Ao60 t512.length co60, .slice Ao67 t515.length co67] 42 (0, 0)) (by (with_reducible repeat (first | refine blk_drewN ?_ _ | refine blk_drew ?_ | refine blk_alloc ?_ _)); refine blk_far ?_ NB519_535.out _; (with_reducible repeat (first | refine blk_drewN ?_ _ | refine blk_drew ?_ | refine blk_alloc ?_ _)); refine blk_far ?_ NB519_535.out _; (with_reducible repeat (first | refine blk_drewN ?_ _ | refine blk_drew ?_ | refine blk_alloc ?_ _)); exact BK519.out) hb); have n23_ := Aside0.mk (blk_below (g := gb527) (o := .cells #[.slice Ao71 t520.length co71, .slice Ao79 t523.length co79] 28 (0, 0)) (by (with_reducible repeat (first | refine blk_drewN ?_ _ | refine blk_drew ?_ | refine blk_alloc ?_ _)); refine blk_far ?_ NB527_535.out _; (with_reducible repeat (first | refine blk_drewN ?_ _ | refine blk_drew ?_ | refine blk_alloc ?_ _)); refine blk_far ?_ NB527_535.out _; (with_reducible repeat (first | refine blk_drewN ?_ _ | refine blk_drew ?_ | refine blk_alloc ?_ _)); exact BK527.out) hb); have n24_ := Aside0.mk (blk_below (g := gb535) (o := .cells #[.slice Ao83 t528.length co83, .slice Ao92 t531.length co92] 42 (0, 0)) (by (with_reducible repeat (first | refine blk_drewN ?_ _ | refine blk_drew ?_ | refine blk_alloc ?_ _)); refine blk_put (cs := #[.slice Ao83 t528.length co83, .slice none 0 0]) ?_ 1 _ rfl; (with_reducible repeat (first | refine blk_drewN ?_ _ | refine blk_drew ?_ | refine blk_alloc ?_ _)); refine blk_put (cs := #[.slice none 0 0, .slice none 0 0]) ?_ 0 _ rfl; (with_reducible repeat (first | refine blk_drewN ?_ _ | refine blk_drew ?_ | refine blk_alloc ?_ _)); exact BK535.out) hb); have n25_ := Aside0.mk (below_step (by repeat (first | (with_reducible first | exact HB.out | apply below_alloc | apply pw_below_drewN | apply below_drew1 | refine below_set ?_ GE469.out | refine below_set ?_ GE479.out | refine below_set ?_ GE487.out | refine below_set ?_ GE495.out | refine below_set ?_ GE511.out | refine below_set ?_ GE519.out | refine below_set ?_ GE527.out | refine below_set ?_ GE535.out) | exact HB.out)) hb); clear HO472; clear HO475; clear HO478; clear HO482; clear HO485; clear HO490; clear HO493; clear HO498; clear HO502; clear HO506; clear HO509; clear HO514; clear HO517; clear HO522; clear HO525; clear HO530; clear HO533; clear BK469; clear BK479; clear BK487; clear BK495; clear BK511; clear BK519; clear BK527; clear BK535; clear HB; have HO472 := n0_; have HO475 := n1_; have HO478 := n2_; have HO482 := n3_; have HO485 := n4_; have HO490 := n5_; have HO493 := n6_; have HO498 := n7_; have HO502 := n8_; have HO506 := n9_; have HO509 := n10_; have HO514 := n11_; have HO517 := n12_; have HO522 := n13_; have HO525 := n14_; have HO530 := n15_; have HO533 := n16_; have BK469 := n17_; have BK479 := n18_; have BK487 := n19_; have BK495 := n20_; have BK511 := n21_; have BK519 := n22_; have BK527 := n23_; have BK535 := n24_; have HB := n25_; clear n0_ n1_ n2_ n3_ n4_ n5_ n6_ n7_ n8_ n9_ n10_ n11_ n12_ n13_ n14_ n15_ n16_ n17_ n18_ n19_ n20_ n21_ n22_ n23_ n24_ n25_; (try clear hb); (try clear hb2); (try clear hk); (try clear hi)) | (go_at_call 25; (with_reducible refine (transeptlaw04_num.calls t486 t537 _ A95.out).mono ?_); rintro e w' ⟨rfl, ⟨nd, rfl⟩⟩; obtain ⟨Ao278, co278, eo278⟩ := Kd.R_slice HO498.out; subst eo278; obtain ⟨Ao279, co279, eo279⟩ := Kd.R_slice HO502.out; subst eo279) | (go_at_call 28; (with_reducible refine (transeptplain_SameBytes.calls k _ _ t496 _ _ t500 false _ ?side1 ?side2 ?side3 ?side4 A97.out).mono ?_); (case side1 => repeat (first | exact (Kd.R_reads' HO498.out).2.2 | (with_reducible refine Kd.C_alloc ?_ _) | (with_reducible refine Kd.C_drewN ?_ _) | (with_reducible refine Kd.C_drew ?_))); (case side2 => exact (Kd.R_reads' HO498.out).2.1); (case side3 => repeat (first | exact (Kd.R_reads' HO502.out).2.2 | (with_reducible refine Kd.C_alloc ?_ _) | (with_reducible refine Kd.C_drewN ?_ _) | (with_reducible refine Kd.C_drew ?_))); (case side4 => exact (Kd.R_reads' HO502.out).2.1); rintro e w' ⟨rfl, ⟨nd, rfl⟩⟩))
     go_meet
     case rel => exact ⟨_, (true), (by first | rfl | (simp; done) | (simp [*]; done)), H', ⟨by first | omega | exact Nat.le_refl _⟩, ⟨by (with_reducible repeat (first | apply Kd.R_alloc | apply Kd.R_drewN | apply Kd.R_drew)); exact Kd.R_mono HO478.out (fun _ hk => trivial)⟩, ⟨by (with_reducible repeat (first | apply Kd.S_alloc | apply Kd.S_drewN | apply Kd.S_drew)); exact Kd.S_mono HO472.out (fun _ hk => ⟨hk.1.1.1.1.1.1.1.1.2, ⟨hk.1.1.1.1.1.1.1.2, ⟨hk.1.1.1.1.1.1.2, ⟨hk.1.1.1.2, ⟨hk.1.1.2, ⟨hk.1.2, hk.2⟩⟩⟩⟩⟩⟩)⟩, ⟨by (with_reducible repeat (first | apply Kd.S_alloc | apply Kd.S_drewN | apply Kd.S_drew)); exact Kd.S_mono HO475.out (fun _ hk => ⟨hk.1.1.1.1.1.2, ⟨hk.1.1.1.1.2, ⟨hk.1.2, hk.2⟩⟩⟩)⟩, ⟨by (with_reducible repeat (first | apply Kd.S_alloc | apply Kd.S_drewN | apply Kd.S_drew)); exact Kd.S_mono HO482.out (fun _ hk => ⟨hk.1.1.1.1.1.1.1.2, ⟨hk.1.1.1.1.1.1.1.1.2, ⟨hk.1.1.1.1.1.1.2, ⟨hk.1.1.1.2, ⟨hk.1.1.2, ⟨hk.1.2, hk.2⟩⟩⟩⟩⟩⟩)⟩, ⟨by (with_reducible repeat (first | apply Kd.S_alloc | apply Kd.S_drewN | apply Kd.S_drew)); exact Kd.S_mono HO485.out (fun _ hk => ⟨hk.1.1.1.1.2, ⟨hk.1.1.1.1.1.2, ⟨hk.1.2, hk.2⟩⟩⟩)⟩, ⟨by (with_reducible repeat (first | apply Kd.S_alloc | apply Kd.S_drewN | apply Kd.S_drew)); exact Kd.S_mono HO490.out (fun _ hk => ⟨hk.1.1.1.1.1.1.1.2, ⟨hk.1.1.1.1.1.1.1.1.2, ⟨hk.1.1.1.1.1.1.2, ⟨hk.1.1.1.2, ⟨hk.1.1.2, ⟨hk.1.2, hk.2⟩⟩⟩⟩⟩⟩)⟩, ⟨by (with_reducible repeat (first | apply Kd.S_alloc | apply Kd.S_drewN | apply Kd.S_drew)); exact Kd.S_mono HO493.out (fun _ hk => ⟨hk.1.1.1.1.2, ⟨hk.1.2, hk.2⟩⟩)⟩, ⟨by (with_reducible repeat (first | apply Kd.S_alloc | apply Kd.S_drewN | apply Kd.S_drew)); exact Kd.S_mono HO506.out (fun _ hk => ⟨hk.1.1.1.1.1.1.1.2, ⟨hk.1.1.1.1.1.1.1.1.2, ⟨hk.1.1.1.1.1.1.2, ⟨hk.1.1.1.1.1.2, ⟨hk.1.1.2, ⟨hk.1.2, hk.2⟩⟩⟩⟩⟩⟩)⟩, ⟨by (with_reducible repeat (first | apply Kd.S_alloc | apply Kd.S_drewN | apply Kd.S_drew)); exact Kd.S_mono HO509.out (fun _ hk => ⟨hk.1.1.1.1.2, ⟨hk.1.1.1.1.1.2, ⟨hk.1.1.1.2, hk.2⟩⟩⟩)⟩, ⟨by (with_reducible repeat (first | apply Kd.S_alloc | apply Kd.S_drewN | apply Kd.S_drew)); exact Kd.S_mono HO514.out (fun _ hk => ⟨hk.1.1.1.1.1.1.1.2, ⟨hk.1.1.1.1.1.1.1.1.2, ⟨hk.1.1.1.1.1.1.2, ⟨hk.1.1.1.1.1.2, ⟨hk.1.1.2, ⟨hk.1.2, hk.2⟩⟩⟩⟩⟩⟩)⟩, ⟨by (with_reducible repeat (first | apply Kd.S_alloc | apply Kd.S_drewN | apply Kd.S_drew)); exact Kd.S_mono HO517.out (fun _ hk => ⟨hk.1.1.1.1.2, ⟨hk.1.1.1.2, hk.2⟩⟩)⟩, ⟨by (with_reducible repeat (first | apply Kd.S_alloc | apply Kd.S_drewN | apply Kd.S_drew)); exact Kd.S_mono HO522.out (fun _ hk => ⟨hk.1.1.1.1.1.1.1.2, ⟨hk.1.1.1.1.1.1.1.1.2, ⟨hk.1.1.1.1.1.1.2, ⟨hk.1.1.1.1.1.2, ⟨hk.1.1.2, ⟨hk.1.2, hk.2⟩⟩⟩⟩⟩⟩)⟩, ⟨by (with_reducible repeat (first | apply Kd.S_alloc | apply Kd.S_drewN | apply Kd.S_drew)); exact Kd.S_mono HO525.out (fun _ hk => ⟨hk.1.1.1.1.2, ⟨hk.1.1.1.1.1.2, ⟨hk.1.1.1.2, hk.2⟩⟩⟩)⟩, ⟨by (with_reducible repeat (first | apply Kd.S_alloc | apply Kd.S_drewN | apply Kd.S_drew)); exact Kd.S_mono HO530.out (fun _ hk => ⟨hk.1.1.1.1.1.1.1.2, ⟨hk.1.1.1.1.1.1.1.1.2, ⟨hk.1.1.1.1.1.1.2, ⟨hk.1.1.1.1.1.2, ⟨hk.1.1.2, ⟨hk.1.2, hk.2⟩⟩⟩⟩⟩⟩)⟩, ⟨by (with_reducible repeat (first | apply Kd.S_alloc | apply Kd.S_drewN | apply Kd.S_drew)); exact Kd.S_mono HO533.out (fun _ hk => ⟨hk.1.1.1.1.2, ⟨hk.1.1.1.2, hk.2⟩⟩)⟩, ⟨by (with_reducible repeat (first | refine blk_drewN ?_ _ | refine blk_drew ?_ | refine blk_alloc ?_ _)); exact BK469.out⟩, ⟨by (with_reducible repeat (first | refine blk_drewN ?_ _ | refine blk_drew ?_ | refine blk_alloc ?_ _)); exact BK479.out⟩, ⟨by (with_reducible repeat (first | refine blk_drewN ?_ _ | refine blk_drew ?_ | refine blk_alloc ?_ _)); exact BK487.out⟩, ⟨by (with_reducible repeat (first | refine blk_drewN ?_ _ | refine blk_drew ?_ | refine blk_alloc ?_ _)); exact BK495.out⟩, ⟨by (with_reducible repeat (first | refine blk_drewN ?_ _ | refine blk_drew ?_ | refine blk_alloc ?_ _)); exact BK511.out⟩, ⟨by (with_reducible repeat (first | refine blk_drewN ?_ _ | refine blk_drew ?_ | refine blk_alloc ?_ _)); exact BK519.out⟩, ⟨by (with_reducible repeat (first | refine blk_drewN ?_ _ | refine blk_drew ?_ | refine blk_alloc ?_ _)); exact BK527.out⟩, ⟨by (with_reducible repeat (first | refine blk_drewN ?_ _ | refine blk_drew ?_ | refine blk_alloc ?_ _)); exact BK535.out⟩, ⟨by repeat (first | (with_reducible first | exact HB.out | apply below_alloc | apply pw_below_drewN | apply below_drew1 | refine below_set ?_ GE469.out | refine below_set ?_ GE479.out | refine below_set ?_ GE487.out | refine below_set ?_ GE495.out | refine below_set ?_ GE511.out | refine below_set ?_ GE519.out | refine below_set ?_ GE527.out | refine below_set ?_ GE535.out) | exact HB.out)⟩⟩
   ·
    rw [if_neg c96] at H
    exact absurd H (by rcases k with _ | k <;> (unfold transeptlaw04_DiskTells.j0; simp))
  ·
   rw [if_neg c94] at H
   exact absurd H (by rcases k with _ | k <;> (unfold transeptlaw04_DiskTells.j0; simp))
 case rest =>
  clear HC16
  try clear c1
  try clear c2
  try clear p2
  try clear c3
  try clear c4
  try clear c5
  try clear c6
  try clear c7
  try clear c8
  try clear c9
  try clear c10
  try clear c11
  try clear c12
  try clear c13
  try clear c14
  try clear c15
  try clear c16
  try clear c17
  try clear c18
  try clear c19
  try clear c20
  try clear c21
  try clear c22
  try clear c23
  try clear c24
  try clear c25
  try clear c26
  try clear c27
  try clear c28
  try clear c29
  try clear c30
  try clear c31
  try clear c33
  try clear c36
  try clear c37
  try clear c38
  try clear c39
  try clear c40
  try clear c51
  try clear c52
  try clear c53
  try clear c54
  try clear c61
  try clear c62
  try clear c63
  try clear c64
  try clear c65
  try clear c72
  try clear c73
  try clear c74
  try clear c75
  try clear c76
  try clear c77
  try clear c84
  try clear c85
  try clear c86
  try clear c87
  try clear c88
  try clear c89
  try clear c90
  try clear c94
  try clear c94b0
  try clear c94b1
  try clear c96
  try clear c96b0
  try clear c96b1
  try clear c98
  try clear c100
  try clear c100b0
  try clear c100b1
  try clear c102
  try clear c102b0
  try clear c102b1
  try clear c104
  try clear c104b0
  try clear c104b1
  try clear c106
  try clear c106b0
  try clear c106b1
  try clear c108
  try clear c109
  try clear c110
  try clear c111
  try clear c112
  try clear c113
  try clear c114
  try clear c116
  try clear c117
  try clear c118
  try clear c119
  try clear c120
  try clear c121
  try clear c126
  try clear c127
  try clear c128
  try clear c129
  try clear c130
  try clear c132
  try clear c133
  try clear c134
  try clear c135
  try clear c138
  try clear c139
  try clear c140
  try clear c142
  try clear c143
  try clear c146
  try clear c147
  try clear c148
  try clear c149
  try clear c150
  try clear c151
  try clear c152
  try clear c154
  try clear c155
  try clear c156
  try clear c157
  try clear c158
  try clear c159
  try clear c164
  try clear c165
  try clear c166
  try clear c167
  try clear c168
  try clear c170
  try clear c171
  try clear c172
  try clear c173
  try clear c176
  try clear c177
  try clear c178
  try clear c180
  try clear c181
  try clear c184
  try clear c185
  try clear c186
  try clear c187
  try clear c188
  try clear c189
  try clear c190
  try clear c192
  try clear c193
  try clear c194
  try clear c195
  try clear c196
  try clear c197
  try clear c202
  try clear c203
  try clear c204
  try clear c205
  try clear c206
  try clear c208
  try clear c209
  try clear c210
  try clear c211
  try clear c214
  try clear c215
  try clear c216
  try clear c217
  try clear c218
  try clear c219
  try clear c220
  try clear c222
  try clear c223
  try clear c224
  try clear c225
  try clear c226
  try clear c227
  try clear c232
  try clear c233
  try clear c234
  try clear c235
  try clear c236
  try clear c238
  try clear c239
  try clear c240
  try clear c241
  try clear c244
  try clear c245
  try clear c246
  try clear c247
  try clear c248
  try clear c249
  try clear c250
  try clear c252
  try clear c253
  try clear c254
  try clear c255
  try clear c256
  try clear c257
  try clear c262
  try clear c263
  try clear c264
  try clear c265
  try clear c266
  try clear c267
  try clear c268
  try clear c270
  try clear c271
  try clear c272
  try clear c273
  try clear c274
  try clear c275
  try clear c280
  try clear c281
  try clear c282
  try clear c283
  try clear c284
  try clear c285
  try clear c286
  try clear c288
  try clear c289
  try clear c290
  try clear c291
  try clear c292
  try clear c293
  try clear c296
  try clear c297
  try clear c298
  try clear c299
  try clear c300
  try clear c301
  try clear c302
  try clear c304
  try clear c305
  try clear c306
  try clear c307
  try clear c308
  try clear c309
  try clear hcz115_0
  try clear hcz115_1
  try clear hcz122_0
  try clear hcz122_1
  try clear hcz131_0
  try clear hcz131_1
  try clear hcz136_0
  try clear hcz136_1
  try clear hcz141_0
  try clear hcz141_1
  try clear hcz144_0
  try clear hcz144_1
  try clear hcz153_0
  try clear hcz153_1
  try clear hcz160_0
  try clear hcz160_1
  try clear hcz169_0
  try clear hcz169_1
  try clear hcz174_0
  try clear hcz174_1
  try clear hcz179_0
  try clear hcz179_1
  try clear hcz182_0
  try clear hcz182_1
  try clear hcz18_0
  try clear hcz18_1
  try clear hcz191_0
  try clear hcz191_1
  try clear hcz198_0
  try clear hcz198_1
  try clear hcz207_0
  try clear hcz207_1
  try clear hcz212_0
  try clear hcz212_1
  try clear hcz221_0
  try clear hcz221_1
  try clear hcz228_0
  try clear hcz228_1
  try clear hcz237_0
  try clear hcz237_1
  try clear hcz242_0
  try clear hcz242_1
  try clear hcz24_0
  try clear hcz24_1
  try clear hcz251_0
  try clear hcz251_1
  try clear hcz258_0
  try clear hcz258_1
  try clear hcz269_0
  try clear hcz269_1
  try clear hcz276_0
  try clear hcz276_1
  try clear hcz287_0
  try clear hcz287_1
  try clear hcz294_0
  try clear hcz294_1
  try clear hcz303_0
  try clear hcz303_1
  try clear hcz310_0
  try clear hcz310_1
  try clear hcz32_0
  try clear hcz32_1
  try clear hcz34_0
  try clear hcz34_1
  try clear hcz41_0
  try clear hcz41_1
  try clear hcz43_0
  try clear hcz43_1
  try clear hcz45_0
  try clear hcz45_1
  try clear hcz47_0
  try clear hcz47_1
  try clear hcz55_0
  try clear hcz55_1
  try clear hcz57_0
  try clear hcz57_1
  try clear hcz66_0
  try clear hcz66_1
  try clear hcz68_0
  try clear hcz68_1
  try clear hcz78_0
  try clear hcz78_1
  try clear hcz80_0
  try clear hcz80_1
  try clear hcz91_0
  try clear hcz91_1
  try clear hfz115_0
  try clear hfz115_1
  try clear hfz122_0
  try clear hfz122_1
  try clear hfz131_0
  try clear hfz131_1
  try clear hfz136_0
  try clear hfz136_1
  try clear hfz141_0
  try clear hfz141_1
  try clear hfz144_0
  try clear hfz144_1
  try clear hfz153_0
  try clear hfz153_1
  try clear hfz160_0
  try clear hfz160_1
  try clear hfz169_0
  try clear hfz169_1
  try clear hfz174_0
  try clear hfz174_1
  try clear hfz179_0
  try clear hfz179_1
  try clear hfz182_0
  try clear hfz182_1
  try clear hfz18_0
  try clear hfz18_1
  try clear hfz191_0
  try clear hfz191_1
  try clear hfz198_0
  try clear hfz198_1
  try clear hfz207_0
  try clear hfz207_1
  try clear hfz212_0
  try clear hfz212_1
  try clear hfz221_0
  try clear hfz221_1
  try clear hfz228_0
  try clear hfz228_1
  try clear hfz237_0
  try clear hfz237_1
  try clear hfz242_0
  try clear hfz242_1
  try clear hfz24_0
  try clear hfz24_1
  try clear hfz251_0
  try clear hfz251_1
  try clear hfz258_0
  try clear hfz258_1
  try clear hfz269_0
  try clear hfz269_1
  try clear hfz276_0
  try clear hfz276_1
  try clear hfz287_0
  try clear hfz287_1
  try clear hfz294_0
  try clear hfz294_1
  try clear hfz303_0
  try clear hfz303_1
  try clear hfz310_0
  try clear hfz310_1
  try clear hfz32_0
  try clear hfz32_1
  try clear hfz34_0
  try clear hfz34_1
  try clear hfz41_0
  try clear hfz41_1
  try clear hfz43_0
  try clear hfz43_1
  try clear hfz45_0
  try clear hfz45_1
  try clear hfz47_0
  try clear hfz47_1
  try clear hfz55_0
  try clear hfz55_1
  try clear hfz57_0
  try clear hfz57_1
  try clear hfz66_0
  try clear hfz66_1
  try clear hfz68_0
  try clear hfz68_1
  try clear hfz78_0
  try clear hfz78_1
  try clear hfz80_0
  try clear hfz80_1
  try clear hfz91_0
  try clear hfz91_1
  obtain ⟨kq, x130_15, rfl, HA, HJ15, HO_12, HO_480000, HO_480001, HO_488000, HO_488001, HO_496000, HO_496001, HO_512000, HO_512001, HO_520000, HO_520001, HO_528000, HO_528001, HO_536000, HO_536001, BK469, BK479, BK487, BK495, BK511, BK519, BK527, BK535, HB⟩ := hcut
  cases kq with
  | zero => exact absurd HA.out (by simp [transeptlaw04_DiskTells.j0])
  | succ kj15 =>
   have H := HA.out
   clear HA
   simp only [transeptlaw04_DiskTells.j0] at H
   by_cases c312 : x130_15 = true
   ·
    subst c312
    have H1 : (none) = some r := by rw [if_pos rfl] at H; exact H
    clear H
    have H := H1
    clear H1
    exact absurd H (by simp)
   ·
    replace c312 := Bool.eq_false_iff.mpr c312
    subst c312
    have H1 : ((disk_Check.f kj15 t470 t473).bind fun t544 => ((transeptlaw04_num.f t544).bind fun t545 => ((transeptref04_Check.f kj15 l0_0 l0_1).bind fun t546 => (if t545 = t546 then ((transeptlaw04_Alike.f kj15 t470 t473 l0_0 l0_1).bind fun t547 => (if t547 = 0 then ((transeptplain_SameBytes.f kj15 t476 l2).bind fun t548 => (if t548 = true then ((transeptlaw04_alive.f).bind fun t549 => (some t549)) else (none))) else (none))) else (none))))) = some r := by rw [if_neg (show ¬ (false = true) by decide)] at H; exact H
    clear H
    have H := H1
    clear H1
    replace H := Option.bind_eq_some_iff.mp H
    obtain ⟨t544, A3130, H⟩ := H
    replace H : ((transeptlaw04_num.f t544).bind fun t545 => ((transeptref04_Check.f kj15 l0_0 l0_1).bind fun t546 => (if t545 = t546 then ((transeptlaw04_Alike.f kj15 t470 t473 l0_0 l0_1).bind fun t547 => (if t547 = 0 then ((transeptplain_SameBytes.f kj15 t476 l2).bind fun t548 => (if t548 = true then ((transeptlaw04_alive.f).bind fun t549 => (some t549)) else (none))) else (none))) else (none)))) = some r := H
    have A313 := Aside0.mk A3130
    clear A3130
    replace H := Option.bind_eq_some_iff.mp H
    obtain ⟨t545, A3140, H⟩ := H
    replace H : ((transeptref04_Check.f kj15 l0_0 l0_1).bind fun t546 => (if t545 = t546 then ((transeptlaw04_Alike.f kj15 t470 t473 l0_0 l0_1).bind fun t547 => (if t547 = 0 then ((transeptplain_SameBytes.f kj15 t476 l2).bind fun t548 => (if t548 = true then ((transeptlaw04_alive.f).bind fun t549 => (some t549)) else (none))) else (none))) else (none))) = some r := H
    have A314 := Aside0.mk A3140
    clear A3140
    replace H := Option.bind_eq_some_iff.mp H
    obtain ⟨t546, A3150, H⟩ := H
    replace H : (if t545 = t546 then ((transeptlaw04_Alike.f kj15 t470 t473 l0_0 l0_1).bind fun t547 => (if t547 = 0 then ((transeptplain_SameBytes.f kj15 t476 l2).bind fun t548 => (if t548 = true then ((transeptlaw04_alive.f).bind fun t549 => (some t549)) else (none))) else (none))) else (none)) = some r := H
    have A315 := Aside0.mk A3150
    clear A3150
    by_cases c316 : t545 = t546
    ·
     rw [if_pos c316] at H
     have c316b0 : (t545 == t546) = true := beq_iff_eq.mpr c316
     have c316b1 : (t545 != t546) = false := bne_eq_false_iff_eq.mpr c316
     clear c316
     replace H := Option.bind_eq_some_iff.mp H
     obtain ⟨t547, A3170, H⟩ := H
     replace H : (if t547 = 0 then ((transeptplain_SameBytes.f kj15 t476 l2).bind fun t548 => (if t548 = true then ((transeptlaw04_alive.f).bind fun t549 => (some t549)) else (none))) else (none)) = some r := H
     have A317 := Aside0.mk A3170
     clear A3170
     by_cases c318 : t547 = 0
     ·
      rw [if_pos c318] at H
      have c318b0 : (t547 == 0) = true := beq_iff_eq.mpr c318
      have c318b1 : (t547 != 0) = false := bne_eq_false_iff_eq.mpr c318
      clear c318
      replace H := Option.bind_eq_some_iff.mp H
      obtain ⟨t548, A3190, H⟩ := H
      replace H : (if t548 = true then ((transeptlaw04_alive.f).bind fun t549 => (some t549)) else (none)) = some r := H
      have A319 := Aside0.mk A3190
      clear A3190
      by_cases c320 : t548 = true
      ·
       subst c320
       have H1 : ((transeptlaw04_alive.f).bind fun t549 => (some t549)) = some r := by rw [if_pos rfl] at H; exact H
       clear H
       have H := H1
       clear H1
       replace H := Option.bind_eq_some_iff.mp H
       obtain ⟨t549, A3210, H⟩ := H
       replace H : (some t549) = some r := H
       have A321 := Aside0.mk A3210
       clear A3210
       obtain rfl := Option.some.inj H
       try go_wp2
       have n0_ := Aside0.mk (Kd.R_drew HO_12.out)
       have n1_ := Aside0.mk (Kd.S_drew HO_480000.out)
       have n2_ := Aside0.mk (Kd.S_drew HO_480001.out)
       have n3_ := Aside0.mk (Kd.S_drew HO_488000.out)
       have n4_ := Aside0.mk (Kd.S_drew HO_488001.out)
       have n5_ := Aside0.mk (Kd.S_drew HO_496000.out)
       have n6_ := Aside0.mk (Kd.S_drew HO_496001.out)
       have n7_ := Aside0.mk (Kd.S_drew HO_512000.out)
       have n8_ := Aside0.mk (Kd.S_drew HO_512001.out)
       have n9_ := Aside0.mk (Kd.S_drew HO_520000.out)
       have n10_ := Aside0.mk (Kd.S_drew HO_520001.out)
       have n11_ := Aside0.mk (Kd.S_drew HO_528000.out)
       have n12_ := Aside0.mk (Kd.S_drew HO_528001.out)
       have n13_ := Aside0.mk (Kd.S_drew HO_536000.out)
       have n14_ := Aside0.mk (Kd.S_drew HO_536001.out)
       have n15_ := Aside0.mk (blk_drew BK469.out)
       have n16_ := Aside0.mk (blk_drew BK479.out)
       have n17_ := Aside0.mk (blk_drew BK487.out)
       have n18_ := Aside0.mk (blk_drew BK495.out)
       have n19_ := Aside0.mk (blk_drew BK511.out)
       have n20_ := Aside0.mk (blk_drew BK519.out)
       have n21_ := Aside0.mk (blk_drew BK527.out)
       have n22_ := Aside0.mk (blk_drew BK535.out)
       have n23_ := Aside0.mk (below_drew1 HB.out)
       clear HO_12
       clear HO_480000
       clear HO_480001
       clear HO_488000
       clear HO_488001
       clear HO_496000
       clear HO_496001
       clear HO_512000
       clear HO_512001
       clear HO_520000
       clear HO_520001
       clear HO_528000
       clear HO_528001
       clear HO_536000
       clear HO_536001
       clear BK469
       clear BK479
       clear BK487
       clear BK495
       clear BK511
       clear BK519
       clear BK527
       clear BK535
       clear HB
       have HO_12 := n0_
       have HO_480000 := n1_
       have HO_480001 := n2_
       have HO_488000 := n3_
       have HO_488001 := n4_
       have HO_496000 := n5_
       have HO_496001 := n6_
       have HO_512000 := n7_
       have HO_512001 := n8_
       have HO_520000 := n9_
       have HO_520001 := n10_
       have HO_528000 := n11_
       have HO_528001 := n12_
       have HO_536000 := n13_
       have HO_536001 := n14_
       have BK469 := n15_
       have BK479 := n16_
       have BK487 := n17_
       have BK495 := n18_
       have BK511 := n19_
       have BK519 := n20_
       have BK527 := n21_
       have BK535 := n22_
       have HB := n23_
       clear n0_ n1_ n2_ n3_ n4_ n5_ n6_ n7_ n8_ n9_ n10_ n11_ n12_ n13_ n14_ n15_ n16_ n17_ n18_ n19_ n20_ n21_ n22_ n23_
       refine start_ (n := 21) (S := fun w' => w'.cell? ⟨gb479, 0, none⟩ = some (.slice Ao22 t470.length co22) ∧ w'.cell? ⟨gb479, 1, none⟩ = some (.slice Ao25 t473.length co25) ∧ w'.cell? ⟨gb469, 0, none⟩ = some (.slice A0_0 l0_0.length c0_0) ∧ w'.cell? ⟨gb469, 1, none⟩ = some (.slice A0_1 l0_1.length c0_1)) (ds := []) #[X,X,X,X,X,X,X,X,X,X,X,X,X,X,X,X,X,X,X,X,X] (by kernel_rfl) rfl rfl ⟨(blk_cell BK479.out 0).trans rfl, (blk_cell BK479.out 1).trans rfl, (blk_cell BK469.out 0).trans rfl, (blk_cell BK469.out 1).trans rfl⟩ (fun hHeld => ?_); refine with_tabW transeptlaw04_DiskTells.tab12 transeptlaw04_DiskTells.bits12 (fun HT_ HW_ => ?_)
       generalize wc.drew = w322 at HO_12 HO_480000 HO_480001 HO_488000 HO_488001 HO_496000 HO_496001 HO_512000 HO_512001 HO_520000 HO_520001 HO_528000 HO_528001 HO_536000 HO_536001 BK469 BK479 BK487 BK495 BK511 BK519 BK527 BK535 HB hHeld ⊢
       refine take_ (i := 0) (N := some 131) (v := ?_) (a' := ?_) #[Y,X,X,X,X,X,X,X,X,X,X,X,X,X,X,X,X,X,X,X,X] rfl rfl (take_ofW HT_.out HW_.out (by kernel_rfl)) (fun _ _ _ h => h) (Or.inl ⟨by rfl, ?_⟩) hHeld ?_ ?_
       rotate_left
       ·
        rintro w' ⟨s0, s1, s2, s3⟩
        go_simp
        with_reducible rfl
       rotate_left
       ·
        simp only [Act.put, Q.A1, Q.A2, Q.A3, i64_w, i32_w]
        rfl
       refine take_ (i := 3) (N := some 134) (v := ?_) (a' := ?_) #[Y,X,X,Y,X,X,X,X,X,X,X,X,X,X,X,X,X,X,X,X,X] rfl rfl (take_ofW HT_.out HW_.out (by kernel_rfl)) (fun _ _ _ h => h) (Or.inl ⟨by rfl, ?_⟩) hHeld ?_ ?_
       rotate_left
       ·
        rintro w' ⟨s0, s1, s2, s3⟩
        go_simp
        with_reducible rfl
       rotate_left
       ·
        simp only [Act.put, Q.A1, Q.A2, Q.A3, i64_w, i32_w]
        rfl
       refine one_ (i := 1) (N := some 132) #[Y,Y,X,Y,X,X,X,X,X,X,X,X,X,X,X,X,X,X,X,X,X] rfl rfl (one_of HT_.out (by kernel_rfl)) (by decide) (fun K hK => ?_)
       refine goes_ Try.func39 (by kernel_rfl) rfl #[.agg #[.slice Ao22 t470.length co22, .slice Ao25 t473.length co25]] (by rfl) rfl rfl (by (try simp only [List.map_toArray, List.map_cons, List.map_nil]); first | done | rfl | (simp only [List.length_drop, List.length_take]; rfl)) ?_
       with_reducible refine (disk_Check.calls kj15 _ _ t470 _ _ t473 t544 _ ?side1 ?side2 ?side3 ?side4 A313.out).mono ?_
       (case side1 => repeat (first | exact (Kd.S_reads' HO_480000.out).2.2 | (with_reducible refine Kd.C_alloc ?_ _) | (with_reducible refine Kd.C_drewN ?_ _) | (with_reducible refine Kd.C_drew ?_)))
       (case side2 => exact (Kd.S_reads' HO_480000.out).2.1)
       (case side3 => repeat (first | exact (Kd.S_reads' HO_480001.out).2.2 | (with_reducible refine Kd.C_alloc ?_ _) | (with_reducible refine Kd.C_drewN ?_ _) | (with_reducible refine Kd.C_drew ?_)))
       (case side4 => exact (Kd.S_reads' HO_480001.out).2.1)
       rintro e w323 ⟨rfl, hb⟩
       refine ⟨_, rfl, ?_⟩
       have n0_ := Aside0.mk (Kd.R_below (RU HO_12.out) hb)
       have n1_ := Aside0.mk (Kd.S_below (SU HO_480000.out) hb)
       have n2_ := Aside0.mk (Kd.S_below (SU HO_480001.out) hb)
       have n3_ := Aside0.mk (Kd.S_below (SU HO_488000.out) hb)
       have n4_ := Aside0.mk (Kd.S_below (SU HO_488001.out) hb)
       have n5_ := Aside0.mk (Kd.S_below (SU HO_496000.out) hb)
       have n6_ := Aside0.mk (Kd.S_below (SU HO_496001.out) hb)
       have n7_ := Aside0.mk (Kd.S_below (SU HO_512000.out) hb)
       have n8_ := Aside0.mk (Kd.S_below (SU HO_512001.out) hb)
       have n9_ := Aside0.mk (Kd.S_below (SU HO_520000.out) hb)
       have n10_ := Aside0.mk (Kd.S_below (SU HO_520001.out) hb)
       have n11_ := Aside0.mk (Kd.S_below (SU HO_528000.out) hb)
       have n12_ := Aside0.mk (Kd.S_below (SU HO_528001.out) hb)
       have n13_ := Aside0.mk (Kd.S_below (SU HO_536000.out) hb)
       have n14_ := Aside0.mk (Kd.S_below (SU HO_536001.out) hb)
       have n15_ := Aside0.mk (blk_below (g := gb469) (o := .cells #[.slice A0_0 l0_0.length c0_0, .slice A0_1 l0_1.length c0_1] 42 (0, 0)) (BU BK469.out) hb)
       have n16_ := Aside0.mk (blk_below (g := gb479) (o := .cells #[.slice Ao22 t470.length co22, .slice Ao25 t473.length co25] 28 (0, 0)) (BU BK479.out) hb)
       have n17_ := Aside0.mk (blk_below (g := gb487) (o := .cells #[.slice Ao29 t480.length co29, .slice Ao33 t483.length co33] 28 (0, 0)) (BU BK487.out) hb)
       have n18_ := Aside0.mk (blk_below (g := gb495) (o := .cells #[.slice Ao37 t488.length co37, .slice Ao42 t491.length co42] 42 (0, 0)) (BU BK495.out) hb)
       have n19_ := Aside0.mk (blk_below (g := gb511) (o := .cells #[.slice Ao50 t504.length co50, .slice Ao56 t507.length co56] 28 (0, 0)) (BU BK511.out) hb)
       have n20_ := Aside0.mk (blk_below (g := gb519) (o := .cells #[.slice Ao60 t512.length co60, .slice Ao67 t515.length co67] 42 (0, 0)) (BU BK519.out) hb)
       have n21_ := Aside0.mk (blk_below (g := gb527) (o := .cells #[.slice Ao71 t520.length co71, .slice Ao79 t523.length co79] 28 (0, 0)) (BU BK527.out) hb)
       have n22_ := Aside0.mk (blk_below (g := gb535) (o := .cells #[.slice Ao83 t528.length co83, .slice Ao92 t531.length co92] 42 (0, 0)) (BU BK535.out) hb)
       have n23_ := Aside0.mk (below_step (by repeat (first | (with_reducible first | exact HB.out | apply below_alloc | apply pw_below_drewN | apply below_drew1 | refine below_set ?_ GE469.out | refine below_set ?_ GE479.out | refine below_set ?_ GE487.out | refine below_set ?_ GE495.out | refine below_set ?_ GE511.out | refine below_set ?_ GE519.out | refine below_set ?_ GE527.out | refine below_set ?_ GE535.out) | exact HB.out)) hb)
       clear HO_12
       clear HO_480000
       clear HO_480001
       clear HO_488000
       clear HO_488001
       clear HO_496000
       clear HO_496001
       clear HO_512000
       clear HO_512001
       clear HO_520000
       clear HO_520001
       clear HO_528000
       clear HO_528001
       clear HO_536000
       clear HO_536001
       clear BK469
       clear BK479
       clear BK487
       clear BK495
       clear BK511
       clear BK519
       clear BK527
       clear BK535
       clear HB
       have HO_12 := n0_
       have HO_480000 := n1_
       have HO_480001 := n2_
       have HO_488000 := n3_
       have HO_488001 := n4_
       have HO_496000 := n5_
       have HO_496001 := n6_
       have HO_512000 := n7_
       have HO_512001 := n8_
       have HO_520000 := n9_
       have HO_520001 := n10_
       have HO_528000 := n11_
       have HO_528001 := n12_
       have HO_536000 := n13_
       have HO_536001 := n14_
       have BK469 := n15_
       have BK479 := n16_
       have BK487 := n17_
       have BK495 := n18_
       have BK511 := n19_
       have BK519 := n20_
       have BK527 := n21_
       have BK535 := n22_
       have HB := n23_
       clear n0_ n1_ n2_ n3_ n4_ n5_ n6_ n7_ n8_ n9_ n10_ n11_ n12_ n13_ n14_ n15_ n16_ n17_ n18_ n19_ n20_ n21_ n22_ n23_
       (try clear hb)
       (try clear hb2)
       (try clear hk)
       (try clear hi)
       refine hK.out _ _ ⟨(blk_cell BK479.out 0).trans rfl, (blk_cell BK479.out 1).trans rfl, (blk_cell BK469.out 0).trans rfl, (blk_cell BK469.out 1).trans rfl⟩ (fun hHeld => ?_)
       clear hK K
       refine norm_ (a' := ?_) ?_ ?_
       rotate_left
       ·
        show Act.put _ (some 132) _ = _
        simp only [Act.put, Q.A1, Q.A2, Q.A3, i64_w, i32_w]
        rfl
       refine one_ (i := 2) (N := some 133) #[Y,Y,Y,Y,X,X,X,X,X,X,X,X,X,X,X,X,X,X,X,X,X] rfl rfl (one_of HT_.out (by kernel_rfl)) (by decide) (fun K hK => ?_)
       refine goes_ Try.func25 (by kernel_rfl) rfl #[.int .i64 t544] (by rfl) rfl rfl (by (try simp only [List.map_toArray, List.map_cons, List.map_nil]); first | done | rfl | (simp only [List.length_drop, List.length_take]; rfl)) ?_
       with_reducible refine (transeptlaw04_num.calls t544 t545 _ A314.out).mono ?_
       rintro e w' ⟨rfl, ⟨nd, rfl⟩⟩
       refine ⟨_, rfl, ?_⟩
       refine hK.out _ _ ⟨(blk_cell BK479.out 0).trans rfl, (blk_cell BK479.out 1).trans rfl, (blk_cell BK469.out 0).trans rfl, (blk_cell BK469.out 1).trans rfl⟩ (fun hHeld => ?_)
       clear hK K
       refine norm_ (a' := ?_) ?_ ?_
       rotate_left
       ·
        show Act.put _ (some 133) _ = _
        simp only [Act.put, Q.A1, Q.A2, Q.A3, i64_w, i32_w]
        rfl
       refine one_ (i := 4) (N := some 135) #[Y,Y,Y,Y,Y,X,X,X,X,X,X,X,X,X,X,X,X,X,X,X,X] rfl rfl (one_of HT_.out (by kernel_rfl)) (by decide) (fun K hK => ?_)
       refine goes_ Try.func40 (by kernel_rfl) rfl #[.agg #[.slice A0_0 l0_0.length c0_0, .slice A0_1 l0_1.length c0_1]] (by rfl) rfl rfl (by (try simp only [List.map_toArray, List.map_cons, List.map_nil]); first | done | rfl | (simp only [List.length_drop, List.length_take]; rfl)) ?_
       with_reducible refine (transeptref04_Check.calls kj15 _ _ l0_0 _ _ l0_1 t546 _ ?side1 ?side2 ?side3 ?side4 A315.out).mono ?_
       (case side1 => repeat (first | exact (Kd.C_below HR0_0.out (by repeat (first | (with_reducible first | exact HB.out | apply below_alloc | apply pw_below_drewN | apply below_drew1 | refine below_set ?_ GE469.out | refine below_set ?_ GE479.out | refine below_set ?_ GE487.out | refine below_set ?_ GE495.out | refine below_set ?_ GE511.out | refine below_set ?_ GE519.out | refine below_set ?_ GE527.out | refine below_set ?_ GE535.out) | exact HB.out))) | (with_reducible refine Kd.C_alloc ?_ _) | (with_reducible refine Kd.C_drewN ?_ _) | (with_reducible refine Kd.C_drew ?_)))
       (case side2 => exact HC0_0.out)
       (case side3 => repeat (first | exact (Kd.C_below HR0_1.out (by repeat (first | (with_reducible first | exact HB.out | apply below_alloc | apply pw_below_drewN | apply below_drew1 | refine below_set ?_ GE469.out | refine below_set ?_ GE479.out | refine below_set ?_ GE487.out | refine below_set ?_ GE495.out | refine below_set ?_ GE511.out | refine below_set ?_ GE519.out | refine below_set ?_ GE527.out | refine below_set ?_ GE535.out) | exact HB.out))) | (with_reducible refine Kd.C_alloc ?_ _) | (with_reducible refine Kd.C_drewN ?_ _) | (with_reducible refine Kd.C_drew ?_)))
       (case side4 => exact HC0_1.out)
       rintro e w324 ⟨rfl, hb⟩
       refine ⟨_, rfl, ?_⟩
       have n0_ := Aside0.mk (Kd.R_below (RU HO_12.out) hb)
       have n1_ := Aside0.mk (Kd.S_below (SU HO_480000.out) hb)
       have n2_ := Aside0.mk (Kd.S_below (SU HO_480001.out) hb)
       have n3_ := Aside0.mk (Kd.S_below (SU HO_488000.out) hb)
       have n4_ := Aside0.mk (Kd.S_below (SU HO_488001.out) hb)
       have n5_ := Aside0.mk (Kd.S_below (SU HO_496000.out) hb)
       have n6_ := Aside0.mk (Kd.S_below (SU HO_496001.out) hb)
       have n7_ := Aside0.mk (Kd.S_below (SU HO_512000.out) hb)
       have n8_ := Aside0.mk (Kd.S_below (SU HO_512001.out) hb)
       have n9_ := Aside0.mk (Kd.S_below (SU HO_520000.out) hb)
       have n10_ := Aside0.mk (Kd.S_below (SU HO_520001.out) hb)
       have n11_ := Aside0.mk (Kd.S_below (SU HO_528000.out) hb)
       have n12_ := Aside0.mk (Kd.S_below (SU HO_528001.out) hb)
       have n13_ := Aside0.mk (Kd.S_below (SU HO_536000.out) hb)
       have n14_ := Aside0.mk (Kd.S_below (SU HO_536001.out) hb)
       have n15_ := Aside0.mk (blk_below (g := gb469) (o := .cells #[.slice A0_0 l0_0.length c0_0, .slice A0_1 l0_1.length c0_1] 42 (0, 0)) (BU BK469.out) hb)
       have n16_ := Aside0.mk (blk_below (g := gb479) (o := .cells #[.slice Ao22 t470.length co22, .slice Ao25 t473.length co25] 28 (0, 0)) (BU BK479.out) hb)
       have n17_ := Aside0.mk (blk_below (g := gb487) (o := .cells #[.slice Ao29 t480.length co29, .slice Ao33 t483.length co33] 28 (0, 0)) (BU BK487.out) hb)
       have n18_ := Aside0.mk (blk_below (g := gb495) (o := .cells #[.slice Ao37 t488.length co37, .slice Ao42 t491.length co42] 42 (0, 0)) (BU BK495.out) hb)
       have n19_ := Aside0.mk (blk_below (g := gb511) (o := .cells #[.slice Ao50 t504.length co50, .slice Ao56 t507.length co56] 28 (0, 0)) (BU BK511.out) hb)
       have n20_ := Aside0.mk (blk_below (g := gb519) (o := .cells #[.slice Ao60 t512.length co60, .slice Ao67 t515.length co67] 42 (0, 0)) (BU BK519.out) hb)
       have n21_ := Aside0.mk (blk_below (g := gb527) (o := .cells #[.slice Ao71 t520.length co71, .slice Ao79 t523.length co79] 28 (0, 0)) (BU BK527.out) hb)
       have n22_ := Aside0.mk (blk_below (g := gb535) (o := .cells #[.slice Ao83 t528.length co83, .slice Ao92 t531.length co92] 42 (0, 0)) (BU BK535.out) hb)
       have n23_ := Aside0.mk (below_step (by repeat (first | (with_reducible first | exact HB.out | apply below_alloc | apply pw_below_drewN | apply below_drew1 | refine below_set ?_ GE469.out | refine below_set ?_ GE479.out | refine below_set ?_ GE487.out | refine below_set ?_ GE495.out | refine below_set ?_ GE511.out | refine below_set ?_ GE519.out | refine below_set ?_ GE527.out | refine below_set ?_ GE535.out) | exact HB.out)) hb)
       clear HO_12
       clear HO_480000
       clear HO_480001
       clear HO_488000
       clear HO_488001
       clear HO_496000
       clear HO_496001
       clear HO_512000
       clear HO_512001
       clear HO_520000
       clear HO_520001
       clear HO_528000
       clear HO_528001
       clear HO_536000
       clear HO_536001
       clear BK469
       clear BK479
       clear BK487
       clear BK495
       clear BK511
       clear BK519
       clear BK527
       clear BK535
       clear HB
       have HO_12 := n0_
       have HO_480000 := n1_
       have HO_480001 := n2_
       have HO_488000 := n3_
       have HO_488001 := n4_
       have HO_496000 := n5_
       have HO_496001 := n6_
       have HO_512000 := n7_
       have HO_512001 := n8_
       have HO_520000 := n9_
       have HO_520001 := n10_
       have HO_528000 := n11_
       have HO_528001 := n12_
       have HO_536000 := n13_
       have HO_536001 := n14_
       have BK469 := n15_
       have BK479 := n16_
       have BK487 := n17_
       have BK495 := n18_
       have BK511 := n19_
       have BK519 := n20_
       have BK527 := n21_
       have BK535 := n22_
       have HB := n23_
       clear n0_ n1_ n2_ n3_ n4_ n5_ n6_ n7_ n8_ n9_ n10_ n11_ n12_ n13_ n14_ n15_ n16_ n17_ n18_ n19_ n20_ n21_ n22_ n23_
       (try clear hb)
       (try clear hb2)
       (try clear hk)
       (try clear hi)
       refine hK.out _ _ ⟨(blk_cell BK479.out 0).trans rfl, (blk_cell BK479.out 1).trans rfl, (blk_cell BK469.out 0).trans rfl, (blk_cell BK469.out 1).trans rfl⟩ (fun hHeld => ?_)
       clear hK K
       refine norm_ (a' := ?_) ?_ ?_
       rotate_left
       ·
        show Act.put _ (some 135) _ = _
        simp only [Act.put, Q.A1, Q.A2, Q.A3, i64_w, i32_w]
        rfl
       refine pure_ (i := 5) (N := some 136) (v := ?_) (a' := ?_) #[Y,Y,Y,Y,Y,Y,X,X,X,X,X,X,X,X,X,X,X,X,X,X,X] rfl rfl (any_of HT_.out (by kernel_rfl)) (fun _ _ _ h => h) (Or.inl ⟨by rfl, ?_⟩) ?_ ?_
       rotate_left
       ·
        intro w'
        go_simp
        with_reducible rfl
       rotate_left
       ·
        simp only [Act.put, Q.A1, Q.A2, Q.A3, i64_w, i32_w]
        rfl
       refine pure_ (i := 6) (N := some 137) (v := ?_) (a' := ?_) #[Y,Y,Y,Y,Y,Y,Y,X,X,X,X,X,X,X,X,X,X,X,X,X,X] rfl rfl (any_of HT_.out (by kernel_rfl)) (fun _ _ _ h => h) (Or.inl ⟨by rfl, ?_⟩) ?_ ?_
       rotate_left
       ·
        intro w'
        go_simp
        with_reducible rfl
       rotate_left
       ·
        simp only [Act.put, Q.A1, Q.A2, Q.A3, i64_w, i32_w]
        rfl
       refine take_ (i := 7) (N := some 138) (v := ?_) (a' := ?_) #[Y,Y,Y,Y,Y,Y,Y,Y,X,X,X,X,X,X,X,X,X,X,X,X,X] rfl rfl (take_ofW HT_.out HW_.out (by kernel_rfl)) (fun _ _ _ h => h) (Or.inl ⟨by rfl, ?_⟩) hHeld ?_ ?_
       rotate_left
       ·
        rintro w' ⟨s0, s1, s2, s3⟩
        go_simp
        with_reducible rfl
       rotate_left
       ·
        simp only [Act.put, Q.A1, Q.A2, Q.A3, i64_w, i32_w]
        rfl
       refine take_ (i := 8) (N := some 139) (v := ?_) (a' := ?_) #[Y,Y,Y,Y,Y,Y,Y,Y,Y,X,X,X,X,X,X,X,X,X,X,X,X] rfl rfl (take_ofW HT_.out HW_.out (by kernel_rfl)) (fun _ _ _ h => h) (Or.inl ⟨by rfl, ?_⟩) hHeld ?_ ?_
       rotate_left
       ·
        rintro w' ⟨s0, s1, s2, s3⟩
        go_simp
        with_reducible rfl
       rotate_left
       ·
        simp only [Act.put, Q.A1, Q.A2, Q.A3, i64_w, i32_w]
        rfl
       refine one_ (i := 9) (N := some 140) #[Y,Y,Y,Y,Y,Y,Y,Y,Y,Y,X,X,X,X,X,X,X,X,X,X,X] rfl rfl (one_of HT_.out (by kernel_rfl)) (by decide) (fun K hK => ?_)
       refine goes_ Try.func24 (by kernel_rfl) rfl #[.agg #[.slice Ao22 t470.length co22, .slice Ao25 t473.length co25], .agg #[.slice A0_0 l0_0.length c0_0, .slice A0_1 l0_1.length c0_1]] (by rfl) rfl rfl (by (try simp only [List.map_toArray, List.map_cons, List.map_nil]); first | done | rfl | (simp only [List.length_drop, List.length_take]; rfl)) ?_
       with_reducible refine (transeptlaw04_Alike.calls kj15 _ _ t470 _ _ t473 _ _ l0_0 _ _ l0_1 t547 _ ?side1 ?side2 ?side3 ?side4 ?side5 ?side6 ?side7 ?side8 A317.out).mono ?_
       (case side1 => repeat (first | exact (Kd.S_reads' HO_480000.out).2.2 | (with_reducible refine Kd.C_alloc ?_ _) | (with_reducible refine Kd.C_drewN ?_ _) | (with_reducible refine Kd.C_drew ?_)))
       (case side2 => exact (Kd.S_reads' HO_480000.out).2.1)
       (case side3 => repeat (first | exact (Kd.S_reads' HO_480001.out).2.2 | (with_reducible refine Kd.C_alloc ?_ _) | (with_reducible refine Kd.C_drewN ?_ _) | (with_reducible refine Kd.C_drew ?_)))
       (case side4 => exact (Kd.S_reads' HO_480001.out).2.1)
       (case side5 => repeat (first | exact (Kd.C_below HR0_0.out HB.out) | (with_reducible refine Kd.C_alloc ?_ _) | (with_reducible refine Kd.C_drewN ?_ _) | (with_reducible refine Kd.C_drew ?_)))
       (case side6 => exact HC0_0.out)
       (case side7 => repeat (first | exact (Kd.C_below HR0_1.out HB.out) | (with_reducible refine Kd.C_alloc ?_ _) | (with_reducible refine Kd.C_drewN ?_ _) | (with_reducible refine Kd.C_drew ?_)))
       (case side8 => exact HC0_1.out)
       rintro e w325 ⟨rfl, hb⟩
       refine ⟨_, rfl, ?_⟩
       have n0_ := Aside0.mk (Kd.R_below (RU HO_12.out) hb)
       have n1_ := Aside0.mk (Kd.S_below (SU HO_480000.out) hb)
       have n2_ := Aside0.mk (Kd.S_below (SU HO_480001.out) hb)
       have n3_ := Aside0.mk (Kd.S_below (SU HO_488000.out) hb)
       have n4_ := Aside0.mk (Kd.S_below (SU HO_488001.out) hb)
       have n5_ := Aside0.mk (Kd.S_below (SU HO_496000.out) hb)
       have n6_ := Aside0.mk (Kd.S_below (SU HO_496001.out) hb)
       have n7_ := Aside0.mk (Kd.S_below (SU HO_512000.out) hb)
       have n8_ := Aside0.mk (Kd.S_below (SU HO_512001.out) hb)
       have n9_ := Aside0.mk (Kd.S_below (SU HO_520000.out) hb)
       have n10_ := Aside0.mk (Kd.S_below (SU HO_520001.out) hb)
       have n11_ := Aside0.mk (Kd.S_below (SU HO_528000.out) hb)
       have n12_ := Aside0.mk (Kd.S_below (SU HO_528001.out) hb)
       have n13_ := Aside0.mk (Kd.S_below (SU HO_536000.out) hb)
       have n14_ := Aside0.mk (Kd.S_below (SU HO_536001.out) hb)
       have n15_ := Aside0.mk (blk_below (g := gb469) (o := .cells #[.slice A0_0 l0_0.length c0_0, .slice A0_1 l0_1.length c0_1] 42 (0, 0)) (BU BK469.out) hb)
       have n16_ := Aside0.mk (blk_below (g := gb479) (o := .cells #[.slice Ao22 t470.length co22, .slice Ao25 t473.length co25] 28 (0, 0)) (BU BK479.out) hb)
       have n17_ := Aside0.mk (blk_below (g := gb487) (o := .cells #[.slice Ao29 t480.length co29, .slice Ao33 t483.length co33] 28 (0, 0)) (BU BK487.out) hb)
       have n18_ := Aside0.mk (blk_below (g := gb495) (o := .cells #[.slice Ao37 t488.length co37, .slice Ao42 t491.length co42] 42 (0, 0)) (BU BK495.out) hb)
       have n19_ := Aside0.mk (blk_below (g := gb511) (o := .cells #[.slice Ao50 t504.length co50, .slice Ao56 t507.length co56] 28 (0, 0)) (BU BK511.out) hb)
       have n20_ := Aside0.mk (blk_below (g := gb519) (o := .cells #[.slice Ao60 t512.length co60, .slice Ao67 t515.length co67] 42 (0, 0)) (BU BK519.out) hb)
       have n21_ := Aside0.mk (blk_below (g := gb527) (o := .cells #[.slice Ao71 t520.length co71, .slice Ao79 t523.length co79] 28 (0, 0)) (BU BK527.out) hb)
       have n22_ := Aside0.mk (blk_below (g := gb535) (o := .cells #[.slice Ao83 t528.length co83, .slice Ao92 t531.length co92] 42 (0, 0)) (BU BK535.out) hb)
       have n23_ := Aside0.mk (below_step (by repeat (first | (with_reducible first | exact HB.out | apply below_alloc | apply pw_below_drewN | apply below_drew1 | refine below_set ?_ GE469.out | refine below_set ?_ GE479.out | refine below_set ?_ GE487.out | refine below_set ?_ GE495.out | refine below_set ?_ GE511.out | refine below_set ?_ GE519.out | refine below_set ?_ GE527.out | refine below_set ?_ GE535.out) | exact HB.out)) hb)
       clear HO_12
       clear HO_480000
       clear HO_480001
       clear HO_488000
       clear HO_488001
       clear HO_496000
       clear HO_496001
       clear HO_512000
       clear HO_512001
       clear HO_520000
       clear HO_520001
       clear HO_528000
       clear HO_528001
       clear HO_536000
       clear HO_536001
       clear BK469
       clear BK479
       clear BK487
       clear BK495
       clear BK511
       clear BK519
       clear BK527
       clear BK535
       clear HB
       have HO_12 := n0_
       have HO_480000 := n1_
       have HO_480001 := n2_
       have HO_488000 := n3_
       have HO_488001 := n4_
       have HO_496000 := n5_
       have HO_496001 := n6_
       have HO_512000 := n7_
       have HO_512001 := n8_
       have HO_520000 := n9_
       have HO_520001 := n10_
       have HO_528000 := n11_
       have HO_528001 := n12_
       have HO_536000 := n13_
       have HO_536001 := n14_
       have BK469 := n15_
       have BK479 := n16_
       have BK487 := n17_
       have BK495 := n18_
       have BK511 := n19_
       have BK519 := n20_
       have BK527 := n21_
       have BK535 := n22_
       have HB := n23_
       clear n0_ n1_ n2_ n3_ n4_ n5_ n6_ n7_ n8_ n9_ n10_ n11_ n12_ n13_ n14_ n15_ n16_ n17_ n18_ n19_ n20_ n21_ n22_ n23_
       (try clear hb)
       (try clear hb2)
       (try clear hk)
       (try clear hi)
       refine hK.out _ _ ⟨(blk_cell BK479.out 0).trans rfl, (blk_cell BK479.out 1).trans rfl, (blk_cell BK469.out 0).trans rfl, (blk_cell BK469.out 1).trans rfl⟩ (fun hHeld => ?_)
       clear hK K
       refine norm_ (a' := ?_) ?_ ?_
       rotate_left
       ·
        show Act.put _ (some 140) _ = _
        simp only [Act.put, Q.A1, Q.A2, Q.A3, i64_w, i32_w]
        rfl
       refine pure_ (i := 10) (N := some 141) (v := ?_) (a' := ?_) #[Y,Y,Y,Y,Y,Y,Y,Y,Y,Y,Y,X,X,X,X,X,X,X,X,X,X] rfl rfl (any_of HT_.out (by kernel_rfl)) (fun _ _ _ h => h) (Or.inl ⟨by rfl, ?_⟩) ?_ ?_
       rotate_left
       ·
        intro w'
        go_simp
        with_reducible rfl
       rotate_left
       ·
        simp only [Act.put, Q.A1, Q.A2, Q.A3, i64_w, i32_w]
        rfl
       refine pure_ (i := 11) (N := some 142) (v := ?_) (a' := ?_) #[Y,Y,Y,Y,Y,Y,Y,Y,Y,Y,Y,Y,X,X,X,X,X,X,X,X,X] rfl rfl (any_of HT_.out (by kernel_rfl)) (fun _ _ _ h => h) (Or.inl ⟨by rfl, ?_⟩) ?_ ?_
       rotate_left
       ·
        intro w'
        go_simp
        with_reducible rfl
       rotate_left
       ·
        simp only [Act.put, Q.A1, Q.A2, Q.A3, i64_w, i32_w]
        rfl
       refine pure_ (i := 12) (N := some 143) (v := ?_) (a' := ?_) #[Y,Y,Y,Y,Y,Y,Y,Y,Y,Y,Y,Y,Y,X,X,X,X,X,X,X,X] rfl rfl (any_of HT_.out (by kernel_rfl)) (fun _ _ _ h => h) (Or.inl ⟨by rfl, ?_⟩) ?_ ?_
       rotate_left
       ·
        intro w'
        go_simp
        with_reducible rfl
       rotate_left
       ·
        simp only [Act.put, Q.A1, Q.A2, Q.A3, i64_w, i32_w]
        rfl
       refine pure_ (i := 13) (N := some 144) (v := ?_) (a' := ?_) #[Y,Y,Y,Y,Y,Y,Y,Y,Y,Y,Y,Y,Y,Y,X,X,X,X,X,X,X] rfl rfl (any_of HT_.out (by kernel_rfl)) (fun _ _ _ h => h) (Or.inl ⟨by rfl, ?_⟩) ?_ ?_
       rotate_left
       ·
        intro w'
        go_simp
        with_reducible rfl
       rotate_left
       ·
        simp only [Act.put, Q.A1, Q.A2, Q.A3, i64_w, i32_w]
        rfl
       refine pure_ (i := 14) (N := some 145) (v := ?_) (a' := ?_) #[Y,Y,Y,Y,Y,Y,Y,Y,Y,Y,Y,Y,Y,Y,Y,X,X,X,X,X,X] rfl rfl (any_of HT_.out (by kernel_rfl)) (fun _ _ _ h => h) (Or.inl ⟨by rfl, ?_⟩) ?_ ?_
       rotate_left
       ·
        intro w'
        go_simp
        with_reducible rfl
       rotate_left
       ·
        simp only [Act.put, Q.A1, Q.A2, Q.A3, i64_w, i32_w]
        rfl
       refine one_ (i := 15) (N := some 146) #[Y,Y,Y,Y,Y,Y,Y,Y,Y,Y,Y,Y,Y,Y,Y,Y,X,X,X,X,X] rfl rfl (one_of HT_.out (by kernel_rfl)) (by decide) (fun K hK => ?_)
       refine goes_ Try.func28 (by kernel_rfl) rfl #[.slice Ao26 t476.length co26, .slice A2 l2.length c2] (by rfl) rfl rfl (by (try simp only [List.map_toArray, List.map_cons, List.map_nil]); first | done | rfl | (simp only [List.length_drop, List.length_take]; rfl)) ?_
       with_reducible refine (transeptplain_SameBytes.calls kj15 _ _ t476 _ _ l2 true _ ?side1 ?side2 ?side3 ?side4 A319.out).mono ?_
       (case side1 => repeat (first | exact (Kd.R_reads' HO_12.out).2.2 | (with_reducible refine Kd.C_alloc ?_ _) | (with_reducible refine Kd.C_drewN ?_ _) | (with_reducible refine Kd.C_drew ?_)))
       (case side2 => exact (Kd.R_reads' HO_12.out).2.1)
       (case side3 => repeat (first | exact (Kd.C_below HR2.out HB.out) | (with_reducible refine Kd.C_alloc ?_ _) | (with_reducible refine Kd.C_drewN ?_ _) | (with_reducible refine Kd.C_drew ?_)))
       (case side4 => exact HC2.out)
       rintro e w' ⟨rfl, ⟨nd, rfl⟩⟩
       refine ⟨_, rfl, ?_⟩
       refine hK.out _ _ ⟨(blk_cell BK479.out 0).trans rfl, (blk_cell BK479.out 1).trans rfl, (blk_cell BK469.out 0).trans rfl, (blk_cell BK469.out 1).trans rfl⟩ (fun hHeld => ?_)
       clear hK K
       refine norm_ (a' := ?_) ?_ ?_
       rotate_left
       ·
        show Act.put _ (some 146) _ = _
        simp only [Act.put, Q.A1, Q.A2, Q.A3, i64_w, i32_w]
        rfl
       refine pure_ (i := 16) (N := some 147) (v := ?_) (a' := ?_) #[Y,Y,Y,Y,Y,Y,Y,Y,Y,Y,Y,Y,Y,Y,Y,Y,Y,X,X,X,X] rfl rfl (any_of HT_.out (by kernel_rfl)) (fun _ _ _ h => h) (Or.inl ⟨by rfl, ?_⟩) ?_ ?_
       rotate_left
       ·
        intro w'
        go_simp
        with_reducible rfl
       rotate_left
       ·
        simp only [Act.put, Q.A1, Q.A2, Q.A3, i64_w, i32_w]
        rfl
       refine pure_ (i := 17) (N := some 148) (v := ?_) (a' := ?_) #[Y,Y,Y,Y,Y,Y,Y,Y,Y,Y,Y,Y,Y,Y,Y,Y,Y,Y,X,X,X] rfl rfl (any_of HT_.out (by kernel_rfl)) (fun _ _ _ h => h) (Or.inl ⟨by rfl, ?_⟩) ?_ ?_
       rotate_left
       ·
        intro w'
        go_simp
        with_reducible rfl
       rotate_left
       ·
        simp only [Act.put, Q.A1, Q.A2, Q.A3, i64_w, i32_w]
        rfl
       refine one_ (i := 18) (N := some 149) #[Y,Y,Y,Y,Y,Y,Y,Y,Y,Y,Y,Y,Y,Y,Y,Y,Y,Y,Y,X,X] rfl rfl (one_of HT_.out (by kernel_rfl)) (by decide) (fun K hK => ?_)
       refine goes_ Try.func26 (by kernel_rfl) rfl #[] (by rfl) rfl rfl (by (try simp only [List.map_toArray, List.map_cons, List.map_nil]); first | done | rfl | (simp only [List.length_drop, List.length_take]; rfl)) ?_
       with_reducible refine (transeptlaw04_alive.calls  t549 _ A321.out).mono ?_
       rintro e w326 ⟨rfl, hb⟩
       refine ⟨_, rfl, ?_⟩
       have n0_ := Aside0.mk (Kd.R_below (RU HO_12.out) hb)
       have n1_ := Aside0.mk (Kd.S_below (SU HO_480000.out) hb)
       have n2_ := Aside0.mk (Kd.S_below (SU HO_480001.out) hb)
       have n3_ := Aside0.mk (Kd.S_below (SU HO_488000.out) hb)
       have n4_ := Aside0.mk (Kd.S_below (SU HO_488001.out) hb)
       have n5_ := Aside0.mk (Kd.S_below (SU HO_496000.out) hb)
       have n6_ := Aside0.mk (Kd.S_below (SU HO_496001.out) hb)
       have n7_ := Aside0.mk (Kd.S_below (SU HO_512000.out) hb)
       have n8_ := Aside0.mk (Kd.S_below (SU HO_512001.out) hb)
       have n9_ := Aside0.mk (Kd.S_below (SU HO_520000.out) hb)
       have n10_ := Aside0.mk (Kd.S_below (SU HO_520001.out) hb)
       have n11_ := Aside0.mk (Kd.S_below (SU HO_528000.out) hb)
       have n12_ := Aside0.mk (Kd.S_below (SU HO_528001.out) hb)
       have n13_ := Aside0.mk (Kd.S_below (SU HO_536000.out) hb)
       have n14_ := Aside0.mk (Kd.S_below (SU HO_536001.out) hb)
       have n15_ := Aside0.mk (blk_below (g := gb469) (o := .cells #[.slice A0_0 l0_0.length c0_0, .slice A0_1 l0_1.length c0_1] 42 (0, 0)) (BU BK469.out) hb)
       have n16_ := Aside0.mk (blk_below (g := gb479) (o := .cells #[.slice Ao22 t470.length co22, .slice Ao25 t473.length co25] 28 (0, 0)) (BU BK479.out) hb)
       have n17_ := Aside0.mk (blk_below (g := gb487) (o := .cells #[.slice Ao29 t480.length co29, .slice Ao33 t483.length co33] 28 (0, 0)) (BU BK487.out) hb)
       have n18_ := Aside0.mk (blk_below (g := gb495) (o := .cells #[.slice Ao37 t488.length co37, .slice Ao42 t491.length co42] 42 (0, 0)) (BU BK495.out) hb)
       have n19_ := Aside0.mk (blk_below (g := gb511) (o := .cells #[.slice Ao50 t504.length co50, .slice Ao56 t507.length co56] 28 (0, 0)) (BU BK511.out) hb)
       have n20_ := Aside0.mk (blk_below (g := gb519) (o := .cells #[.slice Ao60 t512.length co60, .slice Ao67 t515.length co67] 42 (0, 0)) (BU BK519.out) hb)
       have n21_ := Aside0.mk (blk_below (g := gb527) (o := .cells #[.slice Ao71 t520.length co71, .slice Ao79 t523.length co79] 28 (0, 0)) (BU BK527.out) hb)
       have n22_ := Aside0.mk (blk_below (g := gb535) (o := .cells #[.slice Ao83 t528.length co83, .slice Ao92 t531.length co92] 42 (0, 0)) (BU BK535.out) hb)
       have n23_ := Aside0.mk (below_step (by repeat (first | (with_reducible first | exact HB.out | apply below_alloc | apply pw_below_drewN | apply below_drew1 | refine below_set ?_ GE469.out | refine below_set ?_ GE479.out | refine below_set ?_ GE487.out | refine below_set ?_ GE495.out | refine below_set ?_ GE511.out | refine below_set ?_ GE519.out | refine below_set ?_ GE527.out | refine below_set ?_ GE535.out) | exact HB.out)) hb)
       clear HO_12
       clear HO_480000
       clear HO_480001
       clear HO_488000
       clear HO_488001
       clear HO_496000
       clear HO_496001
       clear HO_512000
       clear HO_512001
       clear HO_520000
       clear HO_520001
       clear HO_528000
       clear HO_528001
       clear HO_536000
       clear HO_536001
       clear BK469
       clear BK479
       clear BK487
       clear BK495
       clear BK511
       clear BK519
       clear BK527
       clear BK535
       clear HB
       have HO_12 := n0_
       have HO_480000 := n1_
       have HO_480001 := n2_
       have HO_488000 := n3_
       have HO_488001 := n4_
       have HO_496000 := n5_
       have HO_496001 := n6_
       have HO_512000 := n7_
       have HO_512001 := n8_
       have HO_520000 := n9_
       have HO_520001 := n10_
       have HO_528000 := n11_
       have HO_528001 := n12_
       have HO_536000 := n13_
       have HO_536001 := n14_
       have BK469 := n15_
       have BK479 := n16_
       have BK487 := n17_
       have BK495 := n18_
       have BK511 := n19_
       have BK519 := n20_
       have BK527 := n21_
       have BK535 := n22_
       have HB := n23_
       clear n0_ n1_ n2_ n3_ n4_ n5_ n6_ n7_ n8_ n9_ n10_ n11_ n12_ n13_ n14_ n15_ n16_ n17_ n18_ n19_ n20_ n21_ n22_ n23_
       (try clear hb)
       (try clear hb2)
       (try clear hk)
       (try clear hi)
       refine hK.out _ _ ⟨(blk_cell BK479.out 0).trans rfl, (blk_cell BK479.out 1).trans rfl, (blk_cell BK469.out 0).trans rfl, (blk_cell BK469.out 1).trans rfl⟩ (fun hHeld => ?_)
       clear hK K
       refine norm_ (a' := ?_) ?_ ?_
       rotate_left
       ·
        show Act.put _ (some 149) _ = _
        simp only [Act.put, Q.A1, Q.A2, Q.A3, i64_w, i32_w]
        rfl
       refine pure_ (i := 19) (N := some 150) (v := ?_) (a' := ?_) #[Y,Y,Y,Y,Y,Y,Y,Y,Y,Y,Y,Y,Y,Y,Y,Y,Y,Y,Y,Y,X] rfl rfl (any_of HT_.out (by kernel_rfl)) (fun _ _ _ h => h) (Or.inl ⟨by rfl, ?_⟩) ?_ ?_
       rotate_left
       ·
        intro w'
        go_simp
        with_reducible rfl
       rotate_left
       ·
        simp only [Act.put, Q.A1, Q.A2, Q.A3, i64_w, i32_w]
        rfl
       refine pure_ (i := 20) (N := some 10) (v := ?_) (a' := ?_) #[Y,Y,Y,Y,Y,Y,Y,Y,Y,Y,Y,Y,Y,Y,Y,Y,Y,Y,Y,Y,Y] rfl rfl (any_of HT_.out (by kernel_rfl)) (fun _ _ _ h => h) (Or.inl ⟨by rfl, ?_⟩) ?_ ?_
       rotate_left
       ·
        intro w'
        go_simp
        with_reducible rfl
       rotate_left
       ·
        simp only [Act.put, Q.A1, Q.A2, Q.A3, i64_w, i32_w]
        rfl
       refine done_ (done_of HT_.out (by kernel_rfl)) ?_
       try go_wp2
       go_ret
       exact ⟨by first | rfl | (simp [errW_none, errW_some] <;> rfl) | (simp [*, errW_none, errW_some] <;> rfl), by repeat (first | (with_reducible first | exact HB.out | apply below_alloc | apply pw_below_drewN | apply below_drew1 | refine below_set ?_ GE469.out | refine below_set ?_ GE479.out | refine below_set ?_ GE487.out | refine below_set ?_ GE495.out | refine below_set ?_ GE511.out | refine below_set ?_ GE519.out | refine below_set ?_ GE527.out | refine below_set ?_ GE535.out) | exact HB.out)⟩
      ·
       replace c320 := Bool.eq_false_iff.mpr c320
       subst c320
       have H1 : (none) = some r := by rw [if_neg (show ¬ (false = true) by decide)] at H; exact H
       clear H
       have H := H1
       clear H1
       exact absurd H (by simp)
     ·
      rw [if_neg c318] at H
      have c318b0 : (t547 == 0) = false := beq_eq_false_iff_ne.mpr c318
      have c318b1 : (t547 != 0) = true := bne_iff_ne.mpr c318
      exact absurd H (by simp)
    ·
     rw [if_neg c316] at H
     have c316b0 : (t545 == t546) = false := beq_eq_false_iff_ne.mpr c316
     have c316b1 : (t545 != t546) = true := bne_iff_ne.mpr c316
     exact absurd H (by simp)

end Go.Proofs.Ytiiphlfgdkjjiaa.Q
