/- CrcGoesOn is true for every input of bulk at most 1048576. Written by a program of this session (row.py), but for what it imports. -/
import Derived.Test.YtabkdakikfhgmaaRows
import Derived.Test.YtabkdakikfhgmaaPureCrcGoesOnU
import Derived.WalkKit
import Derived.ProofKit
import Derived.OpenShut
import Derived.ChangeOld
import Derived.Below
import Derived.Deep.CondSized
namespace Go.Proofs.Ytabkdakikfhgmaa.crcGoesOnUpto
set_option linter.unusedVariables false
open Go.ChangeShapes Go.WideShapes Go.ChangeAt Go.RowKit Go.Proofs.Ytabkdakikfhgmaa.Q Go.Proofs.Ytabkdakikfhgmaa.Read Go.Proofs.Ytabkdakikfhgmaa.Stm.crcGoesOnUpto Go.Proofs.YtabkdakikfhgmaaW.PrintWords
theorem own : ownKnob Try.prog.godebug = none := by kernel_rfl
theorem laidOut : laidOutB Try.prog = true := by kernel_rfl
theorem contract (H : Type) (enc : TypeId × Value → H) (W : World) (base : Nat) (args : Array Value) (ds gs : List (DataW H)) (before : List MemPlace)
    (hval : ∀ (j : Nat) t v, Try.f6.params[j]? = some t → args[j]? = some v → Value.okWide Try.prog W .any base t v)
    (hW : DataW.Whole enc Try.prog Try.f6.params.toList Rows.crcGoesOnSpec.vars false W args.toList ds gs before) (hk : Rows.uptoSmall H (ds ++ gs) = true)
    (hsz : (DataW.weightsEach Try.prog (Try.f6.params.toList ++ Rows.crcGoesOnSpec.plain.varTypes Try.prog) (ds ++ gs)).all (· ≤ reachBytes) = true) :
    Calls Try.prog 6 args W fun e W' => ∃ v, e = .returned v ∧ Rows.crcGoesOnSpec.post enc Try.prog Try.f6 false true false false W args v W' := by
  have hW' := hW
  obtain ⟨p, q, hA0, hV, rfl, hfz, hnd⟩ := hW
  have hA : DataW.TrodAll enc Try.prog W 0 (fun _ => true) true Try.f6.params.toList args.toList ds p := hA0
  rw [Try.params6] at hA hval hsz
  obtain ⟨v0, vs0, d0, ds0, p0, q0, hargs, rfl, rfl, h0, r0⟩ := trodAll_cons hA
  obtain ⟨v1, vs1, d1, ds1, p1, q1, rfl, rfl, rfl, h1, r1⟩ := trodAll_cons r0
  obtain ⟨rfl, rfl, rfl⟩ := trodAll_nil r1
  obtain rfl : args = #[v0, v1] := by cases args; simp_all
  obtain ⟨rfl, rfl⟩ := trodVars_none hV
  have lt0 := lt_of_trod h0
  obtain ⟨x0, k0, f0, m0⟩ := arg (opens_slice (by kernel_rfl) (by kernel_rfl) (B := 1) (by kernel_rfl) (opens_int (by kernel_rfl))) hsz (j := 0) (t := 22) (x := d0) rfl rfl h0
  obtain ⟨A0, c0, rfl, hc0, hr0⟩ := val_slice Try.underlying22 (hval 0 22 v0 rfl rfl) k0
  have lt1 := lt_of_trod h1
  obtain ⟨x1, k1, f1, m1⟩ := arg (opens_slice (by kernel_rfl) (by kernel_rfl) (B := 1) (by kernel_rfl) (opens_int (by kernel_rfl))) hsz (j := 1) (t := 22) (x := d1) rfl rfl h1
  obtain ⟨A1, c1, rfl, hc1, hr1⟩ := val_slice Try.underlying22 (hval 1 22 v1 rfl rfl) k1
  have hb := bound hk
  simp only [List.append_nil, Rows.uptoBulkAll] at hb
  have hp := Pure.CrcGoesOnU x0 x1 f0 f1 (Nat.le_trans (by omega) hb)
  refine (transeptlaw02_CrcGoesOn.calls _ _ x0 _ _ x1 true W hr0 hc0 hr1 hc1 hp).mono fun e W' ⟨he, bel0⟩ => ?_
  have bel : Below W.heap.size W W' := bel0
  subst he
  exact ⟨_, rfl, _, _, _, [], _, [], hW', trodAll_mk1 (shut_bool Try.underlying4 _), (trodAll_cons_mk (Below.trod laidOut (by kernel_rfl) (of_decide_eq_true (by kernel_rfl)) h0 bel lt0) (trodAll_cons_mk (Below.trod laidOut (by kernel_rfl) (of_decide_eq_true (by kernel_rfl)) h1 bel lt1) trodAll_mk0)), rfl, bel.frame _, fun h => by cases h⟩
set_option maxRecDepth 100000 in
theorem lifted (os : Os) (started : os.Started) (H : Type) (enc : TypeId × Value → H) (F : Stop.Interp) :
    ReturnsInHanded {} Try.checked os 6 .any ((Rows.OpenSpec.upto Rows.crcGoesOnSpec).pre6 enc Try.prog Try.f6 Rows.crcGoesOnUptoRow.domain false) (((Rows.OpenSpec.upto Rows.crcGoesOnSpec).at F).post enc Try.prog Try.f6 false true false false) := by
  refine returnsInHanded_of_cond_sized (C := Try.checked) (s := Rows.OpenSpec.upto Rows.crcGoesOnSpec) (k := Rows.uptoSmall) rfl own started (by kernel_rfl) Try.func6
    (OpenSpec.witness (enc := enc) (C := Try.checked) (s := Rows.OpenSpec.upto Rows.crcGoesOnSpec) (k := Rows.uptoSmall) rfl false ⟨#[], #[.slice none 0 0, .slice none 0 0], []⟩ 8 (by kernel_rfl) (by kernel_rfl) (by kernel_rfl)
      (x := ([.nil, .nil], [], [])) (by kernel_rfl) rfl (by kernel_rfl)) ?_
  intro W base args ds gs before hval hW _ hk hsz _
  exact contract H enc W base args ds gs before hval hW hk hsz
theorem over : Rows.crcGoesOnUptoRow.holds Try.pinned (Rows.OpenSpec.upto Rows.crcGoesOnSpec) :=
  OpenClaim.holds_of_cond 6 Try.f6 rfl rfl rfl rfl rfl rfl rfl ⟨rfl, rfl, rfl, rfl, rfl⟩ rfl rfl rfl rfl rfl (by kernel_rfl) Try.func6 (by kernel_rfl)
    (of_decide_eq_true (by kernel_rfl)) (by unfold Func.isWrapper; first | (rw [if_pos (by decide +kernel)]; kernel_rfl) | (rw [if_neg (by decide +kernel)]; exact ⟨rfl, rfl⟩))
    (fun os started H enc _ F => lifted os started H enc F)
end Go.Proofs.Ytabkdakikfhgmaa.crcGoesOnUpto
namespace Go.Proofs.Ytabkdakikfhgmaa
theorem crcGoesOnUpto_holds : Rows.CrcGoesOnUptoSaid := crcGoesOnUpto.over
#print axioms crcGoesOnUpto_holds
end Go.Proofs.Ytabkdakikfhgmaa
