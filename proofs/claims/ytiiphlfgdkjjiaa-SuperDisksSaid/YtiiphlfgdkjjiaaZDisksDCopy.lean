/- copy onto a row of one's own, as a step of a region that draws its order; no condition. -/
import Derived.Laws.IdiomCopy
import Derived.Test.YtiiphlfgdkjjiaaZDisksQ0
import Derived.LoopTactic
import Derived.Outline
import Derived.Lib.Hide
import Derived.Test.YtiiphlfgdkjjiaaZDisksSAlive
namespace Go.Proofs.Ytiiphlfgdkjjiaa.Q
open Go.RowKit Go.Proofs.YtiiphlfgdkjjiaaW.PrintWords Go.Proofs.YtiiphlfgdkjjiaaW.PrintLast Go.Proofs.YtiiphlfgdkjjiaaW.PrintMore
set_option linter.unusedVariables false
set_option linter.unusedSimpArgs false

section
variable {P : Program} {ops : Array Oper} {Q : Exit → Act → World → Prop}
/-- What 'copy' does to a row of octets of one's own. -/
theorem copy_run {W : World} {base : Nat} {t t' ty e : TypeId} (ht : P.underlying t = some (.slice e)) (hinfo : (P.info? e).map (·.size) = some 1) {v : Value} {xs ys : List Int} {A : Option Addr} {m c : Nat} {ok : Nat → Prop}
    (HO : (Kd.int .u8).R e W base ok v xs) (HR : (Kd.int .u8).C W A m ys) :
    ∃ w1, (Builtin.copy_ #[t, t'] ty #[v, .slice A m c]).run P W = .ok (goInt ((min m xs.length : Nat) : Int)) w1 ∧ (Kd.int .u8).R e w1 base ok v (ys.take (min m xs.length) ++ xs.drop (min m xs.length)) ∧ W.grownBy w1 v.ownBlock := by
  have hR := Kd.reads_of_C (d := (0 : Int)) HR
  have hm : ys.length = m := hR.1
  have hown := Kd.own_of_R HO
  rcases Nat.eq_zero_or_pos (min m xs.length) with h0 | hp
  · obtain ⟨A', c', hv⟩ := Kd.R_slice HO
    refine ⟨W, ?_, by rw [h0, List.take_zero, List.drop_zero, List.nil_append]; exact HO, World.grownBy.refl W _⟩
    rw [h0, hv]
    exact run_copy_none W t t' ty e A' A xs.length c' m c ht hinfo h0
  · obtain ⟨ad, hA, hc⟩ := hR.2.2 (by omega)
    rcases hown.2 with ⟨_, hx0⟩ | ⟨g, cap, cur, hv, hb, hh, hnc, hcm, hcs, htake⟩
    · omega
    obtain ⟨vs, hvs⟩ : ∃ vs, vs = encs (fun x : Int => Value.int .u8 x) (ys.take (min m xs.length)) := ⟨_, rfl⟩
    have hvl : vs.length = min m xs.length := by rw [hvs, encs_length, List.length_take]; omega
    have hsrc : ∀ j u, vs[j]? = some u → W.cell? (ad.add j) = some u := by
      intro j u hu
      have hj : j < vs.length := (List.getElem?_eq_some_iff.1 hu).1
      rw [hvs, encs_get (d := (0 : Int)) _ j (by rw [List.length_take]; omega)] at hu
      rw [hc j (by omega), ← hu]
      simp only [List.getD_eq_getElem?_getD]
      rw [List.getElem?_take_of_lt (by omega)]
    have hcs1 : cur.size = cap := by omega
    have hr := run_copy_cells (P := P) W t t' ty e g 0 xs.length cap ad m c vs ht hinfo (by rw [hvl]) hsrc
      (fun j hj => by rw [cell_of_row W g _ cur e (0, 0) hh]; simp; omega) (fun j _ => blk_frozen hh _)
      (by intro u hu; rw [hvs] at hu; simp only [encs, List.mem_map] at hu; obtain ⟨q, _, rfl⟩ := hu; rfl)
    obtain ⟨cur', h3, h4, h5⟩ := setCells_row vs 0 W cur hh (by omega)
    obtain ⟨s1, s2, s3, s4⟩ := setCells_same g vs 0 W
    refine ⟨_, by rw [hv, hA, hr, hvl], Kd.R_of_own ?_ HO.1, ⟨s1, s2, s3, by rw [s4]; exact Nat.le_refl _, fun k _ hk => setCells_far _ _ k (fun he => hk (by rw [hv, he]; simp [Value.ownBlock]))⟩⟩
    have hln : (ys.take (min m xs.length) ++ xs.drop (min m xs.length)).length = xs.length := by
      rw [List.length_append, List.length_take, List.length_drop]
      omega
    rw [hln]
    refine ⟨by rw [encs_length, hln, Nat.mul_one], .inr ⟨g, cap, cur', hv, hb, h3, hnc, hcm, by rw [h4, hcs], ?_⟩⟩
    have htk : cur.toList.take xs.length = encs (fun x : Int => Value.int .u8 x) xs := by rw [← htake, Nat.mul_one]
    rw [h5, List.take_zero, List.nil_append, Nat.zero_add, encs_append, Nat.mul_one, List.take_append, hvl, List.take_of_length_le (by omega), hvs]
    congr 1
    rw [show encs (fun x : Int => Value.int .u8 x) (xs.drop (min m xs.length)) = (encs (fun x : Int => Value.int .u8 x) xs).drop (min m xs.length) from by simp [encs, List.map_drop], ← htk, List.drop_take]
/-- .. as a step. -/
theorem copy_step {oi : Oper} {N : Option Tmp} {a : Act} {W : World} {K : Act → World → Prop} {base : Nat} (hw : Region.wanted oi (yielded ops a.tmps) = true) (hN : oi.dst = N) (s x : Operand) (t t' e : TypeId)
    (ho : oi.op = .call { callee := .builtin .copy, args := #[s, x], argTypes := #[t, t'] }) (ht : P.underlying t = some (.slice e)) (hinfo : (P.info? e).map (·.size) = some 1)
    (v : Value) (xs ys : List Int) (A : Option Addr) (m c : Nat) (ok : Nat → Prop) (hs : a.eval s = v) (hx : a.eval x = .slice A m c)
    (HO : (Kd.int .u8).R e W base ok v xs) (HR : (Kd.int .u8).C W A m ys)
    (h : ∀ w1, (Kd.int .u8).R e w1 base ok v (ys.take (min m xs.length) ++ xs.drop (min m xs.length)) → W.grownBy w1 v.ownBlock → K (a.put N (.int .i64 ((min m xs.length : Nat) : Int))) w1) :
    if Region.wanted oi (yielded ops a.tmps) = true then Oper.wp P oi a W K Q else K (a.put N undef) W := by
  obtain ⟨w1, hr, h1, h2⟩ := copy_run (P := P) (t := t) (t' := t') (ty := oi.type) ht hinfo HO HR
  rw [if_pos hw]
  subst hN
  unfold Oper.wp execOp
  simp only [ho, resolve, invoke, builtin, Sem.run_bind, Sem.run_pure, Result.andThen_ok, List.map_toArray, List.map_cons, List.map_nil, hs, hx]
  rw [hr]
  exact h w1 h1 h2
end
end Go.Proofs.Ytiiphlfgdkjjiaa.Q
namespace Go.Proofs.Ytiiphlfgdkjjiaa.Q
open Go.RowKit Go.Proofs.YtiiphlfgdkjjiaaW.PrintWords Go.Proofs.YtiiphlfgdkjjiaaW.PrintLast Go.Proofs.YtiiphlfgdkjjiaaW.PrintMore
set_option linter.unusedVariables false
set_option linter.unusedSimpArgs false

def zeros64 : List Int := List.replicate 64 0
/-- The sectors on the way: k of them made. -/
def made (n k : Nat) : List (List Int) := List.replicate k zeros64 ++ List.replicate (n - k) []
end Go.Proofs.Ytiiphlfgdkjjiaa.Q
