/- Appending to a row that is cut at its own length (xs[:k:k]): it always moves, and what it held stays its own; no condition but the size. -/
import Derived.Test.YteplhacanofeoaaWApart
import Derived.Deep.RegionLawGrows
namespace Go.Proofs.Yteplhacanofeoaa.Q
open Go.RowKit Go.Proofs.YteplhacanofeoaaW.PrintWords Go.Proofs.YteplhacanofeoaaW.PrintLast

section
variable {P : Program} {ops : Array Oper} {o : Oper} {a : Act} {Q : Exit → Act → World → Prop} {Kc : Act → World → Prop} {α : Type}
theorem R_append_full_step (d : Kd α) {w0 W : World} {E : Prop} (base : Nat) (hgd : o.guard = none) (s x : Operand) (t e : TypeId) (z : Value) (bytes : Nat)
    (ho : o.op = .call { callee := .builtin .append, args := #[s, x], argTypes := #[t, t] })
    (ht : P.underlying t = some (.slice e)) (hinfo : (P.info? e).map (fun i => (i.zero, i.size, i.bytes)) = some (some z, d.sz, bytes)) (hz : z.cells.size = d.sz) (hs0 : 0 < d.sz) (hb0 : 0 < bytes)
    (ad : Addr) (cc : Nat) (xs : List α) (p : α) (cs : List Value) (ok okp : Nat → Prop) (hs : a.eval s = .slice (some ad) xs.length xs.length) (hx : a.eval x = .slice (some ⟨W.heap.size, 0, none⟩) 1 1) (hp : d.M W base okp p cs) (hokp : ∀ k, okp k → ok k ∧ some k ≠ (Value.slice (some ad) xs.length cc).ownBlock) (hfresh : ∀ k, W.heap.size ≤ k → ok k)
    (HO : d.R e W base ok (.slice (some ad) xs.length cc) xs) (HB : Below base w0 W) (hbase : base ≤ W.heap.size) (hl : (xs.length + 1) * bytes ≤ 140737488355328)
    (h : ∀ v1 w1, d.R e w1 base ok v1 (xs ++ [p]) → Below base w0 w1 → W.grownBy w1 none → Kc (a.put o.dst v1) w1) :
    if Region.wanted o (yielded ops a.tmps) = true then Oper.wp P o a (W.alloc (.cells cs.toArray e)) Kc Q else E := by
  obtain ⟨i0, hi, hzz⟩ := Option.map_eq_some_iff.1 hinfo
  simp only [Prod.mk.injEq] at hzz
  obtain ⟨hz0, hz1, hz2⟩ := hzz
  obtain ⟨h0, inner, hown, hr⟩ := HO
  have hlen : xs.length + 1 ≤ 140737488355328 := Nat.le_trans (Nat.le_mul_of_pos_right _ hb0) hl
  have hcl := d.K_len (d.K_of_M hp)
  have hal : Below W.heap.size W (W.alloc (.cells cs.toArray e)) := below_alloc (Below.refl _ _) _
  refine step_append_grows hgd s x t ho e i0 z d.sz bytes ht hi hz0 hz1 hz2 hz hs0 (some ad) xs.length xs.length inner hs (by simp) hown.1 ?_ ⟨W.heap.size, 0, none⟩ 1 1 cs hx (by rw [hcl, Nat.one_mul]) ?_ (d.K_one (d.K_of_M hp)) (by omega) (by simp only [maxLen]; omega) hl ?_
  · intro b hb j u hj
    injection hb with hb
    subst hb
    rcases hown.2 with ⟨he, _⟩ | ⟨g, cap, cur, he, hg, hh, hnc, hcm, hcs, htk⟩
    · cases he
    · injection he with he _ _
      injection he with he
      subst he
      have hh2 := blk_alloc hh (.cells cs.toArray e)
      rw [Addr.add_lit, Nat.zero_add, blk_cell hh2 j]
      rw [← htk, List.getElem?_take] at hj
      split at hj
      · simpa using hj
      · cases hj
  · intro j u hj
    rw [Addr.add_lit, Nat.zero_add, blk_cell (blk_new W _) j]
    simpa using hj
  · intro v1 w1 hown1 hg1
    have hg2 : W.grownBy w1 none := ⟨hg1.os.trans hal.os, hg1.tape.trans hal.tape, hg1.output.trans hal.output, Nat.le_trans hal.size hg1.size, fun k hk hn => (hg1.block k (Nat.lt_of_lt_of_le hk hal.size) hn).trans (hal.block k hk)⟩
    have hb1 : Below base w0 w1 := HB.trans ⟨hg2.os, hg2.tape, hg2.output, hg2.size, fun k hk => hg2.block k (Nat.lt_of_lt_of_le hk hbase) (by simp)⟩
    have hat : ∃ b, v1.ownBlock = some b ∧ W.heap.size ≤ b := by
      rcases hown1.2 with ⟨_, hn⟩ | ⟨g, cap, cur, rfl, hg, _⟩
      · omega
      · exact ⟨g, rfl, Nat.le_trans hal.size hg⟩
    have hown2 : w1.ownsRow base e d.sz v1 (xs.length + 1) (inner ++ cs) := own_weaken hown1 (Nat.le_trans hbase hal.size)
    refine h v1 w1 ?_ hb1 hg2
    have hg3 : W.grownBy w1 (Value.slice (some ad) xs.length cc).ownBlock := ⟨hg2.os, hg2.tape, hg2.output, hg2.size, fun k hk _ => hg2.block k hk (by simp)⟩
    exact Kd.R_appended h0 hr hp hokp hfresh hown2 hg3 (.inr hat)
theorem S_append_full_step (d : Kd α) {w0 W : World} {E : Prop} (base : Nat) (hgd : o.guard = none) (s x : Operand) (t e : TypeId) (z : Value) (bytes : Nat)
    (ho : o.op = .call { callee := .builtin .append, args := #[s, x], argTypes := #[t, t] })
    (ht : P.underlying t = some (.slice e)) (hinfo : (P.info? e).map (fun i => (i.zero, i.size, i.bytes)) = some (some z, d.sz, bytes)) (hz : z.cells.size = d.sz) (hs0 : 0 < d.sz) (hb0 : 0 < bytes)
    (ad : Addr) (cc : Nat) (xs : List α) (p : α) (cs : List Value) (ok okp : Nat → Prop) (hs : a.eval s = .slice (some ad) xs.length xs.length) (hx : a.eval x = .slice (some ⟨W.heap.size, 0, none⟩) 1 1) (hp : d.M W base okp p cs) (hokp : ∀ k, okp k → ok k ∧ some k ≠ (Value.slice (some ad) xs.length cc).ownBlock) (hfresh : ∀ k, W.heap.size ≤ k → ok k)
    (HO : Kd.S d e W base (fun k => ok k ∧ ¬ okp k) (.slice (some ad) xs.length cc) xs) (HB : Below base w0 W) (hbase : base ≤ W.heap.size) (hl : (xs.length + 1) * bytes ≤ 140737488355328)
    (h : ∀ v1 w1, Kd.S d e w1 base ok v1 (xs ++ [p]) → Below base w0 w1 → W.grownBy w1 none → Kc (a.put o.dst v1) w1) :
    if Region.wanted o (yielded ops a.tmps) = true then Oper.wp P o a (W.alloc (.cells cs.toArray e)) Kc Q else E := by
  obtain ⟨f, hf, hR⟩ := Kd.S_tag HO xs.length okp (fun _ hk h2 => h2.2 hk)
  refine R_append_full_step (Kd.tag f d) base hgd s x t e z bytes ho ht hinfo hz hs0 hb0 ad cc xs.zipIdx (p, xs.length) cs ok okp (by rw [List.length_zipIdx]; exact hs) hx (d.M_mono (fun k hk => ⟨hk, hf k hk⟩) hp) (by rw [List.length_zipIdx]; exact hokp) hfresh (by rw [List.length_zipIdx]; exact Kd.R_mono hR (fun _ hk => hk.1)) HB hbase (by rw [List.length_zipIdx]; exact hl) ?_
  intro v1 w1 hr
  rw [← Kd.zip_snoc] at hr
  exact h v1 w1 ⟨f, hr⟩
/-- Either: the row as it was made, or cut at its own length. -/
theorem S_append_any_step (d : Kd α) {w0 W : World} (base : Nat) (hgd : o.guard = none) (hw : Region.wanted o (yielded ops a.tmps) = true) (s x : Operand) (t e : TypeId) (z : Value) (bytes : Nat)
    (ho : o.op = .call { callee := .builtin .append, args := #[s, x], argTypes := #[t, t] })
    (ht : P.underlying t = some (.slice e)) (hinfo : (P.info? e).map (fun i => (i.zero, i.size, i.bytes)) = some (some z, d.sz, bytes)) (hz : z.cells.size = d.sz) (hs0 : 0 < d.sz) (hb0 : 0 < bytes)
    (A : Option Addr) (c' cc : Nat) (xs : List α) (p : α) (cs : List Value) (ok okp : Nat → Prop) (hs : a.eval s = .slice A xs.length c') (hx : a.eval x = .slice (some ⟨W.heap.size, 0, none⟩) 1 1) (hcc : c' = cc ∨ (c' = xs.length ∧ ∃ ad, A = some ad)) (hp : d.M W base okp p cs) (hokp : ∀ k, okp k → ok k ∧ some k ≠ (Value.slice A xs.length cc).ownBlock) (hfresh : ∀ k, W.heap.size ≤ k → ok k)
    (HO : Kd.S d e W base (fun k => ok k ∧ ¬ okp k) (.slice A xs.length cc) xs) (HB : Below base w0 W) (hbase : base ≤ W.heap.size) (hl : (xs.length + 1) * bytes ≤ 140737488355328)
    (h : ∀ v1 w1, Kd.S d e w1 base ok v1 (xs ++ [p]) → Below base w0 w1 → W.grownBy w1 (Value.slice A xs.length cc).ownBlock → Kc (a.put o.dst v1) w1) :
    if Region.wanted o (yielded ops a.tmps) = true then Oper.wp P o a (W.alloc (.cells cs.toArray e)) Kc Q else Kc (a.put o.dst undef) (W.alloc (.cells cs.toArray e)) := by
  rcases hcc with rfl | ⟨rfl, ad, rfl⟩
  · exact Kd.S_append_step d base hw s x t e z bytes ho ht hinfo hz hs0 hb0 _ xs p cs ok okp hs hx hp hokp hfresh HO HB hbase hl (fun v1 w1 h1 h2 h3 _ => h v1 w1 h1 h2 h3)
  · exact S_append_full_step d base hgd s x t e z bytes ho ht hinfo hz hs0 hb0 ad cc xs p cs ok okp hs hx hp hokp hfresh HO HB hbase hl (fun v1 w1 h1 h2 h3 => h v1 w1 h1 h2 ⟨h3.os, h3.tape, h3.output, h3.size, fun k hk _ => h3.block k hk (by simp)⟩)
end
end Go.Proofs.Yteplhacanofeoaa.Q
