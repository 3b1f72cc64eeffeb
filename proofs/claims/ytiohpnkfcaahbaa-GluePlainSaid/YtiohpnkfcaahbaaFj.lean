/-
  Appends that make, or lengthen, a row that is an object (it may be stored into).
-/
import Derived.Test.YtiohpnkfcaahbaaFi
namespace Go.Am
set_option linter.unusedVariables false
set_option linter.unusedSimpArgs false
set_option linter.unusedSectionVars false
open Go.RowKit (Below)

theorem firstCells_obj {P : Program} {w : World} {b len cap s : Nat} {vs : List Value} (hl : vs.length = len * s) (hc : ∀ j v, vs[j]? = some v → w.cell? ⟨b, 0 + j, none⟩ = some v) :
    (Builtin.firstCells s len (.slice (some ⟨b, 0, none⟩) len cap)).run P w = .ok vs.toArray w :=
  run_firstCells_some w s len ⟨b, 0, none⟩ len cap vs hl fun j v e => by rw [addr_add]; exact hc j v e

theorem Inv.appNew {P : Program} {κ : Ghost} {σ : AHeap} {w : World} (h : Inv κ σ w) {s : Nat} {ys : List AVal} {base : Option Addr} {sLen sCap : Nat} {S : Sem Value} {e : TypeId} {news : List Value}
    (hx : RepV κ (.slice s [] .full) (.slice base sLen sCap)) (hys : ∀ y ∈ ys, y.cells.length = s) (hnr : RepL κ (ys.flatMap AVal.cells) news) (hno : Ones news)
    (hgrow : ¬ sLen + ys.length ≤ sCap → ∀ olds : List Value, (Builtin.firstCells s sLen (.slice base sLen sCap)).run P w.drew = .ok olds.toArray w.drew →
      ∃ cap c rest, sLen + ys.length ≤ cap ∧ S.run P w = .ok (.slice (some ⟨w.heap.size, 0, none⟩) (sLen + ys.length) cap) (w.drew.alloc (.cells c e)) ∧ c.toList = olds ++ (news ++ rest) ∧ Ones rest ∧
        (olds.length = sLen * s → cap * s ≤ c.size))
    {K : AVal → AHeap → Prop} (hy : ys ≠ []) (hK : ∀ r, σ r = none → K (.ms r s 0 ys.length) (upd σ r (.cells (ys.flatMap AVal.cells)))) :
    ∃ v w', S.run P w = .ok v w' ∧ Post κ w' v K := by
  obtain ⟨T, hT⟩ := h.fresh
  have hyl : ys.length ≠ 0 := fun e => hy (List.eq_nil_of_length_eq_zero e)
  have key : sLen = 0 → sCap = 0 → (Builtin.firstCells s sLen (.slice base sLen sCap)).run P w.drew = .ok ([] : List Value).toArray w.drew → ∃ v w', S.run P w = .ok v w' ∧ Post κ w' v K := by
    intro h0 h1 hf
    obtain ⟨cap, c, rest, g1, g2, g3, g4, g5⟩ := hgrow (by omega) [] hf
    obtain ⟨κ', q1, q2, q3, q4⟩ := h.drew.allocObj (c := c) (e := e) (by simpa using g3) hnr hno g4 hT
    refine ⟨_, _, g2, κ', _, _, q1, q2, ?_, hK T hT.1⟩
    have hg5 := g5 (by simp [h0])
    rw [show sLen + ys.length = ys.length by omega]
    exact .ms q3 q4 (by omega) (by omega)
  cases hx with
  | nil => exact key rfl rfl (firstCells_zero ..)
  | slice h1 h2 h3 h4 h5 h6 =>
    have h0 : sLen = 0 := by simpa using h1.symm
    subst h0
    have : sCap = 0 := by simpa [TokOk] using h6
    exact key rfl this (by simp [Builtin.firstCells, loadCells, loadCellsFrom])

theorem Inv.appM {P : Program} {κ : Ghost} {σ : AHeap} {w : World} (h : Inv κ σ w) {r s len : Nat} {cs ys : List AVal} {base : Option Addr} {sLen sCap : Nat} {S : Sem Value} {e : TypeId} {news : List Value}
    (hx : RepV κ (.ms r s 0 len) (.slice base sLen sCap)) (hs : σ r = some (.cells cs)) (hcs : len * s = cs.length) (hys : ∀ y ∈ ys, y.cells.length = s) (hnr : RepL κ (ys.flatMap AVal.cells) news) (hno : Ones news)
    (hfits : sLen + ys.length ≤ sCap → S.run P w = fitRun P w base (sLen + ys.length) sCap (sLen * s) news)
    (hgrow : ¬ sLen + ys.length ≤ sCap → ∀ olds : List Value, (Builtin.firstCells s sLen (.slice base sLen sCap)).run P w.drew = .ok olds.toArray w.drew →
      ∃ cap c rest, sLen + ys.length ≤ cap ∧ S.run P w = .ok (.slice (some ⟨w.heap.size, 0, none⟩) (sLen + ys.length) cap) (w.drew.alloc (.cells c e)) ∧ c.toList = olds ++ (news ++ rest) ∧ Ones rest ∧
        (olds.length = sLen * s → cap * s ≤ c.size))
    {K : AVal → AHeap → Prop} (hK : ∀ r', σ r' = none → K (.ms r' s 0 (len + ys.length)) (upd (del σ r) r' (.cells (cs ++ ys.flatMap AVal.cells)))) :
    ∃ v w', S.run P w = .ok v w' ∧ Post κ w' v K := by
  obtain ⟨T, hT⟩ := h.fresh
  have hnl : news.length = ys.length * s := by rw [← hnr.length, flat_len hys]
  cases hx with
  | ms h1 h2 h3 h4 =>
  rename_i b n
  obtain ⟨c, e1, vs, us, k1, k2, k3, k4, k5, k6, k7⟩ := h.objCells hs h1
  rw [h2] at k2; cases k2
  have hvl : vs.length = len * s := by rw [← k4.length, hcs]
  have hcl : c.size = vs.length + us.length := by have := congrArg List.length k3; simpa using this
  by_cases hn : len + ys.length ≤ sCap
  · have hrun := hfits hn
    simp only [fitRun] at hrun
    rw [addr_add] at hrun
    have hfit : 0 + len * s + news.length ≤ c.size := by
      have : (len + ys.length) * s ≤ sCap * s := Nat.mul_le_mul_right s hn
      rw [Nat.add_mul] at this; omega
    obtain ⟨c', r1, r2⟩ := storeCells_run (P := P) news (0 + len * s) 0 w c k1 (by omega) hno
    rw [Nat.add_zero] at r2
    have hsz : c'.size = c.size := by
      have := congrArg List.length r2
      rw [splice_length _ _ _ (by simpa using hfit)] at this
      simpa using this
    have hT2 : c'.toList = (vs ++ news) ++ us.drop news.length := by
      rw [r2, k3, splice, Nat.zero_add, ← hvl, List.take_left, List.drop_append, List.drop_of_length_le (by omega)]
      simp
    have hI := h.setObj (vs := vs ++ news) (us := us.drop news.length) (cs' := cs ++ ys.flatMap AVal.cells) hs h1 k1 hsz hT2 (k4.append hnr) (k5.append hno) (k6.drop _)
    have hTr : T ≠ r := fun e => by subst e; rw [hs] at hT; cases hT.1
    obtain ⟨κ', q1, q2, q3⟩ := hI.rename (r := r) (r' := T) (upd_same _ _ _) h1 ⟨by rw [upd_ne _ _ hTr]; exact hT.1, hT.2⟩
    have hdel : del (upd σ r (.cells (cs ++ ys.flatMap AVal.cells))) r = del σ r := by funext i; simp only [del, upd]; split <;> rfl
    rw [hdel] at q2
    exact ⟨_, _, by rw [hrun, r1]; rfl, κ', _, _, q1, q2, .ms q3 (q1.size _ _ h2) hn h4, hK T hT.1⟩
  · obtain ⟨cap, c', rest, g1, g2, g3, g4, g5⟩ := hgrow hn vs (firstCells_obj (w := w.drew) hvl k7)
    obtain ⟨κ', q1, q2, q3, q4⟩ := h.drew.allocObj (c := c') (e := e) (cs := cs ++ ys.flatMap AVal.cells) (vs := vs ++ news) (us := rest) (by rw [g3, List.append_assoc]) (k4.append hnr) (k5.append hno) g4 hT
    refine ⟨_, _, g2, κ', _, _, q1, q2.sub ((Sub.del r).upd _ _), .ms q3 q4 g1 (by have := g5 hvl; omega), hK T hT.1⟩
end Go.Am

