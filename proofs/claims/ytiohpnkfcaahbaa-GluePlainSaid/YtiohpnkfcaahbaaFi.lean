/-
  An append, as the abstract values see it.
-/
import Derived.Test.YtiohpnkfcaahbaaFh
namespace Go.Am
set_option linter.unusedVariables false
set_option linter.unusedSimpArgs false
set_option linter.unusedSectionVars false
open Go.RowKit (Below)

theorem AppWay.sub {σ σ' : AHeap} {t : Tok} (h : AppWay σ t σ') : Sub σ σ' := by cases h <;> first | exact Sub.refl _ | exact Sub.del _

theorem stable_ones {κ : Ghost} {σ : AHeap} {w : World} (h : Inv κ σ w) {b off : Nat} {vs : List Value} (hc : ∀ i v, vs[i]? = some v → κ.cell b (off + i) = some v) : Ones vs := by
  intro v hv
  obtain ⟨i, hi⟩ := List.mem_iff_getElem?.1 hv
  exact (h.cell _ _ _ (hc i v hi)).2

theorem firstCells_stable {P : Program} {κ : Ghost} {σ : AHeap} {w : World} (h : Inv κ σ w) {b off len cap s : Nat} {vs : List Value} (hl : vs.length = len * s) (hc : ∀ i v, vs[i]? = some v → κ.cell b (off + i) = some v) :
    (Builtin.firstCells s len (.slice (some ⟨b, off, none⟩) len cap)).run P w = .ok vs.toArray w :=
  run_firstCells_some w s len ⟨b, off, none⟩ len cap vs hl fun j v e => by rw [addr_add]; exact (h.cell _ _ _ (hc j v e)).1

theorem Inv.app {P : Program} {κ : Ghost} {σ σ' : AHeap} {w : World} (h : Inv κ σ w) {s : Nat} {xs ys : List AVal} {tok : Tok} {base : Option Addr} {sLen sCap : Nat} {S : Sem Value} {e : TypeId} {news : List Value}
    (hx : RepV κ (.slice s xs tok) (.slice base sLen sCap)) (hys : ∀ y ∈ ys, y.cells.length = s) (hnr : RepL κ (ys.flatMap AVal.cells) news) (hno : Ones news) (hs0 : s ≠ 0)
    (hfits : sLen + ys.length ≤ sCap → S.run P w = fitRun P w base (sLen + ys.length) sCap (sLen * s) news)
    (hgrow : ¬ sLen + ys.length ≤ sCap → ∀ olds : List Value, (Builtin.firstCells s sLen (.slice base sLen sCap)).run P w.drew = .ok olds.toArray w.drew →
      ∃ cap c rest, sLen + ys.length ≤ cap ∧ S.run P w = .ok (.slice (some ⟨w.heap.size, 0, none⟩) (sLen + ys.length) cap) (w.drew.alloc (.cells c e)) ∧ c.toList = olds ++ (news ++ rest) ∧ Ones rest ∧
        (olds.length = sLen * s → cap * s ≤ c.size))
    {K : AVal → AHeap → Prop} (hway : AppWay σ tok σ') (hK : ∀ t', σ t' = none → K (.slice s (xs ++ ys) (.tip t')) (upd σ' t' .tip)) :
    ∃ v w', S.run P w = .ok v w' ∧ Post κ w' v K := by
  have hnl : news.length = ys.length * s := by rw [← hnr.length, flat_len hys]
  have hfresh := h.fresh
  obtain ⟨T, hT⟩ := hfresh
  have hT' : σ' T = none := by
    cases hway with
    | full => exact hT.1
    | tip k => simp only [del]; split <;> first | rfl | exact hT.1
  -- a new row
  have grow : ∀ (vs : List Value), RepL κ (xs.flatMap AVal.cells) vs → Ones vs → (∀ x ∈ xs, x.cells.length = s) → xs.length = sLen → vs.length = sLen * s →
      (Builtin.firstCells s sLen (.slice base sLen sCap)).run P w.drew = .ok vs.toArray w.drew → ¬ sLen + ys.length ≤ sCap → ∃ v w', S.run P w = .ok v w' ∧ Post κ w' v K := by
    intro vs hr ho hxc hxl hvl hf hn
    obtain ⟨cap, c, rest, g1, g2, g3, g4, g5⟩ := hgrow hn vs hf
    obtain ⟨κ', q1, q2, q3⟩ := h.drew.newSlice (c := c) (e := e) (s := s) (cap := cap) (xs := xs ++ ys) (vs := vs ++ news) (us := rest)
      (fun x hx => (List.mem_append.1 hx).elim (hxc x) (hys x)) (by rw [List.flatMap_append]; exact hr.append hnr) (by rw [g3, List.append_assoc]) (by rw [g3]; exact ho.append (hno.append g4))
      (by simp; omega) (g5 hvl) (t := T) hT
    refine ⟨_, _, g2, κ', upd σ' T .tip, _, q1, q2.sub (hway.sub.upd _ _), ?_, hK T hT.1⟩
    have : (xs ++ ys).length = sLen + ys.length := by simp [hxl]
    rw [this] at q3
    exact q3
  cases hx with
  | nil =>
    by_cases hn : ys.length = 0
    · have hy : ys = [] := List.eq_nil_of_length_eq_zero hn
      subst hy
      have hnn : news = [] := List.eq_nil_of_length_eq_zero (by rw [hnl]; simp)
      subst hnn
      refine ⟨_, _, (hfits (by simp)).trans (fitRun_none ..), κ, upd σ' T .tip, _, Ghost.le.refl κ, (h.addTip hT).sub (hway.sub.upd _ _), ?_, hK T hT.1⟩
      exact .nil
    · refine grow [] .nil (by intro v hv; cases hv) (by simp) rfl (by simp) ?_ (by omega)
      exact firstCells_zero ..
  | slice h1 h2 h3 h4 h5 h6 =>
    rename_i b off vs
    have hvl : vs.length = sLen * s := by rw [← h4.length, flat_len h3, h1]
    by_cases hn : sLen + ys.length ≤ sCap
    · have hrun := hfits hn
      simp only [fitRun] at hrun
      rw [addr_add] at hrun
      by_cases hy0 : ys.length = 0
      · -- nothing is put
        have hy : ys = [] := List.eq_nil_of_length_eq_zero hy0
        subst hy
        have hnn : news = [] := List.eq_nil_of_length_eq_zero (by rw [hnl]; simp)
        subst hnn
        have hrun' : S.run P w = .ok (.slice (some ⟨b, off, none⟩) sLen sCap) w := by rw [hrun]; rfl
        cases hway with
        | full =>
          refine ⟨_, _, hrun', κ, upd σ T .tip, _, Ghost.le.refl κ, h.addTip hT, ?_, hK T hT.1⟩
          rw [List.append_nil]
          exact .slice h1 h2 h3 h4 h5 (.inl h6)
        | tip k =>
          rename_i t0
          rcases h6 with h6 | ⟨h6, n, h7, h8⟩
          · refine ⟨_, _, hrun', κ, upd (del σ t0) T .tip, _, Ghost.le.refl κ, (h.addTip hT).sub ((Sub.del t0).upd _ _), ?_, hK T hT.1⟩
            rw [List.append_nil]
            exact .slice h1 h2 h3 h4 h5 (.inl h6)
          · obtain ⟨g1, ⟨c, e', g2, g3⟩, g4⟩ := h.tip t0 _ _ k h6
            obtain ⟨κ', q1, q2, q3, q4⟩ := h.growTip (m := 0) k h6 g2 rfl (fun _ _ => rfl) g3 hT
            rw [setBlock_get g2] at q2
            refine ⟨_, _, hrun', κ', upd (del σ t0) T .tip, _, q1, q2, ?_, hK T hT.1⟩
            rw [List.append_nil]
            exact .slice h1 h2 h3 (h4.mono q1) (fun i v e => q1.cell _ _ _ (h5 i v e)) (.inr ⟨q4, n, q1.size _ _ h7, h8⟩)
      · cases hway with
        | full => simp only [TokOk] at h6; omega
        | tip k =>
          rename_i t0
          rcases h6 with h6 | ⟨h6, n, h7, h8⟩
          · omega
          · obtain ⟨g1, ⟨c, e', g2, g3⟩, g4⟩ := h.tip t0 _ _ k h6
            obtain ⟨c2, e2, f2, z1, z2⟩ := h.size _ _ h7
            rw [g2] at z1; cases z1
            have hfit : off + sLen * s + news.length ≤ c.size := by
              have : (sLen + ys.length) * s ≤ sCap * s := Nat.mul_le_mul_right s hn
              rw [Nat.add_mul] at this; omega
            obtain ⟨c', r1, r2⟩ := storeCells_run (P := P) news (off + sLen * s) 0 w c g2 (by omega) hno
            rw [Nat.add_zero] at r2
            have hsz : c'.size = c.size := by
              have := congrArg List.length r2
              rw [splice_length _ _ _ (by simpa using hfit)] at this
              simpa using this
            have hget : ∀ j, c'[j]? = (splice c.toList (off + sLen * s) news)[j]? := fun j => by rw [← r2, Array.getElem?_toList]
            obtain ⟨κ', q1, q2, q3, q4⟩ := h.growTip (m := ys.length * s) (c' := c') k h6 g2 hsz (fun j hj => by
              rw [hget, splice, List.append_assoc, List.getElem?_append_left (by simp; omega), List.getElem?_take_of_lt hj, Array.getElem?_toList]) (by rw [r2]; exact g3.splice hno _) hT
            refine ⟨_, _, by rw [hrun, r1]; rfl, κ', upd (del σ t0) T .tip, _, q1, q2, ?_, hK T hT.1⟩
            refine .slice (by simp [h1]) hn (fun x hx => (List.mem_append.1 hx).elim (h3 x) (hys x)) (by rw [List.flatMap_append]; exact (h4.append hnr).mono q1) (fun j v e => ?_) (.inr ⟨?_, n, q1.size _ _ h7, h8⟩)
            · by_cases hj : j < vs.length
              · rw [List.getElem?_append_left hj] at e
                exact q1.cell _ _ _ (h5 j v e)
              · rw [List.getElem?_append_right (by omega)] at e
                have hjn : j - vs.length < news.length := (List.getElem?_eq_some_iff.1 e).1
                have := q3 (j - vs.length) v (by omega) (by
                  rw [hget, splice, List.append_assoc, List.getElem?_append_right (by simp; omega)]
                  have hlt : (List.take (off + sLen * s) c.toList).length = off + sLen * s := by simp; omega
                  rw [hlt, Nat.add_sub_cancel_left, List.getElem?_append_left hjn]; exact e)
                rw [hvl] at this
                have e2 : off + sLen * s + (j - sLen * s) = off + j := by omega
                rw [e2] at this; exact this
            · rw [q4]; congr 2; simp [Nat.add_mul, h1, Nat.add_assoc]
    · exact grow vs h4 (stable_ones h h5) h3 h1 hvl (firstCells_stable h.drew hvl h5) hn
theorem Inv.appNone {P : Program} {κ : Ghost} {σ : AHeap} {w : World} (h : Inv κ σ w) {s : Nat} {xs : List AVal} {tok : Tok} {base : Option Addr} {sLen sCap : Nat} {S : Sem Value}
    (hx : RepV κ (.slice s xs tok) (.slice base sLen sCap)) (hfits : sLen + 0 ≤ sCap → S.run P w = fitRun P w base (sLen + 0) sCap (sLen * s) []) {K : AVal → AHeap → Prop} (hK : K (.slice s xs tok) σ) :
    ∃ v w', S.run P w = .ok v w' ∧ Post κ w' v K := by
  cases hx with
  | nil => exact ⟨_, _, (hfits (by simp)).trans (fitRun_none ..), κ, σ, _, Ghost.le.refl κ, h, .nil, hK⟩
  | slice h1 h2 h3 h4 h5 h6 =>
    have hrun := hfits h2
    simp only [fitRun] at hrun
    rw [addr_add] at hrun
    exact ⟨_, _, hrun, κ, σ, _, Ghost.le.refl κ, h, .slice h1 h2 h3 h4 h5 h6, hK⟩
end Go.Am

