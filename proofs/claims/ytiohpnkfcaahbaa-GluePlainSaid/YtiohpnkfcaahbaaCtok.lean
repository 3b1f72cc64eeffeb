/-
  The right to append, beside whatever else is known of the heap.
-/
import Derived.Test.YtiohpnkfcaahbaaCbase
namespace Go.Proofs.Ytiohpnkfcaahbaa
set_option linter.unusedVariables false
set_option linter.unusedSimpArgs false
open Go Go.Am

theorem sub_none {σ σ' : AHeap} (h : Sub σ σ') {id : Nat} (k : σ id = none) : σ' id = none := by
  cases e : σ' id with
  | none => rfl
  | some o => rw [h _ _ e] at k; cases k
theorem sub_del {σ σb : AHeap} {id : Nat} (h : Sub σ σb) (h1 : σb id = none) : Sub (del σ id) σb := fun j o hj => by
  have hne : j ≠ id := fun e => by subst e; rw [h1] at hj; cases hj
  rw [del_ne _ hne]; exact h _ _ hj
theorem sub_upd {σ σb : AHeap} {id : Nat} (o : AObj) (h : Sub σ σb) (h1 : σb id = none) : Sub (upd σ id o) σb := fun j x hj => by
  have hne : j ≠ id := fun e => by subst e; rw [h1] at hj; cases hj
  rw [upd_ne _ _ hne]; exact h _ _ hj
/-- A token that is there, and is not of the heap below. -/
def TokIn (σ σb : AHeap) (tk : Tok) : Prop := tk = .full ∨ ∃ t, tk = .tip t ∧ σ t = some .tip ∧ σb t = none
theorem TokIn.full (σ σb : AHeap) : TokIn σ σb .full := .inl rfl
theorem TokIn.ne {σ σb : AHeap} {tk : Tok} {id : Nat} (o : AObj) (h : TokIn σ σb tk) (k : ∀ t, tk = .tip t → id ≠ t) : TokIn (upd σ id o) σb tk := by
  rcases h with rfl | ⟨t, rfl, h1, h2⟩
  · exact .inl rfl
  · exact .inr ⟨t, rfl, by rw [upd_ne _ _ (Ne.symm (k t rfl))]; exact h1, h2⟩
theorem TokIn.ne_of {σ σb : AHeap} {tk : Tok} {id : Nat} {o : AObj} (h : TokIn σ σb tk) (k : σ id = some o) (ho : o.isTip = false) : ∀ t, tk = .tip t → id ≠ t := by
  rintro t rfl e
  subst e
  rcases h with h | ⟨t', h0, h1, h2⟩
  · cases h
  · cases h0; rw [h1] at k; cases k; cases ho
/-- Something of the heap below is set. -/
theorem TokIn.set {σ σb : AHeap} {tk : Tok} {id : Nat} {o : AObj} (x : AObj) (h : TokIn σ σb tk) (k : σ id = some o) (ho : o.isTip = false) : TokIn (upd σ id x) σb tk := h.ne x (h.ne_of k ho)
theorem TokIn.ext {σ σ' σb : AHeap} {tk : Tok} (h : TokIn σ σb tk) (k : ∀ t, σ t = some .tip → σ' t = some .tip) : TokIn σ' σb tk := by
  rcases h with rfl | ⟨t, rfl, h1, h2⟩
  · exact .inl rfl
  · exact .inr ⟨t, rfl, k t h1, h2⟩
theorem Owned.tokIn {σ σb σ' : AHeap} {tk : Tok} (hs : Sub σ σb) (h : Owned σ σ' tk) : TokIn σ' σb tk := by
  rcases h with ⟨rfl, rfl⟩ | ⟨t, h0, rfl, rfl⟩
  · exact .inl rfl
  · exact .inr ⟨t, rfl, upd_same _ _ _, sub_none hs h0⟩
theorem aapp_in {σ σb : AHeap} {s bytes : Nat} {xs ys : List AVal} {tk : Tok} {K : AVal → AHeap → Prop} (h : TokIn σ σb tk) (hs : Sub σ σb) (hl : (xs.length + ys.length) * bytes ≤ 140737488355328)
    (k : ∀ t' σ', Ext σ σ' → Sub σ' σb → TokIn σ' σb (.tip t') → K (.slice s (xs ++ ys) (.tip t')) σ') : AApp σ s bytes xs tk ys K := by
  rcases h with rfl | ⟨t, rfl, h1, h2⟩
  · refine aapp_full hl fun t ht => k t _ (Ext.upd_fresh _ ht) (sub_upd _ hs (sub_none hs ht)) (.inr ⟨t, rfl, upd_same _ _ _, sub_none hs ht⟩)
  · refine aapp_tip h1 hl fun t' ht' => ?_
    have hb : σb t' = none := sub_none hs ht'
    refine k t' _ (fun id o ho e => ?_) (sub_upd _ (sub_del hs h2) hb) (.inr ⟨t', rfl, upd_same _ _ _, hb⟩)
    have hne : id ≠ t := fun q => by subst q; rw [h1] at e; cases e; cases ho
    have e2 : del σ t id = some o := by rw [del_ne _ hne]; exact e
    rw [upd_ne]; exact e2
    intro q; subst q; rw [e] at ht'; cases ht'
end Go.Proofs.Ytiohpnkfcaahbaa

