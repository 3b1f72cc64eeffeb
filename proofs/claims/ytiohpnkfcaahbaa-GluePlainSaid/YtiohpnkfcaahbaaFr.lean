/-
  Regions that draw their order.
-/
import Derived.Test.YtiohpnkfcaahbaaFq
namespace Go.Am
set_option linter.unusedVariables false
set_option linter.unusedSimpArgs false
set_option linter.unusedSectionVars false
open Go.RowKit (Below)

theorem binE_mono {tb : Bool} {op : BinOp} {x y : Value} {K K' : Value → Prop} (h : binE tb op x y K) (hk : ∀ r, K r → K' r) : binE tb op x y K' := by
  obtain ⟨r, h1, h2⟩ := binE_det h; exact h2 _ (hk _ h1)

theorem Ext.refl (σ : AHeap) : Ext σ σ := fun _ _ _ h => h
theorem Ext.trans {a b c : AHeap} (h : Ext a b) (k : Ext b c) : Ext a c := fun i o ho e => k i o ho (h i o ho e)
theorem Ext.upd_fresh {σ : AHeap} {id : Nat} (o : AObj) (h : σ id = none) : Ext σ (upd σ id o) := fun i o' _ e => by
  rw [upd_ne]; exact e
  intro k; subst k; rw [h] at e; cases e

/-- More may be asked of what comes, if it holds whatever comes; and of operations that turn no object, that none is turned. -/
theorem ev_mono {P : Program} {op : IOp} {env : Env} {σ : AHeap} {K K' : AVal → AHeap → Prop} (h : op.ev P env σ K) (hk : ∀ x σ', K x σ' → K' x σ') : op.ev P env σ K' := by
  by_cases hc : op.cls ≤ 1
  · obtain ⟨x, h1, h2⟩ := ev_det hc h
    exact h2 σ K' (.inr (Ext.refl σ)) (hk _ _ h1)
  · have calls : ∀ {g : FuncId} {l : List AVal} {Q Q' : AVal → AHeap → Prop}, ACalls P g l σ Q → (∀ x σ', Q x σ' → Q' x σ') → ACalls P g l σ Q' := by
      intro g l Q Q' h hq
      rw [ACalls_def] at h ⊢
      intro κ w cargs h1 h2
      refine (h κ w cargs h1 h2).mono ?_
      rintro e w' ⟨v, κ', σ', x, h3, h4, h5, h6, h7⟩
      exact ⟨v, κ', σ', x, h3, h4, h5, h6, hq _ _ h7⟩
    have elems : ∀ {s : Nat} {y : AVal} {k k' : List AVal → Prop}, elemsK σ s y k → (∀ l, k l → k' l) → elemsK σ s y k' := by
      intro s y k k' h hkk
      unfold elemsK at h ⊢
      split at h
      · obtain ⟨hb, hh⟩ := bifTrue h; rw [hb]; exact hkk _ hh
      · obtain ⟨hb, hh⟩ := bifTrue h; rw [hb]; exact hkk _ hh
      · obtain ⟨hb, hh⟩ := bifTrue h; rw [hb]; simp only [cond_true, AView_def] at hh ⊢; obtain ⟨cs, h1, h2, h3⟩ := hh; exact ⟨cs, h1, h2, hkk _ h3⟩
      · exact h.elim
    have app : ∀ {s bytes : Nat} {xs : List AVal} {t : Tok} {ys : List AVal}, AApp σ s bytes xs t ys K → AApp σ s bytes xs t ys K' := by
      intro s bytes xs t ys h; rw [AApp_def] at h ⊢; obtain ⟨σ', h1, h2, h3⟩ := h; exact ⟨σ', h1, h2, fun t' ht => hk _ _ (h3 t' ht)⟩
    have appN : ∀ {s bytes : Nat} {xs : List AVal} {t : Tok} {ys : List AVal}, AAppNew σ s bytes xs t ys K → AAppNew σ s bytes xs t ys K' := by
      intro s bytes xs t ys h; rw [AAppNew_def] at h ⊢; exact h.imp (fun ⟨h1, h2, h3⟩ => ⟨h1, h2, hk _ _ h3⟩) (fun h => h.imp (fun ⟨h1, h2, h3, h4, h5, h6⟩ => ⟨h1, h2, h3, h4, h5, fun t' ht => hk _ _ (h6 t' ht)⟩) app)
    have appM : ∀ {r s off len bytes : Nat} {ys : List AVal}, AAppM σ r s off len bytes ys K → AAppM σ r s off len bytes ys K' := by
      intro r s off len bytes ys h; rw [AAppM_def] at h ⊢; obtain ⟨h1, h2, h3, cs, h4, h5, h6⟩ := h; exact ⟨h1, h2, h3, cs, h4, h5, fun t' ht => hk _ _ (h6 t' ht)⟩
    cases op <;> simp only [IOp.cls] at hc <;> (try omega) <;> simp only [IOp.ev, Opd.getK_eq, getLK_eq] at h ⊢
    case eqNil =>
      split at h
      · simp only [ANil_def] at h ⊢; exact ⟨hk _ _ h.1, fun e => hk _ _ (h.2 e)⟩
      all_goals first | exact hk _ _ h | exact h.elim
    case new => simp only [ANew_def] at h ⊢; exact ⟨h.1, fun id hid => hk _ _ (h.2 id hid)⟩
    case box => obtain ⟨hb, hh⟩ := bifTrue h; rw [hb]; simp only [cond_true, ANew_def] at hh ⊢; exact ⟨hh.1, fun id hid => hk _ _ (hh.2 id hid)⟩
    case store =>
      split at h
      · obtain ⟨hb, hh⟩ := bifTrue h; rw [hb]; simp only [cond_true, AStore_def] at hh ⊢; obtain ⟨cs, h1, h2, h3, h4⟩ := hh; exact ⟨cs, h1, h2, h3, hk _ _ h4⟩
      · exact h.elim
    case rowT => obtain ⟨hb, hh⟩ := bifTrue h; rw [hb]; simp only [cond_true, ARowT_def] at hh ⊢; exact fun t ht => hk _ _ (hh t ht)
    case mark =>
      split at h
      · simp only [AMark_def] at h ⊢; obtain ⟨h0, t0, h1, h2, h3⟩ := h; exact ⟨h0, t0, h1, h2, hk _ _ h3⟩
      · exact h.elim
    case mkmap => simp only [ANewMap_def] at h ⊢; exact fun id hid => hk _ _ (h id hid)
    case mset =>
      split at h
      · simp only [AMset_def] at h ⊢; obtain ⟨es, h1, h2, h3⟩ := h; exact ⟨es, h1, h2, hk _ _ h3⟩
      · exact h.elim
    case mdel =>
      split at h
      · simp only [AMdel_def] at h ⊢; obtain ⟨es, h1, h3⟩ := h; exact ⟨es, h1, hk _ _ h3⟩
      · exact h.elim
    case call => exact calls h hk
    case callq => exact calls h fun x σ' q => ⟨hk _ _ q.1, q.2⟩
    case callv =>
      split at h
      · exact ⟨h.1, calls h.2 hk⟩
      · exact h.elim
    case app =>
      split at h
      · obtain ⟨hb, hh⟩ := bifTrue h; rw [hb]; exact elems hh fun l q => app q
      · exact h.elim
    case appm =>
      split at h
      · obtain ⟨hb, hh⟩ := bifTrue h; rw [hb]; exact elems hh fun l q => appN q
      · obtain ⟨hb, hh⟩ := bifTrue h; rw [hb]; exact elems hh fun l q => appM q
      · exact h.elim
    case app0 =>
      split at h
      · obtain ⟨hb, hh⟩ := bifTrue h; rw [hb]; exact ⟨hh.1, hh.2.1, hh.2.2.1, hh.2.2.2.imp app appN⟩
      · obtain ⟨hb, hh⟩ := bifTrue h; rw [hb]; exact ⟨hh.1, hh.2.1, hh.2.2.1, appM hh.2.2.2⟩
      · exact h.elim

theorem AppWay.ext {σ σ' : AHeap} {t : Tok} (h : AppWay σ t σ') : ∀ id o, o.isTip = false → σ id = some o → σ' id = some o := by
  cases h with
  | full => exact fun _ _ _ e => e
  | tip k =>
    intro id o ho e
    rw [del_ne]; exact e
    intro q; subst q; rw [k] at e; cases e; cases ho

theorem ev_quiet {P : Program} {op : IOp} {env : Env} {σ : AHeap} {K : AVal → AHeap → Prop} (hc : op.cls ≤ 2) (h : op.ev P env σ K) : op.ev P env σ fun x σ' => K x σ' ∧ Ext σ σ' := by
  by_cases hc1 : op.cls ≤ 1
  · obtain ⟨x, h1, h2⟩ := ev_det hc1 h
    exact h2 σ _ (.inr (Ext.refl σ)) ⟨h1, Ext.refl σ⟩
  · cases op <;> simp only [IOp.cls] at hc hc1 <;> (try omega) <;> simp only [IOp.ev, Opd.getK_eq, getLK_eq] at h ⊢
    case eqNil =>
      split at h
      · simp only [ANil_def] at h ⊢; exact ⟨⟨h.1, Ext.refl σ⟩, fun e => ⟨h.2 e, Ext.refl σ⟩⟩
      all_goals first | exact ⟨h, Ext.refl σ⟩ | exact h.elim
    case new => simp only [ANew_def] at h ⊢; exact ⟨h.1, fun id hid => ⟨h.2 id hid, Ext.upd_fresh _ hid⟩⟩
    case box => obtain ⟨hb, hh⟩ := bifTrue h; rw [hb]; simp only [cond_true, ANew_def] at hh ⊢; exact ⟨hh.1, fun id hid => ⟨hh.2 id hid, Ext.upd_fresh _ hid⟩⟩
    case rowT => obtain ⟨hb, hh⟩ := bifTrue h; rw [hb]; simp only [cond_true, ARowT_def] at hh ⊢; exact fun t ht => ⟨hh t ht, Ext.upd_fresh _ ht⟩
    case mark =>
      split at h
      · simp only [AMark_def] at h ⊢; obtain ⟨h0, t0, h1, h2, h3⟩ := h
        refine ⟨h0, t0, h1, h2, h3, fun id o ho e => ?_⟩
        rw [del_ne]; exact e
        intro q; subst q; rw [h2] at e; cases e; cases ho
      · exact h.elim
    case mkmap => simp only [ANewMap_def] at h ⊢; exact fun id hid => ⟨h id hid, Ext.upd_fresh _ hid⟩
    case callq =>
      rw [ACalls_def] at h ⊢
      intro κ w cargs h1 h2
      refine (h κ w cargs h1 h2).mono ?_
      rintro e w' ⟨v, κ', σ', x, h3, h4, h5, h6, h7⟩
      exact ⟨v, κ', σ', x, h3, h4, h5, h6, h7, h7.2⟩
    case app =>
      have app : ∀ {s bytes : Nat} {xs : List AVal} {t : Tok} {ys : List AVal}, AApp σ s bytes xs t ys K → AApp σ s bytes xs t ys fun x σ' => K x σ' ∧ Ext σ σ' := by
        intro s bytes xs t ys h; rw [AApp_def] at h ⊢; obtain ⟨σ', h1, h2, h3⟩ := h
        refine ⟨σ', h1, h2, fun t' ht => ⟨h3 t' ht, fun id o ho e => ?_⟩⟩
        rw [upd_ne]; exact h1.ext id o ho e
        intro q; subst q; rw [ht] at e; cases e
      split at h
      · obtain ⟨hb, hh⟩ := bifTrue h; rw [hb]
        simp only [cond_true]
        unfold elemsK at hh ⊢
        split at hh
        · obtain ⟨hb, hh⟩ := bifTrue hh; rw [hb]; exact app hh
        · obtain ⟨hb, hh⟩ := bifTrue hh; rw [hb]; exact app hh
        · obtain ⟨hb, hh⟩ := bifTrue hh; rw [hb]; simp only [cond_true, AView_def] at hh ⊢; obtain ⟨cs, h1, h2, h3⟩ := hh; exact ⟨cs, h1, h2, app h3⟩
        · exact hh.elim
      · exact h.elim
end Go.Am

