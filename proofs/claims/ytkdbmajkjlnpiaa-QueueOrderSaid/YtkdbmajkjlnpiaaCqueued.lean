/-
  A queue beside other parts of the objects' heap.
-/
import Derived.Test.YtkdbmajkjlnpiaaCqueueb
import Derived.Test.YtkdbmajkjlnpiaaCown
namespace Go.Proofs.Ytkdbmajkjlnpiaa
set_option linter.unusedVariables false
set_option linter.unusedSimpArgs false
open Go Go.Am

theorem Qu.has {σ σb : AHeap} {id : Nat} {q : QS} : Qu σ id q σb ↔ Has (fun A => Qu A id q fun _ => none) σ σb := by
  constructor
  · rintro ⟨hid, hq, τ, tk, hτ, rfl⟩
    refine ⟨_, ⟨rfl, hq, τ, tk, hτ, rfl⟩, ?_, ?_⟩
    · intro j hj
      by_cases e : j = id
      · subst e; exact hid
      · rw [upd_ne _ _ e] at hj; exact absurd rfl hj
    · rw [join_upd, join_none]
  · rintro ⟨A, ⟨_, hq, τ, tk, hτ, rfl⟩, hd, rfl⟩
    exact ⟨hd id (by rw [upd_same]; nofun), hq, τ, tk, hτ, by rw [join_upd, join_none]⟩

theorem Owned.has {σ σb : AHeap} {tk : Tok} : Owned σb σ tk ↔ Has (fun A => Owned (fun _ => none) A tk) σ σb := by
  constructor
  · rintro (⟨rfl, rfl⟩ | ⟨t, ht, rfl, rfl⟩)
    · exact ⟨fun _ => none, .inl ⟨rfl, rfl⟩, fun j hj => absurd rfl hj, rfl⟩
    · refine ⟨_, .inr ⟨t, rfl, rfl, rfl⟩, ?_, ?_⟩
      · intro j hj
        by_cases e : j = t
        · subst e; exact ht
        · rw [upd_ne _ _ e] at hj; exact absurd rfl hj
      · rw [join_upd, join_none]
  · rintro ⟨A, ⟨rfl, rfl⟩ | ⟨t, ht, rfl, rfl⟩, hd, rfl⟩
    · exact .inl ⟨rfl, rfl⟩
    · exact .inr ⟨t, hd t (by rw [upd_same]; nofun), rfl, by rw [join_upd, join_none]⟩

theorem swap_qo {σ2 σ1 σ0 : AHeap} {i : Nat} {q : QS} {tk : Tok} (h : Qu σ2 i q σ1) (h' : Owned σ0 σ1 tk) : ∃ σ', Owned σ' σ2 tk ∧ Qu σ' i q σ0 := by
  obtain ⟨σ', h1, h2⟩ := (Qu.has.1 h).swap (Owned.has.1 h'); exact ⟨σ', Owned.has.2 h1, Qu.has.2 h2⟩
theorem swap_oq {σ2 σ1 σ0 : AHeap} {i : Nat} {q : QS} {tk : Tok} (h : Owned σ1 σ2 tk) (h' : Qu σ1 i q σ0) : ∃ σ', Qu σ2 i q σ' ∧ Owned σ0 σ' tk := by
  obtain ⟨σ', h1, h2⟩ := (Owned.has.1 h).swap (Qu.has.1 h'); exact ⟨σ', Qu.has.2 h1, Owned.has.2 h2⟩
theorem swap_oo {σ2 σ1 σ0 : AHeap} {t u : Tok} (h : Owned σ1 σ2 t) (h' : Owned σ0 σ1 u) : ∃ σ', Owned σ' σ2 u ∧ Owned σ0 σ' t := by
  obtain ⟨σ', h1, h2⟩ := (Owned.has.1 h).swap (Owned.has.1 h'); exact ⟨σ', Owned.has.2 h1, Owned.has.2 h2⟩
end Go.Proofs.Ytkdbmajkjlnpiaa

