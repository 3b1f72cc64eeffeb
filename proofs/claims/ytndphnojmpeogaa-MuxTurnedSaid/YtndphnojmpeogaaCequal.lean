/-
  Are two slices of bytes equal?
-/
import Derived.Test.YtndphnojmpeogaaCbase
namespace Go.Proofs.Ytndphnojmpeogaa
set_option linter.unusedVariables false
set_option linter.unusedSimpArgs false
open Go Go.Am
set_option maxRecDepth 10000 in
theorem Equal (a b : List UInt8) (t u : Tok) (σ : AHeap) (hl : a.length < 4611686018427387904) : ACalls Try.prog i_slices_Equal_byte_byte [sl t a, sl u b] σ fun v σ' => v = boolv (decide (a = b)) ∧ σ' = σ := by
  refine k_slices_Equal_byte_byte rfl ?_
  (conv => whnf)
  refine abr_dec (fun h => ?_) (fun h => ?_)
  · (conv => whnf)
    refine aret_same ⟨?_, rfl⟩
    rw [decide_eq_false]
    intro k; subst k; simp at h
  · have hab : a.length = b.length := by simp at h; omega
    (conv => whnf)
    refine aloop (α := Nat) (fun i => [(s13, i64v i)]) (fun _ => σ) (fun i => i ≤ a.length ∧ a.take i = b.take i) (fun i => a.length - i) 0 ⟨Nat.zero_le _, rfl⟩ (Sub.refl _) ?_ ?_
    · (conv => whnf)
      (repeat' first | with_reducible exact EnvLe.refl _ | (refine EnvLe.node ?_ (by first | exact Or.inl rfl | exact Or.inr (Or.inl rfl) | exact Or.inr (Or.inr ⟨nofun, VLe.slice _ _ _⟩)) ?_))
    · rintro i ⟨hi, he⟩
      (conv => whnf)
      refine abr_dec (fun h => ?_) (fun h => ?_)
      · rw [List.length_map] at h
        have h1 : i < a.length := by omega
        have h2 : i < b.length := by omega
        (conv => whnf)
        refine aget (by omega) (get_bytes h1) ?_
        (conv => whnf)
        refine acell rfl ?_
        (conv => whnf)
        refine aget (by omega) (get_bytes h2) ?_
        (conv => whnf)
        refine acell rfl ?_
        (conv => whnf)
        refine abr_dec (fun hb => ?_) (fun hb => ?_)
        · (conv => whnf)
          refine aret_same ⟨?_, rfl⟩
          rw [decide_eq_false]
          intro k; subst k; exact hb rfl
        · (conv => whnf)
          refine afit_i64 (by omega) ?_
          (conv => whnf)
          refine ⟨i + 1, ⟨by omega, ?_⟩, by omega, Sub.refl _, ?_⟩
          · rw [List.take_add_one, List.take_add_one, he, List.getElem?_eq_getElem h1, List.getElem?_eq_getElem h2]
            have : a[i] = b[i] := Classical.byContradiction fun k => hb ((byteV_ne _ _).2 k)
            rw [this]
          · (conv => whnf)
            (repeat' first | with_reducible exact EnvLe.refl _ | (refine EnvLe.node ?_ (by first | exact Or.inl rfl | exact Or.inr (Or.inl rfl) | exact Or.inr (Or.inr ⟨nofun, VLe.slice _ _ _⟩)) ?_))
      · rw [List.length_map] at h
        (conv => whnf)
        refine aret_same ⟨?_, rfl⟩
        have h1 : i = a.length := by omega
        rw [decide_eq_true]
        have := he
        rw [h1, List.take_length, hab, List.take_length] at this
        exact this

end Go.Proofs.Ytndphnojmpeogaa

