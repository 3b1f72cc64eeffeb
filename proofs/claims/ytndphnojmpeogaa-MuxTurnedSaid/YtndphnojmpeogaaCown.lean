/-
  Parts of the objects' heap that stand side by side.
-/
import Derived.Test.YtndphnojmpeogaaCbitsd
namespace Go.Proofs.Ytndphnojmpeogaa
set_option linter.unusedVariables false
set_option linter.unusedSimpArgs false
open Go Go.Am

def join (A σ : AHeap) : AHeap := fun j => match A j with | some o => some o | none => σ j
/-- A heap is another one, and a part of its own beside. -/
def Has (S : AHeap → Prop) (σ σb : AHeap) : Prop := ∃ A, S A ∧ (∀ j, A j ≠ none → σb j = none) ∧ σ = join A σb

theorem Has.sub {S : AHeap → Prop} {σ σb : AHeap} (h : Has S σ σb) : Sub σ σb := by
  obtain ⟨A, _, h2, rfl⟩ := h
  intro j o e
  unfold join
  cases hA : A j with
  | none => exact e
  | some x => rw [h2 j (by rw [hA]; nofun)] at e; cases e
theorem Has.gone {S : AHeap → Prop} {σ σb : AHeap} (h : Has S σ σb) {j : Nat} (hj : σ j = none) : σb j = none := by
  obtain ⟨A, _, h2, rfl⟩ := h
  unfold join at hj
  cases hA : A j with
  | none => rw [hA] at hj; exact hj
  | some x => rw [hA] at hj; cases hj
theorem Has.swap {S T : AHeap → Prop} {σ2 σ1 σ0 : AHeap} (h : Has S σ2 σ1) (k : Has T σ1 σ0) : ∃ σ', Has T σ2 σ' ∧ Has S σ' σ0 := by
  obtain ⟨A, hS, hA, rfl⟩ := h
  obtain ⟨B, hT, hB, rfl⟩ := k
  have hAB : ∀ j, A j ≠ none → B j = none ∧ σ0 j = none := by
    intro j hj
    have := hA j hj
    unfold join at this
    cases hb : B j with
    | none => rw [hb] at this; exact ⟨rfl, this⟩
    | some x => rw [hb] at this; cases this
  refine ⟨join A σ0, ⟨B, hT, ?_, ?_⟩, A, hS, fun j hj => (hAB j hj).2, rfl⟩
  · intro j hj
    unfold join
    cases ha : A j with
    | none => exact hB j hj
    | some x => exact absurd (hAB j (by rw [ha]; nofun)).1 hj
  · funext j
    unfold join
    cases ha : A j with
    | none => rfl
    | some x => rw [(hAB j (by rw [ha]; nofun)).1]

theorem Has.ext {S : AHeap → Prop} {σ σb : AHeap} (h : Has S σ σb) : Ext σb σ := by
  obtain ⟨A, _, h2, rfl⟩ := h
  intro j o _ e
  unfold join
  cases hA : A j with
  | none => exact e
  | some x => rw [h2 j (by rw [hA]; nofun)] at e; cases e

theorem join_upd (A σ : AHeap) (id : Nat) (o : AObj) : join (upd A id o) σ = upd (join A σ) id o := by
  funext j
  unfold join
  by_cases e : j = id
  · subst e; rw [upd_same, upd_same]
  · rw [upd_ne _ _ e, upd_ne _ _ e]
theorem join_none (σ : AHeap) : join (fun _ => none) σ = σ := rfl

theorem Wr.has {σ σb : AHeap} {id : Nat} {bs : List Bool} : Wr σ id bs σb ↔ Has (fun A => Wr A id bs fun _ => none) σ σb := by
  constructor
  · rintro ⟨hid, ⟨hnil, rfl⟩ | ⟨hne, r, hri, hr, rfl⟩⟩
    · refine ⟨_, ⟨rfl, .inl ⟨hnil, rfl⟩⟩, ?_, ?_⟩
      · intro j hj
        by_cases e : j = id
        · subst e; exact hid
        · rw [upd_ne _ _ e] at hj; exact absurd rfl hj
      · rw [join_upd, join_none]
    · refine ⟨_, ⟨rfl, .inr ⟨hne, r, hri, rfl, rfl⟩⟩, ?_, ?_⟩
      · intro j hj
        by_cases e : j = id
        · subst e; exact hid
        · rw [upd_ne _ _ e] at hj
          by_cases e2 : j = r
          · subst e2; exact hr
          · rw [upd_ne _ _ e2] at hj; exact absurd rfl hj
      · rw [join_upd, join_upd, join_none]
  · rintro ⟨A, ⟨_, ⟨hnil, rfl⟩ | ⟨hne, r, hri, _, rfl⟩⟩, hd, rfl⟩
    · have hid := hd id (by rw [upd_same]; nofun)
      exact ⟨hid, .inl ⟨hnil, by rw [join_upd, join_none]⟩⟩
    · have hid := hd id (by rw [upd_same]; nofun)
      have hr := hd r (by rw [upd_ne _ _ hri, upd_same]; nofun)
      exact ⟨hid, .inr ⟨hne, r, hri, hr, by rw [join_upd, join_upd, join_none]⟩⟩
theorem Rd.has {σ σb : AHeap} {id : Nat} {b : List UInt8} {k : Nat} : Rd σ id b k σb ↔ Has (fun A => Rd A id b k fun _ => none) σ σb := by
  constructor
  · rintro ⟨hid, h1, h2, tk, rfl⟩
    refine ⟨_, ⟨rfl, h1, h2, tk, rfl⟩, ?_, ?_⟩
    · intro j hj
      by_cases e : j = id
      · subst e; exact hid
      · rw [upd_ne _ _ e] at hj; exact absurd rfl hj
    · rw [join_upd, join_none]
  · rintro ⟨A, ⟨_, h1, h2, tk, rfl⟩, hd, rfl⟩
    exact ⟨hd id (by rw [upd_same]; nofun), h1, h2, tk, by rw [join_upd, join_none]⟩
theorem Wr.sub {σ σb : AHeap} {id : Nat} {bs : List Bool} (h : Wr σ id bs σb) : Sub σ σb := (Wr.has.1 h).sub
theorem Rd.sub {σ σb : AHeap} {id : Nat} {b : List UInt8} {k : Nat} (h : Rd σ id b k σb) : Sub σ σb := (Rd.has.1 h).sub
theorem swap_rw {σ2 σ1 σ0 : AHeap} {i j : Nat} {b : List UInt8} {k : Nat} {bs : List Bool} (h : Rd σ2 i b k σ1) (h' : Wr σ1 j bs σ0) : ∃ σ', Wr σ2 j bs σ' ∧ Rd σ' i b k σ0 := by
  obtain ⟨σ', h1, h2⟩ := (Rd.has.1 h).swap (Wr.has.1 h'); exact ⟨σ', Wr.has.2 h1, Rd.has.2 h2⟩
theorem swap_wr {σ2 σ1 σ0 : AHeap} {i j : Nat} {b : List UInt8} {k : Nat} {bs : List Bool} (h : Wr σ2 j bs σ1) (h' : Rd σ1 i b k σ0) : ∃ σ', Rd σ2 i b k σ' ∧ Wr σ' j bs σ0 := by
  obtain ⟨σ', h1, h2⟩ := (Wr.has.1 h).swap (Rd.has.1 h'); exact ⟨σ', Rd.has.2 h1, Wr.has.2 h2⟩
theorem swap_ww {σ2 σ1 σ0 : AHeap} {i j : Nat} {cs bs : List Bool} (h : Wr σ2 i cs σ1) (h' : Wr σ1 j bs σ0) : ∃ σ', Wr σ2 j bs σ' ∧ Wr σ' i cs σ0 := by
  obtain ⟨σ', h1, h2⟩ := (Wr.has.1 h).swap (Wr.has.1 h'); exact ⟨σ', Wr.has.2 h1, Wr.has.2 h2⟩
theorem swap_rr {σ2 σ1 σ0 : AHeap} {i j : Nat} {b b' : List UInt8} {k k' : Nat} (h : Rd σ2 i b k σ1) (h' : Rd σ1 j b' k' σ0) : ∃ σ', Rd σ2 j b' k' σ' ∧ Rd σ' i b k σ0 := by
  obtain ⟨σ', h1, h2⟩ := (Rd.has.1 h).swap (Rd.has.1 h'); exact ⟨σ', Rd.has.2 h1, Rd.has.2 h2⟩
theorem Wr.ext {σ σb : AHeap} {id : Nat} {bs : List Bool} (h : Wr σ id bs σb) : Ext σb σ := (Wr.has.1 h).ext
theorem Rd.ext {σ σb : AHeap} {id : Nat} {b : List UInt8} {k : Nat} (h : Rd σ id b k σb) : Ext σb σ := (Rd.has.1 h).ext
end Go.Proofs.Ytndphnojmpeogaa

