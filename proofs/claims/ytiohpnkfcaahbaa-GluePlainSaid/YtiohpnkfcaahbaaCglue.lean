/-
  What a glue does.
-/
import Derived.Test.YtiohpnkfcaahbaaClists
import Derived.Test.YtiohpnkfcaahbaaCtok
import Derived.Test.YtiohpnkfcaahbaaIrglue
import Derived.Test.YtiohpnkfcaahbaaIrslices
namespace Go.Proofs.Ytiohpnkfcaahbaa
set_option linter.unusedVariables false
set_option linter.unusedSimpArgs false
open Go Go.Am

/-- What a glue holds: a text's beginning, if one is held; how many texts were lost. -/
abbrev GS := Option (List UInt8) × Nat
def glCells (g : GS) (tk : Tok) : List AVal := [boolv true, sl tk (g.1.getD []), boolv g.1.isSome, i64v g.2]
def Gl (σ : AHeap) (id : Nat) (g : GS) (σb : AHeap) : Prop := σb id = none ∧ ∃ tk, σ = upd σb id (.cells (glCells g tk))
theorem Gl.at {σ : AHeap} {id : Nat} {g : GS} {tk : Tok} (h : σ id = some (.cells (glCells g tk))) : Gl σ id g (del σ id) := by
  refine ⟨del_same _ _, tk, ?_⟩
  funext j
  by_cases e : j = id
  · subst e; rw [upd_same]; exact h
  · rw [upd_ne _ _ e, del_ne _ e]
theorem gl_of {σ σb : AHeap} {id : Nat} {g : GS} {tk : Tok} (h : σ id = some (.cells (glCells g tk))) (h1 : σb id = none) (hs : Sub σ σb) : ∃ σ', Sub σ σ' ∧ Gl σ' id g σb := by
  refine ⟨upd σb id (.cells (glCells g tk)), fun j o hj => ?_, h1, tk, rfl⟩
  by_cases e : j = id
  · subst e; rw [upd_same] at hj; rw [← hj]; exact h
  · rw [upd_ne _ _ e] at hj; exact hs _ _ hj
theorem Gl.sub {σ σb : AHeap} {id : Nat} {g : GS} (h : Gl σ id g σb) : Sub σ σb := by
  obtain ⟨h1, tk, rfl⟩ := h
  exact Sub.upd_fresh _ h1
theorem Gl.ext {σ σb : AHeap} {id : Nat} {g : GS} (h : Gl σ id g σb) : Ext σb σ := by
  obtain ⟨h1, tk, rfl⟩ := h
  exact Ext.upd_fresh _ h1
theorem Gl.cell {σ σb : AHeap} {id : Nat} {g : GS} (h : Gl σ id g σb) : ∃ tk, σ id = some (.cells (glCells g tk)) := by
  obtain ⟨h1, tk, rfl⟩ := h
  exact ⟨tk, upd_same _ _ _⟩

theorem gNew (σ : AHeap) : ACalls Try.prog i_glue_New [] σ fun v σ' => ∃ id, v = .ptr id 0 ∧ Gl σ' id (none, 0) σ := by
  refine k_glue_New rfl ?_
  ((conv => whnf); (repeat ((first | with_reducible refine abr_true rfl ?_ | with_reducible refine abr_false rfl ?_ | with_reducible refine abr_yes rfl ?_ | refine abr_yes (by decide) ?_ | refine abr_no (by decide) ?_ | with_reducible refine abr_same_ne ?_); (conv => whnf))))
  refine anew rfl fun id hid => ?_
  ((conv => whnf); (repeat ((first | with_reducible refine abr_true rfl ?_ | with_reducible refine abr_false rfl ?_ | with_reducible refine abr_yes rfl ?_ | refine abr_yes (by decide) ?_ | refine abr_no (by decide) ?_ | with_reducible refine abr_same_ne ?_); (conv => whnf))))
  exact aret_same ⟨id, rfl, hid, .full, rfl⟩
theorem gHeld (id : Nat) (g : GS) (σ σb : AHeap) (h : Gl σ id g σb) : ACalls Try.prog i_glue_Glue_Held [.ptr id 0] σ fun v σ' => v = i64v (g.1.getD []).length ∧ σ' = σ := by
  obtain ⟨tk, hc⟩ := h.cell
  refine k_glue_Glue_Held rfl ?_
  ((conv => whnf); (repeat ((first | with_reducible refine abr_true rfl ?_ | with_reducible refine abr_false rfl ?_ | with_reducible refine abr_yes rfl ?_ | refine abr_yes (by decide) ?_ | refine abr_no (by decide) ?_ | with_reducible refine abr_same_ne ?_); (conv => whnf))))
  refine aload hc rfl ?_
  ((conv => whnf); (repeat ((first | with_reducible refine abr_true rfl ?_ | with_reducible refine abr_false rfl ?_ | with_reducible refine abr_yes rfl ?_ | refine abr_yes (by decide) ?_ | refine abr_no (by decide) ?_ | with_reducible refine abr_same_ne ?_); (conv => whnf))))
  exact aret_same ⟨by rw [List.length_map], rfl⟩
theorem gLost (id : Nat) (g : GS) (σ σb : AHeap) (h : Gl σ id g σb) : ACalls Try.prog i_glue_Glue_Lost [.ptr id 0] σ fun v σ' => v = i64v g.2 ∧ σ' = σ := by
  obtain ⟨tk, hc⟩ := h.cell
  refine k_glue_Glue_Lost rfl ?_
  ((conv => whnf); (repeat ((first | with_reducible refine abr_true rfl ?_ | with_reducible refine abr_false rfl ?_ | with_reducible refine abr_yes rfl ?_ | refine abr_yes (by decide) ?_ | refine abr_no (by decide) ?_ | with_reducible refine abr_same_ne ?_); (conv => whnf))))
  refine aload hc rfl ?_
  ((conv => whnf); (repeat ((first | with_reducible refine abr_true rfl ?_ | with_reducible refine abr_false rfl ?_ | with_reducible refine abr_yes rfl ?_ | refine abr_yes (by decide) ?_ | refine abr_no (by decide) ?_ | with_reducible refine abr_same_ne ?_); (conv => whnf))))
  exact aret_same ⟨rfl, rfl⟩
theorem gDrop (id : Nat) (g : GS) (σ σb : AHeap) (h : Gl σ id g σb) : ACalls Try.prog i_glue_Glue_Drop [.ptr id 0] σ fun v σ' => Gl σ' id (none, g.2) σb := by
  obtain ⟨h1, tk, rfl⟩ := h
  refine k_glue_Glue_Drop rfl ?_
  ((conv => whnf); (repeat ((first | with_reducible refine abr_true rfl ?_ | with_reducible refine abr_false rfl ?_ | with_reducible refine abr_yes rfl ?_ | refine abr_yes (by decide) ?_ | refine abr_no (by decide) ?_ | with_reducible refine abr_same_ne ?_); (conv => whnf))))
  refine astore (xs := [.slice 1 [] .full]) (l := [boolv true, sl .full [], boolv g.1.isSome, i64v g.2]) (upd_same _ _ _) (Nat.le_of_ble_eq_true rfl) rfl rfl ?_
  rw [upd_upd]
  ((conv => whnf); (repeat ((first | with_reducible refine abr_true rfl ?_ | with_reducible refine abr_false rfl ?_ | with_reducible refine abr_yes rfl ?_ | refine abr_yes (by decide) ?_ | refine abr_no (by decide) ?_ | with_reducible refine abr_same_ne ?_); (conv => whnf))))
  refine astore (xs := [boolv false]) (l := [boolv true, sl .full [], boolv false, i64v g.2]) (upd_same _ _ _) (Nat.le_of_ble_eq_true rfl) rfl rfl ?_
  rw [upd_upd]
  ((conv => whnf); (repeat ((first | with_reducible refine abr_true rfl ?_ | with_reducible refine abr_false rfl ?_ | with_reducible refine abr_yes rfl ?_ | refine abr_yes (by decide) ?_ | refine abr_no (by decide) ?_ | with_reducible refine abr_same_ne ?_); (conv => whnf))))
  exact aret_same ⟨h1, .full, rfl⟩
def loseG (g : GS) : GS := (none, g.2 + g.1.isSome.toNat)
theorem gLose (id : Nat) (g : GS) (σ σb : AHeap) (h : Gl σ id g σb) (hl : g.2 ≤ 1000000000) : ACalls Try.prog i_glue_Glue_lose [.ptr id 0] σ fun v σ' => Gl σ' id (loseG g) σb := by
  have h0 := h
  obtain ⟨h1, tk, rfl⟩ := h
  refine k_glue_Glue_lose rfl ?_
  ((conv => whnf); (repeat ((first | with_reducible refine abr_true rfl ?_ | with_reducible refine abr_false rfl ?_ | with_reducible refine abr_yes rfl ?_ | refine abr_yes (by decide) ?_ | refine abr_no (by decide) ?_ | with_reducible refine abr_same_ne ?_); (conv => whnf))))
  refine aload (upd_same _ _ _) rfl ?_
  ((conv => whnf); (repeat ((first | with_reducible refine abr_true rfl ?_ | with_reducible refine abr_false rfl ?_ | with_reducible refine abr_yes rfl ?_ | refine abr_yes (by decide) ?_ | refine abr_no (by decide) ?_ | with_reducible refine abr_same_ne ?_); (conv => whnf))))
  obtain ⟨o, n⟩ := g
  cases o with
  | none =>
    ((conv => whnf); (repeat ((first | with_reducible refine abr_true rfl ?_ | with_reducible refine abr_false rfl ?_ | with_reducible refine abr_yes rfl ?_ | refine abr_yes (by decide) ?_ | refine abr_no (by decide) ?_ | with_reducible refine abr_same_ne ?_); (conv => whnf))))
    refine acall (gDrop id _ _ _ h0) ?_
    rintro v σ' w
    ((conv => whnf); (repeat ((first | with_reducible refine abr_true rfl ?_ | with_reducible refine abr_false rfl ?_ | with_reducible refine abr_yes rfl ?_ | refine abr_yes (by decide) ?_ | refine abr_no (by decide) ?_ | with_reducible refine abr_same_ne ?_); (conv => whnf))))
    exact aret_same w
  | some x =>
    ((conv => whnf); (repeat ((first | with_reducible refine abr_true rfl ?_ | with_reducible refine abr_false rfl ?_ | with_reducible refine abr_yes rfl ?_ | refine abr_yes (by decide) ?_ | refine abr_no (by decide) ?_ | with_reducible refine abr_same_ne ?_); (conv => whnf))))
    refine aload (upd_same _ _ _) rfl ?_
    ((conv => whnf); (repeat ((first | with_reducible refine abr_true rfl ?_ | with_reducible refine abr_false rfl ?_ | with_reducible refine abr_yes rfl ?_ | refine abr_yes (by decide) ?_ | refine abr_no (by decide) ?_ | with_reducible refine abr_same_ne ?_); (conv => whnf))))
    refine afit_i64 (by dsimp only at hl ⊢; omega) ?_
    ((conv => whnf); (repeat ((first | with_reducible refine abr_true rfl ?_ | with_reducible refine abr_false rfl ?_ | with_reducible refine abr_yes rfl ?_ | refine abr_yes (by decide) ?_ | refine abr_no (by decide) ?_ | with_reducible refine abr_same_ne ?_); (conv => whnf))))
    refine astore (xs := [i64v ((n : Int) + 1)]) (l := glCells (some x, n + 1) tk) (upd_same _ _ _) (Nat.le_of_ble_eq_true rfl) rfl rfl ?_
    rw [upd_upd]
    ((conv => whnf); (repeat ((first | with_reducible refine abr_true rfl ?_ | with_reducible refine abr_false rfl ?_ | with_reducible refine abr_yes rfl ?_ | refine abr_yes (by decide) ?_ | refine abr_no (by decide) ?_ | with_reducible refine abr_same_ne ?_); (conv => whnf))))
    refine acall (gDrop id (some x, n + 1) _ σb ⟨h1, tk, rfl⟩) ?_
    rintro v σ' w
    ((conv => whnf); (repeat ((first | with_reducible refine abr_true rfl ?_ | with_reducible refine abr_false rfl ?_ | with_reducible refine abr_yes rfl ?_ | refine abr_yes (by decide) ?_ | refine abr_no (by decide) ?_ | with_reducible refine abr_same_ne ?_); (conv => whnf))))
    exact aret_same w

/-- A field is taken: the text that it ends, and what is held behind it. -/
def holdG (g : GS) (b : List UInt8) (begins ends : Bool) : GS :=
  if begins = true then (some b, g.2 + g.1.isSome.toNat) else match g.1 with
    | some h => (some (h ++ b), g.2)
    | none => (none, g.2 + ends.toNat)
def cutG (g : GS) : GS := if (g.1.getD []).length > 1000 then loseG g else g
def endG (g : GS) (ends : Bool) : Option (List UInt8) × GS := if ends = true ∧ g.1.isSome = true then (g.1, (none, g.2)) else (none, g)
def fieldG (g : GS) (b : List UInt8) (begins ends : Bool) : Option (List UInt8) × GS := endG (cutG (holdG g b begins ends)) ends
theorem cutG_held (g : GS) : ((cutG g).1.getD []).length ≤ 1000 := by
  unfold cutG loseG
  split
  · simp
  · omega
theorem fieldG_held (g : GS) (b : List UInt8) (begins ends : Bool) : ((fieldG g b begins ends).2.1.getD []).length ≤ 1000 := by
  unfold fieldG endG
  split
  · simp
  · exact cutG_held _
theorem fieldG_lost (g : GS) (b : List UInt8) (begins ends : Bool) : (fieldG g b begins ends).2.2 ≤ g.2 + 2 := by
  have h1 : (holdG g b begins ends).2 ≤ g.2 + 1 := by
    unfold holdG
    split
    · dsimp only; cases g.1.isSome <;> simp
    · split
      · dsimp only; omega
      · dsimp only; cases ends <;> simp
  have h2 : ∀ x : GS, (cutG x).2 ≤ x.2 + 1 := by
    intro x
    unfold cutG loseG
    split
    · dsimp only; cases x.1.isSome <;> simp
    · omega
  have h3 := h2 (holdG g b begins ends)
  unfold fieldG endG
  split
  · dsimp only; omega
  · dsimp only; omega

theorem hold_lost (g : GS) (b : List UInt8) (begins ends : Bool) : (holdG g b begins ends).2 ≤ g.2 + 1 := by
  unfold holdG
  split
  · dsimp only; cases g.1.isSome <;> simp
  · split
    · dsimp only; omega
    · dsimp only; cases ends <;> simp

set_option maxRecDepth 20000 in
theorem gField (id : Nat) (g : GS) (b : List UInt8) (t : Tok) (begins ends : Bool) (σ σb : AHeap) (h : Gl σ id g σb) (hl : g.2 ≤ 100000000) (hh : (g.1.getD []).length ≤ 1000) (hb : b.length ≤ 140737488351232) :
    ACalls Try.prog i_glue_Glue_field [.ptr id 0, sl t b, boolv begins, boolv ends] σ fun v σ' => v = .tup [sl .none ((fieldG g b begins ends).1.getD []), boolv (fieldG g b begins ends).1.isSome] ∧ Gl σ' id (fieldG g b begins ends).2 σb := by
  have h0 := h
  obtain ⟨h1, tk, hσ⟩ := h
  refine k_glue_Glue_field rfl ?_
  obtain ⟨o, n⟩ := g
  dsimp only at hl hh
  have hlen : (List.map byteV (o.getD [])).length = (o.getD []).length := List.length_map ..
  unfold fieldG
  have hsb : Sub σ σb := h0.sub
  have hc0 : σ id = some (.cells (glCells (o, n) tk)) := by rw [hσ]; exact upd_same _ _ _
  rcases Bool.eq_false_or_eq_true begins with hbe | hbe <;> subst hbe
  case' inl =>
    ((conv => whnf); (repeat ((first | with_reducible refine abr_true rfl ?_ | with_reducible refine abr_false rfl ?_ | with_reducible refine abr_yes rfl ?_ | refine abr_yes (by decide) ?_ | refine abr_no (by decide) ?_ | with_reducible refine abr_same_ne ?_); (conv => whnf))))
    refine acall (gLose id _ _ _ h0 (by dsimp only; omega)) ?_
    rintro v σ1 w1
    ((conv => whnf); (repeat ((first | with_reducible refine abr_true rfl ?_ | with_reducible refine abr_false rfl ?_ | with_reducible refine abr_yes rfl ?_ | refine abr_yes (by decide) ?_ | refine abr_no (by decide) ?_ | with_reducible refine abr_same_ne ?_); (conv => whnf))))
    refine acall (Clone b _ _ (by omega)) ?_
    rintro v σ2 ⟨tk2, ho, rfl⟩
    refine ⟨?_, ho.ext⟩
    ((conv => whnf); (repeat ((first | with_reducible refine abr_true rfl ?_ | with_reducible refine abr_false rfl ?_ | with_reducible refine abr_yes rfl ?_ | refine abr_yes (by decide) ?_ | refine abr_no (by decide) ?_ | with_reducible refine abr_same_ne ?_); (conv => whnf))))
    have hs1 := w1.sub
    obtain ⟨tk3, hc3⟩ := w1.cell
    have hc1 := ho.same_of hc3
    refine astore (xs := [sl tk2 b]) (l := [boolv true, sl tk2 b, boolv false, i64v (n + o.isSome.toNat : Nat)]) hc1 (Nat.le_of_ble_eq_true rfl) rfl rfl ?_
    ((conv => whnf); (repeat ((first | with_reducible refine abr_true rfl ?_ | with_reducible refine abr_false rfl ?_ | with_reducible refine abr_yes rfl ?_ | refine abr_yes (by decide) ?_ | refine abr_no (by decide) ?_ | with_reducible refine abr_same_ne ?_); (conv => whnf))))
    refine astore (xs := [boolv true]) (l := glCells (some b, n + o.isSome.toNat) tk2) (upd_same _ _ _) (Nat.le_of_ble_eq_true rfl) rfl rfl ?_
    rw [upd_upd]
    have hs2 : Sub σ2 σb := ho.sub.trans hs1
    obtain ⟨σ3, hσ3⟩ : ∃ σ3, σ3 = upd σ2 id (.cells (glCells (some b, n + o.isSome.toNat) tk2)) := ⟨_, rfl⟩
    rw [← hσ3]
    have hc3 : ∃ tk3, σ3 id = some (.cells (glCells (holdG (o, n) b true ends) tk3)) := ⟨tk2, by rw [hσ3]; exact upd_same _ _ _⟩
    obtain ⟨g1, hg1⟩ : ∃ g1, g1 = holdG (o, n) b true ends := ⟨_, rfl⟩
    have hg2 : g1.2 ≤ n + 1 := by rw [hg1]; exact hold_lost _ _ _ _
    rw [← hg1] at hc3 ⊢
    clear hg1
    have hs3 : Sub σ3 σb := by
      rw [hσ3]
      intro j x hj
      have hne : j ≠ id := fun e => by subst e; rw [h1] at hj; cases hj
      rw [upd_ne _ _ hne]; exact hs2 _ _ hj
    ((conv => whnf); (repeat ((first | with_reducible refine abr_true rfl ?_ | with_reducible refine abr_false rfl ?_ | with_reducible refine abr_yes rfl ?_ | refine abr_yes (by decide) ?_ | refine abr_no (by decide) ?_ | with_reducible refine abr_same_ne ?_); (conv => whnf))))
    cases ends
  case' inr =>
    ((conv => whnf); (repeat ((first | with_reducible refine abr_true rfl ?_ | with_reducible refine abr_false rfl ?_ | with_reducible refine abr_yes rfl ?_ | refine abr_yes (by decide) ?_ | refine abr_no (by decide) ?_ | with_reducible refine abr_same_ne ?_); (conv => whnf))))
    refine aload hc0 rfl ?_
    cases o
  case' inr.some h =>
    ((conv => whnf); (repeat ((first | with_reducible refine abr_true rfl ?_ | with_reducible refine abr_false rfl ?_ | with_reducible refine abr_yes rfl ?_ | refine abr_yes (by decide) ?_ | refine abr_no (by decide) ?_ | with_reducible refine abr_same_ne ?_); (conv => whnf))))
    refine aload hc0 rfl ?_
    ((conv => whnf); (repeat ((first | with_reducible refine abr_true rfl ?_ | with_reducible refine abr_false rfl ?_ | with_reducible refine abr_yes rfl ?_ | refine abr_yes (by decide) ?_ | refine abr_no (by decide) ?_ | with_reducible refine abr_same_ne ?_); (conv => whnf))))
    refine aload hc0 rfl ?_
    ((conv => whnf); (repeat ((first | with_reducible refine abr_true rfl ?_ | with_reducible refine abr_false rfl ?_ | with_reducible refine abr_yes rfl ?_ | refine abr_yes (by decide) ?_ | refine abr_no (by decide) ?_ | with_reducible refine abr_same_ne ?_); (conv => whnf))))
    refine aload hc0 rfl ?_
    ((conv => whnf); (repeat ((first | with_reducible refine abr_true rfl ?_ | with_reducible refine abr_false rfl ?_ | with_reducible refine abr_yes rfl ?_ | refine abr_yes (by decide) ?_ | refine abr_no (by decide) ?_ | with_reducible refine abr_same_ne ?_); (conv => whnf))))
    rw [List.length_map]
    refine acut (by omega) (by omega) (Int.le_refl _) ?_
    ((conv => whnf); (repeat ((first | with_reducible refine abr_true rfl ?_ | with_reducible refine abr_false rfl ?_ | with_reducible refine abr_yes rfl ?_ | refine abr_yes (by decide) ?_ | refine abr_no (by decide) ?_ | with_reducible refine abr_same_ne ?_); (conv => whnf))))
    refine ⟨rfl, rfl, ?_⟩
    rw [show (0 : Int).toNat = 0 from rfl, List.drop_zero, Int.toNat_natCast, List.take_of_length_le (by rw [List.length_map]; exact Nat.le_refl _)]
    ((conv => whnf); (repeat ((first | with_reducible refine abr_true rfl ?_ | with_reducible refine abr_false rfl ?_ | with_reducible refine abr_yes rfl ?_ | refine abr_yes (by decide) ?_ | refine abr_no (by decide) ?_ | with_reducible refine abr_same_ne ?_); (conv => whnf))))
    refine aapp_full (by rw [List.length_map, List.length_map]; have : h.length ≤ 1000 := hh; show (h.length + b.length) * 1 ≤ _; omega) fun t2 ht2 => ?_
    rw [← List.map_append]
    ((conv => whnf); (repeat ((first | with_reducible refine abr_true rfl ?_ | with_reducible refine abr_false rfl ?_ | with_reducible refine abr_yes rfl ?_ | refine abr_yes (by decide) ?_ | refine abr_no (by decide) ?_ | with_reducible refine abr_same_ne ?_); (conv => whnf))))
    have hne2 : id ≠ t2 := fun e => by subst e; rw [hc0] at ht2; cases ht2
    refine astore (xs := [sl (.tip t2) (h ++ b)]) (l := glCells (some (h ++ b), n) (.tip t2)) (by rw [upd_ne _ _ hne2]; exact hc0) (Nat.le_of_ble_eq_true rfl) rfl rfl ?_
    obtain ⟨σ3, hσ3⟩ : ∃ σ3, σ3 = upd (upd σ t2 .tip) id (.cells (glCells (some (h ++ b), n) (.tip t2))) := ⟨_, rfl⟩
    rw [← hσ3]
    have hc3 : ∃ tk3, σ3 id = some (.cells (glCells (holdG (some h, n) b false ends) tk3)) := ⟨.tip t2, by rw [hσ3]; exact upd_same _ _ _⟩
    obtain ⟨g1, hg1⟩ : ∃ g1, g1 = holdG (some h, n) b false ends := ⟨_, rfl⟩
    have hg2 : g1.2 ≤ n + 1 := by rw [hg1]; exact hold_lost _ _ _ _
    rw [← hg1] at hc3 ⊢
    clear hg1
    have hs3 : Sub σ3 σb := by
      rw [hσ3]
      intro j x hj
      have hne : j ≠ id := fun e => by subst e; rw [h1] at hj; cases hj
      rw [upd_ne _ _ hne]; exact ((Sub.upd_fresh _ ht2).trans hsb) _ _ hj
    ((conv => whnf); (repeat ((first | with_reducible refine abr_true rfl ?_ | with_reducible refine abr_false rfl ?_ | with_reducible refine abr_yes rfl ?_ | refine abr_yes (by decide) ?_ | refine abr_no (by decide) ?_ | with_reducible refine abr_same_ne ?_); (conv => whnf))))
    cases ends
  case' inr.none =>
    ((conv => whnf); (repeat ((first | with_reducible refine abr_true rfl ?_ | with_reducible refine abr_false rfl ?_ | with_reducible refine abr_yes rfl ?_ | refine abr_yes (by decide) ?_ | refine abr_no (by decide) ?_ | with_reducible refine abr_same_ne ?_); (conv => whnf))))
    cases ends
  case' inr.none.false =>
    ((conv => whnf); (repeat ((first | with_reducible refine abr_true rfl ?_ | with_reducible refine abr_false rfl ?_ | with_reducible refine abr_yes rfl ?_ | refine abr_yes (by decide) ?_ | refine abr_no (by decide) ?_ | with_reducible refine abr_same_ne ?_); (conv => whnf))))
    obtain ⟨σ3, hσ3⟩ : ∃ σ3, σ3 = σ := ⟨_, rfl⟩
    rw [← hσ3]
    have hc3 : ∃ tk3, σ3 id = some (.cells (glCells (holdG (none, n) b false false) tk3)) := ⟨tk, by rw [hσ3]; exact hc0⟩
    obtain ⟨g1, hg1⟩ : ∃ g1, g1 = holdG (none, n) b false false := ⟨_, rfl⟩
    have hg2 : g1.2 ≤ n + 1 := by rw [hg1]; exact hold_lost _ _ _ _
    rw [← hg1] at hc3 ⊢
    clear hg1
    have hs3 : Sub σ3 σb := by rw [hσ3]; exact hsb
  case' inr.none.true =>
    ((conv => whnf); (repeat ((first | with_reducible refine abr_true rfl ?_ | with_reducible refine abr_false rfl ?_ | with_reducible refine abr_yes rfl ?_ | refine abr_yes (by decide) ?_ | refine abr_no (by decide) ?_ | with_reducible refine abr_same_ne ?_); (conv => whnf))))
    refine aload hc0 rfl ?_
    ((conv => whnf); (repeat ((first | with_reducible refine abr_true rfl ?_ | with_reducible refine abr_false rfl ?_ | with_reducible refine abr_yes rfl ?_ | refine abr_yes (by decide) ?_ | refine abr_no (by decide) ?_ | with_reducible refine abr_same_ne ?_); (conv => whnf))))
    refine afit_i64 (by omega) ?_
    ((conv => whnf); (repeat ((first | with_reducible refine abr_true rfl ?_ | with_reducible refine abr_false rfl ?_ | with_reducible refine abr_yes rfl ?_ | refine abr_yes (by decide) ?_ | refine abr_no (by decide) ?_ | with_reducible refine abr_same_ne ?_); (conv => whnf))))
    refine astore (xs := [i64v ((n : Int) + 1)]) (l := glCells (none, n + 1) tk) hc0 (Nat.le_of_ble_eq_true rfl) rfl rfl ?_
    obtain ⟨σ3, hσ3⟩ : ∃ σ3, σ3 = upd σ id (.cells (glCells (none, n + 1) tk)) := ⟨_, rfl⟩
    rw [← hσ3]
    have hc3 : ∃ tk3, σ3 id = some (.cells (glCells (holdG (none, n) b false true) tk3)) := ⟨tk, by rw [hσ3]; exact upd_same _ _ _⟩
    obtain ⟨g1, hg1⟩ : ∃ g1, g1 = holdG (none, n) b false true := ⟨_, rfl⟩
    have hg2 : g1.2 ≤ n + 1 := by rw [hg1]; exact hold_lost _ _ _ _
    rw [← hg1] at hc3 ⊢
    clear hg1
    have hs3 : Sub σ3 σb := by
      rw [hσ3]
      intro j x hj
      have hne : j ≠ id := fun e => by subst e; rw [h1] at hj; cases hj
      rw [upd_ne _ _ hne]; exact hsb _ _ hj
    ((conv => whnf); (repeat ((first | with_reducible refine abr_true rfl ?_ | with_reducible refine abr_false rfl ?_ | with_reducible refine abr_yes rfl ?_ | refine abr_yes (by decide) ?_ | refine abr_no (by decide) ?_ | with_reducible refine abr_same_ne ?_); (conv => whnf))))
  all_goals
    obtain ⟨tk3, hc3⟩ := hc3
    refine aload hc3 rfl ?_
    ((conv => whnf); (repeat ((first | with_reducible refine abr_true rfl ?_ | with_reducible refine abr_false rfl ?_ | with_reducible refine abr_yes rfl ?_ | refine abr_yes (by decide) ?_ | refine abr_no (by decide) ?_ | with_reducible refine abr_same_ne ?_); (conv => whnf))))
    rw [List.length_map]
    by_cases hlong : (g1.1.getD []).length > 1000
    · refine abr_yes (by omega) ?_
      ((conv => whnf); (repeat ((first | with_reducible refine abr_true rfl ?_ | with_reducible refine abr_false rfl ?_ | with_reducible refine abr_yes rfl ?_ | refine abr_yes (by decide) ?_ | refine abr_no (by decide) ?_ | with_reducible refine abr_same_ne ?_); (conv => whnf))))
      refine acall (gLose id g1 _ _ (Gl.at hc3) (by omega)) ?_
      rintro _ σ4 w4
      ((conv => whnf); (repeat ((first | with_reducible refine abr_true rfl ?_ | with_reducible refine abr_false rfl ?_ | with_reducible refine abr_yes rfl ?_ | refine abr_yes (by decide) ?_ | refine abr_no (by decide) ?_ | with_reducible refine abr_same_ne ?_); (conv => whnf))))
      obtain ⟨tk4, hc4⟩ := w4.cell
      have hs4 := w4.sub.trans (sub_del hs3 h1)
      rw [show cutG g1 = loseG g1 from if_pos hlong]
      obtain ⟨σ', k1, k2⟩ := gl_of hc4 h1 hs4
      first
        | refine aload hc4 rfl ?_
          ((conv => whnf); (repeat ((first | with_reducible refine abr_true rfl ?_ | with_reducible refine abr_false rfl ?_ | with_reducible refine abr_yes rfl ?_ | refine abr_yes (by decide) ?_ | refine abr_no (by decide) ?_ | with_reducible refine abr_same_ne ?_); (conv => whnf))))
          exact aret VLe.tup_sl k1 ⟨rfl, k2⟩
        | exact aret VLe.tup_sl k1 ⟨rfl, k2⟩
    · refine abr_no (by omega) ?_
      ((conv => whnf); (repeat ((first | with_reducible refine abr_true rfl ?_ | with_reducible refine abr_false rfl ?_ | with_reducible refine abr_yes rfl ?_ | refine abr_yes (by decide) ?_ | refine abr_no (by decide) ?_ | with_reducible refine abr_same_ne ?_); (conv => whnf))))
      rw [show cutG g1 = g1 from if_neg hlong]
      obtain ⟨o1, n1⟩ := g1
      first
        | refine aload hc3 rfl ?_
          ((conv => whnf); (repeat ((first | with_reducible refine abr_true rfl ?_ | with_reducible refine abr_false rfl ?_ | with_reducible refine abr_yes rfl ?_ | refine abr_yes (by decide) ?_ | refine abr_no (by decide) ?_ | with_reducible refine abr_same_ne ?_); (conv => whnf))))
          cases o1 with
          | none =>
            ((conv => whnf); (repeat ((first | with_reducible refine abr_true rfl ?_ | with_reducible refine abr_false rfl ?_ | with_reducible refine abr_yes rfl ?_ | refine abr_yes (by decide) ?_ | refine abr_no (by decide) ?_ | with_reducible refine abr_same_ne ?_); (conv => whnf))))
            obtain ⟨σ', k1, k2⟩ := gl_of hc3 h1 hs3
            exact aret VLe.tup_sl k1 ⟨rfl, k2⟩
          | some x =>
            ((conv => whnf); (repeat ((first | with_reducible refine abr_true rfl ?_ | with_reducible refine abr_false rfl ?_ | with_reducible refine abr_yes rfl ?_ | refine abr_yes (by decide) ?_ | refine abr_no (by decide) ?_ | with_reducible refine abr_same_ne ?_); (conv => whnf))))
            refine aload hc3 rfl ?_
            ((conv => whnf); (repeat ((first | with_reducible refine abr_true rfl ?_ | with_reducible refine abr_false rfl ?_ | with_reducible refine abr_yes rfl ?_ | refine abr_yes (by decide) ?_ | refine abr_no (by decide) ?_ | with_reducible refine abr_same_ne ?_); (conv => whnf))))
            refine acall (gDrop id _ _ _ (Gl.at hc3)) ?_
            rintro _ σ4 w4
            ((conv => whnf); (repeat ((first | with_reducible refine abr_true rfl ?_ | with_reducible refine abr_false rfl ?_ | with_reducible refine abr_yes rfl ?_ | refine abr_yes (by decide) ?_ | refine abr_no (by decide) ?_ | with_reducible refine abr_same_ne ?_); (conv => whnf))))
            obtain ⟨tk4, hc4⟩ := w4.cell
            have hs4 := w4.sub.trans (sub_del hs3 h1)
            obtain ⟨σ', k1, k2⟩ := gl_of hc4 h1 hs4
            exact aret VLe.tup_sl k1 ⟨rfl, k2⟩
        | obtain ⟨σ', k1, k2⟩ := gl_of hc3 h1 hs3
          exact aret VLe.tup_sl k1 ⟨rfl, k2⟩
end Go.Proofs.Ytiohpnkfcaahbaa

