/-
  Texts of this claim, pack 13: Cglue, Cglueb, Cglw, Claw20w.
-/
import Derived.Test.YtgipkpghabelkaaK3
import Derived.Test.YtgipkpghabelkaaK5
import Derived.Test.YtgipkpghabelkaaK6
import Derived.Test.YtgipkpghabelkaaK8
import Derived.Test.YtgipkpghabelkaaK12
/-
  What a glue does.
-/
namespace Go.Proofs.Ytgipkpghabelkaa
set_option linter.unusedVariables false
set_option linter.unusedSimpArgs false
open Go Go.Am

/-- What a glue holds: a text's beginning, if one is held; how many texts were lost. -/
abbrev GS := Option (List UInt8) × Nat
def glCells (g : GS) (tk : Tok) : List AVal := [boolv true, sl tk (g.1.getD []), boolv g.1.isSome, i64v g.2]
def Gl (σ : AHeap) (id : Nat) (g : GS) (σb : AHeap) : Prop := σb id = none ∧ ∃ tk, σ = upd σb id (.cells (glCells g tk))
theorem Gl.at {σ : AHeap} {id : Nat} {g : GS} {tk : Tok} (h : σ id = some (.cells (glCells g tk))) : Gl σ id g (del σ id) := by
  refine ⟨del_same _ _, tk, ?_⟩
  funext j
  by_cases e : j = id
  · subst e; rw [upd_same]; exact h
  · rw [upd_ne _ _ e, del_ne _ e]
theorem gl_of {σ σb : AHeap} {id : Nat} {g : GS} {tk : Tok} (h : σ id = some (.cells (glCells g tk))) (h1 : σb id = none) (hs : Sub σ σb) : ∃ σ', Sub σ σ' ∧ Gl σ' id g σb := by
  refine ⟨upd σb id (.cells (glCells g tk)), fun j o hj => ?_, h1, tk, rfl⟩
  by_cases e : j = id
  · subst e; rw [upd_same] at hj; rw [← hj]; exact h
  · rw [upd_ne _ _ e] at hj; exact hs _ _ hj
theorem Gl.sub {σ σb : AHeap} {id : Nat} {g : GS} (h : Gl σ id g σb) : Sub σ σb := by
  obtain ⟨h1, tk, rfl⟩ := h
  exact Sub.upd_fresh _ h1
theorem Gl.ext {σ σb : AHeap} {id : Nat} {g : GS} (h : Gl σ id g σb) : Ext σb σ := by
  obtain ⟨h1, tk, rfl⟩ := h
  exact Ext.upd_fresh _ h1
theorem Gl.cell {σ σb : AHeap} {id : Nat} {g : GS} (h : Gl σ id g σb) : ∃ tk, σ id = some (.cells (glCells g tk)) := by
  obtain ⟨h1, tk, rfl⟩ := h
  exact ⟨tk, upd_same _ _ _⟩

theorem gNew (σ : AHeap) : ACalls Try.prog i_glue_New [] σ fun v σ' => ∃ id, v = .ptr id 0 ∧ Gl σ' id (none, 0) σ := by
  refine k_glue_New rfl ?_
  ((conv => whnf); (repeat ((first | with_reducible (first | refine zT rfl ?_ | refine zF rfl ?_ | refine zY rfl ?_) | refine zY (by decide) ?_ | refine zN (by decide) ?_ | with_reducible refine zQ ?_); (conv => whnf))))
  refine anew rfl fun id hid => ?_
  ((conv => whnf); (repeat ((first | with_reducible (first | refine zT rfl ?_ | refine zF rfl ?_ | refine zY rfl ?_) | refine zY (by decide) ?_ | refine zN (by decide) ?_ | with_reducible refine zQ ?_); (conv => whnf))))
  exact aret_same ⟨id, rfl, hid, .full, rfl⟩
theorem gHeld (id : Nat) (g : GS) (σ σb : AHeap) (h : Gl σ id g σb) : ACalls Try.prog i_glue_Glue_Held [.ptr id 0] σ fun v σ' => v = i64v (g.1.getD []).length ∧ σ' = σ := by
  obtain ⟨tk, hc⟩ := h.cell
  refine k_glue_Glue_Held rfl ?_
  ((conv => whnf); (repeat ((first | with_reducible (first | refine zT rfl ?_ | refine zF rfl ?_ | refine zY rfl ?_) | refine zY (by decide) ?_ | refine zN (by decide) ?_ | with_reducible refine zQ ?_); (conv => whnf))))
  refine aload hc rfl ?_
  ((conv => whnf); (repeat ((first | with_reducible (first | refine zT rfl ?_ | refine zF rfl ?_ | refine zY rfl ?_) | refine zY (by decide) ?_ | refine zN (by decide) ?_ | with_reducible refine zQ ?_); (conv => whnf))))
  exact aret_same ⟨by rw [List.length_map], rfl⟩
theorem gLost (id : Nat) (g : GS) (σ σb : AHeap) (h : Gl σ id g σb) : ACalls Try.prog i_glue_Glue_Lost [.ptr id 0] σ fun v σ' => v = i64v g.2 ∧ σ' = σ := by
  obtain ⟨tk, hc⟩ := h.cell
  refine k_glue_Glue_Lost rfl ?_
  ((conv => whnf); (repeat ((first | with_reducible (first | refine zT rfl ?_ | refine zF rfl ?_ | refine zY rfl ?_) | refine zY (by decide) ?_ | refine zN (by decide) ?_ | with_reducible refine zQ ?_); (conv => whnf))))
  refine aload hc rfl ?_
  ((conv => whnf); (repeat ((first | with_reducible (first | refine zT rfl ?_ | refine zF rfl ?_ | refine zY rfl ?_) | refine zY (by decide) ?_ | refine zN (by decide) ?_ | with_reducible refine zQ ?_); (conv => whnf))))
  exact aret_same ⟨rfl, rfl⟩
theorem gDrop (id : Nat) (g : GS) (σ σb : AHeap) (h : Gl σ id g σb) : ACalls Try.prog i_glue_Glue_Drop [.ptr id 0] σ fun v σ' => Gl σ' id (none, g.2) σb := by
  obtain ⟨h1, tk, rfl⟩ := h
  refine k_glue_Glue_Drop rfl ?_
  ((conv => whnf); (repeat ((first | with_reducible (first | refine zT rfl ?_ | refine zF rfl ?_ | refine zY rfl ?_) | refine zY (by decide) ?_ | refine zN (by decide) ?_ | with_reducible refine zQ ?_); (conv => whnf))))
  refine astore (xs := [.slice 1 [] .full]) (l := [boolv true, sl .full [], boolv g.1.isSome, i64v g.2]) (upd_same _ _ _) (Nat.le_of_ble_eq_true rfl) rfl rfl ?_
  rw [upd_upd]
  ((conv => whnf); (repeat ((first | with_reducible (first | refine zT rfl ?_ | refine zF rfl ?_ | refine zY rfl ?_) | refine zY (by decide) ?_ | refine zN (by decide) ?_ | with_reducible refine zQ ?_); (conv => whnf))))
  refine astore (xs := [boolv false]) (l := [boolv true, sl .full [], boolv false, i64v g.2]) (upd_same _ _ _) (Nat.le_of_ble_eq_true rfl) rfl rfl ?_
  rw [upd_upd]
  ((conv => whnf); (repeat ((first | with_reducible (first | refine zT rfl ?_ | refine zF rfl ?_ | refine zY rfl ?_) | refine zY (by decide) ?_ | refine zN (by decide) ?_ | with_reducible refine zQ ?_); (conv => whnf))))
  exact aret_same ⟨h1, .full, rfl⟩
def loseG (g : GS) : GS := (none, g.2 + g.1.isSome.toNat)
theorem gLose (id : Nat) (g : GS) (σ σb : AHeap) (h : Gl σ id g σb) (hl : g.2 ≤ 1000000000) : ACalls Try.prog i_glue_Glue_lose [.ptr id 0] σ fun v σ' => Gl σ' id (loseG g) σb := by
  have h0 := h
  obtain ⟨h1, tk, rfl⟩ := h
  refine k_glue_Glue_lose rfl ?_
  ((conv => whnf); (repeat ((first | with_reducible (first | refine zT rfl ?_ | refine zF rfl ?_ | refine zY rfl ?_) | refine zY (by decide) ?_ | refine zN (by decide) ?_ | with_reducible refine zQ ?_); (conv => whnf))))
  refine aload (upd_same _ _ _) rfl ?_
  ((conv => whnf); (repeat ((first | with_reducible (first | refine zT rfl ?_ | refine zF rfl ?_ | refine zY rfl ?_) | refine zY (by decide) ?_ | refine zN (by decide) ?_ | with_reducible refine zQ ?_); (conv => whnf))))
  obtain ⟨o, n⟩ := g
  cases o with
  | none =>
    ((conv => whnf); (repeat ((first | with_reducible (first | refine zT rfl ?_ | refine zF rfl ?_ | refine zY rfl ?_) | refine zY (by decide) ?_ | refine zN (by decide) ?_ | with_reducible refine zQ ?_); (conv => whnf))))
    refine acall (gDrop id _ _ _ h0) ?_
    rintro v σ' w
    ((conv => whnf); (repeat ((first | with_reducible (first | refine zT rfl ?_ | refine zF rfl ?_ | refine zY rfl ?_) | refine zY (by decide) ?_ | refine zN (by decide) ?_ | with_reducible refine zQ ?_); (conv => whnf))))
    exact aret_same w
  | some x =>
    ((conv => whnf); (repeat ((first | with_reducible (first | refine zT rfl ?_ | refine zF rfl ?_ | refine zY rfl ?_) | refine zY (by decide) ?_ | refine zN (by decide) ?_ | with_reducible refine zQ ?_); (conv => whnf))))
    refine aload (upd_same _ _ _) rfl ?_
    ((conv => whnf); (repeat ((first | with_reducible (first | refine zT rfl ?_ | refine zF rfl ?_ | refine zY rfl ?_) | refine zY (by decide) ?_ | refine zN (by decide) ?_ | with_reducible refine zQ ?_); (conv => whnf))))
    refine afit_i64 (by dsimp only at hl ⊢; omega) ?_
    ((conv => whnf); (repeat ((first | with_reducible (first | refine zT rfl ?_ | refine zF rfl ?_ | refine zY rfl ?_) | refine zY (by decide) ?_ | refine zN (by decide) ?_ | with_reducible refine zQ ?_); (conv => whnf))))
    refine astore (xs := [i64v ((n : Int) + 1)]) (l := glCells (some x, n + 1) tk) (upd_same _ _ _) (Nat.le_of_ble_eq_true rfl) rfl rfl ?_
    rw [upd_upd]
    ((conv => whnf); (repeat ((first | with_reducible (first | refine zT rfl ?_ | refine zF rfl ?_ | refine zY rfl ?_) | refine zY (by decide) ?_ | refine zN (by decide) ?_ | with_reducible refine zQ ?_); (conv => whnf))))
    refine acall (gDrop id (some x, n + 1) _ σb ⟨h1, tk, rfl⟩) ?_
    rintro v σ' w
    ((conv => whnf); (repeat ((first | with_reducible (first | refine zT rfl ?_ | refine zF rfl ?_ | refine zY rfl ?_) | refine zY (by decide) ?_ | refine zN (by decide) ?_ | with_reducible refine zQ ?_); (conv => whnf))))
    exact aret_same w

/-- A field is taken: the text that it ends, and what is held behind it. -/
def holdG (g : GS) (b : List UInt8) (begins ends : Bool) : GS :=
  if begins = true then (some b, g.2 + g.1.isSome.toNat) else match g.1 with
    | some h => (some (h ++ b), g.2)
    | none => (none, g.2 + ends.toNat)
def cutG (g : GS) : GS := if (g.1.getD []).length > 1000 then loseG g else g
def endG (g : GS) (ends : Bool) : Option (List UInt8) × GS := if ends = true ∧ g.1.isSome = true then (g.1, (none, g.2)) else (none, g)
def fieldG (g : GS) (b : List UInt8) (begins ends : Bool) : Option (List UInt8) × GS := endG (cutG (holdG g b begins ends)) ends
theorem cutG_held (g : GS) : ((cutG g).1.getD []).length ≤ 1000 := by
  unfold cutG loseG
  split
  · simp
  · omega
theorem fieldG_held (g : GS) (b : List UInt8) (begins ends : Bool) : ((fieldG g b begins ends).2.1.getD []).length ≤ 1000 := by
  unfold fieldG endG
  split
  · simp
  · exact cutG_held _
theorem fieldG_lost (g : GS) (b : List UInt8) (begins ends : Bool) : (fieldG g b begins ends).2.2 ≤ g.2 + 2 := by
  have h1 : (holdG g b begins ends).2 ≤ g.2 + 1 := by
    unfold holdG
    split
    · dsimp only; cases g.1.isSome <;> simp
    · split
      · dsimp only; omega
      · dsimp only; cases ends <;> simp
  have h2 : ∀ x : GS, (cutG x).2 ≤ x.2 + 1 := by
    intro x
    unfold cutG loseG
    split
    · dsimp only; cases x.1.isSome <;> simp
    · omega
  have h3 := h2 (holdG g b begins ends)
  unfold fieldG endG
  split
  · dsimp only; omega
  · dsimp only; omega

theorem hold_lost (g : GS) (b : List UInt8) (begins ends : Bool) : (holdG g b begins ends).2 ≤ g.2 + 1 := by
  unfold holdG
  split
  · dsimp only; cases g.1.isSome <;> simp
  · split
    · dsimp only; omega
    · dsimp only; cases ends <;> simp

set_option maxRecDepth 20000 in
theorem gField (id : Nat) (g : GS) (b : List UInt8) (t : Tok) (begins ends : Bool) (σ σb : AHeap) (h : Gl σ id g σb) (hl : g.2 ≤ 100000000) (hh : (g.1.getD []).length ≤ 1000) (hb : b.length ≤ 140737488351232) :
    ACalls Try.prog i_glue_Glue_field [.ptr id 0, sl t b, boolv begins, boolv ends] σ fun v σ' => v = .tup [sl .none ((fieldG g b begins ends).1.getD []), boolv (fieldG g b begins ends).1.isSome] ∧ Gl σ' id (fieldG g b begins ends).2 σb := by
  have h0 := h
  obtain ⟨h1, tk, hσ⟩ := h
  refine k_glue_Glue_field rfl ?_
  obtain ⟨o, n⟩ := g
  dsimp only at hl hh
  have hlen : (List.map byteV (o.getD [])).length = (o.getD []).length := List.length_map ..
  unfold fieldG
  have hsb : Sub σ σb := h0.sub
  have hc0 : σ id = some (.cells (glCells (o, n) tk)) := by rw [hσ]; exact upd_same _ _ _
  rcases Bool.eq_false_or_eq_true begins with hbe | hbe <;> subst hbe
  case' inl =>
    ((conv => whnf); (repeat ((first | with_reducible (first | refine zT rfl ?_ | refine zF rfl ?_ | refine zY rfl ?_) | refine zY (by decide) ?_ | refine zN (by decide) ?_ | with_reducible refine zQ ?_); (conv => whnf))))
    refine acall (gLose id _ _ _ h0 (by dsimp only; omega)) ?_
    rintro v σ1 w1
    ((conv => whnf); (repeat ((first | with_reducible (first | refine zT rfl ?_ | refine zF rfl ?_ | refine zY rfl ?_) | refine zY (by decide) ?_ | refine zN (by decide) ?_ | with_reducible refine zQ ?_); (conv => whnf))))
    refine acall (Clone b _ _ (by omega)) ?_
    rintro v σ2 ⟨tk2, ho, rfl⟩
    refine ⟨?_, ho.ext⟩
    ((conv => whnf); (repeat ((first | with_reducible (first | refine zT rfl ?_ | refine zF rfl ?_ | refine zY rfl ?_) | refine zY (by decide) ?_ | refine zN (by decide) ?_ | with_reducible refine zQ ?_); (conv => whnf))))
    have hs1 := w1.sub
    obtain ⟨tk3, hc3⟩ := w1.cell
    have hc1 := ho.same_of hc3
    refine astore (xs := [sl tk2 b]) (l := [boolv true, sl tk2 b, boolv false, i64v (n + o.isSome.toNat : Nat)]) hc1 (Nat.le_of_ble_eq_true rfl) rfl rfl ?_
    ((conv => whnf); (repeat ((first | with_reducible (first | refine zT rfl ?_ | refine zF rfl ?_ | refine zY rfl ?_) | refine zY (by decide) ?_ | refine zN (by decide) ?_ | with_reducible refine zQ ?_); (conv => whnf))))
    refine astore (xs := [boolv true]) (l := glCells (some b, n + o.isSome.toNat) tk2) (upd_same _ _ _) (Nat.le_of_ble_eq_true rfl) rfl rfl ?_
    rw [upd_upd]
    have hs2 : Sub σ2 σb := ho.sub.trans hs1
    obtain ⟨σ3, hσ3⟩ : ∃ σ3, σ3 = upd σ2 id (.cells (glCells (some b, n + o.isSome.toNat) tk2)) := ⟨_, rfl⟩
    rw [← hσ3]
    have hc3 : ∃ tk3, σ3 id = some (.cells (glCells (holdG (o, n) b true ends) tk3)) := ⟨tk2, by rw [hσ3]; exact upd_same _ _ _⟩
    obtain ⟨g1, hg1⟩ : ∃ g1, g1 = holdG (o, n) b true ends := ⟨_, rfl⟩
    have hg2 : g1.2 ≤ n + 1 := by rw [hg1]; exact hold_lost _ _ _ _
    rw [← hg1] at hc3 ⊢
    clear hg1
    have hs3 : Sub σ3 σb := by
      rw [hσ3]
      intro j x hj
      have hne : j ≠ id := fun e => by subst e; rw [h1] at hj; cases hj
      rw [upd_ne _ _ hne]; exact hs2 _ _ hj
    ((conv => whnf); (repeat ((first | with_reducible (first | refine zT rfl ?_ | refine zF rfl ?_ | refine zY rfl ?_) | refine zY (by decide) ?_ | refine zN (by decide) ?_ | with_reducible refine zQ ?_); (conv => whnf))))
    cases ends
  case' inr =>
    ((conv => whnf); (repeat ((first | with_reducible (first | refine zT rfl ?_ | refine zF rfl ?_ | refine zY rfl ?_) | refine zY (by decide) ?_ | refine zN (by decide) ?_ | with_reducible refine zQ ?_); (conv => whnf))))
    refine aload hc0 rfl ?_
    cases o
  case' inr.some h =>
    ((conv => whnf); (repeat ((first | with_reducible (first | refine zT rfl ?_ | refine zF rfl ?_ | refine zY rfl ?_) | refine zY (by decide) ?_ | refine zN (by decide) ?_ | with_reducible refine zQ ?_); (conv => whnf))))
    refine aload hc0 rfl ?_
    ((conv => whnf); (repeat ((first | with_reducible (first | refine zT rfl ?_ | refine zF rfl ?_ | refine zY rfl ?_) | refine zY (by decide) ?_ | refine zN (by decide) ?_ | with_reducible refine zQ ?_); (conv => whnf))))
    refine aload hc0 rfl ?_
    ((conv => whnf); (repeat ((first | with_reducible (first | refine zT rfl ?_ | refine zF rfl ?_ | refine zY rfl ?_) | refine zY (by decide) ?_ | refine zN (by decide) ?_ | with_reducible refine zQ ?_); (conv => whnf))))
    refine aload hc0 rfl ?_
    ((conv => whnf); (repeat ((first | with_reducible (first | refine zT rfl ?_ | refine zF rfl ?_ | refine zY rfl ?_) | refine zY (by decide) ?_ | refine zN (by decide) ?_ | with_reducible refine zQ ?_); (conv => whnf))))
    rw [List.length_map]
    refine acut (by omega) (by omega) (Int.le_refl _) ?_
    ((conv => whnf); (repeat ((first | with_reducible (first | refine zT rfl ?_ | refine zF rfl ?_ | refine zY rfl ?_) | refine zY (by decide) ?_ | refine zN (by decide) ?_ | with_reducible refine zQ ?_); (conv => whnf))))
    refine ⟨rfl, rfl, ?_⟩
    rw [show (0 : Int).toNat = 0 from rfl, List.drop_zero, Int.toNat_natCast, List.take_of_length_le (by rw [List.length_map]; exact Nat.le_refl _)]
    ((conv => whnf); (repeat ((first | with_reducible (first | refine zT rfl ?_ | refine zF rfl ?_ | refine zY rfl ?_) | refine zY (by decide) ?_ | refine zN (by decide) ?_ | with_reducible refine zQ ?_); (conv => whnf))))
    refine aapp_full (by rw [List.length_map, List.length_map]; have : h.length ≤ 1000 := hh; show (h.length + b.length) * 1 ≤ _; omega) fun t2 ht2 => ?_
    rw [← List.map_append]
    ((conv => whnf); (repeat ((first | with_reducible (first | refine zT rfl ?_ | refine zF rfl ?_ | refine zY rfl ?_) | refine zY (by decide) ?_ | refine zN (by decide) ?_ | with_reducible refine zQ ?_); (conv => whnf))))
    have hne2 : id ≠ t2 := fun e => by subst e; rw [hc0] at ht2; cases ht2
    refine astore (xs := [sl (.tip t2) (h ++ b)]) (l := glCells (some (h ++ b), n) (.tip t2)) (by rw [upd_ne _ _ hne2]; exact hc0) (Nat.le_of_ble_eq_true rfl) rfl rfl ?_
    obtain ⟨σ3, hσ3⟩ : ∃ σ3, σ3 = upd (upd σ t2 .tip) id (.cells (glCells (some (h ++ b), n) (.tip t2))) := ⟨_, rfl⟩
    rw [← hσ3]
    have hc3 : ∃ tk3, σ3 id = some (.cells (glCells (holdG (some h, n) b false ends) tk3)) := ⟨.tip t2, by rw [hσ3]; exact upd_same _ _ _⟩
    obtain ⟨g1, hg1⟩ : ∃ g1, g1 = holdG (some h, n) b false ends := ⟨_, rfl⟩
    have hg2 : g1.2 ≤ n + 1 := by rw [hg1]; exact hold_lost _ _ _ _
    rw [← hg1] at hc3 ⊢
    clear hg1
    have hs3 : Sub σ3 σb := by
      rw [hσ3]
      intro j x hj
      have hne : j ≠ id := fun e => by subst e; rw [h1] at hj; cases hj
      rw [upd_ne _ _ hne]; exact ((Sub.upd_fresh _ ht2).trans hsb) _ _ hj
    ((conv => whnf); (repeat ((first | with_reducible (first | refine zT rfl ?_ | refine zF rfl ?_ | refine zY rfl ?_) | refine zY (by decide) ?_ | refine zN (by decide) ?_ | with_reducible refine zQ ?_); (conv => whnf))))
    cases ends
  case' inr.none =>
    ((conv => whnf); (repeat ((first | with_reducible (first | refine zT rfl ?_ | refine zF rfl ?_ | refine zY rfl ?_) | refine zY (by decide) ?_ | refine zN (by decide) ?_ | with_reducible refine zQ ?_); (conv => whnf))))
    cases ends
  case' inr.none.false =>
    ((conv => whnf); (repeat ((first | with_reducible (first | refine zT rfl ?_ | refine zF rfl ?_ | refine zY rfl ?_) | refine zY (by decide) ?_ | refine zN (by decide) ?_ | with_reducible refine zQ ?_); (conv => whnf))))
    obtain ⟨σ3, hσ3⟩ : ∃ σ3, σ3 = σ := ⟨_, rfl⟩
    rw [← hσ3]
    have hc3 : ∃ tk3, σ3 id = some (.cells (glCells (holdG (none, n) b false false) tk3)) := ⟨tk, by rw [hσ3]; exact hc0⟩
    obtain ⟨g1, hg1⟩ : ∃ g1, g1 = holdG (none, n) b false false := ⟨_, rfl⟩
    have hg2 : g1.2 ≤ n + 1 := by rw [hg1]; exact hold_lost _ _ _ _
    rw [← hg1] at hc3 ⊢
    clear hg1
    have hs3 : Sub σ3 σb := by rw [hσ3]; exact hsb
  case' inr.none.true =>
    ((conv => whnf); (repeat ((first | with_reducible (first | refine zT rfl ?_ | refine zF rfl ?_ | refine zY rfl ?_) | refine zY (by decide) ?_ | refine zN (by decide) ?_ | with_reducible refine zQ ?_); (conv => whnf))))
    refine aload hc0 rfl ?_
    ((conv => whnf); (repeat ((first | with_reducible (first | refine zT rfl ?_ | refine zF rfl ?_ | refine zY rfl ?_) | refine zY (by decide) ?_ | refine zN (by decide) ?_ | with_reducible refine zQ ?_); (conv => whnf))))
    refine afit_i64 (by omega) ?_
    ((conv => whnf); (repeat ((first | with_reducible (first | refine zT rfl ?_ | refine zF rfl ?_ | refine zY rfl ?_) | refine zY (by decide) ?_ | refine zN (by decide) ?_ | with_reducible refine zQ ?_); (conv => whnf))))
    refine astore (xs := [i64v ((n : Int) + 1)]) (l := glCells (none, n + 1) tk) hc0 (Nat.le_of_ble_eq_true rfl) rfl rfl ?_
    obtain ⟨σ3, hσ3⟩ : ∃ σ3, σ3 = upd σ id (.cells (glCells (none, n + 1) tk)) := ⟨_, rfl⟩
    rw [← hσ3]
    have hc3 : ∃ tk3, σ3 id = some (.cells (glCells (holdG (none, n) b false true) tk3)) := ⟨tk, by rw [hσ3]; exact upd_same _ _ _⟩
    obtain ⟨g1, hg1⟩ : ∃ g1, g1 = holdG (none, n) b false true := ⟨_, rfl⟩
    have hg2 : g1.2 ≤ n + 1 := by rw [hg1]; exact hold_lost _ _ _ _
    rw [← hg1] at hc3 ⊢
    clear hg1
    have hs3 : Sub σ3 σb := by
      rw [hσ3]
      intro j x hj
      have hne : j ≠ id := fun e => by subst e; rw [h1] at hj; cases hj
      rw [upd_ne _ _ hne]; exact hsb _ _ hj
    ((conv => whnf); (repeat ((first | with_reducible (first | refine zT rfl ?_ | refine zF rfl ?_ | refine zY rfl ?_) | refine zY (by decide) ?_ | refine zN (by decide) ?_ | with_reducible refine zQ ?_); (conv => whnf))))
  all_goals
    obtain ⟨tk3, hc3⟩ := hc3
    refine aload hc3 rfl ?_
    ((conv => whnf); (repeat ((first | with_reducible (first | refine zT rfl ?_ | refine zF rfl ?_ | refine zY rfl ?_) | refine zY (by decide) ?_ | refine zN (by decide) ?_ | with_reducible refine zQ ?_); (conv => whnf))))
    rw [List.length_map]
    by_cases hlong : (g1.1.getD []).length > 1000
    · refine abr_yes (by omega) ?_
      ((conv => whnf); (repeat ((first | with_reducible (first | refine zT rfl ?_ | refine zF rfl ?_ | refine zY rfl ?_) | refine zY (by decide) ?_ | refine zN (by decide) ?_ | with_reducible refine zQ ?_); (conv => whnf))))
      refine acall (gLose id g1 _ _ (Gl.at hc3) (by omega)) ?_
      rintro _ σ4 w4
      ((conv => whnf); (repeat ((first | with_reducible (first | refine zT rfl ?_ | refine zF rfl ?_ | refine zY rfl ?_) | refine zY (by decide) ?_ | refine zN (by decide) ?_ | with_reducible refine zQ ?_); (conv => whnf))))
      obtain ⟨tk4, hc4⟩ := w4.cell
      have hs4 := w4.sub.trans (sub_del hs3 h1)
      rw [show cutG g1 = loseG g1 from if_pos hlong]
      obtain ⟨σ', k1, k2⟩ := gl_of hc4 h1 hs4
      first
        | refine aload hc4 rfl ?_
          ((conv => whnf); (repeat ((first | with_reducible (first | refine zT rfl ?_ | refine zF rfl ?_ | refine zY rfl ?_) | refine zY (by decide) ?_ | refine zN (by decide) ?_ | with_reducible refine zQ ?_); (conv => whnf))))
          exact aret VLe.tup_sl k1 ⟨rfl, k2⟩
        | exact aret VLe.tup_sl k1 ⟨rfl, k2⟩
    · refine abr_no (by omega) ?_
      ((conv => whnf); (repeat ((first | with_reducible (first | refine zT rfl ?_ | refine zF rfl ?_ | refine zY rfl ?_) | refine zY (by decide) ?_ | refine zN (by decide) ?_ | with_reducible refine zQ ?_); (conv => whnf))))
      rw [show cutG g1 = g1 from if_neg hlong]
      obtain ⟨o1, n1⟩ := g1
      first
        | refine aload hc3 rfl ?_
          ((conv => whnf); (repeat ((first | with_reducible (first | refine zT rfl ?_ | refine zF rfl ?_ | refine zY rfl ?_) | refine zY (by decide) ?_ | refine zN (by decide) ?_ | with_reducible refine zQ ?_); (conv => whnf))))
          cases o1 with
          | none =>
            ((conv => whnf); (repeat ((first | with_reducible (first | refine zT rfl ?_ | refine zF rfl ?_ | refine zY rfl ?_) | refine zY (by decide) ?_ | refine zN (by decide) ?_ | with_reducible refine zQ ?_); (conv => whnf))))
            obtain ⟨σ', k1, k2⟩ := gl_of hc3 h1 hs3
            exact aret VLe.tup_sl k1 ⟨rfl, k2⟩
          | some x =>
            ((conv => whnf); (repeat ((first | with_reducible (first | refine zT rfl ?_ | refine zF rfl ?_ | refine zY rfl ?_) | refine zY (by decide) ?_ | refine zN (by decide) ?_ | with_reducible refine zQ ?_); (conv => whnf))))
            refine aload hc3 rfl ?_
            ((conv => whnf); (repeat ((first | with_reducible (first | refine zT rfl ?_ | refine zF rfl ?_ | refine zY rfl ?_) | refine zY (by decide) ?_ | refine zN (by decide) ?_ | with_reducible refine zQ ?_); (conv => whnf))))
            refine acall (gDrop id _ _ _ (Gl.at hc3)) ?_
            rintro _ σ4 w4
            ((conv => whnf); (repeat ((first | with_reducible (first | refine zT rfl ?_ | refine zF rfl ?_ | refine zY rfl ?_) | refine zY (by decide) ?_ | refine zN (by decide) ?_ | with_reducible refine zQ ?_); (conv => whnf))))
            obtain ⟨tk4, hc4⟩ := w4.cell
            have hs4 := w4.sub.trans (sub_del hs3 h1)
            obtain ⟨σ', k1, k2⟩ := gl_of hc4 h1 hs4
            exact aret VLe.tup_sl k1 ⟨rfl, k2⟩
        | obtain ⟨σ', k1, k2⟩ := gl_of hc3 h1 hs3
          exact aret VLe.tup_sl k1 ⟨rfl, k2⟩
end Go.Proofs.Ytgipkpghabelkaa
/-
  What a glue does with fields.
-/
namespace Go.Proofs.Ytgipkpghabelkaa
set_option linter.unusedVariables false
set_option linter.unusedSimpArgs false
open Go Go.Am

theorem gEmpty (b : List UInt8) (σ : AHeap) : ACalls Try.prog i_glue_Glue_Put_1 [sl .none b] σ fun v σ' => v = boolv (decide (b = [])) ∧ σ' = σ := by
  refine k_glue_Glue_Put_1 rfl ?_
  ((conv => whnf); (repeat ((first | with_reducible (first | refine zT rfl ?_ | refine zF rfl ?_ | refine zY rfl ?_) | refine zY (by decide) ?_ | refine zN (by decide) ?_ | with_reducible refine zQ ?_); (conv => whnf))))
  refine aret_same ⟨?_, rfl⟩
  rw [List.length_map]
  exact congrArg boolv (dec_congr ⟨fun h => List.length_eq_zero_iff.1 (by omega), fun h => by subst h; rfl⟩)
/-- Is one of them empty? -/
def hollow (l : List (List UInt8)) : Bool := l.any fun b => decide (b = [])
theorem gIndex (l : List (List UInt8)) (t : Tok) (σ : AHeap) (hl : l.length ≤ 140737488355328) : ACalls Try.prog i_slices_IndexFunc_byte_byte [lists t l, .func i_glue_Glue_Put_1 [] []] σ fun v σ' => (∃ n : Int, v = i64v n ∧ (n ≥ 0 ↔ hollow l = true)) ∧ σ' = σ := by
  refine k_slices_IndexFunc_byte_byte rfl ?_
  ((conv => whnf); (repeat ((first | with_reducible (first | refine zT rfl ?_ | refine zF rfl ?_ | refine zY rfl ?_) | refine zY (by decide) ?_ | refine zN (by decide) ?_ | with_reducible refine zQ ?_); (conv => whnf))))
  refine aloop (α := Nat) (fun i => [(s8, i64v i)]) (fun _ => σ) (fun i => i ≤ l.length ∧ hollow (l.take i) = false) (fun i => l.length - i) 0 ⟨Nat.zero_le _, rfl⟩ (Sub.refl _) ?_ ?_
  · ((conv => whnf); (repeat ((first | with_reducible (first | refine zT rfl ?_ | refine zF rfl ?_ | refine zY rfl ?_) | refine zY (by decide) ?_ | refine zN (by decide) ?_ | with_reducible refine zQ ?_); (conv => whnf))))
    (repeat' first | with_reducible exact EnvLe.refl _ | (refine EnvLe.node ?_ (by first | exact Or.inl rfl | exact Or.inr (Or.inl rfl) | exact Or.inr (Or.inr ⟨nofun, VLe.slice _ _ _⟩)) ?_))
  rintro i ⟨hi, hw⟩
  by_cases h : i < l.length
  · ((conv => whnf); (repeat ((first | with_reducible (first | refine zT rfl ?_ | refine zF rfl ?_ | refine zY rfl ?_) | refine zY (by decide) ?_ | refine zN (by decide) ?_ | with_reducible refine zQ ?_); (conv => whnf))))
    (repeat ((first | refine aload (by (repeat (first | with_reducible exact upd_same _ _ _ | assumption | rw [upd_ne _ _ (by first | assumption | (apply Ne.symm; assumption))]))) rfl ?_ | refine afit_i64 (by omega) ?_ | refine arem_nonneg (by omega) (by omega) ?_ | refine adiv_i64 (by omega) (by omega) ?_ | refine abr_yes (by omega) ?_ | refine abr_no (by omega) ?_ | refine amin ?_ | refine amax ?_ | refine afit_u64 (by omega) ?_ | refine afit_u8 (by omega) ?_ | rw [List.length_map]); ((conv => whnf); (repeat ((first | with_reducible (first | refine zT rfl ?_ | refine zF rfl ?_ | refine zY rfl ?_) | refine zY (by decide) ?_ | refine zN (by decide) ?_ | with_reducible refine zQ ?_); (conv => whnf))))))
    refine aget (by omega) (get_lists h) ?_
    ((conv => whnf); (repeat ((first | with_reducible (first | refine zT rfl ?_ | refine zF rfl ?_ | refine zY rfl ?_) | refine zY (by decide) ?_ | refine zN (by decide) ?_ | with_reducible refine zQ ?_); (conv => whnf))))
    refine acell rfl ?_
    ((conv => whnf); (repeat ((first | with_reducible (first | refine zT rfl ?_ | refine zF rfl ?_ | refine zY rfl ?_) | refine zY (by decide) ?_ | refine zN (by decide) ?_ | with_reducible refine zQ ?_); (conv => whnf))))
    refine ⟨rfl, ?_⟩
    ((conv => whnf); (repeat ((first | with_reducible (first | refine zT rfl ?_ | refine zF rfl ?_ | refine zY rfl ?_) | refine zY (by decide) ?_ | refine zN (by decide) ?_ | with_reducible refine zQ ?_); (conv => whnf))))
    refine acall (gEmpty l[i] _) ?_
    rintro _ σ_ ⟨rfl, e_⟩
    obtain rfl := e_.symm
    ((conv => whnf); (repeat ((first | with_reducible (first | refine zT rfl ?_ | refine zF rfl ?_ | refine zY rfl ?_) | refine zY (by decide) ?_ | refine zN (by decide) ?_ | with_reducible refine zQ ?_); (conv => whnf))))
    have e : hollow (l.take (i + 1)) = decide (l[i] = []) := by unfold hollow at hw ⊢; rw [List.take_add_one, List.getElem?_eq_getElem h, List.any_append, hw]; simp
    by_cases hc : l[i] = []
    · rw [decide_eq_true hc]
      ((conv => whnf); (repeat ((first | with_reducible (first | refine zT rfl ?_ | refine zF rfl ?_ | refine zY rfl ?_) | refine zY (by decide) ?_ | refine zN (by decide) ?_ | with_reducible refine zQ ?_); (conv => whnf))))
      refine aret_same ⟨⟨_, rfl, ⟨fun _ => ?_, fun _ => by omega⟩⟩, rfl⟩
      exact List.any_eq_true.2 ⟨l[i], List.getElem_mem h, decide_eq_true hc⟩
    · rw [decide_eq_false hc] at e ⊢
      ((conv => whnf); (repeat ((first | with_reducible (first | refine zT rfl ?_ | refine zF rfl ?_ | refine zY rfl ?_) | refine zY (by decide) ?_ | refine zN (by decide) ?_ | with_reducible refine zQ ?_); (conv => whnf))))
      (repeat ((first | refine aload (by (repeat (first | with_reducible exact upd_same _ _ _ | assumption | rw [upd_ne _ _ (by first | assumption | (apply Ne.symm; assumption))]))) rfl ?_ | refine afit_i64 (by omega) ?_ | refine arem_nonneg (by omega) (by omega) ?_ | refine adiv_i64 (by omega) (by omega) ?_ | refine abr_yes (by omega) ?_ | refine abr_no (by omega) ?_ | refine amin ?_ | refine amax ?_ | refine afit_u64 (by omega) ?_ | refine afit_u8 (by omega) ?_ | rw [List.length_map]); ((conv => whnf); (repeat ((first | with_reducible (first | refine zT rfl ?_ | refine zF rfl ?_ | refine zY rfl ?_) | refine zY (by decide) ?_ | refine zN (by decide) ?_ | with_reducible refine zQ ?_); (conv => whnf))))))
      refine ⟨i + 1, ⟨by omega, e⟩, by omega, Sub.refl _, ?_⟩
      ((conv => whnf); (repeat ((first | with_reducible (first | refine zT rfl ?_ | refine zF rfl ?_ | refine zY rfl ?_) | refine zY (by decide) ?_ | refine zN (by decide) ?_ | with_reducible refine zQ ?_); (conv => whnf))))
      (repeat' first | with_reducible exact EnvLe.refl _ | (refine EnvLe.node ?_ (by first | exact Or.inl rfl | exact Or.inr (Or.inl rfl) | exact Or.inr (Or.inr ⟨nofun, VLe.slice _ _ _⟩)) ?_))
  · rw [List.take_of_length_le (by omega)] at hw
    ((conv => whnf); (repeat ((first | with_reducible (first | refine zT rfl ?_ | refine zF rfl ?_ | refine zY rfl ?_) | refine zY (by decide) ?_ | refine zN (by decide) ?_ | with_reducible refine zQ ?_); (conv => whnf))))
    (repeat ((first | refine aload (by (repeat (first | with_reducible exact upd_same _ _ _ | assumption | rw [upd_ne _ _ (by first | assumption | (apply Ne.symm; assumption))]))) rfl ?_ | refine afit_i64 (by omega) ?_ | refine arem_nonneg (by omega) (by omega) ?_ | refine adiv_i64 (by omega) (by omega) ?_ | refine abr_yes (by omega) ?_ | refine abr_no (by omega) ?_ | refine amin ?_ | refine amax ?_ | refine afit_u64 (by omega) ?_ | refine afit_u8 (by omega) ?_ | rw [List.length_map]); ((conv => whnf); (repeat ((first | with_reducible (first | refine zT rfl ?_ | refine zF rfl ?_ | refine zY rfl ?_) | refine zY (by decide) ?_ | refine zN (by decide) ?_ | with_reducible refine zQ ?_); (conv => whnf))))))
    exact aret_same ⟨⟨-1, rfl, ⟨fun h => by omega, fun h => by rw [hw] at h; cases h⟩⟩, rfl⟩
theorem gContains (l : List (List UInt8)) (t : Tok) (σ : AHeap) (hl : l.length ≤ 140737488355328) : ACalls Try.prog i_slices_ContainsFunc_byte_byte [lists t l, .func i_glue_Glue_Put_1 [] []] σ fun v σ' => v = boolv (hollow l) ∧ σ' = σ := by
  refine k_slices_ContainsFunc_byte_byte rfl ?_
  ((conv => whnf); (repeat ((first | with_reducible (first | refine zT rfl ?_ | refine zF rfl ?_ | refine zY rfl ?_) | refine zY (by decide) ?_ | refine zN (by decide) ?_ | with_reducible refine zQ ?_); (conv => whnf))))
  refine acall (gIndex l t _ hl) ?_
  rintro _ σ_ ⟨⟨n, rfl, hn⟩, e_⟩
  obtain rfl := e_.symm
  refine ⟨?_, Ext.refl _⟩
  ((conv => whnf); (repeat ((first | with_reducible (first | refine zT rfl ?_ | refine zF rfl ?_ | refine zY rfl ?_) | refine zY (by decide) ?_ | refine zN (by decide) ?_ | with_reducible refine zQ ?_); (conv => whnf))))
  have e : hollow l = decide (0 ≤ n) := by
    cases hh : hollow l with
    | true => exact (decide_eq_true (hn.2 hh)).symm
    | false => exact (decide_eq_false (fun k => by rw [hn.1 k] at hh; cases hh)).symm
  rw [e]
  exact aret_same ⟨congrArg boolv (dec_congr Iff.rfl), rfl⟩

def beginsG (fi : Int) (i : Nat) : Bool := decide (0 < i) || decide (fi / 2 = 0)
def endsG (fi : Int) (n i : Nat) : Bool := decide (i + 1 < n) || decide (fi % 2 = 0)
/-- The first fields, taken one by one. -/
def putN (fi : Int) (l : List (List UInt8)) (g : GS) : Nat → List (List UInt8) × GS
  | 0 => ([], g)
  | k + 1 => ((putN fi l g k).1 ++ (fieldG (putN fi l g k).2 (l[k]?.getD []) (beginsG fi k) (endsG fi l.length k)).1.toList, (fieldG (putN fi l g k).2 (l[k]?.getD []) (beginsG fi k) (endsG fi l.length k)).2)
theorem putN_ok (fi : Int) (l : List (List UInt8)) (g : GS) (hg : (g.1.getD []).length ≤ 1000) : ∀ k, (putN fi l g k).1.length ≤ k ∧ ((putN fi l g k).2.1.getD []).length ≤ 1000 ∧ (putN fi l g k).2.2 ≤ g.2 + 2 * k
  | 0 => ⟨Nat.le_refl _, hg, by show g.2 ≤ _; omega⟩
  | k + 1 => by
    obtain ⟨h1, h2, h3⟩ := putN_ok fi l g hg k
    unfold putN
    refine ⟨?_, fieldG_held _ _ _ _, ?_⟩
    · rw [List.length_append]
      have : (fieldG (putN fi l g k).2 (l[k]?.getD []) (beginsG fi k) (endsG fi l.length k)).1.toList.length ≤ 1 := by cases (fieldG (putN fi l g k).2 (l[k]?.getD []) (beginsG fi k) (endsG fi l.length k)).1 <;> simp
      omega
    · have := fieldG_lost (putN fi l g k).2 (l[k]?.getD []) (beginsG fi k) (endsG fi l.length k)
      dsimp only
      omega
def gpBad (fi : Int) (l : List (List UInt8)) : Bool := decide (fi < 0) || decide (fi > 3) || decide (l.length = 0) || decide (l.length > 24) || hollow l
def gapG (g : GS) (gap : Bool) : GS := if gap = true then loseG g else g
def putG (fi : Int) (l : List (List UInt8)) (gap : Bool) (g : GS) : List (List UInt8) × GS := if gpBad fi l = true then ([], g) else putN fi l (gapG g gap) l.length
theorem and2 {fi : Int} (h0 : 0 ≤ fi) (h3 : fi ≤ 3) : bitsOp .and .i64 fi 2 = 2 * (fi / 2) := by
  have : fi = 0 ∨ fi = 1 ∨ fi = 2 ∨ fi = 3 := by omega
  rcases this with rfl | rfl | rfl | rfl <;> decide
theorem and1 {fi : Int} (h0 : 0 ≤ fi) (h3 : fi ≤ 3) : bitsOp .and .i64 fi 1 = fi % 2 := by
  have : fi = 0 ∨ fi = 1 ∨ fi = 2 ∨ fi = 3 := by omega
  rcases this with rfl | rfl | rfl | rfl <;> decide

theorem Gl.tips {σ4 σc : AHeap} {id : Nat} {g : GS} {cs : List AVal} (w : Gl σ4 id g (del σc id)) (hc : σc id = some (.cells cs)) : ∀ t, σc t = some .tip → σ4 t = some .tip := by
  intro t ht
  obtain ⟨_, tk', rfl⟩ := w
  have hne : t ≠ id := fun e => by subst e; rw [hc] at ht; cases ht
  rw [upd_ne _ _ hne, del_ne _ hne]; exact ht

set_option maxRecDepth 20000 in
theorem gPut (id : Nat) (fi : Int) (l : List (List UInt8)) (t : Tok) (gap : Bool) (g : GS) (σ σb : AHeap) (h : Gl σ id g σb) (hl : g.2 ≤ 1000000) (hh : (g.1.getD []).length ≤ 1000) (hlen : l.length ≤ 140737488355328) (hb : ∀ f ∈ l, f.length ≤ 140737488351232) :
    ACalls Try.prog i_glue_Glue_Put [.ptr id 0, i64v fi, lists t l, boolv gap] σ fun v σ' => v = .tup [lists .none (putG fi l gap g).1, i64v (if gpBad fi l = true then 1 else 0)] ∧ Gl σ' id (putG fi l gap g).2 σb := by
  have h1 := h.1
  have hsb := h.sub
  obtain ⟨tk0, hc0⟩ := h.cell
  have hg0 : ((gapG g gap).1.getD []).length ≤ 1000 := by
    unfold gapG loseG; split
    · simp
    · exact hh
  have hg1 : (gapG g gap).2 ≤ g.2 + 1 := by
    unfold gapG loseG; split
    · dsimp only; cases g.1.isSome <;> simp
    · omega
  have hn := putN_ok fi l (gapG g gap) hg0
  refine k_glue_Glue_Put rfl ?_
  ((conv => whnf); (repeat ((first | with_reducible (first | refine zT rfl ?_ | refine zF rfl ?_ | refine zY rfl ?_) | refine zY (by decide) ?_ | refine zN (by decide) ?_ | with_reducible refine zQ ?_); (conv => whnf))))
  refine ascope' (α := Nat × Tok × AHeap) (fun x => [(s11, lists x.2.1 (putN fi l (gapG g gap) x.1).1), (s12, i64v x.1), (s13, i64v ((l.length : Int) - 1))]) (fun x => x.2.2) (fun _ => 0)
    (fun x => x.1 < l.length ∧ (∃ tkc, x.2.2 id = some (.cells (glCells (putN fi l (gapG g gap) x.1).2 tkc))) ∧ TokIn x.2.2 σb x.2.1 ∧ Sub x.2.2 σb ∧ (0 ≤ fi ∧ fi ≤ 3 ∧ l.length ≤ 24 ∧ gpBad fi l = false)) (fun x => l.length - x.1) ?_ ?_
  · ((conv => whnf); (repeat ((first | with_reducible (first | refine zT rfl ?_ | refine zF rfl ?_ | refine zY rfl ?_) | refine zY (by decide) ?_ | refine zN (by decide) ?_ | with_reducible refine zQ ?_); (conv => whnf))))
    intro hlab
    ((conv => whnf); (repeat ((first | with_reducible (first | refine zT rfl ?_ | refine zF rfl ?_ | refine zY rfl ?_) | refine zY (by decide) ?_ | refine zN (by decide) ?_ | with_reducible refine zQ ?_); (conv => whnf))))
    refine aload hc0 rfl ?_
    ((conv => whnf); (repeat ((first | with_reducible (first | refine zT rfl ?_ | refine zF rfl ?_ | refine zY rfl ?_) | refine zY (by decide) ?_ | refine zN (by decide) ?_ | with_reducible refine zQ ?_); (conv => whnf))))
    have bad (hb : gpBad fi l = true) : AVal.tup [lists .none [], i64v 1] = .tup [lists .none (putG fi l gap g).1, i64v (if gpBad fi l = true then 1 else 0)] ∧ Gl σ id (putG fi l gap g).2 σb := by
      unfold putG
      rw [if_pos hb, if_pos hb]
      exact ⟨rfl, h⟩
    by_cases b1 : fi < 0
    · (repeat ((first | refine aload (by (repeat (first | with_reducible exact upd_same _ _ _ | assumption | rw [upd_ne _ _ (by first | assumption | (apply Ne.symm; assumption))]))) rfl ?_ | refine afit_i64 (by omega) ?_ | refine arem_nonneg (by omega) (by omega) ?_ | refine adiv_i64 (by omega) (by omega) ?_ | refine abr_yes (by omega) ?_ | refine abr_no (by omega) ?_ | refine amin ?_ | refine amax ?_ | refine afit_u64 (by omega) ?_ | refine afit_u8 (by omega) ?_ | rw [List.length_map]); ((conv => whnf); (repeat ((first | with_reducible (first | refine zT rfl ?_ | refine zF rfl ?_ | refine zY rfl ?_) | refine zY (by decide) ?_ | refine zN (by decide) ?_ | with_reducible refine zQ ?_); (conv => whnf))))))
      exact aret VLe.tup_sl (Sub.refl _) (bad (by unfold gpBad; rw [decide_eq_true b1]; rfl))
    by_cases b2 : fi > 3
    · (repeat ((first | refine aload (by (repeat (first | with_reducible exact upd_same _ _ _ | assumption | rw [upd_ne _ _ (by first | assumption | (apply Ne.symm; assumption))]))) rfl ?_ | refine afit_i64 (by omega) ?_ | refine arem_nonneg (by omega) (by omega) ?_ | refine adiv_i64 (by omega) (by omega) ?_ | refine abr_yes (by omega) ?_ | refine abr_no (by omega) ?_ | refine amin ?_ | refine amax ?_ | refine afit_u64 (by omega) ?_ | refine afit_u8 (by omega) ?_ | rw [List.length_map]); ((conv => whnf); (repeat ((first | with_reducible (first | refine zT rfl ?_ | refine zF rfl ?_ | refine zY rfl ?_) | refine zY (by decide) ?_ | refine zN (by decide) ?_ | with_reducible refine zQ ?_); (conv => whnf))))))
      exact aret VLe.tup_sl (Sub.refl _) (bad (by unfold gpBad; rw [decide_eq_true b2]; simp))
    by_cases b3 : l.length = 0
    · (repeat ((first | refine aload (by (repeat (first | with_reducible exact upd_same _ _ _ | assumption | rw [upd_ne _ _ (by first | assumption | (apply Ne.symm; assumption))]))) rfl ?_ | refine afit_i64 (by omega) ?_ | refine arem_nonneg (by omega) (by omega) ?_ | refine adiv_i64 (by omega) (by omega) ?_ | refine abr_yes (by omega) ?_ | refine abr_no (by omega) ?_ | refine amin ?_ | refine amax ?_ | refine afit_u64 (by omega) ?_ | refine afit_u8 (by omega) ?_ | rw [List.length_map]); ((conv => whnf); (repeat ((first | with_reducible (first | refine zT rfl ?_ | refine zF rfl ?_ | refine zY rfl ?_) | refine zY (by decide) ?_ | refine zN (by decide) ?_ | with_reducible refine zQ ?_); (conv => whnf))))))
      exact aret VLe.tup_sl (Sub.refl _) (bad (by unfold gpBad; rw [decide_eq_true b3]; simp))
    by_cases b4 : l.length > 24
    · (repeat ((first | refine aload (by (repeat (first | with_reducible exact upd_same _ _ _ | assumption | rw [upd_ne _ _ (by first | assumption | (apply Ne.symm; assumption))]))) rfl ?_ | refine afit_i64 (by omega) ?_ | refine arem_nonneg (by omega) (by omega) ?_ | refine adiv_i64 (by omega) (by omega) ?_ | refine abr_yes (by omega) ?_ | refine abr_no (by omega) ?_ | refine amin ?_ | refine amax ?_ | refine afit_u64 (by omega) ?_ | refine afit_u8 (by omega) ?_ | rw [List.length_map]); ((conv => whnf); (repeat ((first | with_reducible (first | refine zT rfl ?_ | refine zF rfl ?_ | refine zY rfl ?_) | refine zY (by decide) ?_ | refine zN (by decide) ?_ | with_reducible refine zQ ?_); (conv => whnf))))))
      exact aret VLe.tup_sl (Sub.refl _) (bad (by unfold gpBad; rw [decide_eq_true b4]; simp))
    (repeat ((first | refine aload (by (repeat (first | with_reducible exact upd_same _ _ _ | assumption | rw [upd_ne _ _ (by first | assumption | (apply Ne.symm; assumption))]))) rfl ?_ | refine afit_i64 (by omega) ?_ | refine arem_nonneg (by omega) (by omega) ?_ | refine adiv_i64 (by omega) (by omega) ?_ | refine abr_yes (by omega) ?_ | refine abr_no (by omega) ?_ | refine amin ?_ | refine amax ?_ | refine afit_u64 (by omega) ?_ | refine afit_u8 (by omega) ?_ | rw [List.length_map]); ((conv => whnf); (repeat ((first | with_reducible (first | refine zT rfl ?_ | refine zF rfl ?_ | refine zY rfl ?_) | refine zY (by decide) ?_ | refine zN (by decide) ?_ | with_reducible refine zQ ?_); (conv => whnf))))))
    refine acall (gContains l t _ (by omega)) ?_
    rintro _ σ_ ⟨rfl, e_⟩
    obtain rfl := e_.symm
    refine ⟨?_, Ext.refl _⟩
    ((conv => whnf); (repeat ((first | with_reducible (first | refine zT rfl ?_ | refine zF rfl ?_ | refine zY rfl ?_) | refine zY (by decide) ?_ | refine zN (by decide) ?_ | with_reducible refine zQ ?_); (conv => whnf))))
    cases b5 : hollow l with
    | true =>
      ((conv => whnf); (repeat ((first | with_reducible (first | refine zT rfl ?_ | refine zF rfl ?_ | refine zY rfl ?_) | refine zY (by decide) ?_ | refine zN (by decide) ?_ | with_reducible refine zQ ?_); (conv => whnf))))
      exact aret VLe.tup_sl (Sub.refl _) (bad (by unfold gpBad; rw [b5]; simp))
    | false =>
      have hgood : gpBad fi l = false := by unfold gpBad; rw [decide_eq_false b1, decide_eq_false b2, decide_eq_false b3, decide_eq_false b4, b5]; rfl
      ((conv => whnf); (repeat ((first | with_reducible (first | refine zT rfl ?_ | refine zF rfl ?_ | refine zY rfl ?_) | refine zY (by decide) ?_ | refine zN (by decide) ?_ | with_reducible refine zQ ?_); (conv => whnf))))
      have key : ∀ σ1, Gl σ1 id (gapG g gap) σb → ∃ tkc, σ1 id = some (.cells (glCells (putN fi l (gapG g gap) 0).2 tkc)) := fun σ1 w => w.cell
      cases gap with
      | false =>
        ((conv => whnf); (repeat ((first | with_reducible (first | refine zT rfl ?_ | refine zF rfl ?_ | refine zY rfl ?_) | refine zY (by decide) ?_ | refine zN (by decide) ?_ | with_reducible refine zQ ?_); (conv => whnf))))
        rw [List.length_map]
        (repeat ((first | refine aload (by (repeat (first | with_reducible exact upd_same _ _ _ | assumption | rw [upd_ne _ _ (by first | assumption | (apply Ne.symm; assumption))]))) rfl ?_ | refine afit_i64 (by omega) ?_ | refine arem_nonneg (by omega) (by omega) ?_ | refine adiv_i64 (by omega) (by omega) ?_ | refine abr_yes (by omega) ?_ | refine abr_no (by omega) ?_ | refine amin ?_ | refine amax ?_ | refine afit_u64 (by omega) ?_ | refine afit_u8 (by omega) ?_ | rw [List.length_map]); ((conv => whnf); (repeat ((first | with_reducible (first | refine zT rfl ?_ | refine zF rfl ?_ | refine zY rfl ?_) | refine zY (by decide) ?_ | refine zN (by decide) ?_ | with_reducible refine zQ ?_); (conv => whnf))))))
        refine hlab _ (fun _ _ _ h => h) _ _ _ _ ⟨(0, .full, σ), rfl, ⟨by dsimp only; omega, key _ h, .full _ _, hsb, by omega, by omega, by omega, hgood⟩, rfl, Sub.refl _, ?_⟩
        ((conv => whnf); (repeat ((first | with_reducible (first | refine zT rfl ?_ | refine zF rfl ?_ | refine zY rfl ?_) | refine zY (by decide) ?_ | refine zN (by decide) ?_ | with_reducible refine zQ ?_); (conv => whnf))))
        (repeat' first | with_reducible exact EnvLe.refl _ | (refine EnvLe.node ?_ (by first | exact Or.inl rfl | exact Or.inr (Or.inl rfl) | exact Or.inr (Or.inr ⟨nofun, VLe.slice _ _ _⟩)) ?_))
      | true =>
        ((conv => whnf); (repeat ((first | with_reducible (first | refine zT rfl ?_ | refine zF rfl ?_ | refine zY rfl ?_) | refine zY (by decide) ?_ | refine zN (by decide) ?_ | with_reducible refine zQ ?_); (conv => whnf))))
        refine acall (gLose id g _ _ h (by omega)) ?_
        rintro _ σ1 w1
        ((conv => whnf); (repeat ((first | with_reducible (first | refine zT rfl ?_ | refine zF rfl ?_ | refine zY rfl ?_) | refine zY (by decide) ?_ | refine zN (by decide) ?_ | with_reducible refine zQ ?_); (conv => whnf))))
        rw [List.length_map]
        (repeat ((first | refine aload (by (repeat (first | with_reducible exact upd_same _ _ _ | assumption | rw [upd_ne _ _ (by first | assumption | (apply Ne.symm; assumption))]))) rfl ?_ | refine afit_i64 (by omega) ?_ | refine arem_nonneg (by omega) (by omega) ?_ | refine adiv_i64 (by omega) (by omega) ?_ | refine abr_yes (by omega) ?_ | refine abr_no (by omega) ?_ | refine amin ?_ | refine amax ?_ | refine afit_u64 (by omega) ?_ | refine afit_u8 (by omega) ?_ | rw [List.length_map]); ((conv => whnf); (repeat ((first | with_reducible (first | refine zT rfl ?_ | refine zF rfl ?_ | refine zY rfl ?_) | refine zY (by decide) ?_ | refine zN (by decide) ?_ | with_reducible refine zQ ?_); (conv => whnf))))))
        refine hlab _ (fun _ _ _ h => h) _ _ _ _ ⟨(0, .full, σ1), rfl, ⟨by dsimp only; omega, key _ w1, .full _ _, w1.sub, by omega, by omega, by omega, hgood⟩, rfl, Sub.refl _, ?_⟩
        ((conv => whnf); (repeat ((first | with_reducible (first | refine zT rfl ?_ | refine zF rfl ?_ | refine zY rfl ?_) | refine zY (by decide) ?_ | refine zN (by decide) ?_ | with_reducible refine zQ ?_); (conv => whnf))))
        (repeat' first | with_reducible exact EnvLe.refl _ | (refine EnvLe.node ?_ (by first | exact Or.inl rfl | exact Or.inr (Or.inl rfl) | exact Or.inr (Or.inr ⟨nofun, VLe.slice _ _ _⟩)) ?_))
  · rintro ⟨i, tk, σc⟩ ⟨hi, ⟨tkc, hc⟩, hto, hs, hf0, hf3, h24, hgood⟩
    dsimp only at hi hc hto hs ⊢
    obtain ⟨n1, n2, n3⟩ := hn i
    have hli := hb _ (List.getElem_mem hi)
    refine ⟨_, rfl, ?_⟩
    ((conv => whnf); (repeat ((first | with_reducible (first | refine zT rfl ?_ | refine zF rfl ?_ | refine zY rfl ?_) | refine zY (by decide) ?_ | refine zN (by decide) ?_ | with_reducible refine zQ ?_); (conv => whnf))))
    intro hlab
    ((conv => whnf); (repeat ((first | with_reducible (first | refine zT rfl ?_ | refine zF rfl ?_ | refine zY rfl ?_) | refine zY (by decide) ?_ | refine zN (by decide) ?_ | with_reducible refine zQ ?_); (conv => whnf))))
    refine aget (by omega) (get_lists hi) ?_
    ((conv => whnf); (repeat ((first | with_reducible (first | refine zT rfl ?_ | refine zF rfl ?_ | refine zY rfl ?_) | refine zY (by decide) ?_ | refine zN (by decide) ?_ | with_reducible refine zQ ?_); (conv => whnf))))
    refine acell rfl ?_
    ((conv => whnf); (repeat ((first | with_reducible (first | refine zT rfl ?_ | refine zF rfl ?_ | refine zY rfl ?_) | refine zY (by decide) ?_ | refine zN (by decide) ?_ | with_reducible refine zQ ?_); (conv => whnf))))
    obtain ⟨P, hP⟩ : ∃ P, P = fieldG (putN fi l (gapG g gap) i).2 (l[i]?.getD []) (beginsG fi i) (endsG fi l.length i) := ⟨_, rfl⟩
    have hstep : putN fi l (gapG g gap) (i + 1) = ((putN fi l (gapG g gap) i).1 ++ P.1.toList, P.2) := by rw [hP]; rfl
    have key : ∀ X Y, X = beginsG fi i → Y = endsG fi l.length i → ACalls Try.prog i_glue_Glue_field [.ptr id 0, sl .none l[i], boolv X, boolv Y] σc (fun v σ' => v = .tup [sl .none (P.1.getD []), boolv P.1.isSome] ∧ Gl σ' id P.2 (del σc id)) := by
      rintro _ _ rfl rfl
      have := gField id (putN fi l (gapG g gap) i).2 l[i] .none (beginsG fi i) (endsG fi l.length i) σc _ (Gl.at hc) (by omega) n2 hli
      rw [List.getElem?_eq_getElem hi, Option.getD_some] at hP
      rw [← hP] at this
      exact this
    clear hP
    have eb1 : 0 < i → true = beginsG fi i := fun h => by unfold beginsG; rw [decide_eq_true h]; rfl
    have eb2 : ¬ 0 < i → decide (2 * (fi / 2) = 0) = beginsG fi i := fun h => by unfold beginsG; rw [decide_eq_false h, Bool.false_or]; exact dec_congr (by omega)
    have ee1 : i + 1 < l.length → true = endsG fi l.length i := fun h => by unfold endsG; rw [decide_eq_true h]; rfl
    have ee2 : ¬ i + 1 < l.length → decide (fi % 2 = 0) = endsG fi l.length i := fun h => by unfold endsG; rw [decide_eq_false h, Bool.false_or]
    rcases Classical.em (0 < i) with hi0 | hi0 <;> rcases Classical.em (i + 1 < l.length) with hil | hil
    case' inl.inl =>
      (repeat ((first | refine aload (by (repeat (first | with_reducible exact upd_same _ _ _ | assumption | rw [upd_ne _ _ (by first | assumption | (apply Ne.symm; assumption))]))) rfl ?_ | refine afit_i64 (by omega) ?_ | refine arem_nonneg (by omega) (by omega) ?_ | refine adiv_i64 (by omega) (by omega) ?_ | refine abr_yes (by omega) ?_ | refine abr_no (by omega) ?_ | refine amin ?_ | refine amax ?_ | refine afit_u64 (by omega) ?_ | refine afit_u8 (by omega) ?_ | rw [List.length_map]); ((conv => whnf); (repeat ((first | with_reducible (first | refine zT rfl ?_ | refine zF rfl ?_ | refine zY rfl ?_) | refine zY (by decide) ?_ | refine zN (by decide) ?_ | with_reducible refine zQ ?_); (conv => whnf))))))
      refine acall (key _ _ (eb1 hi0) (ee1 hil)) ?_
    case' inl.inr =>
      (repeat ((first | refine aload (by (repeat (first | with_reducible exact upd_same _ _ _ | assumption | rw [upd_ne _ _ (by first | assumption | (apply Ne.symm; assumption))]))) rfl ?_ | refine afit_i64 (by omega) ?_ | refine arem_nonneg (by omega) (by omega) ?_ | refine adiv_i64 (by omega) (by omega) ?_ | refine abr_yes (by omega) ?_ | refine abr_no (by omega) ?_ | refine amin ?_ | refine amax ?_ | refine afit_u64 (by omega) ?_ | refine afit_u8 (by omega) ?_ | rw [List.length_map]); ((conv => whnf); (repeat ((first | with_reducible (first | refine zT rfl ?_ | refine zF rfl ?_ | refine zY rfl ?_) | refine zY (by decide) ?_ | refine zN (by decide) ?_ | with_reducible refine zQ ?_); (conv => whnf))))))
      refine abits_eq (and1 hf0 hf3) ?_
      ((conv => whnf); (repeat ((first | with_reducible (first | refine zT rfl ?_ | refine zF rfl ?_ | refine zY rfl ?_) | refine zY (by decide) ?_ | refine zN (by decide) ?_ | with_reducible refine zQ ?_); (conv => whnf))))
      refine acall (key _ _ (eb1 hi0) (ee2 hil)) ?_
    case' inr.inl =>
      (repeat ((first | refine aload (by (repeat (first | with_reducible exact upd_same _ _ _ | assumption | rw [upd_ne _ _ (by first | assumption | (apply Ne.symm; assumption))]))) rfl ?_ | refine afit_i64 (by omega) ?_ | refine arem_nonneg (by omega) (by omega) ?_ | refine adiv_i64 (by omega) (by omega) ?_ | refine abr_yes (by omega) ?_ | refine abr_no (by omega) ?_ | refine amin ?_ | refine amax ?_ | refine afit_u64 (by omega) ?_ | refine afit_u8 (by omega) ?_ | rw [List.length_map]); ((conv => whnf); (repeat ((first | with_reducible (first | refine zT rfl ?_ | refine zF rfl ?_ | refine zY rfl ?_) | refine zY (by decide) ?_ | refine zN (by decide) ?_ | with_reducible refine zQ ?_); (conv => whnf))))))
      refine abits_eq (and2 hf0 hf3) ?_
      ((conv => whnf); (repeat ((first | with_reducible (first | refine zT rfl ?_ | refine zF rfl ?_ | refine zY rfl ?_) | refine zY (by decide) ?_ | refine zN (by decide) ?_ | with_reducible refine zQ ?_); (conv => whnf))))
      (repeat ((first | refine aload (by (repeat (first | with_reducible exact upd_same _ _ _ | assumption | rw [upd_ne _ _ (by first | assumption | (apply Ne.symm; assumption))]))) rfl ?_ | refine afit_i64 (by omega) ?_ | refine arem_nonneg (by omega) (by omega) ?_ | refine adiv_i64 (by omega) (by omega) ?_ | refine abr_yes (by omega) ?_ | refine abr_no (by omega) ?_ | refine amin ?_ | refine amax ?_ | refine afit_u64 (by omega) ?_ | refine afit_u8 (by omega) ?_ | rw [List.length_map]); ((conv => whnf); (repeat ((first | with_reducible (first | refine zT rfl ?_ | refine zF rfl ?_ | refine zY rfl ?_) | refine zY (by decide) ?_ | refine zN (by decide) ?_ | with_reducible refine zQ ?_); (conv => whnf))))))
      refine acall (key _ _ (eb2 hi0) (ee1 hil)) ?_
    case' inr.inr =>
      (repeat ((first | refine aload (by (repeat (first | with_reducible exact upd_same _ _ _ | assumption | rw [upd_ne _ _ (by first | assumption | (apply Ne.symm; assumption))]))) rfl ?_ | refine afit_i64 (by omega) ?_ | refine arem_nonneg (by omega) (by omega) ?_ | refine adiv_i64 (by omega) (by omega) ?_ | refine abr_yes (by omega) ?_ | refine abr_no (by omega) ?_ | refine amin ?_ | refine amax ?_ | refine afit_u64 (by omega) ?_ | refine afit_u8 (by omega) ?_ | rw [List.length_map]); ((conv => whnf); (repeat ((first | with_reducible (first | refine zT rfl ?_ | refine zF rfl ?_ | refine zY rfl ?_) | refine zY (by decide) ?_ | refine zN (by decide) ?_ | with_reducible refine zQ ?_); (conv => whnf))))))
      refine abits_eq (and2 hf0 hf3) ?_
      ((conv => whnf); (repeat ((first | with_reducible (first | refine zT rfl ?_ | refine zF rfl ?_ | refine zY rfl ?_) | refine zY (by decide) ?_ | refine zN (by decide) ?_ | with_reducible refine zQ ?_); (conv => whnf))))
      (repeat ((first | refine aload (by (repeat (first | with_reducible exact upd_same _ _ _ | assumption | rw [upd_ne _ _ (by first | assumption | (apply Ne.symm; assumption))]))) rfl ?_ | refine afit_i64 (by omega) ?_ | refine arem_nonneg (by omega) (by omega) ?_ | refine adiv_i64 (by omega) (by omega) ?_ | refine abr_yes (by omega) ?_ | refine abr_no (by omega) ?_ | refine amin ?_ | refine amax ?_ | refine afit_u64 (by omega) ?_ | refine afit_u8 (by omega) ?_ | rw [List.length_map]); ((conv => whnf); (repeat ((first | with_reducible (first | refine zT rfl ?_ | refine zF rfl ?_ | refine zY rfl ?_) | refine zY (by decide) ?_ | refine zN (by decide) ?_ | with_reducible refine zQ ?_); (conv => whnf))))))
      refine abits_eq (and1 hf0 hf3) ?_
      ((conv => whnf); (repeat ((first | with_reducible (first | refine zT rfl ?_ | refine zF rfl ?_ | refine zY rfl ?_) | refine zY (by decide) ?_ | refine zN (by decide) ?_ | with_reducible refine zQ ?_); (conv => whnf))))
      refine acall (key _ _ (eb2 hi0) (ee2 hil)) ?_
    all_goals
      rintro _ σ4 ⟨rfl, w4⟩
      obtain ⟨tk4, hc4⟩ := w4.cell
      have hs4 := w4.sub.trans (sub_del hs h1)
      have hto4 := hto.ext (w4.tips hc)
      obtain ⟨r, g4⟩ := P
      dsimp only at hc4
      cases r with
      | none =>
        have hst : putN fi l (gapG g gap) (i + 1) = ((putN fi l (gapG g gap) i).1, g4) := by rw [hstep]; simp
        ((conv => whnf); (repeat ((first | with_reducible (first | refine zT rfl ?_ | refine zF rfl ?_ | refine zY rfl ?_) | refine zY (by decide) ?_ | refine zN (by decide) ?_ | with_reducible refine zQ ?_); (conv => whnf))))
        (repeat ((first | refine aload (by (repeat (first | with_reducible exact upd_same _ _ _ | assumption | rw [upd_ne _ _ (by first | assumption | (apply Ne.symm; assumption))]))) rfl ?_ | refine afit_i64 (by omega) ?_ | refine arem_nonneg (by omega) (by omega) ?_ | refine adiv_i64 (by omega) (by omega) ?_ | refine abr_yes (by omega) ?_ | refine abr_no (by omega) ?_ | refine amin ?_ | refine amax ?_ | refine afit_u64 (by omega) ?_ | refine afit_u8 (by omega) ?_ | rw [List.length_map]); ((conv => whnf); (repeat ((first | with_reducible (first | refine zT rfl ?_ | refine zF rfl ?_ | refine zY rfl ?_) | refine zY (by decide) ?_ | refine zN (by decide) ?_ | with_reducible refine zQ ?_); (conv => whnf))))))
        first
          | refine ⟨(i + 1, tk, σ4), rfl, ⟨by dsimp only; omega, ⟨tk4, by dsimp only; rw [hst]; exact hc4⟩, hto4, hs4, hf0, hf3, h24, hgood⟩, by dsimp only; omega, Sub.refl _, ?_⟩
            ((conv => whnf); (repeat ((first | with_reducible (first | refine zT rfl ?_ | refine zF rfl ?_ | refine zY rfl ?_) | refine zY (by decide) ?_ | refine zN (by decide) ?_ | with_reducible refine zQ ?_); (conv => whnf))))
            rw [hst]
            (repeat' first | with_reducible exact EnvLe.refl _ | (refine EnvLe.node ?_ (by first | exact Or.inl rfl | exact Or.inr (Or.inl rfl) | exact Or.inr (Or.inr ⟨nofun, VLe.slice _ _ _⟩)) ?_))
          | have hG : putG fi l gap g = putN fi l (gapG g gap) (i + 1) := by unfold putG; rw [if_neg (by rw [hgood]; simp), show l.length = i + 1 by omega]
            obtain ⟨σ', k1, k2⟩ := gl_of hc4 h1 hs4
            refine aret VLe.tup_sl k1 ⟨?_, ?_⟩
            · rw [hG, hst, hgood]; rfl
            · rw [hG, hst]; exact k2
      | some x =>
        have hst : putN fi l (gapG g gap) (i + 1) = ((putN fi l (gapG g gap) i).1 ++ [x], g4) := hstep
        ((conv => whnf); (repeat ((first | with_reducible (first | refine zT rfl ?_ | refine zF rfl ?_ | refine zY rfl ?_) | refine zY (by decide) ?_ | refine zN (by decide) ?_ | with_reducible refine zQ ?_); (conv => whnf))))
        refine aapp_in (ys := [sl .none x]) hto4 hs4 (by rw [List.length_map]; show (_ + 1) * 24 ≤ _; omega) fun t5 σ5 hx5 hs5 hto5 => ?_
        rw [show List.map (sl .none) (putN fi l (gapG g gap) i).1 ++ [sl .none x] = List.map (sl .none) ((putN fi l (gapG g gap) i).1 ++ [x]) by simp]
        have hc5 := hx5 id _ rfl hc4
        ((conv => whnf); (repeat ((first | with_reducible (first | refine zT rfl ?_ | refine zF rfl ?_ | refine zY rfl ?_) | refine zY (by decide) ?_ | refine zN (by decide) ?_ | with_reducible refine zQ ?_); (conv => whnf))))
        (repeat ((first | refine aload (by (repeat (first | with_reducible exact upd_same _ _ _ | assumption | rw [upd_ne _ _ (by first | assumption | (apply Ne.symm; assumption))]))) rfl ?_ | refine afit_i64 (by omega) ?_ | refine arem_nonneg (by omega) (by omega) ?_ | refine adiv_i64 (by omega) (by omega) ?_ | refine abr_yes (by omega) ?_ | refine abr_no (by omega) ?_ | refine amin ?_ | refine amax ?_ | refine afit_u64 (by omega) ?_ | refine afit_u8 (by omega) ?_ | rw [List.length_map]); ((conv => whnf); (repeat ((first | with_reducible (first | refine zT rfl ?_ | refine zF rfl ?_ | refine zY rfl ?_) | refine zY (by decide) ?_ | refine zN (by decide) ?_ | with_reducible refine zQ ?_); (conv => whnf))))))
        first
          | refine ⟨(i + 1, .tip t5, σ5), rfl, ⟨by dsimp only; omega, ⟨tk4, by dsimp only; rw [hst]; exact hc5⟩, hto5, hs5, hf0, hf3, h24, hgood⟩, by dsimp only; omega, Sub.refl _, ?_⟩
            ((conv => whnf); (repeat ((first | with_reducible (first | refine zT rfl ?_ | refine zF rfl ?_ | refine zY rfl ?_) | refine zY (by decide) ?_ | refine zN (by decide) ?_ | with_reducible refine zQ ?_); (conv => whnf))))
            rw [hst]
            (repeat' first | with_reducible exact EnvLe.refl _ | (refine EnvLe.node ?_ (by first | exact Or.inl rfl | exact Or.inr (Or.inl rfl) | exact Or.inr (Or.inr ⟨nofun, VLe.slice _ _ _⟩)) ?_))
          | have hG : putG fi l gap g = putN fi l (gapG g gap) (i + 1) := by unfold putG; rw [if_neg (by rw [hgood]; simp), show l.length = i + 1 by omega]
            obtain ⟨σ', k1, k2⟩ := gl_of hc5 h1 hs5
            refine aret VLe.tup_sl k1 ⟨?_, ?_⟩
            · rw [hG, hst, hgood]; rfl
            · rw [hG, hst]; exact k2
end Go.Proofs.Ytgipkpghabelkaa
/-
  What is cut of a packet, put together; plain.
-/
namespace Go.Proofs.Ytgipkpghabelkaa
set_option linter.unusedVariables false
set_option linter.unusedSimpArgs false
open Go Go.Am

def heldN (g : GS) : Nat := (g.1.getD []).length
theorem holdG_len (g : GS) (b : List UInt8) (bg en : Bool) : heldN (holdG g b bg en) ≤ heldN g + b.length := by
  unfold holdG heldN
  split
  · show b.length ≤ _; omega
  · split
    · rename_i h e; rw [e]; show (h ++ b).length ≤ h.length + _; rw [List.length_append]; exact Nat.le_refl _
    · exact Nat.zero_le _
theorem cutG_len (g : GS) : heldN (cutG g) ≤ heldN g := by
  unfold cutG loseG heldN
  split
  · exact Nat.zero_le _
  · exact Nat.le_refl _
theorem fieldG_len (g : GS) (b : List UInt8) (bg en : Bool) : heldN (fieldG g b bg en).2 ≤ heldN g + b.length := by
  have h1 := holdG_len g b bg en
  have h2 := cutG_len (holdG g b bg en)
  unfold fieldG endG
  split
  · exact Nat.zero_le _
  · show heldN (cutG (holdG g b bg en)) ≤ _; omega
theorem cutG_small {g : GS} (h : heldN g ≤ 1000) : cutG g = g := by
  unfold cutG; rw [if_neg (by unfold heldN at h; omega)]
/-- A field in two: nothing of it is told before its end. -/
theorem fieldG_two (g : GS) (q c : List UInt8) (bg en : Bool) (h : heldN g + q.length + c.length ≤ 1000) :
    fieldG g (q ++ c) bg en = fieldG (fieldG g q bg false).2 c false en ∧ (fieldG g q bg false).1 = none := by
  have h1 := holdG_len g q bg false
  have e1 : fieldG g q bg false = (none, holdG g q bg false) := by
    unfold fieldG endG
    rw [if_neg (by intro k; cases k.1), cutG_small (by omega)]
  rw [e1]
  refine ⟨?_, rfl⟩
  have h2 := holdG_len (holdG g q bg false) c false en
  have h3 := holdG_len g (q ++ c) bg en
  rw [List.length_append] at h3
  unfold fieldG
  rw [cutG_small (by omega), cutG_small (g := holdG (holdG g q bg false) c false en) (by omega)]
  congr 1
  unfold holdG
  cases bg
  · rw [if_neg nofun, if_neg nofun, if_neg nofun]
    obtain ⟨o, n⟩ := g
    cases o with
    | none => rfl
    | some x => show (some (x ++ (q ++ c)), n) = (some (x ++ q ++ c), n); rw [List.append_assoc]
  · rw [if_pos rfl, if_pos rfl, if_neg nofun]
theorem putN_same {fi fi' : Int} {l l' : List (List UInt8)} (h0 : fi / 2 = fi' / 2) : ∀ (k : Nat) (g : GS), (∀ i, i < k → l[i]?.getD [] = l'[i]?.getD []) → (∀ i, i < k → endsG fi l.length i = endsG fi' l'.length i) → putN fi l g k = putN fi' l' g k
  | 0, g, _, _ => rfl
  | k + 1, g, h, he => by
    have e := putN_same h0 k g (fun i hi => h i (by omega)) (fun i hi => he i (by omega))
    unfold putN
    rw [e, h k (by omega), he k (by omega), show beginsG fi k = beginsG fi' k by unfold beginsG; rw [h0]]
theorem putN_len (fi : Int) (l : List (List UInt8)) (g : GS) : ∀ k, heldN (putN fi l g k).2 ≤ heldN g + total (l.take k)
  | 0 => by show heldN g ≤ _; omega
  | k + 1 => by
    have h1 := putN_len fi l g k
    have h2 := fieldG_len (putN fi l g k).2 (l[k]?.getD []) (beginsG fi k) (endsG fi l.length k)
    have h3 : total (l.take (k + 1)) = total (l.take k) + (l[k]?.getD []).length := by
      by_cases hk : k < l.length
      · rw [total_take_succ l k hk, List.getElem?_eq_getElem hk]; rfl
      · rw [List.take_of_length_le (by omega), List.take_of_length_le (by omega), List.getElem?_eq_none (by omega)]; rfl
    unfold putN
    dsimp only
    omega
def stB (p : Pk) (y : Nat) : Bool := if y = 0 then decide (p.fi / 2 = 0) else edge p.fs y
def enB (p : Pk) (y : Nat) : Bool := if y = total p.fs then decide (p.fi % 2 = 0) else edge p.fs y
/-- So many bytes of the packet, one by one. -/
def runB (p : Pk) (g : GS) (a : Nat) : Nat → List (List UInt8) × GS
  | 0 => ([], g)
  | k + 1 => ((runB p g a k).1 ++ (fieldG (runB p g a k).2 [p.fs.flatten[a + k]?.getD 0] (stB p (a + k)) (enB p (a + k + 1))).1.toList, (fieldG (runB p g a k).2 [p.fs.flatten[a + k]?.getD 0] (stB p (a + k)) (enB p (a + k + 1))).2)
theorem runB_succ (p : Pk) (g : GS) (a k : Nat) : runB p g a (k + 1) = ((runB p g a k).1 ++ (fieldG (runB p g a k).2 [p.fs.flatten[a + k]?.getD 0] (stB p (a + k)) (enB p (a + k + 1))).1.toList, (fieldG (runB p g a k).2 [p.fs.flatten[a + k]?.getD 0] (stB p (a + k)) (enB p (a + k + 1))).2) := rfl
theorem putN_succ (fi : Int) (l : List (List UInt8)) (g : GS) (k : Nat) : putN fi l g (k + 1) = ((putN fi l g k).1 ++ (fieldG (putN fi l g k).2 (l[k]?.getD []) (beginsG fi k) (endsG fi l.length k)).1.toList, (fieldG (putN fi l g k).2 (l[k]?.getD []) (beginsG fi k) (endsG fi l.length k)).2) := rfl
theorem runB_add (p : Pk) (g : GS) (a k : Nat) : ∀ m, runB p g a (k + m) = ((runB p g a k).1 ++ (runB p (runB p g a k).2 (a + k) m).1, (runB p (runB p g a k).2 (a + k) m).2)
  | 0 => by show runB p g a k = ((runB p g a k).1 ++ [], (runB p g a k).2); rw [List.append_nil]
  | m + 1 => by
    have e := runB_add p g a k m
    rw [← Nat.add_assoc, runB_succ, runB_succ, e]
    dsimp only
    rw [List.append_assoc, Nat.add_assoc a k m]
theorem cutFi_st {p : Pk} (hf : 0 ≤ p.fi ∧ p.fi ≤ 3) (a x : Nat) : decide (cutFi p a x / 2 = 0) = stB p a := by
  unfold cutFi stB wth ctg
  by_cases h0 : a = 0
  · subst h0
    rw [edge_zero, if_pos rfl]
    by_cases h2 : 2 ≤ p.fi
    · rw [if_pos (.inr ⟨rfl, decide_eq_true h2⟩)]
      rw [decide_eq_false (show ¬ p.fi / 2 = 0 by omega), decide_eq_false (by split <;> omega)]
    · rw [if_neg (by rintro (h | h); cases h; exact h2 (of_decide_eq_true h.2))]
      rw [decide_eq_true (show p.fi / 2 = 0 by omega), decide_eq_true (by split <;> omega)]
  · rw [if_neg h0]
    cases h1 : edge p.fs a
    · rw [if_pos (.inl rfl), decide_eq_false (by split <;> omega)]
    · rw [if_neg (by rintro (h | h); cases h; exact h0 h.1), decide_eq_true (by split <;> omega)]
theorem cutFi_en {p : Pk} (hf : 0 ≤ p.fi ∧ p.fi ≤ 3) (a x : Nat) : decide (cutFi p a x % 2 = 0) = enB p x := by
  unfold cutFi enB wth ctg
  by_cases h0 : x = total p.fs
  · rw [if_pos h0, h0, edge_top]
    by_cases h2 : p.fi % 2 = 1
    · rw [if_pos (c := _ ∨ (total p.fs = total p.fs ∧ _)) (.inr ⟨rfl, decide_eq_true h2⟩)]
      rw [decide_eq_false (show ¬ p.fi % 2 = 0 by omega), decide_eq_false (by split <;> omega)]
    · rw [if_neg (c := _ ∨ (total p.fs = total p.fs ∧ _)) (by rintro (h | h); cases h; exact h2 (of_decide_eq_true h.2))]
      rw [decide_eq_true (show p.fi % 2 = 0 by omega), decide_eq_true (by split <;> omega)]
  · rw [if_neg h0]
    cases h1 : edge p.fs x
    · rw [if_pos (c := _ ∨ (x = total p.fs ∧ _)) (.inl rfl), decide_eq_false (by split <;> omega)]
    · rw [if_neg (c := _ ∨ (x = total p.fs ∧ _)) (by rintro (h | h); cases h; exact h0 h.1), decide_eq_true (by split <;> omega)]
theorem cutFi_half {p : Pk} (a x y : Nat) : cutFi p a x / 2 = cutFi p a y / 2 := by
  unfold cutFi
  repeat' split
  all_goals omega
theorem get_mid {l : List (List UInt8)} {q : List UInt8} : (l ++ [q])[l.length]?.getD [] = q := by
  rw [List.getElem?_append_right (Nat.le_refl _), Nat.sub_self]; rfl
theorem put_run {p : Pk} (hf : 0 ≤ p.fi ∧ p.fi ≤ 3) (g : GS) (a : Nat) : ∀ m, a + (m + 1) ≤ total p.fs → heldN g + (m + 1) ≤ 1000 → putN (cutFi p a (a + (m + 1))) (pcs p.fs a (a + (m + 1))) g (pcs p.fs a (a + (m + 1))).length = runB p g a (m + 1)
  | 0, h, hg => by
    have hd : a < p.fs.flatten.length := h
    have e := pcs_new (fs := p.fs) (a := a) (x := a) (y := a + (0 + 1)) (Nat.le_refl _) (by omega) h (.inl rfl) (fun z h1 h2 => by omega)
    rw [pcs_nil (Nat.le_refl _), List.nil_append] at e
    rw [e]
    have e1 : (p.fs.flatten.take (a + (0 + 1))).drop a = [p.fs.flatten[a]?.getD 0] := by
      rw [List.getElem?_eq_getElem hd, List.take_succ_eq_append_getElem hd, List.drop_append_of_le_length (by rw [List.length_take]; omega), List.drop_of_length_le (by rw [List.length_take]; omega)]; rfl
    rw [e1]
    show ([] ++ _, _) = ([] ++ _, _)
    have b1 : beginsG (cutFi p a (a + (0 + 1))) 0 = stB p a := cutFi_st hf a _
    have b2 : endsG (cutFi p a (a + (0 + 1))) 1 0 = enB p (a + 1) := cutFi_en hf a _
    show ([] ++ (fieldG g [p.fs.flatten[a]?.getD 0] (beginsG (cutFi p a (a + (0 + 1))) 0) (endsG (cutFi p a (a + (0 + 1))) 1 0)).1.toList, (fieldG g [p.fs.flatten[a]?.getD 0] (beginsG (cutFi p a (a + (0 + 1))) 0) (endsG (cutFi p a (a + (0 + 1))) 1 0)).2) = _
    rw [b1, b2]; rfl
  | m + 1, h, hg => by
    have ih := put_run hf g a m (by omega) (by omega)
    obtain ⟨x, hx⟩ : ∃ x, x = a + (m + 1) := ⟨_, rfl⟩
    have hx2 : a + (m + 1 + 1) = x + 1 := by omega
    rw [hx2] at h ⊢
    have hax : a < x := by omega
    have hd : x < p.fs.flatten.length := h
    have hh := cutFi_half (p := p) a x (x + 1)
    have hst := cutFi_st hf a (x + 1)
    have hen := cutFi_en hf a (x + 1)
    have hen0 := cutFi_en hf a x
    have e0 : enB p x = edge p.fs x := by unfold enB; rw [if_neg (by omega)]
    have s0 : stB p x = edge p.fs x := by unfold stB; rw [if_neg (by omega)]
    rw [← hx] at ih
    rw [runB_succ, ← ih, ← hx]
    obtain ⟨c, hc⟩ : ∃ c, c = p.fs.flatten[x]'hd := ⟨_, rfl⟩
    have hdx : p.fs.flatten[x]?.getD 0 = c := by rw [List.getElem?_eq_getElem hd, hc]; rfl
    rw [hdx]
    cases he : edge p.fs x
    · obtain ⟨l, q, h1, h2⟩ := pcs_more hax h he
      replace h2 : pcs p.fs a (x + 1) = l ++ [q ++ [c]] := by rw [hc]; exact h2
      have ht := pcs_total (fs := p.fs) (a := a) (b := x) (by omega) (by omega)
      rw [h1] at ht
      rw [h1, h2, List.length_append, List.length_append]
      show putN _ _ g (l.length + 1) = _
      rw [show (l.length + [q].length) = l.length + 1 from rfl]
      have ep : putN (cutFi p a (x + 1)) (l ++ [q ++ [c]]) g l.length = putN (cutFi p a x) (l ++ [q]) g l.length := by
        refine putN_same hh.symm l.length g (fun i hi => ?_) (fun i hi => ?_)
        · rw [List.getElem?_append_left hi, List.getElem?_append_left hi]
        · unfold endsG
          rw [List.length_append, List.length_append, decide_eq_true (show i + 1 < l.length + [q ++ [c]].length from Nat.succ_lt_succ hi), decide_eq_true (show i + 1 < l.length + [q].length from Nat.succ_lt_succ hi)]; rfl
      have hlen := putN_len (cutFi p a x) (l ++ [q]) g l.length
      rw [List.take_left] at hlen
      have htl : total (l ++ [q]) = total l + q.length := by rw [total_append]; show total l + (total [q]) = _; rw [total_cons]; rfl
      rw [putN_succ, putN_succ, ep, get_mid, get_mid]
      have be : beginsG (cutFi p a (x + 1)) l.length = beginsG (cutFi p a x) l.length := by unfold beginsG; rw [hh]
      have en1 : endsG (cutFi p a (x + 1)) (l ++ [q ++ [c]]).length l.length = enB p (x + 1) := by
        unfold endsG; rw [List.length_append, decide_eq_false (show ¬ l.length + 1 < l.length + [q ++ [c]].length from Nat.lt_irrefl _), hen]; rfl
      have en0 : endsG (cutFi p a x) (l ++ [q]).length l.length = false := by
        unfold endsG; rw [List.length_append, decide_eq_false (show ¬ l.length + 1 < l.length + [q].length from Nat.lt_irrefl _), hen0, e0, he]; rfl
      rw [be, en1, en0, s0, he]
      obtain ⟨f1, f2⟩ := fieldG_two (putN (cutFi p a x) (l ++ [q]) g l.length).2 q [c] (beginsG (cutFi p a x) l.length) (enB p (x + 1)) (by show _ + 1 ≤ 1000; omega)
      rw [f1, f2]
      dsimp only
      rw [show (none : Option (List UInt8)).toList = [] from rfl, List.append_nil]
    · have e := pcs_new (fs := p.fs) (a := a) (x := x) (y := x + 1) (by omega) (by omega) h (.inr he) (fun z h1 h2 => by omega)
      have e1 : (p.fs.flatten.take (x + 1)).drop x = [c] := by
        rw [hc, List.take_succ_eq_append_getElem hd, List.drop_append_of_le_length (by rw [List.length_take]; omega), List.drop_of_length_le (by rw [List.length_take]; omega)]; rfl
      rw [e1] at e
      have hp := pcs_pos (fs := p.fs) hax (by omega)
      generalize pcs p.fs a x = l at *
      rw [e, List.length_append]
      show putN _ _ g (l.length + 1) = _
      have ep : putN (cutFi p a (x + 1)) (l ++ [[c]]) g l.length = putN (cutFi p a x) l g l.length := by
        refine putN_same hh.symm l.length g (fun i hi => ?_) (fun i hi => ?_)
        · rw [List.getElem?_append_left hi]
        · unfold endsG
          rw [List.length_append, decide_eq_true (show i + 1 < l.length + [[c]].length from Nat.succ_lt_succ hi), hen0, e0, he]
          cases decide (i + 1 < l.length) <;> rfl
      rw [putN_succ, ep, get_mid]
      have be : beginsG (cutFi p a (x + 1)) l.length = true := by unfold beginsG; rw [decide_eq_true (by omega)]; rfl
      have en1 : endsG (cutFi p a (x + 1)) (l ++ [[c]]).length l.length = enB p (x + 1) := by
        unfold endsG; rw [List.length_append, decide_eq_false (show ¬ l.length + 1 < l.length + [[c]].length from Nat.lt_irrefl _), hen]; rfl
      rw [be, en1, s0, he]
theorem cutFi_all {p : Pk} (hf : 0 ≤ p.fi ∧ p.fi ≤ 3) : cutFi p 0 (total p.fs) = p.fi := by
  have h1 := cutFi_st hf 0 (total p.fs)
  have h2 := cutFi_en hf 0 (total p.fs)
  have h3 := cutFi_range p 0 (total p.fs)
  unfold stB at h1
  unfold enB at h2
  rw [if_pos rfl] at h1 h2
  have h1 := decide_eq_decide.1 h1
  have h2 := decide_eq_decide.1 h2
  omega
theorem hollow_no {l : List (List UInt8)} (h : ∀ f ∈ l, f.length ≠ 0) : hollow l = false := by
  refine Bool.eq_false_iff.2 fun k => ?_
  obtain ⟨f, hf, h2⟩ := List.any_eq_true.1 k
  have := of_decide_eq_true h2
  exact h f hf (by rw [this]; rfl)
theorem mem_total {l : List (List UInt8)} {f : List UInt8} (h : f ∈ l) : f.length ≤ total l := by
  obtain ⟨i, hi, rfl⟩ := List.getElem_of_mem h
  exact total_get hi
/-- What goes, put together, is its bytes. -/
theorem cut_glue {p : Pk} {a : Nat} {G w : Int} (hr : amSize p w > 0) (hp : p.part = false) (ha : a < total p.fs) (hg0 : leastV w ≤ G) (hg1 : G ≤ 4096) :
    ∃ X x, cutRes p a (total p.fs) G w = (X, ((x : Nat) : Int), 0) ∧ a < x ∧ x ≤ total p.fs ∧ X.fs.length ≤ 24 ∧ (∀ f ∈ X.fs, f.length ≤ 4000) ∧ gpBad X.fi X.fs = false ∧ ∀ g : GS, heldN g + (x - a) ≤ 1000 → putN X.fi X.fs g X.fs.length = runB p g a (x - a) := by
  obtain ⟨hw, hf1, hf2, hsn, hfo, ho1, ho2, hpl⟩ := amSize_ok hr
  have g1 := hfo.one
  have g2 := hfo.most
  have g3 := hfo.fits
  have hhr := amHead_range p.part w
  have hht := amHead_range true w
  have hsz0 := sizeV_range ((p.fs.length : Int) - 1) (lenW w)
  have hnf : ¬ noForm p w := fun h => h.elim (fun h => by rw [hp] at h; cases h) (fun h => h hr)
  have hlv : 0 ≤ leastV w := by unfold leastV; split <;> omega
  have hnb : ¬ badArg p a (total p.fs) G := by rintro (h | h | h | h | h) <;> omega
  have hne : ∀ f ∈ p.fs, f.length ≠ 0 := fun f hf => by
    obtain ⟨i, hi, rfl⟩ := List.getElem_of_mem hf
    have := (hfo.each i hi).1
    omega
  have hc := cut_gives p a (total p.fs) G w
  have hcr : ∀ c, cutRes p a (total p.fs) G w = (pk0, 0, c) → c = 16 ∨ c = 0 := by
    intro c
    unfold cutRes
    rw [if_neg hnf, if_neg hnb]
    split
    · intro h; exact .inr (congrArg (fun z => z.2.2) h).symm
    · split
      · intro h; exact .inl (congrArg (fun z => z.2.2) h).symm
      · intro h; exact .inr (congrArg (fun z => z.2.2) h).symm
  generalize cutRes p a (total p.fs) G w = r at *
  cases hc with
  | no c h1 h2 =>
    rcases hcr c rfl with h | h
    · rcases h2 with h2 | h2
      · exact absurd h h2
      · omega
    · exact absurd h h1
  | whole h1 h2 h3 _ _ =>
    have ha0 : a = 0 := by omega
    subst ha0
    refine ⟨{ p with poll := false }, total p.fs, rfl, ha, Nat.le_refl _, g2, fun f hf => ?_, ?_, fun g hg => ?_⟩
    · have := mem_total hf
      dsimp only at this; omega
    · unfold gpBad
      dsimp only
      rw [decide_eq_false (by omega), decide_eq_false (by omega), decide_eq_false (by omega), decide_eq_false (by omega), hollow_no hne]; rfl
    · have := put_run ⟨hf1, hf2⟩ g 0 (total p.fs - 1) (by omega) (by omega)
      rw [show 0 + (total p.fs - 1 + 1) = total p.fs by omega, pcs_all hne, cutFi_all ⟨hf1, hf2⟩, show total p.fs - 1 + 1 = total p.fs - 0 by omega] at this
      exact this
  | part x _ _ _ hax hxt hs0 hsg hse hpl =>
    have hax : a < x := by omega
    have hxt : x ≤ total p.fs := by omega
    have hpv := pcs_total (fs := p.fs) (a := a) (b := x) (by omega) hxt
    have hfr := cutFi_range p a x
    rw [Int.toNat_natCast] at hpl
    refine ⟨cutPk p a x, x, rfl, hax, hxt, by show (pcs p.fs a x).length ≤ _; omega, fun f hf => ?_, ?_, fun g hg => ?_⟩
    · have h1 : f ∈ pcs p.fs a x := hf
      have := mem_total h1
      omega
    · unfold gpBad
      show (decide (cutFi p a x < 0) || decide (cutFi p a x > 3) || decide ((pcs p.fs a x).length = 0) || decide ((pcs p.fs a x).length > 24) || hollow (pcs p.fs a x)) = false
      rw [decide_eq_false (by omega), decide_eq_false (by omega), decide_eq_false (by omega), decide_eq_false (by omega), hollow_no (fun f hf => pcs_ne hf)]; rfl
    · have := put_run ⟨hf1, hf2⟩ g a (x - a - 1) (by omega) (by omega)
      rw [show a + (x - a - 1 + 1) = x by omega, show x - a - 1 + 1 = x - a by omega] at this
      exact this
end Go.Proofs.Ytgipkpghabelkaa
/-
  The statement of packets that are cut anew: put together they are whole.
-/
namespace Go.Proofs.Ytgipkpghabelkaa
set_option linter.unusedVariables false
set_option linter.unusedSimpArgs false
open Go Go.Am

theorem small_sum {l : List (List UInt8)} (h : smallG l) : total l ≤ 168000 := by
  have : ∀ (m : List (List UInt8)), (∀ p ∈ m, p.length ≤ 4200) → total m ≤ 4200 * m.length := by
    intro m
    induction m with
    | nil => intro _; exact Nat.le_refl _
    | cons a m ih =>
      intro hm
      have h1 := ih fun p hp => hm p (List.mem_cons_of_mem _ hp)
      have h2 := hm a (List.mem_cons_self ..)
      rw [total_cons, List.length_cons]; omega
  have := this l h.2
  have := h.1
  omega
theorem Hp.glnew {σb τ σ' : AHeap} {L : List HE} (H : Hp σb L τ) {id : Nat} {g : GS} (w : Gl σ' id g τ) : ∃ tk, Hp σb (.o id (.cells (glCells g tk)) :: L) σ' := by
  obtain ⟨h1, tk, rfl⟩ := w
  exact ⟨tk, H.cons_o h1 _⟩
theorem upd_del' (σ : AHeap) (i : Nat) (x : AObj) : upd (del σ i) i x = upd σ i x := by
  funext j
  unfold upd del
  split <;> rfl
theorem Hp.glput {σb τ σ' : AHeap} {L : List HE} (H : Hp σb L τ) {k id : Nat} {g g' : GS} {tk : Tok} (hk : L[k]? = some (.o id (.cells (glCells g tk)))) (w : Gl σ' id g' (del τ id)) : ∃ tk', Hp σb (L.set k (.o id (.cells (glCells g' tk')))) σ' := by
  obtain ⟨h1, tk', rfl⟩ := w
  refine ⟨tk', ?_⟩
  rw [upd_del']
  exact H.set hk _
theorem runB_held (p : Pk) (g : GS) (a : Nat) : ∀ k, heldN (runB p g a k).2 ≤ heldN g + k ∧ (runB p g a k).2.2 ≤ g.2 + 2 * k ∧ (runB p g a k).1.length ≤ k
  | 0 => ⟨Nat.le_refl _, Nat.le_refl _, Nat.le_refl _⟩
  | k + 1 => by
    obtain ⟨h1, h2, h3⟩ := runB_held p g a k
    rw [runB_succ]
    have e1 := fieldG_len (runB p g a k).2 [p.fs.flatten[a + k]?.getD 0] (stB p (a + k)) (enB p (a + k + 1))
    have e2 := fieldG_lost (runB p g a k).2 [p.fs.flatten[a + k]?.getD 0] (stB p (a + k)) (enB p (a + k + 1))
    have e3 : (fieldG (runB p g a k).2 [p.fs.flatten[a + k]?.getD 0] (stB p (a + k)) (enB p (a + k + 1))).1.toList.length ≤ 1 := by cases (fieldG (runB p g a k).2 [p.fs.flatten[a + k]?.getD 0] (stB p (a + k)) (enB p (a + k + 1))).1 <;> simp
    rw [List.length_cons, List.length_nil] at e1
    dsimp only
    rw [List.length_append]
    exact ⟨by omega, by omega, by omega⟩
theorem gp_ok {p : Pk} {w : Int} (hr : amSize p w > 0) : gpBad p.fi p.fs = false ∧ ∀ g : GS, heldN g + total p.fs ≤ 1000 → putN p.fi p.fs g p.fs.length = runB p g 0 (total p.fs) := by
  obtain ⟨hw, hf1, hf2, hsn, hfo, ho1, ho2, hpl⟩ := amSize_ok hr
  have g1 := hfo.one
  have g2 := hfo.most
  have hne : ∀ f ∈ p.fs, f.length ≠ 0 := fun f hf => by
    obtain ⟨i, hi, rfl⟩ := List.getElem_of_mem hf
    have := (hfo.each i hi).1
    omega
  have hpos : 0 < total p.fs := by
    have h1 := total_get (l := p.fs) (i := 0) (by omega)
    have h2 := (hfo.each 0 (by omega)).1
    omega
  refine ⟨?_, fun g hg => ?_⟩
  · unfold gpBad
    rw [decide_eq_false (by omega), decide_eq_false (by omega), decide_eq_false (by omega), decide_eq_false (by omega), hollow_no hne]; rfl
  · have := put_run ⟨hf1, hf2⟩ g 0 (total p.fs - 1) (by omega) (by omega)
    rw [show 0 + (total p.fs - 1 + 1) = total p.fs by omega, pcs_all hne, cutFi_all ⟨hf1, hf2⟩, show total p.fs - 1 + 1 = total p.fs by omega] at this
    exact this
/-- What is held ahead. -/
def aheadG (b : List UInt8) : GS := if b.length > 0 then (putG 1 [b] false (none, 0)).2 else (none, 0)
theorem aheadG_ok (b : List UInt8) : heldN (aheadG b) ≤ b.length ∧ (aheadG b).2 ≤ 2 := by
  unfold aheadG
  split
  · rename_i h
    have e : putG 1 [b] false (none, 0) = putN 1 [b] (none, 0) 1 := by
      unfold putG gpBad
      rw [hollow_no (fun f hf => by rw [List.mem_singleton] at hf; subst hf; omega)]
      rfl
    rw [e]
    have h1 := putN_len 1 [b] (none, 0) 1
    have h2 := (putN_ok 1 [b] (none, 0) (Nat.zero_le _) 1).2.2
    rw [show total ([b].take 1) = b.length by show total [b] = _; rw [total_cons]; rfl] at h1
    refine ⟨?_, h2⟩
    have h0 : heldN (none, 0) = 0 := rfl
    omega
  · exact ⟨Nat.zero_le _, Nat.zero_le _⟩
set_option maxRecDepth 20000 in
set_option maxHeartbeats 4000000 in
theorem ResegWhole (p : Pk) (grants : List Nat) (w : Int) (ahead : List UInt8) (σ : AHeap) (hl : p.fs.length ≤ 140737488355328) (hgr : ∀ r ∈ grants, r < 65536) (hgl : grants.length ≤ 140737488351232) (hal : ahead.length ≤ 140737488351232) : ACalls Try.prog i_bowlinelaw20_ResegWhole [amV p, .slice 1 (grants.map u16n) .none, i64v w, sl .none ahead] σ fun v σ' => v = boolv true ∧ Hp σ [] σ' := by
  refine k_bowlinelaw20_ResegWhole rfl ?_
  have H := Hp.nil σ
  ((conv => whnf); (repeat ((first | with_reducible (first | refine zT rfl ?_ | refine zF rfl ?_ | refine zY rfl ?_) | refine zY (by decide) ?_ | refine zN (by decide) ?_ | with_reducible refine zQ ?_); (conv => whnf))))
  refine hnew H rfl ?_
  clear H
  intro i5 τ H
  ((conv => whnf); (repeat ((first | with_reducible (first | refine zT rfl ?_ | refine zF rfl ?_ | refine zY rfl ?_) | refine zY (by decide) ?_ | refine zN (by decide) ?_ | with_reducible refine zQ ?_); (conv => whnf))))
  (repeat ((first | refine zI (by omega) ?_ | refine zE (by omega) (by omega) ?_ | refine zD (by omega) (by omega) ?_ | refine zY (by omega) ?_ | refine zN (by omega) ?_ | refine amin ?_ | refine amax ?_ | refine zU (by omega) ?_ | refine z8 (by omega) ?_ | refine zX (by omega) (by omega) ?_ | refine zR rfl ?_ | refine acellA ?_ | refine zB H b1 rfl ?_ | refine zC H b1 ?_ | refine zB H b2 rfl ?_ | refine zC H b2 ?_ | refine zB H b3 rfl ?_ | refine zC H b3 ?_ | refine zB H b4 rfl ?_ | refine zC H b4 ?_ | (apply zL H; (· repeat first | exact .h | apply AtK.t); (· rfl)) | (apply zA H; (· repeat first | exact .h | apply AtK.t)) | (apply zS H; (· repeat first | exact .h | apply AtK.t); (· rfl); (conv => whnf); clear H; intro τ H) | rw [List.length_map]); ((conv => whnf); (repeat ((first | with_reducible (first | refine zT rfl ?_ | refine zF rfl ?_ | refine zY rfl ?_) | refine zY (by decide) ?_ | refine zN (by decide) ?_ | with_reducible refine zQ ?_); (conv => whnf))))))
  refine acall (gGreat p.fs .none τ (by omega)) ?_
  rintro _ σ_ ⟨⟨gr, rfl, hgr2⟩, e_⟩
  obtain rfl := e_.symm
  refine ⟨?_, Ext.refl _⟩
  cases gr
  case true =>
    ((conv => whnf); (repeat ((first | with_reducible (first | refine zT rfl ?_ | refine zF rfl ?_ | refine zY rfl ?_) | refine zY (by decide) ?_ | refine zN (by decide) ?_ | with_reducible refine zQ ?_); (conv => whnf))))
    refine acall (alive20 τ) ?_
    rintro _ σ_ ⟨rfl, e_⟩
    obtain rfl := e_.symm
    refine ⟨?_, Ext.refl _⟩
    ((conv => whnf); (repeat ((first | with_reducible (first | refine zT rfl ?_ | refine zF rfl ?_ | refine zY rfl ?_) | refine zY (by decide) ?_ | refine zN (by decide) ?_ | with_reducible refine zQ ?_); (conv => whnf))))
    exact aret (VLe.refl _) (Sub.refl _) ⟨rfl, H.tail⟩
  have hsm := hgr2 rfl
  have hto := small_sum hsm
  have h40 := hsm.1
  ((conv => whnf); (repeat ((first | with_reducible (first | refine zT rfl ?_ | refine zF rfl ?_ | refine zY rfl ?_) | refine zY (by decide) ?_ | refine zN (by decide) ?_ | with_reducible refine zQ ?_); (conv => whnf))))
  (repeat ((first | refine zI (by omega) ?_ | refine zE (by omega) (by omega) ?_ | refine zD (by omega) (by omega) ?_ | refine zY (by omega) ?_ | refine zN (by omega) ?_ | refine amin ?_ | refine amax ?_ | refine zU (by omega) ?_ | refine z8 (by omega) ?_ | refine zX (by omega) (by omega) ?_ | refine zR rfl ?_ | refine acellA ?_ | refine zB H b1 rfl ?_ | refine zC H b1 ?_ | refine zB H b2 rfl ?_ | refine zC H b2 ?_ | refine zB H b3 rfl ?_ | refine zC H b3 ?_ | refine zB H b4 rfl ?_ | refine zC H b4 ?_ | (apply zL H; (· repeat first | exact .h | apply AtK.t); (· rfl)) | (apply zA H; (· repeat first | exact .h | apply AtK.t)) | (apply zS H; (· repeat first | exact .h | apply AtK.t); (· rfl); (conv => whnf); clear H; intro τ H) | rw [List.length_map]); ((conv => whnf); (repeat ((first | with_reducible (first | refine zT rfl ?_ | refine zF rfl ?_ | refine zY rfl ?_) | refine zY (by decide) ?_ | refine zN (by decide) ?_ | with_reducible refine zQ ?_); (conv => whnf))))))
  by_cases hpart : p.part = true
  · refine abr_true hpart ?_
    ((conv => whnf); (repeat ((first | with_reducible (first | refine zT rfl ?_ | refine zF rfl ?_ | refine zY rfl ?_) | refine zY (by decide) ?_ | refine zN (by decide) ?_ | with_reducible refine zQ ?_); (conv => whnf))))
    refine acall (alive20 τ) ?_
    rintro _ σ_ ⟨rfl, e_⟩
    obtain rfl := e_.symm
    refine ⟨?_, Ext.refl _⟩
    ((conv => whnf); (repeat ((first | with_reducible (first | refine zT rfl ?_ | refine zF rfl ?_ | refine zY rfl ?_) | refine zY (by decide) ?_ | refine zN (by decide) ?_ | with_reducible refine zQ ?_); (conv => whnf))))
    exact aret (VLe.refl _) (Sub.refl _) ⟨rfl, H.tail⟩
  refine abr_false (by simpa using hpart) ?_
  have q1 : p.part = false := by simpa using hpart
  ((conv => whnf); (repeat ((first | with_reducible (first | refine zT rfl ?_ | refine zF rfl ?_ | refine zY rfl ?_) | refine zY (by decide) ?_ | refine zN (by decide) ?_ | with_reducible refine zQ ?_); (conv => whnf))))
  (repeat ((first | refine zI (by omega) ?_ | refine zE (by omega) (by omega) ?_ | refine zD (by omega) (by omega) ?_ | refine zY (by omega) ?_ | refine zN (by omega) ?_ | refine amin ?_ | refine amax ?_ | refine zU (by omega) ?_ | refine z8 (by omega) ?_ | refine zX (by omega) (by omega) ?_ | refine zR rfl ?_ | refine acellA ?_ | refine zB H b1 rfl ?_ | refine zC H b1 ?_ | refine zB H b2 rfl ?_ | refine zC H b2 ?_ | refine zB H b3 rfl ?_ | refine zC H b3 ?_ | refine zB H b4 rfl ?_ | refine zC H b4 ?_ | (apply zL H; (· repeat first | exact .h | apply AtK.t); (· rfl)) | (apply zA H; (· repeat first | exact .h | apply AtK.t)) | (apply zS H; (· repeat first | exact .h | apply AtK.t); (· rfl); (conv => whnf); clear H; intro τ H) | rw [List.length_map]); ((conv => whnf); (repeat ((first | with_reducible (first | refine zT rfl ?_ | refine zF rfl ?_ | refine zY rfl ?_) | refine zY (by decide) ?_ | refine zN (by decide) ?_ | with_reducible refine zQ ?_); (conv => whnf))))))
  refine acall (aRight p w τ (by omega)) ?_
  rintro _ σ_ ⟨rfl, e_⟩
  obtain rfl := e_.symm
  refine ⟨?_, Ext.refl _⟩
  ((conv => whnf); (repeat ((first | with_reducible (first | refine zT rfl ?_ | refine zF rfl ?_ | refine zY rfl ?_) | refine zY (by decide) ?_ | refine zN (by decide) ?_ | with_reducible refine zQ ?_); (conv => whnf))))
  by_cases hr : amSize p w > 0
  case neg =>
    refine abr_true (by rw [decide_eq_false hr]; rfl) ?_
    ((conv => whnf); (repeat ((first | with_reducible (first | refine zT rfl ?_ | refine zF rfl ?_ | refine zY rfl ?_) | refine zY (by decide) ?_ | refine zN (by decide) ?_ | with_reducible refine zQ ?_); (conv => whnf))))
    refine acall (alive20 τ) ?_
    rintro _ σ_ ⟨rfl, e_⟩
    obtain rfl := e_.symm
    refine ⟨?_, Ext.refl _⟩
    ((conv => whnf); (repeat ((first | with_reducible (first | refine zT rfl ?_ | refine zF rfl ?_ | refine zY rfl ?_) | refine zY (by decide) ?_ | refine zN (by decide) ?_ | with_reducible refine zQ ?_); (conv => whnf))))
    exact aret (VLe.refl _) (Sub.refl _) ⟨rfl, H.tail⟩
  refine abr_false (by rw [decide_eq_true hr]; rfl) ?_
  ((conv => whnf); (repeat ((first | with_reducible (first | refine zT rfl ?_ | refine zF rfl ?_ | refine zY rfl ?_) | refine zY (by decide) ?_ | refine zN (by decide) ?_ | with_reducible refine zQ ?_); (conv => whnf))))
  (repeat ((first | refine zI (by omega) ?_ | refine zE (by omega) (by omega) ?_ | refine zD (by omega) (by omega) ?_ | refine zY (by omega) ?_ | refine zN (by omega) ?_ | refine amin ?_ | refine amax ?_ | refine zU (by omega) ?_ | refine z8 (by omega) ?_ | refine zX (by omega) (by omega) ?_ | refine zR rfl ?_ | refine acellA ?_ | refine zB H b1 rfl ?_ | refine zC H b1 ?_ | refine zB H b2 rfl ?_ | refine zC H b2 ?_ | refine zB H b3 rfl ?_ | refine zC H b3 ?_ | refine zB H b4 rfl ?_ | refine zC H b4 ?_ | (apply zL H; (· repeat first | exact .h | apply AtK.t); (· rfl)) | (apply zA H; (· repeat first | exact .h | apply AtK.t)) | (apply zS H; (· repeat first | exact .h | apply AtK.t); (· rfl); (conv => whnf); clear H; intro τ H) | rw [List.length_map]); ((conv => whnf); (repeat ((first | with_reducible (first | refine zT rfl ?_ | refine zF rfl ?_ | refine zY rfl ?_) | refine zY (by decide) ?_ | refine zN (by decide) ?_ | with_reducible refine zQ ?_); (conv => whnf))))))
  by_cases hg0 : grants.length = 0
  · (repeat ((first | refine zI (by omega) ?_ | refine zE (by omega) (by omega) ?_ | refine zD (by omega) (by omega) ?_ | refine zY (by omega) ?_ | refine zN (by omega) ?_ | refine amin ?_ | refine amax ?_ | refine zU (by omega) ?_ | refine z8 (by omega) ?_ | refine zX (by omega) (by omega) ?_ | refine zR rfl ?_ | refine acellA ?_ | refine zB H b1 rfl ?_ | refine zC H b1 ?_ | refine zB H b2 rfl ?_ | refine zC H b2 ?_ | refine zB H b3 rfl ?_ | refine zC H b3 ?_ | refine zB H b4 rfl ?_ | refine zC H b4 ?_ | (apply zL H; (· repeat first | exact .h | apply AtK.t); (· rfl)) | (apply zA H; (· repeat first | exact .h | apply AtK.t)) | (apply zS H; (· repeat first | exact .h | apply AtK.t); (· rfl); (conv => whnf); clear H; intro τ H) | rw [List.length_map]); ((conv => whnf); (repeat ((first | with_reducible (first | refine zT rfl ?_ | refine zF rfl ?_ | refine zY rfl ?_) | refine zY (by decide) ?_ | refine zN (by decide) ?_ | with_reducible refine zQ ?_); (conv => whnf))))))
    refine acall (alive20 τ) ?_
    rintro _ σ_ ⟨rfl, e_⟩
    obtain rfl := e_.symm
    refine ⟨?_, Ext.refl _⟩
    ((conv => whnf); (repeat ((first | with_reducible (first | refine zT rfl ?_ | refine zF rfl ?_ | refine zY rfl ?_) | refine zY (by decide) ?_ | refine zN (by decide) ?_ | with_reducible refine zQ ?_); (conv => whnf))))
    exact aret (VLe.refl _) (Sub.refl _) ⟨rfl, H.tail⟩
  (repeat ((first | refine zI (by omega) ?_ | refine zE (by omega) (by omega) ?_ | refine zD (by omega) (by omega) ?_ | refine zY (by omega) ?_ | refine zN (by omega) ?_ | refine amin ?_ | refine amax ?_ | refine zU (by omega) ?_ | refine z8 (by omega) ?_ | refine zX (by omega) (by omega) ?_ | refine zR rfl ?_ | refine acellA ?_ | refine zB H b1 rfl ?_ | refine zC H b1 ?_ | refine zB H b2 rfl ?_ | refine zC H b2 ?_ | refine zB H b3 rfl ?_ | refine zC H b3 ?_ | refine zB H b4 rfl ?_ | refine zC H b4 ?_ | (apply zL H; (· repeat first | exact .h | apply AtK.t); (· rfl)) | (apply zA H; (· repeat first | exact .h | apply AtK.t)) | (apply zS H; (· repeat first | exact .h | apply AtK.t); (· rfl); (conv => whnf); clear H; intro τ H) | rw [List.length_map]); ((conv => whnf); (repeat ((first | with_reducible (first | refine zT rfl ?_ | refine zF rfl ?_ | refine zY rfl ?_) | refine zY (by decide) ?_ | refine zN (by decide) ?_ | with_reducible refine zQ ?_); (conv => whnf))))))
  by_cases ha5 : ahead.length > 500
  · (repeat ((first | refine zI (by omega) ?_ | refine zE (by omega) (by omega) ?_ | refine zD (by omega) (by omega) ?_ | refine zY (by omega) ?_ | refine zN (by omega) ?_ | refine amin ?_ | refine amax ?_ | refine zU (by omega) ?_ | refine z8 (by omega) ?_ | refine zX (by omega) (by omega) ?_ | refine zR rfl ?_ | refine acellA ?_ | refine zB H b1 rfl ?_ | refine zC H b1 ?_ | refine zB H b2 rfl ?_ | refine zC H b2 ?_ | refine zB H b3 rfl ?_ | refine zC H b3 ?_ | refine zB H b4 rfl ?_ | refine zC H b4 ?_ | (apply zL H; (· repeat first | exact .h | apply AtK.t); (· rfl)) | (apply zA H; (· repeat first | exact .h | apply AtK.t)) | (apply zS H; (· repeat first | exact .h | apply AtK.t); (· rfl); (conv => whnf); clear H; intro τ H) | rw [List.length_map]); ((conv => whnf); (repeat ((first | with_reducible (first | refine zT rfl ?_ | refine zF rfl ?_ | refine zY rfl ?_) | refine zY (by decide) ?_ | refine zN (by decide) ?_ | with_reducible refine zQ ?_); (conv => whnf))))))
    refine acall (alive20 τ) ?_
    rintro _ σ_ ⟨rfl, e_⟩
    obtain rfl := e_.symm
    refine ⟨?_, Ext.refl _⟩
    ((conv => whnf); (repeat ((first | with_reducible (first | refine zT rfl ?_ | refine zF rfl ?_ | refine zY rfl ?_) | refine zY (by decide) ?_ | refine zN (by decide) ?_ | with_reducible refine zQ ?_); (conv => whnf))))
    exact aret (VLe.refl _) (Sub.refl _) ⟨rfl, H.tail⟩
  (repeat ((first | refine zI (by omega) ?_ | refine zE (by omega) (by omega) ?_ | refine zD (by omega) (by omega) ?_ | refine zY (by omega) ?_ | refine zN (by omega) ?_ | refine amin ?_ | refine amax ?_ | refine zU (by omega) ?_ | refine z8 (by omega) ?_ | refine zX (by omega) (by omega) ?_ | refine zR rfl ?_ | refine acellA ?_ | refine zB H b1 rfl ?_ | refine zC H b1 ?_ | refine zB H b2 rfl ?_ | refine zC H b2 ?_ | refine zB H b3 rfl ?_ | refine zC H b3 ?_ | refine zB H b4 rfl ?_ | refine zC H b4 ?_ | (apply zL H; (· repeat first | exact .h | apply AtK.t); (· rfl)) | (apply zA H; (· repeat first | exact .h | apply AtK.t)) | (apply zS H; (· repeat first | exact .h | apply AtK.t); (· rfl); (conv => whnf); clear H; intro τ H) | rw [List.length_map]); ((conv => whnf); (repeat ((first | with_reducible (first | refine zT rfl ?_ | refine zF rfl ?_ | refine zY rfl ?_) | refine zY (by decide) ?_ | refine zN (by decide) ?_ | with_reducible refine zQ ?_); (conv => whnf))))))
  refine acall (gNew _) ?_
  rintro v σ1 ⟨id1, rfl, w1⟩
  refine ⟨?_, w1.ext⟩
  obtain ⟨t1, H1⟩ := H.glnew w1
  clear w1 H
  ((conv => whnf); (repeat ((first | with_reducible (first | refine zT rfl ?_ | refine zF rfl ?_ | refine zY rfl ?_) | refine zY (by decide) ?_ | refine zN (by decide) ?_ | with_reducible refine zQ ?_); (conv => whnf))))
  refine acall (gNew _) ?_
  rintro v σ2 ⟨id2, rfl, w2⟩
  refine ⟨?_, w2.ext⟩
  obtain ⟨t2, H⟩ := H1.glnew w2
  clear w2 H1
  ((conv => whnf); (repeat ((first | with_reducible (first | refine zT rfl ?_ | refine zF rfl ?_ | refine zY rfl ?_) | refine zY (by decide) ?_ | refine zN (by decide) ?_ | with_reducible refine zQ ?_); (conv => whnf))))
  (repeat ((first | refine zI (by omega) ?_ | refine zE (by omega) (by omega) ?_ | refine zD (by omega) (by omega) ?_ | refine zY (by omega) ?_ | refine zN (by omega) ?_ | refine amin ?_ | refine amax ?_ | refine zU (by omega) ?_ | refine z8 (by omega) ?_ | refine zX (by omega) (by omega) ?_ | refine zR rfl ?_ | refine acellA ?_ | refine zB H b1 rfl ?_ | refine zC H b1 ?_ | refine zB H b2 rfl ?_ | refine zC H b2 ?_ | refine zB H b3 rfl ?_ | refine zC H b3 ?_ | refine zB H b4 rfl ?_ | refine zC H b4 ?_ | (apply zL H; (· repeat first | exact .h | apply AtK.t); (· rfl)) | (apply zA H; (· repeat first | exact .h | apply AtK.t)) | (apply zS H; (· repeat first | exact .h | apply AtK.t); (· rfl); (conv => whnf); clear H; intro τ H) | rw [List.length_map]); ((conv => whnf); (repeat ((first | with_reducible (first | refine zT rfl ?_ | refine zF rfl ?_ | refine zY rfl ?_) | refine zY (by decide) ?_ | refine zN (by decide) ?_ | with_reducible refine zQ ?_); (conv => whnf))))))
  by_cases hah : ahead.length > 0
  case' pos =>
    (repeat ((first | refine zI (by omega) ?_ | refine zE (by omega) (by omega) ?_ | refine zD (by omega) (by omega) ?_ | refine zY (by omega) ?_ | refine zN (by omega) ?_ | refine amin ?_ | refine amax ?_ | refine zU (by omega) ?_ | refine z8 (by omega) ?_ | refine zX (by omega) (by omega) ?_ | refine zR rfl ?_ | refine acellA ?_ | refine zB H b1 rfl ?_ | refine zC H b1 ?_ | refine zB H b2 rfl ?_ | refine zC H b2 ?_ | refine zB H b3 rfl ?_ | refine zC H b3 ?_ | refine zB H b4 rfl ?_ | refine zC H b4 ?_ | (apply zL H; (· repeat first | exact .h | apply AtK.t); (· rfl)) | (apply zA H; (· repeat first | exact .h | apply AtK.t)) | (apply zS H; (· repeat first | exact .h | apply AtK.t); (· rfl); (conv => whnf); clear H; intro τ H) | rw [List.length_map]); ((conv => whnf); (repeat ((first | with_reducible (first | refine zT rfl ?_ | refine zF rfl ?_ | refine zY rfl ?_) | refine zY (by decide) ?_ | refine zN (by decide) ?_ | with_reducible refine zQ ?_); (conv => whnf))))))
    refine acall (gPut id1 1 [ahead] .full false (none, 0) _ _ (Gl.at (H.get (k := 1) rfl)) (Nat.zero_le _) (Nat.zero_le _) (Nat.le_of_ble_eq_true rfl) (fun f hf => by rw [List.mem_singleton] at hf; subst hf; exact hal)) ?_
    rintro _ σ3 ⟨rfl, w3⟩
    obtain ⟨t3, H1⟩ := H.glput (k := 1) rfl w3
    clear w3 H
    dsimp only [List.set] at H1
    ((conv => whnf); (repeat ((first | with_reducible (first | refine zT rfl ?_ | refine zF rfl ?_ | refine zY rfl ?_) | refine zY (by decide) ?_ | refine zN (by decide) ?_ | with_reducible refine zQ ?_); (conv => whnf))))
    refine acall (gPut id2 1 [ahead] .full false (none, 0) _ _ (Gl.at (H1.get (k := 0) rfl)) (Nat.zero_le _) (Nat.zero_le _) (Nat.le_of_ble_eq_true rfl) (fun f hf => by rw [List.mem_singleton] at hf; subst hf; exact hal)) ?_
    rintro _ σ4 ⟨rfl, w4⟩
    obtain ⟨t4, H⟩ := H1.glput (k := 0) rfl w4
    clear w4 H1
    dsimp only [List.set] at H
    rw [show (putG 1 [ahead] false (none, 0)).2 = aheadG ahead by unfold aheadG; rw [if_pos hah]] at H
    ((conv => whnf); (repeat ((first | with_reducible (first | refine zT rfl ?_ | refine zF rfl ?_ | refine zY rfl ?_) | refine zY (by decide) ?_ | refine zN (by decide) ?_ | with_reducible refine zQ ?_); (conv => whnf))))
    (repeat ((first | refine zI (by omega) ?_ | refine zE (by omega) (by omega) ?_ | refine zD (by omega) (by omega) ?_ | refine zY (by omega) ?_ | refine zN (by omega) ?_ | refine amin ?_ | refine amax ?_ | refine zU (by omega) ?_ | refine z8 (by omega) ?_ | refine zX (by omega) (by omega) ?_ | refine zR rfl ?_ | refine acellA ?_ | refine zB H b1 rfl ?_ | refine zC H b1 ?_ | refine zB H b2 rfl ?_ | refine zC H b2 ?_ | refine zB H b3 rfl ?_ | refine zC H b3 ?_ | refine zB H b4 rfl ?_ | refine zC H b4 ?_ | (apply zL H; (· repeat first | exact .h | apply AtK.t); (· rfl)) | (apply zA H; (· repeat first | exact .h | apply AtK.t)) | (apply zS H; (· repeat first | exact .h | apply AtK.t); (· rfl); (conv => whnf); clear H; intro τ H) | rw [List.length_map]); ((conv => whnf); (repeat ((first | with_reducible (first | refine zT rfl ?_ | refine zF rfl ?_ | refine zY rfl ?_) | refine zY (by decide) ?_ | refine zN (by decide) ?_ | with_reducible refine zQ ?_); (conv => whnf))))))
  case' neg =>
    rw [show ((none, 0) : GS) = aheadG ahead by unfold aheadG; rw [if_neg hah]] at H
    (repeat ((first | refine zI (by omega) ?_ | refine zE (by omega) (by omega) ?_ | refine zD (by omega) (by omega) ?_ | refine zY (by omega) ?_ | refine zN (by omega) ?_ | refine amin ?_ | refine amax ?_ | refine zU (by omega) ?_ | refine z8 (by omega) ?_ | refine zX (by omega) (by omega) ?_ | refine zR rfl ?_ | refine acellA ?_ | refine zB H b1 rfl ?_ | refine zC H b1 ?_ | refine zB H b2 rfl ?_ | refine zC H b2 ?_ | refine zB H b3 rfl ?_ | refine zC H b3 ?_ | refine zB H b4 rfl ?_ | refine zC H b4 ?_ | (apply zL H; (· repeat first | exact .h | apply AtK.t); (· rfl)) | (apply zA H; (· repeat first | exact .h | apply AtK.t)) | (apply zS H; (· repeat first | exact .h | apply AtK.t); (· rfl); (conv => whnf); clear H; intro τ H) | rw [List.length_map]); ((conv => whnf); (repeat ((first | with_reducible (first | refine zT rfl ?_ | refine zF rfl ?_ | refine zY rfl ?_) | refine zY (by decide) ?_ | refine zN (by decide) ?_ | with_reducible refine zQ ?_); (conv => whnf))))))
  all_goals
    have hah2 := aheadG_ok ahead
    clear hah
    generalize aheadG ahead = g at *
    obtain ⟨hgh, hgl2⟩ := hah2
    obtain ⟨hgp, hpa⟩ := gp_ok hr
    have hgn : (g.1.getD []).length ≤ 1000 := by have h0 : heldN g = (g.1.getD []).length := rfl; omega
    refine acall (gPut id1 p.fi p.fs .none false g _ _ (Gl.at (H.get (k := 1) rfl)) (by omega) hgn (by omega) (fun f hf => by have := hsm.2 f hf; omega)) ?_
    rintro _ σ5 ⟨rfl, w5⟩
    obtain ⟨t5, H1⟩ := H.glput (k := 1) rfl w5
    clear w5 H
    dsimp only [List.set] at H1
    have H := H1
    clear H1
    rw [show putG p.fi p.fs false g = putN p.fi p.fs g p.fs.length by unfold putG gapG; rw [if_neg (by rw [hgp]; exact Bool.false_ne_true), if_neg Bool.false_ne_true]] at *
    rw [hgp, if_neg Bool.false_ne_true] at *
    ((conv => whnf); (repeat ((first | with_reducible (first | refine zT rfl ?_ | refine zF rfl ?_ | refine zY rfl ?_) | refine zY (by decide) ?_ | refine zN (by decide) ?_ | with_reducible refine zQ ?_); (conv => whnf))))
    (repeat ((first | refine zI (by omega) ?_ | refine zE (by omega) (by omega) ?_ | refine zD (by omega) (by omega) ?_ | refine zY (by omega) ?_ | refine zN (by omega) ?_ | refine amin ?_ | refine amax ?_ | refine zU (by omega) ?_ | refine z8 (by omega) ?_ | refine zX (by omega) (by omega) ?_ | refine zR rfl ?_ | refine acellA ?_ | refine zB H b1 rfl ?_ | refine zC H b1 ?_ | refine zB H b2 rfl ?_ | refine zC H b2 ?_ | refine zB H b3 rfl ?_ | refine zC H b3 ?_ | refine zB H b4 rfl ?_ | refine zC H b4 ?_ | (apply zL H; (· repeat first | exact .h | apply AtK.t); (· rfl)) | (apply zA H; (· repeat first | exact .h | apply AtK.t)) | (apply zS H; (· repeat first | exact .h | apply AtK.t); (· rfl); (conv => whnf); clear H; intro τ H) | rw [List.length_map]); ((conv => whnf); (repeat ((first | with_reducible (first | refine zT rfl ?_ | refine zF rfl ?_ | refine zY rfl ?_) | refine zY (by decide) ?_ | refine zN (by decide) ?_ | with_reducible refine zQ ?_); (conv => whnf))))))
    refine acall (aData p _ (by omega) (by omega)) ?_
    rintro _ σ_ ⟨rfl, e_⟩
    obtain rfl := e_.symm
    refine ⟨?_, Ext.refl _⟩
    ((conv => whnf); (repeat ((first | with_reducible (first | refine zT rfl ?_ | refine zF rfl ?_ | refine zY rfl ?_) | refine zY (by decide) ?_ | refine zN (by decide) ?_ | with_reducible refine zQ ?_); (conv => whnf))))
    have hdl : p.fs.flatten.length = total p.fs := rfl
    rw [List.length_map, hdl] at *
    obtain ⟨hw, hf1, hf2, hsn, hfo, ho1, ho2, hpl⟩ := amSize_ok hr
    have hpos : 0 < total p.fs := by
      have h1 := total_get (l := p.fs) (i := 0) (by have := hfo.one; omega)
      have h2 := (hfo.each 0 (by have := hfo.one; omega)).1
      omega
    (repeat ((first | refine zI (by omega) ?_ | refine zE (by omega) (by omega) ?_ | refine zD (by omega) (by omega) ?_ | refine zY (by omega) ?_ | refine zN (by omega) ?_ | refine amin ?_ | refine amax ?_ | refine zU (by omega) ?_ | refine z8 (by omega) ?_ | refine zX (by omega) (by omega) ?_ | refine zR rfl ?_ | refine acellA ?_ | refine zB H b1 rfl ?_ | refine zC H b1 ?_ | refine zB H b2 rfl ?_ | refine zC H b2 ?_ | refine zB H b3 rfl ?_ | refine zC H b3 ?_ | refine zB H b4 rfl ?_ | refine zC H b4 ?_ | (apply zL H; (· repeat first | exact .h | apply AtK.t); (· rfl)) | (apply zA H; (· repeat first | exact .h | apply AtK.t)) | (apply zS H; (· repeat first | exact .h | apply AtK.t); (· rfl); (conv => whnf); clear H; intro τ H) | rw [List.length_map]); ((conv => whnf); (repeat ((first | with_reducible (first | refine zT rfl ?_ | refine zF rfl ?_ | refine zY rfl ?_) | refine zY (by decide) ?_ | refine zN (by decide) ?_ | with_reducible refine zQ ?_); (conv => whnf))))))
    by_cases hbig : (total p.fs : Int) > 1000 - ahead.length
    · (repeat ((first | refine zI (by omega) ?_ | refine zE (by omega) (by omega) ?_ | refine zD (by omega) (by omega) ?_ | refine zY (by omega) ?_ | refine zN (by omega) ?_ | refine amin ?_ | refine amax ?_ | refine zU (by omega) ?_ | refine z8 (by omega) ?_ | refine zX (by omega) (by omega) ?_ | refine zR rfl ?_ | refine acellA ?_ | refine zB H b1 rfl ?_ | refine zC H b1 ?_ | refine zB H b2 rfl ?_ | refine zC H b2 ?_ | refine zB H b3 rfl ?_ | refine zC H b3 ?_ | refine zB H b4 rfl ?_ | refine zC H b4 ?_ | (apply zL H; (· repeat first | exact .h | apply AtK.t); (· rfl)) | (apply zA H; (· repeat first | exact .h | apply AtK.t)) | (apply zS H; (· repeat first | exact .h | apply AtK.t); (· rfl); (conv => whnf); clear H; intro τ H) | rw [List.length_map]); ((conv => whnf); (repeat ((first | with_reducible (first | refine zT rfl ?_ | refine zF rfl ?_ | refine zY rfl ?_) | refine zY (by decide) ?_ | refine zN (by decide) ?_ | with_reducible refine zQ ?_); (conv => whnf))))))
      refine acall (alive20 _) ?_
      rintro _ σ_ ⟨rfl, e_⟩
      obtain rfl := e_.symm
      refine ⟨?_, Ext.refl _⟩
      ((conv => whnf); (repeat ((first | with_reducible (first | refine zT rfl ?_ | refine zF rfl ?_ | refine zY rfl ?_) | refine zY (by decide) ?_ | refine zN (by decide) ?_ | with_reducible refine zQ ?_); (conv => whnf))))
      exact aret (VLe.refl _) (Sub.refl _) ⟨rfl, H.tail.tail.tail⟩
    (repeat ((first | refine zI (by omega) ?_ | refine zE (by omega) (by omega) ?_ | refine zD (by omega) (by omega) ?_ | refine zY (by omega) ?_ | refine zN (by omega) ?_ | refine amin ?_ | refine amax ?_ | refine zU (by omega) ?_ | refine z8 (by omega) ?_ | refine zX (by omega) (by omega) ?_ | refine zR rfl ?_ | refine acellA ?_ | refine zB H b1 rfl ?_ | refine zC H b1 ?_ | refine zB H b2 rfl ?_ | refine zC H b2 ?_ | refine zB H b3 rfl ?_ | refine zC H b3 ?_ | refine zB H b4 rfl ?_ | refine zC H b4 ?_ | (apply zL H; (· repeat first | exact .h | apply AtK.t); (· rfl)) | (apply zA H; (· repeat first | exact .h | apply AtK.t)) | (apply zS H; (· repeat first | exact .h | apply AtK.t); (· rfl); (conv => whnf); clear H; intro τ H) | rw [List.length_map]); ((conv => whnf); (repeat ((first | with_reducible (first | refine zT rfl ?_ | refine zF rfl ?_ | refine zY rfl ?_) | refine zY (by decide) ?_ | refine zN (by decide) ?_ | with_reducible refine zQ ?_); (conv => whnf))))))
    rw [hpa g (by omega)] at *
    refine aloop (α := Nat × Nat × Tok × AHeap) (fun y => [(s14, lists y.2.2.1 (runB p g 0 y.1).1), (s15, i64v y.1), (s16, i64v y.2.1)]) (fun y => y.2.2.2) (fun y => y.1 ≤ total p.fs ∧ y.2.1 ≤ y.1 ∧ ∃ t6, Hp σ [.t y.2.2.1, .o id2 (.cells (glCells (runB p g 0 y.1).2 t6)), .o id1 (.cells (glCells (runB p g 0 (total p.fs)).2 t5)), .o i5 (.cells (amV p).cells)] y.2.2.2) (fun y => total p.fs - y.1) (0, 0, .full, _) ⟨Nat.zero_le _, Nat.zero_le _, _, H.cons_full⟩ (Sub.refl _) ?_ ?_
    · ((conv => whnf); (repeat ((first | with_reducible (first | refine zT rfl ?_ | refine zF rfl ?_ | refine zY rfl ?_) | refine zY (by decide) ?_ | refine zN (by decide) ?_ | with_reducible refine zQ ?_); (conv => whnf))))
      (repeat' first | with_reducible exact EnvLe.refl _ | (refine EnvLe.node ?_ (by first | exact Or.inl rfl | exact Or.inr (Or.inl rfl) | exact Or.inr (Or.inr ⟨nofun, VLe.slice _ _ _⟩)) ?_))
    clear H
    rintro ⟨x, i, tk, τ⟩ ⟨hx, hi, t6, H⟩
    dsimp only at hx hi H ⊢
    obtain ⟨r1, r2, r3⟩ := runB_held p g 0 x
    ((conv => whnf); (repeat ((first | with_reducible (first | refine zT rfl ?_ | refine zF rfl ?_ | refine zY rfl ?_) | refine zY (by decide) ?_ | refine zN (by decide) ?_ | with_reducible refine zQ ?_); (conv => whnf))))
    (repeat ((first | refine zI (by omega) ?_ | refine zE (by omega) (by omega) ?_ | refine zD (by omega) (by omega) ?_ | refine zY (by omega) ?_ | refine zN (by omega) ?_ | refine amin ?_ | refine amax ?_ | refine zU (by omega) ?_ | refine z8 (by omega) ?_ | refine zX (by omega) (by omega) ?_ | refine zR rfl ?_ | refine acellA ?_ | refine zB H b1 rfl ?_ | refine zC H b1 ?_ | refine zB H b2 rfl ?_ | refine zC H b2 ?_ | refine zB H b3 rfl ?_ | refine zC H b3 ?_ | refine zB H b4 rfl ?_ | refine zC H b4 ?_ | (apply zL H; (· repeat first | exact .h | apply AtK.t); (· rfl)) | (apply zA H; (· repeat first | exact .h | apply AtK.t)) | (apply zS H; (· repeat first | exact .h | apply AtK.t); (· rfl); (conv => whnf); clear H; intro τ H) | rw [List.length_map]); ((conv => whnf); (repeat ((first | with_reducible (first | refine zT rfl ?_ | refine zF rfl ?_ | refine zY rfl ?_) | refine zY (by decide) ?_ | refine zN (by decide) ?_ | with_reducible refine zQ ?_); (conv => whnf))))))
    by_cases hxn : x < total p.fs
    · have hjm : i % grants.length < grants.length := Nat.mod_lt _ (by omega)
      have hrj := hgr _ (List.getElem_mem hjm)
      (repeat ((first | refine zI (by omega) ?_ | refine zE (by omega) (by omega) ?_ | refine zD (by omega) (by omega) ?_ | refine zY (by omega) ?_ | refine zN (by omega) ?_ | refine amin ?_ | refine amax ?_ | refine zU (by omega) ?_ | refine z8 (by omega) ?_ | refine zX (by omega) (by omega) ?_ | refine zR rfl ?_ | refine acellA ?_ | refine zB H b1 rfl ?_ | refine zC H b1 ?_ | refine zB H b2 rfl ?_ | refine zC H b2 ?_ | refine zB H b3 rfl ?_ | refine zC H b3 ?_ | refine zB H b4 rfl ?_ | refine zC H b4 ?_ | (apply zL H; (· repeat first | exact .h | apply AtK.t); (· rfl)) | (apply zA H; (· repeat first | exact .h | apply AtK.t)) | (apply zS H; (· repeat first | exact .h | apply AtK.t); (· rfl); (conv => whnf); clear H; intro τ H) | rw [List.length_map]); ((conv => whnf); (repeat ((first | with_reducible (first | refine zT rfl ?_ | refine zF rfl ?_ | refine zY rfl ?_) | refine zY (by decide) ?_ | refine zN (by decide) ?_ | with_reducible refine zQ ?_); (conv => whnf))))))
      rw [show ((i : Int) % (grants.length : Int)) = ((i % grants.length : Nat) : Int) from (Int.natCast_emod _ _).symm]
      refine aget (by omega) (get_u16n hjm) ?_
      ((conv => whnf); (repeat ((first | with_reducible (first | refine zT rfl ?_ | refine zF rfl ?_ | refine zY rfl ?_) | refine zY (by decide) ?_ | refine zN (by decide) ?_ | with_reducible refine zQ ?_); (conv => whnf))))
      (repeat ((first | refine zI (by omega) ?_ | refine zE (by omega) (by omega) ?_ | refine zD (by omega) (by omega) ?_ | refine zY (by omega) ?_ | refine zN (by omega) ?_ | refine amin ?_ | refine amax ?_ | refine zU (by omega) ?_ | refine z8 (by omega) ?_ | refine zX (by omega) (by omega) ?_ | refine zR rfl ?_ | refine acellA ?_ | refine zB H b1 rfl ?_ | refine zC H b1 ?_ | refine zB H b2 rfl ?_ | refine zC H b2 ?_ | refine zB H b3 rfl ?_ | refine zC H b3 ?_ | refine zB H b4 rfl ?_ | refine zC H b4 ?_ | (apply zL H; (· repeat first | exact .h | apply AtK.t); (· rfl)) | (apply zA H; (· repeat first | exact .h | apply AtK.t)) | (apply zS H; (· repeat first | exact .h | apply AtK.t); (· rfl); (conv => whnf); clear H; intro τ H) | rw [List.length_map]); ((conv => whnf); (repeat ((first | with_reducible (first | refine zT rfl ?_ | refine zF rfl ?_ | refine zY rfl ?_) | refine zY (by decide) ?_ | refine zN (by decide) ?_ | with_reducible refine zQ ?_); (conv => whnf))))))
      have hlr : 0 ≤ leastV w ∧ leastV w ≤ 6 := by have := amHead_range true w; unfold leastV; split <;> omega
      obtain ⟨gr, hgr3⟩ : ∃ gr : Int, gr = ((grants[i % grants.length] : Nat) : Int) % 64 := ⟨_, rfl⟩
      rw [← hgr3]
      obtain ⟨X, y, hcut, hxy, hyn, hX1, hX2, hX3, hX4⟩ := cut_glue (a := x) (G := leastV w + gr) hr q1 hxn (by omega) (by omega)
      have hX4 := hX4 (runB p g 0 x).2 (by omega)
      have hrun : runB p g 0 y = ((runB p g 0 x).1 ++ (runB p (runB p g 0 x).2 x (y - x)).1, (runB p (runB p g 0 x).2 x (y - x)).2) := by
        have := runB_add p g 0 x (y - x)
        rw [Nat.zero_add, show x + (y - x) = y by omega] at this
        exact this
      obtain ⟨z1, z2, z3⟩ := runB_held p (runB p g 0 x).2 x (y - x)
      constructor
      case' right =>
        ((conv => whnf); (repeat ((first | with_reducible (first | refine zT rfl ?_ | refine zF rfl ?_ | refine zY rfl ?_) | refine zY (by decide) ?_ | refine zN (by decide) ?_ | with_reducible refine zQ ?_); (conv => whnf))))
        refine hnew H rfl ?_
        clear H
        intro i17 τ H
        ((conv => whnf); (repeat ((first | with_reducible (first | refine zT rfl ?_ | refine zF rfl ?_ | refine zY rfl ?_) | refine zY (by decide) ?_ | refine zN (by decide) ?_ | with_reducible refine zQ ?_); (conv => whnf))))
        refine acall (gLeast w τ) ?_
        rintro _ σ_ ⟨rfl, e_⟩
        obtain rfl := e_.symm
        refine ⟨?_, Ext.refl _⟩
        ((conv => whnf); (repeat ((first | with_reducible (first | refine zT rfl ?_ | refine zF rfl ?_ | refine zY rfl ?_) | refine zY (by decide) ?_ | refine zN (by decide) ?_ | with_reducible refine zQ ?_); (conv => whnf))))
        (repeat ((first | refine zI (by omega) ?_ | refine zE (by omega) (by omega) ?_ | refine zD (by omega) (by omega) ?_ | refine zY (by omega) ?_ | refine zN (by omega) ?_ | refine amin ?_ | refine amax ?_ | refine zU (by omega) ?_ | refine z8 (by omega) ?_ | refine zX (by omega) (by omega) ?_ | refine zR rfl ?_ | refine acellA ?_ | refine zB H b1 rfl ?_ | refine zC H b1 ?_ | refine zB H b2 rfl ?_ | refine zC H b2 ?_ | refine zB H b3 rfl ?_ | refine zC H b3 ?_ | refine zB H b4 rfl ?_ | refine zC H b4 ?_ | (apply zL H; (· repeat first | exact .h | apply AtK.t); (· rfl)) | (apply zA H; (· repeat first | exact .h | apply AtK.t)) | (apply zS H; (· repeat first | exact .h | apply AtK.t); (· rfl); (conv => whnf); clear H; intro τ H) | rw [List.length_map]); ((conv => whnf); (repeat ((first | with_reducible (first | refine zT rfl ?_ | refine zF rfl ?_ | refine zY rfl ?_) | refine zY (by decide) ?_ | refine zN (by decide) ?_ | with_reducible refine zQ ?_); (conv => whnf))))))
        refine acall (gCut p x (total p.fs) (leastV w + gr) w τ (by omega)) ?_
        rintro _ σ_ ⟨rfl, e_⟩
        obtain rfl := e_.symm
        refine ⟨?_, Ext.refl _⟩
        ((conv => whnf); (repeat ((first | with_reducible (first | refine zT rfl ?_ | refine zF rfl ?_ | refine zY rfl ?_) | refine zY (by decide) ?_ | refine zN (by decide) ?_ | with_reducible refine zQ ?_); (conv => whnf))))
        rw [hcut]
        dsimp only [amV]
        ((conv => whnf); (repeat ((first | with_reducible (first | refine zT rfl ?_ | refine zF rfl ?_ | refine zY rfl ?_) | refine zY (by decide) ?_ | refine zN (by decide) ?_ | with_reducible refine zQ ?_); (conv => whnf))))
        (repeat ((first | refine zI (by omega) ?_ | refine zE (by omega) (by omega) ?_ | refine zD (by omega) (by omega) ?_ | refine zY (by omega) ?_ | refine zN (by omega) ?_ | refine amin ?_ | refine amax ?_ | refine zU (by omega) ?_ | refine z8 (by omega) ?_ | refine zX (by omega) (by omega) ?_ | refine zR rfl ?_ | refine acellA ?_ | refine zB H b1 rfl ?_ | refine zC H b1 ?_ | refine zB H b2 rfl ?_ | refine zC H b2 ?_ | refine zB H b3 rfl ?_ | refine zC H b3 ?_ | refine zB H b4 rfl ?_ | refine zC H b4 ?_ | (apply zL H; (· repeat first | exact .h | apply AtK.t); (· rfl)) | (apply zA H; (· repeat first | exact .h | apply AtK.t)) | (apply zS H; (· repeat first | exact .h | apply AtK.t); (· rfl); (conv => whnf); clear H; intro τ H) | rw [List.length_map]); ((conv => whnf); (repeat ((first | with_reducible (first | refine zT rfl ?_ | refine zF rfl ?_ | refine zY rfl ?_) | refine zY (by decide) ?_ | refine zN (by decide) ?_ | with_reducible refine zQ ?_); (conv => whnf))))))
      case' left =>
        ((conv => whnf); (repeat ((first | with_reducible (first | refine zT rfl ?_ | refine zF rfl ?_ | refine zY rfl ?_) | refine zY (by decide) ?_ | refine zN (by decide) ?_ | with_reducible refine zQ ?_); (conv => whnf))))
        refine acall (gLeast w τ) ?_
        rintro _ σ_ ⟨rfl, e_⟩
        obtain rfl := e_.symm
        refine ⟨?_, Ext.refl _⟩
        ((conv => whnf); (repeat ((first | with_reducible (first | refine zT rfl ?_ | refine zF rfl ?_ | refine zY rfl ?_) | refine zY (by decide) ?_ | refine zN (by decide) ?_ | with_reducible refine zQ ?_); (conv => whnf))))
        (repeat ((first | refine zI (by omega) ?_ | refine zE (by omega) (by omega) ?_ | refine zD (by omega) (by omega) ?_ | refine zY (by omega) ?_ | refine zN (by omega) ?_ | refine amin ?_ | refine amax ?_ | refine zU (by omega) ?_ | refine z8 (by omega) ?_ | refine zX (by omega) (by omega) ?_ | refine zR rfl ?_ | refine acellA ?_ | refine zB H b1 rfl ?_ | refine zC H b1 ?_ | refine zB H b2 rfl ?_ | refine zC H b2 ?_ | refine zB H b3 rfl ?_ | refine zC H b3 ?_ | refine zB H b4 rfl ?_ | refine zC H b4 ?_ | (apply zL H; (· repeat first | exact .h | apply AtK.t); (· rfl)) | (apply zA H; (· repeat first | exact .h | apply AtK.t)) | (apply zS H; (· repeat first | exact .h | apply AtK.t); (· rfl); (conv => whnf); clear H; intro τ H) | rw [List.length_map]); ((conv => whnf); (repeat ((first | with_reducible (first | refine zT rfl ?_ | refine zF rfl ?_ | refine zY rfl ?_) | refine zY (by decide) ?_ | refine zN (by decide) ?_ | with_reducible refine zQ ?_); (conv => whnf))))))
        constructor
        case' right =>
          ((conv => whnf); (repeat ((first | with_reducible (first | refine zT rfl ?_ | refine zF rfl ?_ | refine zY rfl ?_) | refine zY (by decide) ?_ | refine zN (by decide) ?_ | with_reducible refine zQ ?_); (conv => whnf))))
          refine hnew H rfl ?_
          clear H
          intro i17 τ H
          ((conv => whnf); (repeat ((first | with_reducible (first | refine zT rfl ?_ | refine zF rfl ?_ | refine zY rfl ?_) | refine zY (by decide) ?_ | refine zN (by decide) ?_ | with_reducible refine zQ ?_); (conv => whnf))))
          refine acall (gCut p x (total p.fs) (leastV w + gr) w τ (by omega)) ?_
          rintro _ σ_ ⟨rfl, e_⟩
          obtain rfl := e_.symm
          refine ⟨?_, Ext.refl _⟩
          ((conv => whnf); (repeat ((first | with_reducible (first | refine zT rfl ?_ | refine zF rfl ?_ | refine zY rfl ?_) | refine zY (by decide) ?_ | refine zN (by decide) ?_ | with_reducible refine zQ ?_); (conv => whnf))))
          rw [hcut]
          dsimp only [amV]
          ((conv => whnf); (repeat ((first | with_reducible (first | refine zT rfl ?_ | refine zF rfl ?_ | refine zY rfl ?_) | refine zY (by decide) ?_ | refine zN (by decide) ?_ | with_reducible refine zQ ?_); (conv => whnf))))
          (repeat ((first | refine zI (by omega) ?_ | refine zE (by omega) (by omega) ?_ | refine zD (by omega) (by omega) ?_ | refine zY (by omega) ?_ | refine zN (by omega) ?_ | refine amin ?_ | refine amax ?_ | refine zU (by omega) ?_ | refine z8 (by omega) ?_ | refine zX (by omega) (by omega) ?_ | refine zR rfl ?_ | refine acellA ?_ | refine zB H b1 rfl ?_ | refine zC H b1 ?_ | refine zB H b2 rfl ?_ | refine zC H b2 ?_ | refine zB H b3 rfl ?_ | refine zC H b3 ?_ | refine zB H b4 rfl ?_ | refine zC H b4 ?_ | (apply zL H; (· repeat first | exact .h | apply AtK.t); (· rfl)) | (apply zA H; (· repeat first | exact .h | apply AtK.t)) | (apply zS H; (· repeat first | exact .h | apply AtK.t); (· rfl); (conv => whnf); clear H; intro τ H) | rw [List.length_map]); ((conv => whnf); (repeat ((first | with_reducible (first | refine zT rfl ?_ | refine zF rfl ?_ | refine zY rfl ?_) | refine zY (by decide) ?_ | refine zN (by decide) ?_ | with_reducible refine zQ ?_); (conv => whnf))))))
        case' left =>
          ((conv => whnf); (repeat ((first | with_reducible (first | refine zT rfl ?_ | refine zF rfl ?_ | refine zY rfl ?_) | refine zY (by decide) ?_ | refine zN (by decide) ?_ | with_reducible refine zQ ?_); (conv => whnf))))
          refine acall (gCut p x (total p.fs) (leastV w + gr) w τ (by omega)) ?_
          rintro _ σ_ ⟨rfl, e_⟩
          obtain rfl := e_.symm
          refine ⟨?_, Ext.refl _⟩
          ((conv => whnf); (repeat ((first | with_reducible (first | refine zT rfl ?_ | refine zF rfl ?_ | refine zY rfl ?_) | refine zY (by decide) ?_ | refine zN (by decide) ?_ | with_reducible refine zQ ?_); (conv => whnf))))
          rw [hcut]
          dsimp only [amV]
          ((conv => whnf); (repeat ((first | with_reducible (first | refine zT rfl ?_ | refine zF rfl ?_ | refine zY rfl ?_) | refine zY (by decide) ?_ | refine zN (by decide) ?_ | with_reducible refine zQ ?_); (conv => whnf))))
          refine hnew H rfl ?_
          clear H
          intro i17 τ H
          ((conv => whnf); (repeat ((first | with_reducible (first | refine zT rfl ?_ | refine zF rfl ?_ | refine zY rfl ?_) | refine zY (by decide) ?_ | refine zN (by decide) ?_ | with_reducible refine zQ ?_); (conv => whnf))))
          (repeat ((first | refine zI (by omega) ?_ | refine zE (by omega) (by omega) ?_ | refine zD (by omega) (by omega) ?_ | refine zY (by omega) ?_ | refine zN (by omega) ?_ | refine amin ?_ | refine amax ?_ | refine zU (by omega) ?_ | refine z8 (by omega) ?_ | refine zX (by omega) (by omega) ?_ | refine zR rfl ?_ | refine acellA ?_ | refine zB H b1 rfl ?_ | refine zC H b1 ?_ | refine zB H b2 rfl ?_ | refine zC H b2 ?_ | refine zB H b3 rfl ?_ | refine zC H b3 ?_ | refine zB H b4 rfl ?_ | refine zC H b4 ?_ | (apply zL H; (· repeat first | exact .h | apply AtK.t); (· rfl)) | (apply zA H; (· repeat first | exact .h | apply AtK.t)) | (apply zS H; (· repeat first | exact .h | apply AtK.t); (· rfl); (conv => whnf); clear H; intro τ H) | rw [List.length_map]); ((conv => whnf); (repeat ((first | with_reducible (first | refine zT rfl ?_ | refine zF rfl ?_ | refine zY rfl ?_) | refine zY (by decide) ?_ | refine zN (by decide) ?_ | with_reducible refine zQ ?_); (conv => whnf))))))
      all_goals
        refine acall (gPut id2 X.fi X.fs .none false (runB p g 0 x).2 _ _ (Gl.at (H.get (k := 2) rfl)) (by omega) (by have h0 : heldN (runB p g 0 x).2 = ((runB p g 0 x).2.1.getD []).length := rfl; omega) (by omega) (fun f hf => by have := hX2 f hf; omega)) ?_
        rintro _ σ7 ⟨rfl, w7⟩
        obtain ⟨t7, H1⟩ := H.glput (k := 2) rfl w7
        clear w7 H
        dsimp only [List.set] at H1
        have H := H1
        clear H1
        rw [show putG X.fi X.fs false (runB p g 0 x).2 = runB p (runB p g 0 x).2 x (y - x) by unfold putG gapG; rw [if_neg (by rw [hX3]; exact Bool.false_ne_true), if_neg Bool.false_ne_true, hX4]] at *
        rw [hX3, if_neg Bool.false_ne_true] at *
        ((conv => whnf); (repeat ((first | with_reducible (first | refine zT rfl ?_ | refine zF rfl ?_ | refine zY rfl ?_) | refine zY (by decide) ?_ | refine zN (by decide) ?_ | with_reducible refine zQ ?_); (conv => whnf))))
        (repeat ((first | refine zI (by omega) ?_ | refine zE (by omega) (by omega) ?_ | refine zD (by omega) (by omega) ?_ | refine zY (by omega) ?_ | refine zN (by omega) ?_ | refine amin ?_ | refine amax ?_ | refine zU (by omega) ?_ | refine z8 (by omega) ?_ | refine zX (by omega) (by omega) ?_ | refine zR rfl ?_ | refine acellA ?_ | refine zB H b1 rfl ?_ | refine zC H b1 ?_ | refine zB H b2 rfl ?_ | refine zC H b2 ?_ | refine zB H b3 rfl ?_ | refine zC H b3 ?_ | refine zB H b4 rfl ?_ | refine zC H b4 ?_ | (apply zL H; (· repeat first | exact .h | apply AtK.t); (· rfl)) | (apply zA H; (· repeat first | exact .h | apply AtK.t)) | (apply zS H; (· repeat first | exact .h | apply AtK.t); (· rfl); (conv => whnf); clear H; intro τ H) | rw [List.length_map]); ((conv => whnf); (repeat ((first | with_reducible (first | refine zT rfl ?_ | refine zF rfl ?_ | refine zY rfl ?_) | refine zY (by decide) ?_ | refine zN (by decide) ?_ | with_reducible refine zQ ?_); (conv => whnf))))))
        apply zP H
        · (repeat first | exact .h | apply AtK.t)
        · exact (by rw [List.length_map, List.length_map]; omega)
        intro tk8
        (conv => whnf)
        clear H
        intro τ H
        ((conv => whnf); (repeat ((first | with_reducible (first | refine zT rfl ?_ | refine zF rfl ?_ | refine zY rfl ?_) | refine zY (by decide) ?_ | refine zN (by decide) ?_ | with_reducible refine zQ ?_); (conv => whnf))))
        rw [← List.map_append] at *
        (repeat ((first | refine zI (by omega) ?_ | refine zE (by omega) (by omega) ?_ | refine zD (by omega) (by omega) ?_ | refine zY (by omega) ?_ | refine zN (by omega) ?_ | refine amin ?_ | refine amax ?_ | refine zU (by omega) ?_ | refine z8 (by omega) ?_ | refine zX (by omega) (by omega) ?_ | refine zR rfl ?_ | refine acellA ?_ | refine zB H b1 rfl ?_ | refine zC H b1 ?_ | refine zB H b2 rfl ?_ | refine zC H b2 ?_ | refine zB H b3 rfl ?_ | refine zC H b3 ?_ | refine zB H b4 rfl ?_ | refine zC H b4 ?_ | (apply zL H; (· repeat first | exact .h | apply AtK.t); (· rfl)) | (apply zA H; (· repeat first | exact .h | apply AtK.t)) | (apply zS H; (· repeat first | exact .h | apply AtK.t); (· rfl); (conv => whnf); clear H; intro τ H) | rw [List.length_map]); ((conv => whnf); (repeat ((first | with_reducible (first | refine zT rfl ?_ | refine zF rfl ?_ | refine zY rfl ?_) | refine zY (by decide) ?_ | refine zN (by decide) ?_ | with_reducible refine zQ ?_); (conv => whnf))))))
        rw [show (runB p g 0 x).1 ++ (runB p (runB p g 0 x).2 x (y - x)).1 = (runB p g 0 y).1 by rw [hrun]] at *
        rw [show (runB p (runB p g 0 x).2 x (y - x)).2 = (runB p g 0 y).2 by rw [hrun]] at H
        refine ⟨(y, i + 1, tk8, τ), ⟨hyn, by dsimp only; omega, t7, H.tail⟩, by dsimp only; omega, Sub.refl _, ?_⟩
        ((conv => whnf); (repeat ((first | with_reducible (first | refine zT rfl ?_ | refine zF rfl ?_ | refine zY rfl ?_) | refine zY (by decide) ?_ | refine zN (by decide) ?_ | with_reducible refine zQ ?_); (conv => whnf))))
        (repeat' first | with_reducible exact EnvLe.refl _ | (refine EnvLe.node ?_ (by first | exact Or.inl rfl | exact Or.inr (Or.inl rfl) | exact Or.inr (Or.inr ⟨nofun, VLe.slice _ _ _⟩)) ?_))
    · (repeat ((first | refine zI (by omega) ?_ | refine zE (by omega) (by omega) ?_ | refine zD (by omega) (by omega) ?_ | refine zY (by omega) ?_ | refine zN (by omega) ?_ | refine amin ?_ | refine amax ?_ | refine zU (by omega) ?_ | refine z8 (by omega) ?_ | refine zX (by omega) (by omega) ?_ | refine zR rfl ?_ | refine acellA ?_ | refine zB H b1 rfl ?_ | refine zC H b1 ?_ | refine zB H b2 rfl ?_ | refine zC H b2 ?_ | refine zB H b3 rfl ?_ | refine zC H b3 ?_ | refine zB H b4 rfl ?_ | refine zC H b4 ?_ | (apply zL H; (· repeat first | exact .h | apply AtK.t); (· rfl)) | (apply zA H; (· repeat first | exact .h | apply AtK.t)) | (apply zS H; (· repeat first | exact .h | apply AtK.t); (· rfl); (conv => whnf); clear H; intro τ H) | rw [List.length_map]); ((conv => whnf); (repeat ((first | with_reducible (first | refine zT rfl ?_ | refine zF rfl ?_ | refine zY rfl ?_) | refine zY (by decide) ?_ | refine zN (by decide) ?_ | with_reducible refine zQ ?_); (conv => whnf))))))
      obtain rfl : x = total p.fs := by omega
      (repeat ((first | refine zI (by omega) ?_ | refine zE (by omega) (by omega) ?_ | refine zD (by omega) (by omega) ?_ | refine zY (by omega) ?_ | refine zN (by omega) ?_ | refine amin ?_ | refine amax ?_ | refine zU (by omega) ?_ | refine z8 (by omega) ?_ | refine zX (by omega) (by omega) ?_ | refine zR rfl ?_ | refine acellA ?_ | refine zB H b1 rfl ?_ | refine zC H b1 ?_ | refine zB H b2 rfl ?_ | refine zC H b2 ?_ | refine zB H b3 rfl ?_ | refine zC H b3 ?_ | refine zB H b4 rfl ?_ | refine zC H b4 ?_ | (apply zL H; (· repeat first | exact .h | apply AtK.t); (· rfl)) | (apply zA H; (· repeat first | exact .h | apply AtK.t)) | (apply zS H; (· repeat first | exact .h | apply AtK.t); (· rfl); (conv => whnf); clear H; intro τ H) | rw [List.length_map]); ((conv => whnf); (repeat ((first | with_reducible (first | refine zT rfl ?_ | refine zF rfl ?_ | refine zY rfl ?_) | refine zY (by decide) ?_ | refine zN (by decide) ?_ | with_reducible refine zQ ?_); (conv => whnf))))))
      refine acall (gHeld id1 _ _ _ (Gl.at (H.get (k := 2) rfl))) ?_
      rintro _ σ_ ⟨rfl, e_⟩
      obtain rfl := e_.symm
      refine ⟨?_, Ext.refl _⟩
      ((conv => whnf); (repeat ((first | with_reducible (first | refine zT rfl ?_ | refine zF rfl ?_ | refine zY rfl ?_) | refine zY (by decide) ?_ | refine zN (by decide) ?_ | with_reducible refine zQ ?_); (conv => whnf))))
      refine acall (gHeld id2 _ _ _ (Gl.at (H.get (k := 1) rfl))) ?_
      rintro _ σ_ ⟨rfl, e_⟩
      obtain rfl := e_.symm
      refine ⟨?_, Ext.refl _⟩
      ((conv => whnf); (repeat ((first | with_reducible (first | refine zT rfl ?_ | refine zF rfl ?_ | refine zY rfl ?_) | refine zY (by decide) ?_ | refine zN (by decide) ?_ | with_reducible refine zQ ?_); (conv => whnf))))
      (repeat ((first | refine zI (by omega) ?_ | refine zE (by omega) (by omega) ?_ | refine zD (by omega) (by omega) ?_ | refine zY (by omega) ?_ | refine zN (by omega) ?_ | refine amin ?_ | refine amax ?_ | refine zU (by omega) ?_ | refine z8 (by omega) ?_ | refine zX (by omega) (by omega) ?_ | refine zR rfl ?_ | refine acellA ?_ | refine zB H b1 rfl ?_ | refine zC H b1 ?_ | refine zB H b2 rfl ?_ | refine zC H b2 ?_ | refine zB H b3 rfl ?_ | refine zC H b3 ?_ | refine zB H b4 rfl ?_ | refine zC H b4 ?_ | (apply zL H; (· repeat first | exact .h | apply AtK.t); (· rfl)) | (apply zA H; (· repeat first | exact .h | apply AtK.t)) | (apply zS H; (· repeat first | exact .h | apply AtK.t); (· rfl); (conv => whnf); clear H; intro τ H) | rw [List.length_map]); ((conv => whnf); (repeat ((first | with_reducible (first | refine zT rfl ?_ | refine zF rfl ?_ | refine zY rfl ?_) | refine zY (by decide) ?_ | refine zN (by decide) ?_ | with_reducible refine zQ ?_); (conv => whnf))))))
      refine acall (gLost id1 _ _ _ (Gl.at (H.get (k := 2) rfl))) ?_
      rintro _ σ_ ⟨rfl, e_⟩
      obtain rfl := e_.symm
      refine ⟨?_, Ext.refl _⟩
      ((conv => whnf); (repeat ((first | with_reducible (first | refine zT rfl ?_ | refine zF rfl ?_ | refine zY rfl ?_) | refine zY (by decide) ?_ | refine zN (by decide) ?_ | with_reducible refine zQ ?_); (conv => whnf))))
      refine acall (gLost id2 _ _ _ (Gl.at (H.get (k := 1) rfl))) ?_
      rintro _ σ_ ⟨rfl, e_⟩
      obtain rfl := e_.symm
      refine ⟨?_, Ext.refl _⟩
      ((conv => whnf); (repeat ((first | with_reducible (first | refine zT rfl ?_ | refine zF rfl ?_ | refine zY rfl ?_) | refine zY (by decide) ?_ | refine zN (by decide) ?_ | with_reducible refine zQ ?_); (conv => whnf))))
      (repeat ((first | refine zI (by omega) ?_ | refine zE (by omega) (by omega) ?_ | refine zD (by omega) (by omega) ?_ | refine zY (by omega) ?_ | refine zN (by omega) ?_ | refine amin ?_ | refine amax ?_ | refine zU (by omega) ?_ | refine z8 (by omega) ?_ | refine zX (by omega) (by omega) ?_ | refine zR rfl ?_ | refine acellA ?_ | refine zB H b1 rfl ?_ | refine zC H b1 ?_ | refine zB H b2 rfl ?_ | refine zC H b2 ?_ | refine zB H b3 rfl ?_ | refine zC H b3 ?_ | refine zB H b4 rfl ?_ | refine zC H b4 ?_ | (apply zL H; (· repeat first | exact .h | apply AtK.t); (· rfl)) | (apply zA H; (· repeat first | exact .h | apply AtK.t)) | (apply zS H; (· repeat first | exact .h | apply AtK.t); (· rfl); (conv => whnf); clear H; intro τ H) | rw [List.length_map]); ((conv => whnf); (repeat ((first | with_reducible (first | refine zT rfl ?_ | refine zF rfl ?_ | refine zY rfl ?_) | refine zY (by decide) ?_ | refine zN (by decide) ?_ | with_reducible refine zQ ?_); (conv => whnf))))))
      generalize (runB p g 0 (total p.fs)).1 = O at *
      refine aloop (α := Nat) (fun k => [(s22, i64v k)]) (fun _ => τ) (fun k => k ≤ O.length) (fun k => O.length - k) 0 (Nat.zero_le _) (Sub.refl _) ?_ ?_
      · ((conv => whnf); (repeat ((first | with_reducible (first | refine zT rfl ?_ | refine zF rfl ?_ | refine zY rfl ?_) | refine zY (by decide) ?_ | refine zN (by decide) ?_ | with_reducible refine zQ ?_); (conv => whnf))))
        (repeat' first | with_reducible exact EnvLe.refl _ | (refine EnvLe.node ?_ (by first | exact Or.inl rfl | exact Or.inr (Or.inl rfl) | exact Or.inr (Or.inr ⟨nofun, VLe.slice _ _ _⟩)) ?_))
      intro k hk
      ((conv => whnf); (repeat ((first | with_reducible (first | refine zT rfl ?_ | refine zF rfl ?_ | refine zY rfl ?_) | refine zY (by decide) ?_ | refine zN (by decide) ?_ | with_reducible refine zQ ?_); (conv => whnf))))
      (repeat ((first | refine zI (by omega) ?_ | refine zE (by omega) (by omega) ?_ | refine zD (by omega) (by omega) ?_ | refine zY (by omega) ?_ | refine zN (by omega) ?_ | refine amin ?_ | refine amax ?_ | refine zU (by omega) ?_ | refine z8 (by omega) ?_ | refine zX (by omega) (by omega) ?_ | refine zR rfl ?_ | refine acellA ?_ | refine zB H b1 rfl ?_ | refine zC H b1 ?_ | refine zB H b2 rfl ?_ | refine zC H b2 ?_ | refine zB H b3 rfl ?_ | refine zC H b3 ?_ | refine zB H b4 rfl ?_ | refine zC H b4 ?_ | (apply zL H; (· repeat first | exact .h | apply AtK.t); (· rfl)) | (apply zA H; (· repeat first | exact .h | apply AtK.t)) | (apply zS H; (· repeat first | exact .h | apply AtK.t); (· rfl); (conv => whnf); clear H; intro τ H) | rw [List.length_map]); ((conv => whnf); (repeat ((first | with_reducible (first | refine zT rfl ?_ | refine zF rfl ?_ | refine zY rfl ?_) | refine zY (by decide) ?_ | refine zN (by decide) ?_ | with_reducible refine zQ ?_); (conv => whnf))))))
      by_cases hk2 : k < O.length
      · (repeat ((first | refine zI (by omega) ?_ | refine zE (by omega) (by omega) ?_ | refine zD (by omega) (by omega) ?_ | refine zY (by omega) ?_ | refine zN (by omega) ?_ | refine amin ?_ | refine amax ?_ | refine zU (by omega) ?_ | refine z8 (by omega) ?_ | refine zX (by omega) (by omega) ?_ | refine zR rfl ?_ | refine acellA ?_ | refine zB H b1 rfl ?_ | refine zC H b1 ?_ | refine zB H b2 rfl ?_ | refine zC H b2 ?_ | refine zB H b3 rfl ?_ | refine zC H b3 ?_ | refine zB H b4 rfl ?_ | refine zC H b4 ?_ | (apply zL H; (· repeat first | exact .h | apply AtK.t); (· rfl)) | (apply zA H; (· repeat first | exact .h | apply AtK.t)) | (apply zS H; (· repeat first | exact .h | apply AtK.t); (· rfl); (conv => whnf); clear H; intro τ H) | rw [List.length_map]); ((conv => whnf); (repeat ((first | with_reducible (first | refine zT rfl ?_ | refine zF rfl ?_ | refine zY rfl ?_) | refine zY (by decide) ?_ | refine zN (by decide) ?_ | with_reducible refine zQ ?_); (conv => whnf))))))
        refine aget (by omega) (get_lists hk2) ?_
        ((conv => whnf); (repeat ((first | with_reducible (first | refine zT rfl ?_ | refine zF rfl ?_ | refine zY rfl ?_) | refine zY (by decide) ?_ | refine zN (by decide) ?_ | with_reducible refine zQ ?_); (conv => whnf))))
        (repeat ((first | refine zI (by omega) ?_ | refine zE (by omega) (by omega) ?_ | refine zD (by omega) (by omega) ?_ | refine zY (by omega) ?_ | refine zN (by omega) ?_ | refine amin ?_ | refine amax ?_ | refine zU (by omega) ?_ | refine z8 (by omega) ?_ | refine zX (by omega) (by omega) ?_ | refine zR rfl ?_ | refine acellA ?_ | refine zB H b1 rfl ?_ | refine zC H b1 ?_ | refine zB H b2 rfl ?_ | refine zC H b2 ?_ | refine zB H b3 rfl ?_ | refine zC H b3 ?_ | refine zB H b4 rfl ?_ | refine zC H b4 ?_ | (apply zL H; (· repeat first | exact .h | apply AtK.t); (· rfl)) | (apply zA H; (· repeat first | exact .h | apply AtK.t)) | (apply zS H; (· repeat first | exact .h | apply AtK.t); (· rfl); (conv => whnf); clear H; intro τ H) | rw [List.length_map]); ((conv => whnf); (repeat ((first | with_reducible (first | refine zT rfl ?_ | refine zF rfl ?_ | refine zY rfl ?_) | refine zY (by decide) ?_ | refine zN (by decide) ?_ | with_reducible refine zQ ?_); (conv => whnf))))))
        refine astr rfl ?_
        ((conv => whnf); (repeat ((first | with_reducible (first | refine zT rfl ?_ | refine zF rfl ?_ | refine zY rfl ?_) | refine zY (by decide) ?_ | refine zN (by decide) ?_ | with_reducible refine zQ ?_); (conv => whnf))))
        refine aget (by omega) (get_lists hk2) ?_
        ((conv => whnf); (repeat ((first | with_reducible (first | refine zT rfl ?_ | refine zF rfl ?_ | refine zY rfl ?_) | refine zY (by decide) ?_ | refine zN (by decide) ?_ | with_reducible refine zQ ?_); (conv => whnf))))
        (repeat ((first | refine zI (by omega) ?_ | refine zE (by omega) (by omega) ?_ | refine zD (by omega) (by omega) ?_ | refine zY (by omega) ?_ | refine zN (by omega) ?_ | refine amin ?_ | refine amax ?_ | refine zU (by omega) ?_ | refine z8 (by omega) ?_ | refine zX (by omega) (by omega) ?_ | refine zR rfl ?_ | refine acellA ?_ | refine zB H b1 rfl ?_ | refine zC H b1 ?_ | refine zB H b2 rfl ?_ | refine zC H b2 ?_ | refine zB H b3 rfl ?_ | refine zC H b3 ?_ | refine zB H b4 rfl ?_ | refine zC H b4 ?_ | (apply zL H; (· repeat first | exact .h | apply AtK.t); (· rfl)) | (apply zA H; (· repeat first | exact .h | apply AtK.t)) | (apply zS H; (· repeat first | exact .h | apply AtK.t); (· rfl); (conv => whnf); clear H; intro τ H) | rw [List.length_map]); ((conv => whnf); (repeat ((first | with_reducible (first | refine zT rfl ?_ | refine zF rfl ?_ | refine zY rfl ?_) | refine zY (by decide) ?_ | refine zN (by decide) ?_ | with_reducible refine zQ ?_); (conv => whnf))))))
        refine astr rfl ?_
        ((conv => whnf); (repeat ((first | with_reducible (first | refine zT rfl ?_ | refine zF rfl ?_ | refine zY rfl ?_) | refine zY (by decide) ?_ | refine zN (by decide) ?_ | with_reducible refine zQ ?_); (conv => whnf))))
        (repeat ((first | refine zI (by omega) ?_ | refine zE (by omega) (by omega) ?_ | refine zD (by omega) (by omega) ?_ | refine zY (by omega) ?_ | refine zN (by omega) ?_ | refine amin ?_ | refine amax ?_ | refine zU (by omega) ?_ | refine z8 (by omega) ?_ | refine zX (by omega) (by omega) ?_ | refine zR rfl ?_ | refine acellA ?_ | refine zB H b1 rfl ?_ | refine zC H b1 ?_ | refine zB H b2 rfl ?_ | refine zC H b2 ?_ | refine zB H b3 rfl ?_ | refine zC H b3 ?_ | refine zB H b4 rfl ?_ | refine zC H b4 ?_ | (apply zL H; (· repeat first | exact .h | apply AtK.t); (· rfl)) | (apply zA H; (· repeat first | exact .h | apply AtK.t)) | (apply zS H; (· repeat first | exact .h | apply AtK.t); (· rfl); (conv => whnf); clear H; intro τ H) | rw [List.length_map]); ((conv => whnf); (repeat ((first | with_reducible (first | refine zT rfl ?_ | refine zF rfl ?_ | refine zY rfl ?_) | refine zY (by decide) ?_ | refine zN (by decide) ?_ | with_reducible refine zQ ?_); (conv => whnf))))))
        refine ⟨k + 1, hk2, by omega, Sub.refl _, ?_⟩
        ((conv => whnf); (repeat ((first | with_reducible (first | refine zT rfl ?_ | refine zF rfl ?_ | refine zY rfl ?_) | refine zY (by decide) ?_ | refine zN (by decide) ?_ | with_reducible refine zQ ?_); (conv => whnf))))
        (repeat' first | with_reducible exact EnvLe.refl _ | (refine EnvLe.node ?_ (by first | exact Or.inl rfl | exact Or.inr (Or.inl rfl) | exact Or.inr (Or.inr ⟨nofun, VLe.slice _ _ _⟩)) ?_))
      · (repeat ((first | refine zI (by omega) ?_ | refine zE (by omega) (by omega) ?_ | refine zD (by omega) (by omega) ?_ | refine zY (by omega) ?_ | refine zN (by omega) ?_ | refine amin ?_ | refine amax ?_ | refine zU (by omega) ?_ | refine z8 (by omega) ?_ | refine zX (by omega) (by omega) ?_ | refine zR rfl ?_ | refine acellA ?_ | refine zB H b1 rfl ?_ | refine zC H b1 ?_ | refine zB H b2 rfl ?_ | refine zC H b2 ?_ | refine zB H b3 rfl ?_ | refine zC H b3 ?_ | refine zB H b4 rfl ?_ | refine zC H b4 ?_ | (apply zL H; (· repeat first | exact .h | apply AtK.t); (· rfl)) | (apply zA H; (· repeat first | exact .h | apply AtK.t)) | (apply zS H; (· repeat first | exact .h | apply AtK.t); (· rfl); (conv => whnf); clear H; intro τ H) | rw [List.length_map]); ((conv => whnf); (repeat ((first | with_reducible (first | refine zT rfl ?_ | refine zF rfl ?_ | refine zY rfl ?_) | refine zY (by decide) ?_ | refine zN (by decide) ?_ | with_reducible refine zQ ?_); (conv => whnf))))))
        refine acall (alive20 τ) ?_
        rintro _ σ_ ⟨rfl, e_⟩
        obtain rfl := e_.symm
        refine ⟨?_, Ext.refl _⟩
        ((conv => whnf); (repeat ((first | with_reducible (first | refine zT rfl ?_ | refine zF rfl ?_ | refine zY rfl ?_) | refine zY (by decide) ?_ | refine zN (by decide) ?_ | with_reducible refine zQ ?_); (conv => whnf))))
        exact aret (VLe.refl _) (Sub.refl _) ⟨rfl, H.tail.tail.tail.tail⟩
end Go.Proofs.Ytgipkpghabelkaa
