/-
  Texts of this claim, pack 6: Camd, Camda, Csenta, Csentb, Csentc, Csentd, Cnume, Cnumf, Cnumg, Cqrow, Csente, Crxba, Crxbb, Crxbc, Crxbd, Cpkx, Csxa.
-/
import Derived.Test.YtgobbmdbkmjlnaaK3
import Derived.Test.YtgobbmdbkmjlnaaK5
import Derived.Shelf.Lay
import Derived.Shelf.Sort.Plain
import Derived.Shelf.Slices.In.SortNone
import Derived.Ground.NamesProg
/-
  Packets that are acknowledged: how many bytes they have.
-/
namespace Go.Proofs.Ytgobbmdbkmjlnaa
set_option linter.unusedVariables false
set_option linter.unusedSimpArgs false
open Go Go.Am

structure Pk where
  poll : Bool
  fi : Int
  sn : Int
  part : Bool
  last : Bool
  off : Int
  fs : List (List UInt8)
deriving DecidableEq
abbrev amC (p : Pk) : List AVal := [boolv p.poll, i64v p.fi, i64v p.sn, boolv p.part, boolv p.last, i64v p.off, lists .none p.fs]
abbrev amV (p : Pk) : AVal := .agg [boolv p.poll, i64v p.fi, i64v p.sn, boolv p.part, boolv p.last, i64v p.off, lists .none p.fs]
def amWidth (w : Int) : Bool := decide (w = 10) || decide (w = 16)
theorem amWidth_iff {w : Int} : amWidth w = true ↔ w = 10 ∨ w = 16 := by simp [amWidth]
def lenW (w : Int) : Int := if w = 10 then 11 else 15
def offW (w : Int) : Int := if w = 10 then 15 else 16
def offTop (w : Int) : Int := if w = 10 then 32768 else 65536
def amHead (part : Bool) (w : Int) : Int := if amWidth w = true then (if w = 16 then 3 else 2) + (if part = true then 2 else 0) else 0
theorem amHead_range (part : Bool) (w : Int) : 0 ≤ amHead part w ∧ amHead part w ≤ 5 := by unfold amHead; repeat' split <;> omega
def amBad (p : Pk) (w : Int) : Prop := (amWidth w = false ∨ p.fi < 0 ∨ p.fi > 3 ∨ isNum w p.sn = false) ∨ ((p.part = false ∧ (p.last = true ∨ p.off ≠ 0)) ∨ p.off < 0 ∨ p.off ≥ offTop w)
instance (p : Pk) (w : Int) : Decidable (amBad p w) := by unfold amBad; infer_instance
def amSize (p : Pk) (w : Int) : Int := if amBad p w then 0 else fieldsV p.fs (amHead p.part w) (lenW w)

theorem aIsWidth (w : Int) (σ : AHeap) : ACalls Try.prog i_amd_isWidth [i64v w] σ fun v σ' => v = boolv (amWidth w) ∧ σ' = σ := by
  refine k_amd_isWidth rfl ?_
  (refine wX ?_)
  by_cases h : w = 10
  · subst h
    (refine wX ?_)
    exact aret_same ⟨rfl, rfl⟩
  · refine abr_no h ?_
    (refine wX ?_)
    refine aret_same ⟨?_, rfl⟩
    unfold amWidth
    rw [decide_eq_false h, Bool.false_or]
theorem aLenWidth (w : Int) (σ : AHeap) : ACalls Try.prog i_amd_lenWidth [i64v w] σ fun v σ' => v = i64v (lenW w) ∧ σ' = σ := by
  refine k_amd_lenWidth rfl ?_
  (refine wX ?_)
  by_cases h : w = 10
  · refine abr_yes h ?_
    (refine wX ?_)
    exact aret_same ⟨by unfold lenW; rw [if_pos h], rfl⟩
  · refine abr_no h ?_
    (refine wX ?_)
    exact aret_same ⟨by unfold lenW; rw [if_neg h], rfl⟩
theorem aOffWidth (w : Int) (σ : AHeap) : ACalls Try.prog i_amd_offsetWidth [i64v w] σ fun v σ' => v = i64v (offW w) ∧ σ' = σ := by
  refine k_amd_offsetWidth rfl ?_
  (refine wX ?_)
  by_cases h : w = 10
  · refine abr_yes h ?_
    (refine wX ?_)
    exact aret_same ⟨by unfold offW; rw [if_pos h], rfl⟩
  · refine abr_no h ?_
    (refine wX ?_)
    exact aret_same ⟨by unfold offW; rw [if_neg h], rfl⟩
theorem aHead (part : Bool) (w : Int) (σ : AHeap) : ACalls Try.prog i_amd_Head [boolv part, i64v w] σ fun v σ' => v = i64v (amHead part w) ∧ σ' = σ := by
  refine k_amd_Head rfl ?_
  (refine wX ?_)
  refine acall (aIsWidth w σ) ?_
  rintro _ σ_ ⟨rfl, e_⟩
  obtain rfl := e_.symm
  refine ⟨?_, Ext.refl _⟩
  (refine wX ?_)
  cases hw : amWidth w
  · (refine wX ?_)
    exact aret_same ⟨by unfold amHead; rw [hw]; rfl, rfl⟩
  · (refine wX ?_)
    have e : amHead part w = (if w = 16 then 3 else 2) + (if part = true then 2 else 0) := by unfold amHead; rw [if_pos hw]
    rw [e]
    by_cases h : w = 16
    all_goals
      first | refine abr_yes h ?_ | refine abr_no h ?_
      (refine wX ?_)
      cases part
      all_goals
        (refine wX ?_)
        (repeat ((first | refine zI (by omega) ?_ | refine zE (by omega) (by omega) ?_ | refine zD (by omega) (by omega) ?_ | refine zY (by omega) ?_ | refine zN (by omega) ?_ | refine amin ?_ | refine amax ?_ | refine zU (by omega) ?_ | refine z8 (by omega) ?_ | refine zX (by omega) (by omega) ?_ | refine zR rfl ?_ | refine acellA ?_ | (apply zL H; (· repeat first | exact .h | apply AtK.t); (· rfl)) | (apply zA H; (· repeat first | exact .h | apply AtK.t)) | (apply zS H; (· repeat first | exact .h | apply AtK.t); (· rfl); (conv => whnf); clear H; intro τ H) | rw [List.length_map]); (refine wX ?_)))
        first | rw [if_pos h] | rw [if_neg h]
        exact aret_same ⟨rfl, rfl⟩
set_option maxRecDepth 20000 in
set_option maxHeartbeats 1000000 in
theorem aSize (p : Pk) (w : Int) (σ : AHeap) (hl : p.fs.length ≤ 9223372036854775807) : ACalls Try.prog i_amd_Size [amV p, i64v w] σ fun v σ' => v = i64v (amSize p w) ∧ σ' = σ := by
  refine k_amd_Size rfl ?_
  have H := Hp.nil σ
  (refine wX ?_)
  refine hnew H rfl ?_
  clear H
  intro id τ H
  (refine wX ?_)
  refine hnew H rfl ?_
  clear H
  intro i5 τ H
  (refine wX ?_)
  (repeat ((first | refine zI (by omega) ?_ | refine zE (by omega) (by omega) ?_ | refine zD (by omega) (by omega) ?_ | refine zY (by omega) ?_ | refine zN (by omega) ?_ | refine amin ?_ | refine amax ?_ | refine zU (by omega) ?_ | refine z8 (by omega) ?_ | refine zX (by omega) (by omega) ?_ | refine zR rfl ?_ | refine acellA ?_ | (apply zL H; (· repeat first | exact .h | apply AtK.t); (· rfl)) | (apply zA H; (· repeat first | exact .h | apply AtK.t)) | (apply zS H; (· repeat first | exact .h | apply AtK.t); (· rfl); (conv => whnf); clear H; intro τ H) | rw [List.length_map]); (refine wX ?_)))
  have bad (h : amBad p w) {υ : AHeap} {v : AVal} (e : v = i64v 0) (hυ : υ = σ) : v = i64v (amSize p w) ∧ υ = σ := ⟨by rw [e]; unfold amSize; rw [if_pos h], hυ⟩
  refine acall (aIsWidth w τ) ?_
  rintro _ σ_ ⟨rfl, e_⟩
  obtain rfl := e_.symm
  refine ⟨?_, Ext.refl _⟩
  (refine wX ?_)
  cases hw : amWidth w
  · (refine wX ?_)
    exact aret (VLe.refl _) H.sub (bad (.inl (.inl hw)) rfl rfl)
  (refine wX ?_)
  (repeat ((first | refine zI (by omega) ?_ | refine zE (by omega) (by omega) ?_ | refine zD (by omega) (by omega) ?_ | refine zY (by omega) ?_ | refine zN (by omega) ?_ | refine amin ?_ | refine amax ?_ | refine zU (by omega) ?_ | refine z8 (by omega) ?_ | refine zX (by omega) (by omega) ?_ | refine zR rfl ?_ | refine acellA ?_ | (apply zL H; (· repeat first | exact .h | apply AtK.t); (· rfl)) | (apply zA H; (· repeat first | exact .h | apply AtK.t)) | (apply zS H; (· repeat first | exact .h | apply AtK.t); (· rfl); (conv => whnf); clear H; intro τ H) | rw [List.length_map]); (refine wX ?_)))
  by_cases h1 : p.fi < 0
  · (repeat ((first | refine zI (by omega) ?_ | refine zE (by omega) (by omega) ?_ | refine zD (by omega) (by omega) ?_ | refine zY (by omega) ?_ | refine zN (by omega) ?_ | refine amin ?_ | refine amax ?_ | refine zU (by omega) ?_ | refine z8 (by omega) ?_ | refine zX (by omega) (by omega) ?_ | refine zR rfl ?_ | refine acellA ?_ | (apply zL H; (· repeat first | exact .h | apply AtK.t); (· rfl)) | (apply zA H; (· repeat first | exact .h | apply AtK.t)) | (apply zS H; (· repeat first | exact .h | apply AtK.t); (· rfl); (conv => whnf); clear H; intro τ H) | rw [List.length_map]); (refine wX ?_)))
    exact aret (VLe.refl _) H.sub (bad (.inl (.inr (.inl h1))) rfl rfl)
  by_cases h2 : p.fi > 3
  · (repeat ((first | refine zI (by omega) ?_ | refine zE (by omega) (by omega) ?_ | refine zD (by omega) (by omega) ?_ | refine zY (by omega) ?_ | refine zN (by omega) ?_ | refine amin ?_ | refine amax ?_ | refine zU (by omega) ?_ | refine z8 (by omega) ?_ | refine zX (by omega) (by omega) ?_ | refine zR rfl ?_ | refine acellA ?_ | (apply zL H; (· repeat first | exact .h | apply AtK.t); (· rfl)) | (apply zA H; (· repeat first | exact .h | apply AtK.t)) | (apply zS H; (· repeat first | exact .h | apply AtK.t); (· rfl); (conv => whnf); clear H; intro τ H) | rw [List.length_map]); (refine wX ?_)))
    exact aret (VLe.refl _) H.sub (bad (.inl (.inr (.inr (.inl h2)))) rfl rfl)
  (repeat ((first | refine zI (by omega) ?_ | refine zE (by omega) (by omega) ?_ | refine zD (by omega) (by omega) ?_ | refine zY (by omega) ?_ | refine zN (by omega) ?_ | refine amin ?_ | refine amax ?_ | refine zU (by omega) ?_ | refine z8 (by omega) ?_ | refine zX (by omega) (by omega) ?_ | refine zR rfl ?_ | refine acellA ?_ | (apply zL H; (· repeat first | exact .h | apply AtK.t); (· rfl)) | (apply zA H; (· repeat first | exact .h | apply AtK.t)) | (apply zS H; (· repeat first | exact .h | apply AtK.t); (· rfl); (conv => whnf); clear H; intro τ H) | rw [List.length_map]); (refine wX ?_)))
  refine acall (sqIs w p.sn τ) ?_
  rintro _ σ_ ⟨rfl, e_⟩
  obtain rfl := e_.symm
  refine ⟨?_, Ext.refl _⟩
  (refine wX ?_)
  cases h3 : isNum w p.sn
  · (refine wX ?_)
    exact aret (VLe.refl _) H.sub (bad (.inl (.inr (.inr (.inr h3)))) rfl rfl)
  (refine wX ?_)
  (repeat ((first | refine zI (by omega) ?_ | refine zE (by omega) (by omega) ?_ | refine zD (by omega) (by omega) ?_ | refine zY (by omega) ?_ | refine zN (by omega) ?_ | refine amin ?_ | refine amax ?_ | refine zU (by omega) ?_ | refine z8 (by omega) ?_ | refine zX (by omega) (by omega) ?_ | refine zR rfl ?_ | refine acellA ?_ | (apply zL H; (· repeat first | exact .h | apply AtK.t); (· rfl)) | (apply zA H; (· repeat first | exact .h | apply AtK.t)) | (apply zS H; (· repeat first | exact .h | apply AtK.t); (· rfl); (conv => whnf); clear H; intro τ H) | rw [List.length_map]); (refine wX ?_)))
  have hw2 := amWidth_iff.1 hw
  have htop : offTop w = 32768 ∨ offTop w = 65536 := by unfold offTop; split <;> simp
  have hsh : ∀ {K : Int → Prop}, K (offTop w) → AShl .i64 1 (offW w) K := fun {K} h => by
    rcases hw2 with rfl | rfl
    · exact ashl_eq (by decide) (by rfl) h
    · exact ashl_eq (by decide) (by rfl) h
  have hrest : (¬ (p.part = false ∧ (p.last = true ∨ p.off ≠ 0)) ∧ ¬ p.off < 0 ∧ ¬ p.off ≥ offTop w) → ¬ amBad p w := by
    rintro ⟨a, b, c⟩ (h | h | h | h)
    · rcases h with h | h | h | h
      · rw [hw] at h; cases h
      · exact h1 h
      · exact h2 h
      · rw [h3] at h; cases h
    · exact a h
    · exact b h
    · exact c h
  cases hp : p.part
  · (refine wX ?_)
    (repeat ((first | refine zI (by omega) ?_ | refine zE (by omega) (by omega) ?_ | refine zD (by omega) (by omega) ?_ | refine zY (by omega) ?_ | refine zN (by omega) ?_ | refine amin ?_ | refine amax ?_ | refine zU (by omega) ?_ | refine z8 (by omega) ?_ | refine zX (by omega) (by omega) ?_ | refine zR rfl ?_ | refine acellA ?_ | (apply zL H; (· repeat first | exact .h | apply AtK.t); (· rfl)) | (apply zA H; (· repeat first | exact .h | apply AtK.t)) | (apply zS H; (· repeat first | exact .h | apply AtK.t); (· rfl); (conv => whnf); clear H; intro τ H) | rw [List.length_map]); (refine wX ?_)))
    cases hla : p.last
    · (refine wX ?_)
      (repeat ((first | refine zI (by omega) ?_ | refine zE (by omega) (by omega) ?_ | refine zD (by omega) (by omega) ?_ | refine zY (by omega) ?_ | refine zN (by omega) ?_ | refine amin ?_ | refine amax ?_ | refine zU (by omega) ?_ | refine z8 (by omega) ?_ | refine zX (by omega) (by omega) ?_ | refine zR rfl ?_ | refine acellA ?_ | (apply zL H; (· repeat first | exact .h | apply AtK.t); (· rfl)) | (apply zA H; (· repeat first | exact .h | apply AtK.t)) | (apply zS H; (· repeat first | exact .h | apply AtK.t); (· rfl); (conv => whnf); clear H; intro τ H) | rw [List.length_map]); (refine wX ?_)))
      by_cases h4 : p.off = 0
      case neg =>
        (repeat ((first | refine zI (by omega) ?_ | refine zE (by omega) (by omega) ?_ | refine zD (by omega) (by omega) ?_ | refine zY (by omega) ?_ | refine zN (by omega) ?_ | refine amin ?_ | refine amax ?_ | refine zU (by omega) ?_ | refine z8 (by omega) ?_ | refine zX (by omega) (by omega) ?_ | refine zR rfl ?_ | refine acellA ?_ | (apply zL H; (· repeat first | exact .h | apply AtK.t); (· rfl)) | (apply zA H; (· repeat first | exact .h | apply AtK.t)) | (apply zS H; (· repeat first | exact .h | apply AtK.t); (· rfl); (conv => whnf); clear H; intro τ H) | rw [List.length_map]); (refine wX ?_)))
        exact aret (VLe.refl _) H.sub (bad (.inr (.inl ⟨hp, .inr h4⟩)) rfl rfl)
      (repeat ((first | refine zI (by omega) ?_ | refine zE (by omega) (by omega) ?_ | refine zD (by omega) (by omega) ?_ | refine zY (by omega) ?_ | refine zN (by omega) ?_ | refine amin ?_ | refine amax ?_ | refine zU (by omega) ?_ | refine z8 (by omega) ?_ | refine zX (by omega) (by omega) ?_ | refine zR rfl ?_ | refine acellA ?_ | (apply zL H; (· repeat first | exact .h | apply AtK.t); (· rfl)) | (apply zA H; (· repeat first | exact .h | apply AtK.t)) | (apply zS H; (· repeat first | exact .h | apply AtK.t); (· rfl); (conv => whnf); clear H; intro τ H) | rw [List.length_map]); (refine wX ?_)))
      refine acall (aOffWidth w τ) ?_
      rintro _ σ_ ⟨rfl, e_⟩
      obtain rfl := e_.symm
      refine ⟨?_, Ext.refl _⟩
      (refine wX ?_)
      refine hsh ?_
      (refine wX ?_)
      (repeat ((first | refine zI (by omega) ?_ | refine zE (by omega) (by omega) ?_ | refine zD (by omega) (by omega) ?_ | refine zY (by omega) ?_ | refine zN (by omega) ?_ | refine amin ?_ | refine amax ?_ | refine zU (by omega) ?_ | refine z8 (by omega) ?_ | refine zX (by omega) (by omega) ?_ | refine zR rfl ?_ | refine acellA ?_ | (apply zL H; (· repeat first | exact .h | apply AtK.t); (· rfl)) | (apply zA H; (· repeat first | exact .h | apply AtK.t)) | (apply zS H; (· repeat first | exact .h | apply AtK.t); (· rfl); (conv => whnf); clear H; intro τ H) | rw [List.length_map]); (refine wX ?_)))
      have hnb := hrest ⟨fun h => by
        rcases h.2 with h | h
        · rw [hla] at h; cases h
        · exact h h4, by omega, by omega⟩
      have eS : amSize p w = fieldsV p.fs (amHead p.part w) (lenW w) := if_neg hnb
      have hhr := amHead_range p.part w
      rw [eS]
      clear bad hrest hsh eS
      by_cases h6 : p.fs.length < 1
      · (repeat ((first | refine zI (by omega) ?_ | refine zE (by omega) (by omega) ?_ | refine zD (by omega) (by omega) ?_ | refine zY (by omega) ?_ | refine zN (by omega) ?_ | refine amin ?_ | refine amax ?_ | refine zU (by omega) ?_ | refine z8 (by omega) ?_ | refine zX (by omega) (by omega) ?_ | refine zR rfl ?_ | refine acellA ?_ | (apply zL H; (· repeat first | exact .h | apply AtK.t); (· rfl)) | (apply zA H; (· repeat first | exact .h | apply AtK.t)) | (apply zS H; (· repeat first | exact .h | apply AtK.t); (· rfl); (conv => whnf); clear H; intro τ H) | rw [List.length_map]); (refine wX ?_)))
        exact aret (VLe.refl _) H.sub ⟨by unfold fieldsV; rw [if_pos (.inl h6)], rfl⟩
      by_cases h7 : p.fs.length > 24
      · (repeat ((first | refine zI (by omega) ?_ | refine zE (by omega) (by omega) ?_ | refine zD (by omega) (by omega) ?_ | refine zY (by omega) ?_ | refine zN (by omega) ?_ | refine amin ?_ | refine amax ?_ | refine zU (by omega) ?_ | refine z8 (by omega) ?_ | refine zX (by omega) (by omega) ?_ | refine zR rfl ?_ | refine acellA ?_ | (apply zL H; (· repeat first | exact .h | apply AtK.t); (· rfl)) | (apply zA H; (· repeat first | exact .h | apply AtK.t)) | (apply zS H; (· repeat first | exact .h | apply AtK.t); (· rfl); (conv => whnf); clear H; intro τ H) | rw [List.length_map]); (refine wX ?_)))
        exact aret (VLe.refl _) H.sub ⟨by unfold fieldsV; rw [if_pos (.inr h7)], rfl⟩
      (repeat ((first | refine zI (by omega) ?_ | refine zE (by omega) (by omega) ?_ | refine zD (by omega) (by omega) ?_ | refine zY (by omega) ?_ | refine zN (by omega) ?_ | refine amin ?_ | refine amax ?_ | refine zU (by omega) ?_ | refine z8 (by omega) ?_ | refine zX (by omega) (by omega) ?_ | refine zR rfl ?_ | refine acellA ?_ | (apply zL H; (· repeat first | exact .h | apply AtK.t); (· rfl)) | (apply zA H; (· repeat first | exact .h | apply AtK.t)) | (apply zS H; (· repeat first | exact .h | apply AtK.t); (· rfl); (conv => whnf); clear H; intro τ H) | rw [List.length_map]); (refine wX ?_)))
      refine acall (aHead p.part w τ) ?_
      rintro _ σ_ ⟨rfl, e_⟩
      obtain rfl := e_.symm
      refine ⟨?_, Ext.refl _⟩
      (refine wX ?_)
      refine acall (aLenWidth w τ) ?_
      rintro _ σ_ ⟨rfl, e_⟩
      obtain rfl := e_.symm
      refine ⟨?_, Ext.refl _⟩
      (refine wX ?_)
      refine acall (lSize ((p.fs.length : Int) - 1) (lenW w) τ) ?_
      rintro _ σ_ ⟨rfl, e_⟩
      obtain rfl := e_.symm
      refine ⟨?_, Ext.refl _⟩
      (refine wX ?_)
      generalize amHead p.part w = hd at *
      generalize lenW w = lw at *
      have hsz := sizeV_range ((p.fs.length : Int) - 1) lw
      generalize hSZ : sizeV ((p.fs.length : Int) - 1) lw = sz at *
      have hV (h : fieldsBad p.fs p.fs.length = true ∨ hd + sz + (total p.fs : Int) > 4000) : fieldsV p.fs hd lw = 0 := by
        unfold fieldsV
        rw [if_neg (by omega), hSZ]
        by_cases hb : fieldsBad p.fs p.fs.length = true
        · rw [if_pos hb]
        · rw [if_neg hb, if_pos (h.resolve_left hb)]
      (repeat ((first | refine zI (by omega) ?_ | refine zE (by omega) (by omega) ?_ | refine zD (by omega) (by omega) ?_ | refine zY (by omega) ?_ | refine zN (by omega) ?_ | refine amin ?_ | refine amax ?_ | refine zU (by omega) ?_ | refine z8 (by omega) ?_ | refine zX (by omega) (by omega) ?_ | refine zR rfl ?_ | refine acellA ?_ | (apply zL H; (· repeat first | exact .h | apply AtK.t); (· rfl)) | (apply zA H; (· repeat first | exact .h | apply AtK.t)) | (apply zS H; (· repeat first | exact .h | apply AtK.t); (· rfl); (conv => whnf); clear H; intro τ H) | rw [List.length_map]); (refine wX ?_)))
      refine aloop (α := Nat × Int) (fun x => [(s6, i64v x.2), (s84, i64v x.1)]) (fun _ => τ) (fun x => x.1 ≤ p.fs.length ∧ fieldsBad p.fs x.1 = false ∧ x.2 = hd + sz + (total (p.fs.take x.1) : Int) ∧ x.2 ≤ 4000) (fun x => p.fs.length - x.1) (0, hd + sz) ⟨Nat.zero_le _, rfl, by show hd + sz = hd + sz + ((0 : Nat) : Int); omega, by dsimp only; omega⟩ (Sub.refl _) ?_ ?_
      · (refine wX ?_)
        (repeat' first | with_reducible exact EnvLe.refl _ | (refine EnvLe.node ?_ (by first | exact Or.inl rfl | exact Or.inr (Or.inl rfl) | exact Or.inr (Or.inr ⟨nofun, VLe.slice _ _ _⟩)) ?_))
      rintro ⟨i, n⟩ ⟨hi, hbad, hn, hle⟩
      dsimp only at hi hbad hn hle ⊢
      by_cases h : i < p.fs.length
      · have hts := total_take_succ p.fs i h
        have htl := total_take_le p.fs (i + 1)
        have hfb := fieldBad_get h
        have hsucc := fieldsBad_succ p.fs i
        rw [hbad, Bool.false_or] at hsucc
        (refine wX ?_)
        (repeat ((first | refine zI (by omega) ?_ | refine zE (by omega) (by omega) ?_ | refine zD (by omega) (by omega) ?_ | refine zY (by omega) ?_ | refine zN (by omega) ?_ | refine amin ?_ | refine amax ?_ | refine zU (by omega) ?_ | refine z8 (by omega) ?_ | refine zX (by omega) (by omega) ?_ | refine zR rfl ?_ | refine acellA ?_ | (apply zL H; (· repeat first | exact .h | apply AtK.t); (· rfl)) | (apply zA H; (· repeat first | exact .h | apply AtK.t)) | (apply zS H; (· repeat first | exact .h | apply AtK.t); (· rfl); (conv => whnf); clear H; intro τ H) | rw [List.length_map]); (refine wX ?_)))
        refine aget (by omega) (get_lists h) ?_
        (refine wX ?_)
        (repeat ((first | refine zI (by omega) ?_ | refine zE (by omega) (by omega) ?_ | refine zD (by omega) (by omega) ?_ | refine zY (by omega) ?_ | refine zN (by omega) ?_ | refine amin ?_ | refine amax ?_ | refine zU (by omega) ?_ | refine z8 (by omega) ?_ | refine zX (by omega) (by omega) ?_ | refine zR rfl ?_ | refine acellA ?_ | (apply zL H; (· repeat first | exact .h | apply AtK.t); (· rfl)) | (apply zA H; (· repeat first | exact .h | apply AtK.t)) | (apply zS H; (· repeat first | exact .h | apply AtK.t); (· rfl); (conv => whnf); clear H; intro τ H) | rw [List.length_map]); (refine wX ?_)))
        by_cases c1 : p.fs[i].length = 0
        · have hbd : fieldBad p.fs i = true := by rw [hfb, decide_eq_true (.inl c1)]
          (repeat ((first | refine zI (by omega) ?_ | refine zE (by omega) (by omega) ?_ | refine zD (by omega) (by omega) ?_ | refine zY (by omega) ?_ | refine zN (by omega) ?_ | refine amin ?_ | refine amax ?_ | refine zU (by omega) ?_ | refine z8 (by omega) ?_ | refine zX (by omega) (by omega) ?_ | refine zR rfl ?_ | refine acellA ?_ | (apply zL H; (· repeat first | exact .h | apply AtK.t); (· rfl)) | (apply zA H; (· repeat first | exact .h | apply AtK.t)) | (apply zS H; (· repeat first | exact .h | apply AtK.t); (· rfl); (conv => whnf); clear H; intro τ H) | rw [List.length_map]); (refine wX ?_)))
          exact aret (VLe.refl _) H.sub ⟨by rw [hV (.inl (fieldsBad_of h hbd))], rfl⟩
        by_cases c23 : p.fs[i].length > 2047 ∧ i + 1 < p.fs.length
        · have hbd : fieldBad p.fs i = true := by rw [hfb, decide_eq_true (.inr c23)]
          (repeat ((first | refine zI (by omega) ?_ | refine zE (by omega) (by omega) ?_ | refine zD (by omega) (by omega) ?_ | refine zY (by omega) ?_ | refine zN (by omega) ?_ | refine amin ?_ | refine amax ?_ | refine zU (by omega) ?_ | refine z8 (by omega) ?_ | refine zX (by omega) (by omega) ?_ | refine zR rfl ?_ | refine acellA ?_ | (apply zL H; (· repeat first | exact .h | apply AtK.t); (· rfl)) | (apply zA H; (· repeat first | exact .h | apply AtK.t)) | (apply zS H; (· repeat first | exact .h | apply AtK.t); (· rfl); (conv => whnf); clear H; intro τ H) | rw [List.length_map]); (refine wX ?_)))
          exact aret (VLe.refl _) H.sub ⟨by rw [hV (.inl (fieldsBad_of h hbd))], rfl⟩
        have hbd : fieldBad p.fs i = false := by rw [hfb]; exact decide_eq_false (by omega)
        by_cases c2 : p.fs[i].length > 2047
        all_goals
          by_cases c4 : (p.fs[i].length : Int) > 4000 - n
          · (repeat ((first | refine zI (by omega) ?_ | refine zE (by omega) (by omega) ?_ | refine zD (by omega) (by omega) ?_ | refine zY (by omega) ?_ | refine zN (by omega) ?_ | refine amin ?_ | refine amax ?_ | refine zU (by omega) ?_ | refine z8 (by omega) ?_ | refine zX (by omega) (by omega) ?_ | refine zR rfl ?_ | refine acellA ?_ | (apply zL H; (· repeat first | exact .h | apply AtK.t); (· rfl)) | (apply zA H; (· repeat first | exact .h | apply AtK.t)) | (apply zS H; (· repeat first | exact .h | apply AtK.t); (· rfl); (conv => whnf); clear H; intro τ H) | rw [List.length_map]); (refine wX ?_)))
            exact aret (VLe.refl _) H.sub ⟨by rw [hV (.inr (by omega))], rfl⟩
          · (repeat ((first | refine zI (by omega) ?_ | refine zE (by omega) (by omega) ?_ | refine zD (by omega) (by omega) ?_ | refine zY (by omega) ?_ | refine zN (by omega) ?_ | refine amin ?_ | refine amax ?_ | refine zU (by omega) ?_ | refine z8 (by omega) ?_ | refine zX (by omega) (by omega) ?_ | refine zR rfl ?_ | refine acellA ?_ | (apply zL H; (· repeat first | exact .h | apply AtK.t); (· rfl)) | (apply zA H; (· repeat first | exact .h | apply AtK.t)) | (apply zS H; (· repeat first | exact .h | apply AtK.t); (· rfl); (conv => whnf); clear H; intro τ H) | rw [List.length_map]); (refine wX ?_)))
            refine ⟨(i + 1, n + p.fs[i].length), ⟨h, by dsimp only; rw [hsucc, hbd], by dsimp only; omega, by dsimp only; omega⟩, by dsimp only; omega, Sub.refl _, ?_⟩
            (refine wX ?_)
            (repeat' first | with_reducible exact EnvLe.refl _ | (refine EnvLe.node ?_ (by first | exact Or.inl rfl | exact Or.inr (Or.inl rfl) | exact Or.inr (Or.inr ⟨nofun, VLe.slice _ _ _⟩)) ?_))
      · obtain rfl : i = p.fs.length := by omega
        rw [List.take_of_length_le (Nat.le_refl _)] at hn
        (refine wX ?_)
        (repeat ((first | refine zI (by omega) ?_ | refine zE (by omega) (by omega) ?_ | refine zD (by omega) (by omega) ?_ | refine zY (by omega) ?_ | refine zN (by omega) ?_ | refine amin ?_ | refine amax ?_ | refine zU (by omega) ?_ | refine z8 (by omega) ?_ | refine zX (by omega) (by omega) ?_ | refine zR rfl ?_ | refine acellA ?_ | (apply zL H; (· repeat first | exact .h | apply AtK.t); (· rfl)) | (apply zA H; (· repeat first | exact .h | apply AtK.t)) | (apply zS H; (· repeat first | exact .h | apply AtK.t); (· rfl); (conv => whnf); clear H; intro τ H) | rw [List.length_map]); (refine wX ?_)))
        refine aret (VLe.refl _) H.sub ⟨?_, rfl⟩
        unfold fieldsV
        rw [if_neg (by omega), hbad, hSZ, if_neg (by simp), if_neg (by omega), hn]
    · (refine wX ?_)
      (repeat ((first | refine zI (by omega) ?_ | refine zE (by omega) (by omega) ?_ | refine zD (by omega) (by omega) ?_ | refine zY (by omega) ?_ | refine zN (by omega) ?_ | refine amin ?_ | refine amax ?_ | refine zU (by omega) ?_ | refine z8 (by omega) ?_ | refine zX (by omega) (by omega) ?_ | refine zR rfl ?_ | refine acellA ?_ | (apply zL H; (· repeat first | exact .h | apply AtK.t); (· rfl)) | (apply zA H; (· repeat first | exact .h | apply AtK.t)) | (apply zS H; (· repeat first | exact .h | apply AtK.t); (· rfl); (conv => whnf); clear H; intro τ H) | rw [List.length_map]); (refine wX ?_)))
      exact aret (VLe.refl _) H.sub (bad (.inr (.inl ⟨hp, .inl hla⟩)) rfl rfl)
  · (refine wX ?_)
    (repeat ((first | refine zI (by omega) ?_ | refine zE (by omega) (by omega) ?_ | refine zD (by omega) (by omega) ?_ | refine zY (by omega) ?_ | refine zN (by omega) ?_ | refine amin ?_ | refine amax ?_ | refine zU (by omega) ?_ | refine z8 (by omega) ?_ | refine zX (by omega) (by omega) ?_ | refine zR rfl ?_ | refine acellA ?_ | (apply zL H; (· repeat first | exact .h | apply AtK.t); (· rfl)) | (apply zA H; (· repeat first | exact .h | apply AtK.t)) | (apply zS H; (· repeat first | exact .h | apply AtK.t); (· rfl); (conv => whnf); clear H; intro τ H) | rw [List.length_map]); (refine wX ?_)))
    by_cases h4 : p.off < 0
    · (repeat ((first | refine zI (by omega) ?_ | refine zE (by omega) (by omega) ?_ | refine zD (by omega) (by omega) ?_ | refine zY (by omega) ?_ | refine zN (by omega) ?_ | refine amin ?_ | refine amax ?_ | refine zU (by omega) ?_ | refine z8 (by omega) ?_ | refine zX (by omega) (by omega) ?_ | refine zR rfl ?_ | refine acellA ?_ | (apply zL H; (· repeat first | exact .h | apply AtK.t); (· rfl)) | (apply zA H; (· repeat first | exact .h | apply AtK.t)) | (apply zS H; (· repeat first | exact .h | apply AtK.t); (· rfl); (conv => whnf); clear H; intro τ H) | rw [List.length_map]); (refine wX ?_)))
      exact aret (VLe.refl _) H.sub (bad (.inr (.inr (.inl h4))) rfl rfl)
    (repeat ((first | refine zI (by omega) ?_ | refine zE (by omega) (by omega) ?_ | refine zD (by omega) (by omega) ?_ | refine zY (by omega) ?_ | refine zN (by omega) ?_ | refine amin ?_ | refine amax ?_ | refine zU (by omega) ?_ | refine z8 (by omega) ?_ | refine zX (by omega) (by omega) ?_ | refine zR rfl ?_ | refine acellA ?_ | (apply zL H; (· repeat first | exact .h | apply AtK.t); (· rfl)) | (apply zA H; (· repeat first | exact .h | apply AtK.t)) | (apply zS H; (· repeat first | exact .h | apply AtK.t); (· rfl); (conv => whnf); clear H; intro τ H) | rw [List.length_map]); (refine wX ?_)))
    refine acall (aOffWidth w τ) ?_
    rintro _ σ_ ⟨rfl, e_⟩
    obtain rfl := e_.symm
    refine ⟨?_, Ext.refl _⟩
    (refine wX ?_)
    refine hsh ?_
    (refine wX ?_)
    by_cases h5 : p.off ≥ offTop w
    · (repeat ((first | refine zI (by omega) ?_ | refine zE (by omega) (by omega) ?_ | refine zD (by omega) (by omega) ?_ | refine zY (by omega) ?_ | refine zN (by omega) ?_ | refine amin ?_ | refine amax ?_ | refine zU (by omega) ?_ | refine z8 (by omega) ?_ | refine zX (by omega) (by omega) ?_ | refine zR rfl ?_ | refine acellA ?_ | (apply zL H; (· repeat first | exact .h | apply AtK.t); (· rfl)) | (apply zA H; (· repeat first | exact .h | apply AtK.t)) | (apply zS H; (· repeat first | exact .h | apply AtK.t); (· rfl); (conv => whnf); clear H; intro τ H) | rw [List.length_map]); (refine wX ?_)))
      exact aret (VLe.refl _) H.sub (bad (.inr (.inr (.inr h5))) rfl rfl)
    (repeat ((first | refine zI (by omega) ?_ | refine zE (by omega) (by omega) ?_ | refine zD (by omega) (by omega) ?_ | refine zY (by omega) ?_ | refine zN (by omega) ?_ | refine amin ?_ | refine amax ?_ | refine zU (by omega) ?_ | refine z8 (by omega) ?_ | refine zX (by omega) (by omega) ?_ | refine zR rfl ?_ | refine acellA ?_ | (apply zL H; (· repeat first | exact .h | apply AtK.t); (· rfl)) | (apply zA H; (· repeat first | exact .h | apply AtK.t)) | (apply zS H; (· repeat first | exact .h | apply AtK.t); (· rfl); (conv => whnf); clear H; intro τ H) | rw [List.length_map]); (refine wX ?_)))
    have hnb := hrest ⟨fun h => by (have := h.1; rw [hp] at this; cases this), h4, h5⟩
    have eS : amSize p w = fieldsV p.fs (amHead p.part w) (lenW w) := if_neg hnb
    have hhr := amHead_range p.part w
    rw [eS]
    clear bad hrest hsh eS
    by_cases h6 : p.fs.length < 1
    · (repeat ((first | refine zI (by omega) ?_ | refine zE (by omega) (by omega) ?_ | refine zD (by omega) (by omega) ?_ | refine zY (by omega) ?_ | refine zN (by omega) ?_ | refine amin ?_ | refine amax ?_ | refine zU (by omega) ?_ | refine z8 (by omega) ?_ | refine zX (by omega) (by omega) ?_ | refine zR rfl ?_ | refine acellA ?_ | (apply zL H; (· repeat first | exact .h | apply AtK.t); (· rfl)) | (apply zA H; (· repeat first | exact .h | apply AtK.t)) | (apply zS H; (· repeat first | exact .h | apply AtK.t); (· rfl); (conv => whnf); clear H; intro τ H) | rw [List.length_map]); (refine wX ?_)))
      exact aret (VLe.refl _) H.sub ⟨by unfold fieldsV; rw [if_pos (.inl h6)], rfl⟩
    by_cases h7 : p.fs.length > 24
    · (repeat ((first | refine zI (by omega) ?_ | refine zE (by omega) (by omega) ?_ | refine zD (by omega) (by omega) ?_ | refine zY (by omega) ?_ | refine zN (by omega) ?_ | refine amin ?_ | refine amax ?_ | refine zU (by omega) ?_ | refine z8 (by omega) ?_ | refine zX (by omega) (by omega) ?_ | refine zR rfl ?_ | refine acellA ?_ | (apply zL H; (· repeat first | exact .h | apply AtK.t); (· rfl)) | (apply zA H; (· repeat first | exact .h | apply AtK.t)) | (apply zS H; (· repeat first | exact .h | apply AtK.t); (· rfl); (conv => whnf); clear H; intro τ H) | rw [List.length_map]); (refine wX ?_)))
      exact aret (VLe.refl _) H.sub ⟨by unfold fieldsV; rw [if_pos (.inr h7)], rfl⟩
    (repeat ((first | refine zI (by omega) ?_ | refine zE (by omega) (by omega) ?_ | refine zD (by omega) (by omega) ?_ | refine zY (by omega) ?_ | refine zN (by omega) ?_ | refine amin ?_ | refine amax ?_ | refine zU (by omega) ?_ | refine z8 (by omega) ?_ | refine zX (by omega) (by omega) ?_ | refine zR rfl ?_ | refine acellA ?_ | (apply zL H; (· repeat first | exact .h | apply AtK.t); (· rfl)) | (apply zA H; (· repeat first | exact .h | apply AtK.t)) | (apply zS H; (· repeat first | exact .h | apply AtK.t); (· rfl); (conv => whnf); clear H; intro τ H) | rw [List.length_map]); (refine wX ?_)))
    refine acall (aHead p.part w τ) ?_
    rintro _ σ_ ⟨rfl, e_⟩
    obtain rfl := e_.symm
    refine ⟨?_, Ext.refl _⟩
    (refine wX ?_)
    refine acall (aLenWidth w τ) ?_
    rintro _ σ_ ⟨rfl, e_⟩
    obtain rfl := e_.symm
    refine ⟨?_, Ext.refl _⟩
    (refine wX ?_)
    refine acall (lSize ((p.fs.length : Int) - 1) (lenW w) τ) ?_
    rintro _ σ_ ⟨rfl, e_⟩
    obtain rfl := e_.symm
    refine ⟨?_, Ext.refl _⟩
    (refine wX ?_)
    generalize amHead p.part w = hd at *
    generalize lenW w = lw at *
    have hsz := sizeV_range ((p.fs.length : Int) - 1) lw
    generalize hSZ : sizeV ((p.fs.length : Int) - 1) lw = sz at *
    have hV (h : fieldsBad p.fs p.fs.length = true ∨ hd + sz + (total p.fs : Int) > 4000) : fieldsV p.fs hd lw = 0 := by
      unfold fieldsV
      rw [if_neg (by omega), hSZ]
      by_cases hb : fieldsBad p.fs p.fs.length = true
      · rw [if_pos hb]
      · rw [if_neg hb, if_pos (h.resolve_left hb)]
    (repeat ((first | refine zI (by omega) ?_ | refine zE (by omega) (by omega) ?_ | refine zD (by omega) (by omega) ?_ | refine zY (by omega) ?_ | refine zN (by omega) ?_ | refine amin ?_ | refine amax ?_ | refine zU (by omega) ?_ | refine z8 (by omega) ?_ | refine zX (by omega) (by omega) ?_ | refine zR rfl ?_ | refine acellA ?_ | (apply zL H; (· repeat first | exact .h | apply AtK.t); (· rfl)) | (apply zA H; (· repeat first | exact .h | apply AtK.t)) | (apply zS H; (· repeat first | exact .h | apply AtK.t); (· rfl); (conv => whnf); clear H; intro τ H) | rw [List.length_map]); (refine wX ?_)))
    refine aloop (α := Nat × Int) (fun x => [(s6, i64v x.2), (s84, i64v x.1)]) (fun _ => τ) (fun x => x.1 ≤ p.fs.length ∧ fieldsBad p.fs x.1 = false ∧ x.2 = hd + sz + (total (p.fs.take x.1) : Int) ∧ x.2 ≤ 4000) (fun x => p.fs.length - x.1) (0, hd + sz) ⟨Nat.zero_le _, rfl, by show hd + sz = hd + sz + ((0 : Nat) : Int); omega, by dsimp only; omega⟩ (Sub.refl _) ?_ ?_
    · (refine wX ?_)
      (repeat' first | with_reducible exact EnvLe.refl _ | (refine EnvLe.node ?_ (by first | exact Or.inl rfl | exact Or.inr (Or.inl rfl) | exact Or.inr (Or.inr ⟨nofun, VLe.slice _ _ _⟩)) ?_))
    rintro ⟨i, n⟩ ⟨hi, hbad, hn, hle⟩
    dsimp only at hi hbad hn hle ⊢
    by_cases h : i < p.fs.length
    · have hts := total_take_succ p.fs i h
      have htl := total_take_le p.fs (i + 1)
      have hfb := fieldBad_get h
      have hsucc := fieldsBad_succ p.fs i
      rw [hbad, Bool.false_or] at hsucc
      (refine wX ?_)
      (repeat ((first | refine zI (by omega) ?_ | refine zE (by omega) (by omega) ?_ | refine zD (by omega) (by omega) ?_ | refine zY (by omega) ?_ | refine zN (by omega) ?_ | refine amin ?_ | refine amax ?_ | refine zU (by omega) ?_ | refine z8 (by omega) ?_ | refine zX (by omega) (by omega) ?_ | refine zR rfl ?_ | refine acellA ?_ | (apply zL H; (· repeat first | exact .h | apply AtK.t); (· rfl)) | (apply zA H; (· repeat first | exact .h | apply AtK.t)) | (apply zS H; (· repeat first | exact .h | apply AtK.t); (· rfl); (conv => whnf); clear H; intro τ H) | rw [List.length_map]); (refine wX ?_)))
      refine aget (by omega) (get_lists h) ?_
      (refine wX ?_)
      (repeat ((first | refine zI (by omega) ?_ | refine zE (by omega) (by omega) ?_ | refine zD (by omega) (by omega) ?_ | refine zY (by omega) ?_ | refine zN (by omega) ?_ | refine amin ?_ | refine amax ?_ | refine zU (by omega) ?_ | refine z8 (by omega) ?_ | refine zX (by omega) (by omega) ?_ | refine zR rfl ?_ | refine acellA ?_ | (apply zL H; (· repeat first | exact .h | apply AtK.t); (· rfl)) | (apply zA H; (· repeat first | exact .h | apply AtK.t)) | (apply zS H; (· repeat first | exact .h | apply AtK.t); (· rfl); (conv => whnf); clear H; intro τ H) | rw [List.length_map]); (refine wX ?_)))
      by_cases c1 : p.fs[i].length = 0
      · have hbd : fieldBad p.fs i = true := by rw [hfb, decide_eq_true (.inl c1)]
        (repeat ((first | refine zI (by omega) ?_ | refine zE (by omega) (by omega) ?_ | refine zD (by omega) (by omega) ?_ | refine zY (by omega) ?_ | refine zN (by omega) ?_ | refine amin ?_ | refine amax ?_ | refine zU (by omega) ?_ | refine z8 (by omega) ?_ | refine zX (by omega) (by omega) ?_ | refine zR rfl ?_ | refine acellA ?_ | (apply zL H; (· repeat first | exact .h | apply AtK.t); (· rfl)) | (apply zA H; (· repeat first | exact .h | apply AtK.t)) | (apply zS H; (· repeat first | exact .h | apply AtK.t); (· rfl); (conv => whnf); clear H; intro τ H) | rw [List.length_map]); (refine wX ?_)))
        exact aret (VLe.refl _) H.sub ⟨by rw [hV (.inl (fieldsBad_of h hbd))], rfl⟩
      by_cases c23 : p.fs[i].length > 2047 ∧ i + 1 < p.fs.length
      · have hbd : fieldBad p.fs i = true := by rw [hfb, decide_eq_true (.inr c23)]
        (repeat ((first | refine zI (by omega) ?_ | refine zE (by omega) (by omega) ?_ | refine zD (by omega) (by omega) ?_ | refine zY (by omega) ?_ | refine zN (by omega) ?_ | refine amin ?_ | refine amax ?_ | refine zU (by omega) ?_ | refine z8 (by omega) ?_ | refine zX (by omega) (by omega) ?_ | refine zR rfl ?_ | refine acellA ?_ | (apply zL H; (· repeat first | exact .h | apply AtK.t); (· rfl)) | (apply zA H; (· repeat first | exact .h | apply AtK.t)) | (apply zS H; (· repeat first | exact .h | apply AtK.t); (· rfl); (conv => whnf); clear H; intro τ H) | rw [List.length_map]); (refine wX ?_)))
        exact aret (VLe.refl _) H.sub ⟨by rw [hV (.inl (fieldsBad_of h hbd))], rfl⟩
      have hbd : fieldBad p.fs i = false := by rw [hfb]; exact decide_eq_false (by omega)
      by_cases c2 : p.fs[i].length > 2047
      all_goals
        by_cases c4 : (p.fs[i].length : Int) > 4000 - n
        · (repeat ((first | refine zI (by omega) ?_ | refine zE (by omega) (by omega) ?_ | refine zD (by omega) (by omega) ?_ | refine zY (by omega) ?_ | refine zN (by omega) ?_ | refine amin ?_ | refine amax ?_ | refine zU (by omega) ?_ | refine z8 (by omega) ?_ | refine zX (by omega) (by omega) ?_ | refine zR rfl ?_ | refine acellA ?_ | (apply zL H; (· repeat first | exact .h | apply AtK.t); (· rfl)) | (apply zA H; (· repeat first | exact .h | apply AtK.t)) | (apply zS H; (· repeat first | exact .h | apply AtK.t); (· rfl); (conv => whnf); clear H; intro τ H) | rw [List.length_map]); (refine wX ?_)))
          exact aret (VLe.refl _) H.sub ⟨by rw [hV (.inr (by omega))], rfl⟩
        · (repeat ((first | refine zI (by omega) ?_ | refine zE (by omega) (by omega) ?_ | refine zD (by omega) (by omega) ?_ | refine zY (by omega) ?_ | refine zN (by omega) ?_ | refine amin ?_ | refine amax ?_ | refine zU (by omega) ?_ | refine z8 (by omega) ?_ | refine zX (by omega) (by omega) ?_ | refine zR rfl ?_ | refine acellA ?_ | (apply zL H; (· repeat first | exact .h | apply AtK.t); (· rfl)) | (apply zA H; (· repeat first | exact .h | apply AtK.t)) | (apply zS H; (· repeat first | exact .h | apply AtK.t); (· rfl); (conv => whnf); clear H; intro τ H) | rw [List.length_map]); (refine wX ?_)))
          refine ⟨(i + 1, n + p.fs[i].length), ⟨h, by dsimp only; rw [hsucc, hbd], by dsimp only; omega, by dsimp only; omega⟩, by dsimp only; omega, Sub.refl _, ?_⟩
          (refine wX ?_)
          (repeat' first | with_reducible exact EnvLe.refl _ | (refine EnvLe.node ?_ (by first | exact Or.inl rfl | exact Or.inr (Or.inl rfl) | exact Or.inr (Or.inr ⟨nofun, VLe.slice _ _ _⟩)) ?_))
    · obtain rfl : i = p.fs.length := by omega
      rw [List.take_of_length_le (Nat.le_refl _)] at hn
      (refine wX ?_)
      (repeat ((first | refine zI (by omega) ?_ | refine zE (by omega) (by omega) ?_ | refine zD (by omega) (by omega) ?_ | refine zY (by omega) ?_ | refine zN (by omega) ?_ | refine amin ?_ | refine amax ?_ | refine zU (by omega) ?_ | refine z8 (by omega) ?_ | refine zX (by omega) (by omega) ?_ | refine zR rfl ?_ | refine acellA ?_ | (apply zL H; (· repeat first | exact .h | apply AtK.t); (· rfl)) | (apply zA H; (· repeat first | exact .h | apply AtK.t)) | (apply zS H; (· repeat first | exact .h | apply AtK.t); (· rfl); (conv => whnf); clear H; intro τ H) | rw [List.length_map]); (refine wX ?_)))
      refine aret (VLe.refl _) H.sub ⟨?_, rfl⟩
      unfold fieldsV
      rw [if_neg (by omega), hbad, hSZ, if_neg (by simp), if_neg (by omega), hn]
theorem aRight (p : Pk) (w : Int) (σ : AHeap) (hl : p.fs.length ≤ 9223372036854775807) : ACalls Try.prog i_amd_Right [amV p, i64v w] σ fun v σ' => v = boolv (decide (amSize p w > 0)) ∧ σ' = σ := by
  refine k_amd_Right rfl ?_
  have H := Hp.nil σ
  (refine wX ?_)
  refine hnew H rfl ?_
  clear H
  intro id τ H
  (refine wX ?_)
  (repeat ((first | refine zI (by omega) ?_ | refine zE (by omega) (by omega) ?_ | refine zD (by omega) (by omega) ?_ | refine zY (by omega) ?_ | refine zN (by omega) ?_ | refine amin ?_ | refine amax ?_ | refine zU (by omega) ?_ | refine z8 (by omega) ?_ | refine zX (by omega) (by omega) ?_ | refine zR rfl ?_ | refine acellA ?_ | (apply zL H; (· repeat first | exact .h | apply AtK.t); (· rfl)) | (apply zA H; (· repeat first | exact .h | apply AtK.t)) | (apply zS H; (· repeat first | exact .h | apply AtK.t); (· rfl); (conv => whnf); clear H; intro τ H) | rw [List.length_map]); (refine wX ?_)))
  refine acall (aSize p w τ hl) ?_
  rintro _ σ_ ⟨rfl, e_⟩
  obtain rfl := e_.symm
  refine ⟨?_, Ext.refl _⟩
  (refine wX ?_)
  exact aret (VLe.refl _) H.sub ⟨congrArg boolv (dec_congr Iff.rfl), rfl⟩
end Go.Proofs.Ytgobbmdbkmjlnaa
/-
  Packets that are acknowledged: their data.
-/
namespace Go.Proofs.Ytgobbmdbkmjlnaa
set_option linter.unusedVariables false
set_option linter.unusedSimpArgs false
open Go Go.Am

theorem aData (p : Pk) (σ : AHeap) (hn : p.fs.length ≤ 1000) (ht : total p.fs ≤ 140737488355328) : ACalls Try.prog i_amd_Data [amV p] σ fun v σ' => v = sl .none p.fs.flatten ∧ σ' = σ := by
  refine k_amd_Data rfl ?_
  have H := Hp.nil σ
  (refine wX ?_)
  refine hnew H rfl ?_
  clear H
  intro id τ H
  (refine wX ?_)
  (repeat ((first | refine zI (by omega) ?_ | refine zE (by omega) (by omega) ?_ | refine zD (by omega) (by omega) ?_ | refine zY (by omega) ?_ | refine zN (by omega) ?_ | refine amin ?_ | refine amax ?_ | refine zU (by omega) ?_ | refine z8 (by omega) ?_ | refine zX (by omega) (by omega) ?_ | refine zR rfl ?_ | refine acellA ?_ | (apply zL H; (· repeat first | exact .h | apply AtK.t); (· rfl)) | (apply zA H; (· repeat first | exact .h | apply AtK.t)) | (apply zS H; (· repeat first | exact .h | apply AtK.t); (· rfl); (conv => whnf); clear H; intro τ H) | rw [List.length_map]); (refine wX ?_)))
  refine acall (Join p.fs .none .full τ (by omega) (show total p.fs ≤ _ by omega)) ?_
  rintro _ σ_ ⟨rfl, e_⟩
  obtain rfl := e_.symm
  refine ⟨?_, Ext.refl _⟩
  (refine wX ?_)
  exact aret (VLe.refl _) H.sub ⟨rfl, rfl⟩
end Go.Proofs.Ytgobbmdbkmjlnaa
/-
  What is kept to be sent again: what its functions do with one packet.
-/
namespace Go.Proofs.Ytgobbmdbkmjlnaa
set_option linter.unusedVariables false
set_option linter.unusedSimpArgs false
open Go Go.Am

/-- A packet's cells in what is kept: the packet, how many bytes it has, what is due, how often it was considered. -/
abbrev enC (p : Pk) (n : Int) (id : Nat) (c : Int) : List AVal := [boolv p.poll, i64v p.fi, i64v p.sn, boolv p.part, boolv p.last, i64v p.off, lists .none p.fs, i64v n, .ptr id 0, i64v c]
abbrev stC (wd : Int) (im : Nat) : List AVal := [i64v wd, .map im]
/-- A packet's bytes, cut to those that are there. -/
def spanV (n a b : Int) : Sp × Int :=
  if a < 0 ∨ b < 0 then ((0, 0), 1) else
  if a ≥ (if b = 0 ∨ b > n then n else b) then ((0, 0), 1) else ((a, if b = 0 ∨ b > n then n else b), 0)

section
variable {σ : AHeap} {ist im ie id : Nat} {wd n c : Int} {es : List (Int × AVal)} {p : Pk} {l : List Sp} {tk : Tok}
theorem stMade (b1 : σ ist = some (.cells (stC wd im))) : ACalls Try.prog i_sent_Store_made [.ptr ist 0] σ fun v σ' => v = boolv true ∧ σ' = σ := by
  refine k_sent_Store_made rfl ?_
  have H := Hp.nil σ
  (refine wX ?_)
  (repeat ((first | refine zI (by omega) ?_ | refine zE (by omega) (by omega) ?_ | refine zD (by omega) (by omega) ?_ | refine zY (by omega) ?_ | refine zN (by omega) ?_ | refine amin ?_ | refine amax ?_ | refine zU (by omega) ?_ | refine z8 (by omega) ?_ | refine zX (by omega) (by omega) ?_ | refine zR rfl ?_ | refine acellA ?_ | refine zB H b1 rfl ?_ | refine zC H b1 ?_ | (apply zL H; (· repeat first | exact .h | apply AtK.t); (· rfl)) | (apply zA H; (· repeat first | exact .h | apply AtK.t)) | (apply zS H; (· repeat first | exact .h | apply AtK.t); (· rfl); (conv => whnf); clear H; intro τ H) | rw [List.length_map]); (refine wX ?_)))
  exact aret (VLe.refl _) H.sub ⟨rfl, rfl⟩
theorem stFind (b1 : σ ist = some (.cells (stC wd im))) (b2 : σ im = some (.map es)) (sn : Int) (he : es.find? (fun e => e.1 == sn) = some (sn, .ptr ie 0)) :
    ACalls Try.prog i_sent_Store_find [.ptr ist 0, i64v sn] σ fun v σ' => v = .tup [.ptr ie 0, i64v 0] ∧ σ' = σ := by
  refine k_sent_Store_find rfl ?_
  have H := Hp.nil σ
  (refine wX ?_)
  refine acall (stMade b1) ?_
  rintro _ σ_ ⟨rfl, e_⟩
  obtain rfl := e_.symm
  refine ⟨?_, Ext.refl _⟩
  (refine wX ?_)
  (repeat ((first | refine zI (by omega) ?_ | refine zE (by omega) (by omega) ?_ | refine zD (by omega) (by omega) ?_ | refine zY (by omega) ?_ | refine zN (by omega) ?_ | refine amin ?_ | refine amax ?_ | refine zU (by omega) ?_ | refine z8 (by omega) ?_ | refine zX (by omega) (by omega) ?_ | refine zR rfl ?_ | refine acellA ?_ | refine zB H b1 rfl ?_ | refine zC H b1 ?_ | refine zB H b2 rfl ?_ | refine zC H b2 ?_ | (apply zL H; (· repeat first | exact .h | apply AtK.t); (· rfl)) | (apply zA H; (· repeat first | exact .h | apply AtK.t)) | (apply zS H; (· repeat first | exact .h | apply AtK.t); (· rfl); (conv => whnf); clear H; intro τ H) | rw [List.length_map]); (refine wX ?_)))
  refine hlookB H b2 ?_
  rw [he]
  (refine wX ?_)
  (repeat ((first | refine zI (by omega) ?_ | refine zE (by omega) (by omega) ?_ | refine zD (by omega) (by omega) ?_ | refine zY (by omega) ?_ | refine zN (by omega) ?_ | refine amin ?_ | refine amax ?_ | refine zU (by omega) ?_ | refine z8 (by omega) ?_ | refine zX (by omega) (by omega) ?_ | refine zR rfl ?_ | refine acellA ?_ | refine zB H b1 rfl ?_ | refine zC H b1 ?_ | refine zB H b2 rfl ?_ | refine zC H b2 ?_ | (apply zL H; (· repeat first | exact .h | apply AtK.t); (· rfl)) | (apply zA H; (· repeat first | exact .h | apply AtK.t)) | (apply zS H; (· repeat first | exact .h | apply AtK.t); (· rfl); (conv => whnf); clear H; intro τ H) | rw [List.length_map]); (refine wX ?_)))
  exact aret (VLe.refl _) H.sub ⟨rfl, rfl⟩
theorem stNone (b1 : σ ist = some (.cells (stC wd im))) (b2 : σ im = some (.map es)) (sn : Int) (he : es.find? (fun e => e.1 == sn) = none) :
    ACalls Try.prog i_sent_Store_find [.ptr ist 0, i64v sn] σ fun v σ' => v = .tup [.v (.pointer none), i64v 4] ∧ σ' = σ := by
  refine k_sent_Store_find rfl ?_
  have H := Hp.nil σ
  (refine wX ?_)
  refine acall (stMade b1) ?_
  rintro _ σ_ ⟨rfl, e_⟩
  obtain rfl := e_.symm
  refine ⟨?_, Ext.refl _⟩
  (refine wX ?_)
  (repeat ((first | refine zI (by omega) ?_ | refine zE (by omega) (by omega) ?_ | refine zD (by omega) (by omega) ?_ | refine zY (by omega) ?_ | refine zN (by omega) ?_ | refine amin ?_ | refine amax ?_ | refine zU (by omega) ?_ | refine z8 (by omega) ?_ | refine zX (by omega) (by omega) ?_ | refine zR rfl ?_ | refine acellA ?_ | refine zB H b1 rfl ?_ | refine zC H b1 ?_ | refine zB H b2 rfl ?_ | refine zC H b2 ?_ | (apply zL H; (· repeat first | exact .h | apply AtK.t); (· rfl)) | (apply zA H; (· repeat first | exact .h | apply AtK.t)) | (apply zS H; (· repeat first | exact .h | apply AtK.t); (· rfl); (conv => whnf); clear H; intro τ H) | rw [List.length_map]); (refine wX ?_)))
  refine hlookB H b2 ?_
  rw [he]
  (refine wX ?_)
  (repeat ((first | refine zI (by omega) ?_ | refine zE (by omega) (by omega) ?_ | refine zD (by omega) (by omega) ?_ | refine zY (by omega) ?_ | refine zN (by omega) ?_ | refine amin ?_ | refine amax ?_ | refine zU (by omega) ?_ | refine z8 (by omega) ?_ | refine zX (by omega) (by omega) ?_ | refine zR rfl ?_ | refine acellA ?_ | refine zB H b1 rfl ?_ | refine zC H b1 ?_ | refine zB H b2 rfl ?_ | refine zC H b2 ?_ | (apply zL H; (· repeat first | exact .h | apply AtK.t); (· rfl)) | (apply zA H; (· repeat first | exact .h | apply AtK.t)) | (apply zS H; (· repeat first | exact .h | apply AtK.t); (· rfl); (conv => whnf); clear H; intro τ H) | rw [List.length_map]); (refine wX ?_)))
  exact aret (VLe.refl _) H.sub ⟨rfl, rfl⟩
theorem stCount (b1 : σ ist = some (.cells (stC wd im))) (b2 : σ im = some (.map es)) (sn : Int) (he : es.find? (fun e => e.1 == sn) = some (sn, .ptr ie 0)) (b3 : σ ie = some (.cells (enC p n id c))) :
    ACalls Try.prog i_sent_Store_Count [.ptr ist 0, i64v sn] σ fun v σ' => v = i64v c ∧ σ' = σ := by
  refine k_sent_Store_Count rfl ?_
  have H := Hp.nil σ
  (refine wX ?_)
  refine acall (stFind b1 b2 sn he) ?_
  rintro _ σ_ ⟨rfl, e_⟩
  obtain rfl := e_.symm
  (refine wX ?_)
  (repeat ((first | refine zI (by omega) ?_ | refine zE (by omega) (by omega) ?_ | refine zD (by omega) (by omega) ?_ | refine zY (by omega) ?_ | refine zN (by omega) ?_ | refine amin ?_ | refine amax ?_ | refine zU (by omega) ?_ | refine z8 (by omega) ?_ | refine zX (by omega) (by omega) ?_ | refine zR rfl ?_ | refine acellA ?_ | refine zB H b1 rfl ?_ | refine zC H b1 ?_ | refine zB H b2 rfl ?_ | refine zC H b2 ?_ | refine zB H b3 rfl ?_ | refine zC H b3 ?_ | (apply zL H; (· repeat first | exact .h | apply AtK.t); (· rfl)) | (apply zA H; (· repeat first | exact .h | apply AtK.t)) | (apply zS H; (· repeat first | exact .h | apply AtK.t); (· rfl); (conv => whnf); clear H; intro τ H) | rw [List.length_map]); (refine wX ?_)))
  exact aret (VLe.refl _) H.sub ⟨rfl, rfl⟩
theorem stDue (b1 : σ ist = some (.cells (stC wd im))) (b2 : σ im = some (.map es)) (sn : Int) (he : es.find? (fun e => e.1 == sn) = some (sn, .ptr ie 0)) (b3 : σ ie = some (.cells (enC p n id c)))
    (b4 : σ id = some (.cells [spL tk l])) (hl : l.length ≤ 1000000) : ACalls Try.prog i_sent_Store_Due [.ptr ist 0, i64v sn] σ fun v σ' => ∃ u, Owned σ σ' u ∧ v = spL u l := by
  refine k_sent_Store_Due rfl ?_
  have H := Hp.nil σ
  (refine wX ?_)
  refine acall (stFind b1 b2 sn he) ?_
  rintro _ σ_ ⟨rfl, e_⟩
  obtain rfl := e_.symm
  (refine wX ?_)
  (repeat ((first | refine zI (by omega) ?_ | refine zE (by omega) (by omega) ?_ | refine zD (by omega) (by omega) ?_ | refine zY (by omega) ?_ | refine zN (by omega) ?_ | refine amin ?_ | refine amax ?_ | refine zU (by omega) ?_ | refine z8 (by omega) ?_ | refine zX (by omega) (by omega) ?_ | refine zR rfl ?_ | refine acellA ?_ | refine zB H b1 rfl ?_ | refine zC H b1 ?_ | refine zB H b2 rfl ?_ | refine zC H b2 ?_ | refine zB H b3 rfl ?_ | refine zC H b3 ?_ | refine zB H b4 rfl ?_ | refine zC H b4 ?_ | (apply zL H; (· repeat first | exact .h | apply AtK.t); (· rfl)) | (apply zA H; (· repeat first | exact .h | apply AtK.t)) | (apply zS H; (· repeat first | exact .h | apply AtK.t); (· rfl); (conv => whnf); clear H; intro τ H) | rw [List.length_map]); (refine wX ?_)))
  refine acall (sSpans b4 hl) ?_
  rintro _ σ2 ⟨u, hu, rfl⟩
  refine ⟨?_, hu.ext⟩
  (refine wX ?_)
  exact aret (VLe.refl _) (Sub.refl _) ⟨u, hu, rfl⟩
theorem stSpan (b3 : σ ie = some (.cells (enC p n id c))) (a b : Int) : ACalls Try.prog i_sent_entry_span [.ptr ie 0, i64v a, i64v b] σ fun v σ' => v = .tup [spV (spanV n a b).1, i64v (spanV n a b).2] ∧ σ' = σ := by
  refine k_sent_entry_span rfl ?_
  have H := Hp.nil σ
  (refine wX ?_)
  refine hnew H rfl ?_
  clear H
  intro i6 τ H
  (refine wX ?_)
  (repeat ((first | refine zI (by omega) ?_ | refine zE (by omega) (by omega) ?_ | refine zD (by omega) (by omega) ?_ | refine zY (by omega) ?_ | refine zN (by omega) ?_ | refine amin ?_ | refine amax ?_ | refine zU (by omega) ?_ | refine z8 (by omega) ?_ | refine zX (by omega) (by omega) ?_ | refine zR rfl ?_ | refine acellA ?_ | refine zB H b3 rfl ?_ | refine zC H b3 ?_ | (apply zL H; (· repeat first | exact .h | apply AtK.t); (· rfl)) | (apply zA H; (· repeat first | exact .h | apply AtK.t)) | (apply zS H; (· repeat first | exact .h | apply AtK.t); (· rfl); (conv => whnf); clear H; intro τ H) | rw [List.length_map]); (refine wX ?_)))
  unfold spanV
  by_cases ha : a < 0
  · rw [if_pos (.inl ha)]
    (repeat ((first | refine zI (by omega) ?_ | refine zE (by omega) (by omega) ?_ | refine zD (by omega) (by omega) ?_ | refine zY (by omega) ?_ | refine zN (by omega) ?_ | refine amin ?_ | refine amax ?_ | refine zU (by omega) ?_ | refine z8 (by omega) ?_ | refine zX (by omega) (by omega) ?_ | refine zR rfl ?_ | refine acellA ?_ | refine zB H b3 rfl ?_ | refine zC H b3 ?_ | (apply zL H; (· repeat first | exact .h | apply AtK.t); (· rfl)) | (apply zA H; (· repeat first | exact .h | apply AtK.t)) | (apply zS H; (· repeat first | exact .h | apply AtK.t); (· rfl); (conv => whnf); clear H; intro τ H) | rw [List.length_map]); (refine wX ?_)))
    exact aret (VLe.refl _) H.sub ⟨rfl, rfl⟩
  (repeat ((first | refine zI (by omega) ?_ | refine zE (by omega) (by omega) ?_ | refine zD (by omega) (by omega) ?_ | refine zY (by omega) ?_ | refine zN (by omega) ?_ | refine amin ?_ | refine amax ?_ | refine zU (by omega) ?_ | refine z8 (by omega) ?_ | refine zX (by omega) (by omega) ?_ | refine zR rfl ?_ | refine acellA ?_ | refine zB H b3 rfl ?_ | refine zC H b3 ?_ | (apply zL H; (· repeat first | exact .h | apply AtK.t); (· rfl)) | (apply zA H; (· repeat first | exact .h | apply AtK.t)) | (apply zS H; (· repeat first | exact .h | apply AtK.t); (· rfl); (conv => whnf); clear H; intro τ H) | rw [List.length_map]); (refine wX ?_)))
  by_cases hb : b < 0
  · rw [if_pos (.inr hb)]
    (repeat ((first | refine zI (by omega) ?_ | refine zE (by omega) (by omega) ?_ | refine zD (by omega) (by omega) ?_ | refine zY (by omega) ?_ | refine zN (by omega) ?_ | refine amin ?_ | refine amax ?_ | refine zU (by omega) ?_ | refine z8 (by omega) ?_ | refine zX (by omega) (by omega) ?_ | refine zR rfl ?_ | refine acellA ?_ | refine zB H b3 rfl ?_ | refine zC H b3 ?_ | (apply zL H; (· repeat first | exact .h | apply AtK.t); (· rfl)) | (apply zA H; (· repeat first | exact .h | apply AtK.t)) | (apply zS H; (· repeat first | exact .h | apply AtK.t); (· rfl); (conv => whnf); clear H; intro τ H) | rw [List.length_map]); (refine wX ?_)))
    exact aret (VLe.refl _) H.sub ⟨rfl, rfl⟩
  rw [if_neg (by omega)]
  (repeat ((first | refine zI (by omega) ?_ | refine zE (by omega) (by omega) ?_ | refine zD (by omega) (by omega) ?_ | refine zY (by omega) ?_ | refine zN (by omega) ?_ | refine amin ?_ | refine amax ?_ | refine zU (by omega) ?_ | refine z8 (by omega) ?_ | refine zX (by omega) (by omega) ?_ | refine zR rfl ?_ | refine acellA ?_ | refine zB H b3 rfl ?_ | refine zC H b3 ?_ | (apply zL H; (· repeat first | exact .h | apply AtK.t); (· rfl)) | (apply zA H; (· repeat first | exact .h | apply AtK.t)) | (apply zS H; (· repeat first | exact .h | apply AtK.t); (· rfl); (conv => whnf); clear H; intro τ H) | rw [List.length_map]); (refine wX ?_)))
  obtain ⟨q, hq0⟩ : ∃ q, q = if b = 0 ∨ b > n then n else b := ⟨_, rfl⟩
  rw [← hq0]
  by_cases hb0 : b = 0
  · rw [if_pos (.inl hb0)] at hq0
    subst hq0
    (repeat ((first | refine zI (by omega) ?_ | refine zE (by omega) (by omega) ?_ | refine zD (by omega) (by omega) ?_ | refine zY (by omega) ?_ | refine zN (by omega) ?_ | refine amin ?_ | refine amax ?_ | refine zU (by omega) ?_ | refine z8 (by omega) ?_ | refine zX (by omega) (by omega) ?_ | refine zR rfl ?_ | refine acellA ?_ | refine zB H b3 rfl ?_ | refine zC H b3 ?_ | (apply zL H; (· repeat first | exact .h | apply AtK.t); (· rfl)) | (apply zA H; (· repeat first | exact .h | apply AtK.t)) | (apply zS H; (· repeat first | exact .h | apply AtK.t); (· rfl); (conv => whnf); clear H; intro τ H) | rw [List.length_map]); (refine wX ?_)))
    by_cases hq : a ≥ q
    · rw [if_pos hq]
      (repeat ((first | refine zI (by omega) ?_ | refine zE (by omega) (by omega) ?_ | refine zD (by omega) (by omega) ?_ | refine zY (by omega) ?_ | refine zN (by omega) ?_ | refine amin ?_ | refine amax ?_ | refine zU (by omega) ?_ | refine z8 (by omega) ?_ | refine zX (by omega) (by omega) ?_ | refine zR rfl ?_ | refine acellA ?_ | refine zB H b3 rfl ?_ | refine zC H b3 ?_ | (apply zL H; (· repeat first | exact .h | apply AtK.t); (· rfl)) | (apply zA H; (· repeat first | exact .h | apply AtK.t)) | (apply zS H; (· repeat first | exact .h | apply AtK.t); (· rfl); (conv => whnf); clear H; intro τ H) | rw [List.length_map]); (refine wX ?_)))
      exact aret (VLe.refl _) H.sub ⟨rfl, rfl⟩
    · rw [if_neg hq]
      (repeat ((first | refine zI (by omega) ?_ | refine zE (by omega) (by omega) ?_ | refine zD (by omega) (by omega) ?_ | refine zY (by omega) ?_ | refine zN (by omega) ?_ | refine amin ?_ | refine amax ?_ | refine zU (by omega) ?_ | refine z8 (by omega) ?_ | refine zX (by omega) (by omega) ?_ | refine zR rfl ?_ | refine acellA ?_ | refine zB H b3 rfl ?_ | refine zC H b3 ?_ | (apply zL H; (· repeat first | exact .h | apply AtK.t); (· rfl)) | (apply zA H; (· repeat first | exact .h | apply AtK.t)) | (apply zS H; (· repeat first | exact .h | apply AtK.t); (· rfl); (conv => whnf); clear H; intro τ H) | rw [List.length_map]); (refine wX ?_)))
      exact aret (VLe.refl _) H.sub ⟨rfl, rfl⟩
  (repeat ((first | refine zI (by omega) ?_ | refine zE (by omega) (by omega) ?_ | refine zD (by omega) (by omega) ?_ | refine zY (by omega) ?_ | refine zN (by omega) ?_ | refine amin ?_ | refine amax ?_ | refine zU (by omega) ?_ | refine z8 (by omega) ?_ | refine zX (by omega) (by omega) ?_ | refine zR rfl ?_ | refine acellA ?_ | refine zB H b3 rfl ?_ | refine zC H b3 ?_ | (apply zL H; (· repeat first | exact .h | apply AtK.t); (· rfl)) | (apply zA H; (· repeat first | exact .h | apply AtK.t)) | (apply zS H; (· repeat first | exact .h | apply AtK.t); (· rfl); (conv => whnf); clear H; intro τ H) | rw [List.length_map]); (refine wX ?_)))
  by_cases hbn : b > n
  · rw [if_pos (.inr hbn)] at hq0
    subst hq0
    (repeat ((first | refine zI (by omega) ?_ | refine zE (by omega) (by omega) ?_ | refine zD (by omega) (by omega) ?_ | refine zY (by omega) ?_ | refine zN (by omega) ?_ | refine amin ?_ | refine amax ?_ | refine zU (by omega) ?_ | refine z8 (by omega) ?_ | refine zX (by omega) (by omega) ?_ | refine zR rfl ?_ | refine acellA ?_ | refine zB H b3 rfl ?_ | refine zC H b3 ?_ | (apply zL H; (· repeat first | exact .h | apply AtK.t); (· rfl)) | (apply zA H; (· repeat first | exact .h | apply AtK.t)) | (apply zS H; (· repeat first | exact .h | apply AtK.t); (· rfl); (conv => whnf); clear H; intro τ H) | rw [List.length_map]); (refine wX ?_)))
    by_cases hq : a ≥ q
    · rw [if_pos hq]
      (repeat ((first | refine zI (by omega) ?_ | refine zE (by omega) (by omega) ?_ | refine zD (by omega) (by omega) ?_ | refine zY (by omega) ?_ | refine zN (by omega) ?_ | refine amin ?_ | refine amax ?_ | refine zU (by omega) ?_ | refine z8 (by omega) ?_ | refine zX (by omega) (by omega) ?_ | refine zR rfl ?_ | refine acellA ?_ | refine zB H b3 rfl ?_ | refine zC H b3 ?_ | (apply zL H; (· repeat first | exact .h | apply AtK.t); (· rfl)) | (apply zA H; (· repeat first | exact .h | apply AtK.t)) | (apply zS H; (· repeat first | exact .h | apply AtK.t); (· rfl); (conv => whnf); clear H; intro τ H) | rw [List.length_map]); (refine wX ?_)))
      exact aret (VLe.refl _) H.sub ⟨rfl, rfl⟩
    · rw [if_neg hq]
      (repeat ((first | refine zI (by omega) ?_ | refine zE (by omega) (by omega) ?_ | refine zD (by omega) (by omega) ?_ | refine zY (by omega) ?_ | refine zN (by omega) ?_ | refine amin ?_ | refine amax ?_ | refine zU (by omega) ?_ | refine z8 (by omega) ?_ | refine zX (by omega) (by omega) ?_ | refine zR rfl ?_ | refine acellA ?_ | refine zB H b3 rfl ?_ | refine zC H b3 ?_ | (apply zL H; (· repeat first | exact .h | apply AtK.t); (· rfl)) | (apply zA H; (· repeat first | exact .h | apply AtK.t)) | (apply zS H; (· repeat first | exact .h | apply AtK.t); (· rfl); (conv => whnf); clear H; intro τ H) | rw [List.length_map]); (refine wX ?_)))
      exact aret (VLe.refl _) H.sub ⟨rfl, rfl⟩
  rw [if_neg (by omega)] at hq0
  subst hq0
  (repeat ((first | refine zI (by omega) ?_ | refine zE (by omega) (by omega) ?_ | refine zD (by omega) (by omega) ?_ | refine zY (by omega) ?_ | refine zN (by omega) ?_ | refine amin ?_ | refine amax ?_ | refine zU (by omega) ?_ | refine z8 (by omega) ?_ | refine zX (by omega) (by omega) ?_ | refine zR rfl ?_ | refine acellA ?_ | refine zB H b3 rfl ?_ | refine zC H b3 ?_ | (apply zL H; (· repeat first | exact .h | apply AtK.t); (· rfl)) | (apply zA H; (· repeat first | exact .h | apply AtK.t)) | (apply zS H; (· repeat first | exact .h | apply AtK.t); (· rfl); (conv => whnf); clear H; intro τ H) | rw [List.length_map]); (refine wX ?_)))
  by_cases hq : a ≥ q
  · rw [if_pos hq]
    (repeat ((first | refine zI (by omega) ?_ | refine zE (by omega) (by omega) ?_ | refine zD (by omega) (by omega) ?_ | refine zY (by omega) ?_ | refine zN (by omega) ?_ | refine amin ?_ | refine amax ?_ | refine zU (by omega) ?_ | refine z8 (by omega) ?_ | refine zX (by omega) (by omega) ?_ | refine zR rfl ?_ | refine acellA ?_ | refine zB H b3 rfl ?_ | refine zC H b3 ?_ | (apply zL H; (· repeat first | exact .h | apply AtK.t); (· rfl)) | (apply zA H; (· repeat first | exact .h | apply AtK.t)) | (apply zS H; (· repeat first | exact .h | apply AtK.t); (· rfl); (conv => whnf); clear H; intro τ H) | rw [List.length_map]); (refine wX ?_)))
    exact aret (VLe.refl _) H.sub ⟨rfl, rfl⟩
  · rw [if_neg hq]
    (repeat ((first | refine zI (by omega) ?_ | refine zE (by omega) (by omega) ?_ | refine zD (by omega) (by omega) ?_ | refine zY (by omega) ?_ | refine zN (by omega) ?_ | refine amin ?_ | refine amax ?_ | refine zU (by omega) ?_ | refine z8 (by omega) ?_ | refine zX (by omega) (by omega) ?_ | refine zR rfl ?_ | refine acellA ?_ | refine zB H b3 rfl ?_ | refine zC H b3 ?_ | (apply zL H; (· repeat first | exact .h | apply AtK.t); (· rfl)) | (apply zA H; (· repeat first | exact .h | apply AtK.t)) | (apply zS H; (· repeat first | exact .h | apply AtK.t); (· rfl); (conv => whnf); clear H; intro τ H) | rw [List.length_map]); (refine wX ?_)))
    exact aret (VLe.refl _) H.sub ⟨rfl, rfl⟩
end
end Go.Proofs.Ytgobbmdbkmjlnaa
/-
  What is kept to be sent again: what is due, and due no more; a packet that is put in, and dropped.
-/
namespace Go.Proofs.Ytgobbmdbkmjlnaa
set_option linter.unusedVariables false
set_option linter.unusedSimpArgs false
open Go Go.Am

/-- What is due behind 'Again', and how often the packet was considered. -/
def againL (n : Int) (y : Sp) (l : List Sp) : List Sp := if addC y l = 0 then addS y l else addS (0, n) l
def againS (n a b : Int) (l : List Sp) : List Sp := if (spanV n a b).2 = 0 ∧ hasS (spanV n a b).1 l = false then againL n (spanV n a b).1 l else l
def againN (n a b c : Int) (l : List Sp) : Int := if (spanV n a b).2 = 0 ∧ hasS (spanV n a b).1 l = false then c + 1 else c
def sentL (n a b : Int) (l : List Sp) : List Sp := if (spanV n a b).2 = 0 then takS (spanV n a b).1 l else l

section
variable {σb σ : AHeap} {ist im ie id : Nat} {wd n c : Int} {es : List (Int × AVal)} {p : Pk} {l : List Sp} {tk : Tok} {F : List HE}
set_option maxRecDepth 20000 in
theorem stAgain (H : Hp σb (.o id (.cells [spL tk l]) :: .o ie (.cells (enC p n id c)) :: F) σ) (b1 : σ ist = some (.cells (stC wd im))) (b2 : σ im = some (.map es)) (sn a b : Int) (he : es.find? (fun e => e.1 == sn) = some (sn, .ptr ie 0))
    (hl : l.length ≤ 100000 - 1) (hc : 0 ≤ c ∧ c ≤ 4611686018427387904) : ACalls Try.prog i_sent_Store_Again [.ptr ist 0, i64v sn, i64v a, i64v b] σ fun v σ' =>
    v = .tup [i64v (if (spanV n a b).2 = 0 then againN n a b c l else 0), i64v (spanV n a b).2] ∧ ∃ u, Hp σb (.o id (.cells [spL u (againS n a b l)]) :: .o ie (.cells (enC p n id (againN n a b c l))) :: F) σ' := by
  refine k_sent_Store_Again rfl ?_
  have b3 : σ ie = some (.cells (enC p n id c)) := H.get (k := 1) rfl
  have b4 : σ id = some (.cells [spL tk l]) := H.get (k := 0) rfl
  (refine wX ?_)
  refine acall (stFind b1 b2 sn he) ?_
  rintro _ σ_ ⟨rfl, e_⟩
  obtain rfl := e_.symm
  (refine wX ?_)
  (repeat ((first | refine zI (by omega) ?_ | refine zE (by omega) (by omega) ?_ | refine zD (by omega) (by omega) ?_ | refine zY (by omega) ?_ | refine zN (by omega) ?_ | refine amin ?_ | refine amax ?_ | refine zU (by omega) ?_ | refine z8 (by omega) ?_ | refine zX (by omega) (by omega) ?_ | refine zR rfl ?_ | refine acellA ?_ | refine zB H b1 rfl ?_ | refine zC H b1 ?_ | refine zB H b2 rfl ?_ | refine zC H b2 ?_ | refine zB H b3 rfl ?_ | refine zC H b3 ?_ | refine zB H b4 rfl ?_ | refine zC H b4 ?_ | (apply zL H; (· repeat first | exact .h | apply AtK.t); (· rfl)) | (apply zA H; (· repeat first | exact .h | apply AtK.t)) | (apply zS H; (· repeat first | exact .h | apply AtK.t); (· rfl); (conv => whnf); clear H; intro τ H) | rw [List.length_map]); (refine wX ?_)))
  refine acall (stSpan b3 a b) ?_
  rintro _ σ_ ⟨rfl, e_⟩
  obtain rfl := e_.symm
  refine ⟨?_, Ext.refl _⟩
  (refine wX ?_)
  unfold againS againN
  generalize spanV n a b = q
  obtain ⟨⟨qa, qb⟩, qe⟩ := q
  refine hnew H rfl ?_
  clear H
  intro i12 τ H
  (refine wX ?_)
  (repeat ((first | refine zI (by omega) ?_ | refine zE (by omega) (by omega) ?_ | refine zD (by omega) (by omega) ?_ | refine zY (by omega) ?_ | refine zN (by omega) ?_ | refine amin ?_ | refine amax ?_ | refine zU (by omega) ?_ | refine z8 (by omega) ?_ | refine zX (by omega) (by omega) ?_ | refine zR rfl ?_ | refine acellA ?_ | refine zB H b1 rfl ?_ | refine zC H b1 ?_ | refine zB H b2 rfl ?_ | refine zC H b2 ?_ | refine zB H b3 rfl ?_ | refine zC H b3 ?_ | refine zB H b4 rfl ?_ | refine zC H b4 ?_ | (apply zL H; (· repeat first | exact .h | apply AtK.t); (· rfl)) | (apply zA H; (· repeat first | exact .h | apply AtK.t)) | (apply zS H; (· repeat first | exact .h | apply AtK.t); (· rfl); (conv => whnf); clear H; intro τ H) | rw [List.length_map]); (refine wX ?_)))
  by_cases hq : qe = 0
  case neg =>
    (repeat ((first | refine zI (by omega) ?_ | refine zE (by omega) (by omega) ?_ | refine zD (by omega) (by omega) ?_ | refine zY (by omega) ?_ | refine zN (by omega) ?_ | refine amin ?_ | refine amax ?_ | refine zU (by omega) ?_ | refine z8 (by omega) ?_ | refine zX (by omega) (by omega) ?_ | refine zR rfl ?_ | refine acellA ?_ | refine zB H b1 rfl ?_ | refine zC H b1 ?_ | refine zB H b2 rfl ?_ | refine zC H b2 ?_ | refine zB H b3 rfl ?_ | refine zC H b3 ?_ | refine zB H b4 rfl ?_ | refine zC H b4 ?_ | (apply zL H; (· repeat first | exact .h | apply AtK.t); (· rfl)) | (apply zA H; (· repeat first | exact .h | apply AtK.t)) | (apply zS H; (· repeat first | exact .h | apply AtK.t); (· rfl); (conv => whnf); clear H; intro τ H) | rw [List.length_map]); (refine wX ?_)))
    dsimp only
    rw [if_neg (c := qe = 0 ∧ _) (fun h => hq h.1), if_neg (c := qe = 0 ∧ _) (fun h => hq h.1), if_neg hq]
    exact aret (VLe.refl _) (Sub.refl _) ⟨rfl, tk, H.tail⟩
  subst hq
  (repeat ((first | refine zI (by omega) ?_ | refine zE (by omega) (by omega) ?_ | refine zD (by omega) (by omega) ?_ | refine zY (by omega) ?_ | refine zN (by omega) ?_ | refine amin ?_ | refine amax ?_ | refine zU (by omega) ?_ | refine z8 (by omega) ?_ | refine zX (by omega) (by omega) ?_ | refine zR rfl ?_ | refine acellA ?_ | refine zB H b1 rfl ?_ | refine zC H b1 ?_ | refine zB H b2 rfl ?_ | refine zC H b2 ?_ | refine zB H b3 rfl ?_ | refine zC H b3 ?_ | refine zB H b4 rfl ?_ | refine zC H b4 ?_ | (apply zL H; (· repeat first | exact .h | apply AtK.t); (· rfl)) | (apply zA H; (· repeat first | exact .h | apply AtK.t)) | (apply zS H; (· repeat first | exact .h | apply AtK.t); (· rfl); (conv => whnf); clear H; intro τ H) | rw [List.length_map]); (refine wX ?_)))
  refine acall (sHas (qa, qb) (H.get (k := 1) rfl) (by omega)) ?_
  rintro _ σ_ ⟨rfl, e_⟩
  obtain rfl := e_.symm
  refine ⟨?_, Ext.refl _⟩
  (refine wX ?_)
  rw [if_pos rfl]
  cases hh : hasS (qa, qb) l
  case true =>
    (refine wX ?_)
    (repeat ((first | refine zI (by omega) ?_ | refine zE (by omega) (by omega) ?_ | refine zD (by omega) (by omega) ?_ | refine zY (by omega) ?_ | refine zN (by omega) ?_ | refine amin ?_ | refine amax ?_ | refine zU (by omega) ?_ | refine z8 (by omega) ?_ | refine zX (by omega) (by omega) ?_ | refine zR rfl ?_ | refine acellA ?_ | refine zB H b1 rfl ?_ | refine zC H b1 ?_ | refine zB H b2 rfl ?_ | refine zC H b2 ?_ | refine zB H b3 rfl ?_ | refine zC H b3 ?_ | refine zB H b4 rfl ?_ | refine zC H b4 ?_ | (apply zL H; (· repeat first | exact .h | apply AtK.t); (· rfl)) | (apply zA H; (· repeat first | exact .h | apply AtK.t)) | (apply zS H; (· repeat first | exact .h | apply AtK.t); (· rfl); (conv => whnf); clear H; intro τ H) | rw [List.length_map]); (refine wX ?_)))
    rw [if_neg (fun h => by simp at h), if_neg (fun h => by simp at h)]
    exact aret (VLe.refl _) (Sub.refl _) ⟨rfl, tk, H.tail⟩
  rw [if_pos ⟨rfl, rfl⟩, if_pos ⟨rfl, rfl⟩]
  (refine wX ?_)
  (repeat ((first | refine zI (by omega) ?_ | refine zE (by omega) (by omega) ?_ | refine zD (by omega) (by omega) ?_ | refine zY (by omega) ?_ | refine zN (by omega) ?_ | refine amin ?_ | refine amax ?_ | refine zU (by omega) ?_ | refine z8 (by omega) ?_ | refine zX (by omega) (by omega) ?_ | refine zR rfl ?_ | refine acellA ?_ | refine zB H b1 rfl ?_ | refine zC H b1 ?_ | refine zB H b2 rfl ?_ | refine zC H b2 ?_ | refine zB H b3 rfl ?_ | refine zC H b3 ?_ | refine zB H b4 rfl ?_ | refine zC H b4 ?_ | (apply zL H; (· repeat first | exact .h | apply AtK.t); (· rfl)) | (apply zA H; (· repeat first | exact .h | apply AtK.t)) | (apply zS H; (· repeat first | exact .h | apply AtK.t); (· rfl); (conv => whnf); clear H; intro τ H) | rw [List.length_map]); (refine wX ?_)))
  refine acall (sAdd (H.perm (.swap _ _ _)) (qa, qb) (by omega)) ?_
  clear H b3 b4
  rintro _ τ ⟨rfl, u, H⟩
  (refine wX ?_)
  unfold againL
  by_cases hc0 : addC (qa, qb) l = 0
  · rw [hc0, if_pos rfl]
    (refine wX ?_)
    (repeat ((first | refine zI (by omega) ?_ | refine zE (by omega) (by omega) ?_ | refine zD (by omega) (by omega) ?_ | refine zY (by omega) ?_ | refine zN (by omega) ?_ | refine amin ?_ | refine amax ?_ | refine zU (by omega) ?_ | refine z8 (by omega) ?_ | refine zX (by omega) (by omega) ?_ | refine zR rfl ?_ | refine acellA ?_ | refine zB H b1 rfl ?_ | refine zC H b1 ?_ | refine zB H b2 rfl ?_ | refine zC H b2 ?_ | refine zB H b3 rfl ?_ | refine zC H b3 ?_ | refine zB H b4 rfl ?_ | refine zC H b4 ?_ | (apply zL H; (· repeat first | exact .h | apply AtK.t); (· rfl)) | (apply zA H; (· repeat first | exact .h | apply AtK.t)) | (apply zS H; (· repeat first | exact .h | apply AtK.t); (· rfl); (conv => whnf); clear H; intro τ H) | rw [List.length_map]); (refine wX ?_)))
    exact aret (VLe.refl _) (Sub.refl _) ⟨rfl, u, (H.perm (.swap _ _ _)).tail⟩
  · rw [if_neg hc0]
    rw [add_no hc0] at H
    (repeat ((first | refine zI (by omega) ?_ | refine zE (by omega) (by omega) ?_ | refine zD (by omega) (by omega) ?_ | refine zY (by omega) ?_ | refine zN (by omega) ?_ | refine amin ?_ | refine amax ?_ | refine zU (by omega) ?_ | refine z8 (by omega) ?_ | refine zX (by omega) (by omega) ?_ | refine zR rfl ?_ | refine acellA ?_ | refine zB H b1 rfl ?_ | refine zC H b1 ?_ | refine zB H b2 rfl ?_ | refine zC H b2 ?_ | refine zB H b3 rfl ?_ | refine zC H b3 ?_ | refine zB H b4 rfl ?_ | refine zC H b4 ?_ | (apply zL H; (· repeat first | exact .h | apply AtK.t); (· rfl)) | (apply zA H; (· repeat first | exact .h | apply AtK.t)) | (apply zS H; (· repeat first | exact .h | apply AtK.t); (· rfl); (conv => whnf); clear H; intro τ H) | rw [List.length_map]); (refine wX ?_)))
    refine acall (sAdd H (0, n) (by omega)) ?_
    clear H
    rintro _ τ ⟨rfl, u, H⟩
    (refine wX ?_)
    (repeat ((first | refine zI (by omega) ?_ | refine zE (by omega) (by omega) ?_ | refine zD (by omega) (by omega) ?_ | refine zY (by omega) ?_ | refine zN (by omega) ?_ | refine amin ?_ | refine amax ?_ | refine zU (by omega) ?_ | refine z8 (by omega) ?_ | refine zX (by omega) (by omega) ?_ | refine zR rfl ?_ | refine acellA ?_ | refine zB H b1 rfl ?_ | refine zC H b1 ?_ | refine zB H b2 rfl ?_ | refine zC H b2 ?_ | refine zB H b3 rfl ?_ | refine zC H b3 ?_ | refine zB H b4 rfl ?_ | refine zC H b4 ?_ | (apply zL H; (· repeat first | exact .h | apply AtK.t); (· rfl)) | (apply zA H; (· repeat first | exact .h | apply AtK.t)) | (apply zS H; (· repeat first | exact .h | apply AtK.t); (· rfl); (conv => whnf); clear H; intro τ H) | rw [List.length_map]); (refine wX ?_)))
    exact aret (VLe.refl _) (Sub.refl _) ⟨rfl, u, (H.perm (.swap _ _ _)).tail⟩
theorem stAgainNone (b1 : σ ist = some (.cells (stC wd im))) (b2 : σ im = some (.map es)) (sn a b : Int) (he : es.find? (fun e => e.1 == sn) = none) :
    ACalls Try.prog i_sent_Store_Again [.ptr ist 0, i64v sn, i64v a, i64v b] σ fun v σ' => v = .tup [i64v 0, i64v 4] ∧ σ' = σ := by
  refine k_sent_Store_Again rfl ?_
  have H := Hp.nil σ
  (refine wX ?_)
  refine acall (stNone b1 b2 sn he) ?_
  rintro _ σ_ ⟨rfl, e_⟩
  obtain rfl := e_.symm
  (refine wX ?_)
  (repeat ((first | refine zI (by omega) ?_ | refine zE (by omega) (by omega) ?_ | refine zD (by omega) (by omega) ?_ | refine zY (by omega) ?_ | refine zN (by omega) ?_ | refine amin ?_ | refine amax ?_ | refine zU (by omega) ?_ | refine z8 (by omega) ?_ | refine zX (by omega) (by omega) ?_ | refine zR rfl ?_ | refine acellA ?_ | refine zB H b1 rfl ?_ | refine zC H b1 ?_ | refine zB H b2 rfl ?_ | refine zC H b2 ?_ | (apply zL H; (· repeat first | exact .h | apply AtK.t); (· rfl)) | (apply zA H; (· repeat first | exact .h | apply AtK.t)) | (apply zS H; (· repeat first | exact .h | apply AtK.t); (· rfl); (conv => whnf); clear H; intro τ H) | rw [List.length_map]); (refine wX ?_)))
  exact aret (VLe.refl _) H.sub ⟨rfl, rfl⟩
set_option maxRecDepth 20000 in
theorem stSent (H : Hp σb (.o id (.cells [spL tk l]) :: .o ie (.cells (enC p n id c)) :: F) σ) (b1 : σ ist = some (.cells (stC wd im))) (b2 : σ im = some (.map es)) (sn a b : Int) (he : es.find? (fun e => e.1 == sn) = some (sn, .ptr ie 0))
    (hl : l.length ≤ 100000 - 1) : ACalls Try.prog i_sent_Store_Sent [.ptr ist 0, i64v sn, i64v a, i64v b] σ fun v σ' =>
    v = i64v (spanV n a b).2 ∧ ∃ u, Hp σb (.o id (.cells [spL u (sentL n a b l)]) :: .o ie (.cells (enC p n id c)) :: F) σ' := by
  refine k_sent_Store_Sent rfl ?_
  have b3 : σ ie = some (.cells (enC p n id c)) := H.get (k := 1) rfl
  (refine wX ?_)
  refine acall (stFind b1 b2 sn he) ?_
  rintro _ σ_ ⟨rfl, e_⟩
  obtain rfl := e_.symm
  (refine wX ?_)
  (repeat ((first | refine zI (by omega) ?_ | refine zE (by omega) (by omega) ?_ | refine zD (by omega) (by omega) ?_ | refine zY (by omega) ?_ | refine zN (by omega) ?_ | refine amin ?_ | refine amax ?_ | refine zU (by omega) ?_ | refine z8 (by omega) ?_ | refine zX (by omega) (by omega) ?_ | refine zR rfl ?_ | refine acellA ?_ | refine zB H b1 rfl ?_ | refine zC H b1 ?_ | refine zB H b2 rfl ?_ | refine zC H b2 ?_ | refine zB H b3 rfl ?_ | refine zC H b3 ?_ | (apply zL H; (· repeat first | exact .h | apply AtK.t); (· rfl)) | (apply zA H; (· repeat first | exact .h | apply AtK.t)) | (apply zS H; (· repeat first | exact .h | apply AtK.t); (· rfl); (conv => whnf); clear H; intro τ H) | rw [List.length_map]); (refine wX ?_)))
  refine acall (stSpan b3 a b) ?_
  rintro _ σ_ ⟨rfl, e_⟩
  obtain rfl := e_.symm
  refine ⟨?_, Ext.refl _⟩
  (refine wX ?_)
  unfold sentL
  generalize spanV n a b = q
  obtain ⟨⟨qa, qb⟩, qe⟩ := q
  refine hnew H rfl ?_
  clear H
  intro i12 τ H
  (refine wX ?_)
  (repeat ((first | refine zI (by omega) ?_ | refine zE (by omega) (by omega) ?_ | refine zD (by omega) (by omega) ?_ | refine zY (by omega) ?_ | refine zN (by omega) ?_ | refine amin ?_ | refine amax ?_ | refine zU (by omega) ?_ | refine z8 (by omega) ?_ | refine zX (by omega) (by omega) ?_ | refine zR rfl ?_ | refine acellA ?_ | refine zB H b1 rfl ?_ | refine zC H b1 ?_ | refine zB H b2 rfl ?_ | refine zC H b2 ?_ | refine zB H b3 rfl ?_ | refine zC H b3 ?_ | (apply zL H; (· repeat first | exact .h | apply AtK.t); (· rfl)) | (apply zA H; (· repeat first | exact .h | apply AtK.t)) | (apply zS H; (· repeat first | exact .h | apply AtK.t); (· rfl); (conv => whnf); clear H; intro τ H) | rw [List.length_map]); (refine wX ?_)))
  by_cases hq : qe = 0
  case neg =>
    (repeat ((first | refine zI (by omega) ?_ | refine zE (by omega) (by omega) ?_ | refine zD (by omega) (by omega) ?_ | refine zY (by omega) ?_ | refine zN (by omega) ?_ | refine amin ?_ | refine amax ?_ | refine zU (by omega) ?_ | refine z8 (by omega) ?_ | refine zX (by omega) (by omega) ?_ | refine zR rfl ?_ | refine acellA ?_ | refine zB H b1 rfl ?_ | refine zC H b1 ?_ | refine zB H b2 rfl ?_ | refine zC H b2 ?_ | refine zB H b3 rfl ?_ | refine zC H b3 ?_ | (apply zL H; (· repeat first | exact .h | apply AtK.t); (· rfl)) | (apply zA H; (· repeat first | exact .h | apply AtK.t)) | (apply zS H; (· repeat first | exact .h | apply AtK.t); (· rfl); (conv => whnf); clear H; intro τ H) | rw [List.length_map]); (refine wX ?_)))
    rw [if_neg hq]
    exact aret (VLe.refl _) (Sub.refl _) ⟨rfl, tk, H.tail⟩
  subst hq
  rw [if_pos rfl]
  (repeat ((first | refine zI (by omega) ?_ | refine zE (by omega) (by omega) ?_ | refine zD (by omega) (by omega) ?_ | refine zY (by omega) ?_ | refine zN (by omega) ?_ | refine amin ?_ | refine amax ?_ | refine zU (by omega) ?_ | refine z8 (by omega) ?_ | refine zX (by omega) (by omega) ?_ | refine zR rfl ?_ | refine acellA ?_ | refine zB H b1 rfl ?_ | refine zC H b1 ?_ | refine zB H b2 rfl ?_ | refine zC H b2 ?_ | refine zB H b3 rfl ?_ | refine zC H b3 ?_ | (apply zL H; (· repeat first | exact .h | apply AtK.t); (· rfl)) | (apply zA H; (· repeat first | exact .h | apply AtK.t)) | (apply zS H; (· repeat first | exact .h | apply AtK.t); (· rfl); (conv => whnf); clear H; intro τ H) | rw [List.length_map]); (refine wX ?_)))
  refine acall (sTake (H.perm (.swap _ _ _)) (qa, qb) (by omega)) ?_
  clear H b3
  rintro _ τ ⟨rfl, u, H⟩
  (refine wX ?_)
  exact aret (VLe.refl _) (Sub.refl _) ⟨rfl, u, (H.perm (.swap _ _ _)).tail⟩
theorem stSentNone (b1 : σ ist = some (.cells (stC wd im))) (b2 : σ im = some (.map es)) (sn a b : Int) (he : es.find? (fun e => e.1 == sn) = none) :
    ACalls Try.prog i_sent_Store_Sent [.ptr ist 0, i64v sn, i64v a, i64v b] σ fun v σ' => v = i64v 4 ∧ σ' = σ := by
  refine k_sent_Store_Sent rfl ?_
  have H := Hp.nil σ
  (refine wX ?_)
  refine acall (stNone b1 b2 sn he) ?_
  rintro _ σ_ ⟨rfl, e_⟩
  obtain rfl := e_.symm
  (refine wX ?_)
  (repeat ((first | refine zI (by omega) ?_ | refine zE (by omega) (by omega) ?_ | refine zD (by omega) (by omega) ?_ | refine zY (by omega) ?_ | refine zN (by omega) ?_ | refine amin ?_ | refine amax ?_ | refine zU (by omega) ?_ | refine z8 (by omega) ?_ | refine zX (by omega) (by omega) ?_ | refine zR rfl ?_ | refine acellA ?_ | refine zB H b1 rfl ?_ | refine zC H b1 ?_ | refine zB H b2 rfl ?_ | refine zC H b2 ?_ | (apply zL H; (· repeat first | exact .h | apply AtK.t); (· rfl)) | (apply zA H; (· repeat first | exact .h | apply AtK.t)) | (apply zS H; (· repeat first | exact .h | apply AtK.t); (· rfl); (conv => whnf); clear H; intro τ H) | rw [List.length_map]); (refine wX ?_)))
  exact aret (VLe.refl _) H.sub ⟨rfl, rfl⟩
theorem stDrop (H : Hp σb (.o im (.map es) :: F) σ) (b1 : σ ist = some (.cells (stC wd im))) (sn : Int) (he : es.find? (fun e => e.1 == sn) = some (sn, .ptr ie 0)) :
    ACalls Try.prog i_sent_Store_Drop [.ptr ist 0, i64v sn] σ fun v σ' => v = i64v 0 ∧ Hp σb (.o im (.map (mapDel es sn)) :: F) σ' := by
  refine k_sent_Store_Drop rfl ?_
  (refine wX ?_)
  refine acall (stFind b1 (H.get (k := 0) rfl) sn he) ?_
  rintro _ σ_ ⟨rfl, e_⟩
  obtain rfl := e_.symm
  (refine wX ?_)
  have N := Hp.nil σ
  refine zB N b1 rfl ?_
  (refine wX ?_)
  apply zMd H
  · (repeat first | exact .h | apply AtK.t)
  (conv => whnf)
  clear H
  intro τ H
  (refine wX ?_)
  exact aret (VLe.refl _) (Sub.refl _) ⟨rfl, H⟩
theorem stDropNone (b1 : σ ist = some (.cells (stC wd im))) (b2 : σ im = some (.map es)) (sn : Int) (he : es.find? (fun e => e.1 == sn) = none) :
    ACalls Try.prog i_sent_Store_Drop [.ptr ist 0, i64v sn] σ fun v σ' => v = i64v 4 ∧ σ' = σ := by
  refine k_sent_Store_Drop rfl ?_
  have H := Hp.nil σ
  (refine wX ?_)
  refine acall (stNone b1 b2 sn he) ?_
  rintro _ σ_ ⟨rfl, e_⟩
  obtain rfl := e_.symm
  (refine wX ?_)
  (repeat ((first | refine zI (by omega) ?_ | refine zE (by omega) (by omega) ?_ | refine zD (by omega) (by omega) ?_ | refine zY (by omega) ?_ | refine zN (by omega) ?_ | refine amin ?_ | refine amax ?_ | refine zU (by omega) ?_ | refine z8 (by omega) ?_ | refine zX (by omega) (by omega) ?_ | refine zR rfl ?_ | refine acellA ?_ | refine zB H b1 rfl ?_ | refine zC H b1 ?_ | refine zB H b2 rfl ?_ | refine zC H b2 ?_ | (apply zL H; (· repeat first | exact .h | apply AtK.t); (· rfl)) | (apply zA H; (· repeat first | exact .h | apply AtK.t)) | (apply zS H; (· repeat first | exact .h | apply AtK.t); (· rfl); (conv => whnf); clear H; intro τ H) | rw [List.length_map]); (refine wX ?_)))
  exact aret (VLe.refl _) H.sub ⟨rfl, rfl⟩
theorem VLe.pk {a b c d e f : AVal} {s : Nat} {xs : List AVal} {t : Tok} : VLe (.agg [a, b, c, d, e, f, .slice s xs t]) (.agg [a, b, c, d, e, f, .slice s xs .none]) := fun κ v k => by
  cases k with
  | agg r => exact .agg ((VLe.cons (VLe.refl _) (VLe.cons (VLe.refl _) (VLe.cons (VLe.refl _) (VLe.cons (VLe.refl _) (VLe.cons (VLe.refl _) (VLe.cons (VLe.refl _) (VLe.cons (VLe.slice _ _ _) VLe.nil))))))) _ _ r)
theorem stCopied (p : Pk) (σ : AHeap) (hn : p.fs.length ≤ 1000) (ht : total p.fs ≤ 140737488355328) : ACalls Try.prog i_sent_copied [amV p] σ fun v σ' => v = amV p ∧ σ' = σ := by
  refine k_sent_copied rfl ?_
  have H := Hp.nil σ
  (refine wX ?_)
  refine hnew H rfl ?_
  clear H
  intro i1 τ H
  (refine wX ?_)
  refine hnew H rfl ?_
  clear H
  intro i2 τ H
  (refine wX ?_)
  (repeat ((first | refine zI (by omega) ?_ | refine zE (by omega) (by omega) ?_ | refine zD (by omega) (by omega) ?_ | refine zY (by omega) ?_ | refine zN (by omega) ?_ | refine amin ?_ | refine amax ?_ | refine zU (by omega) ?_ | refine z8 (by omega) ?_ | refine zX (by omega) (by omega) ?_ | refine zR rfl ?_ | refine acellA ?_ | (apply zL H; (· repeat first | exact .h | apply AtK.t); (· rfl)) | (apply zA H; (· repeat first | exact .h | apply AtK.t)) | (apply zS H; (· repeat first | exact .h | apply AtK.t); (· rfl); (conv => whnf); clear H; intro τ H) | rw [List.length_map]); (refine wX ?_)))
  have H := H.cons_full
  refine aloop (α := Nat × Tok × AHeap) (fun y => [(s9, i64v y.1), (s3, lists y.2.1 (p.fs.take y.1))]) (fun y => y.2.2) (fun y => y.1 ≤ p.fs.length ∧ Hp σ (.t y.2.1 :: .o i2 (.cells [boolv false, i64v 0, i64v 0, boolv false, boolv false, i64v 0, .slice 1 [] .full]) :: .o i1 (.cells (amC p)) :: []) y.2.2) (fun y => p.fs.length - y.1)
    (0, .full, τ) ⟨Nat.zero_le _, H⟩ (Sub.refl _) ?_ ?_
  · (refine wX ?_)
    (repeat' first | with_reducible exact EnvLe.refl _ | (refine EnvLe.node ?_ (by first | exact Or.inl rfl | exact Or.inr (Or.inl rfl) | exact Or.inr (Or.inr ⟨nofun, VLe.slice _ _ _⟩)) ?_))
  clear H
  rintro ⟨i, tk, τ⟩ ⟨hi, H⟩
  dsimp only at hi H ⊢
  (refine wX ?_)
  by_cases h : i < p.fs.length
  · (repeat ((first | refine zI (by omega) ?_ | refine zE (by omega) (by omega) ?_ | refine zD (by omega) (by omega) ?_ | refine zY (by omega) ?_ | refine zN (by omega) ?_ | refine amin ?_ | refine amax ?_ | refine zU (by omega) ?_ | refine z8 (by omega) ?_ | refine zX (by omega) (by omega) ?_ | refine zR rfl ?_ | refine acellA ?_ | (apply zL H; (· repeat first | exact .h | apply AtK.t); (· rfl)) | (apply zA H; (· repeat first | exact .h | apply AtK.t)) | (apply zS H; (· repeat first | exact .h | apply AtK.t); (· rfl); (conv => whnf); clear H; intro τ H) | rw [List.length_map]); (refine wX ?_)))
    refine aget (by omega) (get_lists h) ?_
    (refine wX ?_)
    refine acell rfl ?_
    (refine wX ?_)
    have hlen := total_get (l := p.fs) (i := i) h
    refine acall_less (Clone p.fs[i] .none τ (by omega)) ?_
    rintro _ σ4 ⟨tk3, ho3, rfl⟩
    refine ⟨sl .none p.fs[i], τ, VLe.slice _ _ _, ho3.sub, ?_, Ext.refl _⟩
    (refine wX ?_)
    apply zP H
    · (repeat first | exact .h | apply AtK.t)
    · exact (by rw [List.length_map, List.length_take]; show (_ + 1) * 24 ≤ _; omega)
    intro tk2
    (conv => whnf)
    clear H
    intro τ H
    (refine wX ?_)
    (repeat ((first | refine zI (by omega) ?_ | refine zE (by omega) (by omega) ?_ | refine zD (by omega) (by omega) ?_ | refine zY (by omega) ?_ | refine zN (by omega) ?_ | refine amin ?_ | refine amax ?_ | refine zU (by omega) ?_ | refine z8 (by omega) ?_ | refine zX (by omega) (by omega) ?_ | refine zR rfl ?_ | refine acellA ?_ | (apply zL H; (· repeat first | exact .h | apply AtK.t); (· rfl)) | (apply zA H; (· repeat first | exact .h | apply AtK.t)) | (apply zS H; (· repeat first | exact .h | apply AtK.t); (· rfl); (conv => whnf); clear H; intro τ H) | rw [List.length_map]); (refine wX ?_)))
    rw [show (p.fs.take i).map (sl .none) ++ [sl .none p.fs[i]] = (p.fs.take (i + 1)).map (sl .none) by rw [List.take_add_one, List.getElem?_eq_getElem h, Option.toList_some, List.map_append]; rfl]
    (repeat ((first | refine zI (by omega) ?_ | refine zE (by omega) (by omega) ?_ | refine zD (by omega) (by omega) ?_ | refine zY (by omega) ?_ | refine zN (by omega) ?_ | refine amin ?_ | refine amax ?_ | refine zU (by omega) ?_ | refine z8 (by omega) ?_ | refine zX (by omega) (by omega) ?_ | refine zR rfl ?_ | refine acellA ?_ | (apply zL H; (· repeat first | exact .h | apply AtK.t); (· rfl)) | (apply zA H; (· repeat first | exact .h | apply AtK.t)) | (apply zS H; (· repeat first | exact .h | apply AtK.t); (· rfl); (conv => whnf); clear H; intro τ H) | rw [List.length_map]); (refine wX ?_)))
    refine ⟨(i + 1, tk2, τ), ⟨h, H⟩, by dsimp only; omega, Sub.refl _, ?_⟩
    (refine wX ?_)
    (repeat' first | with_reducible exact EnvLe.refl _ | (refine EnvLe.node ?_ (by first | exact Or.inl rfl | exact Or.inr (Or.inl rfl) | exact Or.inr (Or.inr ⟨nofun, VLe.slice _ _ _⟩)) ?_))
  · obtain rfl : i = p.fs.length := by omega
    rw [List.take_length]
    (repeat ((first | refine zI (by omega) ?_ | refine zE (by omega) (by omega) ?_ | refine zD (by omega) (by omega) ?_ | refine zY (by omega) ?_ | refine zN (by omega) ?_ | refine amin ?_ | refine amax ?_ | refine zU (by omega) ?_ | refine z8 (by omega) ?_ | refine zX (by omega) (by omega) ?_ | refine zR rfl ?_ | refine acellA ?_ | (apply zL H; (· repeat first | exact .h | apply AtK.t); (· rfl)) | (apply zA H; (· repeat first | exact .h | apply AtK.t)) | (apply zS H; (· repeat first | exact .h | apply AtK.t); (· rfl); (conv => whnf); clear H; intro τ H) | rw [List.length_map]); (refine wX ?_)))
    exact aret (VLe.pk) H.sub ⟨rfl, rfl⟩
end
end Go.Proofs.Ytgobbmdbkmjlnaa
/-
  What is kept to be sent again: a new store, and a packet that is put in.
-/
namespace Go.Proofs.Ytgobbmdbkmjlnaa
set_option linter.unusedVariables false
set_option linter.unusedSimpArgs false
open Go Go.Am

/-- What Put says. -/
def putC (p : Pk) (wd : Int) (es : List (Int × AVal)) : Int :=
  if p.part = true ∨ ¬ amSize p wd > 0 then 3 else if (es.find? fun e => e.1 == p.sn) ≠ none then 12 else if es.length ≥ 32768 then 5 else 0
theorem mapSet_newS {es : List (Int × AVal)} {n : Int} {x : AVal} (h : es.find? (fun e => e.1 == n) = none) : mapSet es n x = es ++ [(n, x)] := by
  induction es with
  | nil => rfl
  | cons a r ih =>
    rw [List.find?_cons] at h
    obtain ⟨m, y⟩ := a
    by_cases hm : m = n
    · subst hm; simp at h
    · have hb : (m == n) = false := by simp [hm]
      dsimp only at h
      rw [hb] at h
      simp [mapSet, hm, ih h]

section
variable {σb σ : AHeap} {ist im ie id : Nat} {wd n c : Int} {es : List (Int × AVal)} {l : List Sp} {tk : Tok} {F : List HE}
theorem stNew (wd : Int) (hw : wd = 10 ∨ wd = 16) (σ : AHeap) : ACalls Try.prog i_sent_New [i64v wd] σ fun v σ' => ∃ ist im, v = .tup [.ptr ist 0, i64v 0] ∧ Hp σ [.o ist (.cells (stC wd im)), .o im (.map [])] σ' := by
  refine k_sent_New rfl ?_
  have H := Hp.nil σ
  (refine wX ?_)
  rcases hw with rfl | rfl
  all_goals
    (repeat ((first | refine zI (by omega) ?_ | refine zE (by omega) (by omega) ?_ | refine zD (by omega) (by omega) ?_ | refine zY (by omega) ?_ | refine zN (by omega) ?_ | refine amin ?_ | refine amax ?_ | refine zU (by omega) ?_ | refine z8 (by omega) ?_ | refine zX (by omega) (by omega) ?_ | refine zR rfl ?_ | refine acellA ?_ | (apply zL H; (· repeat first | exact .h | apply AtK.t); (· rfl)) | (apply zA H; (· repeat first | exact .h | apply AtK.t)) | (apply zS H; (· repeat first | exact .h | apply AtK.t); (· rfl); (conv => whnf); clear H; intro τ H) | rw [List.length_map]); (refine wX ?_)))
    refine hnewmap H ?_
    clear H
    intro im τ H
    (refine wX ?_)
    (repeat ((first | refine zI (by omega) ?_ | refine zE (by omega) (by omega) ?_ | refine zD (by omega) (by omega) ?_ | refine zY (by omega) ?_ | refine zN (by omega) ?_ | refine amin ?_ | refine amax ?_ | refine zU (by omega) ?_ | refine z8 (by omega) ?_ | refine zX (by omega) (by omega) ?_ | refine zR rfl ?_ | refine acellA ?_ | (apply zL H; (· repeat first | exact .h | apply AtK.t); (· rfl)) | (apply zA H; (· repeat first | exact .h | apply AtK.t)) | (apply zS H; (· repeat first | exact .h | apply AtK.t); (· rfl); (conv => whnf); clear H; intro τ H) | rw [List.length_map]); (refine wX ?_)))
    refine hnew H rfl ?_
    clear H
    intro ist τ H
    (refine wX ?_)
    (repeat ((first | refine zI (by omega) ?_ | refine zE (by omega) (by omega) ?_ | refine zD (by omega) (by omega) ?_ | refine zY (by omega) ?_ | refine zN (by omega) ?_ | refine amin ?_ | refine amax ?_ | refine zU (by omega) ?_ | refine z8 (by omega) ?_ | refine zX (by omega) (by omega) ?_ | refine zR rfl ?_ | refine acellA ?_ | (apply zL H; (· repeat first | exact .h | apply AtK.t); (· rfl)) | (apply zA H; (· repeat first | exact .h | apply AtK.t)) | (apply zS H; (· repeat first | exact .h | apply AtK.t); (· rfl); (conv => whnf); clear H; intro τ H) | rw [List.length_map]); (refine wX ?_)))
    exact aret (VLe.refl _) (Sub.refl _) ⟨ist, im, rfl, H⟩
theorem stNewNo (wd : Int) (hw : ¬ (wd = 10 ∨ wd = 16)) (σ : AHeap) : ACalls Try.prog i_sent_New [i64v wd] σ fun v σ' => v = .tup [.v (.pointer none), i64v 9] ∧ σ' = σ := by
  refine k_sent_New rfl ?_
  have H := Hp.nil σ
  (refine wX ?_)
  (repeat ((first | refine zI (by omega) ?_ | refine zE (by omega) (by omega) ?_ | refine zD (by omega) (by omega) ?_ | refine zY (by omega) ?_ | refine zN (by omega) ?_ | refine amin ?_ | refine amax ?_ | refine zU (by omega) ?_ | refine z8 (by omega) ?_ | refine zX (by omega) (by omega) ?_ | refine zR rfl ?_ | refine acellA ?_ | (apply zL H; (· repeat first | exact .h | apply AtK.t); (· rfl)) | (apply zA H; (· repeat first | exact .h | apply AtK.t)) | (apply zS H; (· repeat first | exact .h | apply AtK.t); (· rfl); (conv => whnf); clear H; intro τ H) | rw [List.length_map]); (refine wX ?_)))
  exact aret (VLe.refl _) H.sub ⟨rfl, rfl⟩
set_option maxRecDepth 20000 in
theorem stPut (H : Hp σb (.o ist (.cells (stC wd im)) :: .o im (.map es) :: F) σ) (p : Pk) (hes : ∀ e ∈ es, ∃ j, e.2 = .ptr j 0) (hl : p.fs.length ≤ 1000) (ht : total p.fs ≤ 140737488355328) (hn : es.length ≤ 1000000) :
    ACalls Try.prog i_sent_Store_Put [.ptr ist 0, amV p] σ fun v σ' => v = i64v (putC p wd es) ∧ ((putC p wd es ≠ 0 ∧ Hp σb (.o ist (.cells (stC wd im)) :: .o im (.map es) :: F) σ') ∨
      (putC p wd es = 0 ∧ ∃ ie id u, Hp σb (.o id (.cells [spL u []]) :: .o ie (.cells (enC p p.fs.flatten.length id 0)) :: .o ist (.cells (stC wd im)) :: .o im (.map (es ++ [(p.sn, .ptr ie 0)])) :: F) σ')) := by
  refine k_sent_Store_Put rfl ?_
  (refine wX ?_)
  refine hnew H rfl ?_
  clear H
  intro i3 τ H
  (refine wX ?_)
  refine acall (stMade (H.get (k := 1) rfl)) ?_
  rintro _ σ_ ⟨rfl, e_⟩
  obtain rfl := e_.symm
  refine ⟨?_, Ext.refl _⟩
  (refine wX ?_)
  (repeat ((first | refine zI (by omega) ?_ | refine zE (by omega) (by omega) ?_ | refine zD (by omega) (by omega) ?_ | refine zY (by omega) ?_ | refine zN (by omega) ?_ | refine amin ?_ | refine amax ?_ | refine zU (by omega) ?_ | refine z8 (by omega) ?_ | refine zX (by omega) (by omega) ?_ | refine zR rfl ?_ | refine acellA ?_ | (apply zL H; (· repeat first | exact .h | apply AtK.t); (· rfl)) | (apply zA H; (· repeat first | exact .h | apply AtK.t)) | (apply zS H; (· repeat first | exact .h | apply AtK.t); (· rfl); (conv => whnf); clear H; intro τ H) | rw [List.length_map]); (refine wX ?_)))
  unfold putC
  by_cases hp : p.part = true
  · refine abr_true hp ?_
    rw [if_pos (.inl hp)]
    (refine wX ?_)
    (repeat ((first | refine zI (by omega) ?_ | refine zE (by omega) (by omega) ?_ | refine zD (by omega) (by omega) ?_ | refine zY (by omega) ?_ | refine zN (by omega) ?_ | refine amin ?_ | refine amax ?_ | refine zU (by omega) ?_ | refine z8 (by omega) ?_ | refine zX (by omega) (by omega) ?_ | refine zR rfl ?_ | refine acellA ?_ | (apply zL H; (· repeat first | exact .h | apply AtK.t); (· rfl)) | (apply zA H; (· repeat first | exact .h | apply AtK.t)) | (apply zS H; (· repeat first | exact .h | apply AtK.t); (· rfl); (conv => whnf); clear H; intro τ H) | rw [List.length_map]); (refine wX ?_)))
    exact aret (VLe.refl _) (Sub.refl _) ⟨rfl, .inl ⟨by decide, H.tail⟩⟩
  refine abr_false (by simpa using hp) ?_
  (refine wX ?_)
  (repeat ((first | refine zI (by omega) ?_ | refine zE (by omega) (by omega) ?_ | refine zD (by omega) (by omega) ?_ | refine zY (by omega) ?_ | refine zN (by omega) ?_ | refine amin ?_ | refine amax ?_ | refine zU (by omega) ?_ | refine z8 (by omega) ?_ | refine zX (by omega) (by omega) ?_ | refine zR rfl ?_ | refine acellA ?_ | (apply zL H; (· repeat first | exact .h | apply AtK.t); (· rfl)) | (apply zA H; (· repeat first | exact .h | apply AtK.t)) | (apply zS H; (· repeat first | exact .h | apply AtK.t); (· rfl); (conv => whnf); clear H; intro τ H) | rw [List.length_map]); (refine wX ?_)))
  refine acall (aRight p wd τ (by omega)) ?_
  rintro _ σ_ ⟨rfl, e_⟩
  obtain rfl := e_.symm
  refine ⟨?_, Ext.refl _⟩
  (refine wX ?_)
  by_cases hr : amSize p wd > 0
  case neg =>
    rw [if_pos (.inr hr), decide_eq_false hr]
    (refine wX ?_)
    (repeat ((first | refine zI (by omega) ?_ | refine zE (by omega) (by omega) ?_ | refine zD (by omega) (by omega) ?_ | refine zY (by omega) ?_ | refine zN (by omega) ?_ | refine amin ?_ | refine amax ?_ | refine zU (by omega) ?_ | refine z8 (by omega) ?_ | refine zX (by omega) (by omega) ?_ | refine zR rfl ?_ | refine acellA ?_ | (apply zL H; (· repeat first | exact .h | apply AtK.t); (· rfl)) | (apply zA H; (· repeat first | exact .h | apply AtK.t)) | (apply zS H; (· repeat first | exact .h | apply AtK.t); (· rfl); (conv => whnf); clear H; intro τ H) | rw [List.length_map]); (refine wX ?_)))
    exact aret (VLe.refl _) (Sub.refl _) ⟨rfl, .inl ⟨by decide, H.tail⟩⟩
  rw [if_neg (fun h => h.elim hp (fun h => h hr)), decide_eq_true hr]
  (refine wX ?_)
  (repeat ((first | refine zI (by omega) ?_ | refine zE (by omega) (by omega) ?_ | refine zD (by omega) (by omega) ?_ | refine zY (by omega) ?_ | refine zN (by omega) ?_ | refine amin ?_ | refine amax ?_ | refine zU (by omega) ?_ | refine z8 (by omega) ?_ | refine zX (by omega) (by omega) ?_ | refine zR rfl ?_ | refine acellA ?_ | (apply zL H; (· repeat first | exact .h | apply AtK.t); (· rfl)) | (apply zA H; (· repeat first | exact .h | apply AtK.t)) | (apply zS H; (· repeat first | exact .h | apply AtK.t); (· rfl); (conv => whnf); clear H; intro τ H) | rw [List.length_map]); (refine wX ?_)))
  refine hlook H (k := 2) rfl ?_
  cases hf : es.find? fun e => e.1 == p.sn
  case some e =>
    obtain ⟨j, hj⟩ := hes e (List.mem_of_find?_eq_some hf)
    obtain ⟨m, x⟩ := e
    dsimp only at hj
    subst hj
    rw [if_pos (by simp)]
    (refine wX ?_)
    (repeat ((first | refine zI (by omega) ?_ | refine zE (by omega) (by omega) ?_ | refine zD (by omega) (by omega) ?_ | refine zY (by omega) ?_ | refine zN (by omega) ?_ | refine amin ?_ | refine amax ?_ | refine zU (by omega) ?_ | refine z8 (by omega) ?_ | refine zX (by omega) (by omega) ?_ | refine zR rfl ?_ | refine acellA ?_ | (apply zL H; (· repeat first | exact .h | apply AtK.t); (· rfl)) | (apply zA H; (· repeat first | exact .h | apply AtK.t)) | (apply zS H; (· repeat first | exact .h | apply AtK.t); (· rfl); (conv => whnf); clear H; intro τ H) | rw [List.length_map]); (refine wX ?_)))
    exact aret (VLe.refl _) (Sub.refl _) ⟨rfl, .inl ⟨by decide, H.tail⟩⟩
  rw [if_neg (by simp)]
  (refine wX ?_)
  (repeat ((first | refine zI (by omega) ?_ | refine zE (by omega) (by omega) ?_ | refine zD (by omega) (by omega) ?_ | refine zY (by omega) ?_ | refine zN (by omega) ?_ | refine amin ?_ | refine amax ?_ | refine zU (by omega) ?_ | refine z8 (by omega) ?_ | refine zX (by omega) (by omega) ?_ | refine zR rfl ?_ | refine acellA ?_ | (apply zL H; (· repeat first | exact .h | apply AtK.t); (· rfl)) | (apply zA H; (· repeat first | exact .h | apply AtK.t)) | (apply zS H; (· repeat first | exact .h | apply AtK.t); (· rfl); (conv => whnf); clear H; intro τ H) | rw [List.length_map]); (refine wX ?_)))
  apply hmlen H
  · (repeat first | exact .h | apply AtK.t)
  by_cases hm : es.length ≥ 32768
  · rw [if_pos hm]
    (refine wX ?_)
    (repeat ((first | refine zI (by omega) ?_ | refine zE (by omega) (by omega) ?_ | refine zD (by omega) (by omega) ?_ | refine zY (by omega) ?_ | refine zN (by omega) ?_ | refine amin ?_ | refine amax ?_ | refine zU (by omega) ?_ | refine z8 (by omega) ?_ | refine zX (by omega) (by omega) ?_ | refine zR rfl ?_ | refine acellA ?_ | (apply zL H; (· repeat first | exact .h | apply AtK.t); (· rfl)) | (apply zA H; (· repeat first | exact .h | apply AtK.t)) | (apply zS H; (· repeat first | exact .h | apply AtK.t); (· rfl); (conv => whnf); clear H; intro τ H) | rw [List.length_map]); (refine wX ?_)))
    exact aret (VLe.refl _) (Sub.refl _) ⟨rfl, .inl ⟨by decide, H.tail⟩⟩
  rw [if_neg hm]
  (refine wX ?_)
  (repeat ((first | refine zI (by omega) ?_ | refine zE (by omega) (by omega) ?_ | refine zD (by omega) (by omega) ?_ | refine zY (by omega) ?_ | refine zN (by omega) ?_ | refine amin ?_ | refine amax ?_ | refine zU (by omega) ?_ | refine z8 (by omega) ?_ | refine zX (by omega) (by omega) ?_ | refine zR rfl ?_ | refine acellA ?_ | (apply zL H; (· repeat first | exact .h | apply AtK.t); (· rfl)) | (apply zA H; (· repeat first | exact .h | apply AtK.t)) | (apply zS H; (· repeat first | exact .h | apply AtK.t); (· rfl); (conv => whnf); clear H; intro τ H) | rw [List.length_map]); (refine wX ?_)))
  refine acall (sNew [] .full τ (by simp)) ?_
  rintro _ σ2 (⟨h, _⟩ | ⟨_, id, u, rfl, N⟩)
  · exact (h rfl).elim
  refine ⟨?_, N.ext⟩
  replace H := H.join N
  clear N
  replace H : Hp σb (.o id (.cells [spL u []]) :: .o i3 (.cells (amC p)) :: .o ist (.cells (stC wd im)) :: .o im (.map es) :: F) σ2 := H
  (refine wX ?_)
  (repeat ((first | refine zI (by omega) ?_ | refine zE (by omega) (by omega) ?_ | refine zD (by omega) (by omega) ?_ | refine zY (by omega) ?_ | refine zN (by omega) ?_ | refine amin ?_ | refine amax ?_ | refine zU (by omega) ?_ | refine z8 (by omega) ?_ | refine zX (by omega) (by omega) ?_ | refine zR rfl ?_ | refine acellA ?_ | (apply zL H; (· repeat first | exact .h | apply AtK.t); (· rfl)) | (apply zA H; (· repeat first | exact .h | apply AtK.t)) | (apply zS H; (· repeat first | exact .h | apply AtK.t); (· rfl); (conv => whnf); clear H; intro τ H) | rw [List.length_map]); (refine wX ?_)))
  refine acall (stCopied p σ2 hl ht) ?_
  rintro _ σ_ ⟨rfl, e_⟩
  obtain rfl := e_.symm
  refine ⟨?_, Ext.refl _⟩
  (refine wX ?_)
  refine acall (aData p σ2 hl ht) ?_
  rintro _ σ_ ⟨rfl, e_⟩
  obtain rfl := e_.symm
  refine ⟨?_, Ext.refl _⟩
  (refine wX ?_)
  (repeat ((first | refine zI (by omega) ?_ | refine zE (by omega) (by omega) ?_ | refine zD (by omega) (by omega) ?_ | refine zY (by omega) ?_ | refine zN (by omega) ?_ | refine amin ?_ | refine amax ?_ | refine zU (by omega) ?_ | refine z8 (by omega) ?_ | refine zX (by omega) (by omega) ?_ | refine zR rfl ?_ | refine acellA ?_ | (apply zL H; (· repeat first | exact .h | apply AtK.t); (· rfl)) | (apply zA H; (· repeat first | exact .h | apply AtK.t)) | (apply zS H; (· repeat first | exact .h | apply AtK.t); (· rfl); (conv => whnf); clear H; intro τ H) | rw [List.length_map]); (refine wX ?_)))
  refine hnew H rfl ?_
  clear H
  intro ie τ H
  (refine wX ?_)
  apply zMs H
  · (repeat first | exact .h | apply AtK.t)
  · rfl
  (conv => whnf)
  clear H
  intro τ H
  (refine wX ?_)
  rw [mapSet_newS hf] at H
  (repeat ((first | refine zI (by omega) ?_ | refine zE (by omega) (by omega) ?_ | refine zD (by omega) (by omega) ?_ | refine zY (by omega) ?_ | refine zN (by omega) ?_ | refine amin ?_ | refine amax ?_ | refine zU (by omega) ?_ | refine z8 (by omega) ?_ | refine zX (by omega) (by omega) ?_ | refine zR rfl ?_ | refine acellA ?_ | (apply zL H; (· repeat first | exact .h | apply AtK.t); (· rfl)) | (apply zA H; (· repeat first | exact .h | apply AtK.t)) | (apply zS H; (· repeat first | exact .h | apply AtK.t); (· rfl); (conv => whnf); clear H; intro τ H) | rw [List.length_map]); (refine wX ?_)))
  refine aret (VLe.refl _) (Sub.refl _) ⟨rfl, .inr ⟨rfl, ie, id, u, ?_⟩⟩
  exact (H.front (k := 2) rfl).tail.perm (.swap _ _ _)
end
end Go.Proofs.Ytgobbmdbkmjlnaa
/-
  What is kept to be sent again: how many bytes are due.
-/
namespace Go.Proofs.Ytgobbmdbkmjlnaa
set_option linter.unusedVariables false
set_option linter.unusedSimpArgs false
open Go Go.Am

/-- What is kept, of each entry. -/
structure Kept (σ : AHeap) (es : List (Int × AVal)) (dl : Int → List Sp) : Prop where
  at_ : ∀ e ∈ es, ∃ ie p n id c tk, e.2 = .ptr ie 0 ∧ σ ie = some (.cells (enC p n id c)) ∧ σ id = some (.cells [spL tk (dl e.1)]) ∧ SOk (dl e.1)
set_option maxRecDepth 20000 in
theorem stBytes {σ : AHeap} {ist im : Nat} {wd : Int} {es : List (Int × AVal)} {dl : Int → List Sp} (b1 : σ ist = some (.cells (stC wd im))) (b2 : σ im = some (.map es)) (hn : es.length ≤ 100000) (hw : ∀ e ∈ es, inR e.1) (hk : Kept σ es dl) :
    ACalls Try.prog i_sent_Store_Bytes [.ptr ist 0] σ fun v σ' => v = i64v (dueSum dl (es.map (·.1))) ∧ σ' = σ := by
  refine k_sent_Store_Bytes rfl ?_
  have H := Hp.nil σ
  (refine wX ?_)
  refine acall (stNumbers b1 b2 (by omega) hw) ?_
  rintro _ σ_ ⟨rfl, e_⟩
  obtain rfl := e_.symm
  refine ⟨?_, Ext.refl _⟩
  (refine wX ?_)
  obtain ⟨ks, hks⟩ : ∃ ks, ks = sortI (es.map (·.1)) := ⟨_, rfl⟩
  have hp : ks.Perm (es.map (·.1)) := hks ▸ sortI_perm _
  have hl : ks.length = es.length := by rw [hp.length_eq, List.length_map]
  rw [← hks, ← dueSum_perm hp]
  clear hks
  have hall : ∀ k ∈ ks, 0 ≤ cntL (dl k) ∧ cntL (dl k) ≤ 65536 := fun k hk' => by
    obtain ⟨e, he, _, rfl⟩ := find_key (hp.mem_iff.1 hk')
    obtain ⟨_, _, _, _, _, _, _, _, _, h⟩ := hk.at_ e he
    exact cntL_bound h
  (refine wX ?_)
  refine aloop (α := Nat × Int) (fun y => [(s9, i64v y.1), (s3, i64v y.2)]) (fun _ => σ) (fun y => y.1 ≤ ks.length ∧ y.2 = dueSum dl (ks.take y.1) ∧ 0 ≤ y.2 ∧ y.2 ≤ 65536 * (y.1 : Int)) (fun y => ks.length - y.1)
    (0, 0) ⟨Nat.zero_le _, rfl, by omega, by omega⟩ (Sub.refl _) ?_ ?_
  · (refine wX ?_)
    (repeat' first | with_reducible exact EnvLe.refl _ | (refine EnvLe.node ?_ (by first | exact Or.inl rfl | exact Or.inr (Or.inl rfl) | exact Or.inr (Or.inr ⟨nofun, VLe.slice _ _ _⟩)) ?_))
  rintro ⟨i, n⟩ ⟨hi, he, h0, h1⟩
  dsimp only at hi he h0 h1 ⊢
  (refine wX ?_)
  rw [List.length_map]
  by_cases h : i < ks.length
  · (repeat ((first | refine zI (by omega) ?_ | refine zE (by omega) (by omega) ?_ | refine zD (by omega) (by omega) ?_ | refine zY (by omega) ?_ | refine zN (by omega) ?_ | refine amin ?_ | refine amax ?_ | refine zU (by omega) ?_ | refine z8 (by omega) ?_ | refine zX (by omega) (by omega) ?_ | refine zR rfl ?_ | refine acellA ?_ | refine zB H b1 rfl ?_ | refine zC H b1 ?_ | refine zB H b2 rfl ?_ | refine zC H b2 ?_ | (apply zL H; (· repeat first | exact .h | apply AtK.t); (· rfl)) | (apply zA H; (· repeat first | exact .h | apply AtK.t)) | (apply zS H; (· repeat first | exact .h | apply AtK.t); (· rfl); (conv => whnf); clear H; intro τ H) | rw [List.length_map]); (refine wX ?_)))
    refine aget (by omega) (get_ints' h) ?_
    (refine wX ?_)
    refine acell rfl ?_
    (refine wX ?_)
    obtain ⟨e, hem, hf, hek⟩ := find_key (hp.mem_iff.1 (List.getElem_mem h))
    obtain ⟨ie, p, nn, id, c, tk, g1, g2, g3, g4⟩ := hk.at_ e hem
    have hb := hall ks[i] (List.getElem_mem h)
    (repeat ((first | refine zI (by omega) ?_ | refine zE (by omega) (by omega) ?_ | refine zD (by omega) (by omega) ?_ | refine zY (by omega) ?_ | refine zN (by omega) ?_ | refine amin ?_ | refine amax ?_ | refine zU (by omega) ?_ | refine z8 (by omega) ?_ | refine zX (by omega) (by omega) ?_ | refine zR rfl ?_ | refine acellA ?_ | refine zB H b1 rfl ?_ | refine zC H b1 ?_ | refine zB H b2 rfl ?_ | refine zC H b2 ?_ | (apply zL H; (· repeat first | exact .h | apply AtK.t); (· rfl)) | (apply zA H; (· repeat first | exact .h | apply AtK.t)) | (apply zS H; (· repeat first | exact .h | apply AtK.t); (· rfl); (conv => whnf); clear H; intro τ H) | rw [List.length_map]); (refine wX ?_)))
    refine hlookB H b2 ?_
    rw [hf]
    obtain ⟨ek, ev⟩ := e
    dsimp only at hek g1 g3 g4
    subst g1
    (refine wX ?_)
    refine zB H g2 rfl ?_
    (refine wX ?_)
    refine acall (sCount g3 g4.mid g4.mem) ?_
    rintro _ σ_ ⟨rfl, e_⟩
    obtain rfl := e_.symm
    refine ⟨?_, Ext.refl _⟩
    (refine wX ?_)
    rw [hek]
    (repeat ((first | refine zI (by omega) ?_ | refine zE (by omega) (by omega) ?_ | refine zD (by omega) (by omega) ?_ | refine zY (by omega) ?_ | refine zN (by omega) ?_ | refine amin ?_ | refine amax ?_ | refine zU (by omega) ?_ | refine z8 (by omega) ?_ | refine zX (by omega) (by omega) ?_ | refine zR rfl ?_ | refine acellA ?_ | refine zB H b1 rfl ?_ | refine zC H b1 ?_ | refine zB H b2 rfl ?_ | refine zC H b2 ?_ | (apply zL H; (· repeat first | exact .h | apply AtK.t); (· rfl)) | (apply zA H; (· repeat first | exact .h | apply AtK.t)) | (apply zS H; (· repeat first | exact .h | apply AtK.t); (· rfl); (conv => whnf); clear H; intro τ H) | rw [List.length_map]); (refine wX ?_)))
    refine ⟨(i + 1, n + cntL (dl ks[i])), ⟨h, ?_, ?_, ?_⟩, by dsimp only; omega, Sub.refl _, ?_⟩
    · dsimp only; rw [dueSum_take h, he]
    · dsimp only; omega
    · dsimp only; omega
    · (refine wX ?_)
      (repeat' first | with_reducible exact EnvLe.refl _ | (refine EnvLe.node ?_ (by first | exact Or.inl rfl | exact Or.inr (Or.inl rfl) | exact Or.inr (Or.inr ⟨nofun, VLe.slice _ _ _⟩)) ?_))
  · obtain rfl : i = ks.length := by omega
    rw [List.take_length] at he
    (repeat ((first | refine zI (by omega) ?_ | refine zE (by omega) (by omega) ?_ | refine zD (by omega) (by omega) ?_ | refine zY (by omega) ?_ | refine zN (by omega) ?_ | refine amin ?_ | refine amax ?_ | refine zU (by omega) ?_ | refine z8 (by omega) ?_ | refine zX (by omega) (by omega) ?_ | refine zR rfl ?_ | refine acellA ?_ | refine zB H b1 rfl ?_ | refine zC H b1 ?_ | refine zB H b2 rfl ?_ | refine zC H b2 ?_ | (apply zL H; (· repeat first | exact .h | apply AtK.t); (· rfl)) | (apply zA H; (· repeat first | exact .h | apply AtK.t)) | (apply zS H; (· repeat first | exact .h | apply AtK.t); (· rfl); (conv => whnf); clear H; intro τ H) | rw [List.length_map]); (refine wX ?_)))
    exact aret (VLe.refl _) H.sub ⟨by rw [he], rfl⟩
end Go.Proofs.Ytgobbmdbkmjlnaa
/-
  The numbers of what is kept, as a row that goes on being stored into.
-/
namespace Go.Proofs.Ytgobbmdbkmjlnaa
set_option linter.unusedVariables false
set_option linter.unusedSimpArgs false
open Go Go.Am Go.Maps Go.WideElems Go.MapKept
open Go.ChangeShapes Go.WideShapes
open Go.RowKit (Below)

theorem Inv_freshObj {κ : Ghost} {σ : AHeap} {w w' : World} (h : Am.Inv κ σ w) (hb : Below w.heap.size w w') {g : Nat} (hg : w.heap.size ≤ g) {c : Array Value} {ety : TypeId} (hw : w'.heap[g]? = some (.cells c ety (0, 0))) {cs : List AVal} {vs us : List Value} (hcv : c.toList = vs ++ us)
    (hr : RepL κ cs vs) (ho : Ones vs) (hu : Ones us) {id : Nat} (ht : σ id = none ∧ κ.obj id = none ∧ κ.tok id = none) :
    ∃ κ', κ.le κ' ∧ Am.Inv κ' (upd σ id (.cells cs)) w' ∧ κ'.obj id = some g ∧ κ'.size g = some c.size := by
  let κ' : Ghost := { κ with
    size := fun b => if b = g then some c.size else κ.size b
    obj := fun i => if i = id then some g else κ.obj i }
  have hgl : g < w'.heap.size := (Array.getElem?_eq_some_iff.1 hw).1
  have hcell : ∀ b o v, κ.cell b o = some v → b < w.heap.size := fun b o v e => World.block_lt_of_cell? w ⟨b, o, none⟩ (h.cell b o v e).1
  have hsize : ∀ b n, κ.size b = some n → b < w.heap.size := fun b n e => let ⟨c, e, f, k, _⟩ := h.size b n e; (Array.getElem?_eq_some_iff.1 k).1
  have hle : κ.le κ' := by
    refine ⟨rfl, rfl, fun b o v e => e, fun b n e => ?_, fun i b e => ?_, fun _ _ e => e⟩
    · have := hsize b n e
      simp only [κ']; rw [if_neg (by omega)]; exact e
    · simp only [κ']; rw [if_neg]; exact e
      intro k; subst k; rw [ht.2.1] at e; cases e
  refine ⟨κ', hle, ?_, by simp [κ'], by simp [κ']⟩
  refine ⟨h.below.trans (hb.mono h.base), Nat.le_trans h.base hb.size, ?_, ?_, ?_, ?_, ?_, ?_, ?_, ?_⟩
  · intro b o v e
    have := hcell b o v e
    obtain ⟨h1, h2⟩ := h.cell b o v e
    exact ⟨by rw [hb.cell (p := ⟨b, o, none⟩) this]; exact h1, h2⟩
  · intro b n e
    simp only [κ'] at e
    split at e
    · rename_i hbg; subst hbg; cases e; exact ⟨c, _, _, hw, rfl⟩
    · obtain ⟨c1, e1, f1, q1, q2⟩ := h.size b n e
      exact ⟨c1, e1, f1, by rw [hb.block b (hsize b n e)]; exact q1, q2⟩
  · intro i b e
    simp only [κ'] at e
    split at e
    · cases e
      refine ⟨Nat.le_trans h.base hg, hgl, fun _ o => ?_⟩
      cases hx : κ.cell g o with
      | none => rfl
      | some v => have := hcell _ _ _ hx; omega
    · rename_i hne
      obtain ⟨h1, h2, h3⟩ := h.obj i b e
      refine ⟨h1, Nat.lt_of_lt_of_le h2 hb.size, fun hl => h3 ?_⟩
      rw [upd_ne _ _ hne] at hl; exact hl
  · intro i j b li lj hi hj
    simp only [κ'] at hi hj
    split at hi
    · cases hi
      split at hj
      · rename_i a b; rw [a, b]
      · have := (h.obj j _ hj).2.1; omega
    · rename_i ni
      split at hj
      · cases hj; have := (h.obj i _ hi).2.1; omega
      · rename_i nj
        rw [upd_ne _ _ ni] at li; rw [upd_ne _ _ nj] at lj
        exact h.inj i j b li lj hi hj
  · intro i cs' e
    by_cases hid : i = id
    · subst hid
      rw [upd_same] at e; injection e with e; injection e with e; subst e
      exact ⟨_, c, _, vs, us, by simp [κ'], hw, by simp [κ'], hcv, hr.mono hle, ho, hu⟩
    · rw [upd_ne _ _ hid] at e
      obtain ⟨b, c', e', vs, us, k1, k2, k3, k4, k5, k6⟩ := h.cells i cs' e
      have hlt : b < w.heap.size := (Array.getElem?_eq_some_iff.1 k2).1
      exact ⟨b, c', e', vs, us, hle.obj _ _ k1, by rw [hb.block b hlt]; exact k2, hle.size _ _ k3, k4, k5.mono hle, k6⟩
  · intro i es e
    by_cases hid : i = id
    · subst hid; rw [upd_same] at e; cases e
    · rw [upd_ne _ _ hid] at e
      obtain ⟨b, c', clk, k1, k2, k3, k4⟩ := h.map i es e
      have hlt : b < w.heap.size := (Array.getElem?_eq_some_iff.1 k2).1
      exact ⟨b, c', clk, hle.obj _ _ k1, by rw [hb.block b hlt]; exact k2, k3, k4.mono hle⟩
  · intro t' b p e k
    have htt : t' ≠ id := fun k' => by subst k'; rw [upd_same] at e; cases e
    rw [upd_ne _ _ htt] at e
    obtain ⟨h1, ⟨c', e', h2, h2'⟩, h3, h4, h5⟩ := h.tip t' b p e k
    have hlt : b < w.heap.size := (Array.getElem?_eq_some_iff.1 h2).1
    refine ⟨h1, ⟨c', e', by rw [hb.block b hlt]; exact h2, h2'⟩, h3, fun i k' => ?_, fun t'' p' e' k' => ?_⟩
    · simp only [κ'] at k'
      split at k'
      · cases k'; omega
      · exact h4 i k'
    · have h6 : t'' ≠ id := fun k' => by subst k'; rw [upd_same] at e'; cases e'
      rw [upd_ne _ _ h6] at e'
      exact h5 t'' p' e' k'
  · obtain ⟨N, hN⟩ := h.fin
    refine ⟨max N (id + 1), fun n hn => ?_⟩
    have hnt : n ≠ id := by omega
    obtain ⟨h1, h2, h3⟩ := hN n (by omega)
    refine ⟨by rw [upd_ne _ _ hnt]; exact h1, ?_, h3⟩
    simp only [κ']; rw [if_neg hnt]; exact h2
/-- All cells of a slice's own block are of one cell. -/
def OnesRow (w : World) (v : Value) : Prop := ∀ g, v.ownBlock = some g → ∃ cur e, w.heap[g]? = some (.cells cur e (0, 0)) ∧ Ones cur.toList
theorem OnesRow.nil (w : World) (a b : Nat) : OnesRow w (.slice none a b) := fun g h => by cases h
theorem OnesRow.kept {w w' : World} {v : Value} {row : Option Nat} (h : OnesRow w v) (hg : w.grownBy w' row) (hne : v.ownBlock = none ∨ v.ownBlock ≠ row) : OnesRow w' v := by
  intro g hv
  obtain ⟨cur, e, h1, h2⟩ := h g hv
  refine ⟨cur, e, ?_, h2⟩
  rw [hg.block g (Array.getElem?_eq_some_iff.1 h1).1 (by rcases hne with hn | hn; (rw [hv] at hn; cases hn); (rw [hv] at hn; exact hn))]
  exact h1
theorem zeros_ones (k : Nat) : Ones (Builtin.zeroCells (Value.int .i64 0).cells k).toList := by
  intro v hv
  simp [Builtin.zeroCells, Value.cells] at hv
  obtain ⟨i, _, rfl⟩ := hv
  rw [Nat.mod_one i]; rfl
/-- append of one number keeps it so. -/
theorem append_ones {P : Program} {w w' : World} {t ty e : TypeId} {i : TypeInfo} (ht : P.underlying t = some (.slice e)) (hi : P.info? e = some i) (hz : i.zero = some (.int .i64 0)) (hsize : i.size = 1) (hby : i.bytes = 8)
    {base : Nat} {v v' : Value} {n : Nat} {xs : List Value} (hown : w.ownsRow base e 1 v n xs) (hx : Ones xs) {a : Addr} {c : Nat} {x : Int} (hnews : ∀ j u, [Value.int .i64 x][j]? = some u → w.cell? (a.add j) = some u) (hn : n ≤ 1000000)
    (ho : OnesRow w v) (hr : (Builtin.append_ #[t, t] ty #[v, .slice (some a) 1 c]).run P w = .ok v' w') : OnesRow w' v' := by
  have hnl : [Value.int .i64 x].length = 1 * i.size := by rw [hsize]; rfl
  have h1 : ∀ u ∈ [Value.int .i64 x], u.oneCell' = true := fun u hu => by rw [List.mem_singleton.1 hu]; rfl
  have hxo : Ones [Value.int .i64 x] := fun u hu => by rw [List.mem_singleton.1 hu]; rfl
  rcases hown.2 with ⟨rfl, rfl⟩ | ⟨g, cap, cur, rfl, hbg, hg, hnc, hcm, hcs, htake⟩
  · have e1 := run_append_nil (P := P) w t ty e i _ ht hi hz a 1 c _ hnl hnews (by omega) (by omega) (by rw [hby]; decide)
    rw [hr] at e1
    injection e1 with e1 e2
    subst e1; subst e2
    intro g hv
    cases hv
    refine ⟨_, e, heap_alloc_new w.drew _, ?_⟩
    rw [Array.toList_append]
    exact hxo.append (zeros_ones _)
  · by_cases hroom : n + 1 ≤ cap
    · have e1 := run_append_room (P := P) w t ty e i ht hi g n cap cur hg a 1 c _ hnl hnews h1 hroom (by rw [hsize, hcs]; simp; omega)
      rw [hr] at e1
      injection e1 with e1 e2
      subst e1; subst e2
      intro g' hv
      cases hv
      refine ⟨_, e, setRow_heap w g cur _ e _ hg, ?_⟩
      obtain ⟨cur', e', q1, q2⟩ := ho g rfl
      rw [hg] at q1
      cases q1
      exact ((Ones.take q2 _).append hxo).append (Ones.drop q2 _)
    · have e1 := run_append_grow (P := P) w t ty e i _ ht hi hz ⟨g, 0, none⟩ n cap xs (by rw [hsize]; exact hown.1) (hown.cells (g := g) rfl) a 1 c _ hnl hnews (by omega) (by omega) (growslice_fits (by omega) (by rw [hby]; omega))
      rw [hr] at e1
      injection e1 with e1 e2
      subst e1; subst e2
      intro g' hv
      cases hv
      refine ⟨_, e, heap_alloc_new w.drew _, ?_⟩
      rw [Array.toList_append, Array.toList_append]
      exact (hx.append hxo).append (zeros_ones _)
theorem wpList_append_ones {P : Program} {w : World} {ops : Array Oper} {rest : List Oper} {o : Oper} {a : Act} {Q : Exit → Act → World → Prop} (hgd : o.guard = none) (s x : Operand) (t : TypeId)
    (ho : o.op = .call { callee := .builtin .append, args := #[s, x], argTypes := #[t, t] })
    (base : Nat) (e : TypeId) (i : TypeInfo) (ht : P.underlying t = some (.slice e)) (hi : P.info? e = some i) (hz : i.zero = some (.int .i64 0)) (hsize : i.size = 1) (hby : i.bytes = 8)
    (v : Value) (n : Nat) (xs : List Value) (hs : a.eval s = v) (hown : w.ownsRow base e 1 v n xs) (hxs : Ones xs) (hon : OnesRow w v)
    (ad : Addr) (c : Nat) (y : Int) (hx : a.eval x = .slice (some ad) 1 c) (hnews : ∀ j u, [Value.int .i64 y][j]? = some u → w.cell? (ad.add j) = some u) (hn : n ≤ 1000000) (hbase : base ≤ w.heap.size)
    (h : ∀ v' w', w'.ownsRow base e 1 v' (n + 1) (xs ++ [.int .i64 y]) → w.grownBy w' v.ownBlock → OnesRow w' v' → wpList P ops Q rest (a.put o.dst v') w') :
    wpList P ops Q (o :: rest) a w := by
  refine wpList_plain hgd fun K hK => ?_
  obtain ⟨v', w', hr, h2, h3, h4, h5⟩ := run_append_own_at (P := P) w base t o.type e i (.int .i64 0) 1 8 ht hi hz hsize hby rfl (by decide) v n xs hown ad 1 c [.int .i64 y] rfl hnews (fun u hu => by rw [List.mem_singleton.1 hu]; rfl) (by unfold maxLen; omega) (by omega) hbase
  have h6 := append_ones ht hi hz hsize hby hown hxs hnews hn hon hr
  unfold Oper.wp execOp
  simp only [ho, resolve, invoke, builtin, Sem.run_bind, Sem.run_pure, Result.andThen_ok, List.map_toArray, List.map_cons, List.map_nil, hs, hx, hr]
  exact hK _ _ (h v' w' h2 h3 h6)
open Go.Sort in
theorem sorted_ones {w : World} {g n cap k : Nat} {os : Array Obj} (d : List Int) (h : OnesRow w (.slice (some ⟨g, 0, none⟩) k cap)) : OnesRow (grow (putRow (Value.int .i64) (Sort.ahead w n) g 0 d.toArray) os) (.slice (some ⟨g, 0, none⟩) k cap) := by
  intro g' hv
  cases hv
  obtain ⟨cur, e, h1, h2⟩ := h g rfl
  refine ⟨_, e, heap_sortedI _ h1, ?_⟩
  intro v hv
  unfold putCells at hv
  obtain ⟨j, hj⟩ := List.getElem?_of_mem hv
  rw [Array.getElem?_toList, Array.getElem?_mapIdx] at hj
  obtain ⟨x, hx, rfl⟩ := Option.map_eq_some_iff.1 hj
  split
  · rfl
  · exact h2 x (List.mem_of_getElem? (by rw [Array.getElem?_toList]; exact hx))
end Go.Proofs.Ytgobbmdbkmjlnaa
/-
  The numbers of what is kept: the walks of the two functions that tell them.
-/
namespace Go.Proofs.Ytgobbmdbkmjlnaa
set_option linter.unusedVariables false
set_option linter.unusedSimpArgs false
open Go Go.Am Go.Maps Go.WideElems Go.MapKept Go.Shelf
open Go.ChangeShapes Go.WideShapes
open Go.RowKit (Below Hid)
open Go.Sort

set_option maxRecDepth 1000000
set_option maxHeartbeats 3200000

theorem st_walkM (b bm : Nat) (w : World) (c : Array MapEntry) (clk : Nat) (keys : List Int) (c0 : w.cell? ⟨b, 1, none⟩ = some (.map (some bm))) (hb : w.heap[bm]? = some (.map c clk)) (hk : c.toList.map (·.key) = keys.map (Value.int .i64)) (hs : Stamped c clk)
    (hn : keys.length ≤ 1000000) (hw : ∀ x ∈ keys, (Lit.int .i64 x).wf = true) :
    Calls Try.prog 41 #[.pointer (some ⟨b, 0, none⟩)] w fun e w' => ∃ v, e = .returned v ∧ w'.ownsRow w.heap.size 3 1 v keys.length ((sortI keys).map (Value.int .i64)) ∧ Below w.heap.size w w' ∧ OnesRow w' v ∧ (keys = [] → ∃ a, v = .slice a 0 0) := by
  obtain ⟨D, hown, hK, hsz, hnd⟩ := owns_of nu3 (n := 1000000) hb hk hs hn (by decide) hw
  obtain ⟨i0, hi, hz0, hz1, hz2⟩ := info_parts nu_info3
  have hbl : bm < w.heap.size := hown.lt
  have HK : Hid (KeysLeft keys [] (has D)) := hK
  have HN : Hid keys.Nodup := hnd
  have qT : ∀ (w : World) (r : Option Nat), (binOp .neq 85 (.map r) (.map none)).run Try.prog w = .ok (.bool (!r.isNone)) w := fun w r => Go.run_neq_map_nil w _ _ _ r nu85
  clear hK hnd hb hk hs
  go_enter Try.func41, Try.ntmps41
  go_wp2_with (first
    | (at_range; refine wpList_range_own _ rfl _ 85 rfl 3 123 nu_law3 nu85 _ bm 1000000 _ rfl hown ?_; intro w0 hrg0 hg0 hs0)
    | go_in)
  go_frame
  go_loopw [3] (fun v wr => ∃ (left : Lit → Bool) (cnt : Nat) (ks : List Int), wr.ranges Try.prog 3 anyR bm w.heap.size 1000000 D left cnt ∧
      wr.ownsRow w.heap.size 3 1 v ks.length (ks.map (Value.int .i64)) ∧ ks.length + cnt ≤ 1000000 ∧ Hid (KeysLeft keys ks left) ∧ Hid (ks = [] → v = .slice none 0 0) ∧ Hid (Below w.heap.size w wr) ∧ Hid (OnesRow wr v))
    (fun _ wr => wr.rangeLeft bm w.heap.size)
  case atStart => exact ⟨_, _, [], hrg0, World.ownsRow_nil _ _ _ _, by rw [hsz]; simpa using hn, HK, (fun _ => rfl), (Below.refl _ _).grown hg0 (Nat.le_refl _) (fun j hj => by cases hj), OnesRow.nil _ _ _⟩
  case round =>
    obtain ⟨left, cnt, ks, hrg, hrow, hlen, HC, HE, HB, HO⟩ := hrel
    have hsb := HB.out.size
    go_wp2_with (first
      | (at_next; refine wpList_next_ranges _ rfl _ rfl 3 nu_law3 anyR (Value.int .i64) id (fun key kl hk => by obtain ⟨x, hx, _⟩ := keyOf_int_inv nu3 hk; exact ⟨x, hx⟩) (fun v y hv => ⟨v, rfl⟩) bm w.heap.size 1000000 _ _ _ rfl hrg ?_ ?_)
      | go_in)
    · intro hc0 hl0
      have HP : Hid (ks.Perm keys) := HC.out.perm HN.out hl0
      rcases hrow.2 with ⟨hnil, hk0⟩ | ⟨g, cap, cur, hv, hbase, hbk, h1, h2, h3, h4⟩
      · subst hnil
        obtain rfl : ks = [] := List.eq_nil_of_length_eq_zero hk0
        have hke : keys = [] := List.eq_nil_of_length_eq_zero HP.out.length_eq.symm
        subst hke
        clear hrg
        go_wp2_with (go_at_call 72; refine (nu_sort_none none 0 _).mono ?_; rintro e w' ⟨rfl, rfl⟩)
        go_ret
        exact ⟨_, rfl, (by rw [show sortI [] = [] by simp [sortI]]; exact hrow), HB.out, OnesRow.nil _ _ _, (by first | exact fun _ => ⟨_, rfl⟩ | exact ⟨_, rfl⟩)⟩
      · subst hv
        have hH : Go.Sort.Holds (Value.int .i64) wr g 0 ks.toArray := holds_of_blockI hbk (by simpa using h4)
        have hgl : g < wr.heap.size := (Array.getElem?_eq_some_iff.1 hbk).1
        have hsrt := nu_sort g 0 cap ks wr hH hgl (by omega)
        clear hrg hH
        go_wp2_with (go_at_call 72; refine hsrt.mono ?_; rintro e w' ⟨rfl, nn, os, rfl⟩)
        go_ret
        have HZ : ks = [] → False := fun h0 => by have := HE.out h0; cases this
        have HZ : ks = [] → ∃ a, Value.slice (some ⟨g, 0, none⟩) ks.length cap = .slice a 0 0 := fun h0 => (HZ h0).elim
        have HZ : keys = [] → ∃ a, Value.slice (some ⟨g, 0, none⟩) ks.length cap = .slice a 0 0 := fun h0 => HZ (List.eq_nil_of_length_eq_zero (by rw [HP.out.length_eq, h0]; rfl))
        have hl2 : (sortI ks).length = ks.length := List.length_mergeSort ks
        have hg := grownBy_sortedI (w := wr) (g := g) (n := nn) (os := os) (sortI ks).toArray
        have hro := ownsRow_sortedI (n := nn) (os := os) (ts := sortI ks) hl2 hbase hbk h1 h2 h3
        rw [← sortI_eq HP.out, ← HP.out.length_eq]
        exact ⟨_, rfl, hro, HB.out.grown hg hsb (fun j hj => by cases hj; exact hbase), sorted_ones (sortI ks) HO.out, HZ⟩
    · intro x cv kl yd yp w2 cnt2 hkey hlk hv hv2 hat hrg2 hlt hg2 hs2 hen
      obtain ⟨x', ex, rfl, hwx⟩ := keyOf_int_inv nu3 hkey
      injection ex with _ ex
      subst ex
      have hrow2 := hrow.kept hg2 (Or.inr (row_ne_iter hrow hrg).symm)
      have hbl2 : w.heap.size ≤ w2.heap.size := by omega
      have hm0 : wr.rangeLeft bm w.heap.size = cnt := hrg.left_eq
      have HB2 : Hid (Below w.heap.size w w2) := HB.out.grown hg2 hsb (fun j hj => by cases hj; exact Nat.le_refl _)
      have HO2 : Hid (OnesRow w2 u3) := HO.out.kept hg2 (Or.inr (row_ne_iter hrow hrg).symm)
      clear hs2 hsb hrg hrow HB hv hv2 hat
      go_wp2_with (first
        | (at_builtin; refine wpList_append_ones rfl _ _ 51 rfl w.heap.size 3 i0 nu51 hi hz0 hz1 hz2 _ _ _ rfl (hrow2.alloc _) (ints_ones ks) (HO2.out.kept (World.grownBy_alloc w2 (.cells #[.int .i64 x] 3) none) (by cases u3.ownBlock <;> simp)) ⟨w2.heap.size, 0, none⟩ 1 x rfl (cell_one_new _ _ _) (by omega) (by simp; omega) ?_; intro v' w3 hown' hg3 hones3; go_frame)
        | go_in)
      have hrowA := hrow2.alloc (.cells #[.int .i64 x] 3)
      have hrgA := hrg2.alloc (.cells #[.int .i64 x] 3)
      replace hg3 : (w2.alloc (.cells #[.int .i64 x] 3)).grownBy w3 u3.ownBlock := hg3
      have hrg3 := hrgA.kept hg3 (row_ne_low hrowA hbl) (row_ne_iter hrowA hrgA)
      have HB3 : Hid (Below w.heap.size w w3) := (HB2.out.alloc hbl2 _).grown hg3 (by simp; omega) (fun j hj => (hrowA.lt j hj).1)
      have HO3 : Hid (OnesRow w3 v') := hones3
      clear hones3 HO HO2 hrowA hrgA hg3 hrg2 hrow2 HB2
      go_wp2
      go_roundw
      case rel => exact ⟨_, cnt2, hrg3, ks ++ [x], by simpa using hown', by simp; omega, HC.out.step hlk, (fun h => by simp at h), HB3, (by first | exact HO3 | exact trivial)⟩
      case measure => rw [hrg3.left_eq]; exact hlt
end Go.Proofs.Ytgobbmdbkmjlnaa
/-
  The numbers of what is kept, as a row that goes on being stored into: the contract.
-/
namespace Go.Proofs.Ytgobbmdbkmjlnaa
set_option linter.unusedVariables false
set_option linter.unusedSimpArgs false
open Go Go.Am Go.Maps Go.MapKept
open Go.RowKit (Below)

/-- A row of numbers that is stored into, or none yet. -/
inductive RI : AVal → List Int → List HE → Prop
  | nil : RI (.slice 1 [] .full) [] []
  | row (r : Nat) (l : List Int) : l ≠ [] → RI (.ms r 1 0 l.length) l [.o r (.cells (l.map i64v))]
theorem ints_reps1 (κ : Ghost) : ∀ (l : List Int), RepL κ (l.map i64v) (l.map (Value.int .i64))
  | [] => .nil
  | x :: l => .cons (.v rfl) (ints_reps1 κ l)
theorem numsM_of {κ : Ghost} {σ : AHeap} {w w' : World} (hI : Am.Inv κ σ w) {v : Value} {ks : List Int} (hrow : w'.ownsRow w.heap.size 3 1 v ks.length (ks.map (Value.int .i64))) (hB : Below w.heap.size w w') (hO : OnesRow w' v) (hz : ks = [] → ∃ a, v = .slice a 0 0) :
    ∃ κ' σ' x E, κ.le κ' ∧ Am.Inv κ' σ' w' ∧ RepV κ' x v ∧ RI x ks E ∧ Hp σ E σ' := by
  by_cases hk : ks = []
  · subst hk
    obtain ⟨a, rfl⟩ := hz rfl
    obtain ⟨κ', k1, k2, _⟩ := Inv_fresh hI hB (Nat.le_refl _) (vs := []) (by intro v hv; simp at hv) (by intro i v hv; simp at hv)
    exact ⟨κ', σ, _, [], k1, k2, .nil, .nil, Hp.nil σ⟩
  · rcases hrow.2 with ⟨rfl, h0⟩ | ⟨g, cap, cur, rfl, hbase, hb, h1, h2, h3, h4⟩
    · exact absurd (List.eq_nil_of_length_eq_zero h0) hk
    · obtain ⟨id, hid⟩ := hI.fresh
      obtain ⟨cur', e', q1, q2⟩ := hO g rfl
      rw [hb] at q1; cases q1
      rw [Nat.mul_one] at h4 h3
      obtain ⟨κ', k1, k2, k3, k4⟩ := Inv_freshObj hI hB hbase hb (cs := ks.map i64v) (vs := ks.map (Value.int .i64)) (us := cur.toList.drop ks.length) (by rw [← h4, List.take_append_drop]) (ints_reps1 κ ks) (ints_ones ks) (Ones.drop q2 _) hid
      exact ⟨κ', _, _, _, k1, k2, .ms k3 k4 h1 (by omega), .row id ks hk, (Hp.nil σ).cons_o hid.1 _⟩
theorem stNumbersM {σ : AHeap} {ist im : Nat} {wd : Int} {es : List (Int × AVal)} (b1 : σ ist = some (.cells [i64v wd, .map im])) (b2 : σ im = some (.map es)) (hn : es.length ≤ 1000000) (hw : ∀ e ∈ es, inR e.1) :
    ACalls Try.prog i_sent_Store_Numbers [.ptr ist 0] σ fun v σ' => ∃ E, RI v (sortI (es.map (·.1))) E ∧ Hp σ E σ' := by
  rw [ACalls_def]
  intro κ w cargs hI hr
  cases hr with | cons h1 hr =>
  cases hr
  obtain ⟨b, rfl, hb⟩ := h1.ptr_inv
  obtain ⟨b', c, ety, vs, us, k1, k2, k3, k4, k5, k6, k7⟩ := hI.cells ist _ b1
  rw [hb] at k1; cases k1
  cases k5 with | cons r1 k5 =>
  cases k5 with | cons r2 k5 =>
  cases k5
  obtain ⟨bm, rfl, hbm⟩ := r2.map_inv
  obtain ⟨b'', c', clk, m1, m2, m3, m4⟩ := hI.map im es b2
  rw [hbm] at m1; cases m1
  have c0 : w.cell? ⟨b, 1, none⟩ = some (.map (some bm)) := by
    unfold World.cell?
    simp only [k2, Option.isSome_none, Bool.false_eq_true, if_false]
    rw [← Array.getElem?_toList, k4]; rfl
  refine (st_walkM b bm w c' clk (es.map (·.1)) c0 m2 (by rw [m3.1, List.map_map]; rfl) m3.2 (by simpa using hn) (fun x hx => by obtain ⟨e, he, rfl⟩ := List.mem_map.1 hx; exact hw e he)).mono ?_
  rintro e w' ⟨v, rfl, hrow, hB, hO, hz⟩
  have hl : (sortI (es.map (·.1))).length = (es.map (·.1)).length := List.length_mergeSort _
  rw [← hl] at hrow
  obtain ⟨κ', σ', x, E, a1, a2, a3, a4, a5⟩ := numsM_of hI hrow hB hO (fun h0 => hz (by
    have h1 := hl
    rw [h0] at h1
    exact List.eq_nil_of_length_eq_zero h1.symm))
  exact ⟨v, κ', σ', x, rfl, a1, a2, a3, E, a4, a5⟩
end Go.Proofs.Ytgobbmdbkmjlnaa
/-
  Rows that are stored into, anywhere in a list.
-/
namespace Go.Proofs.Ytgobbmdbkmjlnaa
set_option linter.unusedVariables false
set_option linter.unusedSimpArgs false
open Go Go.Am

section ops
variable {σb σ : AHeap} {L : List HE}
theorem row_set (H : Hp σb L σ) {xs : List AVal} {k r q : Nat} {y : AVal} {K : AHeap → Prop} (hk : AtK L k (.o r (.cells xs))) (h : q < xs.length) (hy : y.isCell = true)
    (hK : setLK L k (.o r (.cells (xs.set q y))) fun L' => ∀ τ', Hp σb L' τ' → K τ') : AStore σ r (0 + ((q : Nat) : Int).toNat * 1) [y] K := by
  rw [Int.toNat_natCast, Nat.mul_one, Nat.zero_add]
  refine astore (H.get hk.get) (by show q + 1 ≤ _; omega) (by show (y.isCell && true) = true; rw [hy]; rfl) (l := xs.set q y) ?_ ((setLK_spec hK).2 _ (H.set hk.get _))
  unfold splice
  rw [List.set_eq_take_append_cons_drop, if_pos h, List.append_assoc]; rfl
end ops
end Go.Proofs.Ytgobbmdbkmjlnaa
/-
  What is kept to be sent again: the numbers of which something is due.
-/
namespace Go.Proofs.Ytgobbmdbkmjlnaa
set_option linter.unusedVariables false
set_option linter.unusedSimpArgs false
set_option maxRecDepth 20000
open Go Go.Am

theorem Kept.sub {σ τ : AHeap} {es : List (Int × AVal)} {dl : Int → List Sp} (h : Kept σ es dl) (s : Sub τ σ) : Kept τ es dl := ⟨fun e he => by
  obtain ⟨ie, p, n, id, c, tk, g1, g2, g3, g4⟩ := h.at_ e he
  exact ⟨ie, p, n, id, c, tk, g1, s _ _ g2, s _ _ g3, g4⟩⟩
/-- Is nothing due? -/
def noDue (dl : Int → List Sp) (k : Int) : Bool := decide (cntL (dl k) = 0)
section
variable {σ τ : AHeap} {ist im i1 r : Nat} {wd : Int} {es : List (Int × AVal)} {dl : Int → List Sp} {F : List HE} {ks : List Int}
theorem stDues1 (b0 : σ i1 = some (.cells [.ptr ist 0])) (b1 : σ ist = some (.cells (stC wd im))) (b2 : σ im = some (.map es)) (hk : Kept σ es dl) {k : Int} (hm : k ∈ es.map (·.1)) :
    ACalls Try.prog i_sent_Store_Dues_1 [i64v k, .ptr i1 0] σ fun v σ' => v = boolv (noDue dl k) ∧ σ' = σ := by
  refine k_sent_Store_Dues_1 rfl ?_
  have H := Hp.nil σ
  obtain ⟨e, hem, hf, hek⟩ := find_key hm
  obtain ⟨ie, p, nn, id, c, tk, g1, g2, g3, g4⟩ := hk.at_ e hem
  (refine wX ?_)
  refine zB H b0 rfl ?_
  (refine wX ?_)
  (repeat ((first | refine zI (by omega) ?_ | refine zE (by omega) (by omega) ?_ | refine zD (by omega) (by omega) ?_ | refine zY (by omega) ?_ | refine zN (by omega) ?_ | refine amin ?_ | refine amax ?_ | refine zU (by omega) ?_ | refine z8 (by omega) ?_ | refine zX (by omega) (by omega) ?_ | refine zR rfl ?_ | refine acellA ?_ | refine zB H b1 rfl ?_ | refine zC H b1 ?_ | refine zB H b2 rfl ?_ | refine zC H b2 ?_ | (apply zL H; (· repeat first | exact .h | apply AtK.t); (· rfl)) | (apply zA H; (· repeat first | exact .h | apply AtK.t)) | (apply zS H; (· repeat first | exact .h | apply AtK.t); (· rfl); (conv => whnf); clear H; intro τ H) | rw [List.length_map]); (refine wX ?_)))
  refine hlookB H b2 ?_
  rw [hf]
  obtain ⟨ek, ev⟩ := e
  dsimp only at hek g1 g3 g4
  subst g1
  (refine wX ?_)
  refine zB H g2 rfl ?_
  (refine wX ?_)
  refine acall (sCount g3 g4.mid g4.mem) ?_
  rintro _ σ_ ⟨rfl, e_⟩
  obtain rfl := e_.symm
  refine ⟨?_, Ext.refl _⟩
  (refine wX ?_)
  rw [hek]
  (repeat ((first | refine zI (by omega) ?_ | refine zE (by omega) (by omega) ?_ | refine zD (by omega) (by omega) ?_ | refine zY (by omega) ?_ | refine zN (by omega) ?_ | refine amin ?_ | refine amax ?_ | refine zU (by omega) ?_ | refine z8 (by omega) ?_ | refine zX (by omega) (by omega) ?_ | refine zR rfl ?_ | refine acellA ?_ | refine zB H b1 rfl ?_ | refine zC H b1 ?_ | refine zB H b2 rfl ?_ | refine zC H b2 ?_ | (apply zL H; (· repeat first | exact .h | apply AtK.t); (· rfl)) | (apply zA H; (· repeat first | exact .h | apply AtK.t)) | (apply zS H; (· repeat first | exact .h | apply AtK.t); (· rfl); (conv => whnf); clear H; intro τ H) | rw [List.length_map]); (refine wX ?_)))
  exact aret (VLe.refl _) H.sub ⟨rfl, rfl⟩
def keepI (dl : Int → List Sp) (ks : List Int) : List Int := ks.filter fun k => !noDue dl k
theorem keepI_snoc {ks : List Int} {j : Nat} (h : j < ks.length) : keepI dl (ks.take (j + 1)) = keepI dl (ks.take j) ++ (if noDue dl ks[j] = true then [] else [ks[j]]) := by
  unfold keepI
  rw [List.take_add_one, List.getElem?_eq_getElem h, Option.toList_some, List.filter_append]
  congr 1
  by_cases hq : noDue dl ks[j] = true
  · rw [if_pos hq]; simp [hq]
  · rw [if_neg hq]; simp [hq]
theorem get_i64 {l : List Int} {i : Nat} (h : i < l.length) : (l.map i64v)[0 + ((i : Nat) : Int).toNat * 1]? = some (i64v l[i]) := by
  rw [Int.toNat_natCast, Nat.mul_one, Nat.zero_add, List.getElem?_map, List.getElem?_eq_getElem h]; rfl
theorem ixNil (fv : AVal) (σ : AHeap) : ACalls Try.prog i_slices_IndexFunc_int_int [.slice 1 [] .full, fv] σ fun v σ' => v = i64v (-1) ∧ σ' = σ := by
  refine k_slices_IndexFunc_int_int rfl ?_
  have H := Hp.nil σ
  (refine wX ?_)
  refine aloop (α := Unit) (fun _ => [(s8, i64v 0)]) (fun _ => σ) (fun _ => True) (fun _ => 0) () trivial (Sub.refl _) ?_ ?_
  · (refine wX ?_)
    (repeat' first | with_reducible exact EnvLe.refl _ | (refine EnvLe.node ?_ (by first | exact Or.inl rfl | exact Or.inr (Or.inl rfl) | exact Or.inr (Or.inr ⟨nofun, VLe.slice _ _ _⟩)) ?_))
  rintro _ _
  (refine wX ?_)
  (repeat ((first | refine zI (by omega) ?_ | refine zE (by omega) (by omega) ?_ | refine zD (by omega) (by omega) ?_ | refine zY (by omega) ?_ | refine zN (by omega) ?_ | refine amin ?_ | refine amax ?_ | refine zU (by omega) ?_ | refine z8 (by omega) ?_ | refine zX (by omega) (by omega) ?_ | refine zR rfl ?_ | refine acellA ?_ | (apply zL H; (· repeat first | exact .h | apply AtK.t); (· rfl)) | (apply zA H; (· repeat first | exact .h | apply AtK.t)) | (apply zS H; (· repeat first | exact .h | apply AtK.t); (· rfl); (conv => whnf); clear H; intro τ H) | rw [List.length_map]); (refine wX ?_)))
  exact aret (VLe.refl _) H.sub ⟨rfl, rfl⟩
theorem stIx (H : Hp σ (.o r (.cells (ks.map i64v)) :: .o i1 (.cells [.ptr ist 0]) :: F) τ) (b1 : σ ist = some (.cells (stC wd im))) (b2 : σ im = some (.map es)) (hk : Kept σ es dl) (hm : ∀ k ∈ ks, k ∈ es.map (·.1)) (hl : ks.length ≤ 1000000) :
    ACalls Try.prog i_slices_IndexFunc_int_int [.ms r 1 0 ks.length, .func i_sent_Store_Dues_1 [] [.ptr i1 0]] τ fun v σ' => ((v = i64v (-1) ∧ keepI dl ks = ks) ∨ ∃ i : Nat, ∃ h : i < ks.length, v = i64v i ∧ keepI dl (ks.take i) = ks.take i ∧ noDue dl ks[i] = true) ∧ σ' = τ := by
  refine k_slices_IndexFunc_int_int rfl ?_
  (refine wX ?_)
  refine aloop (α := Nat) (fun i => [(s8, i64v i)]) (fun _ => τ) (fun i => i ≤ ks.length ∧ keepI dl (ks.take i) = ks.take i) (fun i => ks.length - i) 0 ⟨Nat.zero_le _, rfl⟩ (Sub.refl _) ?_ ?_
  · (refine wX ?_)
    (repeat' first | with_reducible exact EnvLe.refl _ | (refine EnvLe.node ?_ (by first | exact Or.inl rfl | exact Or.inr (Or.inl rfl) | exact Or.inr (Or.inr ⟨nofun, VLe.slice _ _ _⟩)) ?_))
  rintro i ⟨hi, hw⟩
  (refine wX ?_)
  by_cases h : i < ks.length
  · (repeat ((first | refine zI (by omega) ?_ | refine zE (by omega) (by omega) ?_ | refine zD (by omega) (by omega) ?_ | refine zY (by omega) ?_ | refine zN (by omega) ?_ | refine amin ?_ | refine amax ?_ | refine zU (by omega) ?_ | refine z8 (by omega) ?_ | refine zX (by omega) (by omega) ?_ | refine zR rfl ?_ | refine acellA ?_ | refine zB H b1 rfl ?_ | refine zC H b1 ?_ | refine zB H b2 rfl ?_ | refine zC H b2 ?_ | (apply zL H; (· repeat first | exact .h | apply AtK.t); (· rfl)) | (apply zA H; (· repeat first | exact .h | apply AtK.t)) | (apply zS H; (· repeat first | exact .h | apply AtK.t); (· rfl); (conv => whnf); clear H; intro τ H) | rw [List.length_map]); (refine wX ?_)))
    refine zL H .h (get_i64 h) ?_
    (refine wX ?_)
    refine ⟨rfl, ?_⟩
    (refine wX ?_)
    refine acall (stDues1 (H.get (k := 1) rfl) (H.sub _ _ b1) (H.sub _ _ b2) (hk.sub H.sub) (hm _ (List.getElem_mem h))) ?_
    rintro _ σ_ ⟨rfl, e_⟩
    obtain rfl := e_.symm
    (refine wX ?_)
    have e := keepI_snoc (dl := dl) h
    rcases (show noDue dl ks[i] = false ∨ noDue dl ks[i] = true by cases noDue dl ks[i] <;> simp) with hq | hq
    · rw [hq]
      rw [hq, if_neg (by simp), hw] at e
      (refine wX ?_)
      (repeat ((first | refine zI (by omega) ?_ | refine zE (by omega) (by omega) ?_ | refine zD (by omega) (by omega) ?_ | refine zY (by omega) ?_ | refine zN (by omega) ?_ | refine amin ?_ | refine amax ?_ | refine zU (by omega) ?_ | refine z8 (by omega) ?_ | refine zX (by omega) (by omega) ?_ | refine zR rfl ?_ | refine acellA ?_ | refine zB H b1 rfl ?_ | refine zC H b1 ?_ | refine zB H b2 rfl ?_ | refine zC H b2 ?_ | (apply zL H; (· repeat first | exact .h | apply AtK.t); (· rfl)) | (apply zA H; (· repeat first | exact .h | apply AtK.t)) | (apply zS H; (· repeat first | exact .h | apply AtK.t); (· rfl); (conv => whnf); clear H; intro τ H) | rw [List.length_map]); (refine wX ?_)))
      refine ⟨i + 1, ⟨h, by rw [e, List.take_add_one, List.getElem?_eq_getElem h]; rfl⟩, by omega, Sub.refl _, ?_⟩
      (refine wX ?_)
      (repeat' first | with_reducible exact EnvLe.refl _ | (refine EnvLe.node ?_ (by first | exact Or.inl rfl | exact Or.inr (Or.inl rfl) | exact Or.inr (Or.inr ⟨nofun, VLe.slice _ _ _⟩)) ?_))
    · rw [hq]
      (refine wX ?_)
      (repeat ((first | refine zI (by omega) ?_ | refine zE (by omega) (by omega) ?_ | refine zD (by omega) (by omega) ?_ | refine zY (by omega) ?_ | refine zN (by omega) ?_ | refine amin ?_ | refine amax ?_ | refine zU (by omega) ?_ | refine z8 (by omega) ?_ | refine zX (by omega) (by omega) ?_ | refine zR rfl ?_ | refine acellA ?_ | refine zB H b1 rfl ?_ | refine zC H b1 ?_ | refine zB H b2 rfl ?_ | refine zC H b2 ?_ | (apply zL H; (· repeat first | exact .h | apply AtK.t); (· rfl)) | (apply zA H; (· repeat first | exact .h | apply AtK.t)) | (apply zS H; (· repeat first | exact .h | apply AtK.t); (· rfl); (conv => whnf); clear H; intro τ H) | rw [List.length_map]); (refine wX ?_)))
      exact aret (VLe.refl _) (Sub.refl _) ⟨.inr ⟨i, h, rfl, hw, hq⟩, rfl⟩
  · obtain rfl : i = ks.length := by omega
    rw [List.take_length] at hw
    (repeat ((first | refine zI (by omega) ?_ | refine zE (by omega) (by omega) ?_ | refine zD (by omega) (by omega) ?_ | refine zY (by omega) ?_ | refine zN (by omega) ?_ | refine amin ?_ | refine amax ?_ | refine zU (by omega) ?_ | refine z8 (by omega) ?_ | refine zX (by omega) (by omega) ?_ | refine zR rfl ?_ | refine acellA ?_ | refine zB H b1 rfl ?_ | refine zC H b1 ?_ | refine zB H b2 rfl ?_ | refine zC H b2 ?_ | (apply zL H; (· repeat first | exact .h | apply AtK.t); (· rfl)) | (apply zA H; (· repeat first | exact .h | apply AtK.t)) | (apply zS H; (· repeat first | exact .h | apply AtK.t); (· rfl); (conv => whnf); clear H; intro τ H) | rw [List.length_map]); (refine wX ?_)))
    exact aret (VLe.refl _) (Sub.refl _) ⟨.inl ⟨rfl, hw⟩, rfl⟩
/-- The beginning of a row, or none. -/
def Beg (σ : AHeap) (v : AVal) (L : List Int) : Prop := (∃ t, v = .slice 1 [] t ∧ L = []) ∨ ∃ (r : Nat) (xs : List Int), v = .ms r 1 0 L.length ∧ σ r = some (.cells (xs.map i64v)) ∧ xs.take L.length = L
set_option maxHeartbeats 4000000 in
theorem stDel (H : Hp σ (.o r (.cells (ks.map i64v)) :: .o i1 (.cells [.ptr ist 0]) :: F) τ) (b1 : σ ist = some (.cells (stC wd im))) (b2 : σ im = some (.map es)) (hk : Kept σ es dl) (hm : ∀ k ∈ ks, k ∈ es.map (·.1)) (hl : ks.length ≤ 1000000) :
    ACalls Try.prog i_slices_DeleteFunc_int_int [.ms r 1 0 ks.length, .func i_sent_Store_Dues_1 [] [.ptr i1 0]] τ fun v σ' => Beg σ' v (keepI dl ks) ∧ ∃ xs : List Int, Hp σ (.o r (.cells (xs.map i64v)) :: .o i1 (.cells [.ptr ist 0]) :: F) σ' := by
  refine k_slices_DeleteFunc_int_int rfl ?_
  (refine wX ?_)
  refine acall (stIx H b1 b2 hk hm hl) ?_
  rintro _ σ_ ⟨h, e_⟩
  obtain rfl := e_.symm
  refine ⟨?_, Ext.refl _⟩
  rcases h with ⟨rfl, hall⟩ | ⟨i, hi, rfl, hw, hq⟩
  · (refine wX ?_)
    (repeat ((first | refine zI (by omega) ?_ | refine zE (by omega) (by omega) ?_ | refine zD (by omega) (by omega) ?_ | refine zY (by omega) ?_ | refine zN (by omega) ?_ | refine amin ?_ | refine amax ?_ | refine zU (by omega) ?_ | refine z8 (by omega) ?_ | refine zX (by omega) (by omega) ?_ | refine zR rfl ?_ | refine acellA ?_ | refine zB H b1 rfl ?_ | refine zC H b1 ?_ | refine zB H b2 rfl ?_ | refine zC H b2 ?_ | (apply zL H; (· repeat first | exact .h | apply AtK.t); (· rfl)) | (apply zA H; (· repeat first | exact .h | apply AtK.t)) | (apply zS H; (· repeat first | exact .h | apply AtK.t); (· rfl); (conv => whnf); clear H; intro τ H) | rw [List.length_map]); (refine wX ?_)))
    exact aret (VLe.refl _) (Sub.refl _) ⟨.inr ⟨r, ks, by rw [hall], H.get (k := 0) rfl, by rw [hall, List.take_length]⟩, ks, H⟩
  (refine wX ?_)
  (repeat ((first | refine zI (by omega) ?_ | refine zE (by omega) (by omega) ?_ | refine zD (by omega) (by omega) ?_ | refine zY (by omega) ?_ | refine zN (by omega) ?_ | refine amin ?_ | refine amax ?_ | refine zU (by omega) ?_ | refine z8 (by omega) ?_ | refine zX (by omega) (by omega) ?_ | refine zR rfl ?_ | refine acellA ?_ | refine zB H b1 rfl ?_ | refine zC H b1 ?_ | refine zB H b2 rfl ?_ | refine zC H b2 ?_ | (apply zL H; (· repeat first | exact .h | apply AtK.t); (· rfl)) | (apply zA H; (· repeat first | exact .h | apply AtK.t)) | (apply zS H; (· repeat first | exact .h | apply AtK.t); (· rfl); (conv => whnf); clear H; intro τ H) | rw [List.length_map]); (refine wX ?_)))
  have hk1 : keepI dl (ks.take (i + 1)) = ks.take i := by rw [keepI_snoc hi, hw, if_pos hq, List.append_nil]
  refine aloop (α := Nat × List Int × AHeap) (fun y => [(s6, i64v y.1), (s5, i64v (keepI dl (ks.take y.1)).length)]) (fun y => y.2.2)
    (fun y => y.1 ≤ ks.length ∧ (keepI dl (ks.take y.1)).length < y.1 ∧ y.2.1.length = ks.length ∧ y.2.1.take (keepI dl (ks.take y.1)).length = keepI dl (ks.take y.1) ∧ y.2.1.drop y.1 = ks.drop y.1 ∧ Hp σ (.o r (.cells (y.2.1.map i64v)) :: .o i1 (.cells [.ptr ist 0]) :: F) y.2.2) (fun y => ks.length - y.1)
    (i + 1, ks, τ) ⟨hi, by rw [hk1, List.length_take]; dsimp only; omega, rfl, by rw [hk1, List.length_take, Nat.min_eq_left (by omega)], rfl, H⟩ (Sub.refl _) ?_ ?_
  · rw [show ((i + 1 : Nat) : Int) = (i : Int) + 1 by omega]
    (refine wX ?_)
    rw [hk1, List.length_take, Nat.min_eq_left (by omega)]
    (repeat' first | with_reducible exact EnvLe.refl _ | (refine EnvLe.node ?_ (by first | exact Or.inl rfl | exact Or.inr (Or.inl rfl) | exact Or.inr (Or.inr ⟨nofun, VLe.slice _ _ _⟩)) ?_))
  clear H
  rintro ⟨j, xs, τ⟩ ⟨hj, hjl, hxl, hxt, hxd, H⟩
  dsimp only at hj hjl hxl hxt hxd H ⊢
  (refine wX ?_)
  (repeat ((first | refine zI (by omega) ?_ | refine zE (by omega) (by omega) ?_ | refine zD (by omega) (by omega) ?_ | refine zY (by omega) ?_ | refine zN (by omega) ?_ | refine amin ?_ | refine amax ?_ | refine zU (by omega) ?_ | refine z8 (by omega) ?_ | refine zX (by omega) (by omega) ?_ | refine zR rfl ?_ | refine acellA ?_ | refine zB H b1 rfl ?_ | refine zC H b1 ?_ | refine zB H b2 rfl ?_ | refine zC H b2 ?_ | (apply zL H; (· repeat first | exact .h | apply AtK.t); (· rfl)) | (apply zA H; (· repeat first | exact .h | apply AtK.t)) | (apply zS H; (· repeat first | exact .h | apply AtK.t); (· rfl); (conv => whnf); clear H; intro τ H) | rw [List.length_map]); (refine wX ?_)))
  by_cases h : j < ks.length
  · (repeat ((first | refine zI (by omega) ?_ | refine zE (by omega) (by omega) ?_ | refine zD (by omega) (by omega) ?_ | refine zY (by omega) ?_ | refine zN (by omega) ?_ | refine amin ?_ | refine amax ?_ | refine zU (by omega) ?_ | refine z8 (by omega) ?_ | refine zX (by omega) (by omega) ?_ | refine zR rfl ?_ | refine acellA ?_ | refine zB H b1 rfl ?_ | refine zC H b1 ?_ | refine zB H b2 rfl ?_ | refine zC H b2 ?_ | (apply zL H; (· repeat first | exact .h | apply AtK.t); (· rfl)) | (apply zA H; (· repeat first | exact .h | apply AtK.t)) | (apply zS H; (· repeat first | exact .h | apply AtK.t); (· rfl); (conv => whnf); clear H; intro τ H) | rw [List.length_map]); (refine wX ?_)))
    have hxj : xs[j]'(by omega) = ks[j] := by
      have := congrArg List.head? hxd
      rw [List.head?_drop, List.head?_drop, List.getElem?_eq_getElem h, List.getElem?_eq_getElem (by omega)] at this
      exact Option.some.inj this
    refine zL H .h (get_i64 (l := xs) (by omega)) ?_
    rw [hxj]
    (refine wX ?_)
    (repeat ((first | refine zI (by omega) ?_ | refine zE (by omega) (by omega) ?_ | refine zD (by omega) (by omega) ?_ | refine zY (by omega) ?_ | refine zN (by omega) ?_ | refine amin ?_ | refine amax ?_ | refine zU (by omega) ?_ | refine z8 (by omega) ?_ | refine zX (by omega) (by omega) ?_ | refine zR rfl ?_ | refine acellA ?_ | refine zB H b1 rfl ?_ | refine zC H b1 ?_ | refine zB H b2 rfl ?_ | refine zC H b2 ?_ | (apply zL H; (· repeat first | exact .h | apply AtK.t); (· rfl)) | (apply zA H; (· repeat first | exact .h | apply AtK.t)) | (apply zS H; (· repeat first | exact .h | apply AtK.t); (· rfl); (conv => whnf); clear H; intro τ H) | rw [List.length_map]); (refine wX ?_)))
    refine ⟨rfl, ?_⟩
    (refine wX ?_)
    refine acall (stDues1 (H.get (k := 1) rfl) (H.sub _ _ b1) (H.sub _ _ b2) (hk.sub H.sub) (hm _ (List.getElem_mem h))) ?_
    rintro _ σ_ ⟨rfl, e_⟩
    obtain rfl := e_.symm
    (refine wX ?_)
    have e := keepI_snoc (dl := dl) h
    have hd2 : ∀ ys : List Int, ys.drop j = ks.drop j → ys.drop (j + 1) = ks.drop (j + 1) := fun ys hy => by rw [← List.drop_drop, hy, List.drop_drop]
    rcases (show noDue dl ks[j] = false ∨ noDue dl ks[j] = true by cases noDue dl ks[j] <;> simp) with hq2 | hq2
    · rw [hq2]
      rw [hq2, if_neg (by simp)] at e
      have hel : (keepI dl (ks.take (j + 1))).length = (keepI dl (ks.take j)).length + 1 := by rw [e]; simp
      (refine wX ?_)
      (repeat ((first | refine zI (by omega) ?_ | refine zE (by omega) (by omega) ?_ | refine zD (by omega) (by omega) ?_ | refine zY (by omega) ?_ | refine zN (by omega) ?_ | refine amin ?_ | refine amax ?_ | refine zU (by omega) ?_ | refine z8 (by omega) ?_ | refine zX (by omega) (by omega) ?_ | refine zR rfl ?_ | refine acellA ?_ | refine zB H b1 rfl ?_ | refine zC H b1 ?_ | refine zB H b2 rfl ?_ | refine zC H b2 ?_ | (apply zL H; (· repeat first | exact .h | apply AtK.t); (· rfl)) | (apply zA H; (· repeat first | exact .h | apply AtK.t)) | (apply zS H; (· repeat first | exact .h | apply AtK.t); (· rfl); (conv => whnf); clear H; intro τ H) | rw [List.length_map]); (refine wX ?_)))
      refine row_set H .h (by rw [List.length_map]; omega) rfl ?_
      (conv => whnf)
      clear H
      intro υ H
      rw [show i64v ks[j] = i64v ks[j] from rfl, ← List.map_set] at H
      (refine wX ?_)
      (repeat ((first | refine zI (by omega) ?_ | refine zE (by omega) (by omega) ?_ | refine zD (by omega) (by omega) ?_ | refine zY (by omega) ?_ | refine zN (by omega) ?_ | refine amin ?_ | refine amax ?_ | refine zU (by omega) ?_ | refine z8 (by omega) ?_ | refine zX (by omega) (by omega) ?_ | refine zR rfl ?_ | refine acellA ?_ | refine zB H b1 rfl ?_ | refine zC H b1 ?_ | refine zB H b2 rfl ?_ | refine zC H b2 ?_ | (apply zL H; (· repeat first | exact .h | apply AtK.t); (· rfl)) | (apply zA H; (· repeat first | exact .h | apply AtK.t)) | (apply zS H; (· repeat first | exact .h | apply AtK.t); (· rfl); (conv => whnf); clear H; intro τ H) | rw [List.length_map]); (refine wX ?_)))
      refine ⟨(j + 1, xs.set (keepI dl (ks.take j)).length ks[j], υ), ⟨h, by dsimp only; omega, by dsimp only; rw [List.length_set]; exact hxl, ?_, ?_, H⟩, by dsimp only; omega, Sub.refl _, ?_⟩
      · dsimp only
        rw [hel, List.take_add_one, List.take_set_of_le (Nat.le_refl _), hxt, List.getElem?_set_self (by omega), e]; rfl
      · dsimp only
        rw [List.drop_set_of_lt (by omega)]
        exact hd2 xs hxd
      · rw [show ((j + 1 : Nat) : Int) = (j : Int) + 1 by omega, hel]
        rw [show (((keepI dl (ks.take j)).length + 1 : Nat) : Int) = ((keepI dl (ks.take j)).length : Int) + 1 by omega]
        (refine wX ?_)
        (repeat' first | with_reducible exact EnvLe.refl _ | (refine EnvLe.node ?_ (by first | exact Or.inl rfl | exact Or.inr (Or.inl rfl) | exact Or.inr (Or.inr ⟨nofun, VLe.slice _ _ _⟩)) ?_))
    · rw [hq2]
      rw [hq2, if_pos rfl, List.append_nil] at e
      (refine wX ?_)
      (repeat ((first | refine zI (by omega) ?_ | refine zE (by omega) (by omega) ?_ | refine zD (by omega) (by omega) ?_ | refine zY (by omega) ?_ | refine zN (by omega) ?_ | refine amin ?_ | refine amax ?_ | refine zU (by omega) ?_ | refine z8 (by omega) ?_ | refine zX (by omega) (by omega) ?_ | refine zR rfl ?_ | refine acellA ?_ | refine zB H b1 rfl ?_ | refine zC H b1 ?_ | refine zB H b2 rfl ?_ | refine zC H b2 ?_ | (apply zL H; (· repeat first | exact .h | apply AtK.t); (· rfl)) | (apply zA H; (· repeat first | exact .h | apply AtK.t)) | (apply zS H; (· repeat first | exact .h | apply AtK.t); (· rfl); (conv => whnf); clear H; intro τ H) | rw [List.length_map]); (refine wX ?_)))
      refine ⟨(j + 1, xs, τ), ⟨h, by rw [e]; dsimp only; omega, hxl, by rw [e]; exact hxt, hd2 xs hxd, H⟩, by dsimp only; omega, Sub.refl _, ?_⟩
      rw [show ((j + 1 : Nat) : Int) = (j : Int) + 1 by omega, e]
      (refine wX ?_)
      (repeat' first | with_reducible exact EnvLe.refl _ | (refine EnvLe.node ?_ (by first | exact Or.inl rfl | exact Or.inr (Or.inl rfl) | exact Or.inr (Or.inr ⟨nofun, VLe.slice _ _ _⟩)) ?_))
  · obtain rfl : j = ks.length := by omega
    rw [List.take_length] at hjl hxt ⊢
    (repeat ((first | refine zI (by omega) ?_ | refine zE (by omega) (by omega) ?_ | refine zD (by omega) (by omega) ?_ | refine zY (by omega) ?_ | refine zN (by omega) ?_ | refine amin ?_ | refine amax ?_ | refine zU (by omega) ?_ | refine z8 (by omega) ?_ | refine zX (by omega) (by omega) ?_ | refine zR rfl ?_ | refine acellA ?_ | refine zB H b1 rfl ?_ | refine zC H b1 ?_ | refine zB H b2 rfl ?_ | refine zC H b2 ?_ | (apply zL H; (· repeat first | exact .h | apply AtK.t); (· rfl)) | (apply zA H; (· repeat first | exact .h | apply AtK.t)) | (apply zS H; (· repeat first | exact .h | apply AtK.t); (· rfl); (conv => whnf); clear H; intro τ H) | rw [List.length_map]); (refine wX ?_)))
    obtain ⟨m, hmm⟩ : ∃ m, m = (keepI dl ks).length := ⟨_, rfl⟩
    rw [← hmm] at hjl hxt ⊢
    refine acut (by omega) (by omega) (by omega) ?_
    rw [Int.toNat_natCast, Int.toNat_natCast]
    (refine wX ?_)
    refine ⟨.inl ⟨hjl, ?_⟩⟩
    (refine wX ?_)
    have hsp : splice (xs.map i64v) m (List.replicate (ks.length - m) (AVal.v (.int .i64 0))) = (xs.take m ++ List.replicate (ks.length - m) (0 : Int)).map i64v := by
      unfold splice
      rw [List.length_replicate, show m + (ks.length - m) = xs.length by omega, List.drop_of_length_le (by rw [List.length_map]; exact Nat.le_refl _), List.append_nil, List.map_append, List.map_replicate, List.map_take]
    rw [show 0 + m * 1 = m by omega]
    refine astore (H.get (k := 0) rfl) (by rw [List.length_replicate, List.length_map]; omega) (by rw [List.all_replicate]; simp [AVal.isCell]) hsp ?_
    have H := H.set (k := 0) rfl (.cells ((xs.take m ++ List.replicate (ks.length - m) (0 : Int)).map i64v))
    replace H : Hp σ (.o r (.cells ((xs.take m ++ List.replicate (ks.length - m) (0 : Int)).map i64v)) :: .o i1 (.cells [.ptr ist 0]) :: F) (upd τ r (.cells ((xs.take m ++ List.replicate (ks.length - m) (0 : Int)).map i64v))) := H
    (refine wX ?_)
    (repeat ((first | refine zI (by omega) ?_ | refine zE (by omega) (by omega) ?_ | refine zD (by omega) (by omega) ?_ | refine zY (by omega) ?_ | refine zN (by omega) ?_ | refine amin ?_ | refine amax ?_ | refine zU (by omega) ?_ | refine z8 (by omega) ?_ | refine zX (by omega) (by omega) ?_ | refine zR rfl ?_ | refine acellA ?_ | refine zB H b1 rfl ?_ | refine zC H b1 ?_ | refine zB H b2 rfl ?_ | refine zC H b2 ?_ | (apply zL H; (· repeat first | exact .h | apply AtK.t); (· rfl)) | (apply zA H; (· repeat first | exact .h | apply AtK.t)) | (apply zS H; (· repeat first | exact .h | apply AtK.t); (· rfl); (conv => whnf); clear H; intro τ H) | rw [List.length_map]); (refine wX ?_)))
    refine acut (by omega) (by omega) (by omega) ?_
    rw [Int.toNat_natCast, show (0 : Int).toNat = 0 from rfl]
    (refine wX ?_)
    refine ⟨.inr (.inl ⟨rfl, ?_⟩)⟩
    (refine wX ?_)
    refine aret (VLe.refl _) (Sub.refl _) ⟨.inr ⟨r, _, by rw [hmm], H.get (k := 0) rfl, ?_⟩, _, H⟩
    rw [← hmm, List.take_left' (by rw [List.length_take]; omega)]
    exact hxt
theorem stDues (b1 : σ ist = some (.cells (stC wd im))) (b2 : σ im = some (.map es)) (hn : es.length ≤ 100000) (hw : ∀ e ∈ es, inR e.1) (hk : Kept σ es dl) :
    ACalls Try.prog i_sent_Store_Dues [.ptr ist 0] σ fun v σ' => Beg σ' v (keepI dl (sortI (es.map (·.1)))) ∧ ∃ E, Hp σ E σ' := by
  refine k_sent_Store_Dues rfl ?_
  have H := Hp.nil σ
  (refine wX ?_)
  refine hnew H rfl ?_
  clear H
  intro i1 τ H
  (refine wX ?_)
  (repeat ((first | refine zI (by omega) ?_ | refine zE (by omega) (by omega) ?_ | refine zD (by omega) (by omega) ?_ | refine zY (by omega) ?_ | refine zN (by omega) ?_ | refine amin ?_ | refine amax ?_ | refine zU (by omega) ?_ | refine z8 (by omega) ?_ | refine zX (by omega) (by omega) ?_ | refine zR rfl ?_ | refine acellA ?_ | refine zB H b1 rfl ?_ | refine zC H b1 ?_ | refine zB H b2 rfl ?_ | refine zC H b2 ?_ | (apply zL H; (· repeat first | exact .h | apply AtK.t); (· rfl)) | (apply zA H; (· repeat first | exact .h | apply AtK.t)) | (apply zS H; (· repeat first | exact .h | apply AtK.t); (· rfl); (conv => whnf); clear H; intro τ H) | rw [List.length_map]); (refine wX ?_)))
  refine acall (stNumbersM (H.sub _ _ b1) (H.sub _ _ b2) (by omega) hw) ?_
  rintro v τ2 ⟨E, hE, N⟩
  refine ⟨?_, N.ext⟩
  have hp := sortI_perm (es.map (·.1))
  have hl : (sortI (es.map (·.1))).length = es.length := by rw [hp.length_eq, List.length_map]
  have hm : ∀ k ∈ sortI (es.map (·.1)), k ∈ es.map (·.1) := fun k h => hp.mem_iff.1 h
  generalize sortI (es.map (·.1)) = ks at *
  replace H := H.join N
  cases hE with
  | nil =>
    (refine wX ?_)
    refine acall_less (Q := fun v σ' => v = .slice 1 [] .full ∧ σ' = τ2) ?_ ?_
    · refine k_slices_DeleteFunc_int_int rfl ?_
      (refine wX ?_)
      refine acall (ixNil _ τ2) ?_
      rintro _ σ_ ⟨rfl, e_⟩
      obtain rfl := e_.symm
      refine ⟨?_, Ext.refl _⟩
      (refine wX ?_)
      (repeat ((first | refine zI (by omega) ?_ | refine zE (by omega) (by omega) ?_ | refine zD (by omega) (by omega) ?_ | refine zY (by omega) ?_ | refine zN (by omega) ?_ | refine amin ?_ | refine amax ?_ | refine zU (by omega) ?_ | refine z8 (by omega) ?_ | refine zX (by omega) (by omega) ?_ | refine zR rfl ?_ | refine acellA ?_ | refine zB H b1 rfl ?_ | refine zC H b1 ?_ | refine zB H b2 rfl ?_ | refine zC H b2 ?_ | (apply zL H; (· repeat first | exact .h | apply AtK.t); (· rfl)) | (apply zA H; (· repeat first | exact .h | apply AtK.t)) | (apply zS H; (· repeat first | exact .h | apply AtK.t); (· rfl); (conv => whnf); clear H; intro τ H) | rw [List.length_map]); (refine wX ?_)))
      exact aret (VLe.refl _) (Sub.refl _) ⟨rfl, rfl⟩
    · rintro _ _ ⟨rfl, rfl⟩
      refine ⟨_, _, VLe.refl _, Sub.refl _, ?_⟩
      (refine wX ?_)
      exact aret (VLe.refl _) (Sub.refl _) ⟨.inl ⟨_, rfl, rfl⟩, _, H⟩
  | row r _ hne =>
    (refine wX ?_)
    refine acall (stDel (F := []) H b1 b2 hk hm (by omega)) ?_
    rintro v τ3 ⟨hB, xs, K⟩
    (refine wX ?_)
    exact aret (VLe.refl _) (Sub.refl _) ⟨hB, _, K⟩
end
end Go.Proofs.Ytgobbmdbkmjlnaa
/-
  What came in parts: plain contracts of what a buffer does.
-/
namespace Go.Proofs.Ytgobbmdbkmjlnaa
set_option linter.unusedVariables false
set_option linter.unusedSimpArgs false
set_option maxRecDepth 20000
open Go Go.Am

/-- Is one of them empty? -/
def hollowB (l : List (List UInt8)) : Bool := l.any fun b => decide (b = [])
theorem gapsL_len {to : Int} : ∀ {l : List Sp} {k : Int}, (gapsL to k l).length ≤ l.length + 1
  | [], k => by unfold gapsL; split <;> simp
  | y :: l, k => by
    unfold gapsL
    rw [List.length_append, List.length_cons]
    have := gapsL_len (to := to) (l := l) (k := y.2)
    split <;> simp <;> omega
def gapsV (to : Int) (l : List Sp) : List Sp := if 1 ≤ to ∧ to ≤ 65536 then gapsL to 0 l else []
def topL (l : List Sp) : Int := match l.getLast? with
  | none => 0
  | some y => y.2
def fitsC (l : List Sp) (e : Int) (y : Sp) (ends : Bool) : Int :=
  if (e ≠ -1 ∧ (y.2 > e ∨ (ends = true ∧ y.2 ≠ e))) ∨ (ends = true ∧ topL l > y.2) then 3 else if hasS y l = true then 12 else 0
def rightB (p : Pk) : Bool := !(decide (p.fs.length < 1) || decide (p.fs.length > 24) || hollowB p.fs || decide (p.fi < 0) || decide (p.fi > 3)) && (decide (0 ≤ p.off) && decide (p.off ≤ 4000) && (p.part || decide (p.off = 0)) && decide ((total p.fs : Int) ≤ 4000 - p.off))

section
variable {σ : AHeap} {ib im ip is ig : Nat} {e fi : Int} {es : List (Int × AVal)} {l : List Sp} {tk : Tok} {v : AVal}
end
end Go.Proofs.Ytgobbmdbkmjlnaa
/-
  What came in parts: bytes are filled in.
-/
namespace Go.Proofs.Ytgobbmdbkmjlnaa
set_option linter.unusedVariables false
set_option linter.unusedSimpArgs false
set_option maxRecDepth 20000
open Go Go.Am

/-- A row of bytes that is stored into, or none yet. -/
inductive RB : AVal → List UInt8 → List HE → Prop
  | nil : RB (.slice 1 [] .full) [] []
  | row (r : Nat) (D : List UInt8) : D ≠ [] → RB (.ms r 1 0 D.length) D [.o r (.cells (D.map byteV))]
def BOk (σ : AHeap) (v : AVal) (D : List UInt8) : Prop := (v = .slice 1 [] .full ∧ D = []) ∨ ∃ r, v = .ms r 1 0 D.length ∧ σ r = some (.cells (D.map byteV)) ∧ D ≠ []
theorem RB.dv {σb σ : AHeap} {v : AVal} {D : List UInt8} {E F G : List HE} (h : RB v D E) (H : Hp σb (F ++ (E ++ G)) σ) : BOk σ v D := by
  cases h with
  | nil => exact .inl ⟨rfl, rfl⟩
  | row r D hx => exact .inr ⟨r, rfl, H.ok (.o r (.cells (D.map byteV))) (by simp), hx⟩
theorem RB.isCell {v : AVal} {D : List UInt8} {E : List HE} (h : RB v D E) : v.isCell = true := by cases h <;> rfl
section
variable {σb σ : AHeap} {ip is ig : Nat} {e fi : Int} {l : List Sp} {tk : Tok} {v : AVal} {D : List UInt8} {E G : List HE}
end
end Go.Proofs.Ytgobbmdbkmjlnaa
/-
  What came in parts: may a packet come; where fields begin and end is noted.
-/
namespace Go.Proofs.Ytgobbmdbkmjlnaa
set_option linter.unusedVariables false
set_option linter.unusedSimpArgs false
set_option maxRecDepth 20000
open Go Go.Am

section
variable {σb σ : AHeap} {ip is ig : Nat} {e fi : Int} {l : List Sp} {tk : Tok} {v : AVal} {em : List (Int × AVal)} {G : List HE}
end
end Go.Proofs.Ytgobbmdbkmjlnaa
/-
  What came in parts: a packet that comes.
-/
namespace Go.Proofs.Ytgobbmdbkmjlnaa
set_option linter.unusedVariables false
set_option linter.unusedSimpArgs false
set_option maxRecDepth 20000
open Go Go.Am

theorem Hp.mid {σb σ : AHeap} {A B C : List HE} (H : Hp σb (A ++ (B ++ C)) σ) : Hp σb (B ++ (A ++ C)) σ :=
  H.perm (by rw [← List.append_assoc, ← List.append_assoc]; exact List.perm_append_comm.append_right _)
theorem Hp.mid2 {σb σ : AHeap} {A B C D : List HE} (H : Hp σb (A ++ (B ++ (C ++ D))) σ) : Hp σb (A ++ (C ++ (B ++ D))) σ :=
  H.perm (List.Perm.append_left A (by rw [← List.append_assoc, ← List.append_assoc]; exact List.perm_append_comm.append_right _))
theorem Hp.rest {σb σ : AHeap} {A L : List HE} (H : Hp σb (A ++ L) σ) : Hp σb L σ := (H.perm List.perm_append_comm).left
def endsB (p : Pk) : Bool := !p.part || p.last
/-- A packet's bytes, as a span. -/
def spanP (p : Pk) : Sp := (p.off, p.off + (total p.fs : Int))
/-- What Put says, of what is there of a piece. -/
def putK (p : Pk) (l : List Sp) (e : Int) : Int :=
  if rightB p = false then 1 else if fitsC l e (spanP p) (endsB p) ≠ 0 then fitsC l e (spanP p) (endsB p) else addC (spanP p) l
section
variable {σb σ : AHeap} {ib im ip is ig : Nat} {e fi : Int} {l : List Sp} {tk : Tok} {v : AVal} {D : List UInt8} {em es : List (Int × AVal)} {E G : List HE}
end
end Go.Proofs.Ytgobbmdbkmjlnaa
/-
  Packets that may be, and packets given back or handed on with rights to their rows.
-/
namespace Go.Proofs.Ytgobbmdbkmjlnaa
set_option linter.unusedVariables false
set_option linter.unusedSimpArgs false
open Go Go.Am

structure FldsOk (l : List (List UInt8)) (h w : Int) : Prop where
  one : 1 ≤ l.length
  most : l.length ≤ 24
  each : ∀ i, (hi : i < l.length) → 1 ≤ l[i].length ∧ (i + 1 < l.length → l[i].length ≤ 2047)
  fits : h + sizeV ((l.length : Int) - 1) w + (total l : Int) ≤ 4000
theorem fieldsV_ok' {l : List (List UInt8)} {h w : Int} (k : fieldsV l h w > 0) : FldsOk l h w := by
  unfold fieldsV at k
  split at k
  · omega
  · rename_i h1
    split at k
    · omega
    · rename_i h2
      split at k
      · omega
      · rename_i h3
        refine ⟨by omega, by omega, fun i hi => ?_, by omega⟩
        have hb : fieldBad l i = false := Bool.eq_false_iff.2 fun hb => h2 (fieldsBad_of hi hb)
        rw [fieldBad_get hi] at hb
        have := of_decide_eq_false hb
        omega
theorem amSize_ok {p : Pk} {w : Int} (h : amSize p w > 0) : (w = 10 ∨ w = 16) ∧ 0 ≤ p.fi ∧ p.fi ≤ 3 ∧ isNum w p.sn = true ∧ FldsOk p.fs (amHead p.part w) (lenW w) ∧ 0 ≤ p.off ∧ p.off < offTop w ∧ (p.part = false → p.last = false ∧ p.off = 0) := by
  unfold amSize at h
  split at h
  · omega
  · rename_i hb
    have h1 : amWidth w = true := by
      cases e : amWidth w with
      | true => rfl
      | false => exact absurd (.inl (.inl e)) hb
    have h2 : isNum w p.sn = true := by
      cases e : isNum w p.sn with
      | true => rfl
      | false => exact absurd (.inl (.inr (.inr (.inr e)))) hb
    refine ⟨amWidth_iff.1 h1, ?_, ?_, h2, fieldsV_ok' h, ?_, ?_, fun hp => ⟨?_, ?_⟩⟩
    · exact Decidable.byContradiction fun e => hb (.inl (.inr (.inl (by omega))))
    · exact Decidable.byContradiction fun e => hb (.inl (.inr (.inr (.inl (by omega)))))
    · exact Decidable.byContradiction fun e => hb (.inr (.inr (.inl (by omega))))
    · exact Decidable.byContradiction fun e => hb (.inr (.inr (.inr (by omega))))
    · exact Bool.eq_false_iff.2 fun e => hb (.inr (.inl ⟨hp, .inl e⟩))
    · exact Decidable.byContradiction fun e => hb (.inr (.inl ⟨hp, .inr e⟩))
abbrev TB := Tok × List UInt8
abbrev slB (x : TB) : AVal := sl x.1 x.2
theorem RepL.tbs (κ : Ghost) : ∀ {l : List TB} {vs : List Value}, RepL κ ((l.map slB).flatMap AVal.cells) vs → RepL κ (((l.map (·.2)).map (sl .none)).flatMap AVal.cells) vs
  | [], _, h => h
  | a :: l, _, h => by
    have h : RepL κ (slB a :: (l.map slB).flatMap AVal.cells) _ := h
    cases h with
    | cons h1 h2 => exact .cons (VLe.slice _ _ _ κ _ h1) (RepL.tbs κ h2)
theorem VLe.tbs (l : List TB) (t : Tok) : VLe (.slice 1 (l.map slB) t) (lists .none (l.map (·.2))) := fun κ v h => by
  rcases h.slice_inv with ⟨⟨a, rfl⟩, hn⟩ | ⟨b, off, cap, vs, rfl, g2, g3, g4, g5, g6⟩
  · have hn : l = [] := by simpa using hn
    subst hn; exact .nil
  · refine .slice (vs := vs) (by rw [List.length_map, List.length_map, List.length_map]) g2 (fun x hx => ?_) (RepL.tbs κ g4) g5 trivial
    obtain ⟨y, _, rfl⟩ := List.mem_map.1 hx
    rfl
theorem VLe.aggA {xs ys : List AVal} (h : ∀ κ vs, RepL κ xs vs → RepL κ ys vs) : VLe (.agg xs) (.agg ys) := fun κ v k => by
  cases k with
  | agg r => exact .agg (h _ _ r)
end Go.Proofs.Ytgobbmdbkmjlnaa
/-
  What is kept to be sent again: a store, whatever packets it has.
-/
namespace Go.Proofs.Ytgobbmdbkmjlnaa
set_option linter.unusedVariables false
set_option linter.unusedSimpArgs false
set_option maxRecDepth 20000
open Go Go.Am

/-- A packet that is kept: its cells, the spans that are due of it, how often it was considered. -/
structure PS where
  p : Pk
  l : List Sp
  c : Int
  ie : Nat
  id : Nat
  tk : Tok
abbrev Core := Pk × List Sp × Int
abbrev PS.core (x : PS) : Core := (x.p, x.l, x.c)
abbrev PS.hd (x : PS) : List HE := [.o x.id (.cells [spL x.tk x.l]), .o x.ie (.cells (enC x.p (total x.p.fs) x.id x.c))]
def flatP : List PS → List HE
  | [] => []
  | x :: X => x.hd ++ flatP X
theorem flatP_append : ∀ (A B : List PS), flatP (A ++ B) = flatP A ++ flatP B
  | [], B => rfl
  | x :: A, B => by
    show x.hd ++ flatP (A ++ B) = (x.hd ++ flatP A) ++ flatP B
    rw [flatP_append A B, List.append_assoc]
abbrev esP (X : List PS) : List (Int × AVal) := X.map fun x => (x.p.sn, .ptr x.ie 0)
abbrev SDx (ist im : Nat) (wd : Int) (X : List PS) : List HE := .o ist (.cells (stC wd im)) :: .o im (.map (esP X)) :: flatP X
structure PS.Ok (x : PS) : Prop where
  so : SOk x.l
  sn : inR x.p.sn
  fl : x.p.fs.length ≤ 1000
  tot : total x.p.fs ≤ 4000
  c : 0 ≤ x.c ∧ x.c ≤ 1000000
structure SOkx (X : List PS) : Prop where
  nd : (X.map (·.p.sn)).Nodup
  ok : ∀ x ∈ X, x.Ok
  len : X.length ≤ 1000
theorem findP {X : List PS} (hnd : (X.map (·.p.sn)).Nodup) (sn : Int) :
    (∃ A x B, X = A ++ x :: B ∧ x.p.sn = sn ∧ (esP X).find? (fun e => e.1 == sn) = some (sn, .ptr x.ie 0) ∧ (∀ y ∈ A, y.p.sn ≠ sn) ∧ (∀ y ∈ B, y.p.sn ≠ sn)) ∨
    ((∀ x ∈ X, x.p.sn ≠ sn) ∧ (esP X).find? (fun e => e.1 == sn) = none) := by
  induction X with
  | nil => exact .inr ⟨nofun, rfl⟩
  | cons a X ih =>
    rw [List.map_cons, List.nodup_cons] at hnd
    by_cases h : a.p.sn = sn
    · refine .inl ⟨[], a, X, rfl, h, ?_, nofun, fun y hy e => hnd.1 (by rw [h, ← e]; exact List.mem_map_of_mem (f := fun x : PS => x.p.sn) hy)⟩
      show List.find? _ ((a.p.sn, AVal.ptr a.ie 0) :: esP X) = _
      rw [List.find?_cons]; simp [h]
    · have hb : (a.p.sn == sn) = false := by simp [h]
      have q1 : (esP (a :: X)).find? (fun e => e.1 == sn) = (esP X).find? (fun e => e.1 == sn) := by
        show List.find? _ ((a.p.sn, AVal.ptr a.ie 0) :: esP X) = _
        rw [List.find?_cons]; dsimp only; rw [hb]
      rw [q1]
      rcases ih hnd.2 with ⟨A, x, B, rfl, h1, h2, h4, h5⟩ | ⟨h1, h2⟩
      · refine .inl ⟨a :: A, x, B, rfl, h1, h2, fun y hy => ?_, h5⟩
        rcases List.mem_cons.1 hy with rfl | hy
        · exact h
        · exact h4 y hy
      · refine .inr ⟨fun y hy => ?_, h2⟩
        rcases List.mem_cons.1 hy with rfl | hy
        · exact h
        · exact h1 y hy
theorem upd_core {A B : List PS} {x x' : PS} {sn : Int} {f : Core → Core} (h1 : x.p.sn = sn) (hA : ∀ y ∈ A, y.p.sn ≠ sn) (hB : ∀ y ∈ B, y.p.sn ≠ sn) (hx : x'.core = f x.core) :
    (A ++ x' :: B).map PS.core = ((A ++ x :: B).map PS.core).map fun c => if c.1.sn = sn then f c else c := by
  rw [List.map_append, List.map_append, List.map_append, List.map_cons, List.map_cons, List.map_cons, hx]
  have e : ∀ C : List PS, (∀ y ∈ C, y.p.sn ≠ sn) → (C.map PS.core).map (fun c => if c.1.sn = sn then f c else c) = C.map PS.core := fun C hC => by
    rw [List.map_map]
    refine List.map_congr_left fun y hy => ?_
    show (if y.p.sn = sn then f y.core else y.core) = y.core
    rw [if_neg (hC y hy)]
  rw [e A hA, e B hB, if_pos h1]
theorem upd_none {X : List PS} {sn : Int} {f : Core → Core} (h : ∀ y ∈ X, y.p.sn ≠ sn) : X.map PS.core = (X.map PS.core).map fun c => if c.1.sn = sn then f c else c := by
  rw [List.map_map]
  refine List.map_congr_left fun y hy => ?_
  show y.core = (if y.p.sn = sn then f y.core else y.core)
  rw [if_neg (h y hy)]
section
variable {σb σ : AHeap} {ist im : Nat} {wd : Int} {X A B : List PS} {x : PS} {G : List HE} {o1 o2 : HE}
theorem SDx.outX (H : Hp σb (o1 :: o2 :: (flatP (A ++ x :: B) ++ G)) σ) : Hp σb (x.hd ++ (o1 :: o2 :: (flatP A ++ (flatP B ++ G)))) σ := by
  rw [flatP_append, show flatP (x :: B) = x.hd ++ flatP B from rfl, List.append_assoc, List.append_assoc] at H
  have H := Hp.mid2 (A := [o1, o2]) (B := flatP A) (C := x.hd) H
  exact Hp.mid (A := [o1, o2]) (B := x.hd) H
theorem SDx.backX (H : Hp σb (x.hd ++ (o1 :: o2 :: (flatP A ++ (flatP B ++ G)))) σ) : Hp σb (o1 :: o2 :: (flatP (A ++ x :: B) ++ G)) σ := by
  rw [flatP_append, show flatP (x :: B) = x.hd ++ flatP B from rfl, List.append_assoc, List.append_assoc]
  have H := Hp.mid (A := x.hd) (B := [o1, o2]) H
  exact Hp.mid2 (A := [o1, o2]) (B := x.hd) (C := flatP A) H
theorem SDx.at_ (H : Hp σb (SDx ist im wd X ++ G) σ) (hx : x ∈ X) : σ x.id = some (.cells [spL x.tk x.l]) ∧ σ x.ie = some (.cells (enC x.p (total x.p.fs) x.id x.c)) := by
  obtain ⟨A, B, rfl⟩ := List.append_of_mem hx
  have K := SDx.outX H
  exact ⟨K.get (k := 0) rfl, K.get (k := 1) rfl⟩
theorem SDx.b1 (H : Hp σb (SDx ist im wd X ++ G) σ) : σ ist = some (.cells (stC wd im)) := H.get (k := 0) rfl
theorem SDx.b2 (H : Hp σb (SDx ist im wd X ++ G) σ) : σ im = some (.map (esP X)) := H.get (k := 1) rfl
theorem SDx.find (hnd : (X.map (·.p.sn)).Nodup) (hx : x ∈ X) : (esP X).find? (fun e => e.1 == x.p.sn) = some (x.p.sn, .ptr x.ie 0) := by
  rcases findP hnd x.p.sn with ⟨A, y, B, hX, h1, h2, h4, h5⟩ | ⟨h1, h2⟩
  · rw [hX] at hx
    rcases List.mem_append.1 hx with hx | hx
    · exact absurd rfl (h4 x hx)
    · rcases List.mem_cons.1 hx with rfl | hx
      · exact h2
      · exact absurd rfl (h5 x hx)
  · exact absurd rfl (h1 x hx)
theorem pCount (H : Hp σb (SDx ist im wd X ++ G) σ) (ok : SOkx X) (hx : x ∈ X) : ACalls Try.prog i_sent_Store_Count [.ptr ist 0, i64v x.p.sn] σ fun v σ' => v = i64v x.c ∧ σ' = σ :=
  stCount (SDx.b1 H) (SDx.b2 H) _ (SDx.find ok.nd hx) (SDx.at_ H hx).2
theorem pDue (H : Hp σb (SDx ist im wd X ++ G) σ) (ok : SOkx X) (hx : x ∈ X) : ACalls Try.prog i_sent_Store_Due [.ptr ist 0, i64v x.p.sn] σ fun v σ' => ∃ u, Owned σ σ' u ∧ v = spL u x.l :=
  stDue (SDx.b1 H) (SDx.b2 H) _ (SDx.find ok.nd hx) (SDx.at_ H hx).2 (SDx.at_ H hx).1 (by have := (ok.ok x hx).so.mid; omega)
theorem pGet (H : Hp σb (SDx ist im wd X ++ G) σ) (ok : SOkx X) (hx : x ∈ X) : ACalls Try.prog i_sent_Store_Get [.ptr ist 0, i64v x.p.sn] σ fun v σ' => v = .tup [amV x.p, boolv true] ∧ σ' = σ := by
  have b1 := SDx.b1 H
  have b2 := SDx.b2 H
  have b3 := (SDx.at_ H hx).2
  have hok := ok.ok x hx
  have hf := SDx.find ok.nd hx
  clear H
  refine k_sent_Store_Get rfl ?_
  have H := Hp.nil σ
  (refine wX ?_)
  refine hnew H rfl ?_
  clear H
  intro i4 τ H
  (refine wX ?_)
  refine acall (stFind (H.sub _ _ b1) (H.sub _ _ b2) x.p.sn hf) ?_
  rintro _ σ_ ⟨rfl, e_⟩
  obtain rfl := e_.symm
  (refine wX ?_)
  (repeat ((first | refine zI (by omega) ?_ | refine zE (by omega) (by omega) ?_ | refine zD (by omega) (by omega) ?_ | refine zY (by omega) ?_ | refine zN (by omega) ?_ | refine amin ?_ | refine amax ?_ | refine zU (by omega) ?_ | refine z8 (by omega) ?_ | refine zX (by omega) (by omega) ?_ | refine zR rfl ?_ | refine acellA ?_ | refine zB H b1 rfl ?_ | refine zC H b1 ?_ | refine zB H b2 rfl ?_ | refine zC H b2 ?_ | refine zB H b3 rfl ?_ | refine zC H b3 ?_ | (apply zL H; (· repeat first | exact .h | apply AtK.t); (· rfl)) | (apply zA H; (· repeat first | exact .h | apply AtK.t)) | (apply zS H; (· repeat first | exact .h | apply AtK.t); (· rfl); (conv => whnf); clear H; intro τ H) | rw [List.length_map]); (refine wX ?_)))
  refine acall (stCopied x.p _ (by have := hok.fl; omega) (by have := hok.tot; omega)) ?_
  rintro _ σ_ ⟨rfl, e_⟩
  obtain rfl := e_.symm
  refine ⟨?_, Ext.refl _⟩
  (refine wX ?_)
  (repeat ((first | refine zI (by omega) ?_ | refine zE (by omega) (by omega) ?_ | refine zD (by omega) (by omega) ?_ | refine zY (by omega) ?_ | refine zN (by omega) ?_ | refine amin ?_ | refine amax ?_ | refine zU (by omega) ?_ | refine z8 (by omega) ?_ | refine zX (by omega) (by omega) ?_ | refine zR rfl ?_ | refine acellA ?_ | refine zB H b1 rfl ?_ | refine zC H b1 ?_ | refine zB H b2 rfl ?_ | refine zC H b2 ?_ | refine zB H b3 rfl ?_ | refine zC H b3 ?_ | (apply zL H; (· repeat first | exact .h | apply AtK.t); (· rfl)) | (apply zA H; (· repeat first | exact .h | apply AtK.t)) | (apply zS H; (· repeat first | exact .h | apply AtK.t); (· rfl); (conv => whnf); clear H; intro τ H) | rw [List.length_map]); (refine wX ?_)))
  exact aret (VLe.refl _) H.sub ⟨rfl, rfl⟩
theorem SOkx.upd {x' : PS} (ok : SOkx (A ++ x :: B)) (hp : x'.p = x.p) (h : x'.Ok) : SOkx (A ++ x' :: B) := by
  refine ⟨?_, fun y hy => ?_, by have := ok.len; simpa using this⟩
  · have := ok.nd
    rw [List.map_append, List.map_cons] at this ⊢
    rw [hp]; exact this
  · rcases List.mem_append.1 hy with hy | hy
    · exact ok.ok y (List.mem_append.2 (.inl hy))
    · rcases List.mem_cons.1 hy with rfl | hy
      · exact h
      · exact ok.ok y (List.mem_append.2 (.inr (List.mem_cons_of_mem _ hy)))
theorem esP_upd {x' : PS} (hp : x'.p = x.p) (hi : x'.ie = x.ie) : esP (A ++ x' :: B) = esP (A ++ x :: B) := by
  simp only [esP, List.map_append, List.map_cons, hp, hi]
def againC (a b : Int) (c : Core) : Core := (c.1, againS (total c.1.fs) a b c.2.1, againN (total c.1.fs) a b c.2.2 c.2.1)
def sentC (a b : Int) (c : Core) : Core := (c.1, sentL (total c.1.fs) a b c.2.1, c.2.2)
def updC (sn : Int) (f : Core → Core) (S : List Core) : List Core := S.map fun c => if c.1.sn = sn then f c else c
def findC (S : List Core) (sn : Int) : Option Core := S.find? fun c => c.1.sn == sn
theorem findC_at (hnd : (X.map (·.p.sn)).Nodup) (hX : X = A ++ x :: B) (hA : ∀ y ∈ A, y.p.sn ≠ x.p.sn) : findC (X.map PS.core) x.p.sn = some x.core := by
  subst hX
  unfold findC
  rw [List.map_append, List.find?_append, List.find?_eq_none.2 fun c hc => ?_]
  · simp
  · obtain ⟨y, hy, rfl⟩ := List.mem_map.1 hc
    simp [hA y hy]
theorem findC_no {sn : Int} (h : ∀ y ∈ X, y.p.sn ≠ sn) : findC (X.map PS.core) sn = none := by
  unfold findC
  refine List.find?_eq_none.2 fun c hc => ?_
  obtain ⟨y, hy, rfl⟩ := List.mem_map.1 hc
  simp [h y hy]
/-- What Again tells: the count, and why not. -/
def againR (S : List Core) (sn a b : Int) : Int × Int := match findC S sn with
  | none => (0, 4)
  | some c => (if (spanV (total c.1.fs) a b).2 = 0 then (againC a b c).2.2 else 0, (spanV (total c.1.fs) a b).2)
def sentR (S : List Core) (sn a b : Int) : Int := match findC S sn with
  | none => 4
  | some c => (spanV (total c.1.fs) a b).2
theorem againN_le {n a b c : Int} {l : List Sp} : c ≤ againN n a b c l ∧ againN n a b c l ≤ c + 1 := by unfold againN; split <;> omega
theorem pAgain (H : Hp σb (SDx ist im wd X ++ G) σ) (ok : SOkx X) (hc : ∀ x ∈ X, x.c ≤ 999999) (sn a b : Int) : ACalls Try.prog i_sent_Store_Again [.ptr ist 0, i64v sn, i64v a, i64v b] σ fun v σ' =>
    v = .tup [i64v (againR (X.map PS.core) sn a b).1, i64v (againR (X.map PS.core) sn a b).2] ∧ ∃ X', Hp σb (SDx ist im wd X' ++ G) σ' ∧ SOkx X' ∧ X'.map PS.core = updC sn (againC a b) (X.map PS.core) := by
  unfold againR
  rcases findP ok.nd sn with ⟨A, x, B, hX, h1, h2, h4, h5⟩ | ⟨h1, h2⟩
  · have hx : x ∈ X := by rw [hX]; simp
    subst h1
    rw [findC_at ok.nd hX h4]
    have hxo := ok.ok x hx
    subst hX
    have K := SDx.outX H
    refine acall_less (stAgain K (SDx.b1 H) (SDx.b2 H) _ a b h2 (by have := hxo.so.k; omega) (by have := hxo.c; omega)) ?_
    rintro _ σ' ⟨rfl, u, K⟩
    have hso : SOk (againS (total x.p.fs) a b x.l) := by
      unfold againS againL
      split
      · split
        · exact hxo.so.add _
        · exact hxo.so.add _
      · exact hxo.so
    have hcc := hc x hx
    have hc2 := hxo.c
    have hcl := againN_le (n := (total x.p.fs : Int)) (a := a) (b := b) (c := x.c) (l := x.l)
    refine ⟨_, _, VLe.refl _, Sub.refl _, rfl, A ++ ⟨x.p, againS (total x.p.fs) a b x.l, againN (total x.p.fs) a b x.c x.l, x.ie, x.id, u⟩ :: B, ?_, ok.upd rfl ⟨hso, hxo.sn, hxo.fl, hxo.tot, by dsimp only; omega⟩, upd_core rfl h4 h5 rfl⟩
    have K := SDx.backX (x := ⟨x.p, againS (total x.p.fs) a b x.l, againN (total x.p.fs) a b x.c x.l, x.ie, x.id, u⟩) K
    show Hp σb (.o ist _ :: .o im (.map (esP (A ++ _ :: B))) :: (flatP (A ++ _ :: B) ++ G)) σ'
    rw [show esP (A ++ ⟨x.p, againS (total x.p.fs) a b x.l, againN (total x.p.fs) a b x.c x.l, x.ie, x.id, u⟩ :: B) = esP (A ++ x :: B) from esP_upd rfl rfl]
    exact K
  · rw [findC_no h1]
    refine acall_less (stAgainNone (SDx.b1 H) (SDx.b2 H) sn a b h2) ?_
    rintro _ σ' ⟨rfl, rfl⟩
    exact ⟨_, _, VLe.refl _, Sub.refl _, rfl, X, H, ok, upd_none h1⟩
theorem pSent (H : Hp σb (SDx ist im wd X ++ G) σ) (ok : SOkx X) (sn a b : Int) : ACalls Try.prog i_sent_Store_Sent [.ptr ist 0, i64v sn, i64v a, i64v b] σ fun v σ' =>
    v = i64v (sentR (X.map PS.core) sn a b) ∧ ∃ X', Hp σb (SDx ist im wd X' ++ G) σ' ∧ SOkx X' ∧ X'.map PS.core = updC sn (sentC a b) (X.map PS.core) := by
  unfold sentR
  rcases findP ok.nd sn with ⟨A, x, B, hX, h1, h2, h4, h5⟩ | ⟨h1, h2⟩
  · have hx : x ∈ X := by rw [hX]; simp
    subst h1
    rw [findC_at ok.nd hX h4]
    have hxo := ok.ok x hx
    subst hX
    have K := SDx.outX H
    refine acall_less (stSent K (SDx.b1 H) (SDx.b2 H) _ a b h2 (by have := hxo.so.k; omega)) ?_
    rintro _ σ' ⟨rfl, u, K⟩
    have hso : SOk (sentL (total x.p.fs) a b x.l) := by
      unfold sentL
      split
      · exact hxo.so.tak _
      · exact hxo.so
    refine ⟨_, _, VLe.refl _, Sub.refl _, rfl, A ++ ⟨x.p, sentL (total x.p.fs) a b x.l, x.c, x.ie, x.id, u⟩ :: B, ?_, ok.upd rfl ⟨hso, hxo.sn, hxo.fl, hxo.tot, hxo.c⟩, upd_core rfl h4 h5 rfl⟩
    have K := SDx.backX (x := ⟨x.p, sentL (total x.p.fs) a b x.l, x.c, x.ie, x.id, u⟩) K
    show Hp σb (.o ist _ :: .o im (.map (esP (A ++ _ :: B))) :: (flatP (A ++ _ :: B) ++ G)) σ'
    rw [show esP (A ++ ⟨x.p, sentL (total x.p.fs) a b x.l, x.c, x.ie, x.id, u⟩ :: B) = esP (A ++ x :: B) from esP_upd rfl rfl]
    exact K
  · rw [findC_no h1]
    refine acall_less (stSentNone (SDx.b1 H) (SDx.b2 H) sn a b h2) ?_
    rintro _ σ' ⟨rfl, rfl⟩
    exact ⟨_, _, VLe.refl _, Sub.refl _, rfl, X, H, ok, upd_none h1⟩
def dropR (S : List Core) (sn : Int) : Int := if findC S sn = none then 4 else 0
def dropS (S : List Core) (sn : Int) : List Core := S.filter fun c => decide (c.1.sn ≠ sn)
theorem mapDel_esP {sn : Int} (hx : x.p.sn = sn) (hA : ∀ y ∈ A, y.p.sn ≠ sn) : mapDel (esP (A ++ x :: B)) sn = esP (A ++ B) := by
  induction A with
  | nil => simp [esP, mapDel, hx]
  | cons a A ih =>
    have := ih fun y hy => hA y (List.mem_cons_of_mem _ hy)
    have h0 := hA a (List.mem_cons_self ..)
    simp [esP, mapDel, h0] at this ⊢
    exact this
theorem filt_id {Y : List PS} {sn : Int} (h : ∀ y ∈ Y, y.p.sn ≠ sn) : dropS (Y.map PS.core) sn = Y.map PS.core := by
  unfold dropS
  refine List.filter_eq_self.2 fun c hc => ?_
  obtain ⟨y, hy, rfl⟩ := List.mem_map.1 hc
  exact decide_eq_true (h y hy)
theorem pDrop (H : Hp σb (SDx ist im wd X ++ G) σ) (ok : SOkx X) (sn : Int) : ACalls Try.prog i_sent_Store_Drop [.ptr ist 0, i64v sn] σ fun v σ' =>
    v = i64v (dropR (X.map PS.core) sn) ∧ ∃ X', Hp σb (SDx ist im wd X' ++ G) σ' ∧ SOkx X' ∧ X'.map PS.core = dropS (X.map PS.core) sn := by
  unfold dropR
  rcases findP ok.nd sn with ⟨A, x, B, hX, h1, h2, h4, h5⟩ | ⟨h1, h2⟩
  · have hx : x ∈ X := by rw [hX]; simp
    have hfc := findC_at ok.nd hX (by rw [h1]; exact h4)
    rw [h1] at hfc
    rw [hfc, if_neg (by simp)]
    subst hX
    refine acall_less (stDrop (Hp.mid (A := [.o ist _]) (B := [.o im _]) (C := flatP (A ++ x :: B) ++ G) H) (SDx.b1 H) sn h2) ?_
    rintro _ σ' ⟨rfl, K⟩
    rw [mapDel_esP h1 h4] at K
    refine ⟨_, _, VLe.refl _, Sub.refl _, rfl, A ++ B, ?_, ⟨?_, fun y hy => ok.ok y ?_, ?_⟩, ?_⟩
    · have K := Hp.mid (A := [.o im _]) (B := [.o ist _]) (C := flatP (A ++ x :: B) ++ G) K
      have K := SDx.outX (o1 := .o ist _) (o2 := .o im _) K
      have K := Hp.rest (A := x.hd) K
      show Hp σb (.o ist _ :: .o im _ :: (flatP (A ++ B) ++ G)) σ'
      rw [flatP_append, List.append_assoc]
      exact K
    · exact List.Pairwise.sublist (((List.Sublist.refl A).append (List.sublist_cons_self x B)).map _) ok.nd
    · rcases List.mem_append.1 hy with hy | hy
      · exact List.mem_append.2 (.inl hy)
      · exact List.mem_append.2 (.inr (List.mem_cons_of_mem _ hy))
    · have := ok.len
      rw [List.length_append, List.length_cons] at this
      rw [List.length_append]; omega
    · unfold dropS
      rw [List.map_append, List.map_append, List.map_cons, List.filter_append, List.filter_cons]
      have e1 := filt_id h4
      have e2 := filt_id h5
      unfold dropS at e1 e2
      rw [e1, e2, if_neg (by simp [h1])]
  · rw [findC_no h1, if_pos rfl]
    refine acall_less (stDropNone (SDx.b1 H) (SDx.b2 H) sn h2) ?_
    rintro _ σ' ⟨rfl, rfl⟩
    exact ⟨_, _, VLe.refl _, Sub.refl _, rfl, X, H, ok, (filt_id h1).symm⟩
def putCC (p : Pk) (wd : Int) (S : List Core) : Int :=
  if p.part = true ∨ ¬ amSize p wd > 0 then 3 else if findC S p.sn ≠ none then 12 else 0
def putSS (p : Pk) (wd : Int) (S : List Core) : List Core := if putCC p wd S = 0 then S ++ [(p, [], 0)] else S
theorem putC_eq (ok : SOkx X) (p : Pk) : putC p wd (esP X) = putCC p wd (X.map PS.core) := by
  unfold putC putCC
  have hl : (esP X).length ≤ 1000 := by rw [List.length_map]; exact ok.len
  split
  · rfl
  · rcases findP ok.nd p.sn with ⟨A, x, B, hX, h1, h2, h4, h5⟩ | ⟨h1, h2⟩
    · have hfc := findC_at ok.nd hX (by rw [h1]; exact h4)
      rw [h1] at hfc
      rw [h2, hfc, if_pos (by simp), if_pos (by simp)]
    · rw [h2, findC_no h1]
      simp only [ne_eq, not_true_eq_false, if_false]
      rw [if_neg (by omega)]
theorem pPut (H : Hp σb (SDx ist im wd X ++ G) σ) (ok : SOkx X) (hlen : X.length < 1000) (p : Pk) (hsn : inR p.sn) (hl : p.fs.length ≤ 1000) (ht : total p.fs ≤ 140737488355328) : ACalls Try.prog i_sent_Store_Put [.ptr ist 0, amV p] σ fun v σ' =>
    v = i64v (putCC p wd (X.map PS.core)) ∧ ∃ X', Hp σb (SDx ist im wd X' ++ G) σ' ∧ SOkx X' ∧ X'.map PS.core = putSS p wd (X.map PS.core) ∧ X'.length ≤ X.length + 1 := by
  refine acall_less (stPut H p (fun e he => by obtain ⟨x, _, rfl⟩ := List.mem_map.1 he; exact ⟨_, rfl⟩) hl ht (by rw [List.length_map]; have := ok.len; omega)) ?_
  rw [putC_eq ok]
  unfold putSS
  rintro _ σ' ⟨rfl, ⟨h0, K⟩ | ⟨h0, ie, id, u, K⟩⟩
  · rw [if_neg h0]
    exact ⟨_, _, VLe.refl _, Sub.refl _, rfl, X, K, ok, rfl, by omega⟩
  · rw [if_pos h0]
    have h00 := h0
    unfold putCC at h00
    have hsz : amSize p wd > 0 := Classical.byContradiction fun h => by rw [if_pos (.inr h)] at h00; cases h00
    have hnp : ¬ (p.part = true ∨ ¬ amSize p wd > 0) := fun h => by rw [if_pos h] at h00; cases h00
    rw [if_neg hnp] at h00
    have hno : ∀ y ∈ X, y.p.sn ≠ p.sn := fun y hy e => by
      obtain ⟨A, x, B, hX, h1, h2, h4, h5⟩ | ⟨h1, h2⟩ := findP ok.nd p.sn
      · have hfc := findC_at ok.nd hX (by rw [h1]; exact h4)
        rw [h1] at hfc
        rw [hfc, if_pos (by simp)] at h00; cases h00
      · exact h1 y hy e
    obtain ⟨hw, hf1, hf2, hsn2, hfo, ho1, ho2, hpl⟩ := amSize_ok hsz
    have g3 := hfo.fits
    have g4 := amHead_range p.part wd
    have g5 := sizeV_range ((p.fs.length : Int) - 1) (lenW wd)
    refine ⟨_, _, VLe.refl _, Sub.refl _, rfl, X ++ [⟨p, [], 0, ie, id, u⟩], ?_, ⟨?_, fun y hy => ?_, by rw [List.length_append, List.length_singleton]; omega⟩, by rw [List.map_append]; rfl, by rw [List.length_append, List.length_singleton]; omega⟩
    · show Hp σb (.o ist _ :: .o im (.map (esP (X ++ [_]))) :: (flatP (X ++ [_]) ++ G)) σ'
      rw [flatP_append, List.append_assoc, show esP (X ++ [(⟨p, [], 0, ie, id, u⟩ : PS)]) = esP X ++ [(p.sn, .ptr ie 0)] by rw [esP, List.map_append]; rfl]
      have K := Hp.mid (A := [.o id _, .o ie _]) (B := [.o ist _, .o im _]) (C := flatP X ++ G) K
      exact Hp.mid2 (A := [.o ist _, .o im _]) (B := [.o id _, .o ie _]) (C := flatP X) (D := G) K
    · rw [List.map_append, List.nodup_append]
      refine ⟨ok.nd, by simp, fun a ha b hb => ?_⟩
      obtain ⟨y, hy, rfl⟩ := List.mem_map.1 ha
      simp only [List.map_cons, List.map_nil, List.mem_singleton] at hb
      subst hb
      exact hno y hy
    · rcases List.mem_append.1 hy with hy | hy
      · exact ok.ok y hy
      · rw [List.mem_singleton] at hy
        subst hy
        exact ⟨SOk.nil, hsn, hl, by dsimp only; omega, by dsimp only; omega⟩
theorem pClear (H : Hp σb (SDx ist im wd X ++ G) σ) : ACalls Try.prog i_sent_Store_Clear [.ptr ist 0] σ fun v σ' => v = .tup [] ∧ ∃ im', Hp σb (SDx ist im' wd [] ++ G) σ' := by
  refine k_sent_Store_Clear rfl ?_
  (refine wX ?_)
  refine acall (stMade (SDx.b1 H)) ?_
  rintro _ σ_ ⟨rfl, e_⟩
  obtain rfl := e_.symm
  refine ⟨?_, Ext.refl _⟩
  (refine wX ?_)
  (repeat ((first | refine zI (by omega) ?_ | refine zE (by omega) (by omega) ?_ | refine zD (by omega) (by omega) ?_ | refine zY (by omega) ?_ | refine zN (by omega) ?_ | refine amin ?_ | refine amax ?_ | refine zU (by omega) ?_ | refine z8 (by omega) ?_ | refine zX (by omega) (by omega) ?_ | refine zR rfl ?_ | refine acellA ?_ | refine zB H b1 rfl ?_ | refine zC H b1 ?_ | (apply zL H; (· repeat first | exact .h | apply AtK.t); (· rfl)) | (apply zA H; (· repeat first | exact .h | apply AtK.t)) | (apply zS H; (· repeat first | exact .h | apply AtK.t); (· rfl); (conv => whnf); clear H; intro τ H) | rw [List.length_map]); (refine wX ?_)))
  refine hnewmap H ?_
  clear H
  intro im2 τ H
  (refine wX ?_)
  (repeat ((first | refine zI (by omega) ?_ | refine zE (by omega) (by omega) ?_ | refine zD (by omega) (by omega) ?_ | refine zY (by omega) ?_ | refine zN (by omega) ?_ | refine amin ?_ | refine amax ?_ | refine zU (by omega) ?_ | refine z8 (by omega) ?_ | refine zX (by omega) (by omega) ?_ | refine zR rfl ?_ | refine acellA ?_ | refine zB H b1 rfl ?_ | refine zC H b1 ?_ | (apply zL H; (· repeat first | exact .h | apply AtK.t); (· rfl)) | (apply zA H; (· repeat first | exact .h | apply AtK.t)) | (apply zS H; (· repeat first | exact .h | apply AtK.t); (· rfl); (conv => whnf); clear H; intro τ H) | rw [List.length_map]); (refine wX ?_)))
  have K := ((H.front (k := 2) rfl).tail).front (k := 1) rfl
  exact aret (VLe.refl _) (Sub.refl _) ⟨rfl, im2, Hp.rest (A := flatP X) (Hp.mid (A := [_, _]) (B := flatP X) (C := G) K)⟩
end
end Go.Proofs.Ytgobbmdbkmjlnaa
