/-
  Levels and their leasts.
-/
import Derived.Test.YtkdbmajkjlnpiabCown
import Derived.Test.YtkdbmajkjlnpiabIrbsr
namespace Go.Proofs.Ytkdbmajkjlnpiab
set_option linter.unusedVariables false
set_option linter.unusedSimpArgs false
open Go Go.Am

/-- A level's least. -/
def leastV : Nat → Nat
  | 0 => 0
  | i + 1 => leastV i + (leastV i / 6 + 1)
theorem leastV_lt (i : Nat) : leastV i < leastV (i + 1) := by show leastV i < leastV i + (leastV i / 6 + 1); omega
theorem leastV_mono {i j : Nat} (h : i ≤ j) : leastV i ≤ leastV j := by
  induction h with
  | refl => exact Nat.le_refl _
  | step _ ih => exact Nat.le_trans ih (Nat.le_of_lt (leastV_lt _))
theorem leastV_small : ∀ i, i < 65 → leastV i ≤ 1000000 := by decide +kernel
def upTo (n : Nat) : Nat → Nat
  | 0 => 0
  | i + 1 => if leastV (i + 1) ≤ n then i + 1 else upTo n i
/-- A number's level. -/
def levelV (n : Nat) : Nat := upTo n 63
theorem upTo_le (n : Nat) : ∀ j, upTo n j ≤ j
  | 0 => Nat.le_refl _
  | j + 1 => by
    unfold upTo
    split
    · exact Nat.le_refl _
    · exact Nat.le_succ_of_le (upTo_le n j)
theorem upTo_is {n i : Nat} (h : leastV i ≤ n) : ∀ j, i ≤ j → (∀ k, i < k → k ≤ j → n < leastV k) → upTo n j = i
  | 0, hj, _ => by unfold upTo; omega
  | j + 1, hj, hk => by
    unfold upTo
    by_cases e : i = j + 1
    · rw [if_pos (by rw [← e]; exact h), e]
    · have := hk (j + 1) (by omega) (Nat.le_refl _)
      rw [if_neg (by omega)]
      exact upTo_is h j (by omega) fun k a b => hk k a (by omega)
theorem levelV_is {n i : Nat} (h : leastV i ≤ n) (h63 : i ≤ 63) (hn : i = 63 ∨ n < leastV (i + 1)) : levelV n = i := by
  refine upTo_is h 63 h63 fun k a b => ?_
  rcases hn with rfl | hn
  · omega
  · exact Nat.lt_of_lt_of_le hn (leastV_mono (show i + 1 ≤ k by omega))
theorem levelV_le (n : Nat) : levelV n ≤ 63 := upTo_le n 63
theorem upTo_least (n : Nat) : ∀ j, leastV (upTo n j) ≤ n
  | 0 => Nat.zero_le _
  | j + 1 => by
    unfold upTo
    split
    · assumption
    · exact upTo_least n j
theorem levelV_least (n : Nat) : leastV (levelV n) ≤ n := upTo_least n 63
theorem upTo_next (n : Nat) : ∀ j, upTo n j < j → n < leastV (upTo n j + 1)
  | 0, h => by omega
  | j + 1, h => by
    unfold upTo at h ⊢
    split
    · rename_i hc; rw [if_pos hc] at h; omega
    · rename_i hc
      rw [if_neg hc] at h
      by_cases e : upTo n j = j
      · rw [e]; omega
      · exact upTo_next n j (by have := upTo_le n j; omega)
theorem levelV_next {n : Nat} (h : levelV n < 63) : n < leastV (levelV n + 1) := upTo_next n 63 h
theorem levelV_mono {n m : Nat} (h : n ≤ m) : levelV n ≤ levelV m := by
  refine Classical.byContradiction fun hc => ?_
  have h1 := levelV_least n
  have h2 := levelV_le n
  have h3 := levelV_next (n := m) (by omega)
  have h4 := leastV_mono (show levelV m + 1 ≤ levelV n by omega)
  omega
theorem levelV_leastV {i : Nat} (h : i ≤ 63) : levelV (leastV i) = i := levelV_is (Nat.le_refl _) h (.inr (leastV_lt i))

def isLevelV (n : Int) : Bool := decide (0 ≤ n) && decide (n ≤ 63)
theorem isLevelV_iff {n : Int} : isLevelV n = true ↔ 0 ≤ n ∧ n ≤ 63 := by simp [isLevelV]

theorem bIsLevel (n : Int) (σ : AHeap) : ACalls Try.prog i_bsr_isLevel [i64v n] σ fun v σ' => v = boolv (isLevelV n) ∧ σ' = σ := by
  refine k_bsr_isLevel rfl ?_
  ((conv => whnf); (repeat ((first | with_reducible refine abr_true rfl ?_ | with_reducible refine abr_false rfl ?_ | with_reducible refine abr_yes rfl ?_ | refine abr_yes (by decide) ?_ | refine abr_no (by decide) ?_ | with_reducible refine abr_same_ne ?_); (conv => whnf))))
  by_cases h1 : n ≥ 0
  · refine abr_yes h1 ?_
    ((conv => whnf); (repeat ((first | with_reducible refine abr_true rfl ?_ | with_reducible refine abr_false rfl ?_ | with_reducible refine abr_yes rfl ?_ | refine abr_yes (by decide) ?_ | refine abr_no (by decide) ?_ | with_reducible refine abr_same_ne ?_); (conv => whnf))))
    refine aret_same ⟨?_, rfl⟩
    unfold isLevelV
    rw [decide_eq_true h1, Bool.true_and]
    exact congrArg boolv (dec_congr Iff.rfl)
  · refine abr_no h1 ?_
    ((conv => whnf); (repeat ((first | with_reducible refine abr_true rfl ?_ | with_reducible refine abr_false rfl ?_ | with_reducible refine abr_yes rfl ?_ | refine abr_yes (by decide) ?_ | refine abr_no (by decide) ?_ | with_reducible refine abr_same_ne ?_); (conv => whnf))))
    refine aret_same ⟨?_, rfl⟩
    unfold isLevelV
    rw [decide_eq_false h1]; rfl

theorem bLeast (n : Int) (σ : AHeap) : ACalls Try.prog i_bsr_Least [i64v n] σ fun v σ' => v = .tup [i64v (if isLevelV n = true then (leastV n.toNat : Int) else 0), i64v (if isLevelV n = true then 0 else 1)] ∧ σ' = σ := by
  refine k_bsr_Least rfl ?_
  ((conv => whnf); (repeat ((first | with_reducible refine abr_true rfl ?_ | with_reducible refine abr_false rfl ?_ | with_reducible refine abr_yes rfl ?_ | refine abr_yes (by decide) ?_ | refine abr_no (by decide) ?_ | with_reducible refine abr_same_ne ?_); (conv => whnf))))
  refine ascope' (α := Nat) (fun i => [(s4, i64v (leastV i)), (s5, i64v i)]) (fun _ => σ) (fun _ => 0) (fun i => isLevelV n = true ∧ (i : Int) ≤ n) (fun i => n.toNat - i) ?_ ?_
  · ((conv => whnf); (repeat ((first | with_reducible refine abr_true rfl ?_ | with_reducible refine abr_false rfl ?_ | with_reducible refine abr_yes rfl ?_ | refine abr_yes (by decide) ?_ | refine abr_no (by decide) ?_ | with_reducible refine abr_same_ne ?_); (conv => whnf))))
    intro hlab
    ((conv => whnf); (repeat ((first | with_reducible refine abr_true rfl ?_ | with_reducible refine abr_false rfl ?_ | with_reducible refine abr_yes rfl ?_ | refine abr_yes (by decide) ?_ | refine abr_no (by decide) ?_ | with_reducible refine abr_same_ne ?_); (conv => whnf))))
    refine acall (bIsLevel n _) ?_
    rintro _ σ_ ⟨rfl, e_⟩
    obtain rfl := e_.symm
    refine ⟨?_, Ext.refl _⟩
    ((conv => whnf); (repeat ((first | with_reducible refine abr_true rfl ?_ | with_reducible refine abr_false rfl ?_ | with_reducible refine abr_yes rfl ?_ | refine abr_yes (by decide) ?_ | refine abr_no (by decide) ?_ | with_reducible refine abr_same_ne ?_); (conv => whnf))))
    by_cases h : isLevelV n = true
    case neg =>
      refine abr_true (by rw [Bool.eq_false_iff.2 h]; rfl) ?_
      ((conv => whnf); (repeat ((first | with_reducible refine abr_true rfl ?_ | with_reducible refine abr_false rfl ?_ | with_reducible refine abr_yes rfl ?_ | refine abr_yes (by decide) ?_ | refine abr_no (by decide) ?_ | with_reducible refine abr_same_ne ?_); (conv => whnf))))
      exact aret_same ⟨by rw [if_neg h, if_neg h], rfl⟩
    case pos =>
      have h2 := isLevelV_iff.1 h
      refine abr_false (by rw [h]; rfl) ?_
      ((conv => whnf); (repeat ((first | with_reducible refine abr_true rfl ?_ | with_reducible refine abr_false rfl ?_ | with_reducible refine abr_yes rfl ?_ | refine abr_yes (by decide) ?_ | refine abr_no (by decide) ?_ | with_reducible refine abr_same_ne ?_); (conv => whnf))))
      refine hlab _ (fun _ _ _ h => h) _ _ _ _ ⟨0, rfl, ⟨h, by omega⟩, rfl, Sub.refl _, ?_⟩
      ((conv => whnf); (repeat ((first | with_reducible refine abr_true rfl ?_ | with_reducible refine abr_false rfl ?_ | with_reducible refine abr_yes rfl ?_ | refine abr_yes (by decide) ?_ | refine abr_no (by decide) ?_ | with_reducible refine abr_same_ne ?_); (conv => whnf))))
      (repeat' first | with_reducible exact EnvLe.refl _ | (refine EnvLe.node ?_ (by first | exact Or.inl rfl | exact Or.inr (Or.inl rfl) | exact Or.inr (Or.inr ⟨nofun, VLe.slice _ _ _⟩)) ?_))
  · rintro i ⟨h, hi⟩
    have h2 := isLevelV_iff.1 h
    have hs := leastV_small i (by omega)
    have hs2 := leastV_small (i + 1) (by omega)
    refine ⟨_, rfl, ?_⟩
    ((conv => whnf); (repeat ((first | with_reducible refine abr_true rfl ?_ | with_reducible refine abr_false rfl ?_ | with_reducible refine abr_yes rfl ?_ | refine abr_yes (by decide) ?_ | refine abr_no (by decide) ?_ | with_reducible refine abr_same_ne ?_); (conv => whnf))))
    intro hlab
    ((conv => whnf); (repeat ((first | with_reducible refine abr_true rfl ?_ | with_reducible refine abr_false rfl ?_ | with_reducible refine abr_yes rfl ?_ | refine abr_yes (by decide) ?_ | refine abr_no (by decide) ?_ | with_reducible refine abr_same_ne ?_); (conv => whnf))))
    by_cases hlt : (i : Int) < n
    · (repeat ((first | refine aload (by (repeat (first | with_reducible exact upd_same _ _ _ | assumption | rw [upd_ne _ _ (by first | assumption | (apply Ne.symm; assumption))]))) rfl ?_ | refine afit_i64 (by omega) ?_ | refine arem_nonneg (by omega) (by omega) ?_ | refine adiv_i64 (by omega) (by omega) ?_ | refine abr_yes (by omega) ?_ | refine abr_no (by omega) ?_ | refine amin ?_ | refine amax ?_ | rw [List.length_map]); ((conv => whnf); (repeat ((first | with_reducible refine abr_true rfl ?_ | with_reducible refine abr_false rfl ?_ | with_reducible refine abr_yes rfl ?_ | refine abr_yes (by decide) ?_ | refine abr_no (by decide) ?_ | with_reducible refine abr_same_ne ?_); (conv => whnf))))))
      refine ⟨i + 1, rfl, ⟨h, by omega⟩, by omega, Sub.refl _, ?_⟩
      ((conv => whnf); (repeat ((first | with_reducible refine abr_true rfl ?_ | with_reducible refine abr_false rfl ?_ | with_reducible refine abr_yes rfl ?_ | refine abr_yes (by decide) ?_ | refine abr_no (by decide) ?_ | with_reducible refine abr_same_ne ?_); (conv => whnf))))
      rw [show (leastV i : Int) + ((leastV i : Int) / 6 + 1) = ((leastV (i + 1) : Nat) : Int) by show _ = ((leastV i + (leastV i / 6 + 1) : Nat) : Int); omega]
      (repeat' first | with_reducible exact EnvLe.refl _ | (refine EnvLe.node ?_ (by first | exact Or.inl rfl | exact Or.inr (Or.inl rfl) | exact Or.inr (Or.inr ⟨nofun, VLe.slice _ _ _⟩)) ?_))
    · (repeat ((first | refine aload (by (repeat (first | with_reducible exact upd_same _ _ _ | assumption | rw [upd_ne _ _ (by first | assumption | (apply Ne.symm; assumption))]))) rfl ?_ | refine afit_i64 (by omega) ?_ | refine arem_nonneg (by omega) (by omega) ?_ | refine adiv_i64 (by omega) (by omega) ?_ | refine abr_yes (by omega) ?_ | refine abr_no (by omega) ?_ | refine amin ?_ | refine amax ?_ | rw [List.length_map]); ((conv => whnf); (repeat ((first | with_reducible refine abr_true rfl ?_ | with_reducible refine abr_false rfl ?_ | with_reducible refine abr_yes rfl ?_ | refine abr_yes (by decide) ?_ | refine abr_no (by decide) ?_ | with_reducible refine abr_same_ne ?_); (conv => whnf))))))
      refine aret_same ⟨?_, rfl⟩
      rw [h, if_pos rfl, if_pos rfl, show n.toNat = i by omega]

theorem bLevel (n : Int) (σ : AHeap) : ACalls Try.prog i_bsr_Level [i64v n] σ fun v σ' => v = .tup [i64v (if n < 0 then 0 else (levelV n.toNat : Int)), i64v (if n < 0 then 1 else 0)] ∧ σ' = σ := by
  refine k_bsr_Level rfl ?_
  ((conv => whnf); (repeat ((first | with_reducible refine abr_true rfl ?_ | with_reducible refine abr_false rfl ?_ | with_reducible refine abr_yes rfl ?_ | refine abr_yes (by decide) ?_ | refine abr_no (by decide) ?_ | with_reducible refine abr_same_ne ?_); (conv => whnf))))
  refine ascope' (α := Nat) (fun i => [(s4, i64v (leastV i)), (s5, i64v i)]) (fun _ => σ) (fun _ => 0) (fun i => 0 ≤ n ∧ i ≤ 63 ∧ leastV i ≤ n.toNat) (fun i => 63 - i) ?_ ?_
  · ((conv => whnf); (repeat ((first | with_reducible refine abr_true rfl ?_ | with_reducible refine abr_false rfl ?_ | with_reducible refine abr_yes rfl ?_ | refine abr_yes (by decide) ?_ | refine abr_no (by decide) ?_ | with_reducible refine abr_same_ne ?_); (conv => whnf))))
    intro hlab
    ((conv => whnf); (repeat ((first | with_reducible refine abr_true rfl ?_ | with_reducible refine abr_false rfl ?_ | with_reducible refine abr_yes rfl ?_ | refine abr_yes (by decide) ?_ | refine abr_no (by decide) ?_ | with_reducible refine abr_same_ne ?_); (conv => whnf))))
    by_cases h : n < 0
    · (repeat ((first | refine aload (by (repeat (first | with_reducible exact upd_same _ _ _ | assumption | rw [upd_ne _ _ (by first | assumption | (apply Ne.symm; assumption))]))) rfl ?_ | refine afit_i64 (by omega) ?_ | refine arem_nonneg (by omega) (by omega) ?_ | refine adiv_i64 (by omega) (by omega) ?_ | refine abr_yes (by omega) ?_ | refine abr_no (by omega) ?_ | refine amin ?_ | refine amax ?_ | rw [List.length_map]); ((conv => whnf); (repeat ((first | with_reducible refine abr_true rfl ?_ | with_reducible refine abr_false rfl ?_ | with_reducible refine abr_yes rfl ?_ | refine abr_yes (by decide) ?_ | refine abr_no (by decide) ?_ | with_reducible refine abr_same_ne ?_); (conv => whnf))))))
      exact aret_same ⟨by rw [if_pos h, if_pos h], rfl⟩
    · (repeat ((first | refine aload (by (repeat (first | with_reducible exact upd_same _ _ _ | assumption | rw [upd_ne _ _ (by first | assumption | (apply Ne.symm; assumption))]))) rfl ?_ | refine afit_i64 (by omega) ?_ | refine arem_nonneg (by omega) (by omega) ?_ | refine adiv_i64 (by omega) (by omega) ?_ | refine abr_yes (by omega) ?_ | refine abr_no (by omega) ?_ | refine amin ?_ | refine amax ?_ | rw [List.length_map]); ((conv => whnf); (repeat ((first | with_reducible refine abr_true rfl ?_ | with_reducible refine abr_false rfl ?_ | with_reducible refine abr_yes rfl ?_ | refine abr_yes (by decide) ?_ | refine abr_no (by decide) ?_ | with_reducible refine abr_same_ne ?_); (conv => whnf))))))
      refine hlab _ (fun _ _ _ h => h) _ _ _ _ ⟨0, rfl, ⟨by omega, by omega, Nat.zero_le _⟩, rfl, Sub.refl _, ?_⟩
      ((conv => whnf); (repeat ((first | with_reducible refine abr_true rfl ?_ | with_reducible refine abr_false rfl ?_ | with_reducible refine abr_yes rfl ?_ | refine abr_yes (by decide) ?_ | refine abr_no (by decide) ?_ | with_reducible refine abr_same_ne ?_); (conv => whnf))))
      (repeat' first | with_reducible exact EnvLe.refl _ | (refine EnvLe.node ?_ (by first | exact Or.inl rfl | exact Or.inr (Or.inl rfl) | exact Or.inr (Or.inr ⟨nofun, VLe.slice _ _ _⟩)) ?_))
  · rintro i ⟨h, h63, hi⟩
    have hs := leastV_small i (by omega)
    have hs2 := leastV_small (i + 1) (by omega)
    have next : (leastV i : Int) + (leastV i : Int) / 6 + 1 = ((leastV (i + 1) : Nat) : Int) := by show _ = ((leastV i + (leastV i / 6 + 1) : Nat) : Int); omega
    refine ⟨_, rfl, ?_⟩
    ((conv => whnf); (repeat ((first | with_reducible refine abr_true rfl ?_ | with_reducible refine abr_false rfl ?_ | with_reducible refine abr_yes rfl ?_ | refine abr_yes (by decide) ?_ | refine abr_no (by decide) ?_ | with_reducible refine abr_same_ne ?_); (conv => whnf))))
    intro hlab
    ((conv => whnf); (repeat ((first | with_reducible refine abr_true rfl ?_ | with_reducible refine abr_false rfl ?_ | with_reducible refine abr_yes rfl ?_ | refine abr_yes (by decide) ?_ | refine abr_no (by decide) ?_ | with_reducible refine abr_same_ne ?_); (conv => whnf))))
    (repeat ((first | refine aload (by (repeat (first | with_reducible exact upd_same _ _ _ | assumption | rw [upd_ne _ _ (by first | assumption | (apply Ne.symm; assumption))]))) rfl ?_ | refine afit_i64 (by omega) ?_ | refine arem_nonneg (by omega) (by omega) ?_ | refine adiv_i64 (by omega) (by omega) ?_ | refine abr_yes (by omega) ?_ | refine abr_no (by omega) ?_ | refine amin ?_ | refine amax ?_ | rw [List.length_map]); ((conv => whnf); (repeat ((first | with_reducible refine abr_true rfl ?_ | with_reducible refine abr_false rfl ?_ | with_reducible refine abr_yes rfl ?_ | refine abr_yes (by decide) ?_ | refine abr_no (by decide) ?_ | with_reducible refine abr_same_ne ?_); (conv => whnf))))))
    rw [next]
    by_cases h1 : i < 63
    · by_cases h2 : ((leastV (i + 1) : Nat) : Int) ≤ n
      · (repeat ((first | refine aload (by (repeat (first | with_reducible exact upd_same _ _ _ | assumption | rw [upd_ne _ _ (by first | assumption | (apply Ne.symm; assumption))]))) rfl ?_ | refine afit_i64 (by omega) ?_ | refine arem_nonneg (by omega) (by omega) ?_ | refine adiv_i64 (by omega) (by omega) ?_ | refine abr_yes (by omega) ?_ | refine abr_no (by omega) ?_ | refine amin ?_ | refine amax ?_ | rw [List.length_map]); ((conv => whnf); (repeat ((first | with_reducible refine abr_true rfl ?_ | with_reducible refine abr_false rfl ?_ | with_reducible refine abr_yes rfl ?_ | refine abr_yes (by decide) ?_ | refine abr_no (by decide) ?_ | with_reducible refine abr_same_ne ?_); (conv => whnf))))))
        refine ⟨i + 1, rfl, ⟨h, by omega, by omega⟩, by omega, Sub.refl _, ?_⟩
        ((conv => whnf); (repeat ((first | with_reducible refine abr_true rfl ?_ | with_reducible refine abr_false rfl ?_ | with_reducible refine abr_yes rfl ?_ | refine abr_yes (by decide) ?_ | refine abr_no (by decide) ?_ | with_reducible refine abr_same_ne ?_); (conv => whnf))))
        (repeat' first | with_reducible exact EnvLe.refl _ | (refine EnvLe.node ?_ (by first | exact Or.inl rfl | exact Or.inr (Or.inl rfl) | exact Or.inr (Or.inr ⟨nofun, VLe.slice _ _ _⟩)) ?_))
      · (repeat ((first | refine aload (by (repeat (first | with_reducible exact upd_same _ _ _ | assumption | rw [upd_ne _ _ (by first | assumption | (apply Ne.symm; assumption))]))) rfl ?_ | refine afit_i64 (by omega) ?_ | refine arem_nonneg (by omega) (by omega) ?_ | refine adiv_i64 (by omega) (by omega) ?_ | refine abr_yes (by omega) ?_ | refine abr_no (by omega) ?_ | refine amin ?_ | refine amax ?_ | rw [List.length_map]); ((conv => whnf); (repeat ((first | with_reducible refine abr_true rfl ?_ | with_reducible refine abr_false rfl ?_ | with_reducible refine abr_yes rfl ?_ | refine abr_yes (by decide) ?_ | refine abr_no (by decide) ?_ | with_reducible refine abr_same_ne ?_); (conv => whnf))))))
        refine aret_same ⟨?_, rfl⟩
        rw [if_neg (by omega), if_neg (by omega), levelV_is hi h63 (.inr (by omega))]
    · (repeat ((first | refine aload (by (repeat (first | with_reducible exact upd_same _ _ _ | assumption | rw [upd_ne _ _ (by first | assumption | (apply Ne.symm; assumption))]))) rfl ?_ | refine afit_i64 (by omega) ?_ | refine arem_nonneg (by omega) (by omega) ?_ | refine adiv_i64 (by omega) (by omega) ?_ | refine abr_yes (by omega) ?_ | refine abr_no (by omega) ?_ | refine amin ?_ | refine amax ?_ | rw [List.length_map]); ((conv => whnf); (repeat ((first | with_reducible refine abr_true rfl ?_ | with_reducible refine abr_false rfl ?_ | with_reducible refine abr_yes rfl ?_ | refine abr_yes (by decide) ?_ | refine abr_no (by decide) ?_ | with_reducible refine abr_same_ne ?_); (conv => whnf))))))
      refine aret_same ⟨?_, rfl⟩
      rw [if_neg (by omega), if_neg (by omega), levelV_is hi h63 (.inl (by omega))]

abbrev rep (rs : List Int) : AVal := .agg (rs.map i64v)
theorem get_rep {rs : List Int} {i : Nat} (h : i < rs.length) : (rs.map i64v)[i]? = some (i64v rs[i]) := by
  rw [List.getElem?_map, List.getElem?_eq_getElem h]; rfl
theorem cells_rep (rs : List Int) : (rs.map i64v).all AVal.isCell = true := by
  rw [List.all_eq_true]; intro x hx; obtain ⟨b, _, rfl⟩ := List.mem_map.1 hx; rfl
theorem all_take {rs : List Int} {p : Int → Bool} {i : Nat} (hi : i < rs.length) (h : (rs.take i).all p = true) (hp : p rs[i] = true) : (rs.take (i + 1)).all p = true := by
  rw [take_snoc (List.getElem?_eq_getElem hi), List.all_append, h]; simp [hp]

theorem four {rs : List Int} (h : rs.length = 4) : ∃ a b c d, rs = [a, b, c, d] := by
  match rs, h with
  | [a, b, c, d], _ => exact ⟨a, b, c, d, rfl⟩

theorem get4 {a b c d : Int} {rs : List Int} (hr : [a, b, c, d] = rs) {i : Nat} (h : i < rs.length) : [i64v a, i64v b, i64v c, i64v d][((i : Nat) : Int).toNat * 1]? = some (i64v rs[i]) := by
  subst hr
  rw [Int.toNat_natCast, Nat.mul_one]; exact get_rep h

set_option maxRecDepth 10000 in
theorem bRight (rs : List Int) (h4 : rs.length = 4) (σ : AHeap) : ACalls Try.prog i_bsr_Right [rep rs] σ fun v σ' => v = boolv (rs.all isLevelV) ∧ σ' = σ := by
  obtain ⟨a, b, c, d, rfl⟩ := four h4
  refine k_bsr_Right rfl ?_
  ((conv => whnf); (repeat ((first | with_reducible refine abr_true rfl ?_ | with_reducible refine abr_false rfl ?_ | with_reducible refine abr_yes rfl ?_ | refine abr_yes (by decide) ?_ | refine abr_no (by decide) ?_ | with_reducible refine abr_same_ne ?_); (conv => whnf))))
  refine anew rfl fun id hid => ?_
  ((conv => whnf); (repeat ((first | with_reducible refine abr_true rfl ?_ | with_reducible refine abr_false rfl ?_ | with_reducible refine abr_yes rfl ?_ | refine abr_yes (by decide) ?_ | refine abr_no (by decide) ?_ | with_reducible refine abr_same_ne ?_); (conv => whnf))))
  refine aloads (l := [i64v a, i64v b, i64v c, i64v d]) (upd_same _ _ _) (by exact Nat.le_refl 4) rfl ?_
  ((conv => whnf); (repeat ((first | with_reducible refine abr_true rfl ?_ | with_reducible refine abr_false rfl ?_ | with_reducible refine abr_yes rfl ?_ | refine abr_yes (by decide) ?_ | refine abr_no (by decide) ?_ | with_reducible refine abr_same_ne ?_); (conv => whnf))))
  refine aloop (α := Nat) (fun i => [(s6, i64v i)]) (fun _ => upd σ id (.cells ([a, b, c, d].map i64v))) (fun i => i ≤ 4 ∧ ([a, b, c, d].take i).all isLevelV = true) (fun i => 4 - i) 0 ⟨by omega, rfl⟩ (Sub.refl _) ?_ ?_
  · ((conv => whnf); (repeat ((first | with_reducible refine abr_true rfl ?_ | with_reducible refine abr_false rfl ?_ | with_reducible refine abr_yes rfl ?_ | refine abr_yes (by decide) ?_ | refine abr_no (by decide) ?_ | with_reducible refine abr_same_ne ?_); (conv => whnf))))
    (repeat' first | with_reducible exact EnvLe.refl _ | (refine EnvLe.node ?_ (by first | exact Or.inl rfl | exact Or.inr (Or.inl rfl) | exact Or.inr (Or.inr ⟨nofun, VLe.slice _ _ _⟩)) ?_))
  · rintro i ⟨hi, hall⟩
    have hlen : [a, b, c, d].length = 4 := rfl
    generalize hr : [a, b, c, d] = rs at *
    by_cases h : i < 4
    · ((conv => whnf); (repeat ((first | with_reducible refine abr_true rfl ?_ | with_reducible refine abr_false rfl ?_ | with_reducible refine abr_yes rfl ?_ | refine abr_yes (by decide) ?_ | refine abr_no (by decide) ?_ | with_reducible refine abr_same_ne ?_); (conv => whnf))))
      (repeat ((first | refine aload (by (repeat (first | with_reducible exact upd_same _ _ _ | assumption | rw [upd_ne _ _ (by first | assumption | (apply Ne.symm; assumption))]))) rfl ?_ | refine afit_i64 (by omega) ?_ | refine arem_nonneg (by omega) (by omega) ?_ | refine adiv_i64 (by omega) (by omega) ?_ | refine abr_yes (by omega) ?_ | refine abr_no (by omega) ?_ | refine amin ?_ | refine amax ?_ | rw [List.length_map]); ((conv => whnf); (repeat ((first | with_reducible refine abr_true rfl ?_ | with_reducible refine abr_false rfl ?_ | with_reducible refine abr_yes rfl ?_ | refine abr_yes (by decide) ?_ | refine abr_no (by decide) ?_ | with_reducible refine abr_same_ne ?_); (conv => whnf))))))
      refine aidx (by omega) (by omega) ?_
      refine acell (get4 hr (by omega)) ?_
      ((conv => whnf); (repeat ((first | with_reducible refine abr_true rfl ?_ | with_reducible refine abr_false rfl ?_ | with_reducible refine abr_yes rfl ?_ | refine abr_yes (by decide) ?_ | refine abr_no (by decide) ?_ | with_reducible refine abr_same_ne ?_); (conv => whnf))))
      refine acall (bIsLevel rs[i] _) ?_
      rintro _ σ_ ⟨rfl, e_⟩
      obtain rfl := e_.symm
      refine ⟨?_, Ext.refl _⟩
      ((conv => whnf); (repeat ((first | with_reducible refine abr_true rfl ?_ | with_reducible refine abr_false rfl ?_ | with_reducible refine abr_yes rfl ?_ | refine abr_yes (by decide) ?_ | refine abr_no (by decide) ?_ | with_reducible refine abr_same_ne ?_); (conv => whnf))))
      by_cases hl : isLevelV rs[i] = true
      · refine abr_false (by rw [hl]; rfl) ?_
        ((conv => whnf); (repeat ((first | with_reducible refine abr_true rfl ?_ | with_reducible refine abr_false rfl ?_ | with_reducible refine abr_yes rfl ?_ | refine abr_yes (by decide) ?_ | refine abr_no (by decide) ?_ | with_reducible refine abr_same_ne ?_); (conv => whnf))))
        (repeat ((first | refine aload (by (repeat (first | with_reducible exact upd_same _ _ _ | assumption | rw [upd_ne _ _ (by first | assumption | (apply Ne.symm; assumption))]))) rfl ?_ | refine afit_i64 (by omega) ?_ | refine arem_nonneg (by omega) (by omega) ?_ | refine adiv_i64 (by omega) (by omega) ?_ | refine abr_yes (by omega) ?_ | refine abr_no (by omega) ?_ | refine amin ?_ | refine amax ?_ | rw [List.length_map]); ((conv => whnf); (repeat ((first | with_reducible refine abr_true rfl ?_ | with_reducible refine abr_false rfl ?_ | with_reducible refine abr_yes rfl ?_ | refine abr_yes (by decide) ?_ | refine abr_no (by decide) ?_ | with_reducible refine abr_same_ne ?_); (conv => whnf))))))
        refine ⟨i + 1, ⟨by omega, all_take (by omega) hall hl⟩, by omega, Sub.refl _, ?_⟩
        ((conv => whnf); (repeat ((first | with_reducible refine abr_true rfl ?_ | with_reducible refine abr_false rfl ?_ | with_reducible refine abr_yes rfl ?_ | refine abr_yes (by decide) ?_ | refine abr_no (by decide) ?_ | with_reducible refine abr_same_ne ?_); (conv => whnf))))
        (repeat' first | with_reducible exact EnvLe.refl _ | (refine EnvLe.node ?_ (by first | exact Or.inl rfl | exact Or.inr (Or.inl rfl) | exact Or.inr (Or.inr ⟨nofun, VLe.slice _ _ _⟩)) ?_))
      · refine abr_true (by rw [Bool.eq_false_iff.2 hl]; rfl) ?_
        ((conv => whnf); (repeat ((first | with_reducible refine abr_true rfl ?_ | with_reducible refine abr_false rfl ?_ | with_reducible refine abr_yes rfl ?_ | refine abr_yes (by decide) ?_ | refine abr_no (by decide) ?_ | with_reducible refine abr_same_ne ?_); (conv => whnf))))
        refine aret (VLe.refl _) (Sub.upd_fresh _ hid) ⟨?_, rfl⟩
        refine congrArg boolv (Bool.eq_false_iff.2 fun h => ?_).symm
        exact hl (List.all_eq_true.1 h _ (List.getElem_mem _))
    · ((conv => whnf); (repeat ((first | with_reducible refine abr_true rfl ?_ | with_reducible refine abr_false rfl ?_ | with_reducible refine abr_yes rfl ?_ | refine abr_yes (by decide) ?_ | refine abr_no (by decide) ?_ | with_reducible refine abr_same_ne ?_); (conv => whnf))))
      (repeat ((first | refine aload (by (repeat (first | with_reducible exact upd_same _ _ _ | assumption | rw [upd_ne _ _ (by first | assumption | (apply Ne.symm; assumption))]))) rfl ?_ | refine afit_i64 (by omega) ?_ | refine arem_nonneg (by omega) (by omega) ?_ | refine adiv_i64 (by omega) (by omega) ?_ | refine abr_yes (by omega) ?_ | refine abr_no (by omega) ?_ | refine amin ?_ | refine amax ?_ | rw [List.length_map]); ((conv => whnf); (repeat ((first | with_reducible refine abr_true rfl ?_ | with_reducible refine abr_false rfl ?_ | with_reducible refine abr_yes rfl ?_ | refine abr_yes (by decide) ?_ | refine abr_no (by decide) ?_ | with_reducible refine abr_same_ne ?_); (conv => whnf))))))
      refine aret (VLe.refl _) (Sub.upd_fresh _ hid) ⟨?_, rfl⟩
      rw [List.take_of_length_le (by omega)] at hall
      rw [hall]

/-- The bits of a report. -/
def repBits (rs : List Int) : List Bool := rs.flatMap fun n => numBits n.toNat 6
theorem repBits_length (rs : List Int) : (repBits rs).length = 6 * rs.length := by
  induction rs with
  | nil => rfl
  | cons x rs ih => unfold repBits at *; rw [List.flatMap_cons, List.length_append, ih, numBits_length, List.length_cons]; omega
theorem repBits_take (rs : List Int) (i : Nat) (h : i < rs.length) : repBits (rs.take (i + 1)) = repBits (rs.take i) ++ numBits rs[i].toNat 6 := by
  rw [take_snoc (List.getElem?_eq_getElem h)]; unfold repBits; rw [List.flatMap_append]; simp
theorem put6 (bs : List Bool) (n : Nat) (h : bs.length ≤ 65530) (hn : n < 64) : putCode bs.length n 6 = 0 ∧ putBits bs n 6 = bs ++ numBits n 6 := by
  have hc : putCode bs.length n 6 = 0 := by
    refine putCode_fine ?_ (by omega)
    unfold putBad
    rw [decide_eq_false (by omega), decide_eq_false (by omega), decide_eq_false]
    · rfl
    · show ¬ n / 2 ^ 6 ≠ 0
      omega
  exact ⟨hc, putBits_ok hc⟩

set_option maxRecDepth 10000 in
theorem bWrite (rs : List Int) (h4 : rs.length = 4) (σ : AHeap) : ACalls Try.prog i_bsr_Write [rep rs] σ fun v σ' => v = .tup [sl .none (if rs.all isLevelV = true then pack (repBits rs) else []), i64v (if rs.all isLevelV = true then 0 else 3)] ∧ σ' = σ := by
  have hb4 := repBits_length rs
  obtain ⟨a, b, c, d, hr⟩ := four h4
  refine k_bsr_Write rfl ?_
  rw [hr]
  ((conv => whnf); (repeat ((first | with_reducible refine abr_true rfl ?_ | with_reducible refine abr_false rfl ?_ | with_reducible refine abr_yes rfl ?_ | refine abr_yes (by decide) ?_ | refine abr_no (by decide) ?_ | with_reducible refine abr_same_ne ?_); (conv => whnf))))
  refine anew rfl fun id hid => ?_
  ((conv => whnf); (repeat ((first | with_reducible refine abr_true rfl ?_ | with_reducible refine abr_false rfl ?_ | with_reducible refine abr_yes rfl ?_ | refine abr_yes (by decide) ?_ | refine abr_no (by decide) ?_ | with_reducible refine abr_same_ne ?_); (conv => whnf))))
  refine aloads (l := [i64v a, i64v b, i64v c, i64v d]) (upd_same _ _ _) (by exact Nat.le_refl 4) rfl ?_
  ((conv => whnf); (repeat ((first | with_reducible refine abr_true rfl ?_ | with_reducible refine abr_false rfl ?_ | with_reducible refine abr_yes rfl ?_ | refine abr_yes (by decide) ?_ | refine abr_no (by decide) ?_ | with_reducible refine abr_same_ne ?_); (conv => whnf))))
  refine acall (bRight [a, b, c, d] rfl _) ?_
  rintro _ σ_ ⟨rfl, e_⟩
  obtain rfl := e_.symm
  refine ⟨?_, Ext.refl _⟩
  ((conv => whnf); (repeat ((first | with_reducible refine abr_true rfl ?_ | with_reducible refine abr_false rfl ?_ | with_reducible refine abr_yes rfl ?_ | refine abr_yes (by decide) ?_ | refine abr_no (by decide) ?_ | with_reducible refine abr_same_ne ?_); (conv => whnf))))
  by_cases hok : rs.all isLevelV = true
  · refine abr_false (by rw [← hr, hok]; rfl) ?_
    ((conv => whnf); (repeat ((first | with_reducible refine abr_true rfl ?_ | with_reducible refine abr_false rfl ?_ | with_reducible refine abr_yes rfl ?_ | refine abr_yes (by decide) ?_ | refine abr_no (by decide) ?_ | with_reducible refine abr_same_ne ?_); (conv => whnf))))
    refine acall (wNew _) ?_
    rintro _ σ1 ⟨iw, rfl, w1⟩
    refine ⟨?_, w1.ext⟩
    ((conv => whnf); (repeat ((first | with_reducible refine abr_true rfl ?_ | with_reducible refine abr_false rfl ?_ | with_reducible refine abr_yes rfl ?_ | refine abr_yes (by decide) ?_ | refine abr_no (by decide) ?_ | with_reducible refine abr_same_ne ?_); (conv => whnf))))
    refine aloads (l := [i64v a, i64v b, i64v c, i64v d]) (w1.ext id _ rfl (upd_same _ _ _)) (by exact Nat.le_refl 4) rfl ?_
    ((conv => whnf); (repeat ((first | with_reducible refine abr_true rfl ?_ | with_reducible refine abr_false rfl ?_ | with_reducible refine abr_yes rfl ?_ | refine abr_yes (by decide) ?_ | refine abr_no (by decide) ?_ | with_reducible refine abr_same_ne ?_); (conv => whnf))))
    refine aloop (α := Nat × AHeap) (fun x => [(s12, i64v x.1)]) (fun x => x.2) (fun x => x.1 ≤ 4 ∧ Wr x.2 iw (repBits (rs.take x.1)) (upd σ id (.cells ([a, b, c, d].map i64v)))) (fun x => 4 - x.1) (0, σ1) ⟨by omega, w1⟩ (Sub.refl _) ?_ ?_
    · ((conv => whnf); (repeat ((first | with_reducible refine abr_true rfl ?_ | with_reducible refine abr_false rfl ?_ | with_reducible refine abr_yes rfl ?_ | refine abr_yes (by decide) ?_ | refine abr_no (by decide) ?_ | with_reducible refine abr_same_ne ?_); (conv => whnf))))
      (repeat' first | with_reducible exact EnvLe.refl _ | (refine EnvLe.node ?_ (by first | exact Or.inl rfl | exact Or.inr (Or.inl rfl) | exact Or.inr (Or.inr ⟨nofun, VLe.slice _ _ _⟩)) ?_))
    · rintro ⟨i, σ2⟩ ⟨hi, w2⟩
      dsimp only at hi w2 ⊢
      have hbl : (repBits (rs.take i)).length ≤ 24 := by rw [repBits_length, List.length_take]; omega
      by_cases h : i < 4
      · have hl := isLevelV_iff.1 (List.all_eq_true.1 hok rs[i] (List.getElem_mem (by omega)))
        have hp := put6 (repBits (rs.take i)) rs[i].toNat (by omega) (by omega)
        ((conv => whnf); (repeat ((first | with_reducible refine abr_true rfl ?_ | with_reducible refine abr_false rfl ?_ | with_reducible refine abr_yes rfl ?_ | refine abr_yes (by decide) ?_ | refine abr_no (by decide) ?_ | with_reducible refine abr_same_ne ?_); (conv => whnf))))
        (repeat ((first | refine aload (by (repeat (first | with_reducible exact upd_same _ _ _ | assumption | rw [upd_ne _ _ (by first | assumption | (apply Ne.symm; assumption))]))) rfl ?_ | refine afit_i64 (by omega) ?_ | refine arem_nonneg (by omega) (by omega) ?_ | refine adiv_i64 (by omega) (by omega) ?_ | refine abr_yes (by omega) ?_ | refine abr_no (by omega) ?_ | refine amin ?_ | refine amax ?_ | rw [List.length_map]); ((conv => whnf); (repeat ((first | with_reducible refine abr_true rfl ?_ | with_reducible refine abr_false rfl ?_ | with_reducible refine abr_yes rfl ?_ | refine abr_yes (by decide) ?_ | refine abr_no (by decide) ?_ | with_reducible refine abr_same_ne ?_); (conv => whnf))))))
        refine aidx (by omega) (by omega) ?_
        refine acell (get4 hr.symm (by omega)) ?_
        ((conv => whnf); (repeat ((first | with_reducible refine abr_true rfl ?_ | with_reducible refine abr_false rfl ?_ | with_reducible refine abr_yes rfl ?_ | refine abr_yes (by decide) ?_ | refine abr_no (by decide) ?_ | with_reducible refine abr_same_ne ?_); (conv => whnf))))
        refine afit_eq (m := ((rs[i].toNat : Nat) : Int)) (by rw [Int.toNat_of_nonneg hl.1]; exact wrap_u64 (by omega) (by omega)) ?_
        ((conv => whnf); (repeat ((first | with_reducible refine abr_true rfl ?_ | with_reducible refine abr_false rfl ?_ | with_reducible refine abr_yes rfl ?_ | refine abr_yes (by decide) ?_ | refine abr_no (by decide) ?_ | with_reducible refine abr_same_ne ?_); (conv => whnf))))
        refine acall (wPut iw _ rs[i].toNat 6 _ _ w2 (by omega) (by omega)) ?_
        rintro _ σ3 ⟨rfl, w3⟩
        rw [hp.2, ← repBits_take rs i (by omega)] at w3
        ((conv => whnf); (repeat ((first | with_reducible refine abr_true rfl ?_ | with_reducible refine abr_false rfl ?_ | with_reducible refine abr_yes rfl ?_ | refine abr_yes (by decide) ?_ | refine abr_no (by decide) ?_ | with_reducible refine abr_same_ne ?_); (conv => whnf))))
        (repeat ((first | refine aload (by (repeat (first | with_reducible exact upd_same _ _ _ | assumption | rw [upd_ne _ _ (by first | assumption | (apply Ne.symm; assumption))]))) rfl ?_ | refine afit_i64 (by omega) ?_ | refine arem_nonneg (by omega) (by omega) ?_ | refine adiv_i64 (by omega) (by omega) ?_ | refine abr_yes (by omega) ?_ | refine abr_no (by omega) ?_ | refine amin ?_ | refine amax ?_ | rw [List.length_map]); ((conv => whnf); (repeat ((first | with_reducible refine abr_true rfl ?_ | with_reducible refine abr_false rfl ?_ | with_reducible refine abr_yes rfl ?_ | refine abr_yes (by decide) ?_ | refine abr_no (by decide) ?_ | with_reducible refine abr_same_ne ?_); (conv => whnf))))))
        refine ⟨(i + 1, σ3), ⟨by dsimp only; omega, w3⟩, by dsimp only; omega, Sub.refl _, ?_⟩
        ((conv => whnf); (repeat ((first | with_reducible refine abr_true rfl ?_ | with_reducible refine abr_false rfl ?_ | with_reducible refine abr_yes rfl ?_ | refine abr_yes (by decide) ?_ | refine abr_no (by decide) ?_ | with_reducible refine abr_same_ne ?_); (conv => whnf))))
        (repeat' first | with_reducible exact EnvLe.refl _ | (refine EnvLe.node ?_ (by first | exact Or.inl rfl | exact Or.inr (Or.inl rfl) | exact Or.inr (Or.inr ⟨nofun, VLe.slice _ _ _⟩)) ?_))
      · rw [List.take_of_length_le (by omega)] at w2
        ((conv => whnf); (repeat ((first | with_reducible refine abr_true rfl ?_ | with_reducible refine abr_false rfl ?_ | with_reducible refine abr_yes rfl ?_ | refine abr_yes (by decide) ?_ | refine abr_no (by decide) ?_ | with_reducible refine abr_same_ne ?_); (conv => whnf))))
        (repeat ((first | refine aload (by (repeat (first | with_reducible exact upd_same _ _ _ | assumption | rw [upd_ne _ _ (by first | assumption | (apply Ne.symm; assumption))]))) rfl ?_ | refine afit_i64 (by omega) ?_ | refine arem_nonneg (by omega) (by omega) ?_ | refine adiv_i64 (by omega) (by omega) ?_ | refine abr_yes (by omega) ?_ | refine abr_no (by omega) ?_ | refine amin ?_ | refine amax ?_ | rw [List.length_map]); ((conv => whnf); (repeat ((first | with_reducible refine abr_true rfl ?_ | with_reducible refine abr_false rfl ?_ | with_reducible refine abr_yes rfl ?_ | refine abr_yes (by decide) ?_ | refine abr_no (by decide) ?_ | with_reducible refine abr_same_ne ?_); (conv => whnf))))))
        refine acall (wBytes iw _ _ _ w2 (by omega)) ?_
        rintro _ σ_ ⟨rfl, e_⟩
        obtain rfl := e_.symm
        refine ⟨?_, Ext.refl _⟩
        ((conv => whnf); (repeat ((first | with_reducible refine abr_true rfl ?_ | with_reducible refine abr_false rfl ?_ | with_reducible refine abr_yes rfl ?_ | refine abr_yes (by decide) ?_ | refine abr_no (by decide) ?_ | with_reducible refine abr_same_ne ?_); (conv => whnf))))
        exact aret VLe.tup_sl (w2.sub.trans (Sub.upd_fresh _ hid)) ⟨by rw [← hr, if_pos hok, if_pos hok], rfl⟩
  · refine abr_true (by rw [← hr, Bool.eq_false_iff.2 hok]; rfl) ?_
    ((conv => whnf); (repeat ((first | with_reducible refine abr_true rfl ?_ | with_reducible refine abr_false rfl ?_ | with_reducible refine abr_yes rfl ?_ | refine abr_yes (by decide) ?_ | refine abr_no (by decide) ?_ | with_reducible refine abr_same_ne ?_); (conv => whnf))))
    exact aret VLe.tup_sl (Sub.upd_fresh _ hid) ⟨by rw [← hr, if_neg hok, if_neg hok]; rfl, rfl⟩
end Go.Proofs.Ytkdbmajkjlnpiab

