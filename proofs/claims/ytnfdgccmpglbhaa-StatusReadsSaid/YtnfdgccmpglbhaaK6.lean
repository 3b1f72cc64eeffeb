/-
  Texts of this claim, pack 6: Crefbits, Crefbitsb, Crefstw, Crefsts, Cstatg, Cstatm, Cstatr, Crefbitsc.
-/
import Derived.Test.YtnfdgccmpglbhaaK3
import Derived.Test.YtnfdgccmpglbhaaK5
/-
  The document's bits.
-/
namespace Go.Proofs.Ytnfdgccmpglbhaa
set_option linter.unusedVariables false
set_option linter.unusedSimpArgs false
open Go Go.Am

abbrev bl (t : Tok) (l : List Bool) : AVal := .slice 1 (l.map boolv) t
theorem get_bools {l : List Bool} {i : Nat} (h : i < l.length) : (l.map boolv)[((i : Nat) : Int).toNat]? = some (boolv l[i]) := by
  rw [Int.toNat_natCast, List.getElem?_map, List.getElem?_eq_getElem h]; rfl

theorem refFits (v : Nat) (n : Int) (σ : AHeap) (hv : v < 18446744073709551616) : ACalls Try.prog i_bowlineref01_fits [u64v v, i64v n] σ fun x σ' => x = boolv (!putBad v n) ∧ σ' = σ := by
  refine k_bowlineref01_fits rfl ?_
  ((conv => whnf); (repeat ((first | with_reducible refine abr_true rfl ?_ | with_reducible refine abr_false rfl ?_ | with_reducible refine abr_yes rfl ?_ | refine abr_yes (by decide) ?_ | refine abr_no (by decide) ?_ | with_reducible refine abr_same_ne ?_); (conv => whnf))))
  by_cases h1 : n < 0
  · (repeat ((first | refine aload (by (repeat (first | with_reducible exact upd_same _ _ _ | assumption | rw [upd_ne _ _ (by first | assumption | (apply Ne.symm; assumption))]))) rfl ?_ | refine afit_i64 (by omega) ?_ | refine arem_nonneg (by omega) (by omega) ?_ | refine adiv_i64 (by omega) (by omega) ?_ | refine abr_yes (by omega) ?_ | refine abr_no (by omega) ?_ | refine amin ?_ | refine amax ?_ | refine afit_u64 (by omega) ?_ | refine afit_u8 (by omega) ?_ | rw [List.length_map]); ((conv => whnf); (repeat ((first | with_reducible refine abr_true rfl ?_ | with_reducible refine abr_false rfl ?_ | with_reducible refine abr_yes rfl ?_ | refine abr_yes (by decide) ?_ | refine abr_no (by decide) ?_ | with_reducible refine abr_same_ne ?_); (conv => whnf))))))
    exact aret_same ⟨by simp [putBad, h1], rfl⟩
  · by_cases h2 : n > 64
    · (repeat ((first | refine aload (by (repeat (first | with_reducible exact upd_same _ _ _ | assumption | rw [upd_ne _ _ (by first | assumption | (apply Ne.symm; assumption))]))) rfl ?_ | refine afit_i64 (by omega) ?_ | refine arem_nonneg (by omega) (by omega) ?_ | refine adiv_i64 (by omega) (by omega) ?_ | refine abr_yes (by omega) ?_ | refine abr_no (by omega) ?_ | refine amin ?_ | refine amax ?_ | refine afit_u64 (by omega) ?_ | refine afit_u8 (by omega) ?_ | rw [List.length_map]); ((conv => whnf); (repeat ((first | with_reducible refine abr_true rfl ?_ | with_reducible refine abr_false rfl ?_ | with_reducible refine abr_yes rfl ?_ | refine abr_yes (by decide) ?_ | refine abr_no (by decide) ?_ | with_reducible refine abr_same_ne ?_); (conv => whnf))))))
      exact aret_same ⟨by simp [putBad, h2], rfl⟩
    · obtain ⟨k, rfl⟩ : ∃ k : Nat, n = k := ⟨n.toNat, by omega⟩
      (repeat ((first | refine aload (by (repeat (first | with_reducible exact upd_same _ _ _ | assumption | rw [upd_ne _ _ (by first | assumption | (apply Ne.symm; assumption))]))) rfl ?_ | refine afit_i64 (by omega) ?_ | refine arem_nonneg (by omega) (by omega) ?_ | refine adiv_i64 (by omega) (by omega) ?_ | refine abr_yes (by omega) ?_ | refine abr_no (by omega) ?_ | refine amin ?_ | refine amax ?_ | refine afit_u64 (by omega) ?_ | refine afit_u8 (by omega) ?_ | rw [List.length_map]); ((conv => whnf); (repeat ((first | with_reducible refine abr_true rfl ?_ | with_reducible refine abr_false rfl ?_ | with_reducible refine abr_yes rfl ?_ | refine abr_yes (by decide) ?_ | refine abr_no (by decide) ?_ | with_reducible refine abr_same_ne ?_); (conv => whnf))))))
      refine aloop (α := Nat) (fun i => [(s0, u64v (v / 2 ^ i)), (s5, i64v i)]) (fun _ => σ) (fun i => i ≤ k) (fun i => k - i) 0 (Nat.zero_le _) (Sub.refl _) ?_ ?_
      · ((conv => whnf); (repeat ((first | with_reducible refine abr_true rfl ?_ | with_reducible refine abr_false rfl ?_ | with_reducible refine abr_yes rfl ?_ | refine abr_yes (by decide) ?_ | refine abr_no (by decide) ?_ | with_reducible refine abr_same_ne ?_); (conv => whnf))))
        rw [Nat.pow_zero, Nat.div_one]
        (repeat' first | with_reducible exact EnvLe.refl _ | (refine EnvLe.node ?_ (by first | exact Or.inl rfl | exact Or.inr (Or.inl rfl) | exact Or.inr (Or.inr ⟨nofun, VLe.slice _ _ _⟩)) ?_))
      · rintro i hi
        by_cases h3 : i < k
        · ((conv => whnf); (repeat ((first | with_reducible refine abr_true rfl ?_ | with_reducible refine abr_false rfl ?_ | with_reducible refine abr_yes rfl ?_ | refine abr_yes (by decide) ?_ | refine abr_no (by decide) ?_ | with_reducible refine abr_same_ne ?_); (conv => whnf))))
          (repeat ((first | refine aload (by (repeat (first | with_reducible exact upd_same _ _ _ | assumption | rw [upd_ne _ _ (by first | assumption | (apply Ne.symm; assumption))]))) rfl ?_ | refine afit_i64 (by omega) ?_ | refine arem_nonneg (by omega) (by omega) ?_ | refine adiv_i64 (by omega) (by omega) ?_ | refine abr_yes (by omega) ?_ | refine abr_no (by omega) ?_ | refine amin ?_ | refine amax ?_ | refine afit_u64 (by omega) ?_ | refine afit_u8 (by omega) ?_ | rw [List.length_map]); ((conv => whnf); (repeat ((first | with_reducible refine abr_true rfl ?_ | with_reducible refine abr_false rfl ?_ | with_reducible refine abr_yes rfl ?_ | refine abr_yes (by decide) ?_ | refine abr_no (by decide) ?_ | with_reducible refine abr_same_ne ?_); (conv => whnf))))))
          refine adiv_u64 (b := 2) (by omega) (Nat.lt_of_le_of_lt (Nat.div_le_self _ _) hv) ?_
          ((conv => whnf); (repeat ((first | with_reducible refine abr_true rfl ?_ | with_reducible refine abr_false rfl ?_ | with_reducible refine abr_yes rfl ?_ | refine abr_yes (by decide) ?_ | refine abr_no (by decide) ?_ | with_reducible refine abr_same_ne ?_); (conv => whnf))))
          (repeat ((first | refine aload (by (repeat (first | with_reducible exact upd_same _ _ _ | assumption | rw [upd_ne _ _ (by first | assumption | (apply Ne.symm; assumption))]))) rfl ?_ | refine afit_i64 (by omega) ?_ | refine arem_nonneg (by omega) (by omega) ?_ | refine adiv_i64 (by omega) (by omega) ?_ | refine abr_yes (by omega) ?_ | refine abr_no (by omega) ?_ | refine amin ?_ | refine amax ?_ | refine afit_u64 (by omega) ?_ | refine afit_u8 (by omega) ?_ | rw [List.length_map]); ((conv => whnf); (repeat ((first | with_reducible refine abr_true rfl ?_ | with_reducible refine abr_false rfl ?_ | with_reducible refine abr_yes rfl ?_ | refine abr_yes (by decide) ?_ | refine abr_no (by decide) ?_ | with_reducible refine abr_same_ne ?_); (conv => whnf))))))
          refine ⟨i + 1, by omega, by omega, Sub.refl _, ?_⟩
          ((conv => whnf); (repeat ((first | with_reducible refine abr_true rfl ?_ | with_reducible refine abr_false rfl ?_ | with_reducible refine abr_yes rfl ?_ | refine abr_yes (by decide) ?_ | refine abr_no (by decide) ?_ | with_reducible refine abr_same_ne ?_); (conv => whnf))))
          rw [Nat.div_div_eq_div_mul, ← Nat.pow_succ]
          (repeat' first | with_reducible exact EnvLe.refl _ | (refine EnvLe.node ?_ (by first | exact Or.inl rfl | exact Or.inr (Or.inl rfl) | exact Or.inr (Or.inr ⟨nofun, VLe.slice _ _ _⟩)) ?_))
        · have : i = k := by omega
          subst this
          ((conv => whnf); (repeat ((first | with_reducible refine abr_true rfl ?_ | with_reducible refine abr_false rfl ?_ | with_reducible refine abr_yes rfl ?_ | refine abr_yes (by decide) ?_ | refine abr_no (by decide) ?_ | with_reducible refine abr_same_ne ?_); (conv => whnf))))
          (repeat ((first | refine aload (by (repeat (first | with_reducible exact upd_same _ _ _ | assumption | rw [upd_ne _ _ (by first | assumption | (apply Ne.symm; assumption))]))) rfl ?_ | refine afit_i64 (by omega) ?_ | refine arem_nonneg (by omega) (by omega) ?_ | refine adiv_i64 (by omega) (by omega) ?_ | refine abr_yes (by omega) ?_ | refine abr_no (by omega) ?_ | refine amin ?_ | refine amax ?_ | refine afit_u64 (by omega) ?_ | refine afit_u8 (by omega) ?_ | rw [List.length_map]); ((conv => whnf); (repeat ((first | with_reducible refine abr_true rfl ?_ | with_reducible refine abr_false rfl ?_ | with_reducible refine abr_yes rfl ?_ | refine abr_yes (by decide) ?_ | refine abr_no (by decide) ?_ | with_reducible refine abr_same_ne ?_); (conv => whnf))))))
          refine aret_same ⟨?_, rfl⟩
          unfold putBad
          rw [decide_eq_false h1, decide_eq_false h2]
          simp only [Bool.false_or, decide_not, Bool.not_not, Int.toNat_natCast]
          congr 2
          have : ((v / 2 ^ i : Nat) : Int) = 0 ↔ v / 2 ^ i = 0 := by omega
          exact decide_eq_decide.2 this

/-- The bits of a number, the lowest first. -/
def lowBits (v n : Nat) : List Bool := (List.range n).map v.testBit
theorem lowBits_succ (v n : Nat) : lowBits v (n + 1) = lowBits v n ++ [v.testBit n] := by unfold lowBits; rw [List.range_succ, List.map_append]; rfl
theorem lowBits_length (v n : Nat) : (lowBits v n).length = n := by unfold lowBits; simp
theorem lowBits_get {v n i : Nat} (h : i < n) : (lowBits v n)[i]? = some (v.testBit i) := by unfold lowBits; rw [List.getElem?_map, List.getElem?_range h]; rfl
theorem testBit_one (v i : Nat) : decide (((v / 2 ^ i % 2 : Nat) : Int) = 1) = v.testBit i := by
  rw [← testBit_nat]; cases v.testBit i <;> rfl

set_option maxRecDepth 10000 in
theorem refPutO (bs : List Bool) (t : Tok) (v : Nat) (n : Int) (σ : AHeap) (hv : v < 18446744073709551616) (hl : bs.length ≤ 65536) :
    ACalls Try.prog i_bowlineref01_Put [bl t bs, u64v v, i64v n] σ fun x σ' => (putCode bs.length v n = 0 ∧ ∃ tk, Owned σ σ' tk ∧ x = .tup [bl tk (bs ++ numBits v n.toNat), i64v 0]) ∨ (putCode bs.length v n ≠ 0 ∧ x = .tup [bl .none bs, i64v (putCode bs.length v n)] ∧ σ' = σ) := by
  refine k_bowlineref01_Put rfl ?_
  ((conv => whnf); (repeat ((first | with_reducible refine abr_true rfl ?_ | with_reducible refine abr_false rfl ?_ | with_reducible refine abr_yes rfl ?_ | refine abr_yes (by decide) ?_ | refine abr_no (by decide) ?_ | with_reducible refine abr_same_ne ?_); (conv => whnf))))
  refine acall (refFits v n _ hv) ?_
  rintro x σ' ⟨rfl, rfl⟩
  refine ⟨?_, Ext.refl _⟩
  cases hb : putBad v n with
  | true =>
    ((conv => whnf); (repeat ((first | with_reducible refine abr_true rfl ?_ | with_reducible refine abr_false rfl ?_ | with_reducible refine abr_yes rfl ?_ | refine abr_yes (by decide) ?_ | refine abr_no (by decide) ?_ | with_reducible refine abr_same_ne ?_); (conv => whnf))))
    exact aret VLe.tup_sl (Sub.refl _) (.inr ⟨by rw [putCode_bad hb]; decide, by rw [putCode_bad hb], rfl⟩)
  | false =>
    have h1 : ¬ n < 0 := fun h => by simp [putBad, h] at hb
    have h2 : ¬ n > 64 := fun h => by simp [putBad, h] at hb
    obtain ⟨k, rfl⟩ : ∃ k : Nat, n = k := ⟨n.toNat, by omega⟩
    ((conv => whnf); (repeat ((first | with_reducible refine abr_true rfl ?_ | with_reducible refine abr_false rfl ?_ | with_reducible refine abr_yes rfl ?_ | refine abr_yes (by decide) ?_ | refine abr_no (by decide) ?_ | with_reducible refine abr_same_ne ?_); (conv => whnf))))
    try rw [List.length_map]
    (repeat ((first | refine aload (by (repeat (first | with_reducible exact upd_same _ _ _ | assumption | rw [upd_ne _ _ (by first | assumption | (apply Ne.symm; assumption))]))) rfl ?_ | refine afit_i64 (by omega) ?_ | refine arem_nonneg (by omega) (by omega) ?_ | refine adiv_i64 (by omega) (by omega) ?_ | refine abr_yes (by omega) ?_ | refine abr_no (by omega) ?_ | refine amin ?_ | refine amax ?_ | refine afit_u64 (by omega) ?_ | refine afit_u8 (by omega) ?_ | rw [List.length_map]); ((conv => whnf); (repeat ((first | with_reducible refine abr_true rfl ?_ | with_reducible refine abr_false rfl ?_ | with_reducible refine abr_yes rfl ?_ | refine abr_yes (by decide) ?_ | refine abr_no (by decide) ?_ | with_reducible refine abr_same_ne ?_); (conv => whnf))))))
    by_cases h4 : (k : Int) > 65536 - (bs.length : Int)
    · refine abr_yes (by omega) ?_
      ((conv => whnf); (repeat ((first | with_reducible refine abr_true rfl ?_ | with_reducible refine abr_false rfl ?_ | with_reducible refine abr_yes rfl ?_ | refine abr_yes (by decide) ?_ | refine abr_no (by decide) ?_ | with_reducible refine abr_same_ne ?_); (conv => whnf))))
      exact aret VLe.tup_sl (Sub.refl _) (.inr ⟨by rw [putCode_full hb h4]; decide, by rw [putCode_full hb h4], rfl⟩)
    · have hc := putCode_fine hb h4
      refine abr_no (by omega) ?_
      ((conv => whnf); (repeat ((first | with_reducible refine abr_true rfl ?_ | with_reducible refine abr_false rfl ?_ | with_reducible refine abr_yes rfl ?_ | refine abr_yes (by decide) ?_ | refine abr_no (by decide) ?_ | with_reducible refine abr_same_ne ?_); (conv => whnf))))
      refine aloop (α := Nat × Tok × AHeap) (fun x => [(s1, u64v (v / 2 ^ x.1)), (s8, bl x.2.1 (lowBits v x.1)), (s10, i64v x.1)]) (fun x => x.2.2) (fun x => x.1 ≤ k ∧ Owned σ' x.2.2 x.2.1) (fun x => k - x.1) (0, .full, σ') ⟨Nat.zero_le _, .full _⟩ (Sub.refl _) ?_ ?_
      · ((conv => whnf); (repeat ((first | with_reducible refine abr_true rfl ?_ | with_reducible refine abr_false rfl ?_ | with_reducible refine abr_yes rfl ?_ | refine abr_yes (by decide) ?_ | refine abr_no (by decide) ?_ | with_reducible refine abr_same_ne ?_); (conv => whnf))))
        rw [Nat.pow_zero, Nat.div_one]
        (repeat' first | with_reducible exact EnvLe.refl _ | (refine EnvLe.node ?_ (by first | exact Or.inl rfl | exact Or.inr (Or.inl rfl) | exact Or.inr (Or.inr ⟨nofun, VLe.slice _ _ _⟩)) ?_))
      · rintro ⟨i, tk, σ1⟩ ⟨hi, ho⟩
        dsimp only at hi ho ⊢
        by_cases h3 : i < k
        · ((conv => whnf); (repeat ((first | with_reducible refine abr_true rfl ?_ | with_reducible refine abr_false rfl ?_ | with_reducible refine abr_yes rfl ?_ | refine abr_yes (by decide) ?_ | refine abr_no (by decide) ?_ | with_reducible refine abr_same_ne ?_); (conv => whnf))))
          (repeat ((first | refine aload (by (repeat (first | with_reducible exact upd_same _ _ _ | assumption | rw [upd_ne _ _ (by first | assumption | (apply Ne.symm; assumption))]))) rfl ?_ | refine afit_i64 (by omega) ?_ | refine arem_nonneg (by omega) (by omega) ?_ | refine adiv_i64 (by omega) (by omega) ?_ | refine abr_yes (by omega) ?_ | refine abr_no (by omega) ?_ | refine amin ?_ | refine amax ?_ | refine afit_u64 (by omega) ?_ | refine afit_u8 (by omega) ?_ | rw [List.length_map]); ((conv => whnf); (repeat ((first | with_reducible refine abr_true rfl ?_ | with_reducible refine abr_false rfl ?_ | with_reducible refine abr_yes rfl ?_ | refine abr_yes (by decide) ?_ | refine abr_no (by decide) ?_ | with_reducible refine abr_same_ne ?_); (conv => whnf))))))
          refine arem_nat (b := 2) (by omega) ?_
          ((conv => whnf); (repeat ((first | with_reducible refine abr_true rfl ?_ | with_reducible refine abr_false rfl ?_ | with_reducible refine abr_yes rfl ?_ | refine abr_yes (by decide) ?_ | refine abr_no (by decide) ?_ | with_reducible refine abr_same_ne ?_); (conv => whnf))))
          rw [testBit_one]
          refine aapp_owned ho (by rw [List.length_map, lowBits_length]; show (i + 1) * 1 ≤ _; omega) fun t' tk' ho' _ => ?_
          rw [show List.map boolv (lowBits v i) ++ [AVal.v (Value.bool (v.testBit i))] = List.map boolv (lowBits v (i + 1)) by rw [lowBits_succ, List.map_append]; rfl]
          ((conv => whnf); (repeat ((first | with_reducible refine abr_true rfl ?_ | with_reducible refine abr_false rfl ?_ | with_reducible refine abr_yes rfl ?_ | refine abr_yes (by decide) ?_ | refine abr_no (by decide) ?_ | with_reducible refine abr_same_ne ?_); (conv => whnf))))
          refine adiv_u64 (b := 2) (by omega) (Nat.lt_of_le_of_lt (Nat.div_le_self _ _) hv) ?_
          ((conv => whnf); (repeat ((first | with_reducible refine abr_true rfl ?_ | with_reducible refine abr_false rfl ?_ | with_reducible refine abr_yes rfl ?_ | refine abr_yes (by decide) ?_ | refine abr_no (by decide) ?_ | with_reducible refine abr_same_ne ?_); (conv => whnf))))
          (repeat ((first | refine aload (by (repeat (first | with_reducible exact upd_same _ _ _ | assumption | rw [upd_ne _ _ (by first | assumption | (apply Ne.symm; assumption))]))) rfl ?_ | refine afit_i64 (by omega) ?_ | refine arem_nonneg (by omega) (by omega) ?_ | refine adiv_i64 (by omega) (by omega) ?_ | refine abr_yes (by omega) ?_ | refine abr_no (by omega) ?_ | refine amin ?_ | refine amax ?_ | refine afit_u64 (by omega) ?_ | refine afit_u8 (by omega) ?_ | rw [List.length_map]); ((conv => whnf); (repeat ((first | with_reducible refine abr_true rfl ?_ | with_reducible refine abr_false rfl ?_ | with_reducible refine abr_yes rfl ?_ | refine abr_yes (by decide) ?_ | refine abr_no (by decide) ?_ | with_reducible refine abr_same_ne ?_); (conv => whnf))))))
          refine ⟨(i + 1, tk', _), ⟨by simp only; omega, ho'⟩, by simp only; omega, Sub.refl _, ?_⟩
          ((conv => whnf); (repeat ((first | with_reducible refine abr_true rfl ?_ | with_reducible refine abr_false rfl ?_ | with_reducible refine abr_yes rfl ?_ | refine abr_yes (by decide) ?_ | refine abr_no (by decide) ?_ | with_reducible refine abr_same_ne ?_); (conv => whnf))))
          rw [Nat.div_div_eq_div_mul, ← Nat.pow_succ]
          (repeat' first | with_reducible exact EnvLe.refl _ | (refine EnvLe.node ?_ (by first | exact Or.inl rfl | exact Or.inr (Or.inl rfl) | exact Or.inr (Or.inr ⟨nofun, VLe.slice _ _ _⟩)) ?_))
        · have : i = k := by omega
          subst this
          ((conv => whnf); (repeat ((first | with_reducible refine abr_true rfl ?_ | with_reducible refine abr_false rfl ?_ | with_reducible refine abr_yes rfl ?_ | refine abr_yes (by decide) ?_ | refine abr_no (by decide) ?_ | with_reducible refine abr_same_ne ?_); (conv => whnf))))
          (repeat ((first | refine aload (by (repeat (first | with_reducible exact upd_same _ _ _ | assumption | rw [upd_ne _ _ (by first | assumption | (apply Ne.symm; assumption))]))) rfl ?_ | refine afit_i64 (by omega) ?_ | refine arem_nonneg (by omega) (by omega) ?_ | refine adiv_i64 (by omega) (by omega) ?_ | refine abr_yes (by omega) ?_ | refine abr_no (by omega) ?_ | refine amin ?_ | refine amax ?_ | refine afit_u64 (by omega) ?_ | refine afit_u8 (by omega) ?_ | rw [List.length_map]); ((conv => whnf); (repeat ((first | with_reducible refine abr_true rfl ?_ | with_reducible refine abr_false rfl ?_ | with_reducible refine abr_yes rfl ?_ | refine abr_yes (by decide) ?_ | refine abr_no (by decide) ?_ | with_reducible refine abr_same_ne ?_); (conv => whnf))))))
          refine aapp_full (by simp; omega) fun t' ht' => ?_
          have ht0 := ho.none_of ht'
          rw [List.nil_append]
          ((conv => whnf); (repeat ((first | with_reducible refine abr_true rfl ?_ | with_reducible refine abr_false rfl ?_ | with_reducible refine abr_yes rfl ?_ | refine abr_yes (by decide) ?_ | refine abr_no (by decide) ?_ | with_reducible refine abr_same_ne ?_); (conv => whnf))))
          (repeat ((first | refine aload (by (repeat (first | with_reducible exact upd_same _ _ _ | assumption | rw [upd_ne _ _ (by first | assumption | (apply Ne.symm; assumption))]))) rfl ?_ | refine afit_i64 (by omega) ?_ | refine arem_nonneg (by omega) (by omega) ?_ | refine adiv_i64 (by omega) (by omega) ?_ | refine abr_yes (by omega) ?_ | refine abr_no (by omega) ?_ | refine amin ?_ | refine amax ?_ | refine afit_u64 (by omega) ?_ | refine afit_u8 (by omega) ?_ | rw [List.length_map]); ((conv => whnf); (repeat ((first | with_reducible refine abr_true rfl ?_ | with_reducible refine abr_false rfl ?_ | with_reducible refine abr_yes rfl ?_ | refine abr_yes (by decide) ?_ | refine abr_no (by decide) ?_ | with_reducible refine abr_same_ne ?_); (conv => whnf))))))
          refine aloop (α := Nat × List Bool × Tok × AHeap) (fun x => [(s9, bl x.2.2.1 (bs ++ x.2.1)), (s11, i64v ((x.1 : Int) - 1))]) (fun x => x.2.2.2) (fun x => x.2.1 ++ numBits v x.1 = numBits v i ∧ Owned σ' x.2.2.2 x.2.2.1) (fun x => x.1) (i, [], .tip t', upd σ' t' .tip) ⟨rfl, .tip ht0⟩ (Sub.upd ho.sub _ _) ?_ ?_
          · ((conv => whnf); (repeat ((first | with_reducible refine abr_true rfl ?_ | with_reducible refine abr_false rfl ?_ | with_reducible refine abr_yes rfl ?_ | refine abr_yes (by decide) ?_ | refine abr_no (by decide) ?_ | with_reducible refine abr_same_ne ?_); (conv => whnf))))
            rw [List.append_nil]
            (repeat' first | with_reducible exact EnvLe.refl _ | (refine EnvLe.node ?_ (by first | exact Or.inl rfl | exact Or.inr (Or.inl rfl) | exact Or.inr (Or.inr ⟨nofun, VLe.slice _ _ _⟩)) ?_))
          · rintro ⟨j, d, tk2, σ2⟩ ⟨hd, ho2⟩
            dsimp only at hd ho2 ⊢
            have hdl : d.length + j = i := by
              have := congrArg List.length hd
              rw [List.length_append, numBits_length, numBits_length] at this; exact this
            cases j with
            | zero =>
              ((conv => whnf); (repeat ((first | with_reducible refine abr_true rfl ?_ | with_reducible refine abr_false rfl ?_ | with_reducible refine abr_yes rfl ?_ | refine abr_yes (by decide) ?_ | refine abr_no (by decide) ?_ | with_reducible refine abr_same_ne ?_); (conv => whnf))))
              (repeat ((first | refine aload (by (repeat (first | with_reducible exact upd_same _ _ _ | assumption | rw [upd_ne _ _ (by first | assumption | (apply Ne.symm; assumption))]))) rfl ?_ | refine afit_i64 (by omega) ?_ | refine arem_nonneg (by omega) (by omega) ?_ | refine adiv_i64 (by omega) (by omega) ?_ | refine abr_yes (by omega) ?_ | refine abr_no (by omega) ?_ | refine amin ?_ | refine amax ?_ | refine afit_u64 (by omega) ?_ | refine afit_u8 (by omega) ?_ | rw [List.length_map]); ((conv => whnf); (repeat ((first | with_reducible refine abr_true rfl ?_ | with_reducible refine abr_false rfl ?_ | with_reducible refine abr_yes rfl ?_ | refine abr_yes (by decide) ?_ | refine abr_no (by decide) ?_ | with_reducible refine abr_same_ne ?_); (conv => whnf))))))
              refine aret_same (.inl ⟨hc, tk2, ho2, ?_⟩)
              simp only [numBits, List.append_nil] at hd
              rw [hd]; rfl
            | succ j =>
              ((conv => whnf); (repeat ((first | with_reducible refine abr_true rfl ?_ | with_reducible refine abr_false rfl ?_ | with_reducible refine abr_yes rfl ?_ | refine abr_yes (by decide) ?_ | refine abr_no (by decide) ?_ | with_reducible refine abr_same_ne ?_); (conv => whnf))))
              (repeat ((first | refine aload (by (repeat (first | with_reducible exact upd_same _ _ _ | assumption | rw [upd_ne _ _ (by first | assumption | (apply Ne.symm; assumption))]))) rfl ?_ | refine afit_i64 (by omega) ?_ | refine arem_nonneg (by omega) (by omega) ?_ | refine adiv_i64 (by omega) (by omega) ?_ | refine abr_yes (by omega) ?_ | refine abr_no (by omega) ?_ | refine amin ?_ | refine amax ?_ | refine afit_u64 (by omega) ?_ | refine afit_u8 (by omega) ?_ | rw [List.length_map]); ((conv => whnf); (repeat ((first | with_reducible refine abr_true rfl ?_ | with_reducible refine abr_false rfl ?_ | with_reducible refine abr_yes rfl ?_ | refine abr_yes (by decide) ?_ | refine abr_no (by decide) ?_ | with_reducible refine abr_same_ne ?_); (conv => whnf))))))
              rw [show ((j + 1 : Nat) : Int) - 1 = (j : Int) by omega]
              refine aget (by omega) (get_bools (by rw [lowBits_length]; omega)) ?_
              ((conv => whnf); (repeat ((first | with_reducible refine abr_true rfl ?_ | with_reducible refine abr_false rfl ?_ | with_reducible refine abr_yes rfl ?_ | refine abr_yes (by decide) ?_ | refine abr_no (by decide) ?_ | with_reducible refine abr_same_ne ?_); (conv => whnf))))
              refine acell rfl ?_
              ((conv => whnf); (repeat ((first | with_reducible refine abr_true rfl ?_ | with_reducible refine abr_false rfl ?_ | with_reducible refine abr_yes rfl ?_ | refine abr_yes (by decide) ?_ | refine abr_no (by decide) ?_ | with_reducible refine abr_same_ne ?_); (conv => whnf))))
              refine aapp_owned ho2 (by rw [List.length_map, List.length_append]; show (bs.length + d.length + 1) * 1 ≤ _; omega) fun t3 tk3 ho3 _ => ?_
              have hg : (lowBits v i)[j]'(by rw [lowBits_length]; omega) = v.testBit j := by
                have := lowBits_get (v := v) (n := i) (i := j) (by omega)
                rw [List.getElem?_eq_getElem (by rw [lowBits_length]; omega)] at this
                exact Option.some.inj this
              rw [hg, show List.map boolv (bs ++ d) ++ [AVal.v (Value.bool (v.testBit j))] = List.map boolv (bs ++ (d ++ [v.testBit j])) by simp]
              ((conv => whnf); (repeat ((first | with_reducible refine abr_true rfl ?_ | with_reducible refine abr_false rfl ?_ | with_reducible refine abr_yes rfl ?_ | refine abr_yes (by decide) ?_ | refine abr_no (by decide) ?_ | with_reducible refine abr_same_ne ?_); (conv => whnf))))
              (repeat ((first | refine aload (by (repeat (first | with_reducible exact upd_same _ _ _ | assumption | rw [upd_ne _ _ (by first | assumption | (apply Ne.symm; assumption))]))) rfl ?_ | refine afit_i64 (by omega) ?_ | refine arem_nonneg (by omega) (by omega) ?_ | refine adiv_i64 (by omega) (by omega) ?_ | refine abr_yes (by omega) ?_ | refine abr_no (by omega) ?_ | refine amin ?_ | refine amax ?_ | refine afit_u64 (by omega) ?_ | refine afit_u8 (by omega) ?_ | rw [List.length_map]); ((conv => whnf); (repeat ((first | with_reducible refine abr_true rfl ?_ | with_reducible refine abr_false rfl ?_ | with_reducible refine abr_yes rfl ?_ | refine abr_yes (by decide) ?_ | refine abr_no (by decide) ?_ | with_reducible refine abr_same_ne ?_); (conv => whnf))))))
              refine ⟨(j, d ++ [v.testBit j], tk3, _), ⟨?_, ho3⟩, by simp only; omega, Sub.refl _, ?_⟩
              · simp only; rw [← hd]; simp [numBits]
              · ((conv => whnf); (repeat ((first | with_reducible refine abr_true rfl ?_ | with_reducible refine abr_false rfl ?_ | with_reducible refine abr_yes rfl ?_ | refine abr_yes (by decide) ?_ | refine abr_no (by decide) ?_ | with_reducible refine abr_same_ne ?_); (conv => whnf))))
                (repeat' first | with_reducible exact EnvLe.refl _ | (refine EnvLe.node ?_ (by first | exact Or.inl rfl | exact Or.inr (Or.inl rfl) | exact Or.inr (Or.inr ⟨nofun, VLe.slice _ _ _⟩)) ?_))
theorem refPut (bs : List Bool) (t : Tok) (v : Nat) (n : Int) (σ : AHeap) (hv : v < 18446744073709551616) (hl : bs.length ≤ 65536) :
    ACalls Try.prog i_bowlineref01_Put [bl t bs, u64v v, i64v n] σ fun x σ' => x = .tup [bl .none (putBits bs v n), i64v (putCode bs.length v n)] ∧ σ' = σ := by
  refine acall_less (refPutO bs t v n σ hv hl) ?_
  rintro x σ' (⟨hc, tk, ho, rfl⟩ | ⟨hc, rfl, rfl⟩)
  · exact ⟨_, _, VLe.tup_sl, ho.sub, by rw [hc, putBits_ok hc], rfl⟩
  · exact ⟨_, _, VLe.refl _, Sub.refl _, by rw [putBits_no hc], rfl⟩
end Go.Proofs.Ytnfdgccmpglbhaa
/-
  The document's bits: bytes.
-/
namespace Go.Proofs.Ytnfdgccmpglbhaa
set_option linter.unusedVariables false
set_option linter.unusedSimpArgs false
open Go Go.Am

/-- So many bits, from a place on, filled up with noughts. -/
def bitsAt (l : List Bool) (i n : Nat) : List Bool := (List.range n).map fun m => bitD l (i + m)
theorem bitsAt_succ (l : List Bool) (i n : Nat) : bitsAt l i (n + 1) = bitsAt l i n ++ [bitD l (i + n)] := by unfold bitsAt; rw [List.range_succ, List.map_append]; rfl
theorem bitsAt_length (l : List Bool) (i n : Nat) : (bitsAt l i n).length = n := by unfold bitsAt; simp
theorem val_bitsAt (l : List Bool) (i n : Nat) : val 0 (bitsAt l i (n + 1)) = 2 * val 0 (bitsAt l i n) + (bitD l (i + n)).toNat := by rw [bitsAt_succ, val_snoc]
theorem byteAt_val (l : List Bool) (j : Nat) : UInt8.ofNat (val 0 (bitsAt l (8 * j) 8)) = byteAt l j := by
  unfold byteAt byte8
  congr 1
  simp only [bitsAt, List.range, List.range.loop, List.map, val, Nat.add_zero]
  omega
theorem val8_lt (l : List Bool) (i : Nat) {n : Nat} (h : n ≤ 8) : val 0 (bitsAt l i n) < 256 := by
  have h1 := val_lt (bitsAt l i n)
  rw [bitsAt_length] at h1
  exact Nat.lt_of_lt_of_le h1 (Nat.pow_le_pow_right (n := 2) (by omega) h)
theorem val7_lt (l : List Bool) (i : Nat) {n : Nat} (h : n < 8) : 2 * val 0 (bitsAt l i n) + 1 < 256 := by
  have h1 := val_lt (bitsAt l i n)
  rw [bitsAt_length] at h1
  have h2 : 2 ^ n ≤ 2 ^ 7 := Nat.pow_le_pow_right (by omega) (by omega)
  omega

def packTo (l : List Bool) (j : Nat) : List UInt8 := (List.range j).map (byteAt l)
theorem packTo_succ (l : List Bool) (j : Nat) : packTo l (j + 1) = packTo l j ++ [byteAt l j] := by unfold packTo; rw [List.range_succ, List.map_append]; rfl
theorem packTo_length (l : List Bool) (j : Nat) : (packTo l j).length = j := by unfold packTo; simp
theorem pack_packTo (l : List Bool) : pack l = packTo l ((l.length + 7) / 8) := rfl

set_option maxRecDepth 10000 in
theorem refBytesO (l : List Bool) (t : Tok) (σ : AHeap) (hl : l.length ≤ 1000000) : ACalls Try.prog i_bowlineref01_Bytes [bl t l] σ fun x σ' => ∃ tk, Owned σ σ' tk ∧ x = sl tk (pack l) := by
  refine k_bowlineref01_Bytes rfl ?_
  ((conv => whnf); (repeat ((first | with_reducible refine abr_true rfl ?_ | with_reducible refine abr_false rfl ?_ | with_reducible refine abr_yes rfl ?_ | refine abr_yes (by decide) ?_ | refine abr_no (by decide) ?_ | with_reducible refine abr_same_ne ?_); (conv => whnf))))
  refine aloop (α := Nat × Tok × AHeap) (fun x => [(s3, sl x.2.1 (packTo l x.1)), (s4, i64v ((8 * x.1 : Nat) : Int))]) (fun x => x.2.2) (fun x => 8 * x.1 ≤ l.length + 7 ∧ Owned σ x.2.2 x.2.1) (fun x => l.length + 8 - 8 * x.1) (0, .full, σ) ⟨by omega, .full _⟩ (Sub.refl _) ?_ ?_
  · ((conv => whnf); (repeat ((first | with_reducible refine abr_true rfl ?_ | with_reducible refine abr_false rfl ?_ | with_reducible refine abr_yes rfl ?_ | refine abr_yes (by decide) ?_ | refine abr_no (by decide) ?_ | with_reducible refine abr_same_ne ?_); (conv => whnf))))
    (repeat' first | with_reducible exact EnvLe.refl _ | (refine EnvLe.node ?_ (by first | exact Or.inl rfl | exact Or.inr (Or.inl rfl) | exact Or.inr (Or.inr ⟨nofun, VLe.slice _ _ _⟩)) ?_))
  · rintro ⟨j, tk, σ1⟩ ⟨hj, ho⟩
    dsimp only at hj ho ⊢
    by_cases h : 8 * j < l.length
    · ((conv => whnf); (repeat ((first | with_reducible refine abr_true rfl ?_ | with_reducible refine abr_false rfl ?_ | with_reducible refine abr_yes rfl ?_ | refine abr_yes (by decide) ?_ | refine abr_no (by decide) ?_ | with_reducible refine abr_same_ne ?_); (conv => whnf))))
      try rw [List.length_map]
      refine abr_yes (by omega) ?_
      ((conv => whnf); (repeat ((first | with_reducible refine abr_true rfl ?_ | with_reducible refine abr_false rfl ?_ | with_reducible refine abr_yes rfl ?_ | refine abr_yes (by decide) ?_ | refine abr_no (by decide) ?_ | with_reducible refine abr_same_ne ?_); (conv => whnf))))
      refine aloop (α := Nat) (fun k => [(s5, u8v (val 0 (bitsAt l (8 * j) k))), (s6, i64v k)]) (fun _ => σ1) (fun k => k ≤ 8) (fun k => 8 - k) 0 (by omega) (Sub.refl _) ?_ ?_
      · ((conv => whnf); (repeat ((first | with_reducible refine abr_true rfl ?_ | with_reducible refine abr_false rfl ?_ | with_reducible refine abr_yes rfl ?_ | refine abr_yes (by decide) ?_ | refine abr_no (by decide) ?_ | with_reducible refine abr_same_ne ?_); (conv => whnf))))
        (repeat' first | with_reducible exact EnvLe.refl _ | (refine EnvLe.node ?_ (by first | exact Or.inl rfl | exact Or.inr (Or.inl rfl) | exact Or.inr (Or.inr ⟨nofun, VLe.slice _ _ _⟩)) ?_))
      · rintro k hk
        by_cases hk8 : k < 8
        · have h7 := val7_lt l (8 * j) hk8
          ((conv => whnf); (repeat ((first | with_reducible refine abr_true rfl ?_ | with_reducible refine abr_false rfl ?_ | with_reducible refine abr_yes rfl ?_ | refine abr_yes (by decide) ?_ | refine abr_no (by decide) ?_ | with_reducible refine abr_same_ne ?_); (conv => whnf))))
          refine abr_yes (by omega) ?_
          ((conv => whnf); (repeat ((first | with_reducible refine abr_true rfl ?_ | with_reducible refine abr_false rfl ?_ | with_reducible refine abr_yes rfl ?_ | refine abr_yes (by decide) ?_ | refine abr_no (by decide) ?_ | with_reducible refine abr_same_ne ?_); (conv => whnf))))
          refine afit_u8 (by omega) ?_
          rw [show (2 : Int) * ((val 0 (bitsAt l (8 * j) k) : Nat) : Int) = ((2 * val 0 (bitsAt l (8 * j) k) : Nat) : Int) by omega]
          ((conv => whnf); (repeat ((first | with_reducible refine abr_true rfl ?_ | with_reducible refine abr_false rfl ?_ | with_reducible refine abr_yes rfl ?_ | refine abr_yes (by decide) ?_ | refine abr_no (by decide) ?_ | with_reducible refine abr_same_ne ?_); (conv => whnf))))
          (repeat ((first | refine aload (by (repeat (first | with_reducible exact upd_same _ _ _ | assumption | rw [upd_ne _ _ (by first | assumption | (apply Ne.symm; assumption))]))) rfl ?_ | refine afit_i64 (by omega) ?_ | refine arem_nonneg (by omega) (by omega) ?_ | refine adiv_i64 (by omega) (by omega) ?_ | refine abr_yes (by omega) ?_ | refine abr_no (by omega) ?_ | refine amin ?_ | refine amax ?_ | refine afit_u64 (by omega) ?_ | refine afit_u8 (by omega) ?_ | rw [List.length_map]); ((conv => whnf); (repeat ((first | with_reducible refine abr_true rfl ?_ | with_reducible refine abr_false rfl ?_ | with_reducible refine abr_yes rfl ?_ | refine abr_yes (by decide) ?_ | refine abr_no (by decide) ?_ | with_reducible refine abr_same_ne ?_); (conv => whnf))))))
          have next : val 0 (bitsAt l (8 * j) (k + 1)) = 2 * val 0 (bitsAt l (8 * j) k) + (bitD l (8 * j + k)).toNat := val_bitsAt _ _ _
          by_cases hin : 8 * j + k < l.length
          · refine abr_yes (by omega) ?_
            ((conv => whnf); (repeat ((first | with_reducible refine abr_true rfl ?_ | with_reducible refine abr_false rfl ?_ | with_reducible refine abr_yes rfl ?_ | refine abr_yes (by decide) ?_ | refine abr_no (by decide) ?_ | with_reducible refine abr_same_ne ?_); (conv => whnf))))
            (repeat ((first | refine aload (by (repeat (first | with_reducible exact upd_same _ _ _ | assumption | rw [upd_ne _ _ (by first | assumption | (apply Ne.symm; assumption))]))) rfl ?_ | refine afit_i64 (by omega) ?_ | refine arem_nonneg (by omega) (by omega) ?_ | refine adiv_i64 (by omega) (by omega) ?_ | refine abr_yes (by omega) ?_ | refine abr_no (by omega) ?_ | refine amin ?_ | refine amax ?_ | refine afit_u64 (by omega) ?_ | refine afit_u8 (by omega) ?_ | rw [List.length_map]); ((conv => whnf); (repeat ((first | with_reducible refine abr_true rfl ?_ | with_reducible refine abr_false rfl ?_ | with_reducible refine abr_yes rfl ?_ | refine abr_yes (by decide) ?_ | refine abr_no (by decide) ?_ | with_reducible refine abr_same_ne ?_); (conv => whnf))))))
            rw [show ((8 * j : Nat) : Int) + (k : Int) = ((8 * j + k : Nat) : Int) by omega]
            refine aget (by omega) (get_bools hin) ?_
            ((conv => whnf); (repeat ((first | with_reducible refine abr_true rfl ?_ | with_reducible refine abr_false rfl ?_ | with_reducible refine abr_yes rfl ?_ | refine abr_yes (by decide) ?_ | refine abr_no (by decide) ?_ | with_reducible refine abr_same_ne ?_); (conv => whnf))))
            refine acell rfl ?_
            ((conv => whnf); (repeat ((first | with_reducible refine abr_true rfl ?_ | with_reducible refine abr_false rfl ?_ | with_reducible refine abr_yes rfl ?_ | refine abr_yes (by decide) ?_ | refine abr_no (by decide) ?_ | with_reducible refine abr_same_ne ?_); (conv => whnf))))
            cases hb : l[8 * j + k] with
            | true =>
              have hbd : bitD l (8 * j + k) = true := by rw [bitD_get hin, hb]
              ((conv => whnf); (repeat ((first | with_reducible refine abr_true rfl ?_ | with_reducible refine abr_false rfl ?_ | with_reducible refine abr_yes rfl ?_ | refine abr_yes (by decide) ?_ | refine abr_no (by decide) ?_ | with_reducible refine abr_same_ne ?_); (conv => whnf))))
              refine afit_u8 (by omega) ?_
              ((conv => whnf); (repeat ((first | with_reducible refine abr_true rfl ?_ | with_reducible refine abr_false rfl ?_ | with_reducible refine abr_yes rfl ?_ | refine abr_yes (by decide) ?_ | refine abr_no (by decide) ?_ | with_reducible refine abr_same_ne ?_); (conv => whnf))))
              (repeat ((first | refine aload (by (repeat (first | with_reducible exact upd_same _ _ _ | assumption | rw [upd_ne _ _ (by first | assumption | (apply Ne.symm; assumption))]))) rfl ?_ | refine afit_i64 (by omega) ?_ | refine arem_nonneg (by omega) (by omega) ?_ | refine adiv_i64 (by omega) (by omega) ?_ | refine abr_yes (by omega) ?_ | refine abr_no (by omega) ?_ | refine amin ?_ | refine amax ?_ | refine afit_u64 (by omega) ?_ | refine afit_u8 (by omega) ?_ | rw [List.length_map]); ((conv => whnf); (repeat ((first | with_reducible refine abr_true rfl ?_ | with_reducible refine abr_false rfl ?_ | with_reducible refine abr_yes rfl ?_ | refine abr_yes (by decide) ?_ | refine abr_no (by decide) ?_ | with_reducible refine abr_same_ne ?_); (conv => whnf))))))
              refine ⟨k + 1, by omega, by omega, Sub.refl _, ?_⟩
              ((conv => whnf); (repeat ((first | with_reducible refine abr_true rfl ?_ | with_reducible refine abr_false rfl ?_ | with_reducible refine abr_yes rfl ?_ | refine abr_yes (by decide) ?_ | refine abr_no (by decide) ?_ | with_reducible refine abr_same_ne ?_); (conv => whnf))))
              rw [next, hbd, show ((2 * val 0 (bitsAt l (8 * j) k) : Nat) : Int) + 1 = ((2 * val 0 (bitsAt l (8 * j) k) + Bool.toNat true : Nat) : Int) by simp]
              (repeat' first | with_reducible exact EnvLe.refl _ | (refine EnvLe.node ?_ (by first | exact Or.inl rfl | exact Or.inr (Or.inl rfl) | exact Or.inr (Or.inr ⟨nofun, VLe.slice _ _ _⟩)) ?_))
            | false =>
              have hbd : bitD l (8 * j + k) = false := by rw [bitD_get hin, hb]
              ((conv => whnf); (repeat ((first | with_reducible refine abr_true rfl ?_ | with_reducible refine abr_false rfl ?_ | with_reducible refine abr_yes rfl ?_ | refine abr_yes (by decide) ?_ | refine abr_no (by decide) ?_ | with_reducible refine abr_same_ne ?_); (conv => whnf))))
              (repeat ((first | refine aload (by (repeat (first | with_reducible exact upd_same _ _ _ | assumption | rw [upd_ne _ _ (by first | assumption | (apply Ne.symm; assumption))]))) rfl ?_ | refine afit_i64 (by omega) ?_ | refine arem_nonneg (by omega) (by omega) ?_ | refine adiv_i64 (by omega) (by omega) ?_ | refine abr_yes (by omega) ?_ | refine abr_no (by omega) ?_ | refine amin ?_ | refine amax ?_ | refine afit_u64 (by omega) ?_ | refine afit_u8 (by omega) ?_ | rw [List.length_map]); ((conv => whnf); (repeat ((first | with_reducible refine abr_true rfl ?_ | with_reducible refine abr_false rfl ?_ | with_reducible refine abr_yes rfl ?_ | refine abr_yes (by decide) ?_ | refine abr_no (by decide) ?_ | with_reducible refine abr_same_ne ?_); (conv => whnf))))))
              refine ⟨k + 1, by omega, by omega, Sub.refl _, ?_⟩
              ((conv => whnf); (repeat ((first | with_reducible refine abr_true rfl ?_ | with_reducible refine abr_false rfl ?_ | with_reducible refine abr_yes rfl ?_ | refine abr_yes (by decide) ?_ | refine abr_no (by decide) ?_ | with_reducible refine abr_same_ne ?_); (conv => whnf))))
              rw [next, hbd]
              (repeat' first | with_reducible exact EnvLe.refl _ | (refine EnvLe.node ?_ (by first | exact Or.inl rfl | exact Or.inr (Or.inl rfl) | exact Or.inr (Or.inr ⟨nofun, VLe.slice _ _ _⟩)) ?_))
          · have hbd : bitD l (8 * j + k) = false := bitD_out (by omega)
            refine abr_no (by omega) ?_
            ((conv => whnf); (repeat ((first | with_reducible refine abr_true rfl ?_ | with_reducible refine abr_false rfl ?_ | with_reducible refine abr_yes rfl ?_ | refine abr_yes (by decide) ?_ | refine abr_no (by decide) ?_ | with_reducible refine abr_same_ne ?_); (conv => whnf))))
            (repeat ((first | refine aload (by (repeat (first | with_reducible exact upd_same _ _ _ | assumption | rw [upd_ne _ _ (by first | assumption | (apply Ne.symm; assumption))]))) rfl ?_ | refine afit_i64 (by omega) ?_ | refine arem_nonneg (by omega) (by omega) ?_ | refine adiv_i64 (by omega) (by omega) ?_ | refine abr_yes (by omega) ?_ | refine abr_no (by omega) ?_ | refine amin ?_ | refine amax ?_ | refine afit_u64 (by omega) ?_ | refine afit_u8 (by omega) ?_ | rw [List.length_map]); ((conv => whnf); (repeat ((first | with_reducible refine abr_true rfl ?_ | with_reducible refine abr_false rfl ?_ | with_reducible refine abr_yes rfl ?_ | refine abr_yes (by decide) ?_ | refine abr_no (by decide) ?_ | with_reducible refine abr_same_ne ?_); (conv => whnf))))))
            refine ⟨k + 1, by omega, by omega, Sub.refl _, ?_⟩
            ((conv => whnf); (repeat ((first | with_reducible refine abr_true rfl ?_ | with_reducible refine abr_false rfl ?_ | with_reducible refine abr_yes rfl ?_ | refine abr_yes (by decide) ?_ | refine abr_no (by decide) ?_ | with_reducible refine abr_same_ne ?_); (conv => whnf))))
            rw [next, hbd]
            (repeat' first | with_reducible exact EnvLe.refl _ | (refine EnvLe.node ?_ (by first | exact Or.inl rfl | exact Or.inr (Or.inl rfl) | exact Or.inr (Or.inr ⟨nofun, VLe.slice _ _ _⟩)) ?_))
        · have : k = 8 := by omega
          subst this
          ((conv => whnf); (repeat ((first | with_reducible refine abr_true rfl ?_ | with_reducible refine abr_false rfl ?_ | with_reducible refine abr_yes rfl ?_ | refine abr_yes (by decide) ?_ | refine abr_no (by decide) ?_ | with_reducible refine abr_same_ne ?_); (conv => whnf))))
          (repeat ((first | refine aload (by (repeat (first | with_reducible exact upd_same _ _ _ | assumption | rw [upd_ne _ _ (by first | assumption | (apply Ne.symm; assumption))]))) rfl ?_ | refine afit_i64 (by omega) ?_ | refine arem_nonneg (by omega) (by omega) ?_ | refine adiv_i64 (by omega) (by omega) ?_ | refine abr_yes (by omega) ?_ | refine abr_no (by omega) ?_ | refine amin ?_ | refine amax ?_ | refine afit_u64 (by omega) ?_ | refine afit_u8 (by omega) ?_ | rw [List.length_map]); ((conv => whnf); (repeat ((first | with_reducible refine abr_true rfl ?_ | with_reducible refine abr_false rfl ?_ | with_reducible refine abr_yes rfl ?_ | refine abr_yes (by decide) ?_ | refine abr_no (by decide) ?_ | with_reducible refine abr_same_ne ?_); (conv => whnf))))))
          refine aapp_owned ho (by rw [List.length_map, packTo_length]; show (j + 1) * 1 ≤ _; omega) fun t' tk' ho' _ => ?_
          rw [show List.map byteV (packTo l j) ++ [AVal.v (Value.int IntKind.u8 ((val 0 (bitsAt l (8 * j) 8) : Nat) : Int))] = List.map byteV (packTo l (j + 1)) by
            rw [packTo_succ, List.map_append, ← byteAt_val, List.map_cons, byte_ofNat (val8_lt _ _ (by omega))]; rfl]
          ((conv => whnf); (repeat ((first | with_reducible refine abr_true rfl ?_ | with_reducible refine abr_false rfl ?_ | with_reducible refine abr_yes rfl ?_ | refine abr_yes (by decide) ?_ | refine abr_no (by decide) ?_ | with_reducible refine abr_same_ne ?_); (conv => whnf))))
          (repeat ((first | refine aload (by (repeat (first | with_reducible exact upd_same _ _ _ | assumption | rw [upd_ne _ _ (by first | assumption | (apply Ne.symm; assumption))]))) rfl ?_ | refine afit_i64 (by omega) ?_ | refine arem_nonneg (by omega) (by omega) ?_ | refine adiv_i64 (by omega) (by omega) ?_ | refine abr_yes (by omega) ?_ | refine abr_no (by omega) ?_ | refine amin ?_ | refine amax ?_ | refine afit_u64 (by omega) ?_ | refine afit_u8 (by omega) ?_ | rw [List.length_map]); ((conv => whnf); (repeat ((first | with_reducible refine abr_true rfl ?_ | with_reducible refine abr_false rfl ?_ | with_reducible refine abr_yes rfl ?_ | refine abr_yes (by decide) ?_ | refine abr_no (by decide) ?_ | with_reducible refine abr_same_ne ?_); (conv => whnf))))))
          rw [show ((8 * j : Nat) : Int) + 8 = ((8 * (j + 1) : Nat) : Int) by omega]
          refine ⟨(j + 1, tk', _), ⟨by dsimp only; omega, ho'⟩, by dsimp only; omega, Sub.refl _, ?_⟩
          ((conv => whnf); (repeat ((first | with_reducible refine abr_true rfl ?_ | with_reducible refine abr_false rfl ?_ | with_reducible refine abr_yes rfl ?_ | refine abr_yes (by decide) ?_ | refine abr_no (by decide) ?_ | with_reducible refine abr_same_ne ?_); (conv => whnf))))
          (repeat' first | with_reducible exact EnvLe.refl _ | (refine EnvLe.node ?_ (by first | exact Or.inl rfl | exact Or.inr (Or.inl rfl) | exact Or.inr (Or.inr ⟨nofun, VLe.slice _ _ _⟩)) ?_))
    · ((conv => whnf); (repeat ((first | with_reducible refine abr_true rfl ?_ | with_reducible refine abr_false rfl ?_ | with_reducible refine abr_yes rfl ?_ | refine abr_yes (by decide) ?_ | refine abr_no (by decide) ?_ | with_reducible refine abr_same_ne ?_); (conv => whnf))))
      try rw [List.length_map]
      refine abr_no (by omega) ?_
      ((conv => whnf); (repeat ((first | with_reducible refine abr_true rfl ?_ | with_reducible refine abr_false rfl ?_ | with_reducible refine abr_yes rfl ?_ | refine abr_yes (by decide) ?_ | refine abr_no (by decide) ?_ | with_reducible refine abr_same_ne ?_); (conv => whnf))))
      refine aret_same ⟨tk, ho, ?_⟩
      rw [pack_packTo, show (l.length + 7) / 8 = j by omega]
theorem refBytes (l : List Bool) (t : Tok) (σ : AHeap) (hl : l.length ≤ 1000000) : ACalls Try.prog i_bowlineref01_Bytes [bl t l] σ fun x σ' => x = sl .none (pack l) ∧ σ' = σ := by
  refine acall_less (refBytesO l t σ hl) ?_
  rintro v σ' ⟨tk, ho, rfl⟩
  exact ⟨_, _, VLe.slice _ _ _, ho.sub, rfl, rfl⟩
end Go.Proofs.Ytnfdgccmpglbhaa
/-
  The document's statuses: their bytes.
-/
namespace Go.Proofs.Ytnfdgccmpglbhaa
set_option linter.unusedVariables false
set_option linter.unusedSimpArgs false
open Go Go.Am

/-- A number put behind bits, of the document. -/
theorem refPutT (bs : List Bool) (t : Tok) (v : Nat) (n : Int) (σ σb : AHeap) (hs : Sub σ σb) (h0 : 0 ≤ n) (h64 : n ≤ 60) (hl : (bs.length : Int) + n ≤ 65536) (hv : v < 2 ^ n.toNat) :
    ACalls Try.prog i_bowlineref01_Put [bl t bs, u64v v, i64v n] σ fun x σ' => ∃ tk, x = .tup [bl tk (bs ++ numBits v n.toNat), i64v 0] ∧ Ext σ σ' ∧ Sub σ' σb ∧ TokIn σ' σb tk := by
  have h2 : 2 ^ n.toNat ≤ 2 ^ 60 := Nat.pow_le_pow_right (by omega) (by omega)
  have hc := put_fine bs v n h0 (by omega) hl hv
  refine acall_less (refPutO bs t v n σ (by omega) (by omega)) ?_
  rintro x σ' (⟨_, tk, ho, rfl⟩ | ⟨hno, _⟩)
  · exact ⟨_, _, VLe.refl _, Sub.refl _, tk, rfl, ho.ext, ho.sub.trans hs, Owned.tokIn hs ho⟩
  · exact absurd hc.1 hno
set_option maxRecDepth 20000 in
set_option maxHeartbeats 4000000 in
theorem refStWrite (s : Int × List Ms) (t : Tok) (w : Int) (σ : AHeap) (hok : stOk w s = true) : ACalls Try.prog i_bowlineref11_Write [stV t s, i64v w] σ fun v σ' => v = sl .none (pack (stBits w s)) ∧ σ' = σ := by
  obtain ⟨ack, l⟩ := s
  obtain ⟨hw, hn, h32, hall⟩ := stOk_parts hok
  dsimp only at hn h32 hall
  have hfl := stBits_length (w := w) (by omega) (ack, l)
  have hb := mssLen_le (w := w) (by omega) l
  dsimp only at hfl
  have hsb : stBits w (ack, l) = List.replicate 4 false ++ (numBits ack.toNat w.toNat ++ ([decide (0 < l.length)] ++ mssBits w l)) := rfl
  generalize stBits w (ack, l) = full at *
  obtain ⟨ha0, halt⟩ := isNum_lt hw hn
  have w16 : 2 ^ w.toNat ≤ 65536 := Nat.le_trans (Nat.pow_le_pow_right (n := 2) (by omega) (show w.toNat ≤ 16 by omega)) (by decide)
  refine k_bowlineref11_Write rfl ?_
  ((conv => whnf); (repeat ((first | with_reducible refine abr_true rfl ?_ | with_reducible refine abr_false rfl ?_ | with_reducible refine abr_yes rfl ?_ | refine abr_yes (by decide) ?_ | refine abr_no (by decide) ?_ | with_reducible refine abr_same_ne ?_); (conv => whnf))))
  refine anew rfl fun i1 h1 => ?_
  have k1 : upd σ i1 (.cells (stV t (ack, l)).cells) i1 = some (.cells [i64v ack, missV t l]) := upd_same _ _ _
  have hs : Sub (upd σ i1 (.cells (stV t (ack, l)).cells)) σ := Sub.upd_fresh _ h1
  generalize upd σ i1 (.cells (stV t (ack, l)).cells) = τ at *
  ((conv => whnf); (repeat ((first | with_reducible refine abr_true rfl ?_ | with_reducible refine abr_false rfl ?_ | with_reducible refine abr_yes rfl ?_ | refine abr_yes (by decide) ?_ | refine abr_no (by decide) ?_ | with_reducible refine abr_same_ne ?_); (conv => whnf))))
  refine aload k1 rfl ?_
  ((conv => whnf); (repeat ((first | with_reducible refine abr_true rfl ?_ | with_reducible refine abr_false rfl ?_ | with_reducible refine abr_yes rfl ?_ | refine abr_yes (by decide) ?_ | refine abr_no (by decide) ?_ | with_reducible refine abr_same_ne ?_); (conv => whnf))))
  refine afit_eq (m := ((ack.toNat : Nat) : Int)) (by rw [Int.toNat_of_nonneg ha0]; exact wrap_u64 (by omega) (by omega)) ?_
  ((conv => whnf); (repeat ((first | with_reducible refine abr_true rfl ?_ | with_reducible refine abr_false rfl ?_ | with_reducible refine abr_yes rfl ?_ | refine abr_yes (by decide) ?_ | refine abr_no (by decide) ?_ | with_reducible refine abr_same_ne ?_); (conv => whnf))))
  refine acall (refPutT (List.replicate 4 false) .full ack.toNat w _ σ hs (by omega) (by omega) (by rw [List.length_replicate]; omega) halt) ?_
  rintro _ σ1 ⟨tk1, rfl, x1, s1', o1⟩
  refine ⟨?_, x1⟩
  have k1 := x1 i1 _ rfl k1
  ((conv => whnf); (repeat ((first | with_reducible refine abr_true rfl ?_ | with_reducible refine abr_false rfl ?_ | with_reducible refine abr_yes rfl ?_ | refine abr_yes (by decide) ?_ | refine abr_no (by decide) ?_ | with_reducible refine abr_same_ne ?_); (conv => whnf))))
  refine aload k1 rfl ?_
  ((conv => whnf); (repeat ((first | with_reducible refine abr_true rfl ?_ | with_reducible refine abr_false rfl ?_ | with_reducible refine abr_yes rfl ?_ | refine abr_yes (by decide) ?_ | refine abr_no (by decide) ?_ | with_reducible refine abr_same_ne ?_); (conv => whnf))))
  rw [List.length_map]
  rw [@dec_congr (0 < (l.length : Int)) (0 < l.length) _ inferInstance (by omega)]
  refine aapp_in (ys := [boolv (decide (0 < l.length))]) o1 s1' (by simp only [List.length_map, List.length_append, List.length_replicate, numBits_length, List.length_singleton]; omega) fun t2 σ2 x2 s2' o2 => ?_
  have k1 := x2 i1 _ rfl k1
  rw [show (List.replicate 4 false ++ numBits ack.toNat w.toNat).map boolv ++ [boolv (decide (0 < l.length))] = (List.replicate 4 false ++ numBits ack.toNat w.toNat ++ [decide (0 < l.length)]).map boolv by rw [List.map_append (l₂ := [decide (0 < l.length)])]; rfl]
  ((conv => whnf); (repeat ((first | with_reducible refine abr_true rfl ?_ | with_reducible refine abr_false rfl ?_ | with_reducible refine abr_yes rfl ?_ | refine abr_yes (by decide) ?_ | refine abr_no (by decide) ?_ | with_reducible refine abr_same_ne ?_); (conv => whnf))))
  refine aloop (α := Nat × List Bool × Tok × AHeap) (fun x => [(s5, bl x.2.2.1 x.2.1), (s6, i64v x.1)]) (fun x => x.2.2.2) (fun x => x.1 ≤ l.length ∧ x.2.1 ++ mssBits w (l.drop x.1) = full ∧ x.2.2.2 i1 = some (.cells [i64v ack, missV t l]) ∧ TokIn x.2.2.2 σ x.2.2.1 ∧ Sub x.2.2.2 σ) (fun x => l.length - x.1) (0, List.replicate 4 false ++ numBits ack.toNat w.toNat ++ [decide (0 < l.length)], .tip t2, σ2) ⟨Nat.zero_le _, ?_, k1, o2, s2'⟩ (Sub.refl _) ?_ ?_
  · dsimp only
    rw [hsb, List.drop_zero]
    simp only [List.append_assoc]
  · ((conv => whnf); (repeat ((first | with_reducible refine abr_true rfl ?_ | with_reducible refine abr_false rfl ?_ | with_reducible refine abr_yes rfl ?_ | refine abr_yes (by decide) ?_ | refine abr_no (by decide) ?_ | with_reducible refine abr_same_ne ?_); (conv => whnf))))
    (repeat' first | with_reducible exact EnvLe.refl _ | (refine EnvLe.node ?_ (by first | exact Or.inl rfl | exact Or.inr (Or.inl rfl) | exact Or.inr (Or.inr ⟨nofun, VLe.slice _ _ _⟩)) ?_))
  rintro ⟨i, bs, tk, σ3⟩ ⟨hi, hbs, q1, hto, hs3⟩
  dsimp only at hi hbs q1 hto hs3 ⊢
  have hbl : bs.length ≤ 1700 := by
    have := congrArg List.length hbs
    rw [List.length_append] at this
    omega
  by_cases h : i < l.length
  · have hm : missOk w l[i] = true := List.all_eq_true.1 hall _ (List.getElem_mem h)
    have hdrop : mssBits w (l.drop i) = missBits w (decide (i + 1 < l.length)) l[i] ++ mssBits w (l.drop (i + 1)) := by
      rw [List.drop_eq_getElem_cons h]
      show missBits w (!(l.drop (i + 1)).isEmpty) l[i] ++ _ = _
      congr 2
      by_cases e : i + 1 < l.length
      · rw [decide_eq_true e, List.drop_eq_getElem_cons e]; rfl
      · rw [decide_eq_false e, List.drop_eq_nil_of_le (by omega)]; rfl
    rw [hdrop, ← List.append_assoc] at hbs
    obtain ⟨hs0, hslt⟩ := isNum_lt hw (missOk_num hm)
    ((conv => whnf); (repeat ((first | with_reducible refine abr_true rfl ?_ | with_reducible refine abr_false rfl ?_ | with_reducible refine abr_yes rfl ?_ | refine abr_yes (by decide) ?_ | refine abr_no (by decide) ?_ | with_reducible refine abr_same_ne ?_); (conv => whnf))))
    (repeat ((first | refine aload (by (repeat (first | with_reducible exact upd_same _ _ _ | assumption | rw [upd_ne _ _ (by first | assumption | (apply Ne.symm; assumption))]))) rfl ?_ | refine afit_i64 (by omega) ?_ | refine arem_nonneg (by omega) (by omega) ?_ | refine adiv_i64 (by omega) (by omega) ?_ | refine abr_yes (by omega) ?_ | refine abr_no (by omega) ?_ | refine amin ?_ | refine amax ?_ | refine afit_u64 (by omega) ?_ | refine afit_u8 (by omega) ?_ | rw [List.length_map]); ((conv => whnf); (repeat ((first | with_reducible refine abr_true rfl ?_ | with_reducible refine abr_false rfl ?_ | with_reducible refine abr_yes rfl ?_ | refine abr_yes (by decide) ?_ | refine abr_no (by decide) ?_ | with_reducible refine abr_same_ne ?_); (conv => whnf))))))
    refine aget (by omega) (get_ms h) ?_
    ((conv => whnf); (repeat ((first | with_reducible refine abr_true rfl ?_ | with_reducible refine abr_false rfl ?_ | with_reducible refine abr_yes rfl ?_ | refine abr_yes (by decide) ?_ | refine abr_no (by decide) ?_ | with_reducible refine abr_same_ne ?_); (conv => whnf))))
    refine acells (l := (msV l[i]).cells) (by exact Nat.le_refl 4) rfl ?_
    ((conv => whnf); (repeat ((first | with_reducible refine abr_true rfl ?_ | with_reducible refine abr_false rfl ?_ | with_reducible refine abr_yes rfl ?_ | refine abr_yes (by decide) ?_ | refine abr_no (by decide) ?_ | with_reducible refine abr_same_ne ?_); (conv => whnf))))
    refine anew rfl fun i5 h5 => ?_
    ((conv => whnf); (repeat ((first | with_reducible refine abr_true rfl ?_ | with_reducible refine abr_false rfl ?_ | with_reducible refine abr_yes rfl ?_ | refine abr_yes (by decide) ?_ | refine abr_no (by decide) ?_ | with_reducible refine abr_same_ne ?_); (conv => whnf))))
    refine astore (xs := (msV l[i]).cells) (l := [i64v l[i].1, boolv l[i].2.1, i64v l[i].2.2.1, i64v l[i].2.2.2]) (upd_same _ _ _) (by exact Nat.le_refl 4) rfl rfl ?_
    rw [upd_upd]
    have n15 : i1 ≠ i5 := fun e => by subst e; rw [q1] at h5; cases h5
    have m1 : upd σ3 i5 (.cells [i64v l[i].1, boolv l[i].2.1, i64v l[i].2.2.1, i64v l[i].2.2.2]) i1 = some (.cells [i64v ack, missV t l]) := (upd_ne _ _ n15).trans q1
    have m5 : upd σ3 i5 (.cells [i64v l[i].1, boolv l[i].2.1, i64v l[i].2.2.1, i64v l[i].2.2.2]) i5 = some (.cells [i64v l[i].1, boolv l[i].2.1, i64v l[i].2.2.1, i64v l[i].2.2.2]) := upd_same _ _ _
    have hs5 : Sub (upd σ3 i5 (.cells [i64v l[i].1, boolv l[i].2.1, i64v l[i].2.2.1, i64v l[i].2.2.2])) σ := sub_upd _ hs3 (sub_none hs3 h5)
    generalize upd σ3 i5 (.cells [i64v l[i].1, boolv l[i].2.1, i64v l[i].2.2.1, i64v l[i].2.2.2]) = σ4 at *
    ((conv => whnf); (repeat ((first | with_reducible refine abr_true rfl ?_ | with_reducible refine abr_false rfl ?_ | with_reducible refine abr_yes rfl ?_ | refine abr_yes (by decide) ?_ | refine abr_no (by decide) ?_ | with_reducible refine abr_same_ne ?_); (conv => whnf))))
    refine aload m5 rfl ?_
    ((conv => whnf); (repeat ((first | with_reducible refine abr_true rfl ?_ | with_reducible refine abr_false rfl ?_ | with_reducible refine abr_yes rfl ?_ | refine abr_yes (by decide) ?_ | refine abr_no (by decide) ?_ | with_reducible refine abr_same_ne ?_); (conv => whnf))))
    refine afit_eq (m := ((l[i].1.toNat : Nat) : Int)) (by rw [Int.toNat_of_nonneg hs0]; exact wrap_u64 (by omega) (by omega)) ?_
    ((conv => whnf); (repeat ((first | with_reducible refine abr_true rfl ?_ | with_reducible refine abr_false rfl ?_ | with_reducible refine abr_yes rfl ?_ | refine abr_yes (by decide) ?_ | refine abr_no (by decide) ?_ | with_reducible refine abr_same_ne ?_); (conv => whnf))))
    refine acall (refPutT bs tk l[i].1.toNat w _ σ hs5 (by omega) (by omega) (by omega) hslt) ?_
    rintro _ σ6 ⟨tk6, rfl, x6, s6', o6⟩
    refine ⟨?_, x6⟩
    have m1 := x6 i1 _ rfl m1
    have m5 := x6 i5 _ rfl m5
    ((conv => whnf); (repeat ((first | with_reducible refine abr_true rfl ?_ | with_reducible refine abr_false rfl ?_ | with_reducible refine abr_yes rfl ?_ | refine abr_yes (by decide) ?_ | refine abr_no (by decide) ?_ | with_reducible refine abr_same_ne ?_); (conv => whnf))))
    (repeat ((first | refine aload (by (repeat (first | with_reducible exact upd_same _ _ _ | assumption | rw [upd_ne _ _ (by first | assumption | (apply Ne.symm; assumption))]))) rfl ?_ | refine afit_i64 (by omega) ?_ | refine arem_nonneg (by omega) (by omega) ?_ | refine adiv_i64 (by omega) (by omega) ?_ | refine abr_yes (by omega) ?_ | refine abr_no (by omega) ?_ | refine amin ?_ | refine amax ?_ | refine afit_u64 (by omega) ?_ | refine afit_u8 (by omega) ?_ | rw [List.length_map]); ((conv => whnf); (repeat ((first | with_reducible refine abr_true rfl ?_ | with_reducible refine abr_false rfl ?_ | with_reducible refine abr_yes rfl ?_ | refine abr_yes (by decide) ?_ | refine abr_no (by decide) ?_ | with_reducible refine abr_same_ne ?_); (conv => whnf))))))
    rw [@dec_congr ((i : Int) + 1 < (l.length : Int)) (i + 1 < l.length) _ inferInstance (by omega)]
    have hl1 : (bs ++ numBits l[i].1.toNat w.toNat).length ≤ 1716 := by rw [List.length_append, numBits_length]; omega
    refine aapp_in (ys := [boolv (decide (i + 1 < l.length)), boolv l[i].2.1]) o6 s6' (by rw [List.length_map]; show (_ + 2) * 1 ≤ _; omega) fun t7 σ7 x7 s7' o7 => ?_
    have m1 := x7 i1 _ rfl m1
    have m5 := x7 i5 _ rfl m5
    rw [show (bs ++ numBits l[i].1.toNat w.toNat).map boolv ++ [boolv (decide (i + 1 < l.length)), boolv l[i].2.1] = (bs ++ numBits l[i].1.toNat w.toNat ++ [decide (i + 1 < l.length), l[i].2.1]).map boolv by rw [List.map_append (l₂ := [decide (i + 1 < l.length), l[i].2.1])]; rfl]
    have hl2 : (bs ++ numBits l[i].1.toNat w.toNat ++ [decide (i + 1 < l.length), l[i].2.1]).length ≤ 1718 := by rw [List.length_append]; show _ + 2 ≤ _; omega
    ((conv => whnf); (repeat ((first | with_reducible refine abr_true rfl ?_ | with_reducible refine abr_false rfl ?_ | with_reducible refine abr_yes rfl ?_ | refine abr_yes (by decide) ?_ | refine abr_no (by decide) ?_ | with_reducible refine abr_same_ne ?_); (conv => whnf))))
    refine aload m5 rfl ?_
    ((conv => whnf); (repeat ((first | with_reducible refine abr_true rfl ?_ | with_reducible refine abr_false rfl ?_ | with_reducible refine abr_yes rfl ?_ | refine abr_yes (by decide) ?_ | refine abr_no (by decide) ?_ | with_reducible refine abr_same_ne ?_); (conv => whnf))))
    have hmp := missOk_part hm
    have hmb : missBits w (decide (i + 1 < l.length)) l[i] = numBits l[i].1.toNat w.toNat ++ ([decide (i + 1 < l.length)] ++ ([l[i].2.1] ++ if l[i].2.1 = true then numBits l[i].2.2.1.toNat (offW w) ++ numBits (lastV w l[i].2.2.2) (offW w) else [])) := rfl
    generalize hm2 : l[i].2.1 = pt at *
    cases pt
    · ((conv => whnf); (repeat ((first | with_reducible refine abr_true rfl ?_ | with_reducible refine abr_false rfl ?_ | with_reducible refine abr_yes rfl ?_ | refine abr_yes (by decide) ?_ | refine abr_no (by decide) ?_ | with_reducible refine abr_same_ne ?_); (conv => whnf))))
      (repeat ((first | refine aload (by (repeat (first | with_reducible exact upd_same _ _ _ | assumption | rw [upd_ne _ _ (by first | assumption | (apply Ne.symm; assumption))]))) rfl ?_ | refine afit_i64 (by omega) ?_ | refine arem_nonneg (by omega) (by omega) ?_ | refine adiv_i64 (by omega) (by omega) ?_ | refine abr_yes (by omega) ?_ | refine abr_no (by omega) ?_ | refine amin ?_ | refine amax ?_ | refine afit_u64 (by omega) ?_ | refine afit_u8 (by omega) ?_ | rw [List.length_map]); ((conv => whnf); (repeat ((first | with_reducible refine abr_true rfl ?_ | with_reducible refine abr_false rfl ?_ | with_reducible refine abr_yes rfl ?_ | refine abr_yes (by decide) ?_ | refine abr_no (by decide) ?_ | with_reducible refine abr_same_ne ?_); (conv => whnf))))))
      refine ⟨(i + 1, bs ++ numBits l[i].1.toNat w.toNat ++ [decide (i + 1 < l.length), false], .tip t7, σ7), ⟨h, ?_, m1, o7, s7'⟩, by dsimp only; omega, Sub.refl _, ?_⟩
      · rw [← hbs, hmb, if_neg (by decide)]; simp only [List.append_assoc, List.append_nil, List.cons_append, List.nil_append]
      · ((conv => whnf); (repeat ((first | with_reducible refine abr_true rfl ?_ | with_reducible refine abr_false rfl ?_ | with_reducible refine abr_yes rfl ?_ | refine abr_yes (by decide) ?_ | refine abr_no (by decide) ?_ | with_reducible refine abr_same_ne ?_); (conv => whnf))))
        (repeat' first | with_reducible exact EnvLe.refl _ | (refine EnvLe.node ?_ (by first | exact Or.inl rfl | exact Or.inr (Or.inl rfl) | exact Or.inr (Or.inr ⟨nofun, VLe.slice _ _ _⟩)) ?_))
    · obtain ⟨f0, flt, t0, tlt⟩ := hmp rfl
      have hoff := offW_le w
      have off16 : 2 ^ offW w ≤ 65536 := Nat.le_trans (Nat.pow_le_pow_right (n := 2) (by omega) hoff) (by decide)
      have hto6 : 0 ≤ l[i].2.2.2 ∧ l[i].2.2.2 ≤ 65536 := by
        refine ⟨t0, ?_⟩
        unfold lastV at tlt
        split at tlt
        · omega
        · omega
      have hPr : plcs w = 32768 ∨ plcs w = 65536 := by
        by_cases h : w = 10
        · subst h; exact .inl plcs_10
        · exact .inr (plcs_no h)
      rw [hmb, if_pos rfl] at hbs
      ((conv => whnf); (repeat ((first | with_reducible refine abr_true rfl ?_ | with_reducible refine abr_false rfl ?_ | with_reducible refine abr_yes rfl ?_ | refine abr_yes (by decide) ?_ | refine abr_no (by decide) ?_ | with_reducible refine abr_same_ne ?_); (conv => whnf))))
      refine aload m5 rfl ?_
      ((conv => whnf); (repeat ((first | with_reducible refine abr_true rfl ?_ | with_reducible refine abr_false rfl ?_ | with_reducible refine abr_yes rfl ?_ | refine abr_yes (by decide) ?_ | refine abr_no (by decide) ?_ | with_reducible refine abr_same_ne ?_); (conv => whnf))))
      refine afit_i64 (by omega) ?_
      ((conv => whnf); (repeat ((first | with_reducible refine abr_true rfl ?_ | with_reducible refine abr_false rfl ?_ | with_reducible refine abr_yes rfl ?_ | refine abr_yes (by decide) ?_ | refine abr_no (by decide) ?_ | with_reducible refine abr_same_ne ?_); (conv => whnf))))
      refine aload m5 rfl ?_
      ((conv => whnf); (repeat ((first | with_reducible refine abr_true rfl ?_ | with_reducible refine abr_false rfl ?_ | with_reducible refine abr_yes rfl ?_ | refine abr_yes (by decide) ?_ | refine abr_no (by decide) ?_ | with_reducible refine abr_same_ne ?_); (conv => whnf))))
      obtain ⟨LV, hLV⟩ : ∃ LV, LV = lastV w l[i].2.2.2 := ⟨_, rfl⟩
      rw [← hLV] at tlt hbs
      have hlast : (LV : Int) = if l[i].2.2.2 = 0 then plcs w - 1 else l[i].2.2.2 - 1 := by
        rw [hLV]; unfold lastV; split <;> omega
      by_cases hz : l[i].2.2.2 = 0
      case' pos =>
        rw [if_pos hz] at hlast
        refine abr_yes hz ?_
        ((conv => whnf); (repeat ((first | with_reducible refine abr_true rfl ?_ | with_reducible refine abr_false rfl ?_ | with_reducible refine abr_yes rfl ?_ | refine abr_yes (by decide) ?_ | refine abr_no (by decide) ?_ | with_reducible refine abr_same_ne ?_); (conv => whnf))))
        refine acall (refPlaces w _) ?_
        rintro _ σ_ ⟨rfl, e_⟩
        obtain rfl := e_.symm
        refine ⟨?_, Ext.refl _⟩
        ((conv => whnf); (repeat ((first | with_reducible refine abr_true rfl ?_ | with_reducible refine abr_false rfl ?_ | with_reducible refine abr_yes rfl ?_ | refine abr_yes (by decide) ?_ | refine abr_no (by decide) ?_ | with_reducible refine abr_same_ne ?_); (conv => whnf))))
        refine afit_i64 (by omega) ?_
        rw [← hlast]
        ((conv => whnf); (repeat ((first | with_reducible refine abr_true rfl ?_ | with_reducible refine abr_false rfl ?_ | with_reducible refine abr_yes rfl ?_ | refine abr_yes (by decide) ?_ | refine abr_no (by decide) ?_ | with_reducible refine abr_same_ne ?_); (conv => whnf))))
      case' neg =>
        rw [if_neg hz] at hlast
        refine abr_no hz ?_
        rw [← hlast]
        ((conv => whnf); (repeat ((first | with_reducible refine abr_true rfl ?_ | with_reducible refine abr_false rfl ?_ | with_reducible refine abr_yes rfl ?_ | refine abr_yes (by decide) ?_ | refine abr_no (by decide) ?_ | with_reducible refine abr_same_ne ?_); (conv => whnf))))
      all_goals
        refine aload m5 rfl ?_
        ((conv => whnf); (repeat ((first | with_reducible refine abr_true rfl ?_ | with_reducible refine abr_false rfl ?_ | with_reducible refine abr_yes rfl ?_ | refine abr_yes (by decide) ?_ | refine abr_no (by decide) ?_ | with_reducible refine abr_same_ne ?_); (conv => whnf))))
        refine afit_eq (m := ((l[i].2.2.1.toNat : Nat) : Int)) (by rw [Int.toNat_of_nonneg f0]; exact wrap_u64 (by omega) (by omega)) ?_
        ((conv => whnf); (repeat ((first | with_reducible refine abr_true rfl ?_ | with_reducible refine abr_false rfl ?_ | with_reducible refine abr_yes rfl ?_ | refine abr_yes (by decide) ?_ | refine abr_no (by decide) ?_ | with_reducible refine abr_same_ne ?_); (conv => whnf))))
        refine acall (refOffset w _) ?_
        rintro _ σ_ ⟨rfl, e_⟩
        obtain rfl := e_.symm
        refine ⟨?_, Ext.refl _⟩
        ((conv => whnf); (repeat ((first | with_reducible refine abr_true rfl ?_ | with_reducible refine abr_false rfl ?_ | with_reducible refine abr_yes rfl ?_ | refine abr_yes (by decide) ?_ | refine abr_no (by decide) ?_ | with_reducible refine abr_same_ne ?_); (conv => whnf))))
        refine acall (refPutT (bs ++ numBits l[i].1.toNat w.toNat ++ [decide (i + 1 < l.length), true]) (.tip t7) l[i].2.2.1.toNat (offW w) _ σ s7' (by omega) (by omega) (by omega) flt) ?_
        rintro _ σ8 ⟨tk8, rfl, x8, s8', o8⟩
        refine ⟨?_, x8⟩
        have m1 := x8 i1 _ rfl m1
        ((conv => whnf); (repeat ((first | with_reducible refine abr_true rfl ?_ | with_reducible refine abr_false rfl ?_ | with_reducible refine abr_yes rfl ?_ | refine abr_yes (by decide) ?_ | refine abr_no (by decide) ?_ | with_reducible refine abr_same_ne ?_); (conv => whnf))))
        refine afit_eq (m := (LV : Int)) (wrap_u64 (by omega) (by omega)) ?_
        ((conv => whnf); (repeat ((first | with_reducible refine abr_true rfl ?_ | with_reducible refine abr_false rfl ?_ | with_reducible refine abr_yes rfl ?_ | refine abr_yes (by decide) ?_ | refine abr_no (by decide) ?_ | with_reducible refine abr_same_ne ?_); (conv => whnf))))
        refine acall (refOffset w _) ?_
        rintro _ σ_ ⟨rfl, e_⟩
        obtain rfl := e_.symm
        refine ⟨?_, Ext.refl _⟩
        ((conv => whnf); (repeat ((first | with_reducible refine abr_true rfl ?_ | with_reducible refine abr_false rfl ?_ | with_reducible refine abr_yes rfl ?_ | refine abr_yes (by decide) ?_ | refine abr_no (by decide) ?_ | with_reducible refine abr_same_ne ?_); (conv => whnf))))
        have hl3 : (bs ++ numBits l[i].1.toNat w.toNat ++ [decide (i + 1 < l.length), true] ++ numBits l[i].2.2.1.toNat (offW w)).length ≤ 1734 := by rw [List.length_append, numBits_length]; omega
        refine acall (refPutT (bs ++ numBits l[i].1.toNat w.toNat ++ [decide (i + 1 < l.length), true] ++ numBits l[i].2.2.1.toNat (offW w)) tk8 LV (offW w) _ σ s8' (by omega) (by omega) (by omega) tlt) ?_
        rintro _ σ9 ⟨tk9, rfl, x9, s9', o9⟩
        refine ⟨?_, x9⟩
        have m1 := x9 i1 _ rfl m1
        ((conv => whnf); (repeat ((first | with_reducible refine abr_true rfl ?_ | with_reducible refine abr_false rfl ?_ | with_reducible refine abr_yes rfl ?_ | refine abr_yes (by decide) ?_ | refine abr_no (by decide) ?_ | with_reducible refine abr_same_ne ?_); (conv => whnf))))
        (repeat ((first | refine aload (by (repeat (first | with_reducible exact upd_same _ _ _ | assumption | rw [upd_ne _ _ (by first | assumption | (apply Ne.symm; assumption))]))) rfl ?_ | refine afit_i64 (by omega) ?_ | refine arem_nonneg (by omega) (by omega) ?_ | refine adiv_i64 (by omega) (by omega) ?_ | refine abr_yes (by omega) ?_ | refine abr_no (by omega) ?_ | refine amin ?_ | refine amax ?_ | refine afit_u64 (by omega) ?_ | refine afit_u8 (by omega) ?_ | rw [List.length_map]); ((conv => whnf); (repeat ((first | with_reducible refine abr_true rfl ?_ | with_reducible refine abr_false rfl ?_ | with_reducible refine abr_yes rfl ?_ | refine abr_yes (by decide) ?_ | refine abr_no (by decide) ?_ | with_reducible refine abr_same_ne ?_); (conv => whnf))))))
        refine ⟨(i + 1, bs ++ numBits l[i].1.toNat w.toNat ++ [decide (i + 1 < l.length), true] ++ numBits l[i].2.2.1.toNat (offW w) ++ numBits LV (offW w), tk9, σ9), ⟨h, ?_, m1, o9, s9'⟩, by dsimp only; omega, Sub.refl _, ?_⟩
        · dsimp only
          rw [← hbs]; simp only [List.append_assoc, List.cons_append, List.nil_append]
        · ((conv => whnf); (repeat ((first | with_reducible refine abr_true rfl ?_ | with_reducible refine abr_false rfl ?_ | with_reducible refine abr_yes rfl ?_ | refine abr_yes (by decide) ?_ | refine abr_no (by decide) ?_ | with_reducible refine abr_same_ne ?_); (conv => whnf))))
          (repeat' first | with_reducible exact EnvLe.refl _ | (refine EnvLe.node ?_ (by first | exact Or.inl rfl | exact Or.inr (Or.inl rfl) | exact Or.inr (Or.inr ⟨nofun, VLe.slice _ _ _⟩)) ?_))
  · obtain rfl : i = l.length := by omega
    rw [List.drop_length] at hbs
    have hbs : bs = full := by rw [← hbs]; exact (List.append_nil _).symm
    subst hbs
    ((conv => whnf); (repeat ((first | with_reducible refine abr_true rfl ?_ | with_reducible refine abr_false rfl ?_ | with_reducible refine abr_yes rfl ?_ | refine abr_yes (by decide) ?_ | refine abr_no (by decide) ?_ | with_reducible refine abr_same_ne ?_); (conv => whnf))))
    (repeat ((first | refine aload (by (repeat (first | with_reducible exact upd_same _ _ _ | assumption | rw [upd_ne _ _ (by first | assumption | (apply Ne.symm; assumption))]))) rfl ?_ | refine afit_i64 (by omega) ?_ | refine arem_nonneg (by omega) (by omega) ?_ | refine adiv_i64 (by omega) (by omega) ?_ | refine abr_yes (by omega) ?_ | refine abr_no (by omega) ?_ | refine amin ?_ | refine amax ?_ | refine afit_u64 (by omega) ?_ | refine afit_u8 (by omega) ?_ | rw [List.length_map]); ((conv => whnf); (repeat ((first | with_reducible refine abr_true rfl ?_ | with_reducible refine abr_false rfl ?_ | with_reducible refine abr_yes rfl ?_ | refine abr_yes (by decide) ?_ | refine abr_no (by decide) ?_ | with_reducible refine abr_same_ne ?_); (conv => whnf))))))
    refine acall (refBytes bs tk _ (by omega)) ?_
    rintro _ σ_ ⟨rfl, e_⟩
    obtain rfl := e_.symm
    refine ⟨?_, Ext.refl _⟩
    ((conv => whnf); (repeat ((first | with_reducible refine abr_true rfl ?_ | with_reducible refine abr_false rfl ?_ | with_reducible refine abr_yes rfl ?_ | refine abr_yes (by decide) ?_ | refine abr_no (by decide) ?_ | with_reducible refine abr_same_ne ?_); (conv => whnf))))
    exact aret_sl hs3 ⟨rfl, rfl⟩
end Go.Proofs.Ytnfdgccmpglbhaa
/-
  The document's statuses: how many bytes.
-/
namespace Go.Proofs.Ytnfdgccmpglbhaa
set_option linter.unusedVariables false
set_option linter.unusedSimpArgs false
open Go Go.Am

theorem writeSt_length {w : Int} {s : Int × List Ms} (hok : stOk w s = true) : ((pack (stBits w s)).length : Int) = sizeSt w s := by
  obtain ⟨hw, hn, h32, hall⟩ := stOk_parts hok
  have hfl := stBits_length (w := w) (by omega) s
  have hpl := pack_length (stBits w s)
  unfold sizeSt
  rw [if_pos hok]
  omega
set_option maxRecDepth 20000 in
theorem refStSize (s : Int × List Ms) (t : Tok) (w : Int) (σ : AHeap) (hl : s.2.length ≤ 9223372036854775807) : ACalls Try.prog i_bowlineref11_Size [stV t s, i64v w] σ fun v σ' => v = i64v (sizeSt w s) ∧ σ' = σ := by
  obtain ⟨ack, l⟩ := s
  dsimp only at hl
  refine k_bowlineref11_Size rfl ?_
  ((conv => whnf); (repeat ((first | with_reducible refine abr_true rfl ?_ | with_reducible refine abr_false rfl ?_ | with_reducible refine abr_yes rfl ?_ | refine abr_yes (by decide) ?_ | refine abr_no (by decide) ?_ | with_reducible refine abr_same_ne ?_); (conv => whnf))))
  refine anew rfl fun i1 h1 => ?_
  have k1 : upd σ i1 (.cells (stV t (ack, l)).cells) i1 = some (.cells [i64v ack, missV t l]) := upd_same _ _ _
  have hs : Sub (upd σ i1 (.cells (stV t (ack, l)).cells)) σ := Sub.upd_fresh _ h1
  generalize upd σ i1 (.cells (stV t (ack, l)).cells) = τ at *
  ((conv => whnf); (repeat ((first | with_reducible refine abr_true rfl ?_ | with_reducible refine abr_false rfl ?_ | with_reducible refine abr_yes rfl ?_ | refine abr_yes (by decide) ?_ | refine abr_no (by decide) ?_ | with_reducible refine abr_same_ne ?_); (conv => whnf))))
  refine aloads (l := [i64v ack, missV t l]) k1 (by exact Nat.le_refl 2) rfl ?_
  ((conv => whnf); (repeat ((first | with_reducible refine abr_true rfl ?_ | with_reducible refine abr_false rfl ?_ | with_reducible refine abr_yes rfl ?_ | refine abr_yes (by decide) ?_ | refine abr_no (by decide) ?_ | with_reducible refine abr_same_ne ?_); (conv => whnf))))
  refine acall (refStRight (ack, l) t w _ hl) ?_
  rintro _ σ_ ⟨rfl, e_⟩
  obtain rfl := e_.symm
  refine ⟨?_, Ext.refl _⟩
  ((conv => whnf); (repeat ((first | with_reducible refine abr_true rfl ?_ | with_reducible refine abr_false rfl ?_ | with_reducible refine abr_yes rfl ?_ | refine abr_yes (by decide) ?_ | refine abr_no (by decide) ?_ | with_reducible refine abr_same_ne ?_); (conv => whnf))))
  cases hok : stOk w (ack, l)
  · ((conv => whnf); (repeat ((first | with_reducible refine abr_true rfl ?_ | with_reducible refine abr_false rfl ?_ | with_reducible refine abr_yes rfl ?_ | refine abr_yes (by decide) ?_ | refine abr_no (by decide) ?_ | with_reducible refine abr_same_ne ?_); (conv => whnf))))
    exact aret (VLe.refl _) hs ⟨by unfold sizeSt; rw [hok]; rfl, rfl⟩
  ((conv => whnf); (repeat ((first | with_reducible refine abr_true rfl ?_ | with_reducible refine abr_false rfl ?_ | with_reducible refine abr_yes rfl ?_ | refine abr_yes (by decide) ?_ | refine abr_no (by decide) ?_ | with_reducible refine abr_same_ne ?_); (conv => whnf))))
  refine aloads (l := [i64v ack, missV t l]) k1 (by exact Nat.le_refl 2) rfl ?_
  ((conv => whnf); (repeat ((first | with_reducible refine abr_true rfl ?_ | with_reducible refine abr_false rfl ?_ | with_reducible refine abr_yes rfl ?_ | refine abr_yes (by decide) ?_ | refine abr_no (by decide) ?_ | with_reducible refine abr_same_ne ?_); (conv => whnf))))
  refine acall (refStWrite (ack, l) t w _ hok) ?_
  rintro _ σ_ ⟨rfl, e_⟩
  obtain rfl := e_.symm
  refine ⟨?_, Ext.refl _⟩
  ((conv => whnf); (repeat ((first | with_reducible refine abr_true rfl ?_ | with_reducible refine abr_false rfl ?_ | with_reducible refine abr_yes rfl ?_ | refine abr_yes (by decide) ?_ | refine abr_no (by decide) ?_ | with_reducible refine abr_same_ne ?_); (conv => whnf))))
  refine aret (VLe.refl _) hs ⟨?_, rfl⟩
  rw [List.length_map, ← writeSt_length hok]
end Go.Proofs.Ytnfdgccmpglbhaa
/-
  Statuses: reading numbers till one is missing.
-/
namespace Go.Proofs.Ytnfdgccmpglbhaa
set_option linter.unusedVariables false
set_option linter.unusedSimpArgs false
open Go Go.Am

/-- A reader of numbers at an object, with its bits' reader, its place and its error. -/
structure Gr (σ : AHeap) (ig ir : Nat) (b : List UInt8) (k : Nat) (e : Int) : Prop where
  ne : ig ≠ ir
  hk : k ≤ 8 * b.length
  hb : b.length ≤ 8192
  rd : ∃ tk, σ ir = some (.cells [sl tk b, i64v k])
  at_ : σ ig = some (.cells [.ptr ir 0, i64v e])
theorem rd_at {σ : AHeap} {ir : Nat} {b : List UInt8} {k : Nat} {tk : Tok} (h : σ ir = some (.cells [sl tk b, i64v k])) (hk : k ≤ 8 * b.length) (hb : b.length ≤ 8192) : Rd σ ir b k (del σ ir) := by
  refine ⟨del_same _ _, hk, hb, tk, ?_⟩
  funext j
  by_cases e : j = ir
  · subst e; rw [upd_same]; exact h
  · rw [upd_ne _ _ e, del_ne _ e]
def gVal (l : List Bool) (k : Nat) (e n : Int) : Nat := if e = 0 then getVal l k n else 0
def gAt (len k : Nat) (e n : Int) : Nat := if e = 0 then getAt len k n else k
def gCode (len k : Nat) (e n : Int) : Int := if e = 0 then getCode len k n else e
theorem getVal_lt (l : List Bool) (k : Nat) (n : Int) (h : n ≤ 62) : getVal l k n < 2 ^ 62 := by
  unfold getVal
  split
  · refine Nat.lt_of_lt_of_le (val_lt _) (Nat.pow_le_pow_right (by omega) ?_)
    rw [List.length_take]; omega
  · exact Nat.two_pow_pos _
set_option maxRecDepth 20000 in
theorem gGet (ig ir : Nat) (b : List UInt8) (k : Nat) (e n : Int) (σ : AHeap) (h : Gr σ ig ir b k e) (hn : 0 ≤ n ∧ n ≤ 62) :
    ACalls Try.prog i_status_reader_get [.ptr ig 0, i64v n] σ fun v σ' => v = i64v (gVal (unpack b) k e n) ∧ Gr σ' ig ir b (gAt (8 * b.length) k e n) (gCode (8 * b.length) k e n) ∧ ∀ j, j ≠ ig → j ≠ ir → σ' j = σ j := by
  have h0 := h
  obtain ⟨hne, hk, hb, ⟨tk, hrd⟩, hat⟩ := h
  refine k_status_reader_get rfl ?_
  ((conv => whnf); (repeat ((first | with_reducible refine abr_true rfl ?_ | with_reducible refine abr_false rfl ?_ | with_reducible refine abr_yes rfl ?_ | refine abr_yes (by decide) ?_ | refine abr_no (by decide) ?_ | with_reducible refine abr_same_ne ?_); (conv => whnf))))
  refine aload hat rfl ?_
  ((conv => whnf); (repeat ((first | with_reducible refine abr_true rfl ?_ | with_reducible refine abr_false rfl ?_ | with_reducible refine abr_yes rfl ?_ | refine abr_yes (by decide) ?_ | refine abr_no (by decide) ?_ | with_reducible refine abr_same_ne ?_); (conv => whnf))))
  by_cases he : e = 0
  · subst he
    refine abr_no (fun h => h rfl) ?_
    ((conv => whnf); (repeat ((first | with_reducible refine abr_true rfl ?_ | with_reducible refine abr_false rfl ?_ | with_reducible refine abr_yes rfl ?_ | refine abr_yes (by decide) ?_ | refine abr_no (by decide) ?_ | with_reducible refine abr_same_ne ?_); (conv => whnf))))
    refine aload hat rfl ?_
    ((conv => whnf); (repeat ((first | with_reducible refine abr_true rfl ?_ | with_reducible refine abr_false rfl ?_ | with_reducible refine abr_yes rfl ?_ | refine abr_yes (by decide) ?_ | refine abr_no (by decide) ?_ | with_reducible refine abr_same_ne ?_); (conv => whnf))))
    refine acall (rGet ir b k n _ _ (rd_at hrd hk hb)) ?_
    rintro _ σ1 ⟨rfl, r1⟩
    have r1' := r1
    obtain ⟨_, hk1, _, tk1, e1⟩ := r1
    have hat1 : σ1 ig = some (.cells [.ptr ir 0, i64v 0]) := by rw [e1, upd_ne _ _ hne, del_ne _ hne]; exact hat
    have hrd1 : σ1 ir = some (.cells [sl tk1 b, i64v (getAt (8 * b.length) k n)]) := by rw [e1]; exact upd_same _ _ _
    have hfr : ∀ j, j ≠ ir → σ1 j = σ j := fun j hj => by rw [e1, upd_ne _ _ hj, del_ne _ hj]
    have hv := getVal_lt (unpack b) k n hn.2
    have p62 : (2 : Nat) ^ 62 = 4611686018427387904 := by decide
    ((conv => whnf); (repeat ((first | with_reducible refine abr_true rfl ?_ | with_reducible refine abr_false rfl ?_ | with_reducible refine abr_yes rfl ?_ | refine abr_yes (by decide) ?_ | refine abr_no (by decide) ?_ | with_reducible refine abr_same_ne ?_); (conv => whnf))))
    refine astore (xs := [i64v (getCode (8 * b.length) k n)]) (l := [.ptr ir 0, i64v (getCode (8 * b.length) k n)]) hat1 (by exact Nat.le_refl 2) rfl rfl ?_
    ((conv => whnf); (repeat ((first | with_reducible refine abr_true rfl ?_ | with_reducible refine abr_false rfl ?_ | with_reducible refine abr_yes rfl ?_ | refine abr_yes (by decide) ?_ | refine abr_no (by decide) ?_ | with_reducible refine abr_same_ne ?_); (conv => whnf))))
    refine afit_i64 (by omega) ?_
    ((conv => whnf); (repeat ((first | with_reducible refine abr_true rfl ?_ | with_reducible refine abr_false rfl ?_ | with_reducible refine abr_yes rfl ?_ | refine abr_yes (by decide) ?_ | refine abr_no (by decide) ?_ | with_reducible refine abr_same_ne ?_); (conv => whnf))))
    refine aret_same ⟨?_, ⟨hne, ?_, hb, ⟨tk1, ?_⟩, ?_⟩, ?_⟩
    · unfold gVal; rw [if_pos rfl]
    · unfold gAt; rw [if_pos rfl]; exact hk1
    · unfold gAt; rw [if_pos rfl, upd_ne _ _ (Ne.symm hne)]; exact hrd1
    · unfold gCode; rw [if_pos rfl]; exact upd_same _ _ _
    · intro j h1 h2
      rw [upd_ne _ _ h1]; exact hfr j h2
  · refine abr_yes he ?_
    ((conv => whnf); (repeat ((first | with_reducible refine abr_true rfl ?_ | with_reducible refine abr_false rfl ?_ | with_reducible refine abr_yes rfl ?_ | refine abr_yes (by decide) ?_ | refine abr_no (by decide) ?_ | with_reducible refine abr_same_ne ?_); (conv => whnf))))
    refine aret_same ⟨?_, ?_, fun _ _ _ => rfl⟩
    · unfold gVal; rw [if_neg he]; rfl
    · unfold gAt gCode; rw [if_neg he, if_neg he]; exact h0
end Go.Proofs.Ytnfdgccmpglbhaa
/-
  Statuses: reading a miss.
-/
namespace Go.Proofs.Ytnfdgccmpglbhaa
set_option linter.unusedVariables false
set_option linter.unusedSimpArgs false
open Go Go.Am

/-- A place and an error, behind a number. -/
def gNext (len : Nat) (p : Nat × Int) (n : Int) : Nat × Int := (gAt len p.1 p.2 n, gCode len p.1 p.2 n)
def missEnd (w : Int) (l : List Bool) (p : Nat × Int) : Nat × Int :=
  let p3 := gNext l.length (gNext l.length (gNext l.length p w) 1) 1
  if gVal l (gNext l.length (gNext l.length p w) 1).1 (gNext l.length (gNext l.length p w) 1).2 1 = 1 then gNext l.length (gNext l.length p3 (offW w)) (offW w) else p3
def missMore (w : Int) (l : List Bool) (p : Nat × Int) : Bool := decide (gVal l (gNext l.length p w).1 (gNext l.length p w).2 1 = 1)
def missRead (w : Int) (l : List Bool) (p : Nat × Int) : Ms :=
  let p2 := gNext l.length (gNext l.length p w) 1
  let p3 := gNext l.length p2 1
  let p4 := gNext l.length p3 (offW w)
  if gVal l p2.1 p2.2 1 = 1 then ((gVal l p.1 p.2 w : Int), true, (gVal l p3.1 p3.2 (offW w) : Int), (((gVal l p4.1 p4.2 (offW w) + 1) % 2 ^ offW w : Nat) : Int))
  else ((gVal l p.1 p.2 w : Int), false, 0, 0)
theorem and_mask_i64 (x k : Nat) (hx : x < 4611686018427387905) (hk : k ≤ 61) : bitsOp .and .i64 (x : Int) ((2 ^ k - 1 : Nat) : Int) = ((x % 2 ^ k : Nat) : Int) := by
  have h62 : 2 ^ k ≤ 2 ^ 61 := Nat.pow_le_pow_right (by omega) hk
  have h1 : BitVec.ofInt 64 (x : Int) = BitVec.ofNat 64 x := by simp
  have h2 : BitVec.ofInt 64 ((2 ^ k - 1 : Nat) : Int) = BitVec.ofNat 64 (2 ^ k - 1) := BitVec.ofInt_natCast _ _
  show IntKind.i64.wrap ((BitVec.ofInt 64 (x : Int) &&& BitVec.ofInt 64 ((2 ^ k - 1 : Nat) : Int)).toNat) = _
  rw [h1, h2]
  have : (BitVec.ofNat 64 x &&& BitVec.ofNat 64 (2 ^ k - 1)).toNat = x % 2 ^ k := by
    rw [BitVec.toNat_and, BitVec.toNat_ofNat, BitVec.toNat_ofNat, Nat.mod_eq_of_lt (show x < 2 ^ 64 by omega), Nat.mod_eq_of_lt (Nat.lt_of_le_of_lt (Nat.sub_le _ _) (Nat.lt_of_le_of_lt h62 (by decide)))]
    exact Nat.and_two_pow_sub_one_eq_mod x k
  have hlt : x % 2 ^ k < 2 ^ k := Nat.mod_lt _ (Nat.two_pow_pos _)
  rw [this]
  have h3 : x % 2 ^ k < 2 ^ 61 := Nat.lt_of_lt_of_le hlt h62
  have p61 : (2 : Nat) ^ 61 = 2305843009213693952 := by decide
  exact wrap_i64 (by have := Int.natCast_nonneg (x % 2 ^ k); omega) (by omega)
theorem gVal_lt (l : List Bool) (k : Nat) (e n : Int) (h : n ≤ 62) : gVal l k e n < 4611686018427387904 := by
  have := getVal_lt l k n h
  have p62 : (2 : Nat) ^ 62 = 4611686018427387904 := by decide
  unfold gVal; split <;> omega

theorem Gr.upd {σ : AHeap} {ig ir : Nat} {b : List UInt8} {k : Nat} {e : Int} (h : Gr σ ig ir b k e) {j : Nat} (o : AObj) (h1 : j ≠ ig) (h2 : j ≠ ir) : Gr (upd σ j o) ig ir b k e := by
  obtain ⟨tk, hr⟩ := h.rd
  exact ⟨h.ne, h.hk, h.hb, ⟨tk, (upd_ne _ _ (Ne.symm h2)).trans hr⟩, (upd_ne _ _ (Ne.symm h1)).trans h.at_⟩
set_option maxRecDepth 20000 in
theorem tMiss (ig ir : Nat) (b : List UInt8) (p : Nat × Int) (w : Int) (σ : AHeap) (h : Gr σ ig ir b p.1 p.2) (hw : 0 ≤ w ∧ w ≤ 62) :
    ACalls Try.prog i_status_reader_miss [.ptr ig 0, i64v w] σ fun v σ' => v = .tup [msV (missRead w (unpack b) p), boolv (missMore w (unpack b) p)] ∧ Gr σ' ig ir b (missEnd w (unpack b) p).1 (missEnd w (unpack b) p).2 ∧ ∀ j, j ≠ ig → j ≠ ir → σ j ≠ none → σ' j = σ j := by
  have hul := unpack_length b
  have hoff := offW_le w
  refine k_status_reader_miss rfl ?_
  ((conv => whnf); (repeat ((first | with_reducible refine abr_true rfl ?_ | with_reducible refine abr_false rfl ?_ | with_reducible refine abr_yes rfl ?_ | refine abr_yes (by decide) ?_ | refine abr_no (by decide) ?_ | with_reducible refine abr_same_ne ?_); (conv => whnf))))
  refine anew rfl fun i4 h4 => ?_
  have hne := h.ne
  obtain ⟨tk0, hrd⟩ := h.rd
  have n4g : i4 ≠ ig := fun e => by subst e; rw [h.at_] at h4; cases h4
  have n4r : i4 ≠ ir := fun e => by subst e; rw [hrd] at h4; cases h4
  have g0 : Gr (upd σ i4 (.cells [i64v 0, boolv false, i64v 0, i64v 0])) ig ir b p.1 p.2 := ⟨hne, h.hk, h.hb, ⟨tk0, (upd_ne _ _ (Ne.symm n4r)).trans hrd⟩, (upd_ne _ _ (Ne.symm n4g)).trans h.at_⟩
  have f0 : ∀ j, j ≠ ig → j ≠ ir → σ j ≠ none → upd σ i4 (.cells [i64v 0, boolv false, i64v 0, i64v 0]) j = σ j := fun j _ _ h3 => upd_ne _ _ (fun e => h3 (by rw [e]; exact h4))
  have k0 : upd σ i4 (.cells [i64v 0, boolv false, i64v 0, i64v 0]) i4 = some (.cells [i64v 0, boolv false, i64v 0, i64v 0]) := upd_same _ _ _
  generalize upd σ i4 (.cells [i64v 0, boolv false, i64v 0, i64v 0]) = τ0 at *
  ((conv => whnf); (repeat ((first | with_reducible refine abr_true rfl ?_ | with_reducible refine abr_false rfl ?_ | with_reducible refine abr_yes rfl ?_ | refine abr_yes (by decide) ?_ | refine abr_no (by decide) ?_ | with_reducible refine abr_same_ne ?_); (conv => whnf))))
  refine acall (gGet ig ir b p.1 p.2 w _ g0 hw) ?_
  rintro _ τ1 ⟨rfl, g1, e1⟩
  ((conv => whnf); (repeat ((first | with_reducible refine abr_true rfl ?_ | with_reducible refine abr_false rfl ?_ | with_reducible refine abr_yes rfl ?_ | refine abr_yes (by decide) ?_ | refine abr_no (by decide) ?_ | with_reducible refine abr_same_ne ?_); (conv => whnf))))
  have k1 := (e1 i4 n4g n4r).trans k0
  refine astore (xs := [i64v (gVal (unpack b) p.1 p.2 w)]) (l := [i64v (gVal (unpack b) p.1 p.2 w), boolv false, i64v 0, i64v 0]) k1 (by exact Nat.le_of_ble_eq_true rfl) rfl rfl ?_
  have e0 : ∀ j, j ≠ ig → j ≠ ir → σ j ≠ none → τ0 j = σ j := f0
  have c1 : ∀ j, j ≠ i4 → j ≠ ig → j ≠ ir → upd τ1 i4 (.cells [i64v (gVal (unpack b) p.1 p.2 w), boolv false, i64v 0, i64v 0]) j = τ0 j := fun j a b' c => (upd_ne _ _ a).trans (e1 j b' c)
  have k1 : upd τ1 i4 (.cells [i64v (gVal (unpack b) p.1 p.2 w), boolv false, i64v 0, i64v 0]) i4 = some (.cells [i64v (gVal (unpack b) p.1 p.2 w), boolv false, i64v 0, i64v 0]) := upd_same _ _ _
  have g1 := g1.upd (.cells [i64v (gVal (unpack b) p.1 p.2 w), boolv false, i64v 0, i64v 0]) n4g n4r
  generalize upd τ1 i4 (.cells [i64v (gVal (unpack b) p.1 p.2 w), boolv false, i64v 0, i64v 0]) = υ1 at *
  have q1 : gNext (unpack b).length p w = (gAt (8 * b.length) p.1 p.2 w, gCode (8 * b.length) p.1 p.2 w) := by unfold gNext; rw [hul]
  generalize hp1 : gNext (unpack b).length p w = p1 at *
  have g1 : Gr υ1 ig ir b p1.1 p1.2 := by rw [q1]; exact g1
  clear q1
  ((conv => whnf); (repeat ((first | with_reducible refine abr_true rfl ?_ | with_reducible refine abr_false rfl ?_ | with_reducible refine abr_yes rfl ?_ | refine abr_yes (by decide) ?_ | refine abr_no (by decide) ?_ | with_reducible refine abr_same_ne ?_); (conv => whnf))))
  refine acall (gGet ig ir b p1.1 p1.2 1 _ g1 (by omega)) ?_
  rintro _ τ2 ⟨rfl, g2, e2⟩
  have k2 := (e2 i4 n4g n4r).trans k1
  have q2 : gNext (unpack b).length p1 1 = (gAt (8 * b.length) p1.1 p1.2 1, gCode (8 * b.length) p1.1 p1.2 1) := by unfold gNext; rw [hul]
  generalize hp2 : gNext (unpack b).length p1 1 = p2 at *
  have g2 : Gr τ2 ig ir b p2.1 p2.2 := by rw [q2]; exact g2
  clear q2
  ((conv => whnf); (repeat ((first | with_reducible refine abr_true rfl ?_ | with_reducible refine abr_false rfl ?_ | with_reducible refine abr_yes rfl ?_ | refine abr_yes (by decide) ?_ | refine abr_no (by decide) ?_ | with_reducible refine abr_same_ne ?_); (conv => whnf))))
  refine acall (gGet ig ir b p2.1 p2.2 1 _ g2 (by omega)) ?_
  rintro _ τ3 ⟨rfl, g3, e3⟩
  have k3 := (e3 i4 n4g n4r).trans k2
  have q3 : gNext (unpack b).length p2 1 = (gAt (8 * b.length) p2.1 p2.2 1, gCode (8 * b.length) p2.1 p2.2 1) := by unfold gNext; rw [hul]
  generalize hp3 : gNext (unpack b).length p2 1 = p3 at *
  have g3 : Gr τ3 ig ir b p3.1 p3.2 := by rw [q3]; exact g3
  clear q3
  ((conv => whnf); (repeat ((first | with_reducible refine abr_true rfl ?_ | with_reducible refine abr_false rfl ?_ | with_reducible refine abr_yes rfl ?_ | refine abr_yes (by decide) ?_ | refine abr_no (by decide) ?_ | with_reducible refine abr_same_ne ?_); (conv => whnf))))
  rw [@dec_congr ((gVal (unpack b) p2.1 p2.2 1 : Int) = 1) (gVal (unpack b) p2.1 p2.2 1 = 1) _ inferInstance (by omega)]
  have hM : missMore w (unpack b) p = decide (gVal (unpack b) p1.1 p1.2 1 = 1) := by unfold missMore; rw [hp1]
  have hR : missRead w (unpack b) p = if gVal (unpack b) p2.1 p2.2 1 = 1 then ((gVal (unpack b) p.1 p.2 w : Int), true, (gVal (unpack b) p3.1 p3.2 (offW w) : Int), (((gVal (unpack b) (gNext (unpack b).length p3 (offW w)).1 (gNext (unpack b).length p3 (offW w)).2 (offW w) + 1) % 2 ^ offW w : Nat) : Int)) else ((gVal (unpack b) p.1 p.2 w : Int), false, 0, 0) := by
    unfold missRead; simp only [hp1, hp2, hp3]
  have hE : missEnd w (unpack b) p = if gVal (unpack b) p2.1 p2.2 1 = 1 then gNext (unpack b).length (gNext (unpack b).length p3 (offW w)) (offW w) else p3 := by
    unfold missEnd; simp only [hp1, hp2, hp3]
  rw [hM, hR, hE]
  have hw2 := gVal_lt (unpack b) p.1 p.2 w hw.2
  generalize gVal (unpack b) p.1 p.2 w = sn at *
  generalize gVal (unpack b) p1.1 p1.2 1 = mo at *
  generalize gVal (unpack b) p2.1 p2.2 1 = pa at *
  refine astore (xs := [boolv (decide (pa = 1))]) (l := [i64v sn, boolv (decide (pa = 1)), i64v 0, i64v 0]) k3 (by exact Nat.le_of_ble_eq_true rfl) rfl rfl ?_
  have c3 : ∀ j, j ≠ i4 → j ≠ ig → j ≠ ir → upd τ3 i4 (.cells [i64v sn, boolv (decide (pa = 1)), i64v 0, i64v 0]) j = υ1 j := fun j a b' c => (upd_ne _ _ a).trans ((e3 j b' c).trans (e2 j b' c))
  have k3 : upd τ3 i4 (.cells [i64v sn, boolv (decide (pa = 1)), i64v 0, i64v 0]) i4 = some (.cells [i64v sn, boolv (decide (pa = 1)), i64v 0, i64v 0]) := upd_same _ _ _
  have g3 := g3.upd (.cells [i64v sn, boolv (decide (pa = 1)), i64v 0, i64v 0]) n4g n4r
  generalize upd τ3 i4 (.cells [i64v sn, boolv (decide (pa = 1)), i64v 0, i64v 0]) = υ3 at *
  have fin : ∀ j, j ≠ ig → j ≠ ir → σ j ≠ none → j ≠ i4 := fun j _ _ h3 e => h3 (by rw [e]; exact h4)
  have hmo : ∀ (inst : Decidable ((mo : Int) = 1)), AVal.v (Value.bool (@decide _ inst)) = boolv (decide (mo = 1)) := fun inst => congrArg boolv (@dec_congr ((mo : Int) = 1) (mo = 1) inst inferInstance (by omega))
  ((conv => whnf); (repeat ((first | with_reducible refine abr_true rfl ?_ | with_reducible refine abr_false rfl ?_ | with_reducible refine abr_yes rfl ?_ | refine abr_yes (by decide) ?_ | refine abr_no (by decide) ?_ | with_reducible refine abr_same_ne ?_); (conv => whnf))))
  refine aload k3 rfl ?_
  ((conv => whnf); (repeat ((first | with_reducible refine abr_true rfl ?_ | with_reducible refine abr_false rfl ?_ | with_reducible refine abr_yes rfl ?_ | refine abr_yes (by decide) ?_ | refine abr_no (by decide) ?_ | with_reducible refine abr_same_ne ?_); (conv => whnf))))
  by_cases hpa : pa = 1
  · rw [if_pos hpa, if_pos hpa]
    refine abr_true (decide_eq_true hpa) ?_
    ((conv => whnf); (repeat ((first | with_reducible refine abr_true rfl ?_ | with_reducible refine abr_false rfl ?_ | with_reducible refine abr_yes rfl ?_ | refine abr_yes (by decide) ?_ | refine abr_no (by decide) ?_ | with_reducible refine abr_same_ne ?_); (conv => whnf))))
    refine acall (tOff w _) ?_
    rintro _ σ_ ⟨rfl, e_⟩
    obtain rfl := e_.symm
    refine ⟨?_, Ext.refl _⟩
    ((conv => whnf); (repeat ((first | with_reducible refine abr_true rfl ?_ | with_reducible refine abr_false rfl ?_ | with_reducible refine abr_yes rfl ?_ | refine abr_yes (by decide) ?_ | refine abr_no (by decide) ?_ | with_reducible refine abr_same_ne ?_); (conv => whnf))))
    refine acall (gGet ig ir b p3.1 p3.2 (offW w) _ g3 (by omega)) ?_
    rintro _ τ4 ⟨rfl, g4, e4⟩
    have k4 := (e4 i4 n4g n4r).trans k3
    have q4 : gNext (unpack b).length p3 (offW w) = (gAt (8 * b.length) p3.1 p3.2 (offW w), gCode (8 * b.length) p3.1 p3.2 (offW w)) := by unfold gNext; rw [hul]
    generalize hp4 : gNext (unpack b).length p3 (offW w) = p4 at *
    have g4 : Gr τ4 ig ir b p4.1 p4.2 := by rw [q4]; exact g4
    clear q4
    generalize gVal (unpack b) p3.1 p3.2 (offW w) = fr at *
    ((conv => whnf); (repeat ((first | with_reducible refine abr_true rfl ?_ | with_reducible refine abr_false rfl ?_ | with_reducible refine abr_yes rfl ?_ | refine abr_yes (by decide) ?_ | refine abr_no (by decide) ?_ | with_reducible refine abr_same_ne ?_); (conv => whnf))))
    refine astore (xs := [i64v fr]) (l := [i64v sn, boolv (decide (pa = 1)), i64v fr, i64v 0]) k4 (by exact Nat.le_of_ble_eq_true rfl) rfl rfl ?_
    have c4 : ∀ j, j ≠ i4 → j ≠ ig → j ≠ ir → upd τ4 i4 (.cells [i64v sn, boolv (decide (pa = 1)), i64v fr, i64v 0]) j = υ3 j := fun j a b' c => (upd_ne _ _ a).trans (e4 j b' c)
    have k4 : upd τ4 i4 (.cells [i64v sn, boolv (decide (pa = 1)), i64v fr, i64v 0]) i4 = some (.cells [i64v sn, boolv (decide (pa = 1)), i64v fr, i64v 0]) := upd_same _ _ _
    have g4 := g4.upd (.cells [i64v sn, boolv (decide (pa = 1)), i64v fr, i64v 0]) n4g n4r
    generalize upd τ4 i4 (.cells [i64v sn, boolv (decide (pa = 1)), i64v fr, i64v 0]) = υ4 at *
    ((conv => whnf); (repeat ((first | with_reducible refine abr_true rfl ?_ | with_reducible refine abr_false rfl ?_ | with_reducible refine abr_yes rfl ?_ | refine abr_yes (by decide) ?_ | refine abr_no (by decide) ?_ | with_reducible refine abr_same_ne ?_); (conv => whnf))))
    refine ashl_eq (by omega) (shl1_nat (by omega)) ?_
    ((conv => whnf); (repeat ((first | with_reducible refine abr_true rfl ?_ | with_reducible refine abr_false rfl ?_ | with_reducible refine abr_yes rfl ?_ | refine abr_yes (by decide) ?_ | refine abr_no (by decide) ?_ | with_reducible refine abr_same_ne ?_); (conv => whnf))))
    have h16 : 2 ^ offW w ≤ 65536 := Nat.le_trans (Nat.pow_le_pow_right (n := 2) (by omega) hoff) (by decide)
    have hpow : ((2 ^ offW w : Nat) : Int) - 1 = ((2 ^ offW w - 1 : Nat) : Int) := by have := Nat.two_pow_pos (offW w); omega
    rw [hpow]
    refine afit_i64 (by omega) ?_
    ((conv => whnf); (repeat ((first | with_reducible refine abr_true rfl ?_ | with_reducible refine abr_false rfl ?_ | with_reducible refine abr_yes rfl ?_ | refine abr_yes (by decide) ?_ | refine abr_no (by decide) ?_ | with_reducible refine abr_same_ne ?_); (conv => whnf))))
    refine acall (gGet ig ir b p4.1 p4.2 (offW w) _ g4 (by omega)) ?_
    rintro _ τ5 ⟨rfl, g5, e5⟩
    have k5 := (e5 i4 n4g n4r).trans k4
    have q5 : gNext (unpack b).length p4 (offW w) = (gAt (8 * b.length) p4.1 p4.2 (offW w), gCode (8 * b.length) p4.1 p4.2 (offW w)) := by unfold gNext; rw [hul]
    generalize hp5 : gNext (unpack b).length p4 (offW w) = p5 at *
    have g5 : Gr τ5 ig ir b p5.1 p5.2 := by rw [q5]; exact g5
    clear q5
    have hl5 := gVal_lt (unpack b) p4.1 p4.2 (offW w) (by omega)
    generalize gVal (unpack b) p4.1 p4.2 (offW w) = la at *
    ((conv => whnf); (repeat ((first | with_reducible refine abr_true rfl ?_ | with_reducible refine abr_false rfl ?_ | with_reducible refine abr_yes rfl ?_ | refine abr_yes (by decide) ?_ | refine abr_no (by decide) ?_ | with_reducible refine abr_same_ne ?_); (conv => whnf))))
    refine afit_i64 (by omega) ?_
    rw [show ((la : Int) + 1) = ((la + 1 : Nat) : Int) by omega]
    ((conv => whnf); (repeat ((first | with_reducible refine abr_true rfl ?_ | with_reducible refine abr_false rfl ?_ | with_reducible refine abr_yes rfl ?_ | refine abr_yes (by decide) ?_ | refine abr_no (by decide) ?_ | with_reducible refine abr_same_ne ?_); (conv => whnf))))
    refine abits_eq (and_mask_i64 (la + 1) (offW w) (by omega) (by omega)) ?_
    ((conv => whnf); (repeat ((first | with_reducible refine abr_true rfl ?_ | with_reducible refine abr_false rfl ?_ | with_reducible refine abr_yes rfl ?_ | refine abr_yes (by decide) ?_ | refine abr_no (by decide) ?_ | with_reducible refine abr_same_ne ?_); (conv => whnf))))
    generalize (la + 1) % 2 ^ offW w = to at *
    refine astore (xs := [i64v to]) (l := [i64v sn, boolv (decide (pa = 1)), i64v fr, i64v to]) k5 (by exact Nat.le_of_ble_eq_true rfl) rfl rfl ?_
    ((conv => whnf); (repeat ((first | with_reducible refine abr_true rfl ?_ | with_reducible refine abr_false rfl ?_ | with_reducible refine abr_yes rfl ?_ | refine abr_yes (by decide) ?_ | refine abr_no (by decide) ?_ | with_reducible refine abr_same_ne ?_); (conv => whnf))))
    refine aloads (l := [i64v sn, boolv (decide (pa = 1)), i64v fr, i64v to]) (upd_same _ _ _) (by exact Nat.le_refl 4) rfl ?_
    ((conv => whnf); (repeat ((first | with_reducible refine abr_true rfl ?_ | with_reducible refine abr_false rfl ?_ | with_reducible refine abr_yes rfl ?_ | refine abr_yes (by decide) ?_ | refine abr_no (by decide) ?_ | with_reducible refine abr_same_ne ?_); (conv => whnf))))
    refine astore (xs := [i64v sn, boolv (decide (pa = 1)), i64v fr, i64v to]) (l := [i64v sn, boolv (decide (pa = 1)), i64v fr, i64v to]) (upd_same _ _ _) (by exact Nat.le_refl 4) rfl rfl ?_
    rw [upd_upd]
    ((conv => whnf); (repeat ((first | with_reducible refine abr_true rfl ?_ | with_reducible refine abr_false rfl ?_ | with_reducible refine abr_yes rfl ?_ | refine abr_yes (by decide) ?_ | refine abr_no (by decide) ?_ | with_reducible refine abr_same_ne ?_); (conv => whnf))))
    refine aloads (l := [i64v sn, boolv (decide (pa = 1)), i64v fr, i64v to]) (upd_same _ _ _) (by exact Nat.le_refl 4) rfl ?_
    ((conv => whnf); (repeat ((first | with_reducible refine abr_true rfl ?_ | with_reducible refine abr_false rfl ?_ | with_reducible refine abr_yes rfl ?_ | refine abr_yes (by decide) ?_ | refine abr_no (by decide) ?_ | with_reducible refine abr_same_ne ?_); (conv => whnf))))
    refine aret_same ⟨?_, g5.upd _ n4g n4r, fun j a b' c => ?_⟩
    · rw [hmo, decide_eq_true hpa]
    · have hj := fin j a b' c
      rw [upd_ne _ _ hj, e5 j a b', c4 j hj a b', c3 j hj a b', c1 j hj a b', e0 j a b' c]
  · rw [if_neg hpa, if_neg hpa]
    refine abr_false (decide_eq_false hpa) ?_
    ((conv => whnf); (repeat ((first | with_reducible refine abr_true rfl ?_ | with_reducible refine abr_false rfl ?_ | with_reducible refine abr_yes rfl ?_ | refine abr_yes (by decide) ?_ | refine abr_no (by decide) ?_ | with_reducible refine abr_same_ne ?_); (conv => whnf))))
    refine aloads (l := [i64v sn, boolv (decide (pa = 1)), i64v 0, i64v 0]) k3 (by exact Nat.le_refl 4) rfl ?_
    ((conv => whnf); (repeat ((first | with_reducible refine abr_true rfl ?_ | with_reducible refine abr_false rfl ?_ | with_reducible refine abr_yes rfl ?_ | refine abr_yes (by decide) ?_ | refine abr_no (by decide) ?_ | with_reducible refine abr_same_ne ?_); (conv => whnf))))
    refine astore (xs := [i64v sn, boolv (decide (pa = 1)), i64v 0, i64v 0]) (l := [i64v sn, boolv (decide (pa = 1)), i64v 0, i64v 0]) k3 (by exact Nat.le_refl 4) rfl rfl ?_
    ((conv => whnf); (repeat ((first | with_reducible refine abr_true rfl ?_ | with_reducible refine abr_false rfl ?_ | with_reducible refine abr_yes rfl ?_ | refine abr_yes (by decide) ?_ | refine abr_no (by decide) ?_ | with_reducible refine abr_same_ne ?_); (conv => whnf))))
    refine aloads (l := [i64v sn, boolv (decide (pa = 1)), i64v 0, i64v 0]) (upd_same _ _ _) (by exact Nat.le_refl 4) rfl ?_
    ((conv => whnf); (repeat ((first | with_reducible refine abr_true rfl ?_ | with_reducible refine abr_false rfl ?_ | with_reducible refine abr_yes rfl ?_ | refine abr_yes (by decide) ?_ | refine abr_no (by decide) ?_ | with_reducible refine abr_same_ne ?_); (conv => whnf))))
    refine aret_same ⟨?_, g3.upd _ n4g n4r, fun j a b' c => ?_⟩
    · rw [hmo, decide_eq_false hpa]
    · have hj := fin j a b' c
      rw [upd_ne _ _ hj, c3 j hj a b', c1 j hj a b', e0 j a b' c]
end Go.Proofs.Ytnfdgccmpglbhaa
/-
  Statuses: reading one.
-/
namespace Go.Proofs.Ytnfdgccmpglbhaa
set_option linter.unusedVariables false
set_option linter.unusedSimpArgs false
open Go Go.Am

/-- The misses behind a place; how many more there may be. -/
def readMs (w : Int) (b : List UInt8) : Nat → List Ms → Nat × Int → Bool → List Ms × Int
  | 0, _, _, _ => ([], 0)
  | f + 1, ms, p, more =>
    if p.2 ≠ 0 then ([], p.2)
    else if more = true then
      (if ms.length = 32 then ([], 2)
      else if (missEnd w (unpack b) p).2 = 0 ∧ missOk w (missRead w (unpack b) p) = false then ([], 3)
      else readMs w b f (ms ++ [missRead w (unpack b) p]) (missEnd w (unpack b) p) (missMore w (unpack b) p))
    else if restOk (unpack b) p.1 = true ∧ b.drop ((p.1 + 7) / 8) = [] then (ms, 0) else ([], 3)
def readSt (w : Int) (b : List UInt8) : (Int × List Ms) × Int :=
  if stWidth w = false then ((0, []), 9)
  else match b with
    | [] => ((0, []), 8)
    | x :: _ =>
      if x.toNat / 128 ≠ 0 then ((0, []), 4) else if x.toNat / 16 ≠ 0 then ((0, []), 3)
      else
        let p4 := gNext (unpack b).length (0, 0) 4
        let pa := gNext (unpack b).length p4 w
        let r := readMs w b 33 [] (gNext (unpack b).length pa 1) (decide (gVal (unpack b) pa.1 pa.2 1 = 1))
        if r.2 = 0 then (((gVal (unpack b) p4.1 p4.2 w : Int), r.1), 0) else ((0, []), r.2)
theorem and128 (x : UInt8) : bitsOp .and .u8 (x.toNat : Int) 128 = ((x.toNat / 128 * 128 : Nat) : Int) := by
  have h : ∀ n : Fin 256, bitsOp .and .u8 (n.val : Int) 128 = ((n.val / 128 * 128 : Nat) : Int) := by decide +kernel
  exact h ⟨x.toNat, x.toNat_lt⟩
theorem and112 (x : UInt8) : bitsOp .and .u8 (x.toNat : Int) 112 = ((x.toNat / 16 % 8 * 16 : Nat) : Int) := by
  have h : ∀ n : Fin 256, bitsOp .and .u8 (n.val : Int) 112 = ((n.val / 16 % 8 * 16 : Nat) : Int) := by decide +kernel
  exact h ⟨x.toNat, x.toNat_lt⟩
abbrev stRes (r : (Int × List Ms) × Int) : AVal := .tup [stV .none r.1, i64v r.2]
theorem aret_st {x c : Int} {l : List Ms} {t : Tok} {σ σ2 : AHeap} {Q : AVal → AHeap → Prop} (hs : Sub σ σ2) (h : Q (.tup [stV .none (x, l), i64v c]) σ2) : ARet (.tup [.agg [i64v x, missV t l], i64v c]) σ Q :=
  aret (VLe.tup (VLe.cons vle_st (VLe.cons (VLe.refl _) fun _ _ h => h))) hs h
theorem gNext_eq (b : List UInt8) (p : Nat × Int) (n : Int) : gNext (unpack b).length p n = (gAt (8 * b.length) p.1 p.2 n, gCode (8 * b.length) p.1 p.2 n) := by unfold gNext; rw [unpack_length]
set_option maxRecDepth 20000 in
set_option maxHeartbeats 4000000 in
theorem tRead (b : List UInt8) (t : Tok) (w : Int) (σ : AHeap) (hl : b.length ≤ 8000) : ACalls Try.prog i_status_Read [sl t b, i64v w] σ fun v σ' => v = stRes (readSt w b) ∧ σ' = σ := by
  refine k_status_Read rfl ?_
  ((conv => whnf); (repeat ((first | with_reducible refine abr_true rfl ?_ | with_reducible refine abr_false rfl ?_ | with_reducible refine abr_yes rfl ?_ | refine abr_yes (by decide) ?_ | refine abr_no (by decide) ?_ | with_reducible refine abr_same_ne ?_); (conv => whnf))))
  refine anew rfl fun i4 h4 => ?_
  have k4 : upd σ i4 (.cells [i64v 0, .slice 4 [] .full]) i4 = some (.cells [i64v 0, .slice 4 [] .full]) := upd_same _ _ _
  have hs4 : Sub (upd σ i4 (.cells [i64v 0, .slice 4 [] .full])) σ := Sub.upd_fresh _ h4
  generalize upd σ i4 (.cells [i64v 0, .slice 4 [] .full]) = τ at *
  ((conv => whnf); (repeat ((first | with_reducible refine abr_true rfl ?_ | with_reducible refine abr_false rfl ?_ | with_reducible refine abr_yes rfl ?_ | refine abr_yes (by decide) ?_ | refine abr_no (by decide) ?_ | with_reducible refine abr_same_ne ?_); (conv => whnf))))
  refine ascope' (α := Nat × List Ms × (Nat × Int) × Bool × Int × Tok × AHeap × Nat × Nat × Nat) (fun x => [(s6, .ptr x.2.2.2.2.2.2.2.1 0), (s7, .ptr x.2.2.2.2.2.2.2.2.2 0), (s8, boolv x.2.2.2.1)]) (fun x => x.2.2.2.2.2.2.1) (fun _ => 0)
    (fun x => (w = 10 ∨ w = 16) ∧ x.2.1.length + (x.1 + 1) = 33 ∧ Gr x.2.2.2.2.2.2.1 x.2.2.2.2.2.2.2.1 x.2.2.2.2.2.2.2.2.1 b x.2.2.1.1 x.2.2.1.2 ∧ TokIn x.2.2.2.2.2.2.1 σ x.2.2.2.2.2.1 ∧ Sub x.2.2.2.2.2.2.1 σ ∧ x.2.2.2.2.2.2.1 i4 = some (.cells [i64v 0, .slice 4 [] .full]) ∧ x.2.2.2.2.2.2.1 x.2.2.2.2.2.2.2.2.2 = some (.cells [i64v x.2.2.2.2.1, missV x.2.2.2.2.2.1 x.2.1]) ∧
      σ x.2.2.2.2.2.2.2.1 = none ∧ σ x.2.2.2.2.2.2.2.2.1 = none ∧ σ i4 = none ∧ σ x.2.2.2.2.2.2.2.2.2 = none ∧ x.2.2.2.2.2.2.2.1 ≠ i4 ∧ x.2.2.2.2.2.2.2.2.1 ≠ i4 ∧ x.2.2.2.2.2.2.2.1 ≠ x.2.2.2.2.2.2.2.2.2 ∧ x.2.2.2.2.2.2.2.2.1 ≠ x.2.2.2.2.2.2.2.2.2 ∧ i4 ≠ x.2.2.2.2.2.2.2.2.2 ∧
      (readSt w b = if (readMs w b (x.1 + 1) x.2.1 x.2.2.1 x.2.2.2.1).2 = 0 then ((x.2.2.2.2.1, (readMs w b (x.1 + 1) x.2.1 x.2.2.1 x.2.2.2.1).1), 0) else ((0, []), (readMs w b (x.1 + 1) x.2.1 x.2.2.1 x.2.2.2.1).2))) (fun x => x.1) ?_ ?_
  · ((conv => whnf); (repeat ((first | with_reducible refine abr_true rfl ?_ | with_reducible refine abr_false rfl ?_ | with_reducible refine abr_yes rfl ?_ | refine abr_yes (by decide) ?_ | refine abr_no (by decide) ?_ | with_reducible refine abr_same_ne ?_); (conv => whnf))))
    intro hlab
    ((conv => whnf); (repeat ((first | with_reducible refine abr_true rfl ?_ | with_reducible refine abr_false rfl ?_ | with_reducible refine abr_yes rfl ?_ | refine abr_yes (by decide) ?_ | refine abr_no (by decide) ?_ | with_reducible refine abr_same_ne ?_); (conv => whnf))))
    refine acall (tIsWidth w _) ?_
    rintro _ σ_ ⟨rfl, e_⟩
    obtain rfl := e_.symm
    refine ⟨?_, Ext.refl _⟩
    ((conv => whnf); (repeat ((first | with_reducible refine abr_true rfl ?_ | with_reducible refine abr_false rfl ?_ | with_reducible refine abr_yes rfl ?_ | refine abr_yes (by decide) ?_ | refine abr_no (by decide) ?_ | with_reducible refine abr_same_ne ?_); (conv => whnf))))
    cases hsw : stWidth w
    · ((conv => whnf); (repeat ((first | with_reducible refine abr_true rfl ?_ | with_reducible refine abr_false rfl ?_ | with_reducible refine abr_yes rfl ?_ | refine abr_yes (by decide) ?_ | refine abr_no (by decide) ?_ | with_reducible refine abr_same_ne ?_); (conv => whnf))))
      refine astore (xs := [i64v 0, .slice 4 [] .full]) (l := [i64v 0, .slice 4 [] .full]) k4 (by exact Nat.le_refl 2) rfl rfl ?_
      ((conv => whnf); (repeat ((first | with_reducible refine abr_true rfl ?_ | with_reducible refine abr_false rfl ?_ | with_reducible refine abr_yes rfl ?_ | refine abr_yes (by decide) ?_ | refine abr_no (by decide) ?_ | with_reducible refine abr_same_ne ?_); (conv => whnf))))
      refine aloads (l := [i64v 0, .slice 4 [] .full]) (upd_same _ _ _) (by exact Nat.le_refl 2) rfl ?_
      ((conv => whnf); (repeat ((first | with_reducible refine abr_true rfl ?_ | with_reducible refine abr_false rfl ?_ | with_reducible refine abr_yes rfl ?_ | refine abr_yes (by decide) ?_ | refine abr_no (by decide) ?_ | with_reducible refine abr_same_ne ?_); (conv => whnf))))
      refine aret_st (l := []) (sub_upd _ hs4 h4) ⟨by unfold readSt; rw [hsw]; rfl, rfl⟩
    have hw := stWidth_iff.1 hsw
    ((conv => whnf); (repeat ((first | with_reducible refine abr_true rfl ?_ | with_reducible refine abr_false rfl ?_ | with_reducible refine abr_yes rfl ?_ | refine abr_yes (by decide) ?_ | refine abr_no (by decide) ?_ | with_reducible refine abr_same_ne ?_); (conv => whnf))))
    rw [List.length_map]
    cases b with
    | nil =>
      refine abr_true (by simp) ?_
      ((conv => whnf); (repeat ((first | with_reducible refine abr_true rfl ?_ | with_reducible refine abr_false rfl ?_ | with_reducible refine abr_yes rfl ?_ | refine abr_yes (by decide) ?_ | refine abr_no (by decide) ?_ | with_reducible refine abr_same_ne ?_); (conv => whnf))))
      refine astore (xs := [i64v 0, .slice 4 [] .full]) (l := [i64v 0, .slice 4 [] .full]) k4 (by exact Nat.le_refl 2) rfl rfl ?_
      ((conv => whnf); (repeat ((first | with_reducible refine abr_true rfl ?_ | with_reducible refine abr_false rfl ?_ | with_reducible refine abr_yes rfl ?_ | refine abr_yes (by decide) ?_ | refine abr_no (by decide) ?_ | with_reducible refine abr_same_ne ?_); (conv => whnf))))
      refine aloads (l := [i64v 0, .slice 4 [] .full]) (upd_same _ _ _) (by exact Nat.le_refl 2) rfl ?_
      ((conv => whnf); (repeat ((first | with_reducible refine abr_true rfl ?_ | with_reducible refine abr_false rfl ?_ | with_reducible refine abr_yes rfl ?_ | refine abr_yes (by decide) ?_ | refine abr_no (by decide) ?_ | with_reducible refine abr_same_ne ?_); (conv => whnf))))
      refine aret_st (l := []) (sub_upd _ hs4 h4) ⟨by unfold readSt; rw [hsw]; rfl, rfl⟩
    | cons x b' =>
      rw [List.length_cons]
      (repeat ((first | refine aload (by (repeat (first | with_reducible exact upd_same _ _ _ | assumption | rw [upd_ne _ _ (by first | assumption | (apply Ne.symm; assumption))]))) rfl ?_ | refine afit_i64 (by omega) ?_ | refine arem_nonneg (by omega) (by omega) ?_ | refine adiv_i64 (by omega) (by omega) ?_ | refine abr_yes (by omega) ?_ | refine abr_no (by omega) ?_ | refine amin ?_ | refine amax ?_ | refine afit_u64 (by omega) ?_ | refine afit_u8 (by omega) ?_ | rw [List.length_map]); ((conv => whnf); (repeat ((first | with_reducible refine abr_true rfl ?_ | with_reducible refine abr_false rfl ?_ | with_reducible refine abr_yes rfl ?_ | refine abr_yes (by decide) ?_ | refine abr_no (by decide) ?_ | with_reducible refine abr_same_ne ?_); (conv => whnf))))))
      refine aget (x := byteV x) (by omega) rfl ?_
      ((conv => whnf); (repeat ((first | with_reducible refine abr_true rfl ?_ | with_reducible refine abr_false rfl ?_ | with_reducible refine abr_yes rfl ?_ | refine abr_yes (by decide) ?_ | refine abr_no (by decide) ?_ | with_reducible refine abr_same_ne ?_); (conv => whnf))))
      refine acell rfl ?_
      ((conv => whnf); (repeat ((first | with_reducible refine abr_true rfl ?_ | with_reducible refine abr_false rfl ?_ | with_reducible refine abr_yes rfl ?_ | refine abr_yes (by decide) ?_ | refine abr_no (by decide) ?_ | with_reducible refine abr_same_ne ?_); (conv => whnf))))
      refine abits_eq (and128 x) ?_
      ((conv => whnf); (repeat ((first | with_reducible refine abr_true rfl ?_ | with_reducible refine abr_false rfl ?_ | with_reducible refine abr_yes rfl ?_ | refine abr_yes (by decide) ?_ | refine abr_no (by decide) ?_ | with_reducible refine abr_same_ne ?_); (conv => whnf))))
      have hlt := x.toNat_lt
      by_cases c1 : x.toNat / 128 = 0
      case neg =>
        refine abr_yes (show ((x.toNat / 128 * 128 : Nat) : Int) ≠ 0 by omega) ?_
        ((conv => whnf); (repeat ((first | with_reducible refine abr_true rfl ?_ | with_reducible refine abr_false rfl ?_ | with_reducible refine abr_yes rfl ?_ | refine abr_yes (by decide) ?_ | refine abr_no (by decide) ?_ | with_reducible refine abr_same_ne ?_); (conv => whnf))))
        refine astore (xs := [i64v 0, .slice 4 [] .full]) (l := [i64v 0, .slice 4 [] .full]) k4 (by exact Nat.le_refl 2) rfl rfl ?_
        ((conv => whnf); (repeat ((first | with_reducible refine abr_true rfl ?_ | with_reducible refine abr_false rfl ?_ | with_reducible refine abr_yes rfl ?_ | refine abr_yes (by decide) ?_ | refine abr_no (by decide) ?_ | with_reducible refine abr_same_ne ?_); (conv => whnf))))
        refine aloads (l := [i64v 0, .slice 4 [] .full]) (upd_same _ _ _) (by exact Nat.le_refl 2) rfl ?_
        ((conv => whnf); (repeat ((first | with_reducible refine abr_true rfl ?_ | with_reducible refine abr_false rfl ?_ | with_reducible refine abr_yes rfl ?_ | refine abr_yes (by decide) ?_ | refine abr_no (by decide) ?_ | with_reducible refine abr_same_ne ?_); (conv => whnf))))
        refine aret_st (l := []) (sub_upd _ hs4 h4) ⟨by unfold readSt; rw [hsw, if_neg (by decide)]; dsimp only; rw [if_pos c1], rfl⟩
      refine abr_no (show ¬ ((x.toNat / 128 * 128 : Nat) : Int) ≠ 0 by omega) ?_
      ((conv => whnf); (repeat ((first | with_reducible refine abr_true rfl ?_ | with_reducible refine abr_false rfl ?_ | with_reducible refine abr_yes rfl ?_ | refine abr_yes (by decide) ?_ | refine abr_no (by decide) ?_ | with_reducible refine abr_same_ne ?_); (conv => whnf))))
      refine aget (x := byteV x) (by omega) rfl ?_
      ((conv => whnf); (repeat ((first | with_reducible refine abr_true rfl ?_ | with_reducible refine abr_false rfl ?_ | with_reducible refine abr_yes rfl ?_ | refine abr_yes (by decide) ?_ | refine abr_no (by decide) ?_ | with_reducible refine abr_same_ne ?_); (conv => whnf))))
      refine acell rfl ?_
      ((conv => whnf); (repeat ((first | with_reducible refine abr_true rfl ?_ | with_reducible refine abr_false rfl ?_ | with_reducible refine abr_yes rfl ?_ | refine abr_yes (by decide) ?_ | refine abr_no (by decide) ?_ | with_reducible refine abr_same_ne ?_); (conv => whnf))))
      refine abits_eq (and112 x) ?_
      ((conv => whnf); (repeat ((first | with_reducible refine abr_true rfl ?_ | with_reducible refine abr_false rfl ?_ | with_reducible refine abr_yes rfl ?_ | refine abr_yes (by decide) ?_ | refine abr_no (by decide) ?_ | with_reducible refine abr_same_ne ?_); (conv => whnf))))
      by_cases c2 : x.toNat / 16 = 0
      case neg =>
        refine abr_yes (show ((x.toNat / 16 % 8 * 16 : Nat) : Int) ≠ 0 by omega) ?_
        ((conv => whnf); (repeat ((first | with_reducible refine abr_true rfl ?_ | with_reducible refine abr_false rfl ?_ | with_reducible refine abr_yes rfl ?_ | refine abr_yes (by decide) ?_ | refine abr_no (by decide) ?_ | with_reducible refine abr_same_ne ?_); (conv => whnf))))
        refine astore (xs := [i64v 0, .slice 4 [] .full]) (l := [i64v 0, .slice 4 [] .full]) k4 (by exact Nat.le_refl 2) rfl rfl ?_
        ((conv => whnf); (repeat ((first | with_reducible refine abr_true rfl ?_ | with_reducible refine abr_false rfl ?_ | with_reducible refine abr_yes rfl ?_ | refine abr_yes (by decide) ?_ | refine abr_no (by decide) ?_ | with_reducible refine abr_same_ne ?_); (conv => whnf))))
        refine aloads (l := [i64v 0, .slice 4 [] .full]) (upd_same _ _ _) (by exact Nat.le_refl 2) rfl ?_
        ((conv => whnf); (repeat ((first | with_reducible refine abr_true rfl ?_ | with_reducible refine abr_false rfl ?_ | with_reducible refine abr_yes rfl ?_ | refine abr_yes (by decide) ?_ | refine abr_no (by decide) ?_ | with_reducible refine abr_same_ne ?_); (conv => whnf))))
        refine aret_st (l := []) (sub_upd _ hs4 h4) ⟨by unfold readSt; rw [hsw, if_neg (by decide)]; dsimp only; rw [if_neg (fun h => h c1), if_pos c2], rfl⟩
      refine abr_no (show ¬ ((x.toNat / 16 % 8 * 16 : Nat) : Int) ≠ 0 by omega) ?_
      have hrs : readSt w (x :: b') = (let p4 := gNext (unpack (x :: b')).length (0, 0) 4
        let pa := gNext (unpack (x :: b')).length p4 w
        let r := readMs w (x :: b') 33 [] (gNext (unpack (x :: b')).length pa 1) (decide (gVal (unpack (x :: b')) pa.1 pa.2 1 = 1))
        if r.2 = 0 then (((gVal (unpack (x :: b')) p4.1 p4.2 w : Int), r.1), 0) else ((0, []), r.2)) := by
        conv => lhs; unfold readSt
        rw [hsw, if_neg (by decide)]; dsimp only; rw [if_neg (fun h => h c1), if_neg (fun h => h c2)]
      generalize hb : (x :: b') = b at *
      ((conv => whnf); (repeat ((first | with_reducible refine abr_true rfl ?_ | with_reducible refine abr_false rfl ?_ | with_reducible refine abr_yes rfl ?_ | refine abr_yes (by decide) ?_ | refine abr_no (by decide) ?_ | with_reducible refine abr_same_ne ?_); (conv => whnf))))
      refine acall (rRead b t _ (by omega)) ?_
      rintro _ τ1 ⟨ir, rfl, r1⟩
      refine ⟨?_, r1.ext⟩
      rw [List.take_of_length_le (by omega)] at r1
      have hR1 := r1.sub
      have hE1 := r1.ext
      obtain ⟨nir, _, hb8, tk1, er1⟩ := r1
      have kr1 : τ1 ir = some (.cells [sl tk1 b, i64v 0]) := by rw [er1]; exact upd_same _ _ _
      have k4 : τ1 i4 = some (.cells [i64v 0, .slice 4 [] .full]) := hE1 i4 _ rfl k4
      have hs1 : Sub τ1 σ := hR1.trans hs4
      have br : σ ir = none := sub_none hs4 nir
      clear er1 hR1 hE1 nir
      ((conv => whnf); (repeat ((first | with_reducible refine abr_true rfl ?_ | with_reducible refine abr_false rfl ?_ | with_reducible refine abr_yes rfl ?_ | refine abr_yes (by decide) ?_ | refine abr_no (by decide) ?_ | with_reducible refine abr_same_ne ?_); (conv => whnf))))
      refine anew rfl fun ig hg => ?_
      have nrg : ir ≠ ig := fun e => by subst e; rw [kr1] at hg; cases hg
      have n4g : i4 ≠ ig := fun e => by subst e; rw [k4] at hg; cases hg
      have n4r : i4 ≠ ir := fun e => by subst e; rw [k4] at kr1; cases kr1
      have bg : σ ig = none := sub_none hs1 hg
      generalize hτ : upd τ1 ig _ = τ2 at *
      have g0 : Gr τ2 ig ir b 0 0 := ⟨Ne.symm nrg, by omega, hb8, ⟨tk1, by rw [← hτ]; exact (upd_ne _ _ nrg).trans kr1⟩, by rw [← hτ]; exact upd_same _ _ _⟩
      have k4 : τ2 i4 = some (.cells [i64v 0, .slice 4 [] .full]) := by rw [← hτ]; exact (upd_ne _ _ n4g).trans k4
      have hs2 : Sub τ2 σ := by rw [← hτ]; exact sub_upd _ hs1 bg
      clear hτ
      ((conv => whnf); (repeat ((first | with_reducible refine abr_true rfl ?_ | with_reducible refine abr_false rfl ?_ | with_reducible refine abr_yes rfl ?_ | refine abr_yes (by decide) ?_ | refine abr_no (by decide) ?_ | with_reducible refine abr_same_ne ?_); (conv => whnf))))
      refine acall (gGet ig ir b 0 0 4 _ g0 (by omega)) ?_
      rintro _ τ3 ⟨rfl, g3, e3⟩
      have k4 := (e3 i4 n4g n4r).trans k4
      have hs3 : Sub τ3 σ := fun j o hj => by rw [e3 j (fun e => by subst e; rw [bg] at hj; cases hj) (fun e => by subst e; rw [br] at hj; cases hj)]; exact hs2 j o hj
      have q3 := gNext_eq b (0, 0) 4
      dsimp only at hrs
      generalize hp3 : gNext (unpack b).length (0, 0) 4 = p3 at *
      have g3 : Gr τ3 ig ir b p3.1 p3.2 := by rw [q3]; exact g3
      clear q3 e3
      ((conv => whnf); (repeat ((first | with_reducible refine abr_true rfl ?_ | with_reducible refine abr_false rfl ?_ | with_reducible refine abr_yes rfl ?_ | refine abr_yes (by decide) ?_ | refine abr_no (by decide) ?_ | with_reducible refine abr_same_ne ?_); (conv => whnf))))
      refine anew rfl fun i7 h7 => ?_
      have n47 : i4 ≠ i7 := fun e => by subst e; rw [k4] at h7; cases h7
      have n7g : i7 ≠ ig := fun e => by subst e; rw [g3.at_] at h7; cases h7
      have n7r : i7 ≠ ir := fun e => by subst e; obtain ⟨tk, hr⟩ := g3.rd; rw [hr] at h7; cases h7
      have b7 : σ i7 = none := sub_none hs3 h7
      have g4 := g3.upd (.cells [i64v 0, .slice 4 [] .full]) n7g n7r
      have k4 : upd τ3 i7 (.cells [i64v 0, .slice 4 [] .full]) i4 = some (.cells [i64v 0, .slice 4 [] .full]) := (upd_ne _ _ n47).trans k4
      have k7 : upd τ3 i7 (.cells [i64v 0, .slice 4 [] .full]) i7 = some (.cells [i64v 0, .slice 4 [] .full]) := upd_same _ _ _
      have hs4' : Sub (upd τ3 i7 (.cells [i64v 0, .slice 4 [] .full])) σ := sub_upd _ hs3 b7
      generalize upd τ3 i7 (.cells [i64v 0, .slice 4 [] .full]) = τ4 at *
      ((conv => whnf); (repeat ((first | with_reducible refine abr_true rfl ?_ | with_reducible refine abr_false rfl ?_ | with_reducible refine abr_yes rfl ?_ | refine abr_yes (by decide) ?_ | refine abr_no (by decide) ?_ | with_reducible refine abr_same_ne ?_); (conv => whnf))))
      refine acall (gGet ig ir b p3.1 p3.2 w _ g4 (by omega)) ?_
      rintro _ τ5 ⟨rfl, g5, e5⟩
      have k4 := (e5 i4 n4g n4r).trans k4
      have k7 := (e5 i7 n7g n7r).trans k7
      have hs5 : Sub τ5 σ := fun j o hj => by rw [e5 j (fun e => by subst e; rw [bg] at hj; cases hj) (fun e => by subst e; rw [br] at hj; cases hj)]; exact hs4' j o hj
      have q5 := gNext_eq b p3 w
      generalize hp5 : gNext (unpack b).length p3 w = p5 at *
      have g5 : Gr τ5 ig ir b p5.1 p5.2 := by rw [q5]; exact g5
      clear q5 e5
      generalize gVal (unpack b) p3.1 p3.2 w = ack at *
      ((conv => whnf); (repeat ((first | with_reducible refine abr_true rfl ?_ | with_reducible refine abr_false rfl ?_ | with_reducible refine abr_yes rfl ?_ | refine abr_yes (by decide) ?_ | refine abr_no (by decide) ?_ | with_reducible refine abr_same_ne ?_); (conv => whnf))))
      refine astore (xs := [i64v ack]) (l := [i64v ack, .slice 4 [] .full]) k7 (by exact Nat.le_of_ble_eq_true rfl) rfl rfl ?_
      have g6 := g5.upd (.cells [i64v ack, .slice 4 [] .full]) n7g n7r
      have k4 : upd τ5 i7 (.cells [i64v ack, .slice 4 [] .full]) i4 = some (.cells [i64v 0, .slice 4 [] .full]) := (upd_ne _ _ n47).trans k4
      have k7 : upd τ5 i7 (.cells [i64v ack, .slice 4 [] .full]) i7 = some (.cells [i64v ack, .slice 4 [] .full]) := upd_same _ _ _
      have hs6 : Sub (upd τ5 i7 (.cells [i64v ack, .slice 4 [] .full])) σ := sub_upd _ hs5 b7
      generalize upd τ5 i7 (.cells [i64v ack, .slice 4 [] .full]) = τ6 at *
      ((conv => whnf); (repeat ((first | with_reducible refine abr_true rfl ?_ | with_reducible refine abr_false rfl ?_ | with_reducible refine abr_yes rfl ?_ | refine abr_yes (by decide) ?_ | refine abr_no (by decide) ?_ | with_reducible refine abr_same_ne ?_); (conv => whnf))))
      refine acall (gGet ig ir b p5.1 p5.2 1 _ g6 (by omega)) ?_
      rintro _ τ7 ⟨rfl, g7, e7⟩
      have k4 := (e7 i4 n4g n4r).trans k4
      have k7 := (e7 i7 n7g n7r).trans k7
      have hs7 : Sub τ7 σ := fun j o hj => by rw [e7 j (fun e => by subst e; rw [bg] at hj; cases hj) (fun e => by subst e; rw [br] at hj; cases hj)]; exact hs6 j o hj
      have q7 := gNext_eq b p5 1
      generalize hp7 : gNext (unpack b).length p5 1 = p7 at *
      have g7 : Gr τ7 ig ir b p7.1 p7.2 := by rw [q7]; exact g7
      clear q7 e7
      generalize gVal (unpack b) p5.1 p5.2 1 = mo at *
      ((conv => whnf); (repeat ((first | with_reducible refine abr_true rfl ?_ | with_reducible refine abr_false rfl ?_ | with_reducible refine abr_yes rfl ?_ | refine abr_yes (by decide) ?_ | refine abr_no (by decide) ?_ | with_reducible refine abr_same_ne ?_); (conv => whnf))))
      rw [@dec_congr ((mo : Int) = 1) (mo = 1) _ inferInstance (by omega)]
      refine hlab _ (fun _ _ _ h => h) _ _ _ _ ⟨(32, [], p7, decide (mo = 1), ack, .full, τ7, ig, ir, i7), rfl, ⟨hw, rfl, g7, .full _ _, hs7, k4, k7, bg, br, h4, b7, Ne.symm n4g, Ne.symm n4r, Ne.symm n7g, Ne.symm n7r, n47, hrs⟩, rfl, Sub.refl _, ?_⟩
      ((conv => whnf); (repeat ((first | with_reducible refine abr_true rfl ?_ | with_reducible refine abr_false rfl ?_ | with_reducible refine abr_yes rfl ?_ | refine abr_yes (by decide) ?_ | refine abr_no (by decide) ?_ | with_reducible refine abr_same_ne ?_); (conv => whnf))))
      (repeat' first | with_reducible exact EnvLe.refl _ | (refine EnvLe.node ?_ (by first | exact Or.inl rfl | exact Or.inr (Or.inl rfl) | exact Or.inr (Or.inr ⟨nofun, VLe.slice _ _ _⟩)) ?_))
  · rintro ⟨f, ms, p, more, ack, tk, υ, ig, ir, i7⟩ ⟨hw, hf, g0, hto, hs, k4, k7, bg, br, b4, b7, ng4, nr4, ng7, nr7, n47, hans⟩
    dsimp only at hf g0 hto hs k4 k7 bg br b7 ng4 nr4 ng7 nr7 n47 hans ⊢
    refine ⟨_, rfl, ?_⟩
    ((conv => whnf); (repeat ((first | with_reducible refine abr_true rfl ?_ | with_reducible refine abr_false rfl ?_ | with_reducible refine abr_yes rfl ?_ | refine abr_yes (by decide) ?_ | refine abr_no (by decide) ?_ | with_reducible refine abr_same_ne ?_); (conv => whnf))))
    intro hlab
    ((conv => whnf); (repeat ((first | with_reducible refine abr_true rfl ?_ | with_reducible refine abr_false rfl ?_ | with_reducible refine abr_yes rfl ?_ | refine abr_yes (by decide) ?_ | refine abr_no (by decide) ?_ | with_reducible refine abr_same_ne ?_); (conv => whnf))))
    have hz : ∀ {st : AHeap}, Sub st σ → Sub (upd st i4 (.cells [i64v 0, .slice 4 [] .full])) σ := fun h => sub_upd _ h b4
    refine aload g0.at_ rfl ?_
    ((conv => whnf); (repeat ((first | with_reducible refine abr_true rfl ?_ | with_reducible refine abr_false rfl ?_ | with_reducible refine abr_yes rfl ?_ | refine abr_yes (by decide) ?_ | refine abr_no (by decide) ?_ | with_reducible refine abr_same_ne ?_); (conv => whnf))))
    by_cases he : p.2 = 0
    case neg =>
      have hm : readMs w b (f + 1) ms p more = ([], p.2) := by conv => lhs; unfold readMs; rw [if_pos he]
      rw [hm] at hans
      dsimp only at hans
      rw [if_neg he] at hans
      refine abr_yes he ?_
      ((conv => whnf); (repeat ((first | with_reducible refine abr_true rfl ?_ | with_reducible refine abr_false rfl ?_ | with_reducible refine abr_yes rfl ?_ | refine abr_yes (by decide) ?_ | refine abr_no (by decide) ?_ | with_reducible refine abr_same_ne ?_); (conv => whnf))))
      refine ⟨?_, ?_⟩
      · ((conv => whnf); (repeat ((first | with_reducible refine abr_true rfl ?_ | with_reducible refine abr_false rfl ?_ | with_reducible refine abr_yes rfl ?_ | refine abr_yes (by decide) ?_ | refine abr_no (by decide) ?_ | with_reducible refine abr_same_ne ?_); (conv => whnf))))
        refine aload g0.at_ rfl ?_
        ((conv => whnf); (repeat ((first | with_reducible refine abr_true rfl ?_ | with_reducible refine abr_false rfl ?_ | with_reducible refine abr_yes rfl ?_ | refine abr_yes (by decide) ?_ | refine abr_no (by decide) ?_ | with_reducible refine abr_same_ne ?_); (conv => whnf))))
        refine astore (xs := [i64v 0, .slice 4 [] .full]) (l := [i64v 0, .slice 4 [] .full]) k4 (by exact Nat.le_refl 2) rfl rfl ?_
        ((conv => whnf); (repeat ((first | with_reducible refine abr_true rfl ?_ | with_reducible refine abr_false rfl ?_ | with_reducible refine abr_yes rfl ?_ | refine abr_yes (by decide) ?_ | refine abr_no (by decide) ?_ | with_reducible refine abr_same_ne ?_); (conv => whnf))))
        refine aloads (l := [i64v 0, .slice 4 [] .full]) (upd_same _ _ _) (by exact Nat.le_refl 2) rfl ?_
        ((conv => whnf); (repeat ((first | with_reducible refine abr_true rfl ?_ | with_reducible refine abr_false rfl ?_ | with_reducible refine abr_yes rfl ?_ | refine abr_yes (by decide) ?_ | refine abr_no (by decide) ?_ | with_reducible refine abr_same_ne ?_); (conv => whnf))))
        refine aret_st (l := []) (hz hs) ⟨by rw [hans]; try rfl, rfl⟩
      · ((conv => whnf); (repeat ((first | with_reducible refine abr_true rfl ?_ | with_reducible refine abr_false rfl ?_ | with_reducible refine abr_yes rfl ?_ | refine abr_yes (by decide) ?_ | refine abr_no (by decide) ?_ | with_reducible refine abr_same_ne ?_); (conv => whnf))))
        refine astore (xs := [i64v 0, .slice 4 [] .full]) (l := [i64v 0, .slice 4 [] .full]) k4 (by exact Nat.le_refl 2) rfl rfl ?_
        ((conv => whnf); (repeat ((first | with_reducible refine abr_true rfl ?_ | with_reducible refine abr_false rfl ?_ | with_reducible refine abr_yes rfl ?_ | refine abr_yes (by decide) ?_ | refine abr_no (by decide) ?_ | with_reducible refine abr_same_ne ?_); (conv => whnf))))
        refine aload ((upd_ne _ _ ng4).trans g0.at_) rfl ?_
        ((conv => whnf); (repeat ((first | with_reducible refine abr_true rfl ?_ | with_reducible refine abr_false rfl ?_ | with_reducible refine abr_yes rfl ?_ | refine abr_yes (by decide) ?_ | refine abr_no (by decide) ?_ | with_reducible refine abr_same_ne ?_); (conv => whnf))))
        refine aloads (l := [i64v 0, .slice 4 [] .full]) (upd_same _ _ _) (by exact Nat.le_refl 2) rfl ?_
        ((conv => whnf); (repeat ((first | with_reducible refine abr_true rfl ?_ | with_reducible refine abr_false rfl ?_ | with_reducible refine abr_yes rfl ?_ | refine abr_yes (by decide) ?_ | refine abr_no (by decide) ?_ | with_reducible refine abr_same_ne ?_); (conv => whnf))))
        refine aret_st (l := []) (hz hs) ⟨by rw [hans]; try rfl, rfl⟩
    have hm : readMs w b (f + 1) ms p more = if more = true then (if ms.length = 32 then ([], 2) else if (missEnd w (unpack b) p).2 = 0 ∧ missOk w (missRead w (unpack b) p) = false then ([], 3) else readMs w b f (ms ++ [missRead w (unpack b) p]) (missEnd w (unpack b) p) (missMore w (unpack b) p)) else if restOk (unpack b) p.1 = true ∧ b.drop ((p.1 + 7) / 8) = [] then (ms, 0) else ([], 3) := by
      conv => lhs; unfold readMs; rw [if_neg (fun h => h he)]
    rw [hm] at hans
    refine abr_no (fun h => h he) ?_
    cases more
    · rw [if_neg (show ¬ (false = true) by decide)] at hans
      ((conv => whnf); (repeat ((first | with_reducible refine abr_true rfl ?_ | with_reducible refine abr_false rfl ?_ | with_reducible refine abr_yes rfl ?_ | refine abr_yes (by decide) ?_ | refine abr_no (by decide) ?_ | with_reducible refine abr_same_ne ?_); (conv => whnf))))
      refine aload g0.at_ rfl ?_
      ((conv => whnf); (repeat ((first | with_reducible refine abr_true rfl ?_ | with_reducible refine abr_false rfl ?_ | with_reducible refine abr_yes rfl ?_ | refine abr_yes (by decide) ?_ | refine abr_no (by decide) ?_ | with_reducible refine abr_same_ne ?_); (conv => whnf))))
      obtain ⟨tkr, hrd⟩ := g0.rd
      refine acall (rRest ir b p.1 _ _ (rd_at hrd g0.hk g0.hb)) ?_
      rintro _ υ1 ⟨rfl, r1⟩
      have hR1 : Sub υ1 σ := fun j o hj => by
        obtain ⟨_, _, _, tk1, e1⟩ := r1
        rw [e1, upd_ne _ _ (fun e => by subst e; rw [br] at hj; cases hj), del_ne _ (fun e => by subst e; rw [br] at hj; cases hj)]
        exact hs j o hj
      have hfr : ∀ j, j ≠ ir → υ1 j = υ j := fun j hj => by
        obtain ⟨_, _, _, tk1, e1⟩ := r1
        rw [e1, upd_ne _ _ hj, del_ne _ hj]
      have k4 := (hfr i4 (Ne.symm nr4)).trans k4
      have k7 := (hfr i7 (Ne.symm nr7)).trans k7
      ((conv => whnf); (repeat ((first | with_reducible refine abr_true rfl ?_ | with_reducible refine abr_false rfl ?_ | with_reducible refine abr_yes rfl ?_ | refine abr_yes (by decide) ?_ | refine abr_no (by decide) ?_ | with_reducible refine abr_same_ne ?_); (conv => whnf))))
      cases hro : restOk (unpack b) p.1
      · rw [hro, if_neg (show ¬ (false = true ∧ b.drop ((p.1 + 7) / 8) = []) from fun h => by cases h.1)] at hans
        rw [if_neg (by decide), if_neg (by decide)]
        ((conv => whnf); (repeat ((first | with_reducible refine abr_true rfl ?_ | with_reducible refine abr_false rfl ?_ | with_reducible refine abr_yes rfl ?_ | refine abr_yes (by decide) ?_ | refine abr_no (by decide) ?_ | with_reducible refine abr_same_ne ?_); (conv => whnf))))
        refine astore (xs := [i64v 0, .slice 4 [] .full]) (l := [i64v 0, .slice 4 [] .full]) k4 (by exact Nat.le_refl 2) rfl rfl ?_
        ((conv => whnf); (repeat ((first | with_reducible refine abr_true rfl ?_ | with_reducible refine abr_false rfl ?_ | with_reducible refine abr_yes rfl ?_ | refine abr_yes (by decide) ?_ | refine abr_no (by decide) ?_ | with_reducible refine abr_same_ne ?_); (conv => whnf))))
        refine aloads (l := [i64v 0, .slice 4 [] .full]) (upd_same _ _ _) (by exact Nat.le_refl 2) rfl ?_
        ((conv => whnf); (repeat ((first | with_reducible refine abr_true rfl ?_ | with_reducible refine abr_false rfl ?_ | with_reducible refine abr_yes rfl ?_ | refine abr_yes (by decide) ?_ | refine abr_no (by decide) ?_ | with_reducible refine abr_same_ne ?_); (conv => whnf))))
        refine aret_st (l := []) (hz hR1) ⟨by rw [hans]; try rfl, rfl⟩
      · rw [hro] at hans
        rw [if_pos rfl, if_pos rfl]
        ((conv => whnf); (repeat ((first | with_reducible refine abr_true rfl ?_ | with_reducible refine abr_false rfl ?_ | with_reducible refine abr_yes rfl ?_ | refine abr_yes (by decide) ?_ | refine abr_no (by decide) ?_ | with_reducible refine abr_same_ne ?_); (conv => whnf))))
        rw [List.length_map]
        by_cases hd : b.drop ((p.1 + 7) / 8) = []
        · rw [if_pos (show true = true ∧ b.drop ((p.1 + 7) / 8) = [] from ⟨rfl, hd⟩)] at hans
          rw [hd]
          refine abr_false (by simp) ?_
          ((conv => whnf); (repeat ((first | with_reducible refine abr_true rfl ?_ | with_reducible refine abr_false rfl ?_ | with_reducible refine abr_yes rfl ?_ | refine abr_yes (by decide) ?_ | refine abr_no (by decide) ?_ | with_reducible refine abr_same_ne ?_); (conv => whnf))))
          refine aloads (l := [i64v ack, missV tk ms]) k7 (by exact Nat.le_refl 2) rfl ?_
          ((conv => whnf); (repeat ((first | with_reducible refine abr_true rfl ?_ | with_reducible refine abr_false rfl ?_ | with_reducible refine abr_yes rfl ?_ | refine abr_yes (by decide) ?_ | refine abr_no (by decide) ?_ | with_reducible refine abr_same_ne ?_); (conv => whnf))))
          refine astore (xs := [i64v ack, missV tk ms]) (l := [i64v ack, missV tk ms]) k4 (by exact Nat.le_refl 2) rfl rfl ?_
          ((conv => whnf); (repeat ((first | with_reducible refine abr_true rfl ?_ | with_reducible refine abr_false rfl ?_ | with_reducible refine abr_yes rfl ?_ | refine abr_yes (by decide) ?_ | refine abr_no (by decide) ?_ | with_reducible refine abr_same_ne ?_); (conv => whnf))))
          refine aloads (l := [i64v ack, missV tk ms]) (upd_same _ _ _) (by exact Nat.le_refl 2) rfl ?_
          ((conv => whnf); (repeat ((first | with_reducible refine abr_true rfl ?_ | with_reducible refine abr_false rfl ?_ | with_reducible refine abr_yes rfl ?_ | refine abr_yes (by decide) ?_ | refine abr_no (by decide) ?_ | with_reducible refine abr_same_ne ?_); (conv => whnf))))
          exact aret_st (sub_upd _ hR1 b4) ⟨by rw [hans]; try rfl, rfl⟩
        · rw [if_neg (show ¬ (true = true ∧ b.drop ((p.1 + 7) / 8) = []) from fun h => hd h.2)] at hans
          have hdl : 0 < (b.drop ((p.1 + 7) / 8)).length := List.length_pos_iff.2 hd
          generalize b.drop ((p.1 + 7) / 8) = dd at *
          refine abr_yes (by omega) ?_
          ((conv => whnf); (repeat ((first | with_reducible refine abr_true rfl ?_ | with_reducible refine abr_false rfl ?_ | with_reducible refine abr_yes rfl ?_ | refine abr_yes (by decide) ?_ | refine abr_no (by decide) ?_ | with_reducible refine abr_same_ne ?_); (conv => whnf))))
          refine astore (xs := [i64v 0, .slice 4 [] .full]) (l := [i64v 0, .slice 4 [] .full]) k4 (by exact Nat.le_refl 2) rfl rfl ?_
          ((conv => whnf); (repeat ((first | with_reducible refine abr_true rfl ?_ | with_reducible refine abr_false rfl ?_ | with_reducible refine abr_yes rfl ?_ | refine abr_yes (by decide) ?_ | refine abr_no (by decide) ?_ | with_reducible refine abr_same_ne ?_); (conv => whnf))))
          refine aloads (l := [i64v 0, .slice 4 [] .full]) (upd_same _ _ _) (by exact Nat.le_refl 2) rfl ?_
          ((conv => whnf); (repeat ((first | with_reducible refine abr_true rfl ?_ | with_reducible refine abr_false rfl ?_ | with_reducible refine abr_yes rfl ?_ | refine abr_yes (by decide) ?_ | refine abr_no (by decide) ?_ | with_reducible refine abr_same_ne ?_); (conv => whnf))))
          refine aret_st (l := []) (hz hR1) ⟨by rw [hans]; try rfl, rfl⟩
    · rw [if_pos (show true = true from rfl)] at hans
      ((conv => whnf); (repeat ((first | with_reducible refine abr_true rfl ?_ | with_reducible refine abr_false rfl ?_ | with_reducible refine abr_yes rfl ?_ | refine abr_yes (by decide) ?_ | refine abr_no (by decide) ?_ | with_reducible refine abr_same_ne ?_); (conv => whnf))))
      refine aload k7 rfl ?_
      ((conv => whnf); (repeat ((first | with_reducible refine abr_true rfl ?_ | with_reducible refine abr_false rfl ?_ | with_reducible refine abr_yes rfl ?_ | refine abr_yes (by decide) ?_ | refine abr_no (by decide) ?_ | with_reducible refine abr_same_ne ?_); (conv => whnf))))
      rw [List.length_map]
      by_cases h32 : ms.length = 32
      · rw [if_pos h32] at hans
        (repeat ((first | refine aload (by (repeat (first | with_reducible exact upd_same _ _ _ | assumption | rw [upd_ne _ _ (by first | assumption | (apply Ne.symm; assumption))]))) rfl ?_ | refine afit_i64 (by omega) ?_ | refine arem_nonneg (by omega) (by omega) ?_ | refine adiv_i64 (by omega) (by omega) ?_ | refine abr_yes (by omega) ?_ | refine abr_no (by omega) ?_ | refine amin ?_ | refine amax ?_ | refine afit_u64 (by omega) ?_ | refine afit_u8 (by omega) ?_ | rw [List.length_map]); ((conv => whnf); (repeat ((first | with_reducible refine abr_true rfl ?_ | with_reducible refine abr_false rfl ?_ | with_reducible refine abr_yes rfl ?_ | refine abr_yes (by decide) ?_ | refine abr_no (by decide) ?_ | with_reducible refine abr_same_ne ?_); (conv => whnf))))))
        refine astore (xs := [i64v 0, .slice 4 [] .full]) (l := [i64v 0, .slice 4 [] .full]) k4 (by exact Nat.le_refl 2) rfl rfl ?_
        ((conv => whnf); (repeat ((first | with_reducible refine abr_true rfl ?_ | with_reducible refine abr_false rfl ?_ | with_reducible refine abr_yes rfl ?_ | refine abr_yes (by decide) ?_ | refine abr_no (by decide) ?_ | with_reducible refine abr_same_ne ?_); (conv => whnf))))
        refine aloads (l := [i64v 0, .slice 4 [] .full]) (upd_same _ _ _) (by exact Nat.le_refl 2) rfl ?_
        ((conv => whnf); (repeat ((first | with_reducible refine abr_true rfl ?_ | with_reducible refine abr_false rfl ?_ | with_reducible refine abr_yes rfl ?_ | refine abr_yes (by decide) ?_ | refine abr_no (by decide) ?_ | with_reducible refine abr_same_ne ?_); (conv => whnf))))
        refine aret_st (l := []) (hz hs) ⟨by rw [hans]; rfl, rfl⟩
      rw [if_neg h32] at hans
      (repeat ((first | refine aload (by (repeat (first | with_reducible exact upd_same _ _ _ | assumption | rw [upd_ne _ _ (by first | assumption | (apply Ne.symm; assumption))]))) rfl ?_ | refine afit_i64 (by omega) ?_ | refine arem_nonneg (by omega) (by omega) ?_ | refine adiv_i64 (by omega) (by omega) ?_ | refine abr_yes (by omega) ?_ | refine abr_no (by omega) ?_ | refine amin ?_ | refine amax ?_ | refine afit_u64 (by omega) ?_ | refine afit_u8 (by omega) ?_ | rw [List.length_map]); ((conv => whnf); (repeat ((first | with_reducible refine abr_true rfl ?_ | with_reducible refine abr_false rfl ?_ | with_reducible refine abr_yes rfl ?_ | refine abr_yes (by decide) ?_ | refine abr_no (by decide) ?_ | with_reducible refine abr_same_ne ?_); (conv => whnf))))))
      refine acall (tMiss ig ir b p w _ g0 (by omega)) ?_
      rintro _ υ1 ⟨rfl, g1, e1⟩
      have k4 := (e1 i4 (Ne.symm ng4) (Ne.symm nr4) (by rw [k4]; nofun)).trans k4
      have k7 := (e1 i7 (Ne.symm ng7) (Ne.symm nr7) (by rw [k7]; nofun)).trans k7
      have hs1 : Sub υ1 σ := fun j o hj => by
        have := hs j o hj
        rw [e1 j (fun e => by subst e; rw [bg] at hj; cases hj) (fun e => by subst e; rw [br] at hj; cases hj) (by rw [this]; nofun)]; exact this
      have hto1 : TokIn υ1 σ tk := by
        rcases hto with rfl | ⟨u, rfl, h1, h2⟩
        · exact .inl rfl
        · refine .inr ⟨u, rfl, ?_, h2⟩
          rw [e1 u (fun e => by subst e; rw [g0.at_] at h1; cases h1) (fun e => by subst e; obtain ⟨q, hr⟩ := g0.rd; rw [hr] at h1; cases h1) (by rw [h1]; nofun)]
          exact h1
      clear e1
      generalize missRead w (unpack b) p = m at *
      generalize missMore w (unpack b) p = mo at *
      generalize missEnd w (unpack b) p = p' at *
      obtain ⟨sn, pa, fr, to⟩ := m
      ((conv => whnf); (repeat ((first | with_reducible refine abr_true rfl ?_ | with_reducible refine abr_false rfl ?_ | with_reducible refine abr_yes rfl ?_ | refine abr_yes (by decide) ?_ | refine abr_no (by decide) ?_ | with_reducible refine abr_same_ne ?_); (conv => whnf))))
      refine anew rfl fun i9 h9 => ?_
      have n49 : i4 ≠ i9 := fun e => by subst e; rw [k4] at h9; cases h9
      have n79 : i7 ≠ i9 := fun e => by subst e; rw [k7] at h9; cases h9
      have n9g : i9 ≠ ig := fun e => by subst e; rw [g1.at_] at h9; cases h9
      have n9r : i9 ≠ ir := fun e => by subst e; obtain ⟨q, hr⟩ := g1.rd; rw [hr] at h9; cases h9
      have b9 : σ i9 = none := sub_none hs1 h9
      ((conv => whnf); (repeat ((first | with_reducible refine abr_true rfl ?_ | with_reducible refine abr_false rfl ?_ | with_reducible refine abr_yes rfl ?_ | refine abr_yes (by decide) ?_ | refine abr_no (by decide) ?_ | with_reducible refine abr_same_ne ?_); (conv => whnf))))
      refine astore (xs := [i64v sn, boolv pa, i64v fr, i64v to]) (l := [i64v sn, boolv pa, i64v fr, i64v to]) (upd_same _ _ _) (by exact Nat.le_refl 4) rfl rfl ?_
      rw [upd_upd]
      have g2 := g1.upd (.cells [i64v sn, boolv pa, i64v fr, i64v to]) n9g n9r
      have k4 : upd υ1 i9 (.cells [i64v sn, boolv pa, i64v fr, i64v to]) i4 = _ := (upd_ne _ _ n49).trans k4
      have k7 : upd υ1 i9 (.cells [i64v sn, boolv pa, i64v fr, i64v to]) i7 = _ := (upd_ne _ _ n79).trans k7
      have k9 : upd υ1 i9 (.cells [i64v sn, boolv pa, i64v fr, i64v to]) i9 = some (.cells [i64v sn, boolv pa, i64v fr, i64v to]) := upd_same _ _ _
      have hs2 : Sub (upd υ1 i9 (.cells [i64v sn, boolv pa, i64v fr, i64v to])) σ := sub_upd _ hs1 b9
      have hto2 : TokIn (upd υ1 i9 (.cells [i64v sn, boolv pa, i64v fr, i64v to])) σ tk := by
        rcases hto1 with rfl | ⟨u, rfl, h1, h2⟩
        · exact .inl rfl
        · exact .inr ⟨u, rfl, by rw [upd_ne _ _ (fun e => by subst e; rw [h1] at h9; cases h9)]; exact h1, h2⟩
      generalize upd υ1 i9 (.cells [i64v sn, boolv pa, i64v fr, i64v to]) = υ2 at *
      ((conv => whnf); (repeat ((first | with_reducible refine abr_true rfl ?_ | with_reducible refine abr_false rfl ?_ | with_reducible refine abr_yes rfl ?_ | refine abr_yes (by decide) ?_ | refine abr_no (by decide) ?_ | with_reducible refine abr_same_ne ?_); (conv => whnf))))
      refine aload g2.at_ rfl ?_
      ((conv => whnf); (repeat ((first | with_reducible refine abr_true rfl ?_ | with_reducible refine abr_false rfl ?_ | with_reducible refine abr_yes rfl ?_ | refine abr_yes (by decide) ?_ | refine abr_no (by decide) ?_ | with_reducible refine abr_same_ne ?_); (conv => whnf))))
      obtain ⟨f', rfl⟩ : ∃ f', f = f' + 1 := ⟨f - 1, by omega⟩
      by_cases hp' : p'.2 = 0
      · refine abr_yes hp' ?_
        ((conv => whnf); (repeat ((first | with_reducible refine abr_true rfl ?_ | with_reducible refine abr_false rfl ?_ | with_reducible refine abr_yes rfl ?_ | refine abr_yes (by decide) ?_ | refine abr_no (by decide) ?_ | with_reducible refine abr_same_ne ?_); (conv => whnf))))
        refine aloads (l := [i64v sn, boolv pa, i64v fr, i64v to]) k9 (by exact Nat.le_refl 4) rfl ?_
        ((conv => whnf); (repeat ((first | with_reducible refine abr_true rfl ?_ | with_reducible refine abr_false rfl ?_ | with_reducible refine abr_yes rfl ?_ | refine abr_yes (by decide) ?_ | refine abr_no (by decide) ?_ | with_reducible refine abr_same_ne ?_); (conv => whnf))))
        refine acall (tIsMiss (sn, pa, fr, to) w _) ?_
        rintro _ σ_ ⟨rfl, e_⟩
        obtain rfl := e_.symm
        refine ⟨?_, Ext.refl _⟩
        ((conv => whnf); (repeat ((first | with_reducible refine abr_true rfl ?_ | with_reducible refine abr_false rfl ?_ | with_reducible refine abr_yes rfl ?_ | refine abr_yes (by decide) ?_ | refine abr_no (by decide) ?_ | with_reducible refine abr_same_ne ?_); (conv => whnf))))
        cases hmk : missOk w (sn, pa, fr, to)
        · rw [hmk, if_pos (show p'.2 = 0 ∧ false = false from ⟨hp', rfl⟩)] at hans
          ((conv => whnf); (repeat ((first | with_reducible refine abr_true rfl ?_ | with_reducible refine abr_false rfl ?_ | with_reducible refine abr_yes rfl ?_ | refine abr_yes (by decide) ?_ | refine abr_no (by decide) ?_ | with_reducible refine abr_same_ne ?_); (conv => whnf))))
          refine astore (xs := [i64v 0, .slice 4 [] .full]) (l := [i64v 0, .slice 4 [] .full]) k4 (by exact Nat.le_refl 2) rfl rfl ?_
          ((conv => whnf); (repeat ((first | with_reducible refine abr_true rfl ?_ | with_reducible refine abr_false rfl ?_ | with_reducible refine abr_yes rfl ?_ | refine abr_yes (by decide) ?_ | refine abr_no (by decide) ?_ | with_reducible refine abr_same_ne ?_); (conv => whnf))))
          refine aloads (l := [i64v 0, .slice 4 [] .full]) (upd_same _ _ _) (by exact Nat.le_refl 2) rfl ?_
          ((conv => whnf); (repeat ((first | with_reducible refine abr_true rfl ?_ | with_reducible refine abr_false rfl ?_ | with_reducible refine abr_yes rfl ?_ | refine abr_yes (by decide) ?_ | refine abr_no (by decide) ?_ | with_reducible refine abr_same_ne ?_); (conv => whnf))))
          exact aret_st (l := []) (hz hs2) ⟨by rw [hans]; try rfl, rfl⟩
        · rw [hmk, if_neg (show ¬ (p'.2 = 0 ∧ true = false) from fun h => by cases h.2)] at hans
          ((conv => whnf); (repeat ((first | with_reducible refine abr_true rfl ?_ | with_reducible refine abr_false rfl ?_ | with_reducible refine abr_yes rfl ?_ | refine abr_yes (by decide) ?_ | refine abr_no (by decide) ?_ | with_reducible refine abr_same_ne ?_); (conv => whnf))))
          refine aload k7 rfl ?_
          ((conv => whnf); (repeat ((first | with_reducible refine abr_true rfl ?_ | with_reducible refine abr_false rfl ?_ | with_reducible refine abr_yes rfl ?_ | refine abr_yes (by decide) ?_ | refine abr_no (by decide) ?_ | with_reducible refine abr_same_ne ?_); (conv => whnf))))
          refine aloads (l := [i64v sn, boolv pa, i64v fr, i64v to]) k9 (by exact Nat.le_refl 4) rfl ?_
          ((conv => whnf); (repeat ((first | with_reducible refine abr_true rfl ?_ | with_reducible refine abr_false rfl ?_ | with_reducible refine abr_yes rfl ?_ | refine abr_yes (by decide) ?_ | refine abr_no (by decide) ?_ | with_reducible refine abr_same_ne ?_); (conv => whnf))))
          refine aapp_in (ys := [msV (sn, pa, fr, to)]) hto2 hs2 (by rw [List.length_map]; show (_ + 1) * 32 ≤ _; omega) fun t5 υ5 hx5 hs5 hto5 => ?_
          have p4 := hx5 i4 _ rfl k4
          have p7 := hx5 i7 _ rfl k7
          have pg := hx5 ig _ rfl g2.at_
          obtain ⟨tkr, hrd⟩ := g2.rd
          have pr := hx5 ir _ rfl hrd
          have g5 : Gr υ5 ig ir b p'.1 p'.2 := ⟨g2.ne, g2.hk, g2.hb, ⟨tkr, pr⟩, pg⟩
          rw [show ms.map msV ++ [msV (sn, pa, fr, to)] = (ms ++ [(sn, pa, fr, to)]).map msV by rw [List.map_append]; rfl]
          ((conv => whnf); (repeat ((first | with_reducible refine abr_true rfl ?_ | with_reducible refine abr_false rfl ?_ | with_reducible refine abr_yes rfl ?_ | refine abr_yes (by decide) ?_ | refine abr_no (by decide) ?_ | with_reducible refine abr_same_ne ?_); (conv => whnf))))
          refine astore (xs := [missV (.tip t5) (ms ++ [(sn, pa, fr, to)])]) (l := [i64v ack, missV (.tip t5) (ms ++ [(sn, pa, fr, to)])]) p7 (by exact Nat.le_refl 2) rfl rfl ?_
          have hn7 : i7 ≠ t5 := hto5.ne_of p7 rfl t5 rfl
          ((conv => whnf); (repeat ((first | with_reducible refine abr_true rfl ?_ | with_reducible refine abr_false rfl ?_ | with_reducible refine abr_yes rfl ?_ | refine abr_yes (by decide) ?_ | refine abr_no (by decide) ?_ | with_reducible refine abr_same_ne ?_); (conv => whnf))))
          refine ⟨(f', ms ++ [(sn, pa, fr, to)], p', mo, ack, .tip t5, upd υ5 i7 (.cells [i64v ack, missV (.tip t5) (ms ++ [(sn, pa, fr, to)])]), ig, ir, i7), rfl, ⟨hw, by dsimp only; rw [List.length_append, List.length_singleton]; omega, g5.upd _ (Ne.symm ng7) (Ne.symm nr7), hto5.ne _ (fun u e => by cases e; exact hn7), sub_upd _ hs5 b7, (upd_ne _ _ n47).trans p4, upd_same _ _ _, bg, br, b4, b7, ng4, nr4, ng7, nr7, n47, hans⟩, by dsimp only; omega, Sub.refl _, ?_⟩
          ((conv => whnf); (repeat ((first | with_reducible refine abr_true rfl ?_ | with_reducible refine abr_false rfl ?_ | with_reducible refine abr_yes rfl ?_ | refine abr_yes (by decide) ?_ | refine abr_no (by decide) ?_ | with_reducible refine abr_same_ne ?_); (conv => whnf))))
          (repeat' first | with_reducible exact EnvLe.refl _ | (refine EnvLe.node ?_ (by first | exact Or.inl rfl | exact Or.inr (Or.inl rfl) | exact Or.inr (Or.inr ⟨nofun, VLe.slice _ _ _⟩)) ?_))
      · rw [if_neg (show ¬ (p'.2 = 0 ∧ missOk w (sn, pa, fr, to) = false) from fun h => hp' h.1)] at hans
        refine abr_no hp' ?_
        ((conv => whnf); (repeat ((first | with_reducible refine abr_true rfl ?_ | with_reducible refine abr_false rfl ?_ | with_reducible refine abr_yes rfl ?_ | refine abr_yes (by decide) ?_ | refine abr_no (by decide) ?_ | with_reducible refine abr_same_ne ?_); (conv => whnf))))
        refine aload k7 rfl ?_
        ((conv => whnf); (repeat ((first | with_reducible refine abr_true rfl ?_ | with_reducible refine abr_false rfl ?_ | with_reducible refine abr_yes rfl ?_ | refine abr_yes (by decide) ?_ | refine abr_no (by decide) ?_ | with_reducible refine abr_same_ne ?_); (conv => whnf))))
        refine aloads (l := [i64v sn, boolv pa, i64v fr, i64v to]) k9 (by exact Nat.le_refl 4) rfl ?_
        ((conv => whnf); (repeat ((first | with_reducible refine abr_true rfl ?_ | with_reducible refine abr_false rfl ?_ | with_reducible refine abr_yes rfl ?_ | refine abr_yes (by decide) ?_ | refine abr_no (by decide) ?_ | with_reducible refine abr_same_ne ?_); (conv => whnf))))
        refine aapp_in (ys := [msV (sn, pa, fr, to)]) hto2 hs2 (by rw [List.length_map]; show (_ + 1) * 32 ≤ _; omega) fun t5 υ5 hx5 hs5 hto5 => ?_
        have p4 := hx5 i4 _ rfl k4
        have p7 := hx5 i7 _ rfl k7
        have pg := hx5 ig _ rfl g2.at_
        obtain ⟨tkr, hrd⟩ := g2.rd
        have pr := hx5 ir _ rfl hrd
        have g5 : Gr υ5 ig ir b p'.1 p'.2 := ⟨g2.ne, g2.hk, g2.hb, ⟨tkr, pr⟩, pg⟩
        rw [show ms.map msV ++ [msV (sn, pa, fr, to)] = (ms ++ [(sn, pa, fr, to)]).map msV by rw [List.map_append]; rfl]
        ((conv => whnf); (repeat ((first | with_reducible refine abr_true rfl ?_ | with_reducible refine abr_false rfl ?_ | with_reducible refine abr_yes rfl ?_ | refine abr_yes (by decide) ?_ | refine abr_no (by decide) ?_ | with_reducible refine abr_same_ne ?_); (conv => whnf))))
        refine astore (xs := [missV (.tip t5) (ms ++ [(sn, pa, fr, to)])]) (l := [i64v ack, missV (.tip t5) (ms ++ [(sn, pa, fr, to)])]) p7 (by exact Nat.le_refl 2) rfl rfl ?_
        have hn7 : i7 ≠ t5 := hto5.ne_of p7 rfl t5 rfl
        ((conv => whnf); (repeat ((first | with_reducible refine abr_true rfl ?_ | with_reducible refine abr_false rfl ?_ | with_reducible refine abr_yes rfl ?_ | refine abr_yes (by decide) ?_ | refine abr_no (by decide) ?_ | with_reducible refine abr_same_ne ?_); (conv => whnf))))
        refine ⟨(f', ms ++ [(sn, pa, fr, to)], p', mo, ack, .tip t5, upd υ5 i7 (.cells [i64v ack, missV (.tip t5) (ms ++ [(sn, pa, fr, to)])]), ig, ir, i7), rfl, ⟨hw, by dsimp only; rw [List.length_append, List.length_singleton]; omega, g5.upd _ (Ne.symm ng7) (Ne.symm nr7), hto5.ne _ (fun u e => by cases e; exact hn7), sub_upd _ hs5 b7, (upd_ne _ _ n47).trans p4, upd_same _ _ _, bg, br, b4, b7, ng4, nr4, ng7, nr7, n47, hans⟩, by dsimp only; omega, Sub.refl _, ?_⟩
        ((conv => whnf); (repeat ((first | with_reducible refine abr_true rfl ?_ | with_reducible refine abr_false rfl ?_ | with_reducible refine abr_yes rfl ?_ | refine abr_yes (by decide) ?_ | refine abr_no (by decide) ?_ | with_reducible refine abr_same_ne ?_); (conv => whnf))))
        (repeat' first | with_reducible exact EnvLe.refl _ | (refine EnvLe.node ?_ (by first | exact Or.inl rfl | exact Or.inr (Or.inl rfl) | exact Or.inr (Or.inr ⟨nofun, VLe.slice _ _ _⟩)) ?_))
end Go.Proofs.Ytnfdgccmpglbhaa
/-
  The document's bits: bits of bytes; what is got.
-/
namespace Go.Proofs.Ytnfdgccmpglbhaa
set_option linter.unusedVariables false
set_option linter.unusedSimpArgs false
open Go Go.Am

theorem numBits_get (v : Nat) : ∀ (n m : Nat), m < n → (numBits v n)[m]? = some (v.testBit (n - 1 - m))
  | 0, m, h => by omega
  | n + 1, 0, h => by simp [numBits]
  | n + 1, m + 1, h => by
    simp only [numBits, List.getElem?_cons_succ]
    rw [numBits_get v n m (by omega)]
    congr 2; omega
theorem mask_eq : ∀ m, m < 8 → 256 / 2 ^ (m + 1) = 2 ^ (7 - m) := by decide
theorem mask_le : ∀ m, m < 9 → 256 / 2 ^ (m + 1) ≤ 128 := by decide
theorem mask_half (m : Nat) : 256 / 2 ^ (m + 1) / 2 = 256 / 2 ^ (m + 1 + 1) := by rw [Nat.div_div_eq_div_mul, ← Nat.pow_succ]

set_option maxRecDepth 10000 in
theorem refBits (b : List UInt8) (t : Tok) (σ : AHeap) : ACalls Try.prog i_bowlineref01_Bits [sl t b] σ fun x σ' => x = bl .none (unpack (b.take 8192)) ∧ σ' = σ := by
  refine k_bowlineref01_Bits rfl ?_
  ((conv => whnf); (repeat ((first | with_reducible refine abr_true rfl ?_ | with_reducible refine abr_false rfl ?_ | with_reducible refine abr_yes rfl ?_ | refine abr_yes (by decide) ?_ | refine abr_no (by decide) ?_ | with_reducible refine abr_same_ne ?_); (conv => whnf))))
  refine aloop (α := Nat × Tok × AHeap) (fun x => [(s3, bl x.2.1 (unpack (b.take x.1))), (s4, i64v x.1)]) (fun x => x.2.2) (fun x => x.1 ≤ b.length ∧ x.1 ≤ 8192 ∧ Owned σ x.2.2 x.2.1) (fun x => 8192 - x.1) (0, .full, σ) ⟨by omega, by omega, .full _⟩ (Sub.refl _) ?_ ?_
  · ((conv => whnf); (repeat ((first | with_reducible refine abr_true rfl ?_ | with_reducible refine abr_false rfl ?_ | with_reducible refine abr_yes rfl ?_ | refine abr_yes (by decide) ?_ | refine abr_no (by decide) ?_ | with_reducible refine abr_same_ne ?_); (conv => whnf))))
    (repeat' first | with_reducible exact EnvLe.refl _ | (refine EnvLe.node ?_ (by first | exact Or.inl rfl | exact Or.inr (Or.inl rfl) | exact Or.inr (Or.inr ⟨nofun, VLe.slice _ _ _⟩)) ?_))
  · rintro ⟨i, tk, σ1⟩ ⟨hi, hi2, ho⟩
    dsimp only at hi hi2 ho ⊢
    by_cases h : i < b.length
    · by_cases h2 : i < 8192
      · have hul := unpack_length (b.take i)
        rw [List.length_take, Nat.min_eq_left hi] at hul
        ((conv => whnf); (repeat ((first | with_reducible refine abr_true rfl ?_ | with_reducible refine abr_false rfl ?_ | with_reducible refine abr_yes rfl ?_ | refine abr_yes (by decide) ?_ | refine abr_no (by decide) ?_ | with_reducible refine abr_same_ne ?_); (conv => whnf))))
        (repeat ((first | refine aload (by (repeat (first | with_reducible exact upd_same _ _ _ | assumption | rw [upd_ne _ _ (by first | assumption | (apply Ne.symm; assumption))]))) rfl ?_ | refine afit_i64 (by omega) ?_ | refine arem_nonneg (by omega) (by omega) ?_ | refine adiv_i64 (by omega) (by omega) ?_ | refine abr_yes (by omega) ?_ | refine abr_no (by omega) ?_ | refine amin ?_ | refine amax ?_ | refine afit_u64 (by omega) ?_ | refine afit_u8 (by omega) ?_ | rw [List.length_map]); ((conv => whnf); (repeat ((first | with_reducible refine abr_true rfl ?_ | with_reducible refine abr_false rfl ?_ | with_reducible refine abr_yes rfl ?_ | refine abr_yes (by decide) ?_ | refine abr_no (by decide) ?_ | with_reducible refine abr_same_ne ?_); (conv => whnf))))))
        refine aloop (α := Nat × Tok × AHeap) (fun x => [(s3, bl x.2.1 (unpack (b.take i) ++ (byteBits b[i]).take x.1)), (s5, u8v (256 / 2 ^ (x.1 + 1)))]) (fun x => x.2.2) (fun x => x.1 ≤ 8 ∧ Owned σ x.2.2 x.2.1) (fun x => 8 - x.1) (0, tk, σ1) ⟨by omega, ho⟩ (Sub.refl _) ?_ ?_
        · ((conv => whnf); (repeat ((first | with_reducible refine abr_true rfl ?_ | with_reducible refine abr_false rfl ?_ | with_reducible refine abr_yes rfl ?_ | refine abr_yes (by decide) ?_ | refine abr_no (by decide) ?_ | with_reducible refine abr_same_ne ?_); (conv => whnf))))
          dsimp only
          rw [List.take_zero, List.append_nil, show 256 / 2 ^ (0 + 1) = 128 by decide]
          (repeat' first | with_reducible exact EnvLe.refl _ | (refine EnvLe.node ?_ (by first | exact Or.inl rfl | exact Or.inr (Or.inl rfl) | exact Or.inr (Or.inr ⟨nofun, VLe.slice _ _ _⟩)) ?_))
        · rintro ⟨m, tk2, σ2⟩ ⟨hm, ho2⟩
          dsimp only at hm ho2 ⊢
          have hx := b[i].toNat_lt
          by_cases hm8 : m < 8
          · have hle := mask_le m (by omega)
            have hpos : 0 < 256 / 2 ^ (m + 1) := by rw [mask_eq m hm8]; exact Nat.pos_of_ne_zero (by simp)
            ((conv => whnf); (repeat ((first | with_reducible refine abr_true rfl ?_ | with_reducible refine abr_false rfl ?_ | with_reducible refine abr_yes rfl ?_ | refine abr_yes (by decide) ?_ | refine abr_no (by decide) ?_ | with_reducible refine abr_same_ne ?_); (conv => whnf))))
            refine abr_yes (by omega) ?_
            ((conv => whnf); (repeat ((first | with_reducible refine abr_true rfl ?_ | with_reducible refine abr_false rfl ?_ | with_reducible refine abr_yes rfl ?_ | refine abr_yes (by decide) ?_ | refine abr_no (by decide) ?_ | with_reducible refine abr_same_ne ?_); (conv => whnf))))
            refine aget (by omega) (get_bytes h) ?_
            ((conv => whnf); (repeat ((first | with_reducible refine abr_true rfl ?_ | with_reducible refine abr_false rfl ?_ | with_reducible refine abr_yes rfl ?_ | refine abr_yes (by decide) ?_ | refine abr_no (by decide) ?_ | with_reducible refine abr_same_ne ?_); (conv => whnf))))
            refine acell rfl ?_
            ((conv => whnf); (repeat ((first | with_reducible refine abr_true rfl ?_ | with_reducible refine abr_false rfl ?_ | with_reducible refine abr_yes rfl ?_ | refine abr_yes (by decide) ?_ | refine abr_no (by decide) ?_ | with_reducible refine abr_same_ne ?_); (conv => whnf))))
            refine adiv_u8 (by omega) (by omega) ?_
            ((conv => whnf); (repeat ((first | with_reducible refine abr_true rfl ?_ | with_reducible refine abr_false rfl ?_ | with_reducible refine abr_yes rfl ?_ | refine abr_yes (by decide) ?_ | refine abr_no (by decide) ?_ | with_reducible refine abr_same_ne ?_); (conv => whnf))))
            refine arem_nat (b := 2) (by omega) ?_
            ((conv => whnf); (repeat ((first | with_reducible refine abr_true rfl ?_ | with_reducible refine abr_false rfl ?_ | with_reducible refine abr_yes rfl ?_ | refine abr_yes (by decide) ?_ | refine abr_no (by decide) ?_ | with_reducible refine abr_same_ne ?_); (conv => whnf))))
            rw [mask_eq m hm8, testBit_one, ← mask_eq m hm8]
            ((conv => whnf); (repeat ((first | with_reducible refine abr_true rfl ?_ | with_reducible refine abr_false rfl ?_ | with_reducible refine abr_yes rfl ?_ | refine abr_yes (by decide) ?_ | refine abr_no (by decide) ?_ | with_reducible refine abr_same_ne ?_); (conv => whnf))))
            refine aapp_owned ho2 (by rw [List.length_map, List.length_append, List.length_take, byteBits_length, hul]; show (8 * i + min m 8 + 1) * 1 ≤ _; omega) fun t' tk' ho' _ => ?_
            have hb : (byteBits b[i])[m]? = some (b[i].toNat.testBit (7 - m)) := numBits_get b[i].toNat 8 m hm8
            rw [show List.map boolv (unpack (b.take i) ++ (byteBits b[i]).take m) ++ [AVal.v (Value.bool (b[i].toNat.testBit (7 - m)))] = List.map boolv (unpack (b.take i) ++ (byteBits b[i]).take (m + 1)) by
              rw [take_snoc hb]; simp]
            ((conv => whnf); (repeat ((first | with_reducible refine abr_true rfl ?_ | with_reducible refine abr_false rfl ?_ | with_reducible refine abr_yes rfl ?_ | refine abr_yes (by decide) ?_ | refine abr_no (by decide) ?_ | with_reducible refine abr_same_ne ?_); (conv => whnf))))
            refine adiv_u8 (b := 2) (by omega) (by omega) ?_
            ((conv => whnf); (repeat ((first | with_reducible refine abr_true rfl ?_ | with_reducible refine abr_false rfl ?_ | with_reducible refine abr_yes rfl ?_ | refine abr_yes (by decide) ?_ | refine abr_no (by decide) ?_ | with_reducible refine abr_same_ne ?_); (conv => whnf))))
            rw [mask_half]
            refine ⟨(m + 1, tk', _), ⟨by dsimp only; omega, ho'⟩, by dsimp only; omega, Sub.refl _, ?_⟩
            ((conv => whnf); (repeat ((first | with_reducible refine abr_true rfl ?_ | with_reducible refine abr_false rfl ?_ | with_reducible refine abr_yes rfl ?_ | refine abr_yes (by decide) ?_ | refine abr_no (by decide) ?_ | with_reducible refine abr_same_ne ?_); (conv => whnf))))
            (repeat' first | with_reducible exact EnvLe.refl _ | (refine EnvLe.node ?_ (by first | exact Or.inl rfl | exact Or.inr (Or.inl rfl) | exact Or.inr (Or.inr ⟨nofun, VLe.slice _ _ _⟩)) ?_))
          · have : m = 8 := by omega
            subst this
            ((conv => whnf); (repeat ((first | with_reducible refine abr_true rfl ?_ | with_reducible refine abr_false rfl ?_ | with_reducible refine abr_yes rfl ?_ | refine abr_yes (by decide) ?_ | refine abr_no (by decide) ?_ | with_reducible refine abr_same_ne ?_); (conv => whnf))))
            (repeat ((first | refine aload (by (repeat (first | with_reducible exact upd_same _ _ _ | assumption | rw [upd_ne _ _ (by first | assumption | (apply Ne.symm; assumption))]))) rfl ?_ | refine afit_i64 (by omega) ?_ | refine arem_nonneg (by omega) (by omega) ?_ | refine adiv_i64 (by omega) (by omega) ?_ | refine abr_yes (by omega) ?_ | refine abr_no (by omega) ?_ | refine amin ?_ | refine amax ?_ | refine afit_u64 (by omega) ?_ | refine afit_u8 (by omega) ?_ | rw [List.length_map]); ((conv => whnf); (repeat ((first | with_reducible refine abr_true rfl ?_ | with_reducible refine abr_false rfl ?_ | with_reducible refine abr_yes rfl ?_ | refine abr_yes (by decide) ?_ | refine abr_no (by decide) ?_ | with_reducible refine abr_same_ne ?_); (conv => whnf))))))
            refine ⟨(i + 1, tk2, σ2), ⟨by dsimp only; omega, by dsimp only; omega, ho2⟩, by dsimp only; omega, Sub.refl _, ?_⟩
            have e : unpack (b.take (i + 1)) = unpack (b.take i) ++ (byteBits b[i]).take 8 := by
              rw [take_snoc (List.getElem?_eq_getElem h), unpack_append, List.take_of_length_le (l := byteBits b[i]) (by rw [byteBits_length]; omega)]
              congr 1
            ((conv => whnf); (repeat ((first | with_reducible refine abr_true rfl ?_ | with_reducible refine abr_false rfl ?_ | with_reducible refine abr_yes rfl ?_ | refine abr_yes (by decide) ?_ | refine abr_no (by decide) ?_ | with_reducible refine abr_same_ne ?_); (conv => whnf))))
            rw [e]
            (repeat' first | with_reducible exact EnvLe.refl _ | (refine EnvLe.node ?_ (by first | exact Or.inl rfl | exact Or.inr (Or.inl rfl) | exact Or.inr (Or.inr ⟨nofun, VLe.slice _ _ _⟩)) ?_))
      · ((conv => whnf); (repeat ((first | with_reducible refine abr_true rfl ?_ | with_reducible refine abr_false rfl ?_ | with_reducible refine abr_yes rfl ?_ | refine abr_yes (by decide) ?_ | refine abr_no (by decide) ?_ | with_reducible refine abr_same_ne ?_); (conv => whnf))))
        (repeat ((first | refine aload (by (repeat (first | with_reducible exact upd_same _ _ _ | assumption | rw [upd_ne _ _ (by first | assumption | (apply Ne.symm; assumption))]))) rfl ?_ | refine afit_i64 (by omega) ?_ | refine arem_nonneg (by omega) (by omega) ?_ | refine adiv_i64 (by omega) (by omega) ?_ | refine abr_yes (by omega) ?_ | refine abr_no (by omega) ?_ | refine amin ?_ | refine amax ?_ | refine afit_u64 (by omega) ?_ | refine afit_u8 (by omega) ?_ | rw [List.length_map]); ((conv => whnf); (repeat ((first | with_reducible refine abr_true rfl ?_ | with_reducible refine abr_false rfl ?_ | with_reducible refine abr_yes rfl ?_ | refine abr_yes (by decide) ?_ | refine abr_no (by decide) ?_ | with_reducible refine abr_same_ne ?_); (conv => whnf))))))
        refine aret_sl ho.sub ⟨?_, rfl⟩
        rw [show i = 8192 by omega]
    · ((conv => whnf); (repeat ((first | with_reducible refine abr_true rfl ?_ | with_reducible refine abr_false rfl ?_ | with_reducible refine abr_yes rfl ?_ | refine abr_yes (by decide) ?_ | refine abr_no (by decide) ?_ | with_reducible refine abr_same_ne ?_); (conv => whnf))))
      (repeat ((first | refine aload (by (repeat (first | with_reducible exact upd_same _ _ _ | assumption | rw [upd_ne _ _ (by first | assumption | (apply Ne.symm; assumption))]))) rfl ?_ | refine afit_i64 (by omega) ?_ | refine arem_nonneg (by omega) (by omega) ?_ | refine adiv_i64 (by omega) (by omega) ?_ | refine abr_yes (by omega) ?_ | refine abr_no (by omega) ?_ | refine amin ?_ | refine amax ?_ | refine afit_u64 (by omega) ?_ | refine afit_u8 (by omega) ?_ | rw [List.length_map]); ((conv => whnf); (repeat ((first | with_reducible refine abr_true rfl ?_ | with_reducible refine abr_false rfl ?_ | with_reducible refine abr_yes rfl ?_ | refine abr_yes (by decide) ?_ | refine abr_no (by decide) ?_ | with_reducible refine abr_same_ne ?_); (conv => whnf))))))
      refine aret_sl ho.sub ⟨?_, rfl⟩
      rw [List.take_of_length_le (by omega), List.take_of_length_le (by omega)]

set_option maxRecDepth 10000 in
theorem refGet (l : List Bool) (t : Tok) (k : Nat) (n : Int) (σ : AHeap) (hk : k ≤ l.length) (hl : l.length ≤ 1000000) :
    ACalls Try.prog i_bowlineref01_Get [bl t l, i64v k, i64v n] σ fun x σ' => x = .tup [u64v (getVal l k n), i64v (getAt l.length k n), i64v (getCode l.length k n)] ∧ σ' = σ := by
  refine k_bowlineref01_Get rfl ?_
  ((conv => whnf); (repeat ((first | with_reducible refine abr_true rfl ?_ | with_reducible refine abr_false rfl ?_ | with_reducible refine abr_yes rfl ?_ | refine abr_yes (by decide) ?_ | refine abr_no (by decide) ?_ | with_reducible refine abr_same_ne ?_); (conv => whnf))))
  by_cases h1 : n < 0
  · have hc : getCode l.length k n = 1 := by unfold getCode; rw [if_pos (.inl h1)]
    (repeat ((first | refine aload (by (repeat (first | with_reducible exact upd_same _ _ _ | assumption | rw [upd_ne _ _ (by first | assumption | (apply Ne.symm; assumption))]))) rfl ?_ | refine afit_i64 (by omega) ?_ | refine arem_nonneg (by omega) (by omega) ?_ | refine adiv_i64 (by omega) (by omega) ?_ | refine abr_yes (by omega) ?_ | refine abr_no (by omega) ?_ | refine amin ?_ | refine amax ?_ | refine afit_u64 (by omega) ?_ | refine afit_u8 (by omega) ?_ | rw [List.length_map]); ((conv => whnf); (repeat ((first | with_reducible refine abr_true rfl ?_ | with_reducible refine abr_false rfl ?_ | with_reducible refine abr_yes rfl ?_ | refine abr_yes (by decide) ?_ | refine abr_no (by decide) ?_ | with_reducible refine abr_same_ne ?_); (conv => whnf))))))
    refine aret_same ⟨?_, rfl⟩
    unfold getVal getAt; rw [hc]; rfl
  · by_cases h2 : n > 64
    · have hc : getCode l.length k n = 1 := by unfold getCode; rw [if_pos (.inr h2)]
      (repeat ((first | refine aload (by (repeat (first | with_reducible exact upd_same _ _ _ | assumption | rw [upd_ne _ _ (by first | assumption | (apply Ne.symm; assumption))]))) rfl ?_ | refine afit_i64 (by omega) ?_ | refine arem_nonneg (by omega) (by omega) ?_ | refine adiv_i64 (by omega) (by omega) ?_ | refine abr_yes (by omega) ?_ | refine abr_no (by omega) ?_ | refine amin ?_ | refine amax ?_ | refine afit_u64 (by omega) ?_ | refine afit_u8 (by omega) ?_ | rw [List.length_map]); ((conv => whnf); (repeat ((first | with_reducible refine abr_true rfl ?_ | with_reducible refine abr_false rfl ?_ | with_reducible refine abr_yes rfl ?_ | refine abr_yes (by decide) ?_ | refine abr_no (by decide) ?_ | with_reducible refine abr_same_ne ?_); (conv => whnf))))))
      refine aret_same ⟨?_, rfl⟩
      unfold getVal getAt; rw [hc]; rfl
    · by_cases h3 : n > (l.length : Int) - k
      · have hc : getCode l.length k n = 8 := by unfold getCode; rw [if_neg (by omega), if_pos h3]
        (repeat ((first | refine aload (by (repeat (first | with_reducible exact upd_same _ _ _ | assumption | rw [upd_ne _ _ (by first | assumption | (apply Ne.symm; assumption))]))) rfl ?_ | refine afit_i64 (by omega) ?_ | refine arem_nonneg (by omega) (by omega) ?_ | refine adiv_i64 (by omega) (by omega) ?_ | refine abr_yes (by omega) ?_ | refine abr_no (by omega) ?_ | refine amin ?_ | refine amax ?_ | refine afit_u64 (by omega) ?_ | refine afit_u8 (by omega) ?_ | rw [List.length_map]); ((conv => whnf); (repeat ((first | with_reducible refine abr_true rfl ?_ | with_reducible refine abr_false rfl ?_ | with_reducible refine abr_yes rfl ?_ | refine abr_yes (by decide) ?_ | refine abr_no (by decide) ?_ | with_reducible refine abr_same_ne ?_); (conv => whnf))))))
        refine aret_same ⟨?_, rfl⟩
        unfold getVal getAt; rw [hc]; rfl
      · have hc : getCode l.length k n = 0 := by unfold getCode; rw [if_neg (by omega), if_neg h3]
        (repeat ((first | refine aload (by (repeat (first | with_reducible exact upd_same _ _ _ | assumption | rw [upd_ne _ _ (by first | assumption | (apply Ne.symm; assumption))]))) rfl ?_ | refine afit_i64 (by omega) ?_ | refine arem_nonneg (by omega) (by omega) ?_ | refine adiv_i64 (by omega) (by omega) ?_ | refine abr_yes (by omega) ?_ | refine abr_no (by omega) ?_ | refine amin ?_ | refine amax ?_ | refine afit_u64 (by omega) ?_ | refine afit_u8 (by omega) ?_ | rw [List.length_map]); ((conv => whnf); (repeat ((first | with_reducible refine abr_true rfl ?_ | with_reducible refine abr_false rfl ?_ | with_reducible refine abr_yes rfl ?_ | refine abr_yes (by decide) ?_ | refine abr_no (by decide) ?_ | with_reducible refine abr_same_ne ?_); (conv => whnf))))))
        refine aloop (α := Nat) (fun j => [(s9, u64v (val 0 ((l.drop k).take j))), (s10, i64v ((k + j : Nat) : Int))]) (fun _ => σ) (fun j => j ≤ n.toNat) (fun j => n.toNat - j) 0 (by omega) (Sub.refl _) ?_ ?_
        · ((conv => whnf); (repeat ((first | with_reducible refine abr_true rfl ?_ | with_reducible refine abr_false rfl ?_ | with_reducible refine abr_yes rfl ?_ | refine abr_yes (by decide) ?_ | refine abr_no (by decide) ?_ | with_reducible refine abr_same_ne ?_); (conv => whnf))))
          (repeat' first | with_reducible exact EnvLe.refl _ | (refine EnvLe.node ?_ (by first | exact Or.inl rfl | exact Or.inr (Or.inl rfl) | exact Or.inr (Or.inr ⟨nofun, VLe.slice _ _ _⟩)) ?_))
        · rintro j hj
          by_cases h : j < n.toNat
          · have hin : k + j < l.length := by omega
            have hv2 : val 0 ((l.drop k).take j) < 2 ^ 63 := by
              have h1 := val_lt ((l.drop k).take j)
              have h2 : ((l.drop k).take j).length ≤ 63 := by rw [List.length_take]; omega
              exact Nat.lt_of_lt_of_le h1 (Nat.pow_le_pow_right (by omega) h2)
            have e : val 0 ((l.drop k).take (j + 1)) = 2 * val 0 ((l.drop k).take j) + l[k + j].toNat := by
              rw [take_snoc (l := l.drop k) (i := j) (x := l[k + j]) (by rw [List.getElem?_drop, List.getElem?_eq_getElem hin]), val_snoc]
            ((conv => whnf); (repeat ((first | with_reducible refine abr_true rfl ?_ | with_reducible refine abr_false rfl ?_ | with_reducible refine abr_yes rfl ?_ | refine abr_yes (by decide) ?_ | refine abr_no (by decide) ?_ | with_reducible refine abr_same_ne ?_); (conv => whnf))))
            (repeat ((first | refine aload (by (repeat (first | with_reducible exact upd_same _ _ _ | assumption | rw [upd_ne _ _ (by first | assumption | (apply Ne.symm; assumption))]))) rfl ?_ | refine afit_i64 (by omega) ?_ | refine arem_nonneg (by omega) (by omega) ?_ | refine adiv_i64 (by omega) (by omega) ?_ | refine abr_yes (by omega) ?_ | refine abr_no (by omega) ?_ | refine amin ?_ | refine amax ?_ | refine afit_u64 (by omega) ?_ | refine afit_u8 (by omega) ?_ | rw [List.length_map]); ((conv => whnf); (repeat ((first | with_reducible refine abr_true rfl ?_ | with_reducible refine abr_false rfl ?_ | with_reducible refine abr_yes rfl ?_ | refine abr_yes (by decide) ?_ | refine abr_no (by decide) ?_ | with_reducible refine abr_same_ne ?_); (conv => whnf))))))
            try refine afit_u64 (by omega) ?_
            rw [show (2 : Int) * ((val 0 ((l.drop k).take j) : Nat) : Int) = ((2 * val 0 ((l.drop k).take j) : Nat) : Int) by omega]
            ((conv => whnf); (repeat ((first | with_reducible refine abr_true rfl ?_ | with_reducible refine abr_false rfl ?_ | with_reducible refine abr_yes rfl ?_ | refine abr_yes (by decide) ?_ | refine abr_no (by decide) ?_ | with_reducible refine abr_same_ne ?_); (conv => whnf))))
            refine aget (by omega) (get_bools hin) ?_
            ((conv => whnf); (repeat ((first | with_reducible refine abr_true rfl ?_ | with_reducible refine abr_false rfl ?_ | with_reducible refine abr_yes rfl ?_ | refine abr_yes (by decide) ?_ | refine abr_no (by decide) ?_ | with_reducible refine abr_same_ne ?_); (conv => whnf))))
            refine acell rfl ?_
            ((conv => whnf); (repeat ((first | with_reducible refine abr_true rfl ?_ | with_reducible refine abr_false rfl ?_ | with_reducible refine abr_yes rfl ?_ | refine abr_yes (by decide) ?_ | refine abr_no (by decide) ?_ | with_reducible refine abr_same_ne ?_); (conv => whnf))))
            have nx : ((k + j : Nat) : Int) + 1 = ((k + (j + 1) : Nat) : Int) := by omega
            cases hb : l[k + j] with
            | true =>
              rw [hb] at e
              ((conv => whnf); (repeat ((first | with_reducible refine abr_true rfl ?_ | with_reducible refine abr_false rfl ?_ | with_reducible refine abr_yes rfl ?_ | refine abr_yes (by decide) ?_ | refine abr_no (by decide) ?_ | with_reducible refine abr_same_ne ?_); (conv => whnf))))
              refine afit_u64 (by omega) ?_
              ((conv => whnf); (repeat ((first | with_reducible refine abr_true rfl ?_ | with_reducible refine abr_false rfl ?_ | with_reducible refine abr_yes rfl ?_ | refine abr_yes (by decide) ?_ | refine abr_no (by decide) ?_ | with_reducible refine abr_same_ne ?_); (conv => whnf))))
              (repeat ((first | refine aload (by (repeat (first | with_reducible exact upd_same _ _ _ | assumption | rw [upd_ne _ _ (by first | assumption | (apply Ne.symm; assumption))]))) rfl ?_ | refine afit_i64 (by omega) ?_ | refine arem_nonneg (by omega) (by omega) ?_ | refine adiv_i64 (by omega) (by omega) ?_ | refine abr_yes (by omega) ?_ | refine abr_no (by omega) ?_ | refine amin ?_ | refine amax ?_ | refine afit_u64 (by omega) ?_ | refine afit_u8 (by omega) ?_ | rw [List.length_map]); ((conv => whnf); (repeat ((first | with_reducible refine abr_true rfl ?_ | with_reducible refine abr_false rfl ?_ | with_reducible refine abr_yes rfl ?_ | refine abr_yes (by decide) ?_ | refine abr_no (by decide) ?_ | with_reducible refine abr_same_ne ?_); (conv => whnf))))))
              refine ⟨j + 1, by omega, by omega, Sub.refl _, ?_⟩
              ((conv => whnf); (repeat ((first | with_reducible refine abr_true rfl ?_ | with_reducible refine abr_false rfl ?_ | with_reducible refine abr_yes rfl ?_ | refine abr_yes (by decide) ?_ | refine abr_no (by decide) ?_ | with_reducible refine abr_same_ne ?_); (conv => whnf))))
              rw [e, show ((2 * val 0 ((l.drop k).take j) : Nat) : Int) + 1 = ((2 * val 0 ((l.drop k).take j) + Bool.toNat true : Nat) : Int) by simp, nx]
              (repeat' first | with_reducible exact EnvLe.refl _ | (refine EnvLe.node ?_ (by first | exact Or.inl rfl | exact Or.inr (Or.inl rfl) | exact Or.inr (Or.inr ⟨nofun, VLe.slice _ _ _⟩)) ?_))
            | false =>
              rw [hb] at e
              ((conv => whnf); (repeat ((first | with_reducible refine abr_true rfl ?_ | with_reducible refine abr_false rfl ?_ | with_reducible refine abr_yes rfl ?_ | refine abr_yes (by decide) ?_ | refine abr_no (by decide) ?_ | with_reducible refine abr_same_ne ?_); (conv => whnf))))
              (repeat ((first | refine aload (by (repeat (first | with_reducible exact upd_same _ _ _ | assumption | rw [upd_ne _ _ (by first | assumption | (apply Ne.symm; assumption))]))) rfl ?_ | refine afit_i64 (by omega) ?_ | refine arem_nonneg (by omega) (by omega) ?_ | refine adiv_i64 (by omega) (by omega) ?_ | refine abr_yes (by omega) ?_ | refine abr_no (by omega) ?_ | refine amin ?_ | refine amax ?_ | refine afit_u64 (by omega) ?_ | refine afit_u8 (by omega) ?_ | rw [List.length_map]); ((conv => whnf); (repeat ((first | with_reducible refine abr_true rfl ?_ | with_reducible refine abr_false rfl ?_ | with_reducible refine abr_yes rfl ?_ | refine abr_yes (by decide) ?_ | refine abr_no (by decide) ?_ | with_reducible refine abr_same_ne ?_); (conv => whnf))))))
              refine ⟨j + 1, by omega, by omega, Sub.refl _, ?_⟩
              ((conv => whnf); (repeat ((first | with_reducible refine abr_true rfl ?_ | with_reducible refine abr_false rfl ?_ | with_reducible refine abr_yes rfl ?_ | refine abr_yes (by decide) ?_ | refine abr_no (by decide) ?_ | with_reducible refine abr_same_ne ?_); (conv => whnf))))
              rw [e, nx]
              (repeat' first | with_reducible exact EnvLe.refl _ | (refine EnvLe.node ?_ (by first | exact Or.inl rfl | exact Or.inr (Or.inl rfl) | exact Or.inr (Or.inr ⟨nofun, VLe.slice _ _ _⟩)) ?_))
          · have : j = n.toNat := by omega
            subst this
            ((conv => whnf); (repeat ((first | with_reducible refine abr_true rfl ?_ | with_reducible refine abr_false rfl ?_ | with_reducible refine abr_yes rfl ?_ | refine abr_yes (by decide) ?_ | refine abr_no (by decide) ?_ | with_reducible refine abr_same_ne ?_); (conv => whnf))))
            (repeat ((first | refine aload (by (repeat (first | with_reducible exact upd_same _ _ _ | assumption | rw [upd_ne _ _ (by first | assumption | (apply Ne.symm; assumption))]))) rfl ?_ | refine afit_i64 (by omega) ?_ | refine arem_nonneg (by omega) (by omega) ?_ | refine adiv_i64 (by omega) (by omega) ?_ | refine abr_yes (by omega) ?_ | refine abr_no (by omega) ?_ | refine amin ?_ | refine amax ?_ | refine afit_u64 (by omega) ?_ | refine afit_u8 (by omega) ?_ | rw [List.length_map]); ((conv => whnf); (repeat ((first | with_reducible refine abr_true rfl ?_ | with_reducible refine abr_false rfl ?_ | with_reducible refine abr_yes rfl ?_ | refine abr_yes (by decide) ?_ | refine abr_no (by decide) ?_ | with_reducible refine abr_same_ne ?_); (conv => whnf))))))
            refine aret_same ⟨?_, rfl⟩
            unfold getVal getAt
            rw [if_pos hc, if_pos hc, hc, show ((k + n.toNat : Nat) : Int) = (k : Int) + n by omega]

end Go.Proofs.Ytnfdgccmpglbhaa
