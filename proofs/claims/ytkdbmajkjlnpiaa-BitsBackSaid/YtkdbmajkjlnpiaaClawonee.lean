/-
  What was put is got: at the abstract states.
-/
import Derived.Test.YtkdbmajkjlnpiaaClawoned
namespace Go.Proofs.Ytkdbmajkjlnpiaa
set_option linter.unusedVariables false
set_option linter.unusedSimpArgs false
open Go Go.Am

theorem owned_has {σ σb : AHeap} {tk : Tok} : Owned σb σ tk ↔ Has (fun A => Owned (fun _ => none) A tk) σ σb := by
  constructor
  · rintro (⟨rfl, rfl⟩ | ⟨t, h, rfl, rfl⟩)
    · exact ⟨_, .inl ⟨rfl, rfl⟩, fun j hj => absurd rfl hj, rfl⟩
    · refine ⟨_, .inr ⟨t, rfl, rfl, rfl⟩, ?_, ?_⟩
      · intro j hj
        by_cases e : j = t
        · subst e; exact h
        · rw [upd_ne _ _ e] at hj; exact absurd rfl hj
      · rw [join_upd, join_none]
  · rintro ⟨A, ⟨rfl, rfl⟩ | ⟨t, _, rfl, rfl⟩, hd, rfl⟩
    · exact .inl ⟨rfl, rfl⟩
    · exact .inr ⟨t, hd t (by rw [upd_same]; nofun), rfl, by rw [join_upd, join_none]⟩
theorem swap_wo {σ2 σ1 σ0 : AHeap} {j : Nat} {bs : List Bool} {tk : Tok} (h : Wr σ2 j bs σ1) (h' : Owned σ0 σ1 tk) : ∃ σ', Owned σ' σ2 tk ∧ Wr σ' j bs σ0 := by
  obtain ⟨σ', h1, h2⟩ := (Wr.has.1 h).swap (owned_has.1 h'); exact ⟨σ', owned_has.2 h1, Wr.has.2 h2⟩
theorem swap_ow {σ2 σ1 σ0 : AHeap} {j : Nat} {bs : List Bool} {tk : Tok} (h : Owned σ1 σ2 tk) (h' : Wr σ1 j bs σ0) : ∃ σ', Wr σ2 j bs σ' ∧ Owned σ0 σ' tk := by
  obtain ⟨σ', h1, h2⟩ := (owned_has.1 h).swap (Wr.has.1 h'); exact ⟨σ', Wr.has.2 h1, owned_has.2 h2⟩

def bitsOf (l : List (Nat × Int)) : List Bool := l.flatMap fun p => numBits p.1 p.2.toNat
theorem bitsOf_snoc (l : List (Nat × Int)) (p : Nat × Int) : bitsOf (l ++ [p]) = bitsOf l ++ numBits p.1 p.2.toNat := by unfold bitsOf; rw [List.flatMap_append]; simp
theorem bitsOf_split (l : List (Nat × Int)) (i : Nat) (h : i < l.length) : bitsOf l = bitsOf (l.take i) ++ (numBits l[i].1 l[i].2.toNat ++ bitsOf (l.drop (i + 1))) := by
  have e : l = l.take i ++ (l[i] :: l.drop (i + 1)) := by rw [← List.drop_eq_getElem_cons h, List.take_append_drop]
  have e2 := congrArg bitsOf e
  unfold bitsOf at e2 ⊢
  rw [List.flatMap_append, List.flatMap_cons] at e2
  exact e2
theorem bitsOf_take_succ (l : List (Nat × Int)) (i : Nat) (h : i < l.length) : bitsOf (l.take (i + 1)) = bitsOf (l.take i) ++ numBits l[i].1 l[i].2.toNat := by
  rw [take_snoc (List.getElem?_eq_getElem h), bitsOf_snoc]
def KeptOk (p : Nat × Int) : Prop := 0 ≤ p.2 ∧ p.2 ≤ 64 ∧ p.1 / 2 ^ p.2.toNat = 0

set_option maxRecDepth 10000 in
theorem BitsBack (l : List (Nat × Int)) (σ : AHeap) (hp : PutsOk l) : ACalls Try.prog i_bowlinelaw01_BitsBack [puts .none l] σ fun v σ' => v = boolv true ∧ σ' = σ := by
  refine k_bowlinelaw01_BitsBack rfl ?_
  ((conv => whnf); (repeat ((first | with_reducible refine abr_true rfl ?_ | with_reducible refine abr_false rfl ?_ | with_reducible refine abr_yes rfl ?_ | refine abr_yes (by decide) ?_ | refine abr_no (by decide) ?_ | with_reducible refine abr_same_ne ?_); (conv => whnf))))
  refine acall (wNew _) ?_
  rintro _ σ1 ⟨id, rfl, w1⟩
  refine ⟨?_, w1.ext⟩
  ((conv => whnf); (repeat ((first | with_reducible refine abr_true rfl ?_ | with_reducible refine abr_false rfl ?_ | with_reducible refine abr_yes rfl ?_ | refine abr_yes (by decide) ?_ | refine abr_no (by decide) ?_ | with_reducible refine abr_same_ne ?_); (conv => whnf))))
  refine aloop (α := Nat × List (Nat × Int) × Tok × AHeap × AHeap) (fun x => [(s4, puts x.2.2.1 x.2.1), (s5, i64v x.1)]) (fun x => x.2.2.2.1) (fun x => x.1 ≤ l.length ∧ x.1 ≤ 200 ∧ x.2.1.length ≤ x.1 ∧ (bitsOf x.2.1).length ≤ 65536 ∧ Wr x.2.2.2.1 id (bitsOf x.2.1) x.2.2.2.2 ∧ Owned σ x.2.2.2.2 x.2.2.1 ∧ ∀ p ∈ x.2.1, KeptOk p) (fun x => l.length - x.1) (0, [], .full, σ1, σ) ⟨Nat.zero_le _, by omega, by simp, by simp [bitsOf], w1, .full _, by simp⟩ (Sub.refl _) ?_ ?_
  · ((conv => whnf); (repeat ((first | with_reducible refine abr_true rfl ?_ | with_reducible refine abr_false rfl ?_ | with_reducible refine abr_yes rfl ?_ | refine abr_yes (by decide) ?_ | refine abr_no (by decide) ?_ | with_reducible refine abr_same_ne ?_); (conv => whnf))))
    (repeat' first | with_reducible exact EnvLe.refl _ | (refine EnvLe.node ?_ (by first | exact Or.inl rfl | exact Or.inr (Or.inl rfl) | exact Or.inr (Or.inr ⟨nofun, VLe.slice _ _ _⟩)) ?_))
  · rintro ⟨i, kept, tk, σ2, σa⟩ ⟨hi, hi2, hkl, hb, w2, ho, hk⟩
    dsimp only at hi hi2 hkl hb w2 ho hk ⊢
    by_cases h : i < l.length ∧ i < 200
    · obtain ⟨h1, h2⟩ := h
      have hv := hp _ (List.getElem_mem h1)
      ((conv => whnf); (repeat ((first | with_reducible refine abr_true rfl ?_ | with_reducible refine abr_false rfl ?_ | with_reducible refine abr_yes rfl ?_ | refine abr_yes (by decide) ?_ | refine abr_no (by decide) ?_ | with_reducible refine abr_same_ne ?_); (conv => whnf))))
      (repeat ((first | refine aload (by (repeat (first | with_reducible exact upd_same _ _ _ | assumption | rw [upd_ne _ _ (by first | assumption | (apply Ne.symm; assumption))]))) rfl ?_ | refine afit_i64 (by omega) ?_ | refine arem_nonneg (by omega) (by omega) ?_ | refine adiv_i64 (by omega) (by omega) ?_ | refine abr_yes (by omega) ?_ | refine abr_no (by omega) ?_ | refine amin ?_ | refine amax ?_ | rw [List.length_map]); ((conv => whnf); (repeat ((first | with_reducible refine abr_true rfl ?_ | with_reducible refine abr_false rfl ?_ | with_reducible refine abr_yes rfl ?_ | refine abr_yes (by decide) ?_ | refine abr_no (by decide) ?_ | with_reducible refine abr_same_ne ?_); (conv => whnf))))))
      refine aget (by omega) (get_puts h1) ?_
      ((conv => whnf); (repeat ((first | with_reducible refine abr_true rfl ?_ | with_reducible refine abr_false rfl ?_ | with_reducible refine abr_yes rfl ?_ | refine abr_yes (by decide) ?_ | refine abr_no (by decide) ?_ | with_reducible refine abr_same_ne ?_); (conv => whnf))))
      refine acell rfl ?_
      ((conv => whnf); (repeat ((first | with_reducible refine abr_true rfl ?_ | with_reducible refine abr_false rfl ?_ | with_reducible refine abr_yes rfl ?_ | refine abr_yes (by decide) ?_ | refine abr_no (by decide) ?_ | with_reducible refine abr_same_ne ?_); (conv => whnf))))
      refine aget (by omega) (get_puts h1) ?_
      ((conv => whnf); (repeat ((first | with_reducible refine abr_true rfl ?_ | with_reducible refine abr_false rfl ?_ | with_reducible refine abr_yes rfl ?_ | refine abr_yes (by decide) ?_ | refine abr_no (by decide) ?_ | with_reducible refine abr_same_ne ?_); (conv => whnf))))
      refine acell rfl ?_
      ((conv => whnf); (repeat ((first | with_reducible refine abr_true rfl ?_ | with_reducible refine abr_false rfl ?_ | with_reducible refine abr_yes rfl ?_ | refine abr_yes (by decide) ?_ | refine abr_no (by decide) ?_ | with_reducible refine abr_same_ne ?_); (conv => whnf))))
      refine acall (wPut id (bitsOf kept) l[i].1 l[i].2 _ _ w2 hv hb) ?_
      rintro _ σ3 ⟨rfl, w3⟩
      have hb3 := putBits_le (bitsOf kept) l[i].1 l[i].2 hb
      ((conv => whnf); (repeat ((first | with_reducible refine abr_true rfl ?_ | with_reducible refine abr_false rfl ?_ | with_reducible refine abr_yes rfl ?_ | refine abr_yes (by decide) ?_ | refine abr_no (by decide) ?_ | with_reducible refine abr_same_ne ?_); (conv => whnf))))
      by_cases hc : putCode (bitsOf kept).length l[i].1 l[i].2 = 0
      · have hok := putCode_ok hc
        rw [putBits_ok hc, ← bitsOf_snoc] at w3 hb3
        refine abr_yes hc ?_
        ((conv => whnf); (repeat ((first | with_reducible refine abr_true rfl ?_ | with_reducible refine abr_false rfl ?_ | with_reducible refine abr_yes rfl ?_ | refine abr_yes (by decide) ?_ | refine abr_no (by decide) ?_ | with_reducible refine abr_same_ne ?_); (conv => whnf))))
        refine aget (by omega) (get_puts h1) ?_
        ((conv => whnf); (repeat ((first | with_reducible refine abr_true rfl ?_ | with_reducible refine abr_false rfl ?_ | with_reducible refine abr_yes rfl ?_ | refine abr_yes (by decide) ?_ | refine abr_no (by decide) ?_ | with_reducible refine abr_same_ne ?_); (conv => whnf))))
        refine acells (l := [u64v l[i].1, i64v l[i].2]) (by exact Nat.le_refl 2) rfl ?_
        ((conv => whnf); (repeat ((first | with_reducible refine abr_true rfl ?_ | with_reducible refine abr_false rfl ?_ | with_reducible refine abr_yes rfl ?_ | refine abr_yes (by decide) ?_ | refine abr_no (by decide) ?_ | with_reducible refine abr_same_ne ?_); (conv => whnf))))
        obtain ⟨σb, hob, wbb⟩ := swap_wo w3 ho
        refine aapp_owned hob (by rw [List.length_map]; show (kept.length + 1) * 16 ≤ _; omega) fun t' tk' ho' _ => ?_
        obtain ⟨σc, w4, hoc⟩ := swap_ow ho' wbb
        rw [show List.map putV kept ++ [AVal.agg [u64v l[i].1, i64v l[i].2]] = List.map putV (kept ++ [l[i]]) by simp]
        ((conv => whnf); (repeat ((first | with_reducible refine abr_true rfl ?_ | with_reducible refine abr_false rfl ?_ | with_reducible refine abr_yes rfl ?_ | refine abr_yes (by decide) ?_ | refine abr_no (by decide) ?_ | with_reducible refine abr_same_ne ?_); (conv => whnf))))
        (repeat ((first | refine aload (by (repeat (first | with_reducible exact upd_same _ _ _ | assumption | rw [upd_ne _ _ (by first | assumption | (apply Ne.symm; assumption))]))) rfl ?_ | refine afit_i64 (by omega) ?_ | refine arem_nonneg (by omega) (by omega) ?_ | refine adiv_i64 (by omega) (by omega) ?_ | refine abr_yes (by omega) ?_ | refine abr_no (by omega) ?_ | refine amin ?_ | refine amax ?_ | rw [List.length_map]); ((conv => whnf); (repeat ((first | with_reducible refine abr_true rfl ?_ | with_reducible refine abr_false rfl ?_ | with_reducible refine abr_yes rfl ?_ | refine abr_yes (by decide) ?_ | refine abr_no (by decide) ?_ | with_reducible refine abr_same_ne ?_); (conv => whnf))))))
        refine ⟨(i + 1, kept ++ [l[i]], tk', _, σc), ⟨by dsimp only; omega, by dsimp only; omega, by dsimp only; simp; omega, hb3, w4, hoc, ?_⟩, by dsimp only; omega, Sub.refl _, ?_⟩
        · intro p hp'
          rcases List.mem_append.1 hp' with h | h
          · exact hk p h
          · simp at h; subst h; exact ⟨hok.1, hok.2.1, hok.2.2.1⟩
        · ((conv => whnf); (repeat ((first | with_reducible refine abr_true rfl ?_ | with_reducible refine abr_false rfl ?_ | with_reducible refine abr_yes rfl ?_ | refine abr_yes (by decide) ?_ | refine abr_no (by decide) ?_ | with_reducible refine abr_same_ne ?_); (conv => whnf))))
          (repeat' first | with_reducible exact EnvLe.refl _ | (refine EnvLe.node ?_ (by first | exact Or.inl rfl | exact Or.inr (Or.inl rfl) | exact Or.inr (Or.inr ⟨nofun, VLe.slice _ _ _⟩)) ?_))
      · rw [putBits_no hc] at w3
        refine abr_no hc ?_
        ((conv => whnf); (repeat ((first | with_reducible refine abr_true rfl ?_ | with_reducible refine abr_false rfl ?_ | with_reducible refine abr_yes rfl ?_ | refine abr_yes (by decide) ?_ | refine abr_no (by decide) ?_ | with_reducible refine abr_same_ne ?_); (conv => whnf))))
        (repeat ((first | refine aload (by (repeat (first | with_reducible exact upd_same _ _ _ | assumption | rw [upd_ne _ _ (by first | assumption | (apply Ne.symm; assumption))]))) rfl ?_ | refine afit_i64 (by omega) ?_ | refine arem_nonneg (by omega) (by omega) ?_ | refine adiv_i64 (by omega) (by omega) ?_ | refine abr_yes (by omega) ?_ | refine abr_no (by omega) ?_ | refine amin ?_ | refine amax ?_ | rw [List.length_map]); ((conv => whnf); (repeat ((first | with_reducible refine abr_true rfl ?_ | with_reducible refine abr_false rfl ?_ | with_reducible refine abr_yes rfl ?_ | refine abr_yes (by decide) ?_ | refine abr_no (by decide) ?_ | with_reducible refine abr_same_ne ?_); (conv => whnf))))))
        refine ⟨(i + 1, kept, tk, σ3, σa), ⟨by dsimp only; omega, by dsimp only; omega, by dsimp only; omega, hb, w3, ho, hk⟩, by dsimp only; omega, Sub.refl _, ?_⟩
        ((conv => whnf); (repeat ((first | with_reducible refine abr_true rfl ?_ | with_reducible refine abr_false rfl ?_ | with_reducible refine abr_yes rfl ?_ | refine abr_yes (by decide) ?_ | refine abr_no (by decide) ?_ | with_reducible refine abr_same_ne ?_); (conv => whnf))))
        (repeat' first | with_reducible exact EnvLe.refl _ | (refine EnvLe.node ?_ (by first | exact Or.inl rfl | exact Or.inr (Or.inl rfl) | exact Or.inr (Or.inr ⟨nofun, VLe.slice _ _ _⟩)) ?_))
    · have hpl := pack_length (bitsOf kept)
      have hup := unpack_pack (bitsOf kept)
      have hul := unpack_length (pack (bitsOf kept))
      generalize hB : bitsOf kept = B at *
      by_cases ha : i < l.length
      all_goals
        ((conv => whnf); (repeat ((first | with_reducible refine abr_true rfl ?_ | with_reducible refine abr_false rfl ?_ | with_reducible refine abr_yes rfl ?_ | refine abr_yes (by decide) ?_ | refine abr_no (by decide) ?_ | with_reducible refine abr_same_ne ?_); (conv => whnf))))
        (repeat ((first | refine aload (by (repeat (first | with_reducible exact upd_same _ _ _ | assumption | rw [upd_ne _ _ (by first | assumption | (apply Ne.symm; assumption))]))) rfl ?_ | refine afit_i64 (by omega) ?_ | refine arem_nonneg (by omega) (by omega) ?_ | refine adiv_i64 (by omega) (by omega) ?_ | refine abr_yes (by omega) ?_ | refine abr_no (by omega) ?_ | refine amin ?_ | refine amax ?_ | rw [List.length_map]); ((conv => whnf); (repeat ((first | with_reducible refine abr_true rfl ?_ | with_reducible refine abr_false rfl ?_ | with_reducible refine abr_yes rfl ?_ | refine abr_yes (by decide) ?_ | refine abr_no (by decide) ?_ | with_reducible refine abr_same_ne ?_); (conv => whnf))))))
        refine acall (wBytes id _ _ _ w2 (by omega)) ?_
        rintro _ σ_ ⟨rfl, e_⟩
        obtain rfl := e_.symm
        refine ⟨?_, Ext.refl _⟩
        ((conv => whnf); (repeat ((first | with_reducible refine abr_true rfl ?_ | with_reducible refine abr_false rfl ?_ | with_reducible refine abr_yes rfl ?_ | refine abr_yes (by decide) ?_ | refine abr_no (by decide) ?_ | with_reducible refine abr_same_ne ?_); (conv => whnf))))
        refine acall (rRead (pack B) _ _ (by omega)) ?_
        rintro _ σ3 ⟨rid, rfl, r3⟩
        refine ⟨?_, r3.ext⟩
        rw [List.take_of_length_le (by omega)] at r3
        ((conv => whnf); (repeat ((first | with_reducible refine abr_true rfl ?_ | with_reducible refine abr_false rfl ?_ | with_reducible refine abr_yes rfl ?_ | refine abr_yes (by decide) ?_ | refine abr_no (by decide) ?_ | with_reducible refine abr_same_ne ?_); (conv => whnf))))
        refine aloop (α := Nat × AHeap) (fun x => [(s7, i64v x.1)]) (fun x => x.2) (fun x => x.1 ≤ kept.length ∧ Rd x.2 rid (pack B) (bitsOf (kept.take x.1)).length σ2) (fun x => kept.length - x.1) (0, σ3) ⟨Nat.zero_le _, r3⟩ (Sub.refl _) ?_ ?_
        · ((conv => whnf); (repeat ((first | with_reducible refine abr_true rfl ?_ | with_reducible refine abr_false rfl ?_ | with_reducible refine abr_yes rfl ?_ | refine abr_yes (by decide) ?_ | refine abr_no (by decide) ?_ | with_reducible refine abr_same_ne ?_); (conv => whnf))))
          (repeat' first | with_reducible exact EnvLe.refl _ | (refine EnvLe.node ?_ (by first | exact Or.inl rfl | exact Or.inr (Or.inl rfl) | exact Or.inr (Or.inr ⟨nofun, VLe.slice _ _ _⟩)) ?_))
        · rintro ⟨j, σ4⟩ ⟨hj, r4⟩
          dsimp only at hj r4 ⊢
          by_cases hjl : j < kept.length
          · have hkj := hk _ (List.getElem_mem hjl)
            have hsplit := bitsOf_split kept j hjl
            have hsucc := bitsOf_take_succ kept j hjl
            rw [hB] at hsplit
            have hnl := numBits_length kept[j].1 kept[j].2.toNat
            generalize hK : bitsOf (kept.take j) = K at *
            have hBl : B.length = K.length + (kept[j].2.toNat + (bitsOf (kept.drop (j + 1))).length) := by rw [hsplit, List.length_append, List.length_append, hnl]
            obtain ⟨q1, q2, q3⟩ := hkj
            have hc : getCode (8 * (pack B).length) K.length kept[j].2 = 0 := by unfold getCode; rw [if_neg (by omega), if_neg (by omega)]
            have hval : getVal (unpack (pack B)) K.length kept[j].2 = kept[j].1 := by
              rw [getVal_ok (by rw [hul]; exact hc), hup, hsplit, List.append_assoc, List.drop_left, List.append_assoc, List.take_append_of_le_length (by omega), List.take_of_length_le (by omega), val_numBits]
              refine Nat.mod_eq_of_lt ?_
              have := Nat.div_add_mod kept[j].1 (2 ^ kept[j].2.toNat)
              rw [q3, Nat.mul_zero, Nat.zero_add] at this
              rw [← this]; exact Nat.mod_lt _ (Nat.pow_pos (by omega))
            ((conv => whnf); (repeat ((first | with_reducible refine abr_true rfl ?_ | with_reducible refine abr_false rfl ?_ | with_reducible refine abr_yes rfl ?_ | refine abr_yes (by decide) ?_ | refine abr_no (by decide) ?_ | with_reducible refine abr_same_ne ?_); (conv => whnf))))
            (repeat ((first | refine aload (by (repeat (first | with_reducible exact upd_same _ _ _ | assumption | rw [upd_ne _ _ (by first | assumption | (apply Ne.symm; assumption))]))) rfl ?_ | refine afit_i64 (by omega) ?_ | refine arem_nonneg (by omega) (by omega) ?_ | refine adiv_i64 (by omega) (by omega) ?_ | refine abr_yes (by omega) ?_ | refine abr_no (by omega) ?_ | refine amin ?_ | refine amax ?_ | rw [List.length_map]); ((conv => whnf); (repeat ((first | with_reducible refine abr_true rfl ?_ | with_reducible refine abr_false rfl ?_ | with_reducible refine abr_yes rfl ?_ | refine abr_yes (by decide) ?_ | refine abr_no (by decide) ?_ | with_reducible refine abr_same_ne ?_); (conv => whnf))))))
            refine aget (by omega) (get_puts hjl) ?_
            ((conv => whnf); (repeat ((first | with_reducible refine abr_true rfl ?_ | with_reducible refine abr_false rfl ?_ | with_reducible refine abr_yes rfl ?_ | refine abr_yes (by decide) ?_ | refine abr_no (by decide) ?_ | with_reducible refine abr_same_ne ?_); (conv => whnf))))
            refine acell rfl ?_
            ((conv => whnf); (repeat ((first | with_reducible refine abr_true rfl ?_ | with_reducible refine abr_false rfl ?_ | with_reducible refine abr_yes rfl ?_ | refine abr_yes (by decide) ?_ | refine abr_no (by decide) ?_ | with_reducible refine abr_same_ne ?_); (conv => whnf))))
            refine acall (rGet rid (pack B) K.length kept[j].2 _ _ r4) ?_
            rintro _ σ5 ⟨rfl, r5⟩
            rw [getAt_ok hc] at r5
            rw [hc, hval]
            ((conv => whnf); (repeat ((first | with_reducible refine abr_true rfl ?_ | with_reducible refine abr_false rfl ?_ | with_reducible refine abr_yes rfl ?_ | refine abr_yes (by decide) ?_ | refine abr_no (by decide) ?_ | with_reducible refine abr_same_ne ?_); (conv => whnf))))
            refine aget (by omega) (get_puts hjl) ?_
            ((conv => whnf); (repeat ((first | with_reducible refine abr_true rfl ?_ | with_reducible refine abr_false rfl ?_ | with_reducible refine abr_yes rfl ?_ | refine abr_yes (by decide) ?_ | refine abr_no (by decide) ?_ | with_reducible refine abr_same_ne ?_); (conv => whnf))))
            refine acell rfl ?_
            ((conv => whnf); (repeat ((first | with_reducible refine abr_true rfl ?_ | with_reducible refine abr_false rfl ?_ | with_reducible refine abr_yes rfl ?_ | refine abr_yes (by decide) ?_ | refine abr_no (by decide) ?_ | with_reducible refine abr_same_ne ?_); (conv => whnf))))
            (repeat ((first | refine aload (by (repeat (first | with_reducible exact upd_same _ _ _ | assumption | rw [upd_ne _ _ (by first | assumption | (apply Ne.symm; assumption))]))) rfl ?_ | refine afit_i64 (by omega) ?_ | refine arem_nonneg (by omega) (by omega) ?_ | refine adiv_i64 (by omega) (by omega) ?_ | refine abr_yes (by omega) ?_ | refine abr_no (by omega) ?_ | refine amin ?_ | refine amax ?_ | rw [List.length_map]); ((conv => whnf); (repeat ((first | with_reducible refine abr_true rfl ?_ | with_reducible refine abr_false rfl ?_ | with_reducible refine abr_yes rfl ?_ | refine abr_yes (by decide) ?_ | refine abr_no (by decide) ?_ | with_reducible refine abr_same_ne ?_); (conv => whnf))))))
            refine ⟨(j + 1, σ5), ⟨by dsimp only; omega, ?_⟩, by dsimp only; omega, Sub.refl _, ?_⟩
            · dsimp only
              rw [hsucc, List.length_append, hnl]; exact r5
            · ((conv => whnf); (repeat ((first | with_reducible refine abr_true rfl ?_ | with_reducible refine abr_false rfl ?_ | with_reducible refine abr_yes rfl ?_ | refine abr_yes (by decide) ?_ | refine abr_no (by decide) ?_ | with_reducible refine abr_same_ne ?_); (conv => whnf))))
              (repeat' first | with_reducible exact EnvLe.refl _ | (refine EnvLe.node ?_ (by first | exact Or.inl rfl | exact Or.inr (Or.inl rfl) | exact Or.inr (Or.inr ⟨nofun, VLe.slice _ _ _⟩)) ?_))
          · rw [List.take_of_length_le (by omega), hB] at r4
            have hrest : restOk (unpack (pack B)) B.length = true := by
              refine decide_eq_true ((val_zero _).2 fun x hx => ?_)
              rw [hup, List.drop_left] at hx
              exact (List.mem_replicate.1 (List.mem_of_mem_take hx)).2
            ((conv => whnf); (repeat ((first | with_reducible refine abr_true rfl ?_ | with_reducible refine abr_false rfl ?_ | with_reducible refine abr_yes rfl ?_ | refine abr_yes (by decide) ?_ | refine abr_no (by decide) ?_ | with_reducible refine abr_same_ne ?_); (conv => whnf))))
            (repeat ((first | refine aload (by (repeat (first | with_reducible exact upd_same _ _ _ | assumption | rw [upd_ne _ _ (by first | assumption | (apply Ne.symm; assumption))]))) rfl ?_ | refine afit_i64 (by omega) ?_ | refine arem_nonneg (by omega) (by omega) ?_ | refine adiv_i64 (by omega) (by omega) ?_ | refine abr_yes (by omega) ?_ | refine abr_no (by omega) ?_ | refine amin ?_ | refine amax ?_ | rw [List.length_map]); ((conv => whnf); (repeat ((first | with_reducible refine abr_true rfl ?_ | with_reducible refine abr_false rfl ?_ | with_reducible refine abr_yes rfl ?_ | refine abr_yes (by decide) ?_ | refine abr_no (by decide) ?_ | with_reducible refine abr_same_ne ?_); (conv => whnf))))))
            refine acall (rLeft rid _ _ _ _ r4) ?_
            rintro _ σ_ ⟨rfl, e_⟩
            obtain rfl := e_.symm
            refine ⟨?_, Ext.refl _⟩
            ((conv => whnf); (repeat ((first | with_reducible refine abr_true rfl ?_ | with_reducible refine abr_false rfl ?_ | with_reducible refine abr_yes rfl ?_ | refine abr_yes (by decide) ?_ | refine abr_no (by decide) ?_ | with_reducible refine abr_same_ne ?_); (conv => whnf))))
            refine acall (rRest rid _ _ _ _ r4) ?_
            rintro _ σ5 ⟨rfl, r5⟩
            rw [hrest, if_pos rfl] at r5
            rw [hrest, if_pos rfl, if_pos rfl]
            ((conv => whnf); (repeat ((first | with_reducible refine abr_true rfl ?_ | with_reducible refine abr_false rfl ?_ | with_reducible refine abr_yes rfl ?_ | refine abr_yes (by decide) ?_ | refine abr_no (by decide) ?_ | with_reducible refine abr_same_ne ?_); (conv => whnf))))
            refine acall (alive01 _) ?_
            rintro _ σ_ ⟨rfl, e_⟩
            obtain rfl := e_.symm
            refine ⟨?_, Ext.refl _⟩
            ((conv => whnf); (repeat ((first | with_reducible refine abr_true rfl ?_ | with_reducible refine abr_false rfl ?_ | with_reducible refine abr_yes rfl ?_ | refine abr_yes (by decide) ?_ | refine abr_no (by decide) ?_ | with_reducible refine abr_same_ne ?_); (conv => whnf))))
            refine abr_yes (by omega) ?_
            ((conv => whnf); (repeat ((first | with_reducible refine abr_true rfl ?_ | with_reducible refine abr_false rfl ?_ | with_reducible refine abr_yes rfl ?_ | refine abr_yes (by decide) ?_ | refine abr_no (by decide) ?_ | with_reducible refine abr_same_ne ?_); (conv => whnf))))
            (repeat ((first | refine aload (by (repeat (first | with_reducible exact upd_same _ _ _ | assumption | rw [upd_ne _ _ (by first | assumption | (apply Ne.symm; assumption))]))) rfl ?_ | refine afit_i64 (by omega) ?_ | refine arem_nonneg (by omega) (by omega) ?_ | refine adiv_i64 (by omega) (by omega) ?_ | refine abr_yes (by omega) ?_ | refine abr_no (by omega) ?_ | refine amin ?_ | refine amax ?_ | rw [List.length_map]); ((conv => whnf); (repeat ((first | with_reducible refine abr_true rfl ?_ | with_reducible refine abr_false rfl ?_ | with_reducible refine abr_yes rfl ?_ | refine abr_yes (by decide) ?_ | refine abr_no (by decide) ?_ | with_reducible refine abr_same_ne ?_); (conv => whnf))))))
            rw [List.length_drop]
            refine abr_yes (by omega) ?_
            ((conv => whnf); (repeat ((first | with_reducible refine abr_true rfl ?_ | with_reducible refine abr_false rfl ?_ | with_reducible refine abr_yes rfl ?_ | refine abr_yes (by decide) ?_ | refine abr_no (by decide) ?_ | with_reducible refine abr_same_ne ?_); (conv => whnf))))
            obtain ⟨σ6, w6, _⟩ := swap_rw r5 w2
            refine acall (wLen id _ _ _ w6) ?_
            rintro _ σ_ ⟨rfl, e_⟩
            obtain rfl := e_.symm
            refine ⟨?_, Ext.refl _⟩
            ((conv => whnf); (repeat ((first | with_reducible refine abr_true rfl ?_ | with_reducible refine abr_false rfl ?_ | with_reducible refine abr_yes rfl ?_ | refine abr_yes (by decide) ?_ | refine abr_no (by decide) ?_ | with_reducible refine abr_same_ne ?_); (conv => whnf))))
            (repeat ((first | refine aload (by (repeat (first | with_reducible exact upd_same _ _ _ | assumption | rw [upd_ne _ _ (by first | assumption | (apply Ne.symm; assumption))]))) rfl ?_ | refine afit_i64 (by omega) ?_ | refine arem_nonneg (by omega) (by omega) ?_ | refine adiv_i64 (by omega) (by omega) ?_ | refine abr_yes (by omega) ?_ | refine abr_no (by omega) ?_ | refine amin ?_ | refine amax ?_ | rw [List.length_map]); ((conv => whnf); (repeat ((first | with_reducible refine abr_true rfl ?_ | with_reducible refine abr_false rfl ?_ | with_reducible refine abr_yes rfl ?_ | refine abr_yes (by decide) ?_ | refine abr_no (by decide) ?_ | with_reducible refine abr_same_ne ?_); (conv => whnf))))))
            refine aret (VLe.refl _) ((r5.sub.trans w2.sub).trans ho.sub) ⟨congrArg boolv (decide_eq_true ?_), rfl⟩
            omega
end Go.Proofs.Ytkdbmajkjlnpiaa

