/-
  The parts that a block's bytes are: the document's answer. Are parts the same?
-/
import Derived.Test.YtndphnojmpeogaaCrefmux
import Derived.Test.YtndphnojmpeogaaCmuxd
namespace Go.Proofs.Ytndphnojmpeogaa
set_option linter.unusedVariables false
set_option linter.unusedSimpArgs false
open Go Go.Am

theorem word_drop {d : List UInt8} {k : Nat} (h0 : k < d.length) (h1 : k + 1 < d.length) : word (d.drop k) = 256 * d[k].toNat + d[k + 1].toNat := by
  unfold word
  rw [List.getElem?_drop, List.getElem?_drop, Nat.add_zero, List.getElem?_eq_getElem h0, List.getElem?_eq_getElem h1]; rfl

set_option maxRecDepth 20000 in
theorem refRead30 (b : List UInt8) (t : Tok) (σ : AHeap) (hl : b.length ≤ 140737488355320) : ACalls Try.prog i_bowlineref30_Read [sl t b] σ fun v σ' => v = .tup [parts .none (readM b).1, i64v (readM b).2] ∧ σ' = σ := by
  refine k_bowlineref30_Read rfl ?_
  ((conv => whnf); (repeat ((first | with_reducible refine abr_true rfl ?_ | with_reducible refine abr_false rfl ?_ | with_reducible refine abr_yes rfl ?_ | refine abr_yes (by decide) ?_ | refine abr_no (by decide) ?_ | with_reducible refine abr_same_ne ?_); (conv => whnf))))
  by_cases h1 : b.length > 4096
  · (repeat ((first | refine aload (by (repeat (first | with_reducible exact upd_same _ _ _ | assumption | rw [upd_ne _ _ (by first | assumption | (apply Ne.symm; assumption))]))) rfl ?_ | refine afit_i64 (by omega) ?_ | refine arem_nonneg (by omega) (by omega) ?_ | refine adiv_i64 (by omega) (by omega) ?_ | refine abr_yes (by omega) ?_ | refine abr_no (by omega) ?_ | refine amin ?_ | refine amax ?_ | refine afit_u64 (by omega) ?_ | refine afit_u8 (by omega) ?_ | rw [List.length_map]); ((conv => whnf); (repeat ((first | with_reducible refine abr_true rfl ?_ | with_reducible refine abr_false rfl ?_ | with_reducible refine abr_yes rfl ?_ | refine abr_yes (by decide) ?_ | refine abr_no (by decide) ?_ | with_reducible refine abr_same_ne ?_); (conv => whnf))))))
    exact aret_sl1 (Sub.refl _) ⟨by unfold readM; rw [if_pos h1]; rfl, rfl⟩
  (repeat ((first | refine aload (by (repeat (first | with_reducible exact upd_same _ _ _ | assumption | rw [upd_ne _ _ (by first | assumption | (apply Ne.symm; assumption))]))) rfl ?_ | refine afit_i64 (by omega) ?_ | refine arem_nonneg (by omega) (by omega) ?_ | refine adiv_i64 (by omega) (by omega) ?_ | refine abr_yes (by omega) ?_ | refine abr_no (by omega) ?_ | refine amin ?_ | refine amax ?_ | refine afit_u64 (by omega) ?_ | refine afit_u8 (by omega) ?_ | rw [List.length_map]); ((conv => whnf); (repeat ((first | with_reducible refine abr_true rfl ?_ | with_reducible refine abr_false rfl ?_ | with_reducible refine abr_yes rfl ?_ | refine abr_yes (by decide) ?_ | refine abr_no (by decide) ?_ | with_reducible refine abr_same_ne ?_); (conv => whnf))))))
  refine acall (refOpen b t _ hl) ?_
  rintro _ σ_ ⟨rfl, e_⟩
  obtain rfl := e_.symm
  refine ⟨?_, Ext.refl _⟩
  ((conv => whnf); (repeat ((first | with_reducible refine abr_true rfl ?_ | with_reducible refine abr_false rfl ?_ | with_reducible refine abr_yes rfl ?_ | refine abr_yes (by decide) ?_ | refine abr_no (by decide) ?_ | with_reducible refine abr_same_ne ?_); (conv => whnf))))
  by_cases h2 : (opened b).2 = 0
  · have hol := opened_len b
    have hR : parse 17 [] ((opened b).1.getD []) = readM b := by
      unfold readM; rw [if_neg h1, if_neg (fun h => h h2)]
    generalize (opened b).1.getD [] = d at *
    refine abr_no (fun h => h h2) ?_
    ((conv => whnf); (repeat ((first | with_reducible refine abr_true rfl ?_ | with_reducible refine abr_false rfl ?_ | with_reducible refine abr_yes rfl ?_ | refine abr_yes (by decide) ?_ | refine abr_no (by decide) ?_ | with_reducible refine abr_same_ne ?_); (conv => whnf))))
    refine aloop (α := Nat × List Part × Tok × AHeap) (fun x => [(s6, parts x.2.2.1 x.2.1), (s7, i64v x.1)]) (fun x => x.2.2.2) (fun x => x.1 ≤ d.length ∧ x.2.1.length ≤ 16 ∧ parse (17 - x.2.1.length) x.2.1 (d.drop x.1) = readM b ∧ Owned σ x.2.2.2 x.2.2.1) (fun x => d.length - x.1) (0, [], .full, σ) ⟨Nat.zero_le _, by simp, hR, .full _⟩ (Sub.refl _) ?_ ?_
    · ((conv => whnf); (repeat ((first | with_reducible refine abr_true rfl ?_ | with_reducible refine abr_false rfl ?_ | with_reducible refine abr_yes rfl ?_ | refine abr_yes (by decide) ?_ | refine abr_no (by decide) ?_ | with_reducible refine abr_same_ne ?_); (conv => whnf))))
      (repeat' first | with_reducible exact EnvLe.refl _ | (refine EnvLe.node ?_ (by first | exact Or.inl rfl | exact Or.inr (Or.inl rfl) | exact Or.inr (Or.inr ⟨nofun, VLe.slice _ _ _⟩)) ?_))
    rintro ⟨k, out, tk, σa⟩ ⟨hk, ho16, hp, ho⟩
    dsimp only at hk ho16 hp ho ⊢
    obtain ⟨n, hn⟩ : ∃ n, 17 - out.length = n + 1 := ⟨16 - out.length, by omega⟩
    rw [hn] at hp
    unfold parse at hp
    rw [List.length_drop] at hp
    by_cases h0 : k < d.length
    · rw [if_neg (by omega)] at hp
      ((conv => whnf); (repeat ((first | with_reducible refine abr_true rfl ?_ | with_reducible refine abr_false rfl ?_ | with_reducible refine abr_yes rfl ?_ | refine abr_yes (by decide) ?_ | refine abr_no (by decide) ?_ | with_reducible refine abr_same_ne ?_); (conv => whnf))))
      (repeat ((first | refine aload (by (repeat (first | with_reducible exact upd_same _ _ _ | assumption | rw [upd_ne _ _ (by first | assumption | (apply Ne.symm; assumption))]))) rfl ?_ | refine afit_i64 (by omega) ?_ | refine arem_nonneg (by omega) (by omega) ?_ | refine adiv_i64 (by omega) (by omega) ?_ | refine abr_yes (by omega) ?_ | refine abr_no (by omega) ?_ | refine amin ?_ | refine amax ?_ | refine afit_u64 (by omega) ?_ | refine afit_u8 (by omega) ?_ | rw [List.length_map]); ((conv => whnf); (repeat ((first | with_reducible refine abr_true rfl ?_ | with_reducible refine abr_false rfl ?_ | with_reducible refine abr_yes rfl ?_ | refine abr_yes (by decide) ?_ | refine abr_no (by decide) ?_ | with_reducible refine abr_same_ne ?_); (conv => whnf))))))
      by_cases h3 : n = 0
      · rw [if_pos h3] at hp
        (repeat ((first | refine aload (by (repeat (first | with_reducible exact upd_same _ _ _ | assumption | rw [upd_ne _ _ (by first | assumption | (apply Ne.symm; assumption))]))) rfl ?_ | refine afit_i64 (by omega) ?_ | refine arem_nonneg (by omega) (by omega) ?_ | refine adiv_i64 (by omega) (by omega) ?_ | refine abr_yes (by omega) ?_ | refine abr_no (by omega) ?_ | refine amin ?_ | refine amax ?_ | refine afit_u64 (by omega) ?_ | refine afit_u8 (by omega) ?_ | rw [List.length_map]); ((conv => whnf); (repeat ((first | with_reducible refine abr_true rfl ?_ | with_reducible refine abr_false rfl ?_ | with_reducible refine abr_yes rfl ?_ | refine abr_yes (by decide) ?_ | refine abr_no (by decide) ?_ | with_reducible refine abr_same_ne ?_); (conv => whnf))))))
        exact aret_sl1 ho.sub ⟨by rw [← hp]; rfl, rfl⟩
      rw [if_neg h3] at hp
      (repeat ((first | refine aload (by (repeat (first | with_reducible exact upd_same _ _ _ | assumption | rw [upd_ne _ _ (by first | assumption | (apply Ne.symm; assumption))]))) rfl ?_ | refine afit_i64 (by omega) ?_ | refine arem_nonneg (by omega) (by omega) ?_ | refine adiv_i64 (by omega) (by omega) ?_ | refine abr_yes (by omega) ?_ | refine abr_no (by omega) ?_ | refine amin ?_ | refine amax ?_ | refine afit_u64 (by omega) ?_ | refine afit_u8 (by omega) ?_ | rw [List.length_map]); ((conv => whnf); (repeat ((first | with_reducible refine abr_true rfl ?_ | with_reducible refine abr_false rfl ?_ | with_reducible refine abr_yes rfl ?_ | refine abr_yes (by decide) ?_ | refine abr_no (by decide) ?_ | with_reducible refine abr_same_ne ?_); (conv => whnf))))))
      by_cases h4 : d.length - k < 2
      · rw [if_pos h4] at hp
        (repeat ((first | refine aload (by (repeat (first | with_reducible exact upd_same _ _ _ | assumption | rw [upd_ne _ _ (by first | assumption | (apply Ne.symm; assumption))]))) rfl ?_ | refine afit_i64 (by omega) ?_ | refine arem_nonneg (by omega) (by omega) ?_ | refine adiv_i64 (by omega) (by omega) ?_ | refine abr_yes (by omega) ?_ | refine abr_no (by omega) ?_ | refine amin ?_ | refine amax ?_ | refine afit_u64 (by omega) ?_ | refine afit_u8 (by omega) ?_ | rw [List.length_map]); ((conv => whnf); (repeat ((first | with_reducible refine abr_true rfl ?_ | with_reducible refine abr_false rfl ?_ | with_reducible refine abr_yes rfl ?_ | refine abr_yes (by decide) ?_ | refine abr_no (by decide) ?_ | with_reducible refine abr_same_ne ?_); (conv => whnf))))))
        exact aret_sl1 ho.sub ⟨by rw [← hp]; rfl, rfl⟩
      rw [if_neg h4] at hp
      (repeat ((first | refine aload (by (repeat (first | with_reducible exact upd_same _ _ _ | assumption | rw [upd_ne _ _ (by first | assumption | (apply Ne.symm; assumption))]))) rfl ?_ | refine afit_i64 (by omega) ?_ | refine arem_nonneg (by omega) (by omega) ?_ | refine adiv_i64 (by omega) (by omega) ?_ | refine abr_yes (by omega) ?_ | refine abr_no (by omega) ?_ | refine amin ?_ | refine amax ?_ | refine afit_u64 (by omega) ?_ | refine afit_u8 (by omega) ?_ | rw [List.length_map]); ((conv => whnf); (repeat ((first | with_reducible refine abr_true rfl ?_ | with_reducible refine abr_false rfl ?_ | with_reducible refine abr_yes rfl ?_ | refine abr_yes (by decide) ?_ | refine abr_no (by decide) ?_ | with_reducible refine abr_same_ne ?_); (conv => whnf))))))
      refine aget (by omega) (get_bytes h0) ?_
      ((conv => whnf); (repeat ((first | with_reducible refine abr_true rfl ?_ | with_reducible refine abr_false rfl ?_ | with_reducible refine abr_yes rfl ?_ | refine abr_yes (by decide) ?_ | refine abr_no (by decide) ?_ | with_reducible refine abr_same_ne ?_); (conv => whnf))))
      refine acell rfl ?_
      ((conv => whnf); (repeat ((first | with_reducible refine abr_true rfl ?_ | with_reducible refine abr_false rfl ?_ | with_reducible refine abr_yes rfl ?_ | refine abr_yes (by decide) ?_ | refine abr_no (by decide) ?_ | with_reducible refine abr_same_ne ?_); (conv => whnf))))
      have a1 := (d[k]).toNat_lt
      have hk1 : k + 1 < d.length := by omega
      have a2 := (d[k + 1]).toNat_lt
      (repeat ((first | refine aload (by (repeat (first | with_reducible exact upd_same _ _ _ | assumption | rw [upd_ne _ _ (by first | assumption | (apply Ne.symm; assumption))]))) rfl ?_ | refine afit_i64 (by omega) ?_ | refine arem_nonneg (by omega) (by omega) ?_ | refine adiv_i64 (by omega) (by omega) ?_ | refine abr_yes (by omega) ?_ | refine abr_no (by omega) ?_ | refine amin ?_ | refine amax ?_ | refine afit_u64 (by omega) ?_ | refine afit_u8 (by omega) ?_ | rw [List.length_map]); ((conv => whnf); (repeat ((first | with_reducible refine abr_true rfl ?_ | with_reducible refine abr_false rfl ?_ | with_reducible refine abr_yes rfl ?_ | refine abr_yes (by decide) ?_ | refine abr_no (by decide) ?_ | with_reducible refine abr_same_ne ?_); (conv => whnf))))))
      rw [show (k : Int) + 1 = ((k + 1 : Nat) : Int) by omega]
      refine aget (by omega) (get_bytes hk1) ?_
      ((conv => whnf); (repeat ((first | with_reducible refine abr_true rfl ?_ | with_reducible refine abr_false rfl ?_ | with_reducible refine abr_yes rfl ?_ | refine abr_yes (by decide) ?_ | refine abr_no (by decide) ?_ | with_reducible refine abr_same_ne ?_); (conv => whnf))))
      refine acell rfl ?_
      ((conv => whnf); (repeat ((first | with_reducible refine abr_true rfl ?_ | with_reducible refine abr_false rfl ?_ | with_reducible refine abr_yes rfl ?_ | refine abr_yes (by decide) ?_ | refine abr_no (by decide) ?_ | with_reducible refine abr_same_ne ?_); (conv => whnf))))
      (repeat ((first | refine aload (by (repeat (first | with_reducible exact upd_same _ _ _ | assumption | rw [upd_ne _ _ (by first | assumption | (apply Ne.symm; assumption))]))) rfl ?_ | refine afit_i64 (by omega) ?_ | refine arem_nonneg (by omega) (by omega) ?_ | refine adiv_i64 (by omega) (by omega) ?_ | refine abr_yes (by omega) ?_ | refine abr_no (by omega) ?_ | refine amin ?_ | refine amax ?_ | refine afit_u64 (by omega) ?_ | refine afit_u8 (by omega) ?_ | rw [List.length_map]); ((conv => whnf); (repeat ((first | with_reducible refine abr_true rfl ?_ | with_reducible refine abr_false rfl ?_ | with_reducible refine abr_yes rfl ?_ | refine abr_yes (by decide) ?_ | refine abr_no (by decide) ?_ | with_reducible refine abr_same_ne ?_); (conv => whnf))))))
      rw [word_drop h0 hk1] at hp
      rw [show (256 : Int) * ((d[k].toNat : Nat) : Int) + ((d[k + 1].toNat : Nat) : Int) = ((256 * d[k].toNat + d[k + 1].toNat : Nat) : Int) by omega]
      have hwd : 256 * d[k].toNat + d[k + 1].toNat < 65536 := by omega
      generalize 256 * d[k].toNat + d[k + 1].toNat = w at *
      (repeat ((first | refine aload (by (repeat (first | with_reducible exact upd_same _ _ _ | assumption | rw [upd_ne _ _ (by first | assumption | (apply Ne.symm; assumption))]))) rfl ?_ | refine afit_i64 (by omega) ?_ | refine arem_nonneg (by omega) (by omega) ?_ | refine adiv_i64 (by omega) (by omega) ?_ | refine abr_yes (by omega) ?_ | refine abr_no (by omega) ?_ | refine amin ?_ | refine amax ?_ | refine afit_u64 (by omega) ?_ | refine afit_u8 (by omega) ?_ | rw [List.length_map]); ((conv => whnf); (repeat ((first | with_reducible refine abr_true rfl ?_ | with_reducible refine abr_false rfl ?_ | with_reducible refine abr_yes rfl ?_ | refine abr_yes (by decide) ?_ | refine abr_no (by decide) ?_ | with_reducible refine abr_same_ne ?_); (conv => whnf))))))
      by_cases h5 : w / 2048 = 0
      · rw [if_pos (.inl h5)] at hp
        (repeat ((first | refine aload (by (repeat (first | with_reducible exact upd_same _ _ _ | assumption | rw [upd_ne _ _ (by first | assumption | (apply Ne.symm; assumption))]))) rfl ?_ | refine afit_i64 (by omega) ?_ | refine arem_nonneg (by omega) (by omega) ?_ | refine adiv_i64 (by omega) (by omega) ?_ | refine abr_yes (by omega) ?_ | refine abr_no (by omega) ?_ | refine amin ?_ | refine amax ?_ | refine afit_u64 (by omega) ?_ | refine afit_u8 (by omega) ?_ | rw [List.length_map]); ((conv => whnf); (repeat ((first | with_reducible refine abr_true rfl ?_ | with_reducible refine abr_false rfl ?_ | with_reducible refine abr_yes rfl ?_ | refine abr_yes (by decide) ?_ | refine abr_no (by decide) ?_ | with_reducible refine abr_same_ne ?_); (conv => whnf))))))
        exact aret_sl1 ho.sub ⟨by rw [← hp]; rfl, rfl⟩
      (repeat ((first | refine aload (by (repeat (first | with_reducible exact upd_same _ _ _ | assumption | rw [upd_ne _ _ (by first | assumption | (apply Ne.symm; assumption))]))) rfl ?_ | refine afit_i64 (by omega) ?_ | refine arem_nonneg (by omega) (by omega) ?_ | refine adiv_i64 (by omega) (by omega) ?_ | refine abr_yes (by omega) ?_ | refine abr_no (by omega) ?_ | refine amin ?_ | refine amax ?_ | refine afit_u64 (by omega) ?_ | refine afit_u8 (by omega) ?_ | rw [List.length_map]); ((conv => whnf); (repeat ((first | with_reducible refine abr_true rfl ?_ | with_reducible refine abr_false rfl ?_ | with_reducible refine abr_yes rfl ?_ | refine abr_yes (by decide) ?_ | refine abr_no (by decide) ?_ | with_reducible refine abr_same_ne ?_); (conv => whnf))))))
      by_cases h6 : w % 2048 = 0
      · rw [if_pos (.inr h6)] at hp
        (repeat ((first | refine aload (by (repeat (first | with_reducible exact upd_same _ _ _ | assumption | rw [upd_ne _ _ (by first | assumption | (apply Ne.symm; assumption))]))) rfl ?_ | refine afit_i64 (by omega) ?_ | refine arem_nonneg (by omega) (by omega) ?_ | refine adiv_i64 (by omega) (by omega) ?_ | refine abr_yes (by omega) ?_ | refine abr_no (by omega) ?_ | refine amin ?_ | refine amax ?_ | refine afit_u64 (by omega) ?_ | refine afit_u8 (by omega) ?_ | rw [List.length_map]); ((conv => whnf); (repeat ((first | with_reducible refine abr_true rfl ?_ | with_reducible refine abr_false rfl ?_ | with_reducible refine abr_yes rfl ?_ | refine abr_yes (by decide) ?_ | refine abr_no (by decide) ?_ | with_reducible refine abr_same_ne ?_); (conv => whnf))))))
        exact aret_sl1 ho.sub ⟨by rw [← hp]; rfl, rfl⟩
      rw [if_neg (by omega)] at hp
      (repeat ((first | refine aload (by (repeat (first | with_reducible exact upd_same _ _ _ | assumption | rw [upd_ne _ _ (by first | assumption | (apply Ne.symm; assumption))]))) rfl ?_ | refine afit_i64 (by omega) ?_ | refine arem_nonneg (by omega) (by omega) ?_ | refine adiv_i64 (by omega) (by omega) ?_ | refine abr_yes (by omega) ?_ | refine abr_no (by omega) ?_ | refine amin ?_ | refine amax ?_ | refine afit_u64 (by omega) ?_ | refine afit_u8 (by omega) ?_ | rw [List.length_map]); ((conv => whnf); (repeat ((first | with_reducible refine abr_true rfl ?_ | with_reducible refine abr_false rfl ?_ | with_reducible refine abr_yes rfl ?_ | refine abr_yes (by decide) ?_ | refine abr_no (by decide) ?_ | with_reducible refine abr_same_ne ?_); (conv => whnf))))))
      by_cases h7 : d.length - k < 2 + w % 2048
      · rw [if_pos h7] at hp
        (repeat ((first | refine aload (by (repeat (first | with_reducible exact upd_same _ _ _ | assumption | rw [upd_ne _ _ (by first | assumption | (apply Ne.symm; assumption))]))) rfl ?_ | refine afit_i64 (by omega) ?_ | refine arem_nonneg (by omega) (by omega) ?_ | refine adiv_i64 (by omega) (by omega) ?_ | refine abr_yes (by omega) ?_ | refine abr_no (by omega) ?_ | refine amin ?_ | refine amax ?_ | refine afit_u64 (by omega) ?_ | refine afit_u8 (by omega) ?_ | rw [List.length_map]); ((conv => whnf); (repeat ((first | with_reducible refine abr_true rfl ?_ | with_reducible refine abr_false rfl ?_ | with_reducible refine abr_yes rfl ?_ | refine abr_yes (by decide) ?_ | refine abr_no (by decide) ?_ | with_reducible refine abr_same_ne ?_); (conv => whnf))))))
        exact aret_sl1 ho.sub ⟨by rw [← hp]; rfl, rfl⟩
      rw [if_neg h7] at hp
      (repeat ((first | refine aload (by (repeat (first | with_reducible exact upd_same _ _ _ | assumption | rw [upd_ne _ _ (by first | assumption | (apply Ne.symm; assumption))]))) rfl ?_ | refine afit_i64 (by omega) ?_ | refine arem_nonneg (by omega) (by omega) ?_ | refine adiv_i64 (by omega) (by omega) ?_ | refine abr_yes (by omega) ?_ | refine abr_no (by omega) ?_ | refine amin ?_ | refine amax ?_ | refine afit_u64 (by omega) ?_ | refine afit_u8 (by omega) ?_ | rw [List.length_map]); ((conv => whnf); (repeat ((first | with_reducible refine abr_true rfl ?_ | with_reducible refine abr_false rfl ?_ | with_reducible refine abr_yes rfl ?_ | refine abr_yes (by decide) ?_ | refine abr_no (by decide) ?_ | with_reducible refine abr_same_ne ?_); (conv => whnf))))))
      refine acut (by omega) (by omega) (by omega) ?_
      ((conv => whnf); (repeat ((first | with_reducible refine abr_true rfl ?_ | with_reducible refine abr_false rfl ?_ | with_reducible refine abr_yes rfl ?_ | refine abr_yes (by decide) ?_ | refine abr_no (by decide) ?_ | with_reducible refine abr_same_ne ?_); (conv => whnf))))
      have e1 : ((k : Int) + 2).toNat = k + 2 := by omega
      have e2 : ((k : Int) + 2 + (w : Int) % 2048).toNat = k + 2 + w % 2048 := by omega
      rw [e1, e2, ← List.map_take, ← List.map_drop, show (List.take (k + 2 + w % 2048) d).drop (k + 2) = ((d.drop k).drop 2).take (w % 2048) by rw [List.drop_take, List.drop_drop]; congr 1; omega]
      refine aapp_sub (ys := [partV (((w / 2048 : Nat) : Int), ((d.drop k).drop 2).take (w % 2048))]) ho (Sub.refl _) (by rw [List.length_map]; show (out.length + 1) * 32 ≤ _; omega) fun tk2 σ5 σ6 ho2 hs2 => ?_
      rw [show List.map partV out ++ [partV (((w / 2048 : Nat) : Int), ((d.drop k).drop 2).take (w % 2048))] = List.map partV (out ++ [(((w / 2048 : Nat) : Int), ((d.drop k).drop 2).take (w % 2048))]) by simp]
      ((conv => whnf); (repeat ((first | with_reducible refine abr_true rfl ?_ | with_reducible refine abr_false rfl ?_ | with_reducible refine abr_yes rfl ?_ | refine abr_yes (by decide) ?_ | refine abr_no (by decide) ?_ | with_reducible refine abr_same_ne ?_); (conv => whnf))))
      (repeat ((first | refine aload (by (repeat (first | with_reducible exact upd_same _ _ _ | assumption | rw [upd_ne _ _ (by first | assumption | (apply Ne.symm; assumption))]))) rfl ?_ | refine afit_i64 (by omega) ?_ | refine arem_nonneg (by omega) (by omega) ?_ | refine adiv_i64 (by omega) (by omega) ?_ | refine abr_yes (by omega) ?_ | refine abr_no (by omega) ?_ | refine amin ?_ | refine amax ?_ | refine afit_u64 (by omega) ?_ | refine afit_u8 (by omega) ?_ | rw [List.length_map]); ((conv => whnf); (repeat ((first | with_reducible refine abr_true rfl ?_ | with_reducible refine abr_false rfl ?_ | with_reducible refine abr_yes rfl ?_ | refine abr_yes (by decide) ?_ | refine abr_no (by decide) ?_ | with_reducible refine abr_same_ne ?_); (conv => whnf))))))
      refine ⟨(k + 2 + w % 2048, out ++ [(((w / 2048 : Nat) : Int), ((d.drop k).drop 2).take (w % 2048))], tk2, σ6), ⟨?_, ?_, ?_, ho2⟩, ?_, hs2, ?_⟩
      · dsimp only; omega
      · dsimp only; rw [List.length_append]; show _ + 1 ≤ 16; omega
      · dsimp only
        rw [List.length_append]; show parse (17 - (out.length + 1)) _ _ = _
        rw [show 17 - (out.length + 1) = n by omega]
        rw [show d.drop (k + 2 + w % 2048) = (d.drop k).drop (2 + w % 2048) by rw [List.drop_drop]; congr 1; omega]
        exact hp
      · dsimp only; omega
      · rw [show (k : Int) + 2 + (w : Int) % 2048 = ((k + 2 + w % 2048 : Nat) : Int) by omega]
        ((conv => whnf); (repeat ((first | with_reducible refine abr_true rfl ?_ | with_reducible refine abr_false rfl ?_ | with_reducible refine abr_yes rfl ?_ | refine abr_yes (by decide) ?_ | refine abr_no (by decide) ?_ | with_reducible refine abr_same_ne ?_); (conv => whnf))))
        (repeat' first | with_reducible exact EnvLe.refl _ | (refine EnvLe.node ?_ (by first | exact Or.inl rfl | exact Or.inr (Or.inl rfl) | exact Or.inr (Or.inr ⟨nofun, VLe.slice _ _ _⟩)) ?_))
    · rw [if_pos (by omega)] at hp
      ((conv => whnf); (repeat ((first | with_reducible refine abr_true rfl ?_ | with_reducible refine abr_false rfl ?_ | with_reducible refine abr_yes rfl ?_ | refine abr_yes (by decide) ?_ | refine abr_no (by decide) ?_ | with_reducible refine abr_same_ne ?_); (conv => whnf))))
      (repeat ((first | refine aload (by (repeat (first | with_reducible exact upd_same _ _ _ | assumption | rw [upd_ne _ _ (by first | assumption | (apply Ne.symm; assumption))]))) rfl ?_ | refine afit_i64 (by omega) ?_ | refine arem_nonneg (by omega) (by omega) ?_ | refine adiv_i64 (by omega) (by omega) ?_ | refine abr_yes (by omega) ?_ | refine abr_no (by omega) ?_ | refine amin ?_ | refine amax ?_ | refine afit_u64 (by omega) ?_ | refine afit_u8 (by omega) ?_ | rw [List.length_map]); ((conv => whnf); (repeat ((first | with_reducible refine abr_true rfl ?_ | with_reducible refine abr_false rfl ?_ | with_reducible refine abr_yes rfl ?_ | refine abr_yes (by decide) ?_ | refine abr_no (by decide) ?_ | with_reducible refine abr_same_ne ?_); (conv => whnf))))))
      rw [h2]
      exact aret_sl1 ho.sub ⟨by rw [← hp], rfl⟩
  · refine abr_yes h2 ?_
    ((conv => whnf); (repeat ((first | with_reducible refine abr_true rfl ?_ | with_reducible refine abr_false rfl ?_ | with_reducible refine abr_yes rfl ?_ | refine abr_yes (by decide) ?_ | refine abr_no (by decide) ?_ | with_reducible refine abr_same_ne ?_); (conv => whnf))))
    exact aret_sl1 (Sub.refl _) ⟨by unfold readM; rw [if_neg h1, if_pos h2]; rfl, rfl⟩

theorem refSame30 (a b : List Part) (t u : Tok) (σ : AHeap) (hl : a.length ≤ 140737488355320) : ACalls Try.prog i_bowlineref30_Same [parts t a, parts u b] σ fun v σ' => v = boolv (decide (a = b)) ∧ σ' = σ := by
  refine k_bowlineref30_Same rfl ?_
  ((conv => whnf); (repeat ((first | with_reducible refine abr_true rfl ?_ | with_reducible refine abr_false rfl ?_ | with_reducible refine abr_yes rfl ?_ | refine abr_yes (by decide) ?_ | refine abr_no (by decide) ?_ | with_reducible refine abr_same_ne ?_); (conv => whnf))))
  rw [List.length_map, List.length_map]
  by_cases h : a.length = b.length
  · (repeat ((first | refine aload (by (repeat (first | with_reducible exact upd_same _ _ _ | assumption | rw [upd_ne _ _ (by first | assumption | (apply Ne.symm; assumption))]))) rfl ?_ | refine afit_i64 (by omega) ?_ | refine arem_nonneg (by omega) (by omega) ?_ | refine adiv_i64 (by omega) (by omega) ?_ | refine abr_yes (by omega) ?_ | refine abr_no (by omega) ?_ | refine amin ?_ | refine amax ?_ | refine afit_u64 (by omega) ?_ | refine afit_u8 (by omega) ?_ | rw [List.length_map]); ((conv => whnf); (repeat ((first | with_reducible refine abr_true rfl ?_ | with_reducible refine abr_false rfl ?_ | with_reducible refine abr_yes rfl ?_ | refine abr_yes (by decide) ?_ | refine abr_no (by decide) ?_ | with_reducible refine abr_same_ne ?_); (conv => whnf))))))
    refine aloop (α := Nat) (fun i => [(s5, i64v i)]) (fun _ => σ) (fun i => i ≤ a.length ∧ a.take i = b.take i) (fun i => a.length - i) 0 ⟨Nat.zero_le _, rfl⟩ (Sub.refl _) ?_ ?_
    · ((conv => whnf); (repeat ((first | with_reducible refine abr_true rfl ?_ | with_reducible refine abr_false rfl ?_ | with_reducible refine abr_yes rfl ?_ | refine abr_yes (by decide) ?_ | refine abr_no (by decide) ?_ | with_reducible refine abr_same_ne ?_); (conv => whnf))))
      (repeat' first | with_reducible exact EnvLe.refl _ | (refine EnvLe.node ?_ (by first | exact Or.inl rfl | exact Or.inr (Or.inl rfl) | exact Or.inr (Or.inr ⟨nofun, VLe.slice _ _ _⟩)) ?_))
    rintro i ⟨hi, he⟩
    by_cases h1 : i < a.length
    · have h2 : i < b.length := by omega
      ((conv => whnf); (repeat ((first | with_reducible refine abr_true rfl ?_ | with_reducible refine abr_false rfl ?_ | with_reducible refine abr_yes rfl ?_ | refine abr_yes (by decide) ?_ | refine abr_no (by decide) ?_ | with_reducible refine abr_same_ne ?_); (conv => whnf))))
      (repeat ((first | refine aload (by (repeat (first | with_reducible exact upd_same _ _ _ | assumption | rw [upd_ne _ _ (by first | assumption | (apply Ne.symm; assumption))]))) rfl ?_ | refine afit_i64 (by omega) ?_ | refine arem_nonneg (by omega) (by omega) ?_ | refine adiv_i64 (by omega) (by omega) ?_ | refine abr_yes (by omega) ?_ | refine abr_no (by omega) ?_ | refine amin ?_ | refine amax ?_ | refine afit_u64 (by omega) ?_ | refine afit_u8 (by omega) ?_ | rw [List.length_map]); ((conv => whnf); (repeat ((first | with_reducible refine abr_true rfl ?_ | with_reducible refine abr_false rfl ?_ | with_reducible refine abr_yes rfl ?_ | refine abr_yes (by decide) ?_ | refine abr_no (by decide) ?_ | with_reducible refine abr_same_ne ?_); (conv => whnf))))))
      refine aget (by omega) (get_parts h1) ?_
      ((conv => whnf); (repeat ((first | with_reducible refine abr_true rfl ?_ | with_reducible refine abr_false rfl ?_ | with_reducible refine abr_yes rfl ?_ | refine abr_yes (by decide) ?_ | refine abr_no (by decide) ?_ | with_reducible refine abr_same_ne ?_); (conv => whnf))))
      refine acell rfl ?_
      ((conv => whnf); (repeat ((first | with_reducible refine abr_true rfl ?_ | with_reducible refine abr_false rfl ?_ | with_reducible refine abr_yes rfl ?_ | refine abr_yes (by decide) ?_ | refine abr_no (by decide) ?_ | with_reducible refine abr_same_ne ?_); (conv => whnf))))
      refine aget (by omega) (get_parts h2) ?_
      ((conv => whnf); (repeat ((first | with_reducible refine abr_true rfl ?_ | with_reducible refine abr_false rfl ?_ | with_reducible refine abr_yes rfl ?_ | refine abr_yes (by decide) ?_ | refine abr_no (by decide) ?_ | with_reducible refine abr_same_ne ?_); (conv => whnf))))
      refine acell rfl ?_
      ((conv => whnf); (repeat ((first | with_reducible refine abr_true rfl ?_ | with_reducible refine abr_false rfl ?_ | with_reducible refine abr_yes rfl ?_ | refine abr_yes (by decide) ?_ | refine abr_no (by decide) ?_ | with_reducible refine abr_same_ne ?_); (conv => whnf))))
      by_cases h3 : a[i].1 = b[i].1
      · refine abr_no (fun h => h h3) ?_
        ((conv => whnf); (repeat ((first | with_reducible refine abr_true rfl ?_ | with_reducible refine abr_false rfl ?_ | with_reducible refine abr_yes rfl ?_ | refine abr_yes (by decide) ?_ | refine abr_no (by decide) ?_ | with_reducible refine abr_same_ne ?_); (conv => whnf))))
        refine aget (by omega) (get_parts h1) ?_
        ((conv => whnf); (repeat ((first | with_reducible refine abr_true rfl ?_ | with_reducible refine abr_false rfl ?_ | with_reducible refine abr_yes rfl ?_ | refine abr_yes (by decide) ?_ | refine abr_no (by decide) ?_ | with_reducible refine abr_same_ne ?_); (conv => whnf))))
        refine acell rfl ?_
        ((conv => whnf); (repeat ((first | with_reducible refine abr_true rfl ?_ | with_reducible refine abr_false rfl ?_ | with_reducible refine abr_yes rfl ?_ | refine abr_yes (by decide) ?_ | refine abr_no (by decide) ?_ | with_reducible refine abr_same_ne ?_); (conv => whnf))))
        refine astr rfl ?_
        ((conv => whnf); (repeat ((first | with_reducible refine abr_true rfl ?_ | with_reducible refine abr_false rfl ?_ | with_reducible refine abr_yes rfl ?_ | refine abr_yes (by decide) ?_ | refine abr_no (by decide) ?_ | with_reducible refine abr_same_ne ?_); (conv => whnf))))
        refine aget (by omega) (get_parts h2) ?_
        ((conv => whnf); (repeat ((first | with_reducible refine abr_true rfl ?_ | with_reducible refine abr_false rfl ?_ | with_reducible refine abr_yes rfl ?_ | refine abr_yes (by decide) ?_ | refine abr_no (by decide) ?_ | with_reducible refine abr_same_ne ?_); (conv => whnf))))
        refine acell rfl ?_
        ((conv => whnf); (repeat ((first | with_reducible refine abr_true rfl ?_ | with_reducible refine abr_false rfl ?_ | with_reducible refine abr_yes rfl ?_ | refine abr_yes (by decide) ?_ | refine abr_no (by decide) ?_ | with_reducible refine abr_same_ne ?_); (conv => whnf))))
        refine astr rfl ?_
        ((conv => whnf); (repeat ((first | with_reducible refine abr_true rfl ?_ | with_reducible refine abr_false rfl ?_ | with_reducible refine abr_yes rfl ?_ | refine abr_yes (by decide) ?_ | refine abr_no (by decide) ?_ | with_reducible refine abr_same_ne ?_); (conv => whnf))))
        by_cases h4 : a[i].2 = b[i].2
        · refine abr_no (fun h => h (by rw [h4])) ?_
          ((conv => whnf); (repeat ((first | with_reducible refine abr_true rfl ?_ | with_reducible refine abr_false rfl ?_ | with_reducible refine abr_yes rfl ?_ | refine abr_yes (by decide) ?_ | refine abr_no (by decide) ?_ | with_reducible refine abr_same_ne ?_); (conv => whnf))))
          (repeat ((first | refine aload (by (repeat (first | with_reducible exact upd_same _ _ _ | assumption | rw [upd_ne _ _ (by first | assumption | (apply Ne.symm; assumption))]))) rfl ?_ | refine afit_i64 (by omega) ?_ | refine arem_nonneg (by omega) (by omega) ?_ | refine adiv_i64 (by omega) (by omega) ?_ | refine abr_yes (by omega) ?_ | refine abr_no (by omega) ?_ | refine amin ?_ | refine amax ?_ | refine afit_u64 (by omega) ?_ | refine afit_u8 (by omega) ?_ | rw [List.length_map]); ((conv => whnf); (repeat ((first | with_reducible refine abr_true rfl ?_ | with_reducible refine abr_false rfl ?_ | with_reducible refine abr_yes rfl ?_ | refine abr_yes (by decide) ?_ | refine abr_no (by decide) ?_ | with_reducible refine abr_same_ne ?_); (conv => whnf))))))
          refine ⟨i + 1, ⟨h1, ?_⟩, by omega, Sub.refl _, ?_⟩
          · rw [List.take_add_one, List.take_add_one, he, List.getElem?_eq_getElem h1, List.getElem?_eq_getElem h2, show a[i] = b[i] from Prod.ext h3 h4]
          · ((conv => whnf); (repeat ((first | with_reducible refine abr_true rfl ?_ | with_reducible refine abr_false rfl ?_ | with_reducible refine abr_yes rfl ?_ | refine abr_yes (by decide) ?_ | refine abr_no (by decide) ?_ | with_reducible refine abr_same_ne ?_); (conv => whnf))))
            (repeat' first | with_reducible exact EnvLe.refl _ | (refine EnvLe.node ?_ (by first | exact Or.inl rfl | exact Or.inr (Or.inl rfl) | exact Or.inr (Or.inr ⟨nofun, VLe.slice _ _ _⟩)) ?_))
        · refine abr_yes (fun h => h4 ?_) ?_
          · simpa using h
          · ((conv => whnf); (repeat ((first | with_reducible refine abr_true rfl ?_ | with_reducible refine abr_false rfl ?_ | with_reducible refine abr_yes rfl ?_ | refine abr_yes (by decide) ?_ | refine abr_no (by decide) ?_ | with_reducible refine abr_same_ne ?_); (conv => whnf))))
            refine aret_same ⟨congrArg boolv (decide_eq_false fun e => h4 (by subst e; rfl)).symm, rfl⟩
      · refine abr_yes h3 ?_
        ((conv => whnf); (repeat ((first | with_reducible refine abr_true rfl ?_ | with_reducible refine abr_false rfl ?_ | with_reducible refine abr_yes rfl ?_ | refine abr_yes (by decide) ?_ | refine abr_no (by decide) ?_ | with_reducible refine abr_same_ne ?_); (conv => whnf))))
        refine aret_same ⟨congrArg boolv (decide_eq_false fun e => h3 (by subst e; rfl)).symm, rfl⟩
    · rw [List.take_of_length_le (by omega), List.take_of_length_le (by omega)] at he
      ((conv => whnf); (repeat ((first | with_reducible refine abr_true rfl ?_ | with_reducible refine abr_false rfl ?_ | with_reducible refine abr_yes rfl ?_ | refine abr_yes (by decide) ?_ | refine abr_no (by decide) ?_ | with_reducible refine abr_same_ne ?_); (conv => whnf))))
      (repeat ((first | refine aload (by (repeat (first | with_reducible exact upd_same _ _ _ | assumption | rw [upd_ne _ _ (by first | assumption | (apply Ne.symm; assumption))]))) rfl ?_ | refine afit_i64 (by omega) ?_ | refine arem_nonneg (by omega) (by omega) ?_ | refine adiv_i64 (by omega) (by omega) ?_ | refine abr_yes (by omega) ?_ | refine abr_no (by omega) ?_ | refine amin ?_ | refine amax ?_ | refine afit_u64 (by omega) ?_ | refine afit_u8 (by omega) ?_ | rw [List.length_map]); ((conv => whnf); (repeat ((first | with_reducible refine abr_true rfl ?_ | with_reducible refine abr_false rfl ?_ | with_reducible refine abr_yes rfl ?_ | refine abr_yes (by decide) ?_ | refine abr_no (by decide) ?_ | with_reducible refine abr_same_ne ?_); (conv => whnf))))))
      exact aret_same ⟨congrArg boolv (decide_eq_true he).symm, rfl⟩
  · refine abr_yes (by omega) ?_
    ((conv => whnf); (repeat ((first | with_reducible refine abr_true rfl ?_ | with_reducible refine abr_false rfl ?_ | with_reducible refine abr_yes rfl ?_ | refine abr_yes (by decide) ?_ | refine abr_no (by decide) ?_ | with_reducible refine abr_same_ne ?_); (conv => whnf))))
    exact aret_same ⟨congrArg boolv (decide_eq_false fun e => h (by rw [e])).symm, rfl⟩
end Go.Proofs.Ytndphnojmpeogaa

