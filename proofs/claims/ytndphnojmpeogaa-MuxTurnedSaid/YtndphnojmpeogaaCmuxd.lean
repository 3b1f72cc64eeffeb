/-
  The parts that a block's bytes are.
-/
import Derived.Test.YtndphnojmpeogaaCmuxc
namespace Go.Proofs.Ytndphnojmpeogaa
set_option linter.unusedVariables false
set_option linter.unusedSimpArgs false
open Go Go.Am

def word (r : List UInt8) : Nat := 256 * (r[0]?.getD 0).toNat + (r[1]?.getD 0).toNat
def parse : Nat → List Part → List UInt8 → List Part × Int
  | 0, _, _ => ([], 2)
  | n + 1, out, r =>
    if r.length = 0 then (out, 0) else if n = 0 then ([], 2) else if r.length < 2 then ([], 8)
    else if word r / 2048 = 0 ∨ word r % 2048 = 0 then ([], 3) else if r.length < 2 + word r % 2048 then ([], 8)
    else parse n (out ++ [(((word r / 2048 : Nat) : Int), (r.drop 2).take (word r % 2048))]) (r.drop (2 + word r % 2048))
def readM (b : List UInt8) : List Part × Int := if b.length > 4096 then ([], 2) else if (opened b).2 ≠ 0 then ([], (opened b).2) else parse 17 [] ((opened b).1.getD [])
theorem opened_len (b : List UInt8) : ((opened b).1.getD []).length ≤ b.length := by
  unfold opened
  split
  · exact Nat.zero_le _
  · split
    · show (b.take _).length ≤ _
      rw [List.length_take]; omega
    · exact Nat.zero_le _
theorem word_take (r : List UInt8) : word (r.take 2) = word r := by
  match r with
  | [] => rfl
  | [_] => rfl
  | _ :: _ :: _ => rfl
theorem unpack_two (a b : UInt8) : val 0 (unpack [a, b]) = 256 * a.toNat + b.toNat := by
  show val 0 (byteBits a ++ (byteBits b ++ [])) = _
  rw [List.append_nil, val_append, val_eq]
  unfold byteBits
  rw [val_numBits, val_numBits, numBits_length]
  have := a.toNat_lt
  have := b.toNat_lt
  omega
theorem val_split (l : List Bool) (k : Nat) : val 0 l = val 0 (l.take k) * 2 ^ (l.length - k) + val 0 (l.drop k) := by
  have e : l = l.take k ++ l.drop k := (List.take_append_drop k l).symm
  conv => lhs; rw [e, val_append, val_eq, List.length_drop]
theorem word_bits {r : List UInt8} (h : 2 ≤ r.length) : val 0 ((unpack (r.take 2)).take 5) = word r / 2048 ∧ val 0 ((unpack (r.take 2)).drop 5) = word r % 2048 := by
  rw [← word_take r]
  match r, h with
  | a :: b :: r, _ =>
    show val 0 ((unpack [a, b]).take 5) = word [a, b] / 2048 ∧ val 0 ((unpack [a, b]).drop 5) = word [a, b] % 2048
    have h1 := unpack_two a b
    have h2 := val_split (unpack [a, b]) 5
    have hl := unpack_length [a, b]
    have h3 := val_lt ((unpack [a, b]).drop 5)
    rw [List.length_drop, hl] at h3
    rw [hl, h1] at h2
    have hw : word [a, b] = 256 * a.toNat + b.toNat := rfl
    rw [hw]
    generalize val 0 ((unpack [a, b]).take 5) = x at *
    generalize val 0 ((unpack [a, b]).drop 5) = y at *
    simp at h2 h3
    omega

set_option maxRecDepth 20000 in
theorem mRead (b : List UInt8) (t : Tok) (σ : AHeap) (hl : b.length ≤ 140737488355320) : ACalls Try.prog i_mux_Read [sl t b] σ fun v σ' => v = .tup [parts .none (readM b).1, i64v (readM b).2] ∧ σ' = σ := by
  refine k_mux_Read rfl ?_
  ((conv => whnf); (repeat ((first | with_reducible refine abr_true rfl ?_ | with_reducible refine abr_false rfl ?_ | with_reducible refine abr_yes rfl ?_ | refine abr_yes (by decide) ?_ | refine abr_no (by decide) ?_ | with_reducible refine abr_same_ne ?_); (conv => whnf))))
  refine ascope' (α := List Part × List UInt8 × Tok × AHeap) (fun x => [(s4, sl .none x.2.1), (s6, parts x.2.2.1 x.1)]) (fun x => x.2.2.2) (fun _ => 0) (fun x => x.1.length ≤ 16 ∧ x.2.1.length ≤ 4096 ∧ parse (17 - x.1.length) x.1 x.2.1 = readM b ∧ Owned σ x.2.2.2 x.2.2.1) (fun x => x.2.1.length) ?_ ?_
  · ((conv => whnf); (repeat ((first | with_reducible refine abr_true rfl ?_ | with_reducible refine abr_false rfl ?_ | with_reducible refine abr_yes rfl ?_ | refine abr_yes (by decide) ?_ | refine abr_no (by decide) ?_ | with_reducible refine abr_same_ne ?_); (conv => whnf))))
    intro hlab
    ((conv => whnf); (repeat ((first | with_reducible refine abr_true rfl ?_ | with_reducible refine abr_false rfl ?_ | with_reducible refine abr_yes rfl ?_ | refine abr_yes (by decide) ?_ | refine abr_no (by decide) ?_ | with_reducible refine abr_same_ne ?_); (conv => whnf))))
    by_cases h1 : b.length > 4096
    · (repeat ((first | refine aload (by (repeat (first | with_reducible exact upd_same _ _ _ | assumption | rw [upd_ne _ _ (by first | assumption | (apply Ne.symm; assumption))]))) rfl ?_ | refine afit_i64 (by omega) ?_ | refine arem_nonneg (by omega) (by omega) ?_ | refine adiv_i64 (by omega) (by omega) ?_ | refine abr_yes (by omega) ?_ | refine abr_no (by omega) ?_ | refine amin ?_ | refine amax ?_ | refine afit_u64 (by omega) ?_ | refine afit_u8 (by omega) ?_ | rw [List.length_map]); ((conv => whnf); (repeat ((first | with_reducible refine abr_true rfl ?_ | with_reducible refine abr_false rfl ?_ | with_reducible refine abr_yes rfl ?_ | refine abr_yes (by decide) ?_ | refine abr_no (by decide) ?_ | with_reducible refine abr_same_ne ?_); (conv => whnf))))))
      exact aret_sl1 (Sub.refl _) ⟨by unfold readM; rw [if_pos h1]; rfl, rfl⟩
    · (repeat ((first | refine aload (by (repeat (first | with_reducible exact upd_same _ _ _ | assumption | rw [upd_ne _ _ (by first | assumption | (apply Ne.symm; assumption))]))) rfl ?_ | refine afit_i64 (by omega) ?_ | refine arem_nonneg (by omega) (by omega) ?_ | refine adiv_i64 (by omega) (by omega) ?_ | refine abr_yes (by omega) ?_ | refine abr_no (by omega) ?_ | refine amin ?_ | refine amax ?_ | refine afit_u64 (by omega) ?_ | refine afit_u8 (by omega) ?_ | rw [List.length_map]); ((conv => whnf); (repeat ((first | with_reducible refine abr_true rfl ?_ | with_reducible refine abr_false rfl ?_ | with_reducible refine abr_yes rfl ?_ | refine abr_yes (by decide) ?_ | refine abr_no (by decide) ?_ | with_reducible refine abr_same_ne ?_); (conv => whnf))))))
      refine acall (Open b t _ hl) ?_
      rintro _ σ_ ⟨rfl, e_⟩
      obtain rfl := e_.symm
      refine ⟨?_, Ext.refl _⟩
      ((conv => whnf); (repeat ((first | with_reducible refine abr_true rfl ?_ | with_reducible refine abr_false rfl ?_ | with_reducible refine abr_yes rfl ?_ | refine abr_yes (by decide) ?_ | refine abr_no (by decide) ?_ | with_reducible refine abr_same_ne ?_); (conv => whnf))))
      by_cases h2 : (opened b).2 = 0
      · refine abr_no (fun h => h h2) ?_
        ((conv => whnf); (repeat ((first | with_reducible refine abr_true rfl ?_ | with_reducible refine abr_false rfl ?_ | with_reducible refine abr_yes rfl ?_ | refine abr_yes (by decide) ?_ | refine abr_no (by decide) ?_ | with_reducible refine abr_same_ne ?_); (conv => whnf))))
        refine hlab _ (fun _ _ _ h => h) _ _ _ _ ⟨([], (opened b).1.getD [], .full, σ), rfl, ⟨by simp, ?_, ?_, .full _⟩, rfl, Sub.refl _, ?_⟩
        · have := opened_len b
          dsimp only; omega
        · show parse 17 [] _ = _
          unfold readM; rw [if_neg h1, if_neg (fun h => h h2)]
        · ((conv => whnf); (repeat ((first | with_reducible refine abr_true rfl ?_ | with_reducible refine abr_false rfl ?_ | with_reducible refine abr_yes rfl ?_ | refine abr_yes (by decide) ?_ | refine abr_no (by decide) ?_ | with_reducible refine abr_same_ne ?_); (conv => whnf))))
          (repeat' first | with_reducible exact EnvLe.refl _ | (refine EnvLe.node ?_ (by first | exact Or.inl rfl | exact Or.inr (Or.inl rfl) | exact Or.inr (Or.inr ⟨nofun, VLe.slice _ _ _⟩)) ?_))
      · refine abr_yes h2 ?_
        ((conv => whnf); (repeat ((first | with_reducible refine abr_true rfl ?_ | with_reducible refine abr_false rfl ?_ | with_reducible refine abr_yes rfl ?_ | refine abr_yes (by decide) ?_ | refine abr_no (by decide) ?_ | with_reducible refine abr_same_ne ?_); (conv => whnf))))
        exact aret_sl1 (Sub.refl _) ⟨by unfold readM; rw [if_neg h1, if_pos h2]; rfl, rfl⟩
  · rintro ⟨out, r, tk, σa⟩ ⟨ho16, hr, hp, ho⟩
    dsimp only at ho16 hr hp ho ⊢
    refine ⟨_, rfl, ?_⟩
    ((conv => whnf); (repeat ((first | with_reducible refine abr_true rfl ?_ | with_reducible refine abr_false rfl ?_ | with_reducible refine abr_yes rfl ?_ | refine abr_yes (by decide) ?_ | refine abr_no (by decide) ?_ | with_reducible refine abr_same_ne ?_); (conv => whnf))))
    intro hlab
    ((conv => whnf); (repeat ((first | with_reducible refine abr_true rfl ?_ | with_reducible refine abr_false rfl ?_ | with_reducible refine abr_yes rfl ?_ | refine abr_yes (by decide) ?_ | refine abr_no (by decide) ?_ | with_reducible refine abr_same_ne ?_); (conv => whnf))))
    obtain ⟨n, hn⟩ : ∃ n, 17 - out.length = n + 1 := ⟨16 - out.length, by omega⟩
    rw [hn] at hp
    unfold parse at hp
    rw [List.length_map]
    by_cases h0 : r.length = 0
    · rw [if_pos h0] at hp
      (repeat ((first | refine aload (by (repeat (first | with_reducible exact upd_same _ _ _ | assumption | rw [upd_ne _ _ (by first | assumption | (apply Ne.symm; assumption))]))) rfl ?_ | refine afit_i64 (by omega) ?_ | refine arem_nonneg (by omega) (by omega) ?_ | refine adiv_i64 (by omega) (by omega) ?_ | refine abr_yes (by omega) ?_ | refine abr_no (by omega) ?_ | refine amin ?_ | refine amax ?_ | refine afit_u64 (by omega) ?_ | refine afit_u8 (by omega) ?_ | rw [List.length_map]); ((conv => whnf); (repeat ((first | with_reducible refine abr_true rfl ?_ | with_reducible refine abr_false rfl ?_ | with_reducible refine abr_yes rfl ?_ | refine abr_yes (by decide) ?_ | refine abr_no (by decide) ?_ | with_reducible refine abr_same_ne ?_); (conv => whnf))))))
      exact aret_sl1 ho.sub ⟨by rw [← hp], rfl⟩
    rw [if_neg h0] at hp
    (repeat ((first | refine aload (by (repeat (first | with_reducible exact upd_same _ _ _ | assumption | rw [upd_ne _ _ (by first | assumption | (apply Ne.symm; assumption))]))) rfl ?_ | refine afit_i64 (by omega) ?_ | refine arem_nonneg (by omega) (by omega) ?_ | refine adiv_i64 (by omega) (by omega) ?_ | refine abr_yes (by omega) ?_ | refine abr_no (by omega) ?_ | refine amin ?_ | refine amax ?_ | refine afit_u64 (by omega) ?_ | refine afit_u8 (by omega) ?_ | rw [List.length_map]); ((conv => whnf); (repeat ((first | with_reducible refine abr_true rfl ?_ | with_reducible refine abr_false rfl ?_ | with_reducible refine abr_yes rfl ?_ | refine abr_yes (by decide) ?_ | refine abr_no (by decide) ?_ | with_reducible refine abr_same_ne ?_); (conv => whnf))))))
    by_cases h1 : n = 0
    · rw [if_pos h1] at hp
      (repeat ((first | refine aload (by (repeat (first | with_reducible exact upd_same _ _ _ | assumption | rw [upd_ne _ _ (by first | assumption | (apply Ne.symm; assumption))]))) rfl ?_ | refine afit_i64 (by omega) ?_ | refine arem_nonneg (by omega) (by omega) ?_ | refine adiv_i64 (by omega) (by omega) ?_ | refine abr_yes (by omega) ?_ | refine abr_no (by omega) ?_ | refine amin ?_ | refine amax ?_ | refine afit_u64 (by omega) ?_ | refine afit_u8 (by omega) ?_ | rw [List.length_map]); ((conv => whnf); (repeat ((first | with_reducible refine abr_true rfl ?_ | with_reducible refine abr_false rfl ?_ | with_reducible refine abr_yes rfl ?_ | refine abr_yes (by decide) ?_ | refine abr_no (by decide) ?_ | with_reducible refine abr_same_ne ?_); (conv => whnf))))))
      exact aret_sl1 ho.sub ⟨by rw [← hp]; rfl, rfl⟩
    rw [if_neg h1] at hp
    (repeat ((first | refine aload (by (repeat (first | with_reducible exact upd_same _ _ _ | assumption | rw [upd_ne _ _ (by first | assumption | (apply Ne.symm; assumption))]))) rfl ?_ | refine afit_i64 (by omega) ?_ | refine arem_nonneg (by omega) (by omega) ?_ | refine adiv_i64 (by omega) (by omega) ?_ | refine abr_yes (by omega) ?_ | refine abr_no (by omega) ?_ | refine amin ?_ | refine amax ?_ | refine afit_u64 (by omega) ?_ | refine afit_u8 (by omega) ?_ | rw [List.length_map]); ((conv => whnf); (repeat ((first | with_reducible refine abr_true rfl ?_ | with_reducible refine abr_false rfl ?_ | with_reducible refine abr_yes rfl ?_ | refine abr_yes (by decide) ?_ | refine abr_no (by decide) ?_ | with_reducible refine abr_same_ne ?_); (conv => whnf))))))
    by_cases h2 : r.length < 2
    · rw [if_pos h2] at hp
      (repeat ((first | refine aload (by (repeat (first | with_reducible exact upd_same _ _ _ | assumption | rw [upd_ne _ _ (by first | assumption | (apply Ne.symm; assumption))]))) rfl ?_ | refine afit_i64 (by omega) ?_ | refine arem_nonneg (by omega) (by omega) ?_ | refine adiv_i64 (by omega) (by omega) ?_ | refine abr_yes (by omega) ?_ | refine abr_no (by omega) ?_ | refine amin ?_ | refine amax ?_ | refine afit_u64 (by omega) ?_ | refine afit_u8 (by omega) ?_ | rw [List.length_map]); ((conv => whnf); (repeat ((first | with_reducible refine abr_true rfl ?_ | with_reducible refine abr_false rfl ?_ | with_reducible refine abr_yes rfl ?_ | refine abr_yes (by decide) ?_ | refine abr_no (by decide) ?_ | with_reducible refine abr_same_ne ?_); (conv => whnf))))))
      exact aret_sl1 ho.sub ⟨by rw [← hp]; rfl, rfl⟩
    rw [if_neg h2] at hp
    (repeat ((first | refine aload (by (repeat (first | with_reducible exact upd_same _ _ _ | assumption | rw [upd_ne _ _ (by first | assumption | (apply Ne.symm; assumption))]))) rfl ?_ | refine afit_i64 (by omega) ?_ | refine arem_nonneg (by omega) (by omega) ?_ | refine adiv_i64 (by omega) (by omega) ?_ | refine abr_yes (by omega) ?_ | refine abr_no (by omega) ?_ | refine amin ?_ | refine amax ?_ | refine afit_u64 (by omega) ?_ | refine afit_u8 (by omega) ?_ | rw [List.length_map]); ((conv => whnf); (repeat ((first | with_reducible refine abr_true rfl ?_ | with_reducible refine abr_false rfl ?_ | with_reducible refine abr_yes rfl ?_ | refine abr_yes (by decide) ?_ | refine abr_no (by decide) ?_ | with_reducible refine abr_same_ne ?_); (conv => whnf))))))
    refine acut (by omega) (by omega) (by omega) ?_
    ((conv => whnf); (repeat ((first | with_reducible refine abr_true rfl ?_ | with_reducible refine abr_false rfl ?_ | with_reducible refine abr_yes rfl ?_ | refine abr_yes (by decide) ?_ | refine abr_no (by decide) ?_ | with_reducible refine abr_same_ne ?_); (conv => whnf))))
    rw [show (2 : Int).toNat = 2 from rfl, show (0 : Int).toNat = 0 from rfl, List.drop_zero, ← List.map_take]
    have ht2 : (r.take 2).length = 2 := by rw [List.length_take]; omega
    refine acall (rRead (r.take 2) _ _ (by omega)) ?_
    rintro _ σ1 ⟨id, rfl, r1⟩
    refine ⟨?_, r1.ext⟩
    rw [List.take_of_length_le (l := r.take 2) (by omega)] at r1
    ((conv => whnf); (repeat ((first | with_reducible refine abr_true rfl ?_ | with_reducible refine abr_false rfl ?_ | with_reducible refine abr_yes rfl ?_ | refine abr_yes (by decide) ?_ | refine abr_no (by decide) ?_ | with_reducible refine abr_same_ne ?_); (conv => whnf))))
    have hul := unpack_length (r.take 2)
    rw [ht2] at hul
    have c1 : getCode (8 * (r.take 2).length) 0 5 = 0 := by rw [ht2]; rfl
    have c2 : getCode (8 * (r.take 2).length) 5 11 = 0 := by rw [ht2]; rfl
    obtain ⟨w1, w2⟩ := word_bits (r := r) (by omega)
    refine acall (rGet id (r.take 2) 0 5 _ _ r1) ?_
    rintro _ σ2 ⟨rfl, r2⟩
    rw [show getAt (8 * (r.take 2).length) 0 5 = 5 by unfold getAt; rw [c1]; rfl] at r2
    rw [c1, show getVal (unpack (r.take 2)) 0 5 = word r / 2048 by unfold getVal; rw [hul, show getCode (8 * 2) 0 5 = 0 from rfl, if_pos rfl, List.drop_zero]; exact w1]
    ((conv => whnf); (repeat ((first | with_reducible refine abr_true rfl ?_ | with_reducible refine abr_false rfl ?_ | with_reducible refine abr_yes rfl ?_ | refine abr_yes (by decide) ?_ | refine abr_no (by decide) ?_ | with_reducible refine abr_same_ne ?_); (conv => whnf))))
    refine acall (rGet id (r.take 2) 5 11 _ _ r2) ?_
    rintro _ σ3 ⟨rfl, r3⟩
    rw [c2, show getVal (unpack (r.take 2)) 5 11 = word r % 2048 by unfold getVal; rw [hul, show getCode (8 * 2) 5 11 = 0 from rfl, if_pos rfl, List.take_of_length_le (by rw [List.length_drop, hul]; decide)]; exact w2]
    ((conv => whnf); (repeat ((first | with_reducible refine abr_true rfl ?_ | with_reducible refine abr_false rfl ?_ | with_reducible refine abr_yes rfl ?_ | refine abr_yes (by decide) ?_ | refine abr_no (by decide) ?_ | with_reducible refine abr_same_ne ?_); (conv => whnf))))
    have hwd : word r < 65536 := by
      unfold word
      have := (r[0]?.getD 0).toNat_lt
      have := (r[1]?.getD 0).toNat_lt
      omega
    generalize hW : word r = w at *
    by_cases h3 : w / 2048 = 0
    · rw [if_pos (.inl h3)] at hp
      refine abr_yes (by omega) ?_
      ((conv => whnf); (repeat ((first | with_reducible refine abr_true rfl ?_ | with_reducible refine abr_false rfl ?_ | with_reducible refine abr_yes rfl ?_ | refine abr_yes (by decide) ?_ | refine abr_no (by decide) ?_ | with_reducible refine abr_same_ne ?_); (conv => whnf))))
      exact aret_sl1 (r3.sub.trans ho.sub) ⟨by rw [← hp]; rfl, rfl⟩
    refine abr_no (by omega) ?_
    ((conv => whnf); (repeat ((first | with_reducible refine abr_true rfl ?_ | with_reducible refine abr_false rfl ?_ | with_reducible refine abr_yes rfl ?_ | refine abr_yes (by decide) ?_ | refine abr_no (by decide) ?_ | with_reducible refine abr_same_ne ?_); (conv => whnf))))
    by_cases h4 : w % 2048 = 0
    · rw [if_pos (.inr h4)] at hp
      refine abr_yes (by omega) ?_
      ((conv => whnf); (repeat ((first | with_reducible refine abr_true rfl ?_ | with_reducible refine abr_false rfl ?_ | with_reducible refine abr_yes rfl ?_ | refine abr_yes (by decide) ?_ | refine abr_no (by decide) ?_ | with_reducible refine abr_same_ne ?_); (conv => whnf))))
      exact aret_sl1 (r3.sub.trans ho.sub) ⟨by rw [← hp]; rfl, rfl⟩
    refine abr_no (by omega) ?_
    ((conv => whnf); (repeat ((first | with_reducible refine abr_true rfl ?_ | with_reducible refine abr_false rfl ?_ | with_reducible refine abr_yes rfl ?_ | refine abr_yes (by decide) ?_ | refine abr_no (by decide) ?_ | with_reducible refine abr_same_ne ?_); (conv => whnf))))
    rw [if_neg (by omega)] at hp
    (repeat ((first | refine aload (by (repeat (first | with_reducible exact upd_same _ _ _ | assumption | rw [upd_ne _ _ (by first | assumption | (apply Ne.symm; assumption))]))) rfl ?_ | refine afit_i64 (by omega) ?_ | refine arem_nonneg (by omega) (by omega) ?_ | refine adiv_i64 (by omega) (by omega) ?_ | refine abr_yes (by omega) ?_ | refine abr_no (by omega) ?_ | refine amin ?_ | refine amax ?_ | refine afit_u64 (by omega) ?_ | refine afit_u8 (by omega) ?_ | rw [List.length_map]); ((conv => whnf); (repeat ((first | with_reducible refine abr_true rfl ?_ | with_reducible refine abr_false rfl ?_ | with_reducible refine abr_yes rfl ?_ | refine abr_yes (by decide) ?_ | refine abr_no (by decide) ?_ | with_reducible refine abr_same_ne ?_); (conv => whnf))))))
    by_cases h5 : r.length < 2 + w % 2048
    · rw [if_pos h5] at hp
      (repeat ((first | refine aload (by (repeat (first | with_reducible exact upd_same _ _ _ | assumption | rw [upd_ne _ _ (by first | assumption | (apply Ne.symm; assumption))]))) rfl ?_ | refine afit_i64 (by omega) ?_ | refine arem_nonneg (by omega) (by omega) ?_ | refine adiv_i64 (by omega) (by omega) ?_ | refine abr_yes (by omega) ?_ | refine abr_no (by omega) ?_ | refine amin ?_ | refine amax ?_ | refine afit_u64 (by omega) ?_ | refine afit_u8 (by omega) ?_ | rw [List.length_map]); ((conv => whnf); (repeat ((first | with_reducible refine abr_true rfl ?_ | with_reducible refine abr_false rfl ?_ | with_reducible refine abr_yes rfl ?_ | refine abr_yes (by decide) ?_ | refine abr_no (by decide) ?_ | with_reducible refine abr_same_ne ?_); (conv => whnf))))))
      exact aret_sl1 (r3.sub.trans ho.sub) ⟨by rw [← hp]; rfl, rfl⟩
    rw [if_neg h5] at hp
    (repeat ((first | refine aload (by (repeat (first | with_reducible exact upd_same _ _ _ | assumption | rw [upd_ne _ _ (by first | assumption | (apply Ne.symm; assumption))]))) rfl ?_ | refine afit_i64 (by omega) ?_ | refine arem_nonneg (by omega) (by omega) ?_ | refine adiv_i64 (by omega) (by omega) ?_ | refine abr_yes (by omega) ?_ | refine abr_no (by omega) ?_ | refine amin ?_ | refine amax ?_ | refine afit_u64 (by omega) ?_ | refine afit_u8 (by omega) ?_ | rw [List.length_map]); ((conv => whnf); (repeat ((first | with_reducible refine abr_true rfl ?_ | with_reducible refine abr_false rfl ?_ | with_reducible refine abr_yes rfl ?_ | refine abr_yes (by decide) ?_ | refine abr_no (by decide) ?_ | with_reducible refine abr_same_ne ?_); (conv => whnf))))))
    refine acut (by omega) (by omega) (by omega) ?_
    ((conv => whnf); (repeat ((first | with_reducible refine abr_true rfl ?_ | with_reducible refine abr_false rfl ?_ | with_reducible refine abr_yes rfl ?_ | refine abr_yes (by decide) ?_ | refine abr_no (by decide) ?_ | with_reducible refine abr_same_ne ?_); (conv => whnf))))
    refine ⟨rfl, rfl, ?_⟩
    rw [show (2 : Int).toNat = 2 from rfl, show ((2 : Int) + ((w % 2048 : Nat) : Int)).toNat = 2 + w % 2048 by omega, ← List.map_take, ← List.map_drop, show (List.take (2 + w % 2048) r).drop 2 = (r.drop 2).take (w % 2048) by rw [List.drop_take]; congr 1; omega]
    ((conv => whnf); (repeat ((first | with_reducible refine abr_true rfl ?_ | with_reducible refine abr_false rfl ?_ | with_reducible refine abr_yes rfl ?_ | refine abr_yes (by decide) ?_ | refine abr_no (by decide) ?_ | with_reducible refine abr_same_ne ?_); (conv => whnf))))
    have hdl : ((r.drop 2).take (w % 2048)).length = w % 2048 := by rw [List.length_take, List.length_drop]; omega
    refine acall_less (Clone ((r.drop 2).take (w % 2048)) _ _ (by omega)) ?_
    rintro _ σ4 ⟨tk3, ho3, rfl⟩
    refine ⟨sl .none ((r.drop 2).take (w % 2048)), σ3, VLe.slice _ _ _, ho3.sub, ?_, Ext.refl _⟩
    ((conv => whnf); (repeat ((first | with_reducible refine abr_true rfl ?_ | with_reducible refine abr_false rfl ?_ | with_reducible refine abr_yes rfl ?_ | refine abr_yes (by decide) ?_ | refine abr_no (by decide) ?_ | with_reducible refine abr_same_ne ?_); (conv => whnf))))
    refine aapp_sub (ys := [partV (((w / 2048 : Nat) : Int), (r.drop 2).take (w % 2048))]) ho r3.sub (by rw [List.length_map]; show (out.length + 1) * 32 ≤ _; omega) fun tk2 σ5 σ6 ho2 hs2 => ?_
    rw [show List.map partV out ++ [partV (((w / 2048 : Nat) : Int), (r.drop 2).take (w % 2048))] = List.map partV (out ++ [(((w / 2048 : Nat) : Int), (r.drop 2).take (w % 2048))]) by simp]
    ((conv => whnf); (repeat ((first | with_reducible refine abr_true rfl ?_ | with_reducible refine abr_false rfl ?_ | with_reducible refine abr_yes rfl ?_ | refine abr_yes (by decide) ?_ | refine abr_no (by decide) ?_ | with_reducible refine abr_same_ne ?_); (conv => whnf))))
    rw [List.length_map]
    refine acut (by omega) (by omega) (by omega) ?_
    ((conv => whnf); (repeat ((first | with_reducible refine abr_true rfl ?_ | with_reducible refine abr_false rfl ?_ | with_reducible refine abr_yes rfl ?_ | refine abr_yes (by decide) ?_ | refine abr_no (by decide) ?_ | with_reducible refine abr_same_ne ?_); (conv => whnf))))
    refine ⟨(out ++ [(((w / 2048 : Nat) : Int), (r.drop 2).take (w % 2048))], r.drop (2 + w % 2048), tk2, σ6), rfl, ⟨?_, ?_, ?_, ho2⟩, ?_, hs2, ?_⟩
    · dsimp only; rw [List.length_append]; show _ + 1 ≤ 16; omega
    · dsimp only; rw [List.length_drop]; omega
    · dsimp only; rw [List.length_append]; show parse (17 - (out.length + 1)) _ _ = _; rw [show 17 - (out.length + 1) = n by omega]; exact hp
    · dsimp only; rw [List.length_drop]; omega
    · rw [show ((2 : Int) + ((w % 2048 : Nat) : Int)).toNat = 2 + w % 2048 by omega, show ((r.length : Nat) : Int).toNat = r.length by omega, List.take_of_length_le (l := r.map byteV) (by rw [List.length_map]; exact Nat.le_refl _), ← List.map_drop]
      ((conv => whnf); (repeat ((first | with_reducible refine abr_true rfl ?_ | with_reducible refine abr_false rfl ?_ | with_reducible refine abr_yes rfl ?_ | refine abr_yes (by decide) ?_ | refine abr_no (by decide) ?_ | with_reducible refine abr_same_ne ?_); (conv => whnf))))
      (repeat' first | with_reducible exact EnvLe.refl _ | (refine EnvLe.node ?_ (by first | exact Or.inl rfl | exact Or.inr (Or.inl rfl) | exact Or.inr (Or.inr ⟨nofun, VLe.slice _ _ _⟩)) ?_))
end Go.Proofs.Ytndphnojmpeogaa

