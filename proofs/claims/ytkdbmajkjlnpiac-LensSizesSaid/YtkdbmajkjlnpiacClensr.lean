/-
  How long fields are: what is read.
-/
import Derived.Test.YtkdbmajkjlnpiacClensp
namespace Go.Proofs.Ytkdbmajkjlnpiac
set_option linter.unusedVariables false
set_option linter.unusedSimpArgs false
open Go Go.Am

theorem owned_has {σ σb : AHeap} {tk : Tok} : Owned σb σ tk ↔ Has (fun A => Owned (fun _ => none) A tk) σ σb := by
  constructor
  · rintro (⟨rfl, rfl⟩ | ⟨t, h, rfl, rfl⟩)
    · exact ⟨_, .inl ⟨rfl, rfl⟩, fun j hj => absurd rfl hj, rfl⟩
    · refine ⟨_, .inr ⟨t, rfl, rfl, rfl⟩, ?_, ?_⟩
      · intro j hj
        by_cases e : j = t
        · subst e; exact h
        · rw [upd_ne _ _ e] at hj; exact absurd rfl hj
      · rw [join_upd, join_none]
  · rintro ⟨A, ⟨rfl, rfl⟩ | ⟨t, _, rfl, rfl⟩, hd, rfl⟩
    · exact .inl ⟨rfl, rfl⟩
    · exact .inr ⟨t, hd t (by rw [upd_same]; nofun), rfl, by rw [join_upd, join_none]⟩
theorem swap_ro {σ2 σ1 σ0 : AHeap} {j k : Nat} {b : List UInt8} {tk : Tok} (h : Rd σ2 j b k σ1) (h' : Owned σ0 σ1 tk) : ∃ σ', Owned σ' σ2 tk ∧ Rd σ' j b k σ0 := by
  obtain ⟨σ', h1, h2⟩ := (Rd.has.1 h).swap (owned_has.1 h'); exact ⟨σ', owned_has.2 h1, Rd.has.2 h2⟩
theorem swap_or {σ2 σ1 σ0 : AHeap} {j k : Nat} {b : List UInt8} {tk : Tok} (h : Owned σ1 σ2 tk) (h' : Rd σ1 j b k σ0) : ∃ σ', Rd σ2 j b k σ' ∧ Owned σ0 σ' tk := by
  obtain ⟨σ', h1, h2⟩ := (owned_has.1 h).swap (Rd.has.1 h'); exact ⟨σ', Rd.has.2 h1, owned_has.2 h2⟩

theorem getCode_short {len k : Nat} {n : Int} (h1 : 0 ≤ n ∧ n ≤ 64) (h2 : n > (len : Int) - k) : getCode len k n = 8 := by unfold getCode; rw [if_neg (by omega), if_pos h2]
theorem getCode_fine {len k : Nat} {n : Int} (h1 : 0 ≤ n ∧ n ≤ 64) (h2 : ¬ n > (len : Int) - k) : getCode len k n = 0 := by unfold getCode; rw [if_neg (by omega), if_neg h2]
theorem getVal_fine {l : List Bool} {k : Nat} {n : Int} (h : getCode l.length k n = 0) : getVal l k n = val 0 ((l.drop k).take n.toNat) := if_pos h
theorem getAt_fine {len k : Nat} {n : Int} (h : getCode len k n = 0) : getAt len k n = k + n.toNat := if_pos h

set_option maxRecDepth 10000 in
theorem lRead (b : List UInt8) (t : Tok) (w : Int) (σ : AHeap) (hl : b.length ≤ 8000) : ACalls Try.prog i_lens_Read [sl t b, i64v w] σ fun v σ' => v = rdRes (readV b w) ∧ σ' = σ := by
  refine k_lens_Read rfl ?_
  ((conv => whnf); (repeat ((first | with_reducible refine abr_true rfl ?_ | with_reducible refine abr_false rfl ?_ | with_reducible refine abr_yes rfl ?_ | refine abr_yes (by decide) ?_ | refine abr_no (by decide) ?_ | with_reducible refine abr_same_ne ?_); (conv => whnf))))
  refine ascope' (α := Nat × List Int × Nat × Tok × AHeap × AHeap × Nat) (fun x => [(s7, ints x.2.2.2.1 x.2.1), (s8, .ptr x.2.2.2.2.2.2 0)]) (fun x => x.2.2.2.2.1) (fun _ => 0)
    (fun x => (w = 11 ∨ w = 15) ∧ x.2.1.length + (x.1 + 1) = 23 ∧ x.2.2.1 = x.2.1.length * (w.toNat + 1) ∧ rdLens (unpack (b.take ((23 * (w.toNat + 1) + 7) / 8))) w.toNat (x.1 + 1) x.2.1 x.2.2.1 = readV b w ∧
      Rd x.2.2.2.2.1 x.2.2.2.2.2.2 (b.take ((23 * (w.toNat + 1) + 7) / 8)) x.2.2.1 x.2.2.2.2.2.1 ∧ Owned σ x.2.2.2.2.2.1 x.2.2.2.1) (fun x => x.1) ?_ ?_
  · ((conv => whnf); (repeat ((first | with_reducible refine abr_true rfl ?_ | with_reducible refine abr_false rfl ?_ | with_reducible refine abr_yes rfl ?_ | refine abr_yes (by decide) ?_ | refine abr_no (by decide) ?_ | with_reducible refine abr_same_ne ?_); (conv => whnf))))
    intro hlab
    ((conv => whnf); (repeat ((first | with_reducible refine abr_true rfl ?_ | with_reducible refine abr_false rfl ?_ | with_reducible refine abr_yes rfl ?_ | refine abr_yes (by decide) ?_ | refine abr_no (by decide) ?_ | with_reducible refine abr_same_ne ?_); (conv => whnf))))
    refine acall (lIsWidth w _) ?_
    rintro _ σ_ ⟨rfl, e_⟩
    obtain rfl := e_.symm
    refine ⟨?_, Ext.refl _⟩
    ((conv => whnf); (repeat ((first | with_reducible refine abr_true rfl ?_ | with_reducible refine abr_false rfl ?_ | with_reducible refine abr_yes rfl ?_ | refine abr_yes (by decide) ?_ | refine abr_no (by decide) ?_ | with_reducible refine abr_same_ne ?_); (conv => whnf))))
    by_cases hw : w = 11 ∨ w = 15
    · rw [widthOk_iff.2 hw]
      obtain ⟨W, rfl⟩ : ∃ W : Nat, w = W := ⟨w.toNat, by omega⟩
      have hW : W = 11 ∨ W = 15 := by omega
      ((conv => whnf); (repeat ((first | with_reducible refine abr_true rfl ?_ | with_reducible refine abr_false rfl ?_ | with_reducible refine abr_yes rfl ?_ | refine abr_yes (by decide) ?_ | refine abr_no (by decide) ?_ | with_reducible refine abr_same_ne ?_); (conv => whnf))))
      rw [List.length_map]
      refine acall (lSize 23 (W : Int) _) ?_
      rintro _ σ_ ⟨rfl, e_⟩
      obtain rfl := e_.symm
      refine ⟨?_, Ext.refl _⟩
      ((conv => whnf); (repeat ((first | with_reducible refine abr_true rfl ?_ | with_reducible refine abr_false rfl ?_ | with_reducible refine abr_yes rfl ?_ | refine abr_yes (by decide) ?_ | refine abr_no (by decide) ?_ | with_reducible refine abr_same_ne ?_); (conv => whnf))))
      rw [show sizeV 23 (W : Int) = ((23 * (W + 1) + 7) / 8 : Nat) from sizeV_ok (n := 23) hW (by omega) (by omega)]
      have hS : (23 * (W + 1) + 7) / 8 ≤ 46 := by omega
      generalize hSe : (23 * (W + 1) + 7) / 8 = S at *
      (repeat ((first | refine aload (by (repeat (first | with_reducible exact upd_same _ _ _ | assumption | rw [upd_ne _ _ (by first | assumption | (apply Ne.symm; assumption))]))) rfl ?_ | refine afit_i64 (by omega) ?_ | refine arem_nonneg (by omega) (by omega) ?_ | refine adiv_i64 (by omega) (by omega) ?_ | refine abr_yes (by omega) ?_ | refine abr_no (by omega) ?_ | refine amin ?_ | refine amax ?_ | rw [List.length_map]); ((conv => whnf); (repeat ((first | with_reducible refine abr_true rfl ?_ | with_reducible refine abr_false rfl ?_ | with_reducible refine abr_yes rfl ?_ | refine abr_yes (by decide) ?_ | refine abr_no (by decide) ?_ | with_reducible refine abr_same_ne ?_); (conv => whnf))))))
      refine acut (by omega) (by omega) (by omega) ?_
      ((conv => whnf); (repeat ((first | with_reducible refine abr_true rfl ?_ | with_reducible refine abr_false rfl ?_ | with_reducible refine abr_yes rfl ?_ | refine abr_yes (by decide) ?_ | refine abr_no (by decide) ?_ | with_reducible refine abr_same_ne ?_); (conv => whnf))))
      rw [show (min (b.length : Int) (S : Int)).toNat = min b.length S by omega, ← List.map_take]
      have e : b.take (min b.length S) = b.take S := by
        by_cases h : b.length ≤ S
        · rw [Nat.min_eq_left h, List.take_of_length_le (Nat.le_refl _), List.take_of_length_le h]
        · rw [Nat.min_eq_right (by omega)]
      rw [e]
      refine acall (rRead (b.take S) _ _ (by rw [List.length_take]; omega)) ?_
      rintro _ σ1 ⟨id, rfl, r1⟩
      refine ⟨?_, r1.ext⟩
      rw [List.take_of_length_le (l := b.take S) (by rw [List.length_take]; omega)] at r1
      ((conv => whnf); (repeat ((first | with_reducible refine abr_true rfl ?_ | with_reducible refine abr_false rfl ?_ | with_reducible refine abr_yes rfl ?_ | refine abr_yes (by decide) ?_ | refine abr_no (by decide) ?_ | with_reducible refine abr_same_ne ?_); (conv => whnf))))
      refine hlab _ (fun _ _ _ h => h) _ _ _ _ ⟨(22, [], 0, .full, σ1, σ, id), rfl, ⟨hw, rfl, by simp, ?_, ?_, .full _⟩, rfl, Sub.refl _, ?_⟩
      · dsimp only
        rw [Int.toNat_natCast, hSe]
        unfold readV
        rw [widthOk_iff.2 hw, if_neg (by simp), Int.toNat_natCast]
        have := unpack_append (b.take S) (b.drop S)
        have e2 : unpack (b.take S) = (unpack b).take (8 * S) := by
          rw [List.take_append_drop] at this
          rw [this]
          have hul := unpack_length (b.take S)
          by_cases h : b.length ≤ S
          · rw [List.drop_eq_nil_of_le h, List.take_of_length_le h]
            show _ = (unpack b ++ []).take _
            rw [List.append_nil, List.take_of_length_le]
            rw [unpack_length]; omega
          · rw [List.length_take, Nat.min_eq_left (by omega)] at hul
            rw [← hul, List.take_left]
        rw [e2]
        exact rdLens_take _ W (8 * S) (by omega) 23 [] 0 (by omega)
      · dsimp only
        rw [Int.toNat_natCast, hSe]; exact r1
      · ((conv => whnf); (repeat ((first | with_reducible refine abr_true rfl ?_ | with_reducible refine abr_false rfl ?_ | with_reducible refine abr_yes rfl ?_ | refine abr_yes (by decide) ?_ | refine abr_no (by decide) ?_ | with_reducible refine abr_same_ne ?_); (conv => whnf))))
        (repeat' first | with_reducible exact EnvLe.refl _ | (refine EnvLe.node ?_ (by first | exact Or.inl rfl | exact Or.inr (Or.inl rfl) | exact Or.inr (Or.inr ⟨nofun, VLe.slice _ _ _⟩)) ?_))
    · have hno := widthNo hw
      rw [hno]
      ((conv => whnf); (repeat ((first | with_reducible refine abr_true rfl ?_ | with_reducible refine abr_false rfl ?_ | with_reducible refine abr_yes rfl ?_ | refine abr_yes (by decide) ?_ | refine abr_no (by decide) ?_ | with_reducible refine abr_same_ne ?_); (conv => whnf))))
      exact aret VLe.tup_sl (Sub.refl _) ⟨by unfold readV; rw [if_pos hno]; rfl, rfl⟩
  · rintro ⟨f, out, k, tk, σ2, σ1, id⟩ ⟨hw, hf, hk, hR, r2, ho⟩
    dsimp only at hw hf hk hR r2 ho ⊢
    refine ⟨_, rfl, ?_⟩
    ((conv => whnf); (repeat ((first | with_reducible refine abr_true rfl ?_ | with_reducible refine abr_false rfl ?_ | with_reducible refine abr_yes rfl ?_ | refine abr_yes (by decide) ?_ | refine abr_no (by decide) ?_ | with_reducible refine abr_same_ne ?_); (conv => whnf))))
    intro hlab
    obtain ⟨W, rfl⟩ : ∃ W : Nat, w = W := ⟨w.toNat, by omega⟩
    have hW : W = 11 ∨ W = 15 := by omega
    rw [Int.toNat_natCast] at hk hR r2
    generalize hB : b.take ((23 * (W + 1) + 7) / 8) = B at *
    have hul := unpack_length B
    have hBl : B.length ≤ 8000 := by rw [← hB, List.length_take]; omega
    simp only [rdLens] at hR
    have sub2 : Sub σ2 σ := r2.sub.trans ho.sub
    ((conv => whnf); (repeat ((first | with_reducible refine abr_true rfl ?_ | with_reducible refine abr_false rfl ?_ | with_reducible refine abr_yes rfl ?_ | refine abr_yes (by decide) ?_ | refine abr_no (by decide) ?_ | with_reducible refine abr_same_ne ?_); (conv => whnf))))
    by_cases h1 : k + 1 ≤ 8 * B.length
    · have c1 : getCode (8 * B.length) k 1 = 0 := getCode_fine (by omega) (by omega)
      refine acall (rGet id B k 1 _ _ r2) ?_
      rintro _ σ3 ⟨rfl, r3⟩
      rw [getAt_fine c1] at r3
      rw [c1, getVal_fine (by rw [hul]; exact c1)]
      rw [show (1 : Int).toNat = 1 from rfl] at r3 ⊢
      rw [take_one (by omega)]
      ((conv => whnf); (repeat ((first | with_reducible refine abr_true rfl ?_ | with_reducible refine abr_false rfl ?_ | with_reducible refine abr_yes rfl ?_ | refine abr_yes (by decide) ?_ | refine abr_no (by decide) ?_ | with_reducible refine abr_same_ne ?_); (conv => whnf))))
      by_cases h2 : k + (W + 1) ≤ 8 * B.length
      · have c2 : getCode (8 * B.length) (k + 1) (W : Int) = 0 := getCode_fine (by omega) (by omega)
        refine acall (rGet id B (k + 1) (W : Int) _ _ r3) ?_
        rintro _ σ4 ⟨rfl, r4⟩
        rw [getAt_fine c2, Int.toNat_natCast, show k + 1 + W = k + (W + 1) by omega] at r4
        rw [c2, getVal_fine (by rw [hul]; exact c2), Int.toNat_natCast]
        rw [if_neg (by omega)] at hR
        have hv := val_lt (((unpack B).drop (k + 1)).take W)
        have hv2 : ((((unpack B).drop (k + 1)).take W)).length ≤ 15 := by rw [List.length_take]; omega
        have hv3 : 2 ^ ((((unpack B).drop (k + 1)).take W)).length ≤ 2 ^ 15 := Nat.pow_le_pow_right (by omega) hv2
        generalize hn : val 0 (((unpack B).drop (k + 1)).take W) = n at *
        ((conv => whnf); (repeat ((first | with_reducible refine abr_true rfl ?_ | with_reducible refine abr_false rfl ?_ | with_reducible refine abr_yes rfl ?_ | refine abr_yes (by decide) ?_ | refine abr_no (by decide) ?_ | with_reducible refine abr_same_ne ?_); (conv => whnf))))
        by_cases h0 : n = 0
        · rw [if_pos h0] at hR
          refine abr_yes (by omega) ?_
          ((conv => whnf); (repeat ((first | with_reducible refine abr_true rfl ?_ | with_reducible refine abr_false rfl ?_ | with_reducible refine abr_yes rfl ?_ | refine abr_yes (by decide) ?_ | refine abr_no (by decide) ?_ | with_reducible refine abr_same_ne ?_); (conv => whnf))))
          exact aret VLe.tup_sl (r4.sub.trans ho.sub) ⟨by rw [← hR]; rfl, rfl⟩
        · rw [if_neg h0] at hR
          refine abr_no (by omega) ?_
          ((conv => whnf); (repeat ((first | with_reducible refine abr_true rfl ?_ | with_reducible refine abr_false rfl ?_ | with_reducible refine abr_yes rfl ?_ | refine abr_yes (by decide) ?_ | refine abr_no (by decide) ?_ | with_reducible refine abr_same_ne ?_); (conv => whnf))))
          (repeat ((first | refine aload (by (repeat (first | with_reducible exact upd_same _ _ _ | assumption | rw [upd_ne _ _ (by first | assumption | (apply Ne.symm; assumption))]))) rfl ?_ | refine afit_i64 (by omega) ?_ | refine arem_nonneg (by omega) (by omega) ?_ | refine adiv_i64 (by omega) (by omega) ?_ | refine abr_yes (by omega) ?_ | refine abr_no (by omega) ?_ | refine amin ?_ | refine amax ?_ | rw [List.length_map]); ((conv => whnf); (repeat ((first | with_reducible refine abr_true rfl ?_ | with_reducible refine abr_false rfl ?_ | with_reducible refine abr_yes rfl ?_ | refine abr_yes (by decide) ?_ | refine abr_no (by decide) ?_ | with_reducible refine abr_same_ne ?_); (conv => whnf))))))
          obtain ⟨σa, hoa, ra⟩ := swap_ro r4 ho
          refine aapp_owned hoa (by rw [List.length_map]; show (out.length + 1) * 8 ≤ _; omega) fun t' tk' ho' _ => ?_
          obtain ⟨σc, r5, hoc⟩ := swap_or ho' ra
          rw [show List.map i64v out ++ [AVal.v (Value.int IntKind.i64 ((n : Nat) : Int))] = List.map i64v (out ++ [(n : Int)]) by simp]
          have hol : (out ++ [(n : Int)]).length = out.length + 1 := by simp
          ((conv => whnf); (repeat ((first | with_reducible refine abr_true rfl ?_ | with_reducible refine abr_false rfl ?_ | with_reducible refine abr_yes rfl ?_ | refine abr_yes (by decide) ?_ | refine abr_no (by decide) ?_ | with_reducible refine abr_same_ne ?_); (conv => whnf))))
          cases hbit : bitD (unpack B) k with
          | true =>
            rw [hbit, if_pos rfl] at hR
            ((conv => whnf); (repeat ((first | with_reducible refine abr_true rfl ?_ | with_reducible refine abr_false rfl ?_ | with_reducible refine abr_yes rfl ?_ | refine abr_yes (by decide) ?_ | refine abr_no (by decide) ?_ | with_reducible refine abr_same_ne ?_); (conv => whnf))))
            (repeat ((first | refine aload (by (repeat (first | with_reducible exact upd_same _ _ _ | assumption | rw [upd_ne _ _ (by first | assumption | (apply Ne.symm; assumption))]))) rfl ?_ | refine afit_i64 (by omega) ?_ | refine arem_nonneg (by omega) (by omega) ?_ | refine adiv_i64 (by omega) (by omega) ?_ | refine abr_yes (by omega) ?_ | refine abr_no (by omega) ?_ | refine amin ?_ | refine amax ?_ | rw [List.length_map]); ((conv => whnf); (repeat ((first | with_reducible refine abr_true rfl ?_ | with_reducible refine abr_false rfl ?_ | with_reducible refine abr_yes rfl ?_ | refine abr_yes (by decide) ?_ | refine abr_no (by decide) ?_ | with_reducible refine abr_same_ne ?_); (conv => whnf))))))
            rw [hol]
            by_cases hf0 : f = 0
            · rw [if_pos hf0] at hR
              refine abr_yes (by omega) ?_
              ((conv => whnf); (repeat ((first | with_reducible refine abr_true rfl ?_ | with_reducible refine abr_false rfl ?_ | with_reducible refine abr_yes rfl ?_ | refine abr_yes (by decide) ?_ | refine abr_no (by decide) ?_ | with_reducible refine abr_same_ne ?_); (conv => whnf))))
              exact aret VLe.tup_sl (r5.sub.trans hoc.sub) ⟨by rw [← hR]; rfl, rfl⟩
            · rw [if_neg hf0] at hR
              refine abr_no (by omega) ?_
              ((conv => whnf); (repeat ((first | with_reducible refine abr_true rfl ?_ | with_reducible refine abr_false rfl ?_ | with_reducible refine abr_yes rfl ?_ | refine abr_yes (by decide) ?_ | refine abr_no (by decide) ?_ | with_reducible refine abr_same_ne ?_); (conv => whnf))))
              obtain ⟨f', rfl⟩ : ∃ f', f = f' + 1 := ⟨f - 1, by omega⟩
              refine ⟨(f', out ++ [(n : Int)], k + (W + 1), tk', upd σa t' .tip, σc, id), rfl, ⟨hw, ?_, ?_, ?_, ?_, hoc⟩, by dsimp only; omega, Sub.refl _, ?_⟩
              · dsimp only; rw [hol]; omega
              · dsimp only; rw [hol, Nat.succ_mul, hk]
              · show rdLens (unpack (b.take ((23 * (W + 1) + 7) / 8))) W (f' + 1) _ _ = _; rw [hB]; exact hR
              · show Rd (upd σa t' .tip) id (b.take ((23 * (W + 1) + 7) / 8)) _ _; rw [hB]; exact r5
              · ((conv => whnf); (repeat ((first | with_reducible refine abr_true rfl ?_ | with_reducible refine abr_false rfl ?_ | with_reducible refine abr_yes rfl ?_ | refine abr_yes (by decide) ?_ | refine abr_no (by decide) ?_ | with_reducible refine abr_same_ne ?_); (conv => whnf))))
                (repeat' first | with_reducible exact EnvLe.refl _ | (refine EnvLe.node ?_ (by first | exact Or.inl rfl | exact Or.inr (Or.inl rfl) | exact Or.inr (Or.inr ⟨nofun, VLe.slice _ _ _⟩)) ?_))
          | false =>
            rw [hbit, if_neg (by simp)] at hR
            ((conv => whnf); (repeat ((first | with_reducible refine abr_true rfl ?_ | with_reducible refine abr_false rfl ?_ | with_reducible refine abr_yes rfl ?_ | refine abr_yes (by decide) ?_ | refine abr_no (by decide) ?_ | with_reducible refine abr_same_ne ?_); (conv => whnf))))
            refine acall (rRest id B _ _ _ r5) ?_
            rintro _ σ6 ⟨rfl, r6⟩
            ((conv => whnf); (repeat ((first | with_reducible refine abr_true rfl ?_ | with_reducible refine abr_false rfl ?_ | with_reducible refine abr_yes rfl ?_ | refine abr_yes (by decide) ?_ | refine abr_no (by decide) ?_ | with_reducible refine abr_same_ne ?_); (conv => whnf))))
            cases hok : restOk (unpack B) (k + (W + 1)) with
            | true =>
              rw [hok, if_pos rfl] at hR
              simp only [if_true]
              ((conv => whnf); (repeat ((first | with_reducible refine abr_true rfl ?_ | with_reducible refine abr_false rfl ?_ | with_reducible refine abr_yes rfl ?_ | refine abr_yes (by decide) ?_ | refine abr_no (by decide) ?_ | with_reducible refine abr_same_ne ?_); (conv => whnf))))
              (repeat ((first | refine aload (by (repeat (first | with_reducible exact upd_same _ _ _ | assumption | rw [upd_ne _ _ (by first | assumption | (apply Ne.symm; assumption))]))) rfl ?_ | refine afit_i64 (by omega) ?_ | refine arem_nonneg (by omega) (by omega) ?_ | refine adiv_i64 (by omega) (by omega) ?_ | refine abr_yes (by omega) ?_ | refine abr_no (by omega) ?_ | refine amin ?_ | refine amax ?_ | rw [List.length_map]); ((conv => whnf); (repeat ((first | with_reducible refine abr_true rfl ?_ | with_reducible refine abr_false rfl ?_ | with_reducible refine abr_yes rfl ?_ | refine abr_yes (by decide) ?_ | refine abr_no (by decide) ?_ | with_reducible refine abr_same_ne ?_); (conv => whnf))))))
              rw [hol]
              refine acall (lSize ((out.length + 1 : Nat) : Int) (W : Int) _) ?_
              rintro _ σ_ ⟨rfl, e_⟩
              obtain rfl := e_.symm
              refine ⟨?_, Ext.refl _⟩
              ((conv => whnf); (repeat ((first | with_reducible refine abr_true rfl ?_ | with_reducible refine abr_false rfl ?_ | with_reducible refine abr_yes rfl ?_ | refine abr_yes (by decide) ?_ | refine abr_no (by decide) ?_ | with_reducible refine abr_same_ne ?_); (conv => whnf))))
              refine aret VLe.tup_sl (r6.sub.trans hoc.sub) ⟨?_, rfl⟩
              rw [← hR, sizeV_ok hW (by omega) (by omega), hk, Nat.succ_mul]
            | false =>
              rw [hok, if_neg (by simp)] at hR
              simp only [Bool.false_eq_true, if_false]
              ((conv => whnf); (repeat ((first | with_reducible refine abr_true rfl ?_ | with_reducible refine abr_false rfl ?_ | with_reducible refine abr_yes rfl ?_ | refine abr_yes (by decide) ?_ | refine abr_no (by decide) ?_ | with_reducible refine abr_same_ne ?_); (conv => whnf))))
              exact aret VLe.tup_sl (r6.sub.trans hoc.sub) ⟨by rw [← hR]; rfl, rfl⟩
      · have c2 : getCode (8 * B.length) (k + 1) (W : Int) = 8 := getCode_short (by omega) (by omega)
        refine acall (rGet id B (k + 1) (W : Int) _ _ r3) ?_
        rintro _ σ4 ⟨rfl, r4⟩
        rw [if_pos (by omega)] at hR
        rw [c2]
        ((conv => whnf); (repeat ((first | with_reducible refine abr_true rfl ?_ | with_reducible refine abr_false rfl ?_ | with_reducible refine abr_yes rfl ?_ | refine abr_yes (by decide) ?_ | refine abr_no (by decide) ?_ | with_reducible refine abr_same_ne ?_); (conv => whnf))))
        exact aret VLe.tup_sl (r4.sub.trans ho.sub) ⟨by rw [← hR]; rfl, rfl⟩
    · have c1 : getCode (8 * B.length) k 1 = 8 := getCode_short (by omega) (by omega)
      refine acall (rGet id B k 1 _ _ r2) ?_
      rintro _ σ3 ⟨rfl, r3⟩
      rw [if_pos (by omega)] at hR
      rw [c1]
      ((conv => whnf); (repeat ((first | with_reducible refine abr_true rfl ?_ | with_reducible refine abr_false rfl ?_ | with_reducible refine abr_yes rfl ?_ | refine abr_yes (by decide) ?_ | refine abr_no (by decide) ?_ | with_reducible refine abr_same_ne ?_); (conv => whnf))))
      exact aret VLe.tup_sl (r3.sub.trans ho.sub) ⟨by rw [← hR]; rfl, rfl⟩
end Go.Proofs.Ytkdbmajkjlnpiac

