/-
  Texts of this claim, part 4: Clensr, Cumdc, Clensq, Cumdd, Irref01, Crefbits, Crefbitsb, Crefbitsc, Irref08, Creflens, Creflensr.
-/
import Derived.Test.YthjjkcmiachpcaaUmdGrowsM2
/-
  How long fields are: what is read.
-/
namespace Go.Proofs.Ythjjkcmiachpcaa
set_option linter.unusedVariables false
set_option linter.unusedSimpArgs false
open Go Go.Am

theorem owned_has {σ σb : AHeap} {tk : Tok} : Owned σb σ tk ↔ Has (fun A => Owned (fun _ => none) A tk) σ σb := by
  constructor
  · rintro (⟨rfl, rfl⟩ | ⟨t, h, rfl, rfl⟩)
    · exact ⟨_, .inl ⟨rfl, rfl⟩, fun j hj => absurd rfl hj, rfl⟩
    · refine ⟨_, .inr ⟨t, rfl, rfl, rfl⟩, ?_, ?_⟩
      · intro j hj
        by_cases e : j = t
        · subst e; exact h
        · rw [upd_ne _ _ e] at hj; exact absurd rfl hj
      · rw [join_upd, join_none]
  · rintro ⟨A, ⟨rfl, rfl⟩ | ⟨t, _, rfl, rfl⟩, hd, rfl⟩
    · exact .inl ⟨rfl, rfl⟩
    · exact .inr ⟨t, hd t (by rw [upd_same]; nofun), rfl, by rw [join_upd, join_none]⟩
theorem swap_ro {σ2 σ1 σ0 : AHeap} {j k : Nat} {b : List UInt8} {tk : Tok} (h : Rd σ2 j b k σ1) (h' : Owned σ0 σ1 tk) : ∃ σ', Owned σ' σ2 tk ∧ Rd σ' j b k σ0 := by
  obtain ⟨σ', h1, h2⟩ := (Rd.has.1 h).swap (owned_has.1 h'); exact ⟨σ', owned_has.2 h1, Rd.has.2 h2⟩
theorem swap_or {σ2 σ1 σ0 : AHeap} {j k : Nat} {b : List UInt8} {tk : Tok} (h : Owned σ1 σ2 tk) (h' : Rd σ1 j b k σ0) : ∃ σ', Rd σ2 j b k σ' ∧ Owned σ0 σ' tk := by
  obtain ⟨σ', h1, h2⟩ := (owned_has.1 h).swap (Rd.has.1 h'); exact ⟨σ', Rd.has.2 h1, owned_has.2 h2⟩

theorem getCode_short {len k : Nat} {n : Int} (h1 : 0 ≤ n ∧ n ≤ 64) (h2 : n > (len : Int) - k) : getCode len k n = 8 := by unfold getCode; rw [if_neg (by omega), if_pos h2]
theorem getCode_fine {len k : Nat} {n : Int} (h1 : 0 ≤ n ∧ n ≤ 64) (h2 : ¬ n > (len : Int) - k) : getCode len k n = 0 := by unfold getCode; rw [if_neg (by omega), if_neg h2]
theorem getVal_fine {l : List Bool} {k : Nat} {n : Int} (h : getCode l.length k n = 0) : getVal l k n = val 0 ((l.drop k).take n.toNat) := if_pos h
theorem getAt_fine {len k : Nat} {n : Int} (h : getCode len k n = 0) : getAt len k n = k + n.toNat := if_pos h

set_option maxRecDepth 10000 in
theorem lRead (b : List UInt8) (t : Tok) (w : Int) (σ : AHeap) (hl : b.length ≤ 8000) : ACalls Try.prog i_lens_Read [sl t b, i64v w] σ fun v σ' => v = rdRes (readV b w) ∧ σ' = σ := by
  refine k_lens_Read rfl ?_
  ((conv => whnf); (repeat ((first | with_reducible refine abr_true rfl ?_ | with_reducible refine abr_false rfl ?_ | with_reducible refine abr_yes rfl ?_ | refine abr_yes (by decide) ?_ | refine abr_no (by decide) ?_ | with_reducible refine abr_same_ne ?_); (conv => whnf))))
  refine ascope' (α := Nat × List Int × Nat × Tok × AHeap × AHeap × Nat) (fun x => [(s7, ints x.2.2.2.1 x.2.1), (s8, .ptr x.2.2.2.2.2.2 0)]) (fun x => x.2.2.2.2.1) (fun _ => 0)
    (fun x => (w = 11 ∨ w = 15) ∧ x.2.1.length + (x.1 + 1) = 23 ∧ x.2.2.1 = x.2.1.length * (w.toNat + 1) ∧ rdLens (unpack (b.take ((23 * (w.toNat + 1) + 7) / 8))) w.toNat (x.1 + 1) x.2.1 x.2.2.1 = readV b w ∧
      Rd x.2.2.2.2.1 x.2.2.2.2.2.2 (b.take ((23 * (w.toNat + 1) + 7) / 8)) x.2.2.1 x.2.2.2.2.2.1 ∧ Owned σ x.2.2.2.2.2.1 x.2.2.2.1) (fun x => x.1) ?_ ?_
  · ((conv => whnf); (repeat ((first | with_reducible refine abr_true rfl ?_ | with_reducible refine abr_false rfl ?_ | with_reducible refine abr_yes rfl ?_ | refine abr_yes (by decide) ?_ | refine abr_no (by decide) ?_ | with_reducible refine abr_same_ne ?_); (conv => whnf))))
    intro hlab
    ((conv => whnf); (repeat ((first | with_reducible refine abr_true rfl ?_ | with_reducible refine abr_false rfl ?_ | with_reducible refine abr_yes rfl ?_ | refine abr_yes (by decide) ?_ | refine abr_no (by decide) ?_ | with_reducible refine abr_same_ne ?_); (conv => whnf))))
    refine acall (lIsWidth w _) ?_
    rintro _ σ_ ⟨rfl, e_⟩
    obtain rfl := e_.symm
    refine ⟨?_, Ext.refl _⟩
    ((conv => whnf); (repeat ((first | with_reducible refine abr_true rfl ?_ | with_reducible refine abr_false rfl ?_ | with_reducible refine abr_yes rfl ?_ | refine abr_yes (by decide) ?_ | refine abr_no (by decide) ?_ | with_reducible refine abr_same_ne ?_); (conv => whnf))))
    by_cases hw : w = 11 ∨ w = 15
    · rw [widthOk_iff.2 hw]
      obtain ⟨W, rfl⟩ : ∃ W : Nat, w = W := ⟨w.toNat, by omega⟩
      have hW : W = 11 ∨ W = 15 := by omega
      ((conv => whnf); (repeat ((first | with_reducible refine abr_true rfl ?_ | with_reducible refine abr_false rfl ?_ | with_reducible refine abr_yes rfl ?_ | refine abr_yes (by decide) ?_ | refine abr_no (by decide) ?_ | with_reducible refine abr_same_ne ?_); (conv => whnf))))
      rw [List.length_map]
      refine acall (lSize 23 (W : Int) _) ?_
      rintro _ σ_ ⟨rfl, e_⟩
      obtain rfl := e_.symm
      refine ⟨?_, Ext.refl _⟩
      ((conv => whnf); (repeat ((first | with_reducible refine abr_true rfl ?_ | with_reducible refine abr_false rfl ?_ | with_reducible refine abr_yes rfl ?_ | refine abr_yes (by decide) ?_ | refine abr_no (by decide) ?_ | with_reducible refine abr_same_ne ?_); (conv => whnf))))
      rw [show sizeV 23 (W : Int) = ((23 * (W + 1) + 7) / 8 : Nat) from sizeV_ok (n := 23) hW (by omega) (by omega)]
      have hS : (23 * (W + 1) + 7) / 8 ≤ 46 := by omega
      generalize hSe : (23 * (W + 1) + 7) / 8 = S at *
      (repeat ((first | refine aload (by (repeat (first | with_reducible exact upd_same _ _ _ | assumption | rw [upd_ne _ _ (by first | assumption | (apply Ne.symm; assumption))]))) rfl ?_ | refine afit_i64 (by omega) ?_ | refine arem_nonneg (by omega) (by omega) ?_ | refine adiv_i64 (by omega) (by omega) ?_ | refine abr_yes (by omega) ?_ | refine abr_no (by omega) ?_ | refine amin ?_ | refine amax ?_ | refine afit_u64 (by omega) ?_ | refine afit_u8 (by omega) ?_ | rw [List.length_map]); ((conv => whnf); (repeat ((first | with_reducible refine abr_true rfl ?_ | with_reducible refine abr_false rfl ?_ | with_reducible refine abr_yes rfl ?_ | refine abr_yes (by decide) ?_ | refine abr_no (by decide) ?_ | with_reducible refine abr_same_ne ?_); (conv => whnf))))))
      refine acut (by omega) (by omega) (by omega) ?_
      ((conv => whnf); (repeat ((first | with_reducible refine abr_true rfl ?_ | with_reducible refine abr_false rfl ?_ | with_reducible refine abr_yes rfl ?_ | refine abr_yes (by decide) ?_ | refine abr_no (by decide) ?_ | with_reducible refine abr_same_ne ?_); (conv => whnf))))
      rw [show (min (b.length : Int) (S : Int)).toNat = min b.length S by omega, ← List.map_take]
      have e : b.take (min b.length S) = b.take S := by
        by_cases h : b.length ≤ S
        · rw [Nat.min_eq_left h, List.take_of_length_le (Nat.le_refl _), List.take_of_length_le h]
        · rw [Nat.min_eq_right (by omega)]
      rw [e]
      refine acall (rRead (b.take S) _ _ (by rw [List.length_take]; omega)) ?_
      rintro _ σ1 ⟨id, rfl, r1⟩
      refine ⟨?_, r1.ext⟩
      rw [List.take_of_length_le (l := b.take S) (by rw [List.length_take]; omega)] at r1
      ((conv => whnf); (repeat ((first | with_reducible refine abr_true rfl ?_ | with_reducible refine abr_false rfl ?_ | with_reducible refine abr_yes rfl ?_ | refine abr_yes (by decide) ?_ | refine abr_no (by decide) ?_ | with_reducible refine abr_same_ne ?_); (conv => whnf))))
      refine hlab _ (fun _ _ _ h => h) _ _ _ _ ⟨(22, [], 0, .full, σ1, σ, id), rfl, ⟨hw, rfl, by simp, ?_, ?_, .full _⟩, rfl, Sub.refl _, ?_⟩
      · dsimp only
        rw [Int.toNat_natCast, hSe]
        unfold readV
        rw [widthOk_iff.2 hw, if_neg (by simp), Int.toNat_natCast]
        have := unpack_append (b.take S) (b.drop S)
        have e2 : unpack (b.take S) = (unpack b).take (8 * S) := by
          rw [List.take_append_drop] at this
          rw [this]
          have hul := unpack_length (b.take S)
          by_cases h : b.length ≤ S
          · rw [List.drop_eq_nil_of_le h, List.take_of_length_le h]
            show _ = (unpack b ++ []).take _
            rw [List.append_nil, List.take_of_length_le]
            rw [unpack_length]; omega
          · rw [List.length_take, Nat.min_eq_left (by omega)] at hul
            rw [← hul, List.take_left]
        rw [e2]
        exact rdLens_take _ W (8 * S) (by omega) 23 [] 0 (by omega)
      · dsimp only
        rw [Int.toNat_natCast, hSe]; exact r1
      · ((conv => whnf); (repeat ((first | with_reducible refine abr_true rfl ?_ | with_reducible refine abr_false rfl ?_ | with_reducible refine abr_yes rfl ?_ | refine abr_yes (by decide) ?_ | refine abr_no (by decide) ?_ | with_reducible refine abr_same_ne ?_); (conv => whnf))))
        (repeat' first | with_reducible exact EnvLe.refl _ | (refine EnvLe.node ?_ (by first | exact Or.inl rfl | exact Or.inr (Or.inl rfl) | exact Or.inr (Or.inr ⟨nofun, VLe.slice _ _ _⟩)) ?_))
    · have hno := widthNo hw
      rw [hno]
      ((conv => whnf); (repeat ((first | with_reducible refine abr_true rfl ?_ | with_reducible refine abr_false rfl ?_ | with_reducible refine abr_yes rfl ?_ | refine abr_yes (by decide) ?_ | refine abr_no (by decide) ?_ | with_reducible refine abr_same_ne ?_); (conv => whnf))))
      exact aret VLe.tup_sl (Sub.refl _) ⟨by unfold readV; rw [if_pos hno]; rfl, rfl⟩
  · rintro ⟨f, out, k, tk, σ2, σ1, id⟩ ⟨hw, hf, hk, hR, r2, ho⟩
    dsimp only at hw hf hk hR r2 ho ⊢
    refine ⟨_, rfl, ?_⟩
    ((conv => whnf); (repeat ((first | with_reducible refine abr_true rfl ?_ | with_reducible refine abr_false rfl ?_ | with_reducible refine abr_yes rfl ?_ | refine abr_yes (by decide) ?_ | refine abr_no (by decide) ?_ | with_reducible refine abr_same_ne ?_); (conv => whnf))))
    intro hlab
    obtain ⟨W, rfl⟩ : ∃ W : Nat, w = W := ⟨w.toNat, by omega⟩
    have hW : W = 11 ∨ W = 15 := by omega
    rw [Int.toNat_natCast] at hk hR r2
    generalize hB : b.take ((23 * (W + 1) + 7) / 8) = B at *
    have hul := unpack_length B
    have hBl : B.length ≤ 8000 := by rw [← hB, List.length_take]; omega
    simp only [rdLens] at hR
    have sub2 : Sub σ2 σ := r2.sub.trans ho.sub
    ((conv => whnf); (repeat ((first | with_reducible refine abr_true rfl ?_ | with_reducible refine abr_false rfl ?_ | with_reducible refine abr_yes rfl ?_ | refine abr_yes (by decide) ?_ | refine abr_no (by decide) ?_ | with_reducible refine abr_same_ne ?_); (conv => whnf))))
    by_cases h1 : k + 1 ≤ 8 * B.length
    · have c1 : getCode (8 * B.length) k 1 = 0 := getCode_fine (by omega) (by omega)
      refine acall (rGet id B k 1 _ _ r2) ?_
      rintro _ σ3 ⟨rfl, r3⟩
      rw [getAt_fine c1] at r3
      rw [c1, getVal_fine (by rw [hul]; exact c1)]
      rw [show (1 : Int).toNat = 1 from rfl] at r3 ⊢
      rw [take_one (by omega)]
      ((conv => whnf); (repeat ((first | with_reducible refine abr_true rfl ?_ | with_reducible refine abr_false rfl ?_ | with_reducible refine abr_yes rfl ?_ | refine abr_yes (by decide) ?_ | refine abr_no (by decide) ?_ | with_reducible refine abr_same_ne ?_); (conv => whnf))))
      by_cases h2 : k + (W + 1) ≤ 8 * B.length
      · have c2 : getCode (8 * B.length) (k + 1) (W : Int) = 0 := getCode_fine (by omega) (by omega)
        refine acall (rGet id B (k + 1) (W : Int) _ _ r3) ?_
        rintro _ σ4 ⟨rfl, r4⟩
        rw [getAt_fine c2, Int.toNat_natCast, show k + 1 + W = k + (W + 1) by omega] at r4
        rw [c2, getVal_fine (by rw [hul]; exact c2), Int.toNat_natCast]
        rw [if_neg (by omega)] at hR
        have hv := val_lt (((unpack B).drop (k + 1)).take W)
        have hv2 : ((((unpack B).drop (k + 1)).take W)).length ≤ 15 := by rw [List.length_take]; omega
        have hv3 : 2 ^ ((((unpack B).drop (k + 1)).take W)).length ≤ 2 ^ 15 := Nat.pow_le_pow_right (by omega) hv2
        generalize hn : val 0 (((unpack B).drop (k + 1)).take W) = n at *
        ((conv => whnf); (repeat ((first | with_reducible refine abr_true rfl ?_ | with_reducible refine abr_false rfl ?_ | with_reducible refine abr_yes rfl ?_ | refine abr_yes (by decide) ?_ | refine abr_no (by decide) ?_ | with_reducible refine abr_same_ne ?_); (conv => whnf))))
        by_cases h0 : n = 0
        · rw [if_pos h0] at hR
          refine abr_yes (by omega) ?_
          ((conv => whnf); (repeat ((first | with_reducible refine abr_true rfl ?_ | with_reducible refine abr_false rfl ?_ | with_reducible refine abr_yes rfl ?_ | refine abr_yes (by decide) ?_ | refine abr_no (by decide) ?_ | with_reducible refine abr_same_ne ?_); (conv => whnf))))
          exact aret VLe.tup_sl (r4.sub.trans ho.sub) ⟨by rw [← hR]; rfl, rfl⟩
        · rw [if_neg h0] at hR
          refine abr_no (by omega) ?_
          ((conv => whnf); (repeat ((first | with_reducible refine abr_true rfl ?_ | with_reducible refine abr_false rfl ?_ | with_reducible refine abr_yes rfl ?_ | refine abr_yes (by decide) ?_ | refine abr_no (by decide) ?_ | with_reducible refine abr_same_ne ?_); (conv => whnf))))
          (repeat ((first | refine aload (by (repeat (first | with_reducible exact upd_same _ _ _ | assumption | rw [upd_ne _ _ (by first | assumption | (apply Ne.symm; assumption))]))) rfl ?_ | refine afit_i64 (by omega) ?_ | refine arem_nonneg (by omega) (by omega) ?_ | refine adiv_i64 (by omega) (by omega) ?_ | refine abr_yes (by omega) ?_ | refine abr_no (by omega) ?_ | refine amin ?_ | refine amax ?_ | refine afit_u64 (by omega) ?_ | refine afit_u8 (by omega) ?_ | rw [List.length_map]); ((conv => whnf); (repeat ((first | with_reducible refine abr_true rfl ?_ | with_reducible refine abr_false rfl ?_ | with_reducible refine abr_yes rfl ?_ | refine abr_yes (by decide) ?_ | refine abr_no (by decide) ?_ | with_reducible refine abr_same_ne ?_); (conv => whnf))))))
          obtain ⟨σa, hoa, ra⟩ := swap_ro r4 ho
          refine aapp_owned hoa (by rw [List.length_map]; show (out.length + 1) * 8 ≤ _; omega) fun t' tk' ho' _ => ?_
          obtain ⟨σc, r5, hoc⟩ := swap_or ho' ra
          rw [show List.map i64v out ++ [AVal.v (Value.int IntKind.i64 ((n : Nat) : Int))] = List.map i64v (out ++ [(n : Int)]) by simp]
          have hol : (out ++ [(n : Int)]).length = out.length + 1 := by simp
          ((conv => whnf); (repeat ((first | with_reducible refine abr_true rfl ?_ | with_reducible refine abr_false rfl ?_ | with_reducible refine abr_yes rfl ?_ | refine abr_yes (by decide) ?_ | refine abr_no (by decide) ?_ | with_reducible refine abr_same_ne ?_); (conv => whnf))))
          cases hbit : bitD (unpack B) k with
          | true =>
            rw [hbit, if_pos rfl] at hR
            ((conv => whnf); (repeat ((first | with_reducible refine abr_true rfl ?_ | with_reducible refine abr_false rfl ?_ | with_reducible refine abr_yes rfl ?_ | refine abr_yes (by decide) ?_ | refine abr_no (by decide) ?_ | with_reducible refine abr_same_ne ?_); (conv => whnf))))
            (repeat ((first | refine aload (by (repeat (first | with_reducible exact upd_same _ _ _ | assumption | rw [upd_ne _ _ (by first | assumption | (apply Ne.symm; assumption))]))) rfl ?_ | refine afit_i64 (by omega) ?_ | refine arem_nonneg (by omega) (by omega) ?_ | refine adiv_i64 (by omega) (by omega) ?_ | refine abr_yes (by omega) ?_ | refine abr_no (by omega) ?_ | refine amin ?_ | refine amax ?_ | refine afit_u64 (by omega) ?_ | refine afit_u8 (by omega) ?_ | rw [List.length_map]); ((conv => whnf); (repeat ((first | with_reducible refine abr_true rfl ?_ | with_reducible refine abr_false rfl ?_ | with_reducible refine abr_yes rfl ?_ | refine abr_yes (by decide) ?_ | refine abr_no (by decide) ?_ | with_reducible refine abr_same_ne ?_); (conv => whnf))))))
            rw [hol]
            by_cases hf0 : f = 0
            · rw [if_pos hf0] at hR
              refine abr_yes (by omega) ?_
              ((conv => whnf); (repeat ((first | with_reducible refine abr_true rfl ?_ | with_reducible refine abr_false rfl ?_ | with_reducible refine abr_yes rfl ?_ | refine abr_yes (by decide) ?_ | refine abr_no (by decide) ?_ | with_reducible refine abr_same_ne ?_); (conv => whnf))))
              exact aret VLe.tup_sl (r5.sub.trans hoc.sub) ⟨by rw [← hR]; rfl, rfl⟩
            · rw [if_neg hf0] at hR
              refine abr_no (by omega) ?_
              ((conv => whnf); (repeat ((first | with_reducible refine abr_true rfl ?_ | with_reducible refine abr_false rfl ?_ | with_reducible refine abr_yes rfl ?_ | refine abr_yes (by decide) ?_ | refine abr_no (by decide) ?_ | with_reducible refine abr_same_ne ?_); (conv => whnf))))
              obtain ⟨f', rfl⟩ : ∃ f', f = f' + 1 := ⟨f - 1, by omega⟩
              refine ⟨(f', out ++ [(n : Int)], k + (W + 1), tk', upd σa t' .tip, σc, id), rfl, ⟨hw, ?_, ?_, ?_, ?_, hoc⟩, by dsimp only; omega, Sub.refl _, ?_⟩
              · dsimp only; rw [hol]; omega
              · dsimp only; rw [hol, Nat.succ_mul, hk]
              · show rdLens (unpack (b.take ((23 * (W + 1) + 7) / 8))) W (f' + 1) _ _ = _; rw [hB]; exact hR
              · show Rd (upd σa t' .tip) id (b.take ((23 * (W + 1) + 7) / 8)) _ _; rw [hB]; exact r5
              · ((conv => whnf); (repeat ((first | with_reducible refine abr_true rfl ?_ | with_reducible refine abr_false rfl ?_ | with_reducible refine abr_yes rfl ?_ | refine abr_yes (by decide) ?_ | refine abr_no (by decide) ?_ | with_reducible refine abr_same_ne ?_); (conv => whnf))))
                (repeat' first | with_reducible exact EnvLe.refl _ | (refine EnvLe.node ?_ (by first | exact Or.inl rfl | exact Or.inr (Or.inl rfl) | exact Or.inr (Or.inr ⟨nofun, VLe.slice _ _ _⟩)) ?_))
          | false =>
            rw [hbit, if_neg (by simp)] at hR
            ((conv => whnf); (repeat ((first | with_reducible refine abr_true rfl ?_ | with_reducible refine abr_false rfl ?_ | with_reducible refine abr_yes rfl ?_ | refine abr_yes (by decide) ?_ | refine abr_no (by decide) ?_ | with_reducible refine abr_same_ne ?_); (conv => whnf))))
            refine acall (rRest id B _ _ _ r5) ?_
            rintro _ σ6 ⟨rfl, r6⟩
            ((conv => whnf); (repeat ((first | with_reducible refine abr_true rfl ?_ | with_reducible refine abr_false rfl ?_ | with_reducible refine abr_yes rfl ?_ | refine abr_yes (by decide) ?_ | refine abr_no (by decide) ?_ | with_reducible refine abr_same_ne ?_); (conv => whnf))))
            cases hok : restOk (unpack B) (k + (W + 1)) with
            | true =>
              rw [hok, if_pos rfl] at hR
              simp only [if_true]
              ((conv => whnf); (repeat ((first | with_reducible refine abr_true rfl ?_ | with_reducible refine abr_false rfl ?_ | with_reducible refine abr_yes rfl ?_ | refine abr_yes (by decide) ?_ | refine abr_no (by decide) ?_ | with_reducible refine abr_same_ne ?_); (conv => whnf))))
              (repeat ((first | refine aload (by (repeat (first | with_reducible exact upd_same _ _ _ | assumption | rw [upd_ne _ _ (by first | assumption | (apply Ne.symm; assumption))]))) rfl ?_ | refine afit_i64 (by omega) ?_ | refine arem_nonneg (by omega) (by omega) ?_ | refine adiv_i64 (by omega) (by omega) ?_ | refine abr_yes (by omega) ?_ | refine abr_no (by omega) ?_ | refine amin ?_ | refine amax ?_ | refine afit_u64 (by omega) ?_ | refine afit_u8 (by omega) ?_ | rw [List.length_map]); ((conv => whnf); (repeat ((first | with_reducible refine abr_true rfl ?_ | with_reducible refine abr_false rfl ?_ | with_reducible refine abr_yes rfl ?_ | refine abr_yes (by decide) ?_ | refine abr_no (by decide) ?_ | with_reducible refine abr_same_ne ?_); (conv => whnf))))))
              rw [hol]
              refine acall (lSize ((out.length + 1 : Nat) : Int) (W : Int) _) ?_
              rintro _ σ_ ⟨rfl, e_⟩
              obtain rfl := e_.symm
              refine ⟨?_, Ext.refl _⟩
              ((conv => whnf); (repeat ((first | with_reducible refine abr_true rfl ?_ | with_reducible refine abr_false rfl ?_ | with_reducible refine abr_yes rfl ?_ | refine abr_yes (by decide) ?_ | refine abr_no (by decide) ?_ | with_reducible refine abr_same_ne ?_); (conv => whnf))))
              refine aret VLe.tup_sl (r6.sub.trans hoc.sub) ⟨?_, rfl⟩
              rw [← hR, sizeV_ok hW (by omega) (by omega), hk, Nat.succ_mul]
            | false =>
              rw [hok, if_neg (by simp)] at hR
              simp only [Bool.false_eq_true, if_false]
              ((conv => whnf); (repeat ((first | with_reducible refine abr_true rfl ?_ | with_reducible refine abr_false rfl ?_ | with_reducible refine abr_yes rfl ?_ | refine abr_yes (by decide) ?_ | refine abr_no (by decide) ?_ | with_reducible refine abr_same_ne ?_); (conv => whnf))))
              exact aret VLe.tup_sl (r6.sub.trans hoc.sub) ⟨by rw [← hR]; rfl, rfl⟩
      · have c2 : getCode (8 * B.length) (k + 1) (W : Int) = 8 := getCode_short (by omega) (by omega)
        refine acall (rGet id B (k + 1) (W : Int) _ _ r3) ?_
        rintro _ σ4 ⟨rfl, r4⟩
        rw [if_pos (by omega)] at hR
        rw [c2]
        ((conv => whnf); (repeat ((first | with_reducible refine abr_true rfl ?_ | with_reducible refine abr_false rfl ?_ | with_reducible refine abr_yes rfl ?_ | refine abr_yes (by decide) ?_ | refine abr_no (by decide) ?_ | with_reducible refine abr_same_ne ?_); (conv => whnf))))
        exact aret VLe.tup_sl (r4.sub.trans ho.sub) ⟨by rw [← hR]; rfl, rfl⟩
    · have c1 : getCode (8 * B.length) k 1 = 8 := getCode_short (by omega) (by omega)
      refine acall (rGet id B k 1 _ _ r2) ?_
      rintro _ σ3 ⟨rfl, r3⟩
      rw [if_pos (by omega)] at hR
      rw [c1]
      ((conv => whnf); (repeat ((first | with_reducible refine abr_true rfl ?_ | with_reducible refine abr_false rfl ?_ | with_reducible refine abr_yes rfl ?_ | refine abr_yes (by decide) ?_ | refine abr_no (by decide) ?_ | with_reducible refine abr_same_ne ?_); (conv => whnf))))
      exact aret VLe.tup_sl (r3.sub.trans ho.sub) ⟨by rw [← hR]; rfl, rfl⟩
end Go.Proofs.Ythjjkcmiachpcaa
/-
  Packets that are not acknowledged: what bytes are.
-/
namespace Go.Proofs.Ythjjkcmiachpcaa
set_option linter.unusedVariables false
set_option linter.unusedSimpArgs false
open Go Go.Am

def cutF : List Int → List UInt8 → List (List UInt8) → List (List UInt8) × Int
  | [], b, out => if b.length = 0 then ([], 8) else (out ++ [b], 0)
  | n :: l, b, out => if n > b.length then ([], 8) else cutF l (b.drop n.toNat) (out ++ [b.take n.toNat])

set_option maxRecDepth 20000 in
theorem uFields (b : List UInt8) (l : List Int) (t u : Tok) (σ : AHeap) (hb : b.length ≤ 8000) (hl : l.length ≤ 1000) (h0 : ∀ v ∈ l, 0 ≤ v) : ACalls Try.prog i_umd_fields [sl t b, ints u l] σ fun v σ' => v = .tup [lists .none (cutF l b []).1, i64v (cutF l b []).2] ∧ σ' = σ := by
  refine k_umd_fields rfl ?_
  ((conv => whnf); (repeat ((first | with_reducible refine abr_true rfl ?_ | with_reducible refine abr_false rfl ?_ | with_reducible refine abr_yes rfl ?_ | refine abr_yes (by decide) ?_ | refine abr_no (by decide) ?_ | with_reducible refine abr_same_ne ?_); (conv => whnf))))
  refine ascope' (α := Nat × List UInt8 × List (List UInt8) × Tok × AHeap) (fun x => [(s0, sl .none x.2.1), (s6, lists x.2.2.2.1 x.2.2.1), (s7, i64v x.1)]) (fun x => x.2.2.2.2) (fun _ => 0) (fun x => x.1 ≤ l.length ∧ x.2.1.length ≤ 8000 ∧ x.2.2.1.length = x.1 ∧ cutF (l.drop x.1) x.2.1 x.2.2.1 = cutF l b [] ∧ Owned σ x.2.2.2.2 x.2.2.2.1) (fun x => l.length - x.1) ?_ ?_
  · ((conv => whnf); (repeat ((first | with_reducible refine abr_true rfl ?_ | with_reducible refine abr_false rfl ?_ | with_reducible refine abr_yes rfl ?_ | refine abr_yes (by decide) ?_ | refine abr_no (by decide) ?_ | with_reducible refine abr_same_ne ?_); (conv => whnf))))
    intro hlab
    ((conv => whnf); (repeat ((first | with_reducible refine abr_true rfl ?_ | with_reducible refine abr_false rfl ?_ | with_reducible refine abr_yes rfl ?_ | refine abr_yes (by decide) ?_ | refine abr_no (by decide) ?_ | with_reducible refine abr_same_ne ?_); (conv => whnf))))
    refine hlab _ (fun _ _ _ h => h) _ _ _ _ ⟨(0, b, [], .full, σ), rfl, ⟨Nat.zero_le _, hb, rfl, rfl, .full _⟩, rfl, Sub.refl _, ?_⟩
    ((conv => whnf); (repeat ((first | with_reducible refine abr_true rfl ?_ | with_reducible refine abr_false rfl ?_ | with_reducible refine abr_yes rfl ?_ | refine abr_yes (by decide) ?_ | refine abr_no (by decide) ?_ | with_reducible refine abr_same_ne ?_); (conv => whnf))))
    (repeat' first | with_reducible exact EnvLe.refl _ | (refine EnvLe.node ?_ (by first | exact Or.inl rfl | exact Or.inr (Or.inl rfl) | exact Or.inr (Or.inr ⟨nofun, VLe.slice _ _ _⟩)) ?_))
  · rintro ⟨i, r, out, tk, σa⟩ ⟨hi, hr, hol, hcut, ho⟩
    dsimp only at hi hr hol hcut ho ⊢
    refine ⟨_, rfl, ?_⟩
    ((conv => whnf); (repeat ((first | with_reducible refine abr_true rfl ?_ | with_reducible refine abr_false rfl ?_ | with_reducible refine abr_yes rfl ?_ | refine abr_yes (by decide) ?_ | refine abr_no (by decide) ?_ | with_reducible refine abr_same_ne ?_); (conv => whnf))))
    intro hlab
    ((conv => whnf); (repeat ((first | with_reducible refine abr_true rfl ?_ | with_reducible refine abr_false rfl ?_ | with_reducible refine abr_yes rfl ?_ | refine abr_yes (by decide) ?_ | refine abr_no (by decide) ?_ | with_reducible refine abr_same_ne ?_); (conv => whnf))))
    by_cases h : i < l.length
    · have hv := h0 _ (List.getElem_mem h)
      rw [List.drop_eq_getElem_cons h, cutF] at hcut
      (repeat ((first | refine aload (by (repeat (first | with_reducible exact upd_same _ _ _ | assumption | rw [upd_ne _ _ (by first | assumption | (apply Ne.symm; assumption))]))) rfl ?_ | refine afit_i64 (by omega) ?_ | refine arem_nonneg (by omega) (by omega) ?_ | refine adiv_i64 (by omega) (by omega) ?_ | refine abr_yes (by omega) ?_ | refine abr_no (by omega) ?_ | refine amin ?_ | refine amax ?_ | refine afit_u64 (by omega) ?_ | refine afit_u8 (by omega) ?_ | rw [List.length_map]); ((conv => whnf); (repeat ((first | with_reducible refine abr_true rfl ?_ | with_reducible refine abr_false rfl ?_ | with_reducible refine abr_yes rfl ?_ | refine abr_yes (by decide) ?_ | refine abr_no (by decide) ?_ | with_reducible refine abr_same_ne ?_); (conv => whnf))))))
      refine aget (by omega) (get_ints h) ?_
      ((conv => whnf); (repeat ((first | with_reducible refine abr_true rfl ?_ | with_reducible refine abr_false rfl ?_ | with_reducible refine abr_yes rfl ?_ | refine abr_yes (by decide) ?_ | refine abr_no (by decide) ?_ | with_reducible refine abr_same_ne ?_); (conv => whnf))))
      refine acell rfl ?_
      ((conv => whnf); (repeat ((first | with_reducible refine abr_true rfl ?_ | with_reducible refine abr_false rfl ?_ | with_reducible refine abr_yes rfl ?_ | refine abr_yes (by decide) ?_ | refine abr_no (by decide) ?_ | with_reducible refine abr_same_ne ?_); (conv => whnf))))
      rw [List.length_map]
      by_cases h1 : l[i] > r.length
      · rw [if_pos h1] at hcut
        refine abr_yes h1 ?_
        ((conv => whnf); (repeat ((first | with_reducible refine abr_true rfl ?_ | with_reducible refine abr_false rfl ?_ | with_reducible refine abr_yes rfl ?_ | refine abr_yes (by decide) ?_ | refine abr_no (by decide) ?_ | with_reducible refine abr_same_ne ?_); (conv => whnf))))
        exact aret_sl1 ho.sub ⟨by rw [← hcut]; rfl, rfl⟩
      · rw [if_neg h1] at hcut
        refine abr_no h1 ?_
        ((conv => whnf); (repeat ((first | with_reducible refine abr_true rfl ?_ | with_reducible refine abr_false rfl ?_ | with_reducible refine abr_yes rfl ?_ | refine abr_yes (by decide) ?_ | refine abr_no (by decide) ?_ | with_reducible refine abr_same_ne ?_); (conv => whnf))))
        refine aget (by omega) (get_ints h) ?_
        ((conv => whnf); (repeat ((first | with_reducible refine abr_true rfl ?_ | with_reducible refine abr_false rfl ?_ | with_reducible refine abr_yes rfl ?_ | refine abr_yes (by decide) ?_ | refine abr_no (by decide) ?_ | with_reducible refine abr_same_ne ?_); (conv => whnf))))
        refine acell rfl ?_
        ((conv => whnf); (repeat ((first | with_reducible refine abr_true rfl ?_ | with_reducible refine abr_false rfl ?_ | with_reducible refine abr_yes rfl ?_ | refine abr_yes (by decide) ?_ | refine abr_no (by decide) ?_ | with_reducible refine abr_same_ne ?_); (conv => whnf))))
        refine aget (by omega) (get_ints h) ?_
        ((conv => whnf); (repeat ((first | with_reducible refine abr_true rfl ?_ | with_reducible refine abr_false rfl ?_ | with_reducible refine abr_yes rfl ?_ | refine abr_yes (by decide) ?_ | refine abr_no (by decide) ?_ | with_reducible refine abr_same_ne ?_); (conv => whnf))))
        refine acell rfl ?_
        ((conv => whnf); (repeat ((first | with_reducible refine abr_true rfl ?_ | with_reducible refine abr_false rfl ?_ | with_reducible refine abr_yes rfl ?_ | refine abr_yes (by decide) ?_ | refine abr_no (by decide) ?_ | with_reducible refine abr_same_ne ?_); (conv => whnf))))
        rw [List.length_map]
        refine acut (by omega) (by omega) (by omega) ?_
        ((conv => whnf); (repeat ((first | with_reducible refine abr_true rfl ?_ | with_reducible refine abr_false rfl ?_ | with_reducible refine abr_yes rfl ?_ | refine abr_yes (by decide) ?_ | refine abr_no (by decide) ?_ | with_reducible refine abr_same_ne ?_); (conv => whnf))))
        refine ⟨rfl, rfl, ?_⟩
        rw [show (0 : Int).toNat = 0 from rfl, List.drop_zero, ← List.map_take]
        ((conv => whnf); (repeat ((first | with_reducible refine abr_true rfl ?_ | with_reducible refine abr_false rfl ?_ | with_reducible refine abr_yes rfl ?_ | refine abr_yes (by decide) ?_ | refine abr_no (by decide) ?_ | with_reducible refine abr_same_ne ?_); (conv => whnf))))
        refine acall_less (Clone (r.take l[i].toNat) _ _ (by rw [List.length_take]; omega)) ?_
        rintro _ σ4 ⟨tk3, ho3, rfl⟩
        refine ⟨sl .none (r.take l[i].toNat), σa, VLe.slice _ _ _, ho3.sub, ?_, Ext.refl _⟩
        ((conv => whnf); (repeat ((first | with_reducible refine abr_true rfl ?_ | with_reducible refine abr_false rfl ?_ | with_reducible refine abr_yes rfl ?_ | refine abr_yes (by decide) ?_ | refine abr_no (by decide) ?_ | with_reducible refine abr_same_ne ?_); (conv => whnf))))
        refine aapp_sub (ys := [sl .none (r.take l[i].toNat)]) ho (Sub.refl _) (by rw [List.length_map]; show (out.length + 1) * 24 ≤ _; omega) fun tk2 σ5 σ6 ho2 hs2 => ?_
        rw [show List.map (sl .none) out ++ [sl .none (r.take l[i].toNat)] = List.map (sl .none) (out ++ [r.take l[i].toNat]) by simp]
        ((conv => whnf); (repeat ((first | with_reducible refine abr_true rfl ?_ | with_reducible refine abr_false rfl ?_ | with_reducible refine abr_yes rfl ?_ | refine abr_yes (by decide) ?_ | refine abr_no (by decide) ?_ | with_reducible refine abr_same_ne ?_); (conv => whnf))))
        refine aget (by omega) (get_ints h) ?_
        ((conv => whnf); (repeat ((first | with_reducible refine abr_true rfl ?_ | with_reducible refine abr_false rfl ?_ | with_reducible refine abr_yes rfl ?_ | refine abr_yes (by decide) ?_ | refine abr_no (by decide) ?_ | with_reducible refine abr_same_ne ?_); (conv => whnf))))
        refine acell rfl ?_
        ((conv => whnf); (repeat ((first | with_reducible refine abr_true rfl ?_ | with_reducible refine abr_false rfl ?_ | with_reducible refine abr_yes rfl ?_ | refine abr_yes (by decide) ?_ | refine abr_no (by decide) ?_ | with_reducible refine abr_same_ne ?_); (conv => whnf))))
        rw [List.length_map]
        refine acut (by omega) (by omega) (by omega) ?_
        ((conv => whnf); (repeat ((first | with_reducible refine abr_true rfl ?_ | with_reducible refine abr_false rfl ?_ | with_reducible refine abr_yes rfl ?_ | refine abr_yes (by decide) ?_ | refine abr_no (by decide) ?_ | with_reducible refine abr_same_ne ?_); (conv => whnf))))
        (repeat ((first | refine aload (by (repeat (first | with_reducible exact upd_same _ _ _ | assumption | rw [upd_ne _ _ (by first | assumption | (apply Ne.symm; assumption))]))) rfl ?_ | refine afit_i64 (by omega) ?_ | refine arem_nonneg (by omega) (by omega) ?_ | refine adiv_i64 (by omega) (by omega) ?_ | refine abr_yes (by omega) ?_ | refine abr_no (by omega) ?_ | refine amin ?_ | refine amax ?_ | refine afit_u64 (by omega) ?_ | refine afit_u8 (by omega) ?_ | rw [List.length_map]); ((conv => whnf); (repeat ((first | with_reducible refine abr_true rfl ?_ | with_reducible refine abr_false rfl ?_ | with_reducible refine abr_yes rfl ?_ | refine abr_yes (by decide) ?_ | refine abr_no (by decide) ?_ | with_reducible refine abr_same_ne ?_); (conv => whnf))))))
        refine ⟨(i + 1, r.drop l[i].toNat, out ++ [r.take l[i].toNat], tk2, σ6), rfl, ⟨h, ?_, ?_, hcut, ho2⟩, by dsimp only; omega, hs2, ?_⟩
        · dsimp only; rw [List.length_drop]; omega
        · dsimp only; rw [List.length_append]; show _ + 1 = _; omega
        · rw [show ((r.length : Nat) : Int).toNat = r.length by omega, List.take_of_length_le (l := r.map byteV) (by rw [List.length_map]; exact Nat.le_refl _), ← List.map_drop]
          ((conv => whnf); (repeat ((first | with_reducible refine abr_true rfl ?_ | with_reducible refine abr_false rfl ?_ | with_reducible refine abr_yes rfl ?_ | refine abr_yes (by decide) ?_ | refine abr_no (by decide) ?_ | with_reducible refine abr_same_ne ?_); (conv => whnf))))
          (repeat' first | with_reducible exact EnvLe.refl _ | (refine EnvLe.node ?_ (by first | exact Or.inl rfl | exact Or.inr (Or.inl rfl) | exact Or.inr (Or.inr ⟨nofun, VLe.slice _ _ _⟩)) ?_))
    · obtain rfl : i = l.length := by omega
      rw [List.drop_of_length_le (Nat.le_refl _), cutF] at hcut
      (repeat ((first | refine aload (by (repeat (first | with_reducible exact upd_same _ _ _ | assumption | rw [upd_ne _ _ (by first | assumption | (apply Ne.symm; assumption))]))) rfl ?_ | refine afit_i64 (by omega) ?_ | refine arem_nonneg (by omega) (by omega) ?_ | refine adiv_i64 (by omega) (by omega) ?_ | refine abr_yes (by omega) ?_ | refine abr_no (by omega) ?_ | refine amin ?_ | refine amax ?_ | refine afit_u64 (by omega) ?_ | refine afit_u8 (by omega) ?_ | rw [List.length_map]); ((conv => whnf); (repeat ((first | with_reducible refine abr_true rfl ?_ | with_reducible refine abr_false rfl ?_ | with_reducible refine abr_yes rfl ?_ | refine abr_yes (by decide) ?_ | refine abr_no (by decide) ?_ | with_reducible refine abr_same_ne ?_); (conv => whnf))))))
      by_cases h1 : r.length = 0
      · rw [if_pos h1] at hcut
        (repeat ((first | refine aload (by (repeat (first | with_reducible exact upd_same _ _ _ | assumption | rw [upd_ne _ _ (by first | assumption | (apply Ne.symm; assumption))]))) rfl ?_ | refine afit_i64 (by omega) ?_ | refine arem_nonneg (by omega) (by omega) ?_ | refine adiv_i64 (by omega) (by omega) ?_ | refine abr_yes (by omega) ?_ | refine abr_no (by omega) ?_ | refine amin ?_ | refine amax ?_ | refine afit_u64 (by omega) ?_ | refine afit_u8 (by omega) ?_ | rw [List.length_map]); ((conv => whnf); (repeat ((first | with_reducible refine abr_true rfl ?_ | with_reducible refine abr_false rfl ?_ | with_reducible refine abr_yes rfl ?_ | refine abr_yes (by decide) ?_ | refine abr_no (by decide) ?_ | with_reducible refine abr_same_ne ?_); (conv => whnf))))))
        exact aret_sl1 ho.sub ⟨by rw [← hcut]; rfl, rfl⟩
      · rw [if_neg h1] at hcut
        (repeat ((first | refine aload (by (repeat (first | with_reducible exact upd_same _ _ _ | assumption | rw [upd_ne _ _ (by first | assumption | (apply Ne.symm; assumption))]))) rfl ?_ | refine afit_i64 (by omega) ?_ | refine arem_nonneg (by omega) (by omega) ?_ | refine adiv_i64 (by omega) (by omega) ?_ | refine abr_yes (by omega) ?_ | refine abr_no (by omega) ?_ | refine amin ?_ | refine amax ?_ | refine afit_u64 (by omega) ?_ | refine afit_u8 (by omega) ?_ | rw [List.length_map]); ((conv => whnf); (repeat ((first | with_reducible refine abr_true rfl ?_ | with_reducible refine abr_false rfl ?_ | with_reducible refine abr_yes rfl ?_ | refine abr_yes (by decide) ?_ | refine abr_no (by decide) ?_ | with_reducible refine abr_same_ne ?_); (conv => whnf))))))
        refine acall_less (Clone r _ _ (by omega)) ?_
        rintro _ σ4 ⟨tk3, ho3, rfl⟩
        refine ⟨sl .none r, σa, VLe.slice _ _ _, ho3.sub, ?_, Ext.refl _⟩
        ((conv => whnf); (repeat ((first | with_reducible refine abr_true rfl ?_ | with_reducible refine abr_false rfl ?_ | with_reducible refine abr_yes rfl ?_ | refine abr_yes (by decide) ?_ | refine abr_no (by decide) ?_ | with_reducible refine abr_same_ne ?_); (conv => whnf))))
        refine aapp_sub (ys := [sl .none r]) ho (Sub.refl _) (by rw [List.length_map]; show (out.length + 1) * 24 ≤ _; omega) fun tk2 σ5 σ6 ho2 hs2 => ?_
        rw [show List.map (sl .none) out ++ [sl .none r] = List.map (sl .none) (out ++ [r]) by simp]
        ((conv => whnf); (repeat ((first | with_reducible refine abr_true rfl ?_ | with_reducible refine abr_false rfl ?_ | with_reducible refine abr_yes rfl ?_ | refine abr_yes (by decide) ?_ | refine abr_no (by decide) ?_ | with_reducible refine abr_same_ne ?_); (conv => whnf))))
        exact aret_sl1 (hs2.trans ho2.sub) ⟨by rw [← hcut], rfl⟩
end Go.Proofs.Ythjjkcmiachpcaa
/-
  Lengths there and back: plain laws.
-/
namespace Go.Proofs.Ythjjkcmiachpcaa
set_option linter.unusedVariables false
set_option linter.unusedSimpArgs false
open Go Go.Am

theorem writeCode_ok {l : List Int} {w : Int} (h : writeCode l w = 0) : (w = 11 ∨ w = 15) ∧ 1 ≤ l.length ∧ l.length ≤ 23 ∧ ∀ n ∈ l, badLen w.toNat n = false := by
  unfold writeCode at h
  cases e : widthOk w with
  | false => rw [if_pos e] at h; cases h
  | true =>
    rw [e, if_neg (by simp)] at h
    split at h
    · cases h
    · split at h
      · cases h
      · split at h
        · cases h
        · rename_i h0 h23 hb
          refine ⟨widthOk_iff.1 e, by omega, by omega, fun n hn => ?_⟩
          cases hbn : badLen w.toNat n with
          | false => rfl
          | true => exact absurd (List.any_eq_true.2 ⟨n, hn, hbn⟩) hb
theorem writeCode_mk {l : List Int} {w : Int} (hw : w = 11 ∨ w = 15) (h1 : 1 ≤ l.length) (h2 : l.length ≤ 23) (h : ∀ n ∈ l, badLen w.toNat n = false) : writeCode l w = 0 := by
  unfold writeCode
  rw [widthOk_iff.2 hw, if_neg (by simp), if_neg (by omega), if_neg (by omega), if_neg]
  rw [List.any_eq_true]
  rintro ⟨x, hx, hb⟩
  rw [h x hx] at hb; cases hb
theorem goodLen {W : Nat} {n : Int} (h : badLen W n = false) : ∃ v : Nat, n = v ∧ 1 ≤ v ∧ v < 2 ^ W := by
  have := of_decide_eq_false h
  exact ⟨n.toNat, by omega, by omega, by omega⟩

/-- The bits from one length on. -/
theorem lenBits_from (l : List Int) (W i : Nat) : ∀ d, ∃ r, lenBits l W (i + 1 + d) = lenBits l W i ++ ((decide (i + 1 < l.length) :: numBits ((l[i]?.getD 0).toNat) W) ++ r)
  | 0 => ⟨[], by rw [Nat.add_zero, lenBits_succ]; simp⟩
  | d + 1 => by
    obtain ⟨r, hr⟩ := lenBits_from l W i d
    refine ⟨r ++ (decide (i + 1 + d + 1 < l.length) :: numBits ((l[i + 1 + d]?.getD 0).toNat) W), ?_⟩
    rw [show i + 1 + (d + 1) = (i + 1 + d) + 1 by omega, lenBits_succ, hr]
    simp

theorem split_step (y A R : List Bool) (b : Bool) (v W K : Nat) (hy : y = A ++ (b :: (numBits v W ++ R))) (hA : A.length = K) : K + (W + 1) ≤ y.length ∧ (y.drop (K + 1)).take W = numBits v W ∧ bitD y K = b := by
  subst hy; subst hA
  have hn := numBits_length v W
  refine ⟨by simp [hn], ?_, ?_⟩
  · rw [show A ++ b :: (numBits v W ++ R) = (A ++ [b]) ++ (numBits v W ++ R) by simp]
    rw [List.drop_left' (by simp), List.take_left' hn]
  · rw [bitD_append_right (Nat.le_refl _), Nat.sub_self]; rfl

theorem rd_back (l : List Int) (w : Int) (rest : List Bool) (h : writeCode l w = 0) :
    ∀ (f i : Nat), i < l.length → i + (f + 1) = 23 → rdLens (unpack (writeBytes l w) ++ rest) w.toNat (f + 1) (l.take i) (i * (w.toNat + 1)) = (l, ((writeBytes l w).length : Int), 0) := by
  obtain ⟨hw, h1, h2, hg⟩ := writeCode_ok h
  obtain ⟨W, rfl⟩ : ∃ W : Nat, w = W := ⟨w.toNat, by omega⟩
  have hwb : writeBytes l (W : Int) = pack (lenBits l W l.length) := by unfold writeBytes; rw [if_pos h, Int.toNat_natCast]
  rw [hwb, unpack_pack, pack_length, lenBits_length]
  rw [Int.toNat_natCast] at hg ⊢
  have hxl := lenBits_length l W l.length
  have key : ∀ i (hi : i < l.length), ∃ v R, l[i] = ((v : Nat) : Int) ∧ 1 ≤ v ∧ v < 2 ^ W ∧ lenBits l W l.length = lenBits l W i ++ (decide (i + 1 < l.length) :: (numBits v W ++ R)) := by
    intro i hi
    obtain ⟨v, hv, hv1, hv2⟩ := goodLen (hg _ (List.getElem_mem hi))
    obtain ⟨r, hr⟩ := lenBits_from l W i (l.length - (i + 1))
    rw [show i + 1 + (l.length - (i + 1)) = l.length by omega, List.getElem?_eq_getElem hi, Option.getD_some, hv, Int.toNat_natCast] at hr
    exact ⟨v, r, hv, hv1, hv2, by rw [hr]; simp⟩
  intro f
  induction f with
  | zero =>
    intro i hi hf
    obtain ⟨v, R, hv, hv1, hv2, hsplit⟩ := key i hi
    have hlast : ¬ i + 1 < l.length := by omega
    obtain ⟨s1, s2, s3⟩ := split_step (lenBits l W l.length ++ List.replicate (8 * ((l.length * (W + 1) + 7) / 8) - l.length * (W + 1)) false ++ rest) (lenBits l W i) (R ++ (List.replicate (8 * ((l.length * (W + 1) + 7) / 8) - l.length * (W + 1)) false ++ rest)) (decide (i + 1 < l.length)) v W (i * (W + 1)) (by rw [hsplit]; simp) (lenBits_length _ _ _)
    rw [decide_eq_false hlast] at s3
    simp only [rdLens]
    rw [if_neg (by omega), s2, val_numBits, Nat.mod_eq_of_lt hv2, if_neg (by omega), s3, if_neg (by simp), if_pos]
    · rw [← hv, ← take_snoc (List.getElem?_eq_getElem hi), List.take_of_length_le (by omega), ← Nat.succ_mul, show i.succ = l.length by omega]
    · rw [← Nat.succ_mul, show i.succ = l.length by omega]
      refine decide_eq_true ((val_zero _).2 fun b hb => ?_)
      rw [List.append_assoc, List.drop_left' hxl, List.take_append_of_le_length (by rw [List.length_replicate]; unfold pad; omega)] at hb
      exact (List.mem_replicate.1 (List.mem_of_mem_take hb)).2
  | succ f ih =>
    intro i hi hf
    obtain ⟨v, R, hv, hv1, hv2, hsplit⟩ := key i hi
    obtain ⟨s1, s2, s3⟩ := split_step (lenBits l W l.length ++ List.replicate (8 * ((l.length * (W + 1) + 7) / 8) - l.length * (W + 1)) false ++ rest) (lenBits l W i) (R ++ (List.replicate (8 * ((l.length * (W + 1) + 7) / 8) - l.length * (W + 1)) false ++ rest)) (decide (i + 1 < l.length)) v W (i * (W + 1)) (by rw [hsplit]; simp) (lenBits_length _ _ _)
    rw [rdLens]
    rw [if_neg (by omega), s2, val_numBits, Nat.mod_eq_of_lt hv2, if_neg (by omega), s3]
    by_cases hlast : i + 1 < l.length
    · rw [decide_eq_true hlast, if_pos rfl, if_neg (by omega), ← hv, ← take_snoc (List.getElem?_eq_getElem hi), ← Nat.succ_mul]
      exact ih (i + 1) hlast (by omega)
    · rw [decide_eq_false hlast, if_neg (by simp), if_pos]
      · rw [← hv, ← take_snoc (List.getElem?_eq_getElem hi), List.take_of_length_le (by omega), ← Nat.succ_mul, show i.succ = l.length by omega]
      · rw [← Nat.succ_mul, show i.succ = l.length by omega]
        refine decide_eq_true ((val_zero _).2 fun b hb => ?_)
        rw [List.append_assoc, List.drop_left' hxl, List.take_append_of_le_length (by rw [List.length_replicate]; unfold pad; omega)] at hb
        exact (List.mem_replicate.1 (List.mem_of_mem_take hb)).2

theorem read_back (l : List Int) (w : Int) (behind : List UInt8) (h : writeCode l w = 0) : readV (writeBytes l w ++ behind) w = (l, ((writeBytes l w).length : Int), 0) := by
  obtain ⟨hw, h1, h2, hg⟩ := writeCode_ok h
  unfold readV
  rw [widthOk_iff.2 hw, if_neg (by simp), unpack_append]
  have := rd_back l w (unpack behind) h 22 0 (by omega) (by omega)
  rw [Nat.zero_mul] at this
  exact this

theorem numBits_val : ∀ (n : Nat) (l : List Bool), l.length = n → numBits (val 0 l) n = l := by
  intro n
  induction n with
  | zero => intro l hl; rw [List.length_eq_zero_iff.1 hl]; rfl
  | succ n ih =>
    intro l hl
    have hne : l ≠ [] := fun e => by rw [e] at hl; cases hl
    have e : l = l.dropLast ++ [l.getLast hne] := (List.dropLast_concat_getLast hne).symm
    have hdl : l.dropLast.length = n := by rw [List.length_dropLast, hl]; omega
    rw [e, val_snoc, numBits_parts _ n 1]
    have h1 : (2 * val 0 l.dropLast + (l.getLast hne).toNat) / 2 ^ 1 = val 0 l.dropLast := by
      have : (l.getLast hne).toNat ≤ 1 := by cases l.getLast hne <;> decide
      omega
    rw [h1, ih _ hdl]
    congr 1
    show [(2 * val 0 l.dropLast + (l.getLast hne).toNat).testBit 0] = _
    rw [Nat.testBit_zero]
    cases l.getLast hne <;> simp

theorem unpack_take (b : List UInt8) (n : Nat) : unpack (b.take n) = (unpack b).take (8 * n) := by
  have h := unpack_append (b.take n) (b.drop n)
  rw [List.take_append_drop] at h
  have hul := unpack_length (b.take n)
  rw [List.length_take] at hul
  by_cases hn : n ≤ b.length
  · rw [h, List.take_left' (by rw [hul]; omega)]
  · rw [List.take_of_length_le (l := b) (by omega), List.take_of_length_le (by rw [unpack_length]; omega)]

def allMore (W : Nat) (l : List Int) : List Bool := l.flatMap fun v => true :: numBits v.toNat W
theorem lenBits_more (out : List Int) (v : Int) (W : Nat) : ∀ i, i ≤ out.length → lenBits (out ++ [v]) W i = allMore W (out.take i)
  | 0, _ => rfl
  | i + 1, h => by
    rw [lenBits_succ, lenBits_more out v W i (by omega), decide_eq_true (by rw [List.length_append]; show i + 1 < out.length + 1; omega), List.getElem?_append_left (by omega), List.getElem?_eq_getElem (by omega), Option.getD_some, take_snoc (List.getElem?_eq_getElem (by omega))]
    unfold allMore
    rw [List.flatMap_append, List.flatMap_cons, List.flatMap_nil, List.append_nil]
theorem lenBits_last (out : List Int) (v : Int) (W : Nat) : lenBits (out ++ [v]) W (out.length + 1) = allMore W out ++ (false :: numBits v.toNat W) := by
  rw [lenBits_succ, lenBits_more out v W _ (Nat.le_refl _), List.take_length, decide_eq_false (by rw [List.length_append]; show ¬ out.length + 1 < out.length + 1; omega), List.getElem?_append_right (Nat.le_refl _), Nat.sub_self]
  rfl

theorem take_step (x : List Bool) (k W : Nat) (h : k + (W + 1) ≤ x.length) : x.take (k + (W + 1)) = x.take k ++ (bitD x k :: numBits (val 0 ((x.drop (k + 1)).take W)) W) := by
  rw [List.take_add]
  congr 1
  rw [List.drop_eq_getElem_cons (by omega), List.take_succ_cons, bitD_get (by omega), numBits_val W _ (by rw [List.length_take, List.length_drop]; omega)]

theorem rd_ok (x : List Bool) (W : Nat) (hW : W ≤ 60) (m : List Int) (n : Int) : ∀ (f : Nat) (out : List Int) (k : Nat), rdLens x W f out k = (m, n, 0) → out.length + f = 23 → k = out.length * (W + 1) → x.take k = allMore W out → (∀ v ∈ out, badLen W v = false) →
    1 ≤ m.length ∧ m.length ≤ 23 ∧ (∀ v ∈ m, badLen W v = false) ∧ n = ((m.length * (W + 1) + 7) / 8 : Nat) ∧ m.length * (W + 1) ≤ x.length ∧ x.take (m.length * (W + 1)) = lenBits m W m.length ∧ restOk x (m.length * (W + 1)) = true
  | 0, out, k, h, _, _, _, _ => by simp [rdLens] at h
  | f + 1, out, k, h, hf, hk, ht, hg => by
    rw [rdLens] at h
    by_cases h1 : x.length < k + (W + 1)
    · rw [if_pos h1] at h; simp at h
    rw [if_neg h1] at h
    have hv := val_lt ((x.drop (k + 1)).take W)
    rw [show ((x.drop (k + 1)).take W).length = W by rw [List.length_take, List.length_drop]; omega] at hv
    have hts := take_step x k W (by omega)
    generalize val 0 ((x.drop (k + 1)).take W) = v at h hts hv
    by_cases h2 : v = 0
    · rw [if_pos h2] at h; simp at h
    rw [if_neg h2] at h
    have hgood : badLen W (v : Int) = false := decide_eq_false (by omega)
    have hg2 : ∀ u ∈ out ++ [(v : Int)], badLen W u = false := by
      intro u hu
      rcases List.mem_append.1 hu with hu | hu
      · exact hg u hu
      · simp at hu; subst hu; exact hgood
    have hlen : (out ++ [(v : Int)]).length = out.length + 1 := by simp
    have hkk : k + (W + 1) = (out.length + 1) * (W + 1) := by rw [Nat.succ_mul, hk]
    cases hb : bitD x k with
    | true =>
      rw [hb, if_pos rfl] at h
      by_cases h3 : f = 0
      · rw [if_pos h3] at h; simp at h
      rw [if_neg h3] at h
      refine rd_ok x W hW m n f _ _ h (by rw [hlen]; omega) (by rw [hlen]; exact hkk) ?_ hg2
      rw [hts, ht, hb]
      unfold allMore
      rw [List.flatMap_append, List.flatMap_cons, List.flatMap_nil, List.append_nil, Int.toNat_natCast]
    | false =>
      rw [hb, if_neg (by simp)] at h
      split at h
      · rename_i hr
        injection h with h4 h5
        injection h5 with h5 _
        subst h4
        subst h5
        rw [hlen, ← hkk]
        refine ⟨by omega, by omega, hg2, rfl, by omega, ?_, hr⟩
        rw [lenBits_last, hts, ht, hb, Int.toNat_natCast]
      · simp at h

theorem write_back (b : List UInt8) (w : Int) (m : List Int) (n : Int) (h : readV b w = (m, n, 0)) : writeCode m w = 0 ∧ 0 ≤ n ∧ n ≤ b.length ∧ writeBytes m w = b.take n.toNat := by
  unfold readV at h
  cases e : widthOk w with
  | false => rw [if_pos e] at h; simp at h
  | true =>
    have hw := widthOk_iff.1 e
    rw [e, if_neg (by simp)] at h
    obtain ⟨W, rfl⟩ : ∃ W : Nat, w = W := ⟨w.toNat, by omega⟩
    rw [Int.toNat_natCast] at h
    obtain ⟨h1, h2, h3, rfl, h5, h6, h7⟩ := rd_ok (unpack b) W (by omega) m n 23 [] 0 h rfl (by simp) rfl (by simp)
    have hc : writeCode m (W : Int) = 0 := writeCode_mk hw h1 h2 (by rw [Int.toNat_natCast]; exact h3)
    have hul := unpack_length b
    refine ⟨hc, by omega, by omega, ?_⟩
    unfold writeBytes
    rw [if_pos hc, Int.toNat_natCast, Int.toNat_natCast, ← h6]
    generalize m.length * (W + 1) = T at *
    have hlen : ((unpack b).take T).length = T := by rw [List.length_take]; omega
    have hup := unpack_pack ((unpack b).take T)
    rw [hlen] at hup
    have hz : List.replicate (8 * ((T + 7) / 8) - T) false = ((unpack b).drop T).take (8 * ((T + 7) / 8) - T) := by
      have hp : 8 * ((T + 7) / 8) - T = pad T := by unfold pad; omega
      rw [hp]
      have h0 := (val_zero _).1 (of_decide_eq_true h7)
      have hl2 : (((unpack b).drop T).take (pad T)).length = pad T := by rw [List.length_take, List.length_drop]; unfold pad; omega
      exact (List.eq_replicate_iff.2 ⟨hl2, h0⟩).symm
    rw [hz, ← List.take_add, show T + (8 * ((T + 7) / 8) - T) = 8 * ((T + 7) / 8) by omega, ← unpack_take] at hup
    have := congrArg pack hup
    rw [pack_unpack, pack_unpack] at this
    exact this
end Go.Proofs.Ythjjkcmiachpcaa
/-
  Packets that are not acknowledged: what is read.
-/
namespace Go.Proofs.Ythjjkcmiachpcaa
set_option linter.unusedVariables false
set_option linter.unusedSimpArgs false
open Go Go.Am

def umRest (b : List UInt8) (w : Int) : List UInt8 := b.drop (w / 5).toNat
def umMoreB (b : List UInt8) (w : Int) : Bool := bitD (unpack b) (zeros w + 2)
def lensAt (b : List UInt8) (w : Int) : List Int × Int × Int := if umMoreB b w = true then readV (umRest b w) 11 else ([], 0, 0)
def umFi (b : List UInt8) (w : Int) : Nat := val 0 (((unpack b).drop (zeros w)).take 2)
def umSn (b : List UInt8) (w : Int) : Nat := val 0 (((unpack b).drop (zeros w + 3)).take w.toNat)
def umCut (b : List UInt8) (w : Int) : List (List UInt8) × Int := cutF (lensAt b w).1 ((umRest b w).drop (lensAt b w).2.1.toNat) []
abbrev none3 : Nat × Nat × List (List UInt8) := (0, 0, [])
def readU (b : List UInt8) (w : Int) : (Nat × Nat × List (List UInt8)) × Int :=
  if umWidth w = false then (none3, 9) else if b.length > 4000 then (none3, 2) else if (b.length : Int) < w / 5 then (none3, 8)
  else if val 0 ((unpack b).take (zeros w)) ≠ 0 then (none3, 3) else if (lensAt b w).2.2 ≠ 0 then (none3, (lensAt b w).2.2)
  else if (umCut b w).2 ≠ 0 then (none3, (umCut b w).2) else ((umFi b w, umSn b w, (umCut b w).1), 0)
abbrev pk3 (p : Nat × Nat × List (List UInt8)) : AVal := pkV (p.1 : Int) (p.2.1 : Int) p.2.2
theorem readV_ok {b : List UInt8} {w : Int} (h : (readV b w).2.2 = 0) : (∀ v ∈ (readV b w).1, 0 ≤ v) ∧ 0 ≤ (readV b w).2.1 ∧ (readV b w).2.1 ≤ b.length := by
  obtain ⟨h1, h2, h3, h4⟩ := write_back b w (readV b w).1 (readV b w).2.1 (Prod.ext rfl (Prod.ext rfl h))
  obtain ⟨_, _, _, h5⟩ := writeCode_ok h1
  refine ⟨fun v hv => ?_, h2, h3⟩
  obtain ⟨k, rfl, _, _⟩ := goodLen (h5 v hv)
  omega

theorem aret_pk {σ σ2 : AHeap} {a b : AVal} {l : List AVal} {tk : Tok} {s : Nat} {c : AVal} {Q : AVal → AHeap → Prop} (hs : Sub σ σ2) (h : Q (.tup [.agg [a, b, .slice s l .none], c]) σ2) : ARet (.tup [.agg [a, b, .slice s l tk], c]) σ Q :=
  aret (VLe.tup (VLe.cons (fun κ v k => by cases k with | agg k => exact .agg (VLe.cons (VLe.refl _) (VLe.cons (VLe.refl _) (VLe.cons (VLe.slice _ _ _) fun _ _ h => h)) _ _ k)) fun _ _ h => h)) hs h

set_option maxRecDepth 20000 in
set_option maxHeartbeats 1000000 in
theorem uRead (b : List UInt8) (t : Tok) (w : Int) (σ : AHeap) (hl : b.length ≤ 140737488355320) : ACalls Try.prog i_umd_Read [sl t b, i64v w] σ fun v σ' => v = .tup [pk3 (readU b w).1, i64v (readU b w).2] ∧ σ' = σ := by
  refine k_umd_Read rfl ?_
  ((conv => whnf); (repeat ((first | with_reducible refine abr_true rfl ?_ | with_reducible refine abr_false rfl ?_ | with_reducible refine abr_yes rfl ?_ | refine abr_yes (by decide) ?_ | refine abr_no (by decide) ?_ | with_reducible refine abr_same_ne ?_); (conv => whnf))))
  refine anew rfl fun id hid => ?_
  generalize hσ0 : upd σ id (.cells [i64v 0, i64v 0, .slice 1 [] .full]) = σ0
  have hs : Sub σ0 σ := by rw [← hσ0]; exact Sub.upd_fresh _ hid
  have hc0 : σ0 id = some (.cells [i64v 0, i64v 0, .slice 1 [] .full]) := by rw [← hσ0]; exact upd_same _ _ _
  ((conv => whnf); (repeat ((first | with_reducible refine abr_true rfl ?_ | with_reducible refine abr_false rfl ?_ | with_reducible refine abr_yes rfl ?_ | refine abr_yes (by decide) ?_ | refine abr_no (by decide) ?_ | with_reducible refine abr_same_ne ?_); (conv => whnf))))
  refine acall (uIsWidth w _) ?_
  rintro _ σ_ ⟨rfl, e_⟩
  obtain rfl := e_.symm
  refine ⟨?_, Ext.refl _⟩
  ((conv => whnf); (repeat ((first | with_reducible refine abr_true rfl ?_ | with_reducible refine abr_false rfl ?_ | with_reducible refine abr_yes rfl ?_ | refine abr_yes (by decide) ?_ | refine abr_no (by decide) ?_ | with_reducible refine abr_same_ne ?_); (conv => whnf))))
  by_cases hw : umWidth w = true
  case neg =>
    have eq : readU b w = (none3, 9) := by unfold readU; rw [if_pos (Bool.eq_false_iff.2 hw)]
    rw [Bool.eq_false_iff.2 hw]
    ((conv => whnf); (repeat ((first | with_reducible refine abr_true rfl ?_ | with_reducible refine abr_false rfl ?_ | with_reducible refine abr_yes rfl ?_ | refine abr_yes (by decide) ?_ | refine abr_no (by decide) ?_ | with_reducible refine abr_same_ne ?_); (conv => whnf))))
    refine astore (xs := [i64v 0, i64v 0, .slice 1 [] .full]) (l := [i64v 0, i64v 0, .slice 1 [] .full]) hc0 (Nat.le_of_ble_eq_true rfl) rfl rfl ?_
    ((conv => whnf); (repeat ((first | with_reducible refine abr_true rfl ?_ | with_reducible refine abr_false rfl ?_ | with_reducible refine abr_yes rfl ?_ | refine abr_yes (by decide) ?_ | refine abr_no (by decide) ?_ | with_reducible refine abr_same_ne ?_); (conv => whnf))))
    refine aloads (l := [i64v 0, i64v 0, .slice 1 [] .full]) (upd_same _ _ _) (by exact Nat.le_refl 3) rfl ?_
    ((conv => whnf); (repeat ((first | with_reducible refine abr_true rfl ?_ | with_reducible refine abr_false rfl ?_ | with_reducible refine abr_yes rfl ?_ | refine abr_yes (by decide) ?_ | refine abr_no (by decide) ?_ | with_reducible refine abr_same_ne ?_); (conv => whnf))))
    exact aret_pk ((Sub.upd hs id _).trans (Sub.upd_fresh _ hid)) ⟨by rw [eq]; rfl, rfl⟩
  rw [hw]
  have hw2 := umWidth_iff.1 hw
  ((conv => whnf); (repeat ((first | with_reducible refine abr_true rfl ?_ | with_reducible refine abr_false rfl ?_ | with_reducible refine abr_yes rfl ?_ | refine abr_yes (by decide) ?_ | refine abr_no (by decide) ?_ | with_reducible refine abr_same_ne ?_); (conv => whnf))))
  by_cases h1 : b.length > 4000
  · have eq : readU b w = (none3, 2) := by unfold readU; rw [hw, if_neg (by simp), if_pos h1]
    (repeat ((first | refine aload (by (repeat (first | with_reducible exact upd_same _ _ _ | assumption | rw [upd_ne _ _ (by first | assumption | (apply Ne.symm; assumption))]))) rfl ?_ | refine afit_i64 (by omega) ?_ | refine arem_nonneg (by omega) (by omega) ?_ | refine adiv_i64 (by omega) (by omega) ?_ | refine abr_yes (by omega) ?_ | refine abr_no (by omega) ?_ | refine amin ?_ | refine amax ?_ | refine afit_u64 (by omega) ?_ | refine afit_u8 (by omega) ?_ | rw [List.length_map]); ((conv => whnf); (repeat ((first | with_reducible refine abr_true rfl ?_ | with_reducible refine abr_false rfl ?_ | with_reducible refine abr_yes rfl ?_ | refine abr_yes (by decide) ?_ | refine abr_no (by decide) ?_ | with_reducible refine abr_same_ne ?_); (conv => whnf))))))
    refine astore (xs := [i64v 0, i64v 0, .slice 1 [] .full]) (l := [i64v 0, i64v 0, .slice 1 [] .full]) hc0 (Nat.le_of_ble_eq_true rfl) rfl rfl ?_
    ((conv => whnf); (repeat ((first | with_reducible refine abr_true rfl ?_ | with_reducible refine abr_false rfl ?_ | with_reducible refine abr_yes rfl ?_ | refine abr_yes (by decide) ?_ | refine abr_no (by decide) ?_ | with_reducible refine abr_same_ne ?_); (conv => whnf))))
    refine aloads (l := [i64v 0, i64v 0, .slice 1 [] .full]) (upd_same _ _ _) (by exact Nat.le_refl 3) rfl ?_
    ((conv => whnf); (repeat ((first | with_reducible refine abr_true rfl ?_ | with_reducible refine abr_false rfl ?_ | with_reducible refine abr_yes rfl ?_ | refine abr_yes (by decide) ?_ | refine abr_no (by decide) ?_ | with_reducible refine abr_same_ne ?_); (conv => whnf))))
    exact aret_pk ((Sub.upd hs id _).trans (Sub.upd_fresh _ hid)) ⟨by rw [eq]; rfl, rfl⟩
  (repeat ((first | refine aload (by (repeat (first | with_reducible exact upd_same _ _ _ | assumption | rw [upd_ne _ _ (by first | assumption | (apply Ne.symm; assumption))]))) rfl ?_ | refine afit_i64 (by omega) ?_ | refine arem_nonneg (by omega) (by omega) ?_ | refine adiv_i64 (by omega) (by omega) ?_ | refine abr_yes (by omega) ?_ | refine abr_no (by omega) ?_ | refine amin ?_ | refine amax ?_ | refine afit_u64 (by omega) ?_ | refine afit_u8 (by omega) ?_ | rw [List.length_map]); ((conv => whnf); (repeat ((first | with_reducible refine abr_true rfl ?_ | with_reducible refine abr_false rfl ?_ | with_reducible refine abr_yes rfl ?_ | refine abr_yes (by decide) ?_ | refine abr_no (by decide) ?_ | with_reducible refine abr_same_ne ?_); (conv => whnf))))))
  refine acall (uHead w _ (by omega)) ?_
  rintro _ σ_ ⟨rfl, e_⟩
  obtain rfl := e_.symm
  refine ⟨?_, Ext.refl _⟩
  ((conv => whnf); (repeat ((first | with_reducible refine abr_true rfl ?_ | with_reducible refine abr_false rfl ?_ | with_reducible refine abr_yes rfl ?_ | refine abr_yes (by decide) ?_ | refine abr_no (by decide) ?_ | with_reducible refine abr_same_ne ?_); (conv => whnf))))
  (repeat ((first | refine aload (by (repeat (first | with_reducible exact upd_same _ _ _ | assumption | rw [upd_ne _ _ (by first | assumption | (apply Ne.symm; assumption))]))) rfl ?_ | refine afit_i64 (by omega) ?_ | refine arem_nonneg (by omega) (by omega) ?_ | refine adiv_i64 (by omega) (by omega) ?_ | refine abr_yes (by omega) ?_ | refine abr_no (by omega) ?_ | refine amin ?_ | refine amax ?_ | refine afit_u64 (by omega) ?_ | refine afit_u8 (by omega) ?_ | rw [List.length_map]); ((conv => whnf); (repeat ((first | with_reducible refine abr_true rfl ?_ | with_reducible refine abr_false rfl ?_ | with_reducible refine abr_yes rfl ?_ | refine abr_yes (by decide) ?_ | refine abr_no (by decide) ?_ | with_reducible refine abr_same_ne ?_); (conv => whnf))))))
  by_cases h2 : (b.length : Int) < w / 5
  · have eq : readU b w = (none3, 8) := by unfold readU; rw [hw, if_neg (by simp), if_neg h1, if_pos h2]
    (repeat ((first | refine aload (by (repeat (first | with_reducible exact upd_same _ _ _ | assumption | rw [upd_ne _ _ (by first | assumption | (apply Ne.symm; assumption))]))) rfl ?_ | refine afit_i64 (by omega) ?_ | refine arem_nonneg (by omega) (by omega) ?_ | refine adiv_i64 (by omega) (by omega) ?_ | refine abr_yes (by omega) ?_ | refine abr_no (by omega) ?_ | refine amin ?_ | refine amax ?_ | refine afit_u64 (by omega) ?_ | refine afit_u8 (by omega) ?_ | rw [List.length_map]); ((conv => whnf); (repeat ((first | with_reducible refine abr_true rfl ?_ | with_reducible refine abr_false rfl ?_ | with_reducible refine abr_yes rfl ?_ | refine abr_yes (by decide) ?_ | refine abr_no (by decide) ?_ | with_reducible refine abr_same_ne ?_); (conv => whnf))))))
    refine astore (xs := [i64v 0, i64v 0, .slice 1 [] .full]) (l := [i64v 0, i64v 0, .slice 1 [] .full]) hc0 (Nat.le_of_ble_eq_true rfl) rfl rfl ?_
    ((conv => whnf); (repeat ((first | with_reducible refine abr_true rfl ?_ | with_reducible refine abr_false rfl ?_ | with_reducible refine abr_yes rfl ?_ | refine abr_yes (by decide) ?_ | refine abr_no (by decide) ?_ | with_reducible refine abr_same_ne ?_); (conv => whnf))))
    refine aloads (l := [i64v 0, i64v 0, .slice 1 [] .full]) (upd_same _ _ _) (by exact Nat.le_refl 3) rfl ?_
    ((conv => whnf); (repeat ((first | with_reducible refine abr_true rfl ?_ | with_reducible refine abr_false rfl ?_ | with_reducible refine abr_yes rfl ?_ | refine abr_yes (by decide) ?_ | refine abr_no (by decide) ?_ | with_reducible refine abr_same_ne ?_); (conv => whnf))))
    exact aret_pk ((Sub.upd hs id _).trans (Sub.upd_fresh _ hid)) ⟨by rw [eq]; rfl, rfl⟩
  (repeat ((first | refine aload (by (repeat (first | with_reducible exact upd_same _ _ _ | assumption | rw [upd_ne _ _ (by first | assumption | (apply Ne.symm; assumption))]))) rfl ?_ | refine afit_i64 (by omega) ?_ | refine arem_nonneg (by omega) (by omega) ?_ | refine adiv_i64 (by omega) (by omega) ?_ | refine abr_yes (by omega) ?_ | refine abr_no (by omega) ?_ | refine amin ?_ | refine amax ?_ | refine afit_u64 (by omega) ?_ | refine afit_u8 (by omega) ?_ | rw [List.length_map]); ((conv => whnf); (repeat ((first | with_reducible refine abr_true rfl ?_ | with_reducible refine abr_false rfl ?_ | with_reducible refine abr_yes rfl ?_ | refine abr_yes (by decide) ?_ | refine abr_no (by decide) ?_ | with_reducible refine abr_same_ne ?_); (conv => whnf))))))
  refine acall (rRead b _ _ (by omega)) ?_
  rintro _ σ1 ⟨rid, rfl, r1⟩
  refine ⟨?_, r1.ext⟩
  rw [List.take_of_length_le (by omega)] at r1
  ((conv => whnf); (repeat ((first | with_reducible refine abr_true rfl ?_ | with_reducible refine abr_false rfl ?_ | with_reducible refine abr_yes rfl ?_ | refine abr_yes (by decide) ?_ | refine abr_no (by decide) ?_ | with_reducible refine abr_same_ne ?_); (conv => whnf))))
  refine acall (uHead w _ (by omega)) ?_
  rintro _ σ_ ⟨rfl, e_⟩
  obtain rfl := e_.symm
  refine ⟨?_, Ext.refl _⟩
  ((conv => whnf); (repeat ((first | with_reducible refine abr_true rfl ?_ | with_reducible refine abr_false rfl ?_ | with_reducible refine abr_yes rfl ?_ | refine abr_yes (by decide) ?_ | refine abr_no (by decide) ?_ | with_reducible refine abr_same_ne ?_); (conv => whnf))))
  (repeat ((first | refine aload (by (repeat (first | with_reducible exact upd_same _ _ _ | assumption | rw [upd_ne _ _ (by first | assumption | (apply Ne.symm; assumption))]))) rfl ?_ | refine afit_i64 (by omega) ?_ | refine arem_nonneg (by omega) (by omega) ?_ | refine adiv_i64 (by omega) (by omega) ?_ | refine abr_yes (by omega) ?_ | refine abr_no (by omega) ?_ | refine amin ?_ | refine amax ?_ | refine afit_u64 (by omega) ?_ | refine afit_u8 (by omega) ?_ | rw [List.length_map]); ((conv => whnf); (repeat ((first | with_reducible refine abr_true rfl ?_ | with_reducible refine abr_false rfl ?_ | with_reducible refine abr_yes rfl ?_ | refine abr_yes (by decide) ?_ | refine abr_no (by decide) ?_ | with_reducible refine abr_same_ne ?_); (conv => whnf))))))
  have hz : zeros w ≤ 3 := by unfold zeros; split <;> omega
  have hz2 : (8 : Int) * (w / 5) - 3 - w = ((zeros w : Nat) : Int) := by
    unfold zeros
    rcases hw2 with rfl | rfl
    · rfl
    · rfl
  obtain ⟨W, rfl⟩ : ∃ W : Nat, w = W := ⟨w.toNat, by omega⟩
  have hlen : zeros (W : Int) + 3 + W ≤ 8 * b.length := by omega
  have hul := unpack_length b
  rw [hz2]
  have c1 : getCode (8 * b.length) 0 ((zeros (W : Int) : Nat) : Int) = 0 := getCode_fine (by omega) (by omega)
  refine acall (rGet rid b 0 ((zeros (W : Int) : Nat) : Int) _ _ r1) ?_
  rintro _ σ2 ⟨rfl, r2⟩
  rw [getAt_fine c1, Int.toNat_natCast, Nat.zero_add] at r2
  rw [c1, getVal_fine (by rw [hul]; exact c1), Int.toNat_natCast, List.drop_zero]
  ((conv => whnf); (repeat ((first | with_reducible refine abr_true rfl ?_ | with_reducible refine abr_false rfl ?_ | with_reducible refine abr_yes rfl ?_ | refine abr_yes (by decide) ?_ | refine abr_no (by decide) ?_ | with_reducible refine abr_same_ne ?_); (conv => whnf))))
  have c2 : getCode (8 * b.length) (zeros (W : Int)) 2 = 0 := getCode_fine (by omega) (by omega)
  refine acall (rGet rid b (zeros (W : Int)) 2 _ _ r2) ?_
  rintro _ σ3 ⟨rfl, r3⟩
  rw [getAt_fine c2, show (2 : Int).toNat = 2 from rfl] at r3
  rw [c2, getVal_fine (by rw [hul]; exact c2), show (2 : Int).toNat = 2 from rfl]
  ((conv => whnf); (repeat ((first | with_reducible refine abr_true rfl ?_ | with_reducible refine abr_false rfl ?_ | with_reducible refine abr_yes rfl ?_ | refine abr_yes (by decide) ?_ | refine abr_no (by decide) ?_ | with_reducible refine abr_same_ne ?_); (conv => whnf))))
  have c3 : getCode (8 * b.length) (zeros (W : Int) + 2) 1 = 0 := getCode_fine (by omega) (by omega)
  refine acall (rGet rid b (zeros (W : Int) + 2) 1 _ _ r3) ?_
  rintro _ σ4 ⟨rfl, r4⟩
  rw [getAt_fine c3, show (1 : Int).toNat = 1 from rfl] at r4
  rw [c3, getVal_fine (by rw [hul]; exact c3), show (1 : Int).toNat = 1 from rfl, take_one (by omega)]
  ((conv => whnf); (repeat ((first | with_reducible refine abr_true rfl ?_ | with_reducible refine abr_false rfl ?_ | with_reducible refine abr_yes rfl ?_ | refine abr_yes (by decide) ?_ | refine abr_no (by decide) ?_ | with_reducible refine abr_same_ne ?_); (conv => whnf))))
  have c4 : getCode (8 * b.length) (zeros (W : Int) + 2 + 1) (W : Int) = 0 := getCode_fine (by omega) (by omega)
  refine acall (rGet rid b (zeros (W : Int) + 2 + 1) (W : Int) _ _ r4) ?_
  rintro _ σ5 ⟨rfl, r5⟩
  rw [c4, getVal_fine (by rw [hul]; exact c4), Int.toNat_natCast]
  ((conv => whnf); (repeat ((first | with_reducible refine abr_true rfl ?_ | with_reducible refine abr_false rfl ?_ | with_reducible refine abr_yes rfl ?_ | refine abr_yes (by decide) ?_ | refine abr_no (by decide) ?_ | with_reducible refine abr_same_ne ?_); (conv => whnf))))
  have hs5 : Sub σ5 σ0 := r5.sub
  have hc5 : σ5 id = some (.cells [i64v 0, i64v 0, .slice 1 [] .full]) := hs5 _ _ hc0
  have hfi : val 0 (((unpack b).drop (zeros (W : Int))).take 2) = umFi b (W : Int) := rfl
  have hsn : val 0 (((unpack b).drop (zeros (W : Int) + 2 + 1)).take W) = umSn b (W : Int) := by unfold umSn; rw [Int.toNat_natCast]
  have hmo : bitD (unpack b) (zeros (W : Int) + 2) = umMoreB b (W : Int) := rfl
  have hfl : umFi b (W : Int) < 4 := by
    have := val_lt (((unpack b).drop (zeros (W : Int))).take 2)
    have h2 : (((unpack b).drop (zeros (W : Int))).take 2).length = 2 := by rw [List.length_take, List.length_drop]; omega
    rw [h2] at this; exact this
  have hsl : umSn b (W : Int) < 2 ^ 10 := by
    rw [← hsn]
    have := val_lt (((unpack b).drop (zeros (W : Int) + 2 + 1)).take W)
    refine Nat.lt_of_lt_of_le this (Nat.pow_le_pow_right (by omega) ?_)
    rw [List.length_take]; omega
  rw [hfi, hsn, hmo]
  by_cases h3 : val 0 ((unpack b).take (zeros (W : Int))) = 0
  case neg =>
    have eq : readU b (W : Int) = (none3, 3) := by unfold readU; rw [hw, if_neg (by simp), if_neg h1, if_neg h2, if_pos h3]
    refine abr_yes (by omega) ?_
    ((conv => whnf); (repeat ((first | with_reducible refine abr_true rfl ?_ | with_reducible refine abr_false rfl ?_ | with_reducible refine abr_yes rfl ?_ | refine abr_yes (by decide) ?_ | refine abr_no (by decide) ?_ | with_reducible refine abr_same_ne ?_); (conv => whnf))))
    refine astore (xs := [i64v 0, i64v 0, .slice 1 [] .full]) (l := [i64v 0, i64v 0, .slice 1 [] .full]) hc5 (Nat.le_of_ble_eq_true rfl) rfl rfl ?_
    ((conv => whnf); (repeat ((first | with_reducible refine abr_true rfl ?_ | with_reducible refine abr_false rfl ?_ | with_reducible refine abr_yes rfl ?_ | refine abr_yes (by decide) ?_ | refine abr_no (by decide) ?_ | with_reducible refine abr_same_ne ?_); (conv => whnf))))
    refine aloads (l := [i64v 0, i64v 0, .slice 1 [] .full]) (upd_same _ _ _) (by exact Nat.le_refl 3) rfl ?_
    ((conv => whnf); (repeat ((first | with_reducible refine abr_true rfl ?_ | with_reducible refine abr_false rfl ?_ | with_reducible refine abr_yes rfl ?_ | refine abr_yes (by decide) ?_ | refine abr_no (by decide) ?_ | with_reducible refine abr_same_ne ?_); (conv => whnf))))
    exact aret_pk ((Sub.upd (hs5.trans hs) id _).trans (Sub.upd_fresh _ hid)) ⟨by rw [eq]; rfl, rfl⟩
  refine abr_no (by omega) ?_
  ((conv => whnf); (repeat ((first | with_reducible refine abr_true rfl ?_ | with_reducible refine abr_false rfl ?_ | with_reducible refine abr_yes rfl ?_ | refine abr_yes (by decide) ?_ | refine abr_no (by decide) ?_ | with_reducible refine abr_same_ne ?_); (conv => whnf))))
  refine acall (uHead (W : Int) _ (by omega)) ?_
  rintro _ σ_ ⟨rfl, e_⟩
  obtain rfl := e_.symm
  refine ⟨?_, Ext.refl _⟩
  ((conv => whnf); (repeat ((first | with_reducible refine abr_true rfl ?_ | with_reducible refine abr_false rfl ?_ | with_reducible refine abr_yes rfl ?_ | refine abr_yes (by decide) ?_ | refine abr_no (by decide) ?_ | with_reducible refine abr_same_ne ?_); (conv => whnf))))
  (repeat ((first | refine aload (by (repeat (first | with_reducible exact upd_same _ _ _ | assumption | rw [upd_ne _ _ (by first | assumption | (apply Ne.symm; assumption))]))) rfl ?_ | refine afit_i64 (by omega) ?_ | refine arem_nonneg (by omega) (by omega) ?_ | refine adiv_i64 (by omega) (by omega) ?_ | refine abr_yes (by omega) ?_ | refine abr_no (by omega) ?_ | refine amin ?_ | refine amax ?_ | refine afit_u64 (by omega) ?_ | refine afit_u8 (by omega) ?_ | rw [List.length_map]); ((conv => whnf); (repeat ((first | with_reducible refine abr_true rfl ?_ | with_reducible refine abr_false rfl ?_ | with_reducible refine abr_yes rfl ?_ | refine abr_yes (by decide) ?_ | refine abr_no (by decide) ?_ | with_reducible refine abr_same_ne ?_); (conv => whnf))))))
  refine acut (by omega) (by omega) (by omega) ?_
  ((conv => whnf); (repeat ((first | with_reducible refine abr_true rfl ?_ | with_reducible refine abr_false rfl ?_ | with_reducible refine abr_yes rfl ?_ | refine abr_yes (by decide) ?_ | refine abr_no (by decide) ?_ | with_reducible refine abr_same_ne ?_); (conv => whnf))))
  rw [show ((b.length : Nat) : Int).toNat = b.length by omega, List.take_of_length_le (l := b.map byteV) (by rw [List.length_map]; exact Nat.le_refl _), ← List.map_drop, show b.drop ((W : Int) / 5).toNat = umRest b (W : Int) from rfl]
  have hrl : (umRest b (W : Int)).length ≤ 4000 := by unfold umRest; rw [List.length_drop]; omega
  have eq0 : readU b (W : Int) = if (lensAt b (W : Int)).2.2 ≠ 0 then (none3, (lensAt b (W : Int)).2.2) else if (umCut b (W : Int)).2 ≠ 0 then (none3, (umCut b (W : Int)).2) else ((umFi b (W : Int), umSn b (W : Int), (umCut b (W : Int)).1), 0) := by
    unfold readU; rw [hw, if_neg (by simp), if_neg h1, if_neg h2, if_neg (fun h => h h3)]
  generalize umFi b (W : Int) = fi at *
  generalize umSn b (W : Int) = sn at *
  cases hm : umMoreB b (W : Int) with
  | true =>
    have hla : lensAt b (W : Int) = readV (umRest b (W : Int)) 11 := by unfold lensAt; rw [if_pos hm]
    have hcut : umCut b (W : Int) = cutF (readV (umRest b (W : Int)) 11).1 ((umRest b (W : Int)).drop (readV (umRest b (W : Int)) 11).2.1.toNat) [] := by unfold umCut; rw [hla]
    rw [hla] at eq0
    ((conv => whnf); (repeat ((first | with_reducible refine abr_true rfl ?_ | with_reducible refine abr_false rfl ?_ | with_reducible refine abr_yes rfl ?_ | refine abr_yes (by decide) ?_ | refine abr_no (by decide) ?_ | with_reducible refine abr_same_ne ?_); (conv => whnf))))
    refine acall (lRead (umRest b (W : Int)) _ 11 _ (by omega)) ?_
    rintro _ σ_ ⟨rfl, e_⟩
    obtain rfl := e_.symm
    refine ⟨?_, Ext.refl _⟩
    ((conv => whnf); (repeat ((first | with_reducible refine abr_true rfl ?_ | with_reducible refine abr_false rfl ?_ | with_reducible refine abr_yes rfl ?_ | refine abr_yes (by decide) ?_ | refine abr_no (by decide) ?_ | with_reducible refine abr_same_ne ?_); (conv => whnf))))
    have hlen23 := readV_len (umRest b (W : Int)) 11
    by_cases h4 : (readV (umRest b (W : Int)) 11).2.2 = 0
    case neg =>
      have eq : readU b (W : Int) = (none3, (readV (umRest b (W : Int)) 11).2.2) := by rw [eq0, if_pos h4]
      refine abr_yes h4 ?_
      ((conv => whnf); (repeat ((first | with_reducible refine abr_true rfl ?_ | with_reducible refine abr_false rfl ?_ | with_reducible refine abr_yes rfl ?_ | refine abr_yes (by decide) ?_ | refine abr_no (by decide) ?_ | with_reducible refine abr_same_ne ?_); (conv => whnf))))
      refine astore (xs := [i64v 0, i64v 0, .slice 1 [] .full]) (l := [i64v 0, i64v 0, .slice 1 [] .full]) hc5 (Nat.le_of_ble_eq_true rfl) rfl rfl ?_
      ((conv => whnf); (repeat ((first | with_reducible refine abr_true rfl ?_ | with_reducible refine abr_false rfl ?_ | with_reducible refine abr_yes rfl ?_ | refine abr_yes (by decide) ?_ | refine abr_no (by decide) ?_ | with_reducible refine abr_same_ne ?_); (conv => whnf))))
      refine aloads (l := [i64v 0, i64v 0, .slice 1 [] .full]) (upd_same _ _ _) (by exact Nat.le_refl 3) rfl ?_
      ((conv => whnf); (repeat ((first | with_reducible refine abr_true rfl ?_ | with_reducible refine abr_false rfl ?_ | with_reducible refine abr_yes rfl ?_ | refine abr_yes (by decide) ?_ | refine abr_no (by decide) ?_ | with_reducible refine abr_same_ne ?_); (conv => whnf))))
      exact aret_pk ((Sub.upd (hs5.trans hs) id _).trans (Sub.upd_fresh _ hid)) ⟨by rw [eq]; rfl, rfl⟩
    obtain ⟨q1, q2, q3⟩ := readV_ok h4
    rw [h4] at eq0
    refine abr_no (fun h => h h4) ?_
    ((conv => whnf); (repeat ((first | with_reducible refine abr_true rfl ?_ | with_reducible refine abr_false rfl ?_ | with_reducible refine abr_yes rfl ?_ | refine abr_yes (by decide) ?_ | refine abr_no (by decide) ?_ | with_reducible refine abr_same_ne ?_); (conv => whnf))))
    rw [List.length_map]
    refine acut (by omega) (by omega) (by omega) ?_
    ((conv => whnf); (repeat ((first | with_reducible refine abr_true rfl ?_ | with_reducible refine abr_false rfl ?_ | with_reducible refine abr_yes rfl ?_ | refine abr_yes (by decide) ?_ | refine abr_no (by decide) ?_ | with_reducible refine abr_same_ne ?_); (conv => whnf))))
    rw [show (((umRest b (W : Int)).length : Nat) : Int).toNat = (umRest b (W : Int)).length by omega, List.take_of_length_le (l := (umRest b (W : Int)).map byteV) (by rw [List.length_map]; exact Nat.le_refl _), ← List.map_drop]
    refine acall (uFields ((umRest b (W : Int)).drop (readV (umRest b (W : Int)) 11).2.1.toNat) (readV (umRest b (W : Int)) 11).1 _ .none _ (by rw [List.length_drop]; omega) (by omega) q1) ?_
    rintro _ σ_ ⟨rfl, e_⟩
    obtain rfl := e_.symm
    refine ⟨?_, Ext.refl _⟩
    ((conv => whnf); (repeat ((first | with_reducible refine abr_true rfl ?_ | with_reducible refine abr_false rfl ?_ | with_reducible refine abr_yes rfl ?_ | refine abr_yes (by decide) ?_ | refine abr_no (by decide) ?_ | with_reducible refine abr_same_ne ?_); (conv => whnf))))
    rw [← hcut]
    by_cases h5 : (umCut b (W : Int)).2 = 0
    case neg =>
      have eq : readU b (W : Int) = (none3, (umCut b (W : Int)).2) := by rw [eq0, if_neg (by simp), if_pos h5]
      refine abr_yes h5 ?_
      ((conv => whnf); (repeat ((first | with_reducible refine abr_true rfl ?_ | with_reducible refine abr_false rfl ?_ | with_reducible refine abr_yes rfl ?_ | refine abr_yes (by decide) ?_ | refine abr_no (by decide) ?_ | with_reducible refine abr_same_ne ?_); (conv => whnf))))
      refine astore (xs := [i64v 0, i64v 0, .slice 1 [] .full]) (l := [i64v 0, i64v 0, .slice 1 [] .full]) hc5 (Nat.le_of_ble_eq_true rfl) rfl rfl ?_
      ((conv => whnf); (repeat ((first | with_reducible refine abr_true rfl ?_ | with_reducible refine abr_false rfl ?_ | with_reducible refine abr_yes rfl ?_ | refine abr_yes (by decide) ?_ | refine abr_no (by decide) ?_ | with_reducible refine abr_same_ne ?_); (conv => whnf))))
      refine aloads (l := [i64v 0, i64v 0, .slice 1 [] .full]) (upd_same _ _ _) (by exact Nat.le_refl 3) rfl ?_
      ((conv => whnf); (repeat ((first | with_reducible refine abr_true rfl ?_ | with_reducible refine abr_false rfl ?_ | with_reducible refine abr_yes rfl ?_ | refine abr_yes (by decide) ?_ | refine abr_no (by decide) ?_ | with_reducible refine abr_same_ne ?_); (conv => whnf))))
      exact aret_pk ((Sub.upd (hs5.trans hs) id _).trans (Sub.upd_fresh _ hid)) ⟨by rw [eq]; rfl, rfl⟩
    have eq : readU b (W : Int) = ((fi, sn, (umCut b (W : Int)).1), 0) := by rw [eq0, if_neg (by simp), if_neg (fun h => h h5)]
    refine abr_no (fun h => h h5) ?_
    ((conv => whnf); (repeat ((first | with_reducible refine abr_true rfl ?_ | with_reducible refine abr_false rfl ?_ | with_reducible refine abr_yes rfl ?_ | refine abr_yes (by decide) ?_ | refine abr_no (by decide) ?_ | with_reducible refine abr_same_ne ?_); (conv => whnf))))
    (repeat ((first | refine aload (by (repeat (first | with_reducible exact upd_same _ _ _ | assumption | rw [upd_ne _ _ (by first | assumption | (apply Ne.symm; assumption))]))) rfl ?_ | refine afit_i64 (by omega) ?_ | refine arem_nonneg (by omega) (by omega) ?_ | refine adiv_i64 (by omega) (by omega) ?_ | refine abr_yes (by omega) ?_ | refine abr_no (by omega) ?_ | refine amin ?_ | refine amax ?_ | refine afit_u64 (by omega) ?_ | refine afit_u8 (by omega) ?_ | rw [List.length_map]); ((conv => whnf); (repeat ((first | with_reducible refine abr_true rfl ?_ | with_reducible refine abr_false rfl ?_ | with_reducible refine abr_yes rfl ?_ | refine abr_yes (by decide) ?_ | refine abr_no (by decide) ?_ | with_reducible refine abr_same_ne ?_); (conv => whnf))))))
    refine astore (xs := [i64v fi, i64v sn, lists .none (umCut b (W : Int)).1]) (l := [i64v fi, i64v sn, lists .none (umCut b (W : Int)).1]) hc5 (Nat.le_of_ble_eq_true rfl) rfl rfl ?_
    ((conv => whnf); (repeat ((first | with_reducible refine abr_true rfl ?_ | with_reducible refine abr_false rfl ?_ | with_reducible refine abr_yes rfl ?_ | refine abr_yes (by decide) ?_ | refine abr_no (by decide) ?_ | with_reducible refine abr_same_ne ?_); (conv => whnf))))
    refine aloads (l := [i64v fi, i64v sn, lists .none (umCut b (W : Int)).1]) (upd_same _ _ _) (by exact Nat.le_refl 3) rfl ?_
    ((conv => whnf); (repeat ((first | with_reducible refine abr_true rfl ?_ | with_reducible refine abr_false rfl ?_ | with_reducible refine abr_yes rfl ?_ | refine abr_yes (by decide) ?_ | refine abr_no (by decide) ?_ | with_reducible refine abr_same_ne ?_); (conv => whnf))))
    exact aret_pk ((Sub.upd (hs5.trans hs) id _).trans (Sub.upd_fresh _ hid)) ⟨by rw [eq], rfl⟩
  | false =>
    have hla : lensAt b (W : Int) = ([], 0, 0) := by unfold lensAt; rw [hm]; rfl
    have hcut : umCut b (W : Int) = cutF [] (umRest b (W : Int)) [] := by unfold umCut; rw [hla]; rfl
    rw [hla] at eq0
    ((conv => whnf); (repeat ((first | with_reducible refine abr_true rfl ?_ | with_reducible refine abr_false rfl ?_ | with_reducible refine abr_yes rfl ?_ | refine abr_yes (by decide) ?_ | refine abr_no (by decide) ?_ | with_reducible refine abr_same_ne ?_); (conv => whnf))))
    refine acall (uFields (umRest b (W : Int)) [] _ .full _ (by omega) (by simp) (by simp)) ?_
    rintro _ σ_ ⟨rfl, e_⟩
    obtain rfl := e_.symm
    refine ⟨?_, Ext.refl _⟩
    ((conv => whnf); (repeat ((first | with_reducible refine abr_true rfl ?_ | with_reducible refine abr_false rfl ?_ | with_reducible refine abr_yes rfl ?_ | refine abr_yes (by decide) ?_ | refine abr_no (by decide) ?_ | with_reducible refine abr_same_ne ?_); (conv => whnf))))
    rw [← hcut]
    by_cases h5 : (umCut b (W : Int)).2 = 0
    case neg =>
      have eq : readU b (W : Int) = (none3, (umCut b (W : Int)).2) := by rw [eq0, if_neg (by simp), if_pos h5]
      refine abr_yes h5 ?_
      ((conv => whnf); (repeat ((first | with_reducible refine abr_true rfl ?_ | with_reducible refine abr_false rfl ?_ | with_reducible refine abr_yes rfl ?_ | refine abr_yes (by decide) ?_ | refine abr_no (by decide) ?_ | with_reducible refine abr_same_ne ?_); (conv => whnf))))
      refine astore (xs := [i64v 0, i64v 0, .slice 1 [] .full]) (l := [i64v 0, i64v 0, .slice 1 [] .full]) hc5 (Nat.le_of_ble_eq_true rfl) rfl rfl ?_
      ((conv => whnf); (repeat ((first | with_reducible refine abr_true rfl ?_ | with_reducible refine abr_false rfl ?_ | with_reducible refine abr_yes rfl ?_ | refine abr_yes (by decide) ?_ | refine abr_no (by decide) ?_ | with_reducible refine abr_same_ne ?_); (conv => whnf))))
      refine aloads (l := [i64v 0, i64v 0, .slice 1 [] .full]) (upd_same _ _ _) (by exact Nat.le_refl 3) rfl ?_
      ((conv => whnf); (repeat ((first | with_reducible refine abr_true rfl ?_ | with_reducible refine abr_false rfl ?_ | with_reducible refine abr_yes rfl ?_ | refine abr_yes (by decide) ?_ | refine abr_no (by decide) ?_ | with_reducible refine abr_same_ne ?_); (conv => whnf))))
      exact aret_pk ((Sub.upd (hs5.trans hs) id _).trans (Sub.upd_fresh _ hid)) ⟨by rw [eq]; rfl, rfl⟩
    have eq : readU b (W : Int) = ((fi, sn, (umCut b (W : Int)).1), 0) := by rw [eq0, if_neg (by simp), if_neg (fun h => h h5)]
    refine abr_no (fun h => h h5) ?_
    ((conv => whnf); (repeat ((first | with_reducible refine abr_true rfl ?_ | with_reducible refine abr_false rfl ?_ | with_reducible refine abr_yes rfl ?_ | refine abr_yes (by decide) ?_ | refine abr_no (by decide) ?_ | with_reducible refine abr_same_ne ?_); (conv => whnf))))
    (repeat ((first | refine aload (by (repeat (first | with_reducible exact upd_same _ _ _ | assumption | rw [upd_ne _ _ (by first | assumption | (apply Ne.symm; assumption))]))) rfl ?_ | refine afit_i64 (by omega) ?_ | refine arem_nonneg (by omega) (by omega) ?_ | refine adiv_i64 (by omega) (by omega) ?_ | refine abr_yes (by omega) ?_ | refine abr_no (by omega) ?_ | refine amin ?_ | refine amax ?_ | refine afit_u64 (by omega) ?_ | refine afit_u8 (by omega) ?_ | rw [List.length_map]); ((conv => whnf); (repeat ((first | with_reducible refine abr_true rfl ?_ | with_reducible refine abr_false rfl ?_ | with_reducible refine abr_yes rfl ?_ | refine abr_yes (by decide) ?_ | refine abr_no (by decide) ?_ | with_reducible refine abr_same_ne ?_); (conv => whnf))))))
    refine astore (xs := [i64v fi, i64v sn, lists .none (umCut b (W : Int)).1]) (l := [i64v fi, i64v sn, lists .none (umCut b (W : Int)).1]) hc5 (Nat.le_of_ble_eq_true rfl) rfl rfl ?_
    ((conv => whnf); (repeat ((first | with_reducible refine abr_true rfl ?_ | with_reducible refine abr_false rfl ?_ | with_reducible refine abr_yes rfl ?_ | refine abr_yes (by decide) ?_ | refine abr_no (by decide) ?_ | with_reducible refine abr_same_ne ?_); (conv => whnf))))
    refine aloads (l := [i64v fi, i64v sn, lists .none (umCut b (W : Int)).1]) (upd_same _ _ _) (by exact Nat.le_refl 3) rfl ?_
    ((conv => whnf); (repeat ((first | with_reducible refine abr_true rfl ?_ | with_reducible refine abr_false rfl ?_ | with_reducible refine abr_yes rfl ?_ | refine abr_yes (by decide) ?_ | refine abr_no (by decide) ?_ | with_reducible refine abr_same_ne ?_); (conv => whnf))))
    exact aret_pk ((Sub.upd (hs5.trans hs) id _).trans (Sub.upd_fresh _ hid)) ⟨by rw [eq], rfl⟩
end Go.Proofs.Ythjjkcmiachpcaa
/-
  The bodies of one package, compiled to the framework's language (printed by a program of this session).
-/
namespace Go.Proofs.Ythjjkcmiachpcaa
set_option linter.unusedVariables false
set_option linter.unusedSimpArgs false
open Go Go.Am
/- bowlineref01.Bits -/
def c25 : Cfg := ⟨qs, [], 32, []⟩
def ir25 : IFun := ⟨1, [.tmp s2],
  (.seq (.reg (.one ⟨some s2, none, (.mv (.c (.slice 1 [] .full)))⟩
    .done))
  (.seq (.reg (.one ⟨some s3, none, (.mv (.c (.slice 1 [] .full)))⟩
    .done))
  (.seq (.seq (.reg (.one ⟨some s4, none, (.mv (.c (.v (.int .i64 0))))⟩
    .done))
  (.block 0 (.loop (.seq (.seq (.reg (.one ⟨some s6, none, (.mv (.t s4))⟩
    (.one ⟨some s7, none, (.mv (.t s0))⟩
    (.one ⟨some s8, none, (.len false (.t s7))⟩
    (.one ⟨some s9, none, (.bin false .lss (.t s6) (.t s8))⟩
    (.one ⟨some s10, none, (.mv (.t s9))⟩
    (.one ⟨some s11, some (s10, true), (.mv (.t s4))⟩
    (.one ⟨some s12, some (s10, true), (.bin false .lss (.t s11) (.c (.v (.int .i64 8192))))⟩
    (.one ⟨some s13, none, (.pick (.t s10) (.t s12) (.c (.v (.bool false))))⟩
    .done)))))))))
  (.cond (.t s13) .skip (.exit 0)))
  (.seq (.block 1 (.seq (.reg (.one ⟨some s5, none, (.mv (.c (.v (.int .u8 128))))⟩
    .done))
  (.block 2 (.loop (.seq (.seq (.reg (.one ⟨some s16, none, (.mv (.t s5))⟩
    (.one ⟨some s17, none, (.bin false .gtr (.t s16) (.c (.v (.int .u8 0))))⟩
    .done)))
  (.cond (.t s17) .skip (.exit 2)))
  (.seq (.block 3 (.reg (.one ⟨some s20, none, (.mv (.t s3))⟩
    (.one ⟨some s21, none, (.mv (.t s0))⟩
    (.one ⟨some s22, none, (.mv (.t s4))⟩
    (.one ⟨some s23, none, (.iaddr 1 (.t s21) (.t s22))⟩
    (.one ⟨some s24, none, (.load none (.t s23))⟩
    (.one ⟨some s25, none, (.mv (.t s5))⟩
    (.one ⟨some s26, none, (.bin false .quo (.t s24) (.t s25))⟩
    (.one ⟨some s27, none, (.bin false .rem (.t s26) (.c (.v (.int .u8 2))))⟩
    (.one ⟨some s28, none, (.bin false .eql (.t s27) (.c (.v (.int .u8 1))))⟩
    (.one ⟨some s29, none, (.row 1 [(.t s28)])⟩
    (.one ⟨some s30, none, (.app 1 1 (.t s20) (.t s29))⟩
    (.one ⟨some s3, none, (.mv (.t s30))⟩
    .done))))))))))))))
  (.reg (.one ⟨some s18, none, (.mv (.t s5))⟩
    (.one ⟨some s19, none, (.bin false .quo (.t s18) (.c (.v (.int .u8 2))))⟩
    (.one ⟨some s5, none, (.mv (.t s19))⟩
    .done))))))))))
  (.reg (.one ⟨some s14, none, (.mv (.t s4))⟩
    (.one ⟨some s15, none, (.bin false .add (.t s14) (.c (.v (.int .i64 1))))⟩
    (.one ⟨some s4, none, (.mv (.t s15))⟩
    .done)))))))))
  (.seq (.reg (.one ⟨some s31, none, (.mv (.t s3))⟩
    (.one ⟨some s2, none, (.mv (.t s31))⟩
    .done)))
  .ret))))⟩
theorem ok25 : compF Try.prog c25 Try.f25 = some ir25 := by kernel_rfl
theorem k_bowlineref01_Bits {args : List AVal} {σ : AHeap} {Q : AVal → AHeap → Prop} (hl : Nat.ble args.length 32 = true) (h : argsK (Env.full 9) 0 args fun env => evC Try.prog c25 ir25.body env σ (retQ ir25 Q)) : ACalls Try.prog 25 args σ Q :=
  acalls_of Try.func25 ok25 rfl (Nat.le_of_ble_eq_true hl) h
/- bowlineref01.Get -/
def c26 : Cfg := ⟨qs, [], 45, []⟩
def ir26 : IFun := ⟨3, [.tmp s6, .tmp s7, .tmp s8],
  (.seq (.reg (.one ⟨some s6, none, (.mv (.c (.v (.int .u64 0))))⟩
    (.one ⟨some s7, none, (.mv (.c (.v (.int .i64 0))))⟩
    (.one ⟨some s8, none, (.mv (.c (.v (.int .i64 0))))⟩
    .done))))
  (.seq (.seq (.reg (.one ⟨some s11, none, (.mv (.t s2))⟩
    (.one ⟨some s12, none, (.bin false .lss (.t s11) (.c (.v (.int .i64 0))))⟩
    (.one ⟨some s13, none, (.mv (.t s12))⟩
    (.one ⟨some s14, some (s13, false), (.mv (.t s2))⟩
    (.one ⟨some s15, some (s13, false), (.bin false .gtr (.t s14) (.c (.v (.int .i64 64))))⟩
    (.one ⟨some s16, none, (.pick (.t s13) (.c (.v (.bool true))) (.t s15))⟩
    .done)))))))
  (.cond (.t s16) (.seq (.reg (.one ⟨some s17, none, (.mv (.t s1))⟩
    (.one ⟨some s6, none, (.mv (.c (.v (.int .u64 0))))⟩
    (.one ⟨some s7, none, (.mv (.t s17))⟩
    (.one ⟨some s8, none, (.mv (.c (.v (.int .i64 1))))⟩
    .done)))))
  .ret) .skip))
  (.seq (.seq (.reg (.one ⟨some s18, none, (.mv (.t s2))⟩
    (.one ⟨some s19, none, (.mv (.t s0))⟩
    (.one ⟨some s20, none, (.len false (.t s19))⟩
    (.one ⟨some s21, none, (.mv (.t s1))⟩
    (.one ⟨some s22, none, (.bin false .sub (.t s20) (.t s21))⟩
    (.one ⟨some s23, none, (.bin false .gtr (.t s18) (.t s22))⟩
    .done)))))))
  (.cond (.t s23) (.seq (.reg (.one ⟨some s24, none, (.mv (.t s1))⟩
    (.one ⟨some s6, none, (.mv (.c (.v (.int .u64 0))))⟩
    (.one ⟨some s7, none, (.mv (.t s24))⟩
    (.one ⟨some s8, none, (.mv (.c (.v (.int .i64 8))))⟩
    .done)))))
  .ret) .skip))
  (.seq (.reg (.one ⟨some s9, none, (.mv (.c (.v (.int .u64 0))))⟩
    .done))
  (.seq (.seq (.reg (.one ⟨some s25, none, (.mv (.t s1))⟩
    (.one ⟨some s10, none, (.mv (.t s25))⟩
    .done)))
  (.block 0 (.loop (.seq (.seq (.reg (.one ⟨some s26, none, (.mv (.t s10))⟩
    (.one ⟨some s27, none, (.mv (.t s1))⟩
    (.one ⟨some s28, none, (.mv (.t s2))⟩
    (.one ⟨some s29, none, (.bin false .add (.t s27) (.t s28))⟩
    (.one ⟨some s30, none, (.bin false .lss (.t s26) (.t s29))⟩
    .done))))))
  (.cond (.t s30) .skip (.exit 0)))
  (.seq (.block 1 (.seq (.reg (.one ⟨some s33, none, (.mv (.t s9))⟩
    (.one ⟨some s34, none, (.bin false .mul (.c (.v (.int .u64 2))) (.t s33))⟩
    (.one ⟨some s9, none, (.mv (.t s34))⟩
    .done))))
  (.seq (.reg (.one ⟨some s35, none, (.mv (.t s0))⟩
    (.one ⟨some s36, none, (.mv (.t s10))⟩
    (.one ⟨some s37, none, (.iaddr 1 (.t s35) (.t s36))⟩
    (.one ⟨some s38, none, (.load none (.t s37))⟩
    .done)))))
  (.cond (.t s38) (.reg (.one ⟨some s39, none, (.mv (.t s9))⟩
    (.one ⟨some s40, none, (.bin false .add (.t s39) (.c (.v (.int .u64 1))))⟩
    (.one ⟨some s9, none, (.mv (.t s40))⟩
    .done)))) .skip))))
  (.reg (.one ⟨some s31, none, (.mv (.t s10))⟩
    (.one ⟨some s32, none, (.bin false .add (.t s31) (.c (.v (.int .i64 1))))⟩
    (.one ⟨some s10, none, (.mv (.t s32))⟩
    .done)))))))))
  (.seq (.reg (.one ⟨some s41, none, (.mv (.t s9))⟩
    (.one ⟨some s42, none, (.mv (.t s1))⟩
    (.one ⟨some s43, none, (.mv (.t s2))⟩
    (.one ⟨some s44, none, (.bin false .add (.t s42) (.t s43))⟩
    (.one ⟨some s6, none, (.mv (.t s41))⟩
    (.one ⟨some s7, none, (.mv (.t s44))⟩
    (.one ⟨some s8, none, (.mv (.c (.v (.int .i64 0))))⟩
    .done))))))))
  .ret))))))⟩
theorem ok26 : compF Try.prog c26 Try.f26 = some ir26 := by kernel_rfl
theorem k_bowlineref01_Get {args : List AVal} {σ : AHeap} {Q : AVal → AHeap → Prop} (hl : Nat.ble args.length 45 = true) (h : argsK (Env.full 9) 0 args fun env => evC Try.prog c26 ir26.body env σ (retQ ir26 Q)) : ACalls Try.prog 26 args σ Q :=
  acalls_of Try.func26 ok26 rfl (Nat.le_of_ble_eq_true hl) h
/- bowlineref01.Put -/
def c41 : Cfg := ⟨qs, [], 53, []⟩
def ir41 : IFun := ⟨3, [.tmp s6, .tmp s7],
  (.seq (.reg (.one ⟨some s6, none, (.mv (.c (.slice 1 [] .full)))⟩
    (.one ⟨some s7, none, (.mv (.c (.v (.int .i64 0))))⟩
    .done)))
  (.seq (.seq (.reg (.one ⟨some s12, none, (.mv (.t s1))⟩
    (.one ⟨some s13, none, (.mv (.t s2))⟩
    (.one ⟨some s14, none, (.callq 55 [(.t s12), (.t s13)])⟩
    (.one ⟨some s15, none, (.not (.t s14))⟩
    .done)))))
  (.cond (.t s15) (.seq (.reg (.one ⟨some s16, none, (.mv (.t s0))⟩
    (.one ⟨some s6, none, (.mv (.t s16))⟩
    (.one ⟨some s7, none, (.mv (.c (.v (.int .i64 1))))⟩
    .done))))
  .ret) .skip))
  (.seq (.seq (.reg (.one ⟨some s17, none, (.mv (.t s0))⟩
    (.one ⟨some s18, none, (.len false (.t s17))⟩
    (.one ⟨some s19, none, (.mv (.t s2))⟩
    (.one ⟨some s20, none, (.bin false .sub (.c (.v (.int .i64 65536))) (.t s19))⟩
    (.one ⟨some s21, none, (.bin false .gtr (.t s18) (.t s20))⟩
    .done))))))
  (.cond (.t s21) (.seq (.reg (.one ⟨some s22, none, (.mv (.t s0))⟩
    (.one ⟨some s6, none, (.mv (.t s22))⟩
    (.one ⟨some s7, none, (.mv (.c (.v (.int .i64 5))))⟩
    .done))))
  .ret) .skip))
  (.seq (.reg (.one ⟨some s8, none, (.mv (.c (.slice 1 [] .full)))⟩
    (.one ⟨some s9, none, (.mv (.c (.slice 1 [] .full)))⟩
    .done)))
  (.seq (.seq (.reg (.one ⟨some s10, none, (.mv (.c (.v (.int .i64 0))))⟩
    .done))
  (.block 0 (.loop (.seq (.seq (.reg (.one ⟨some s23, none, (.mv (.t s10))⟩
    (.one ⟨some s24, none, (.mv (.t s2))⟩
    (.one ⟨some s25, none, (.bin false .lss (.t s23) (.t s24))⟩
    .done))))
  (.cond (.t s25) .skip (.exit 0)))
  (.seq (.block 1 (.seq (.reg (.one ⟨some s28, none, (.mv (.t s8))⟩
    (.one ⟨some s29, none, (.mv (.t s1))⟩
    (.one ⟨some s30, none, (.bin false .rem (.t s29) (.c (.v (.int .u64 2))))⟩
    (.one ⟨some s31, none, (.bin false .eql (.t s30) (.c (.v (.int .u64 1))))⟩
    (.one ⟨some s32, none, (.row 1 [(.t s31)])⟩
    (.one ⟨some s33, none, (.app 1 1 (.t s28) (.t s32))⟩
    (.one ⟨some s8, none, (.mv (.t s33))⟩
    .done))))))))
  (.reg (.one ⟨some s34, none, (.mv (.t s1))⟩
    (.one ⟨some s35, none, (.bin false .quo (.t s34) (.c (.v (.int .u64 2))))⟩
    (.one ⟨some s1, none, (.mv (.t s35))⟩
    .done))))))
  (.reg (.one ⟨some s26, none, (.mv (.t s10))⟩
    (.one ⟨some s27, none, (.bin false .add (.t s26) (.c (.v (.int .i64 1))))⟩
    (.one ⟨some s10, none, (.mv (.t s27))⟩
    .done)))))))))
  (.seq (.reg (.one ⟨some s36, none, (.mv (.t s9))⟩
    (.one ⟨some s37, none, (.mv (.t s0))⟩
    (.one ⟨some s38, none, (.app 1 1 (.t s36) (.t s37))⟩
    (.one ⟨some s9, none, (.mv (.t s38))⟩
    .done)))))
  (.seq (.seq (.reg (.one ⟨some s39, none, (.mv (.t s2))⟩
    (.one ⟨some s40, none, (.bin false .sub (.t s39) (.c (.v (.int .i64 1))))⟩
    (.one ⟨some s11, none, (.mv (.t s40))⟩
    .done))))
  (.block 2 (.loop (.seq (.seq (.reg (.one ⟨some s41, none, (.mv (.t s11))⟩
    (.one ⟨some s42, none, (.bin false .geq (.t s41) (.c (.v (.int .i64 0))))⟩
    .done)))
  (.cond (.t s42) .skip (.exit 2)))
  (.seq (.block 3 (.reg (.one ⟨some s45, none, (.mv (.t s9))⟩
    (.one ⟨some s46, none, (.mv (.t s8))⟩
    (.one ⟨some s47, none, (.mv (.t s11))⟩
    (.one ⟨some s48, none, (.iaddr 1 (.t s46) (.t s47))⟩
    (.one ⟨some s49, none, (.load none (.t s48))⟩
    (.one ⟨some s50, none, (.row 1 [(.t s49)])⟩
    (.one ⟨some s51, none, (.app 1 1 (.t s45) (.t s50))⟩
    (.one ⟨some s9, none, (.mv (.t s51))⟩
    .done))))))))))
  (.reg (.one ⟨some s43, none, (.mv (.t s11))⟩
    (.one ⟨some s44, none, (.bin false .sub (.t s43) (.c (.v (.int .i64 1))))⟩
    (.one ⟨some s11, none, (.mv (.t s44))⟩
    .done)))))))))
  (.seq (.reg (.one ⟨some s52, none, (.mv (.t s9))⟩
    (.one ⟨some s6, none, (.mv (.t s52))⟩
    (.one ⟨some s7, none, (.mv (.c (.v (.int .i64 0))))⟩
    .done))))
  .ret))))))))⟩
theorem ok41 : compF Try.prog c41 Try.f41 = some ir41 := by kernel_rfl
theorem k_bowlineref01_Put {args : List AVal} {σ : AHeap} {Q : AVal → AHeap → Prop} (hl : Nat.ble args.length 53 = true) (h : argsK (Env.full 9) 0 args fun env => evC Try.prog c41 ir41.body env σ (retQ ir41 Q)) : ACalls Try.prog 41 args σ Q :=
  acalls_of Try.func41 ok41 rfl (Nat.le_of_ble_eq_true hl) h
/- bowlineref01.Bytes -/
def c43 : Cfg := ⟨qs, [], 40, []⟩
def ir43 : IFun := ⟨1, [.tmp s2],
  (.seq (.reg (.one ⟨some s2, none, (.mv (.c (.slice 1 [] .full)))⟩
    .done))
  (.seq (.reg (.one ⟨some s3, none, (.mv (.c (.slice 1 [] .full)))⟩
    .done))
  (.seq (.seq (.reg (.one ⟨some s4, none, (.mv (.c (.v (.int .i64 0))))⟩
    .done))
  (.block 0 (.loop (.seq (.seq (.reg (.one ⟨some s7, none, (.mv (.t s4))⟩
    (.one ⟨some s8, none, (.mv (.t s0))⟩
    (.one ⟨some s9, none, (.len false (.t s8))⟩
    (.one ⟨some s10, none, (.bin false .lss (.t s7) (.t s9))⟩
    .done)))))
  (.cond (.t s10) .skip (.exit 0)))
  (.seq (.block 1 (.seq (.reg (.one ⟨some s5, none, (.mv (.c (.v (.int .u8 0))))⟩
    .done))
  (.seq (.seq (.reg (.one ⟨some s6, none, (.mv (.c (.v (.int .i64 0))))⟩
    .done))
  (.block 2 (.loop (.seq (.seq (.reg (.one ⟨some s13, none, (.mv (.t s6))⟩
    (.one ⟨some s14, none, (.bin false .lss (.t s13) (.c (.v (.int .i64 8))))⟩
    .done)))
  (.cond (.t s14) .skip (.exit 2)))
  (.seq (.block 3 (.seq (.reg (.one ⟨some s17, none, (.mv (.t s5))⟩
    (.one ⟨some s18, none, (.bin false .mul (.c (.v (.int .u8 2))) (.t s17))⟩
    (.one ⟨some s5, none, (.mv (.t s18))⟩
    .done))))
  (.seq (.reg (.one ⟨some s19, none, (.mv (.t s4))⟩
    (.one ⟨some s20, none, (.mv (.t s6))⟩
    (.one ⟨some s21, none, (.bin false .add (.t s19) (.t s20))⟩
    (.one ⟨some s22, none, (.mv (.t s0))⟩
    (.one ⟨some s23, none, (.len false (.t s22))⟩
    (.one ⟨some s24, none, (.bin false .lss (.t s21) (.t s23))⟩
    (.one ⟨some s25, none, (.mv (.t s24))⟩
    (.one ⟨some s26, some (s25, true), (.mv (.t s0))⟩
    (.one ⟨some s27, some (s25, true), (.mv (.t s4))⟩
    (.one ⟨some s28, some (s25, true), (.mv (.t s6))⟩
    (.one ⟨some s29, some (s25, true), (.bin false .add (.t s27) (.t s28))⟩
    (.one ⟨some s30, some (s25, true), (.iaddr 1 (.t s26) (.t s29))⟩
    (.one ⟨some s31, some (s25, true), (.load none (.t s30))⟩
    (.one ⟨some s32, none, (.pick (.t s25) (.t s31) (.c (.v (.bool false))))⟩
    .done)))))))))))))))
  (.cond (.t s32) (.reg (.one ⟨some s33, none, (.mv (.t s5))⟩
    (.one ⟨some s34, none, (.bin false .add (.t s33) (.c (.v (.int .u8 1))))⟩
    (.one ⟨some s5, none, (.mv (.t s34))⟩
    .done)))) .skip))))
  (.reg (.one ⟨some s15, none, (.mv (.t s6))⟩
    (.one ⟨some s16, none, (.bin false .add (.t s15) (.c (.v (.int .i64 1))))⟩
    (.one ⟨some s6, none, (.mv (.t s16))⟩
    .done)))))))))
  (.reg (.one ⟨some s35, none, (.mv (.t s3))⟩
    (.one ⟨some s36, none, (.mv (.t s5))⟩
    (.one ⟨some s37, none, (.row 1 [(.t s36)])⟩
    (.one ⟨some s38, none, (.app 1 1 (.t s35) (.t s37))⟩
    (.one ⟨some s3, none, (.mv (.t s38))⟩
    .done)))))))))
  (.reg (.one ⟨some s11, none, (.mv (.t s4))⟩
    (.one ⟨some s12, none, (.bin false .add (.t s11) (.c (.v (.int .i64 8))))⟩
    (.one ⟨some s4, none, (.mv (.t s12))⟩
    .done)))))))))
  (.seq (.reg (.one ⟨some s39, none, (.mv (.t s3))⟩
    (.one ⟨some s2, none, (.mv (.t s39))⟩
    .done)))
  .ret))))⟩
theorem ok43 : compF Try.prog c43 Try.f43 = some ir43 := by kernel_rfl
theorem k_bowlineref01_Bytes {args : List AVal} {σ : AHeap} {Q : AVal → AHeap → Prop} (hl : Nat.ble args.length 40 = true) (h : argsK (Env.full 9) 0 args fun env => evC Try.prog c43 ir43.body env σ (retQ ir43 Q)) : ACalls Try.prog 43 args σ Q :=
  acalls_of Try.func43 ok43 rfl (Nat.le_of_ble_eq_true hl) h
/- bowlineref01.fits -/
def c55 : Cfg := ⟨qs, [], 21, []⟩
def ir55 : IFun := ⟨2, [.tmp s4],
  (.seq (.reg (.one ⟨some s4, none, (.mv (.c (.v (.bool false))))⟩
    .done))
  (.seq (.seq (.reg (.one ⟨some s6, none, (.mv (.t s1))⟩
    (.one ⟨some s7, none, (.bin false .lss (.t s6) (.c (.v (.int .i64 0))))⟩
    (.one ⟨some s8, none, (.mv (.t s7))⟩
    (.one ⟨some s9, some (s8, false), (.mv (.t s1))⟩
    (.one ⟨some s10, some (s8, false), (.bin false .gtr (.t s9) (.c (.v (.int .i64 64))))⟩
    (.one ⟨some s11, none, (.pick (.t s8) (.c (.v (.bool true))) (.t s10))⟩
    .done)))))))
  (.cond (.t s11) (.seq (.reg (.one ⟨some s4, none, (.mv (.c (.v (.bool false))))⟩
    .done))
  .ret) .skip))
  (.seq (.seq (.reg (.one ⟨some s5, none, (.mv (.c (.v (.int .i64 0))))⟩
    .done))
  (.block 0 (.loop (.seq (.seq (.reg (.one ⟨some s12, none, (.mv (.t s5))⟩
    (.one ⟨some s13, none, (.mv (.t s1))⟩
    (.one ⟨some s14, none, (.bin false .lss (.t s12) (.t s13))⟩
    .done))))
  (.cond (.t s14) .skip (.exit 0)))
  (.seq (.block 1 (.reg (.one ⟨some s17, none, (.mv (.t s0))⟩
    (.one ⟨some s18, none, (.bin false .quo (.t s17) (.c (.v (.int .u64 2))))⟩
    (.one ⟨some s0, none, (.mv (.t s18))⟩
    .done)))))
  (.reg (.one ⟨some s15, none, (.mv (.t s5))⟩
    (.one ⟨some s16, none, (.bin false .add (.t s15) (.c (.v (.int .i64 1))))⟩
    (.one ⟨some s5, none, (.mv (.t s16))⟩
    .done)))))))))
  (.seq (.reg (.one ⟨some s19, none, (.mv (.t s0))⟩
    (.one ⟨some s20, none, (.bin false .eql (.t s19) (.c (.v (.int .u64 0))))⟩
    (.one ⟨some s4, none, (.mv (.t s20))⟩
    .done))))
  .ret))))⟩
theorem ok55 : compF Try.prog c55 Try.f55 = some ir55 := by kernel_rfl
theorem k_bowlineref01_fits {args : List AVal} {σ : AHeap} {Q : AVal → AHeap → Prop} (hl : Nat.ble args.length 21 = true) (h : argsK (Env.full 9) 0 args fun env => evC Try.prog c55 ir55.body env σ (retQ ir55 Q)) : ACalls Try.prog 55 args σ Q :=
  acalls_of Try.func55 ok55 rfl (Nat.le_of_ble_eq_true hl) h
end Go.Proofs.Ythjjkcmiachpcaa
/-
  The document's bits.
-/
namespace Go.Proofs.Ythjjkcmiachpcaa
set_option linter.unusedVariables false
set_option linter.unusedSimpArgs false
open Go Go.Am

abbrev bl (t : Tok) (l : List Bool) : AVal := .slice 1 (l.map boolv) t
theorem get_bools {l : List Bool} {i : Nat} (h : i < l.length) : (l.map boolv)[((i : Nat) : Int).toNat]? = some (boolv l[i]) := by
  rw [Int.toNat_natCast, List.getElem?_map, List.getElem?_eq_getElem h]; rfl

theorem refFits (v : Nat) (n : Int) (σ : AHeap) (hv : v < 18446744073709551616) : ACalls Try.prog i_bowlineref01_fits [u64v v, i64v n] σ fun x σ' => x = boolv (!putBad v n) ∧ σ' = σ := by
  refine k_bowlineref01_fits rfl ?_
  ((conv => whnf); (repeat ((first | with_reducible refine abr_true rfl ?_ | with_reducible refine abr_false rfl ?_ | with_reducible refine abr_yes rfl ?_ | refine abr_yes (by decide) ?_ | refine abr_no (by decide) ?_ | with_reducible refine abr_same_ne ?_); (conv => whnf))))
  by_cases h1 : n < 0
  · (repeat ((first | refine aload (by (repeat (first | with_reducible exact upd_same _ _ _ | assumption | rw [upd_ne _ _ (by first | assumption | (apply Ne.symm; assumption))]))) rfl ?_ | refine afit_i64 (by omega) ?_ | refine arem_nonneg (by omega) (by omega) ?_ | refine adiv_i64 (by omega) (by omega) ?_ | refine abr_yes (by omega) ?_ | refine abr_no (by omega) ?_ | refine amin ?_ | refine amax ?_ | refine afit_u64 (by omega) ?_ | refine afit_u8 (by omega) ?_ | rw [List.length_map]); ((conv => whnf); (repeat ((first | with_reducible refine abr_true rfl ?_ | with_reducible refine abr_false rfl ?_ | with_reducible refine abr_yes rfl ?_ | refine abr_yes (by decide) ?_ | refine abr_no (by decide) ?_ | with_reducible refine abr_same_ne ?_); (conv => whnf))))))
    exact aret_same ⟨by simp [putBad, h1], rfl⟩
  · by_cases h2 : n > 64
    · (repeat ((first | refine aload (by (repeat (first | with_reducible exact upd_same _ _ _ | assumption | rw [upd_ne _ _ (by first | assumption | (apply Ne.symm; assumption))]))) rfl ?_ | refine afit_i64 (by omega) ?_ | refine arem_nonneg (by omega) (by omega) ?_ | refine adiv_i64 (by omega) (by omega) ?_ | refine abr_yes (by omega) ?_ | refine abr_no (by omega) ?_ | refine amin ?_ | refine amax ?_ | refine afit_u64 (by omega) ?_ | refine afit_u8 (by omega) ?_ | rw [List.length_map]); ((conv => whnf); (repeat ((first | with_reducible refine abr_true rfl ?_ | with_reducible refine abr_false rfl ?_ | with_reducible refine abr_yes rfl ?_ | refine abr_yes (by decide) ?_ | refine abr_no (by decide) ?_ | with_reducible refine abr_same_ne ?_); (conv => whnf))))))
      exact aret_same ⟨by simp [putBad, h2], rfl⟩
    · obtain ⟨k, rfl⟩ : ∃ k : Nat, n = k := ⟨n.toNat, by omega⟩
      (repeat ((first | refine aload (by (repeat (first | with_reducible exact upd_same _ _ _ | assumption | rw [upd_ne _ _ (by first | assumption | (apply Ne.symm; assumption))]))) rfl ?_ | refine afit_i64 (by omega) ?_ | refine arem_nonneg (by omega) (by omega) ?_ | refine adiv_i64 (by omega) (by omega) ?_ | refine abr_yes (by omega) ?_ | refine abr_no (by omega) ?_ | refine amin ?_ | refine amax ?_ | refine afit_u64 (by omega) ?_ | refine afit_u8 (by omega) ?_ | rw [List.length_map]); ((conv => whnf); (repeat ((first | with_reducible refine abr_true rfl ?_ | with_reducible refine abr_false rfl ?_ | with_reducible refine abr_yes rfl ?_ | refine abr_yes (by decide) ?_ | refine abr_no (by decide) ?_ | with_reducible refine abr_same_ne ?_); (conv => whnf))))))
      refine aloop (α := Nat) (fun i => [(s0, u64v (v / 2 ^ i)), (s5, i64v i)]) (fun _ => σ) (fun i => i ≤ k) (fun i => k - i) 0 (Nat.zero_le _) (Sub.refl _) ?_ ?_
      · ((conv => whnf); (repeat ((first | with_reducible refine abr_true rfl ?_ | with_reducible refine abr_false rfl ?_ | with_reducible refine abr_yes rfl ?_ | refine abr_yes (by decide) ?_ | refine abr_no (by decide) ?_ | with_reducible refine abr_same_ne ?_); (conv => whnf))))
        rw [Nat.pow_zero, Nat.div_one]
        (repeat' first | with_reducible exact EnvLe.refl _ | (refine EnvLe.node ?_ (by first | exact Or.inl rfl | exact Or.inr (Or.inl rfl) | exact Or.inr (Or.inr ⟨nofun, VLe.slice _ _ _⟩)) ?_))
      · rintro i hi
        by_cases h3 : i < k
        · ((conv => whnf); (repeat ((first | with_reducible refine abr_true rfl ?_ | with_reducible refine abr_false rfl ?_ | with_reducible refine abr_yes rfl ?_ | refine abr_yes (by decide) ?_ | refine abr_no (by decide) ?_ | with_reducible refine abr_same_ne ?_); (conv => whnf))))
          (repeat ((first | refine aload (by (repeat (first | with_reducible exact upd_same _ _ _ | assumption | rw [upd_ne _ _ (by first | assumption | (apply Ne.symm; assumption))]))) rfl ?_ | refine afit_i64 (by omega) ?_ | refine arem_nonneg (by omega) (by omega) ?_ | refine adiv_i64 (by omega) (by omega) ?_ | refine abr_yes (by omega) ?_ | refine abr_no (by omega) ?_ | refine amin ?_ | refine amax ?_ | refine afit_u64 (by omega) ?_ | refine afit_u8 (by omega) ?_ | rw [List.length_map]); ((conv => whnf); (repeat ((first | with_reducible refine abr_true rfl ?_ | with_reducible refine abr_false rfl ?_ | with_reducible refine abr_yes rfl ?_ | refine abr_yes (by decide) ?_ | refine abr_no (by decide) ?_ | with_reducible refine abr_same_ne ?_); (conv => whnf))))))
          refine adiv_u64 (b := 2) (by omega) (Nat.lt_of_le_of_lt (Nat.div_le_self _ _) hv) ?_
          ((conv => whnf); (repeat ((first | with_reducible refine abr_true rfl ?_ | with_reducible refine abr_false rfl ?_ | with_reducible refine abr_yes rfl ?_ | refine abr_yes (by decide) ?_ | refine abr_no (by decide) ?_ | with_reducible refine abr_same_ne ?_); (conv => whnf))))
          (repeat ((first | refine aload (by (repeat (first | with_reducible exact upd_same _ _ _ | assumption | rw [upd_ne _ _ (by first | assumption | (apply Ne.symm; assumption))]))) rfl ?_ | refine afit_i64 (by omega) ?_ | refine arem_nonneg (by omega) (by omega) ?_ | refine adiv_i64 (by omega) (by omega) ?_ | refine abr_yes (by omega) ?_ | refine abr_no (by omega) ?_ | refine amin ?_ | refine amax ?_ | refine afit_u64 (by omega) ?_ | refine afit_u8 (by omega) ?_ | rw [List.length_map]); ((conv => whnf); (repeat ((first | with_reducible refine abr_true rfl ?_ | with_reducible refine abr_false rfl ?_ | with_reducible refine abr_yes rfl ?_ | refine abr_yes (by decide) ?_ | refine abr_no (by decide) ?_ | with_reducible refine abr_same_ne ?_); (conv => whnf))))))
          refine ⟨i + 1, by omega, by omega, Sub.refl _, ?_⟩
          ((conv => whnf); (repeat ((first | with_reducible refine abr_true rfl ?_ | with_reducible refine abr_false rfl ?_ | with_reducible refine abr_yes rfl ?_ | refine abr_yes (by decide) ?_ | refine abr_no (by decide) ?_ | with_reducible refine abr_same_ne ?_); (conv => whnf))))
          rw [Nat.div_div_eq_div_mul, ← Nat.pow_succ]
          (repeat' first | with_reducible exact EnvLe.refl _ | (refine EnvLe.node ?_ (by first | exact Or.inl rfl | exact Or.inr (Or.inl rfl) | exact Or.inr (Or.inr ⟨nofun, VLe.slice _ _ _⟩)) ?_))
        · have : i = k := by omega
          subst this
          ((conv => whnf); (repeat ((first | with_reducible refine abr_true rfl ?_ | with_reducible refine abr_false rfl ?_ | with_reducible refine abr_yes rfl ?_ | refine abr_yes (by decide) ?_ | refine abr_no (by decide) ?_ | with_reducible refine abr_same_ne ?_); (conv => whnf))))
          (repeat ((first | refine aload (by (repeat (first | with_reducible exact upd_same _ _ _ | assumption | rw [upd_ne _ _ (by first | assumption | (apply Ne.symm; assumption))]))) rfl ?_ | refine afit_i64 (by omega) ?_ | refine arem_nonneg (by omega) (by omega) ?_ | refine adiv_i64 (by omega) (by omega) ?_ | refine abr_yes (by omega) ?_ | refine abr_no (by omega) ?_ | refine amin ?_ | refine amax ?_ | refine afit_u64 (by omega) ?_ | refine afit_u8 (by omega) ?_ | rw [List.length_map]); ((conv => whnf); (repeat ((first | with_reducible refine abr_true rfl ?_ | with_reducible refine abr_false rfl ?_ | with_reducible refine abr_yes rfl ?_ | refine abr_yes (by decide) ?_ | refine abr_no (by decide) ?_ | with_reducible refine abr_same_ne ?_); (conv => whnf))))))
          refine aret_same ⟨?_, rfl⟩
          unfold putBad
          rw [decide_eq_false h1, decide_eq_false h2]
          simp only [Bool.false_or, decide_not, Bool.not_not, Int.toNat_natCast]
          congr 2
          have : ((v / 2 ^ i : Nat) : Int) = 0 ↔ v / 2 ^ i = 0 := by omega
          exact decide_eq_decide.2 this

/-- The bits of a number, the lowest first. -/
def lowBits (v n : Nat) : List Bool := (List.range n).map v.testBit
theorem lowBits_succ (v n : Nat) : lowBits v (n + 1) = lowBits v n ++ [v.testBit n] := by unfold lowBits; rw [List.range_succ, List.map_append]; rfl
theorem lowBits_length (v n : Nat) : (lowBits v n).length = n := by unfold lowBits; simp
theorem lowBits_get {v n i : Nat} (h : i < n) : (lowBits v n)[i]? = some (v.testBit i) := by unfold lowBits; rw [List.getElem?_map, List.getElem?_range h]; rfl
theorem testBit_one (v i : Nat) : decide (((v / 2 ^ i % 2 : Nat) : Int) = 1) = v.testBit i := by
  rw [← testBit_nat]; cases v.testBit i <;> rfl

set_option maxRecDepth 10000 in
theorem refPutO (bs : List Bool) (t : Tok) (v : Nat) (n : Int) (σ : AHeap) (hv : v < 18446744073709551616) (hl : bs.length ≤ 65536) :
    ACalls Try.prog i_bowlineref01_Put [bl t bs, u64v v, i64v n] σ fun x σ' => (putCode bs.length v n = 0 ∧ ∃ tk, Owned σ σ' tk ∧ x = .tup [bl tk (bs ++ numBits v n.toNat), i64v 0]) ∨ (putCode bs.length v n ≠ 0 ∧ x = .tup [bl .none bs, i64v (putCode bs.length v n)] ∧ σ' = σ) := by
  refine k_bowlineref01_Put rfl ?_
  ((conv => whnf); (repeat ((first | with_reducible refine abr_true rfl ?_ | with_reducible refine abr_false rfl ?_ | with_reducible refine abr_yes rfl ?_ | refine abr_yes (by decide) ?_ | refine abr_no (by decide) ?_ | with_reducible refine abr_same_ne ?_); (conv => whnf))))
  refine acall (refFits v n _ hv) ?_
  rintro x σ' ⟨rfl, rfl⟩
  refine ⟨?_, Ext.refl _⟩
  cases hb : putBad v n with
  | true =>
    ((conv => whnf); (repeat ((first | with_reducible refine abr_true rfl ?_ | with_reducible refine abr_false rfl ?_ | with_reducible refine abr_yes rfl ?_ | refine abr_yes (by decide) ?_ | refine abr_no (by decide) ?_ | with_reducible refine abr_same_ne ?_); (conv => whnf))))
    exact aret VLe.tup_sl (Sub.refl _) (.inr ⟨by rw [putCode_bad hb]; decide, by rw [putCode_bad hb], rfl⟩)
  | false =>
    have h1 : ¬ n < 0 := fun h => by simp [putBad, h] at hb
    have h2 : ¬ n > 64 := fun h => by simp [putBad, h] at hb
    obtain ⟨k, rfl⟩ : ∃ k : Nat, n = k := ⟨n.toNat, by omega⟩
    ((conv => whnf); (repeat ((first | with_reducible refine abr_true rfl ?_ | with_reducible refine abr_false rfl ?_ | with_reducible refine abr_yes rfl ?_ | refine abr_yes (by decide) ?_ | refine abr_no (by decide) ?_ | with_reducible refine abr_same_ne ?_); (conv => whnf))))
    try rw [List.length_map]
    (repeat ((first | refine aload (by (repeat (first | with_reducible exact upd_same _ _ _ | assumption | rw [upd_ne _ _ (by first | assumption | (apply Ne.symm; assumption))]))) rfl ?_ | refine afit_i64 (by omega) ?_ | refine arem_nonneg (by omega) (by omega) ?_ | refine adiv_i64 (by omega) (by omega) ?_ | refine abr_yes (by omega) ?_ | refine abr_no (by omega) ?_ | refine amin ?_ | refine amax ?_ | refine afit_u64 (by omega) ?_ | refine afit_u8 (by omega) ?_ | rw [List.length_map]); ((conv => whnf); (repeat ((first | with_reducible refine abr_true rfl ?_ | with_reducible refine abr_false rfl ?_ | with_reducible refine abr_yes rfl ?_ | refine abr_yes (by decide) ?_ | refine abr_no (by decide) ?_ | with_reducible refine abr_same_ne ?_); (conv => whnf))))))
    by_cases h4 : (k : Int) > 65536 - (bs.length : Int)
    · refine abr_yes (by omega) ?_
      ((conv => whnf); (repeat ((first | with_reducible refine abr_true rfl ?_ | with_reducible refine abr_false rfl ?_ | with_reducible refine abr_yes rfl ?_ | refine abr_yes (by decide) ?_ | refine abr_no (by decide) ?_ | with_reducible refine abr_same_ne ?_); (conv => whnf))))
      exact aret VLe.tup_sl (Sub.refl _) (.inr ⟨by rw [putCode_full hb h4]; decide, by rw [putCode_full hb h4], rfl⟩)
    · have hc := putCode_fine hb h4
      refine abr_no (by omega) ?_
      ((conv => whnf); (repeat ((first | with_reducible refine abr_true rfl ?_ | with_reducible refine abr_false rfl ?_ | with_reducible refine abr_yes rfl ?_ | refine abr_yes (by decide) ?_ | refine abr_no (by decide) ?_ | with_reducible refine abr_same_ne ?_); (conv => whnf))))
      refine aloop (α := Nat × Tok × AHeap) (fun x => [(s1, u64v (v / 2 ^ x.1)), (s8, bl x.2.1 (lowBits v x.1)), (s10, i64v x.1)]) (fun x => x.2.2) (fun x => x.1 ≤ k ∧ Owned σ' x.2.2 x.2.1) (fun x => k - x.1) (0, .full, σ') ⟨Nat.zero_le _, .full _⟩ (Sub.refl _) ?_ ?_
      · ((conv => whnf); (repeat ((first | with_reducible refine abr_true rfl ?_ | with_reducible refine abr_false rfl ?_ | with_reducible refine abr_yes rfl ?_ | refine abr_yes (by decide) ?_ | refine abr_no (by decide) ?_ | with_reducible refine abr_same_ne ?_); (conv => whnf))))
        rw [Nat.pow_zero, Nat.div_one]
        (repeat' first | with_reducible exact EnvLe.refl _ | (refine EnvLe.node ?_ (by first | exact Or.inl rfl | exact Or.inr (Or.inl rfl) | exact Or.inr (Or.inr ⟨nofun, VLe.slice _ _ _⟩)) ?_))
      · rintro ⟨i, tk, σ1⟩ ⟨hi, ho⟩
        dsimp only at hi ho ⊢
        by_cases h3 : i < k
        · ((conv => whnf); (repeat ((first | with_reducible refine abr_true rfl ?_ | with_reducible refine abr_false rfl ?_ | with_reducible refine abr_yes rfl ?_ | refine abr_yes (by decide) ?_ | refine abr_no (by decide) ?_ | with_reducible refine abr_same_ne ?_); (conv => whnf))))
          (repeat ((first | refine aload (by (repeat (first | with_reducible exact upd_same _ _ _ | assumption | rw [upd_ne _ _ (by first | assumption | (apply Ne.symm; assumption))]))) rfl ?_ | refine afit_i64 (by omega) ?_ | refine arem_nonneg (by omega) (by omega) ?_ | refine adiv_i64 (by omega) (by omega) ?_ | refine abr_yes (by omega) ?_ | refine abr_no (by omega) ?_ | refine amin ?_ | refine amax ?_ | refine afit_u64 (by omega) ?_ | refine afit_u8 (by omega) ?_ | rw [List.length_map]); ((conv => whnf); (repeat ((first | with_reducible refine abr_true rfl ?_ | with_reducible refine abr_false rfl ?_ | with_reducible refine abr_yes rfl ?_ | refine abr_yes (by decide) ?_ | refine abr_no (by decide) ?_ | with_reducible refine abr_same_ne ?_); (conv => whnf))))))
          refine arem_nat (b := 2) (by omega) ?_
          ((conv => whnf); (repeat ((first | with_reducible refine abr_true rfl ?_ | with_reducible refine abr_false rfl ?_ | with_reducible refine abr_yes rfl ?_ | refine abr_yes (by decide) ?_ | refine abr_no (by decide) ?_ | with_reducible refine abr_same_ne ?_); (conv => whnf))))
          rw [testBit_one]
          refine aapp_owned ho (by rw [List.length_map, lowBits_length]; show (i + 1) * 1 ≤ _; omega) fun t' tk' ho' _ => ?_
          rw [show List.map boolv (lowBits v i) ++ [AVal.v (Value.bool (v.testBit i))] = List.map boolv (lowBits v (i + 1)) by rw [lowBits_succ, List.map_append]; rfl]
          ((conv => whnf); (repeat ((first | with_reducible refine abr_true rfl ?_ | with_reducible refine abr_false rfl ?_ | with_reducible refine abr_yes rfl ?_ | refine abr_yes (by decide) ?_ | refine abr_no (by decide) ?_ | with_reducible refine abr_same_ne ?_); (conv => whnf))))
          refine adiv_u64 (b := 2) (by omega) (Nat.lt_of_le_of_lt (Nat.div_le_self _ _) hv) ?_
          ((conv => whnf); (repeat ((first | with_reducible refine abr_true rfl ?_ | with_reducible refine abr_false rfl ?_ | with_reducible refine abr_yes rfl ?_ | refine abr_yes (by decide) ?_ | refine abr_no (by decide) ?_ | with_reducible refine abr_same_ne ?_); (conv => whnf))))
          (repeat ((first | refine aload (by (repeat (first | with_reducible exact upd_same _ _ _ | assumption | rw [upd_ne _ _ (by first | assumption | (apply Ne.symm; assumption))]))) rfl ?_ | refine afit_i64 (by omega) ?_ | refine arem_nonneg (by omega) (by omega) ?_ | refine adiv_i64 (by omega) (by omega) ?_ | refine abr_yes (by omega) ?_ | refine abr_no (by omega) ?_ | refine amin ?_ | refine amax ?_ | refine afit_u64 (by omega) ?_ | refine afit_u8 (by omega) ?_ | rw [List.length_map]); ((conv => whnf); (repeat ((first | with_reducible refine abr_true rfl ?_ | with_reducible refine abr_false rfl ?_ | with_reducible refine abr_yes rfl ?_ | refine abr_yes (by decide) ?_ | refine abr_no (by decide) ?_ | with_reducible refine abr_same_ne ?_); (conv => whnf))))))
          refine ⟨(i + 1, tk', _), ⟨by simp only; omega, ho'⟩, by simp only; omega, Sub.refl _, ?_⟩
          ((conv => whnf); (repeat ((first | with_reducible refine abr_true rfl ?_ | with_reducible refine abr_false rfl ?_ | with_reducible refine abr_yes rfl ?_ | refine abr_yes (by decide) ?_ | refine abr_no (by decide) ?_ | with_reducible refine abr_same_ne ?_); (conv => whnf))))
          rw [Nat.div_div_eq_div_mul, ← Nat.pow_succ]
          (repeat' first | with_reducible exact EnvLe.refl _ | (refine EnvLe.node ?_ (by first | exact Or.inl rfl | exact Or.inr (Or.inl rfl) | exact Or.inr (Or.inr ⟨nofun, VLe.slice _ _ _⟩)) ?_))
        · have : i = k := by omega
          subst this
          ((conv => whnf); (repeat ((first | with_reducible refine abr_true rfl ?_ | with_reducible refine abr_false rfl ?_ | with_reducible refine abr_yes rfl ?_ | refine abr_yes (by decide) ?_ | refine abr_no (by decide) ?_ | with_reducible refine abr_same_ne ?_); (conv => whnf))))
          (repeat ((first | refine aload (by (repeat (first | with_reducible exact upd_same _ _ _ | assumption | rw [upd_ne _ _ (by first | assumption | (apply Ne.symm; assumption))]))) rfl ?_ | refine afit_i64 (by omega) ?_ | refine arem_nonneg (by omega) (by omega) ?_ | refine adiv_i64 (by omega) (by omega) ?_ | refine abr_yes (by omega) ?_ | refine abr_no (by omega) ?_ | refine amin ?_ | refine amax ?_ | refine afit_u64 (by omega) ?_ | refine afit_u8 (by omega) ?_ | rw [List.length_map]); ((conv => whnf); (repeat ((first | with_reducible refine abr_true rfl ?_ | with_reducible refine abr_false rfl ?_ | with_reducible refine abr_yes rfl ?_ | refine abr_yes (by decide) ?_ | refine abr_no (by decide) ?_ | with_reducible refine abr_same_ne ?_); (conv => whnf))))))
          refine aapp_full (by simp; omega) fun t' ht' => ?_
          have ht0 := ho.none_of ht'
          rw [List.nil_append]
          ((conv => whnf); (repeat ((first | with_reducible refine abr_true rfl ?_ | with_reducible refine abr_false rfl ?_ | with_reducible refine abr_yes rfl ?_ | refine abr_yes (by decide) ?_ | refine abr_no (by decide) ?_ | with_reducible refine abr_same_ne ?_); (conv => whnf))))
          (repeat ((first | refine aload (by (repeat (first | with_reducible exact upd_same _ _ _ | assumption | rw [upd_ne _ _ (by first | assumption | (apply Ne.symm; assumption))]))) rfl ?_ | refine afit_i64 (by omega) ?_ | refine arem_nonneg (by omega) (by omega) ?_ | refine adiv_i64 (by omega) (by omega) ?_ | refine abr_yes (by omega) ?_ | refine abr_no (by omega) ?_ | refine amin ?_ | refine amax ?_ | refine afit_u64 (by omega) ?_ | refine afit_u8 (by omega) ?_ | rw [List.length_map]); ((conv => whnf); (repeat ((first | with_reducible refine abr_true rfl ?_ | with_reducible refine abr_false rfl ?_ | with_reducible refine abr_yes rfl ?_ | refine abr_yes (by decide) ?_ | refine abr_no (by decide) ?_ | with_reducible refine abr_same_ne ?_); (conv => whnf))))))
          refine aloop (α := Nat × List Bool × Tok × AHeap) (fun x => [(s9, bl x.2.2.1 (bs ++ x.2.1)), (s11, i64v ((x.1 : Int) - 1))]) (fun x => x.2.2.2) (fun x => x.2.1 ++ numBits v x.1 = numBits v i ∧ Owned σ' x.2.2.2 x.2.2.1) (fun x => x.1) (i, [], .tip t', upd σ' t' .tip) ⟨rfl, .tip ht0⟩ (Sub.upd ho.sub _ _) ?_ ?_
          · ((conv => whnf); (repeat ((first | with_reducible refine abr_true rfl ?_ | with_reducible refine abr_false rfl ?_ | with_reducible refine abr_yes rfl ?_ | refine abr_yes (by decide) ?_ | refine abr_no (by decide) ?_ | with_reducible refine abr_same_ne ?_); (conv => whnf))))
            rw [List.append_nil]
            (repeat' first | with_reducible exact EnvLe.refl _ | (refine EnvLe.node ?_ (by first | exact Or.inl rfl | exact Or.inr (Or.inl rfl) | exact Or.inr (Or.inr ⟨nofun, VLe.slice _ _ _⟩)) ?_))
          · rintro ⟨j, d, tk2, σ2⟩ ⟨hd, ho2⟩
            dsimp only at hd ho2 ⊢
            have hdl : d.length + j = i := by
              have := congrArg List.length hd
              rw [List.length_append, numBits_length, numBits_length] at this; exact this
            cases j with
            | zero =>
              ((conv => whnf); (repeat ((first | with_reducible refine abr_true rfl ?_ | with_reducible refine abr_false rfl ?_ | with_reducible refine abr_yes rfl ?_ | refine abr_yes (by decide) ?_ | refine abr_no (by decide) ?_ | with_reducible refine abr_same_ne ?_); (conv => whnf))))
              (repeat ((first | refine aload (by (repeat (first | with_reducible exact upd_same _ _ _ | assumption | rw [upd_ne _ _ (by first | assumption | (apply Ne.symm; assumption))]))) rfl ?_ | refine afit_i64 (by omega) ?_ | refine arem_nonneg (by omega) (by omega) ?_ | refine adiv_i64 (by omega) (by omega) ?_ | refine abr_yes (by omega) ?_ | refine abr_no (by omega) ?_ | refine amin ?_ | refine amax ?_ | refine afit_u64 (by omega) ?_ | refine afit_u8 (by omega) ?_ | rw [List.length_map]); ((conv => whnf); (repeat ((first | with_reducible refine abr_true rfl ?_ | with_reducible refine abr_false rfl ?_ | with_reducible refine abr_yes rfl ?_ | refine abr_yes (by decide) ?_ | refine abr_no (by decide) ?_ | with_reducible refine abr_same_ne ?_); (conv => whnf))))))
              refine aret_same (.inl ⟨hc, tk2, ho2, ?_⟩)
              simp only [numBits, List.append_nil] at hd
              rw [hd]; rfl
            | succ j =>
              ((conv => whnf); (repeat ((first | with_reducible refine abr_true rfl ?_ | with_reducible refine abr_false rfl ?_ | with_reducible refine abr_yes rfl ?_ | refine abr_yes (by decide) ?_ | refine abr_no (by decide) ?_ | with_reducible refine abr_same_ne ?_); (conv => whnf))))
              (repeat ((first | refine aload (by (repeat (first | with_reducible exact upd_same _ _ _ | assumption | rw [upd_ne _ _ (by first | assumption | (apply Ne.symm; assumption))]))) rfl ?_ | refine afit_i64 (by omega) ?_ | refine arem_nonneg (by omega) (by omega) ?_ | refine adiv_i64 (by omega) (by omega) ?_ | refine abr_yes (by omega) ?_ | refine abr_no (by omega) ?_ | refine amin ?_ | refine amax ?_ | refine afit_u64 (by omega) ?_ | refine afit_u8 (by omega) ?_ | rw [List.length_map]); ((conv => whnf); (repeat ((first | with_reducible refine abr_true rfl ?_ | with_reducible refine abr_false rfl ?_ | with_reducible refine abr_yes rfl ?_ | refine abr_yes (by decide) ?_ | refine abr_no (by decide) ?_ | with_reducible refine abr_same_ne ?_); (conv => whnf))))))
              rw [show ((j + 1 : Nat) : Int) - 1 = (j : Int) by omega]
              refine aget (by omega) (get_bools (by rw [lowBits_length]; omega)) ?_
              ((conv => whnf); (repeat ((first | with_reducible refine abr_true rfl ?_ | with_reducible refine abr_false rfl ?_ | with_reducible refine abr_yes rfl ?_ | refine abr_yes (by decide) ?_ | refine abr_no (by decide) ?_ | with_reducible refine abr_same_ne ?_); (conv => whnf))))
              refine acell rfl ?_
              ((conv => whnf); (repeat ((first | with_reducible refine abr_true rfl ?_ | with_reducible refine abr_false rfl ?_ | with_reducible refine abr_yes rfl ?_ | refine abr_yes (by decide) ?_ | refine abr_no (by decide) ?_ | with_reducible refine abr_same_ne ?_); (conv => whnf))))
              refine aapp_owned ho2 (by rw [List.length_map, List.length_append]; show (bs.length + d.length + 1) * 1 ≤ _; omega) fun t3 tk3 ho3 _ => ?_
              have hg : (lowBits v i)[j]'(by rw [lowBits_length]; omega) = v.testBit j := by
                have := lowBits_get (v := v) (n := i) (i := j) (by omega)
                rw [List.getElem?_eq_getElem (by rw [lowBits_length]; omega)] at this
                exact Option.some.inj this
              rw [hg, show List.map boolv (bs ++ d) ++ [AVal.v (Value.bool (v.testBit j))] = List.map boolv (bs ++ (d ++ [v.testBit j])) by simp]
              ((conv => whnf); (repeat ((first | with_reducible refine abr_true rfl ?_ | with_reducible refine abr_false rfl ?_ | with_reducible refine abr_yes rfl ?_ | refine abr_yes (by decide) ?_ | refine abr_no (by decide) ?_ | with_reducible refine abr_same_ne ?_); (conv => whnf))))
              (repeat ((first | refine aload (by (repeat (first | with_reducible exact upd_same _ _ _ | assumption | rw [upd_ne _ _ (by first | assumption | (apply Ne.symm; assumption))]))) rfl ?_ | refine afit_i64 (by omega) ?_ | refine arem_nonneg (by omega) (by omega) ?_ | refine adiv_i64 (by omega) (by omega) ?_ | refine abr_yes (by omega) ?_ | refine abr_no (by omega) ?_ | refine amin ?_ | refine amax ?_ | refine afit_u64 (by omega) ?_ | refine afit_u8 (by omega) ?_ | rw [List.length_map]); ((conv => whnf); (repeat ((first | with_reducible refine abr_true rfl ?_ | with_reducible refine abr_false rfl ?_ | with_reducible refine abr_yes rfl ?_ | refine abr_yes (by decide) ?_ | refine abr_no (by decide) ?_ | with_reducible refine abr_same_ne ?_); (conv => whnf))))))
              refine ⟨(j, d ++ [v.testBit j], tk3, _), ⟨?_, ho3⟩, by simp only; omega, Sub.refl _, ?_⟩
              · simp only; rw [← hd]; simp [numBits]
              · ((conv => whnf); (repeat ((first | with_reducible refine abr_true rfl ?_ | with_reducible refine abr_false rfl ?_ | with_reducible refine abr_yes rfl ?_ | refine abr_yes (by decide) ?_ | refine abr_no (by decide) ?_ | with_reducible refine abr_same_ne ?_); (conv => whnf))))
                (repeat' first | with_reducible exact EnvLe.refl _ | (refine EnvLe.node ?_ (by first | exact Or.inl rfl | exact Or.inr (Or.inl rfl) | exact Or.inr (Or.inr ⟨nofun, VLe.slice _ _ _⟩)) ?_))
theorem refPut (bs : List Bool) (t : Tok) (v : Nat) (n : Int) (σ : AHeap) (hv : v < 18446744073709551616) (hl : bs.length ≤ 65536) :
    ACalls Try.prog i_bowlineref01_Put [bl t bs, u64v v, i64v n] σ fun x σ' => x = .tup [bl .none (putBits bs v n), i64v (putCode bs.length v n)] ∧ σ' = σ := by
  refine acall_less (refPutO bs t v n σ hv hl) ?_
  rintro x σ' (⟨hc, tk, ho, rfl⟩ | ⟨hc, rfl, rfl⟩)
  · exact ⟨_, _, VLe.tup_sl, ho.sub, by rw [hc, putBits_ok hc], rfl⟩
  · exact ⟨_, _, VLe.refl _, Sub.refl _, by rw [putBits_no hc], rfl⟩
end Go.Proofs.Ythjjkcmiachpcaa
/-
  The document's bits: bytes.
-/
namespace Go.Proofs.Ythjjkcmiachpcaa
set_option linter.unusedVariables false
set_option linter.unusedSimpArgs false
open Go Go.Am

/-- So many bits, from a place on, filled up with noughts. -/
def bitsAt (l : List Bool) (i n : Nat) : List Bool := (List.range n).map fun m => bitD l (i + m)
theorem bitsAt_succ (l : List Bool) (i n : Nat) : bitsAt l i (n + 1) = bitsAt l i n ++ [bitD l (i + n)] := by unfold bitsAt; rw [List.range_succ, List.map_append]; rfl
theorem bitsAt_length (l : List Bool) (i n : Nat) : (bitsAt l i n).length = n := by unfold bitsAt; simp
theorem val_bitsAt (l : List Bool) (i n : Nat) : val 0 (bitsAt l i (n + 1)) = 2 * val 0 (bitsAt l i n) + (bitD l (i + n)).toNat := by rw [bitsAt_succ, val_snoc]
theorem byteAt_val (l : List Bool) (j : Nat) : UInt8.ofNat (val 0 (bitsAt l (8 * j) 8)) = byteAt l j := by
  unfold byteAt byte8
  congr 1
  simp only [bitsAt, List.range, List.range.loop, List.map, val, Nat.add_zero]
  omega
theorem val8_lt (l : List Bool) (i : Nat) {n : Nat} (h : n ≤ 8) : val 0 (bitsAt l i n) < 256 := by
  have h1 := val_lt (bitsAt l i n)
  rw [bitsAt_length] at h1
  exact Nat.lt_of_lt_of_le h1 (Nat.pow_le_pow_right (n := 2) (by omega) h)
theorem val7_lt (l : List Bool) (i : Nat) {n : Nat} (h : n < 8) : 2 * val 0 (bitsAt l i n) + 1 < 256 := by
  have h1 := val_lt (bitsAt l i n)
  rw [bitsAt_length] at h1
  have h2 : 2 ^ n ≤ 2 ^ 7 := Nat.pow_le_pow_right (by omega) (by omega)
  omega

def packTo (l : List Bool) (j : Nat) : List UInt8 := (List.range j).map (byteAt l)
theorem packTo_succ (l : List Bool) (j : Nat) : packTo l (j + 1) = packTo l j ++ [byteAt l j] := by unfold packTo; rw [List.range_succ, List.map_append]; rfl
theorem packTo_length (l : List Bool) (j : Nat) : (packTo l j).length = j := by unfold packTo; simp
theorem pack_packTo (l : List Bool) : pack l = packTo l ((l.length + 7) / 8) := rfl

set_option maxRecDepth 10000 in
theorem refBytesO (l : List Bool) (t : Tok) (σ : AHeap) (hl : l.length ≤ 1000000) : ACalls Try.prog i_bowlineref01_Bytes [bl t l] σ fun x σ' => ∃ tk, Owned σ σ' tk ∧ x = sl tk (pack l) := by
  refine k_bowlineref01_Bytes rfl ?_
  ((conv => whnf); (repeat ((first | with_reducible refine abr_true rfl ?_ | with_reducible refine abr_false rfl ?_ | with_reducible refine abr_yes rfl ?_ | refine abr_yes (by decide) ?_ | refine abr_no (by decide) ?_ | with_reducible refine abr_same_ne ?_); (conv => whnf))))
  refine aloop (α := Nat × Tok × AHeap) (fun x => [(s3, sl x.2.1 (packTo l x.1)), (s4, i64v ((8 * x.1 : Nat) : Int))]) (fun x => x.2.2) (fun x => 8 * x.1 ≤ l.length + 7 ∧ Owned σ x.2.2 x.2.1) (fun x => l.length + 8 - 8 * x.1) (0, .full, σ) ⟨by omega, .full _⟩ (Sub.refl _) ?_ ?_
  · ((conv => whnf); (repeat ((first | with_reducible refine abr_true rfl ?_ | with_reducible refine abr_false rfl ?_ | with_reducible refine abr_yes rfl ?_ | refine abr_yes (by decide) ?_ | refine abr_no (by decide) ?_ | with_reducible refine abr_same_ne ?_); (conv => whnf))))
    (repeat' first | with_reducible exact EnvLe.refl _ | (refine EnvLe.node ?_ (by first | exact Or.inl rfl | exact Or.inr (Or.inl rfl) | exact Or.inr (Or.inr ⟨nofun, VLe.slice _ _ _⟩)) ?_))
  · rintro ⟨j, tk, σ1⟩ ⟨hj, ho⟩
    dsimp only at hj ho ⊢
    by_cases h : 8 * j < l.length
    · ((conv => whnf); (repeat ((first | with_reducible refine abr_true rfl ?_ | with_reducible refine abr_false rfl ?_ | with_reducible refine abr_yes rfl ?_ | refine abr_yes (by decide) ?_ | refine abr_no (by decide) ?_ | with_reducible refine abr_same_ne ?_); (conv => whnf))))
      try rw [List.length_map]
      refine abr_yes (by omega) ?_
      ((conv => whnf); (repeat ((first | with_reducible refine abr_true rfl ?_ | with_reducible refine abr_false rfl ?_ | with_reducible refine abr_yes rfl ?_ | refine abr_yes (by decide) ?_ | refine abr_no (by decide) ?_ | with_reducible refine abr_same_ne ?_); (conv => whnf))))
      refine aloop (α := Nat) (fun k => [(s5, u8v (val 0 (bitsAt l (8 * j) k))), (s6, i64v k)]) (fun _ => σ1) (fun k => k ≤ 8) (fun k => 8 - k) 0 (by omega) (Sub.refl _) ?_ ?_
      · ((conv => whnf); (repeat ((first | with_reducible refine abr_true rfl ?_ | with_reducible refine abr_false rfl ?_ | with_reducible refine abr_yes rfl ?_ | refine abr_yes (by decide) ?_ | refine abr_no (by decide) ?_ | with_reducible refine abr_same_ne ?_); (conv => whnf))))
        (repeat' first | with_reducible exact EnvLe.refl _ | (refine EnvLe.node ?_ (by first | exact Or.inl rfl | exact Or.inr (Or.inl rfl) | exact Or.inr (Or.inr ⟨nofun, VLe.slice _ _ _⟩)) ?_))
      · rintro k hk
        by_cases hk8 : k < 8
        · have h7 := val7_lt l (8 * j) hk8
          ((conv => whnf); (repeat ((first | with_reducible refine abr_true rfl ?_ | with_reducible refine abr_false rfl ?_ | with_reducible refine abr_yes rfl ?_ | refine abr_yes (by decide) ?_ | refine abr_no (by decide) ?_ | with_reducible refine abr_same_ne ?_); (conv => whnf))))
          refine abr_yes (by omega) ?_
          ((conv => whnf); (repeat ((first | with_reducible refine abr_true rfl ?_ | with_reducible refine abr_false rfl ?_ | with_reducible refine abr_yes rfl ?_ | refine abr_yes (by decide) ?_ | refine abr_no (by decide) ?_ | with_reducible refine abr_same_ne ?_); (conv => whnf))))
          refine afit_u8 (by omega) ?_
          rw [show (2 : Int) * ((val 0 (bitsAt l (8 * j) k) : Nat) : Int) = ((2 * val 0 (bitsAt l (8 * j) k) : Nat) : Int) by omega]
          ((conv => whnf); (repeat ((first | with_reducible refine abr_true rfl ?_ | with_reducible refine abr_false rfl ?_ | with_reducible refine abr_yes rfl ?_ | refine abr_yes (by decide) ?_ | refine abr_no (by decide) ?_ | with_reducible refine abr_same_ne ?_); (conv => whnf))))
          (repeat ((first | refine aload (by (repeat (first | with_reducible exact upd_same _ _ _ | assumption | rw [upd_ne _ _ (by first | assumption | (apply Ne.symm; assumption))]))) rfl ?_ | refine afit_i64 (by omega) ?_ | refine arem_nonneg (by omega) (by omega) ?_ | refine adiv_i64 (by omega) (by omega) ?_ | refine abr_yes (by omega) ?_ | refine abr_no (by omega) ?_ | refine amin ?_ | refine amax ?_ | refine afit_u64 (by omega) ?_ | refine afit_u8 (by omega) ?_ | rw [List.length_map]); ((conv => whnf); (repeat ((first | with_reducible refine abr_true rfl ?_ | with_reducible refine abr_false rfl ?_ | with_reducible refine abr_yes rfl ?_ | refine abr_yes (by decide) ?_ | refine abr_no (by decide) ?_ | with_reducible refine abr_same_ne ?_); (conv => whnf))))))
          have next : val 0 (bitsAt l (8 * j) (k + 1)) = 2 * val 0 (bitsAt l (8 * j) k) + (bitD l (8 * j + k)).toNat := val_bitsAt _ _ _
          by_cases hin : 8 * j + k < l.length
          · refine abr_yes (by omega) ?_
            ((conv => whnf); (repeat ((first | with_reducible refine abr_true rfl ?_ | with_reducible refine abr_false rfl ?_ | with_reducible refine abr_yes rfl ?_ | refine abr_yes (by decide) ?_ | refine abr_no (by decide) ?_ | with_reducible refine abr_same_ne ?_); (conv => whnf))))
            (repeat ((first | refine aload (by (repeat (first | with_reducible exact upd_same _ _ _ | assumption | rw [upd_ne _ _ (by first | assumption | (apply Ne.symm; assumption))]))) rfl ?_ | refine afit_i64 (by omega) ?_ | refine arem_nonneg (by omega) (by omega) ?_ | refine adiv_i64 (by omega) (by omega) ?_ | refine abr_yes (by omega) ?_ | refine abr_no (by omega) ?_ | refine amin ?_ | refine amax ?_ | refine afit_u64 (by omega) ?_ | refine afit_u8 (by omega) ?_ | rw [List.length_map]); ((conv => whnf); (repeat ((first | with_reducible refine abr_true rfl ?_ | with_reducible refine abr_false rfl ?_ | with_reducible refine abr_yes rfl ?_ | refine abr_yes (by decide) ?_ | refine abr_no (by decide) ?_ | with_reducible refine abr_same_ne ?_); (conv => whnf))))))
            rw [show ((8 * j : Nat) : Int) + (k : Int) = ((8 * j + k : Nat) : Int) by omega]
            refine aget (by omega) (get_bools hin) ?_
            ((conv => whnf); (repeat ((first | with_reducible refine abr_true rfl ?_ | with_reducible refine abr_false rfl ?_ | with_reducible refine abr_yes rfl ?_ | refine abr_yes (by decide) ?_ | refine abr_no (by decide) ?_ | with_reducible refine abr_same_ne ?_); (conv => whnf))))
            refine acell rfl ?_
            ((conv => whnf); (repeat ((first | with_reducible refine abr_true rfl ?_ | with_reducible refine abr_false rfl ?_ | with_reducible refine abr_yes rfl ?_ | refine abr_yes (by decide) ?_ | refine abr_no (by decide) ?_ | with_reducible refine abr_same_ne ?_); (conv => whnf))))
            cases hb : l[8 * j + k] with
            | true =>
              have hbd : bitD l (8 * j + k) = true := by rw [bitD_get hin, hb]
              ((conv => whnf); (repeat ((first | with_reducible refine abr_true rfl ?_ | with_reducible refine abr_false rfl ?_ | with_reducible refine abr_yes rfl ?_ | refine abr_yes (by decide) ?_ | refine abr_no (by decide) ?_ | with_reducible refine abr_same_ne ?_); (conv => whnf))))
              refine afit_u8 (by omega) ?_
              ((conv => whnf); (repeat ((first | with_reducible refine abr_true rfl ?_ | with_reducible refine abr_false rfl ?_ | with_reducible refine abr_yes rfl ?_ | refine abr_yes (by decide) ?_ | refine abr_no (by decide) ?_ | with_reducible refine abr_same_ne ?_); (conv => whnf))))
              (repeat ((first | refine aload (by (repeat (first | with_reducible exact upd_same _ _ _ | assumption | rw [upd_ne _ _ (by first | assumption | (apply Ne.symm; assumption))]))) rfl ?_ | refine afit_i64 (by omega) ?_ | refine arem_nonneg (by omega) (by omega) ?_ | refine adiv_i64 (by omega) (by omega) ?_ | refine abr_yes (by omega) ?_ | refine abr_no (by omega) ?_ | refine amin ?_ | refine amax ?_ | refine afit_u64 (by omega) ?_ | refine afit_u8 (by omega) ?_ | rw [List.length_map]); ((conv => whnf); (repeat ((first | with_reducible refine abr_true rfl ?_ | with_reducible refine abr_false rfl ?_ | with_reducible refine abr_yes rfl ?_ | refine abr_yes (by decide) ?_ | refine abr_no (by decide) ?_ | with_reducible refine abr_same_ne ?_); (conv => whnf))))))
              refine ⟨k + 1, by omega, by omega, Sub.refl _, ?_⟩
              ((conv => whnf); (repeat ((first | with_reducible refine abr_true rfl ?_ | with_reducible refine abr_false rfl ?_ | with_reducible refine abr_yes rfl ?_ | refine abr_yes (by decide) ?_ | refine abr_no (by decide) ?_ | with_reducible refine abr_same_ne ?_); (conv => whnf))))
              rw [next, hbd, show ((2 * val 0 (bitsAt l (8 * j) k) : Nat) : Int) + 1 = ((2 * val 0 (bitsAt l (8 * j) k) + Bool.toNat true : Nat) : Int) by simp]
              (repeat' first | with_reducible exact EnvLe.refl _ | (refine EnvLe.node ?_ (by first | exact Or.inl rfl | exact Or.inr (Or.inl rfl) | exact Or.inr (Or.inr ⟨nofun, VLe.slice _ _ _⟩)) ?_))
            | false =>
              have hbd : bitD l (8 * j + k) = false := by rw [bitD_get hin, hb]
              ((conv => whnf); (repeat ((first | with_reducible refine abr_true rfl ?_ | with_reducible refine abr_false rfl ?_ | with_reducible refine abr_yes rfl ?_ | refine abr_yes (by decide) ?_ | refine abr_no (by decide) ?_ | with_reducible refine abr_same_ne ?_); (conv => whnf))))
              (repeat ((first | refine aload (by (repeat (first | with_reducible exact upd_same _ _ _ | assumption | rw [upd_ne _ _ (by first | assumption | (apply Ne.symm; assumption))]))) rfl ?_ | refine afit_i64 (by omega) ?_ | refine arem_nonneg (by omega) (by omega) ?_ | refine adiv_i64 (by omega) (by omega) ?_ | refine abr_yes (by omega) ?_ | refine abr_no (by omega) ?_ | refine amin ?_ | refine amax ?_ | refine afit_u64 (by omega) ?_ | refine afit_u8 (by omega) ?_ | rw [List.length_map]); ((conv => whnf); (repeat ((first | with_reducible refine abr_true rfl ?_ | with_reducible refine abr_false rfl ?_ | with_reducible refine abr_yes rfl ?_ | refine abr_yes (by decide) ?_ | refine abr_no (by decide) ?_ | with_reducible refine abr_same_ne ?_); (conv => whnf))))))
              refine ⟨k + 1, by omega, by omega, Sub.refl _, ?_⟩
              ((conv => whnf); (repeat ((first | with_reducible refine abr_true rfl ?_ | with_reducible refine abr_false rfl ?_ | with_reducible refine abr_yes rfl ?_ | refine abr_yes (by decide) ?_ | refine abr_no (by decide) ?_ | with_reducible refine abr_same_ne ?_); (conv => whnf))))
              rw [next, hbd]
              (repeat' first | with_reducible exact EnvLe.refl _ | (refine EnvLe.node ?_ (by first | exact Or.inl rfl | exact Or.inr (Or.inl rfl) | exact Or.inr (Or.inr ⟨nofun, VLe.slice _ _ _⟩)) ?_))
          · have hbd : bitD l (8 * j + k) = false := bitD_out (by omega)
            refine abr_no (by omega) ?_
            ((conv => whnf); (repeat ((first | with_reducible refine abr_true rfl ?_ | with_reducible refine abr_false rfl ?_ | with_reducible refine abr_yes rfl ?_ | refine abr_yes (by decide) ?_ | refine abr_no (by decide) ?_ | with_reducible refine abr_same_ne ?_); (conv => whnf))))
            (repeat ((first | refine aload (by (repeat (first | with_reducible exact upd_same _ _ _ | assumption | rw [upd_ne _ _ (by first | assumption | (apply Ne.symm; assumption))]))) rfl ?_ | refine afit_i64 (by omega) ?_ | refine arem_nonneg (by omega) (by omega) ?_ | refine adiv_i64 (by omega) (by omega) ?_ | refine abr_yes (by omega) ?_ | refine abr_no (by omega) ?_ | refine amin ?_ | refine amax ?_ | refine afit_u64 (by omega) ?_ | refine afit_u8 (by omega) ?_ | rw [List.length_map]); ((conv => whnf); (repeat ((first | with_reducible refine abr_true rfl ?_ | with_reducible refine abr_false rfl ?_ | with_reducible refine abr_yes rfl ?_ | refine abr_yes (by decide) ?_ | refine abr_no (by decide) ?_ | with_reducible refine abr_same_ne ?_); (conv => whnf))))))
            refine ⟨k + 1, by omega, by omega, Sub.refl _, ?_⟩
            ((conv => whnf); (repeat ((first | with_reducible refine abr_true rfl ?_ | with_reducible refine abr_false rfl ?_ | with_reducible refine abr_yes rfl ?_ | refine abr_yes (by decide) ?_ | refine abr_no (by decide) ?_ | with_reducible refine abr_same_ne ?_); (conv => whnf))))
            rw [next, hbd]
            (repeat' first | with_reducible exact EnvLe.refl _ | (refine EnvLe.node ?_ (by first | exact Or.inl rfl | exact Or.inr (Or.inl rfl) | exact Or.inr (Or.inr ⟨nofun, VLe.slice _ _ _⟩)) ?_))
        · have : k = 8 := by omega
          subst this
          ((conv => whnf); (repeat ((first | with_reducible refine abr_true rfl ?_ | with_reducible refine abr_false rfl ?_ | with_reducible refine abr_yes rfl ?_ | refine abr_yes (by decide) ?_ | refine abr_no (by decide) ?_ | with_reducible refine abr_same_ne ?_); (conv => whnf))))
          (repeat ((first | refine aload (by (repeat (first | with_reducible exact upd_same _ _ _ | assumption | rw [upd_ne _ _ (by first | assumption | (apply Ne.symm; assumption))]))) rfl ?_ | refine afit_i64 (by omega) ?_ | refine arem_nonneg (by omega) (by omega) ?_ | refine adiv_i64 (by omega) (by omega) ?_ | refine abr_yes (by omega) ?_ | refine abr_no (by omega) ?_ | refine amin ?_ | refine amax ?_ | refine afit_u64 (by omega) ?_ | refine afit_u8 (by omega) ?_ | rw [List.length_map]); ((conv => whnf); (repeat ((first | with_reducible refine abr_true rfl ?_ | with_reducible refine abr_false rfl ?_ | with_reducible refine abr_yes rfl ?_ | refine abr_yes (by decide) ?_ | refine abr_no (by decide) ?_ | with_reducible refine abr_same_ne ?_); (conv => whnf))))))
          refine aapp_owned ho (by rw [List.length_map, packTo_length]; show (j + 1) * 1 ≤ _; omega) fun t' tk' ho' _ => ?_
          rw [show List.map byteV (packTo l j) ++ [AVal.v (Value.int IntKind.u8 ((val 0 (bitsAt l (8 * j) 8) : Nat) : Int))] = List.map byteV (packTo l (j + 1)) by
            rw [packTo_succ, List.map_append, ← byteAt_val, List.map_cons, byte_ofNat (val8_lt _ _ (by omega))]; rfl]
          ((conv => whnf); (repeat ((first | with_reducible refine abr_true rfl ?_ | with_reducible refine abr_false rfl ?_ | with_reducible refine abr_yes rfl ?_ | refine abr_yes (by decide) ?_ | refine abr_no (by decide) ?_ | with_reducible refine abr_same_ne ?_); (conv => whnf))))
          (repeat ((first | refine aload (by (repeat (first | with_reducible exact upd_same _ _ _ | assumption | rw [upd_ne _ _ (by first | assumption | (apply Ne.symm; assumption))]))) rfl ?_ | refine afit_i64 (by omega) ?_ | refine arem_nonneg (by omega) (by omega) ?_ | refine adiv_i64 (by omega) (by omega) ?_ | refine abr_yes (by omega) ?_ | refine abr_no (by omega) ?_ | refine amin ?_ | refine amax ?_ | refine afit_u64 (by omega) ?_ | refine afit_u8 (by omega) ?_ | rw [List.length_map]); ((conv => whnf); (repeat ((first | with_reducible refine abr_true rfl ?_ | with_reducible refine abr_false rfl ?_ | with_reducible refine abr_yes rfl ?_ | refine abr_yes (by decide) ?_ | refine abr_no (by decide) ?_ | with_reducible refine abr_same_ne ?_); (conv => whnf))))))
          rw [show ((8 * j : Nat) : Int) + 8 = ((8 * (j + 1) : Nat) : Int) by omega]
          refine ⟨(j + 1, tk', _), ⟨by dsimp only; omega, ho'⟩, by dsimp only; omega, Sub.refl _, ?_⟩
          ((conv => whnf); (repeat ((first | with_reducible refine abr_true rfl ?_ | with_reducible refine abr_false rfl ?_ | with_reducible refine abr_yes rfl ?_ | refine abr_yes (by decide) ?_ | refine abr_no (by decide) ?_ | with_reducible refine abr_same_ne ?_); (conv => whnf))))
          (repeat' first | with_reducible exact EnvLe.refl _ | (refine EnvLe.node ?_ (by first | exact Or.inl rfl | exact Or.inr (Or.inl rfl) | exact Or.inr (Or.inr ⟨nofun, VLe.slice _ _ _⟩)) ?_))
    · ((conv => whnf); (repeat ((first | with_reducible refine abr_true rfl ?_ | with_reducible refine abr_false rfl ?_ | with_reducible refine abr_yes rfl ?_ | refine abr_yes (by decide) ?_ | refine abr_no (by decide) ?_ | with_reducible refine abr_same_ne ?_); (conv => whnf))))
      try rw [List.length_map]
      refine abr_no (by omega) ?_
      ((conv => whnf); (repeat ((first | with_reducible refine abr_true rfl ?_ | with_reducible refine abr_false rfl ?_ | with_reducible refine abr_yes rfl ?_ | refine abr_yes (by decide) ?_ | refine abr_no (by decide) ?_ | with_reducible refine abr_same_ne ?_); (conv => whnf))))
      refine aret_same ⟨tk, ho, ?_⟩
      rw [pack_packTo, show (l.length + 7) / 8 = j by omega]
theorem refBytes (l : List Bool) (t : Tok) (σ : AHeap) (hl : l.length ≤ 1000000) : ACalls Try.prog i_bowlineref01_Bytes [bl t l] σ fun x σ' => x = sl .none (pack l) ∧ σ' = σ := by
  refine acall_less (refBytesO l t σ hl) ?_
  rintro v σ' ⟨tk, ho, rfl⟩
  exact ⟨_, _, VLe.slice _ _ _, ho.sub, rfl, rfl⟩
end Go.Proofs.Ythjjkcmiachpcaa
/-
  The document's bits: bits of bytes; what is got.
-/
namespace Go.Proofs.Ythjjkcmiachpcaa
set_option linter.unusedVariables false
set_option linter.unusedSimpArgs false
open Go Go.Am

theorem numBits_get (v : Nat) : ∀ (n m : Nat), m < n → (numBits v n)[m]? = some (v.testBit (n - 1 - m))
  | 0, m, h => by omega
  | n + 1, 0, h => by simp [numBits]
  | n + 1, m + 1, h => by
    simp only [numBits, List.getElem?_cons_succ]
    rw [numBits_get v n m (by omega)]
    congr 2; omega
theorem mask_eq : ∀ m, m < 8 → 256 / 2 ^ (m + 1) = 2 ^ (7 - m) := by decide
theorem mask_le : ∀ m, m < 9 → 256 / 2 ^ (m + 1) ≤ 128 := by decide
theorem mask_half (m : Nat) : 256 / 2 ^ (m + 1) / 2 = 256 / 2 ^ (m + 1 + 1) := by rw [Nat.div_div_eq_div_mul, ← Nat.pow_succ]

set_option maxRecDepth 10000 in
theorem refBits (b : List UInt8) (t : Tok) (σ : AHeap) : ACalls Try.prog i_bowlineref01_Bits [sl t b] σ fun x σ' => x = bl .none (unpack (b.take 8192)) ∧ σ' = σ := by
  refine k_bowlineref01_Bits rfl ?_
  ((conv => whnf); (repeat ((first | with_reducible refine abr_true rfl ?_ | with_reducible refine abr_false rfl ?_ | with_reducible refine abr_yes rfl ?_ | refine abr_yes (by decide) ?_ | refine abr_no (by decide) ?_ | with_reducible refine abr_same_ne ?_); (conv => whnf))))
  refine aloop (α := Nat × Tok × AHeap) (fun x => [(s3, bl x.2.1 (unpack (b.take x.1))), (s4, i64v x.1)]) (fun x => x.2.2) (fun x => x.1 ≤ b.length ∧ x.1 ≤ 8192 ∧ Owned σ x.2.2 x.2.1) (fun x => 8192 - x.1) (0, .full, σ) ⟨by omega, by omega, .full _⟩ (Sub.refl _) ?_ ?_
  · ((conv => whnf); (repeat ((first | with_reducible refine abr_true rfl ?_ | with_reducible refine abr_false rfl ?_ | with_reducible refine abr_yes rfl ?_ | refine abr_yes (by decide) ?_ | refine abr_no (by decide) ?_ | with_reducible refine abr_same_ne ?_); (conv => whnf))))
    (repeat' first | with_reducible exact EnvLe.refl _ | (refine EnvLe.node ?_ (by first | exact Or.inl rfl | exact Or.inr (Or.inl rfl) | exact Or.inr (Or.inr ⟨nofun, VLe.slice _ _ _⟩)) ?_))
  · rintro ⟨i, tk, σ1⟩ ⟨hi, hi2, ho⟩
    dsimp only at hi hi2 ho ⊢
    by_cases h : i < b.length
    · by_cases h2 : i < 8192
      · have hul := unpack_length (b.take i)
        rw [List.length_take, Nat.min_eq_left hi] at hul
        ((conv => whnf); (repeat ((first | with_reducible refine abr_true rfl ?_ | with_reducible refine abr_false rfl ?_ | with_reducible refine abr_yes rfl ?_ | refine abr_yes (by decide) ?_ | refine abr_no (by decide) ?_ | with_reducible refine abr_same_ne ?_); (conv => whnf))))
        (repeat ((first | refine aload (by (repeat (first | with_reducible exact upd_same _ _ _ | assumption | rw [upd_ne _ _ (by first | assumption | (apply Ne.symm; assumption))]))) rfl ?_ | refine afit_i64 (by omega) ?_ | refine arem_nonneg (by omega) (by omega) ?_ | refine adiv_i64 (by omega) (by omega) ?_ | refine abr_yes (by omega) ?_ | refine abr_no (by omega) ?_ | refine amin ?_ | refine amax ?_ | refine afit_u64 (by omega) ?_ | refine afit_u8 (by omega) ?_ | rw [List.length_map]); ((conv => whnf); (repeat ((first | with_reducible refine abr_true rfl ?_ | with_reducible refine abr_false rfl ?_ | with_reducible refine abr_yes rfl ?_ | refine abr_yes (by decide) ?_ | refine abr_no (by decide) ?_ | with_reducible refine abr_same_ne ?_); (conv => whnf))))))
        refine aloop (α := Nat × Tok × AHeap) (fun x => [(s3, bl x.2.1 (unpack (b.take i) ++ (byteBits b[i]).take x.1)), (s5, u8v (256 / 2 ^ (x.1 + 1)))]) (fun x => x.2.2) (fun x => x.1 ≤ 8 ∧ Owned σ x.2.2 x.2.1) (fun x => 8 - x.1) (0, tk, σ1) ⟨by omega, ho⟩ (Sub.refl _) ?_ ?_
        · ((conv => whnf); (repeat ((first | with_reducible refine abr_true rfl ?_ | with_reducible refine abr_false rfl ?_ | with_reducible refine abr_yes rfl ?_ | refine abr_yes (by decide) ?_ | refine abr_no (by decide) ?_ | with_reducible refine abr_same_ne ?_); (conv => whnf))))
          dsimp only
          rw [List.take_zero, List.append_nil, show 256 / 2 ^ (0 + 1) = 128 by decide]
          (repeat' first | with_reducible exact EnvLe.refl _ | (refine EnvLe.node ?_ (by first | exact Or.inl rfl | exact Or.inr (Or.inl rfl) | exact Or.inr (Or.inr ⟨nofun, VLe.slice _ _ _⟩)) ?_))
        · rintro ⟨m, tk2, σ2⟩ ⟨hm, ho2⟩
          dsimp only at hm ho2 ⊢
          have hx := b[i].toNat_lt
          by_cases hm8 : m < 8
          · have hle := mask_le m (by omega)
            have hpos : 0 < 256 / 2 ^ (m + 1) := by rw [mask_eq m hm8]; exact Nat.pos_of_ne_zero (by simp)
            ((conv => whnf); (repeat ((first | with_reducible refine abr_true rfl ?_ | with_reducible refine abr_false rfl ?_ | with_reducible refine abr_yes rfl ?_ | refine abr_yes (by decide) ?_ | refine abr_no (by decide) ?_ | with_reducible refine abr_same_ne ?_); (conv => whnf))))
            refine abr_yes (by omega) ?_
            ((conv => whnf); (repeat ((first | with_reducible refine abr_true rfl ?_ | with_reducible refine abr_false rfl ?_ | with_reducible refine abr_yes rfl ?_ | refine abr_yes (by decide) ?_ | refine abr_no (by decide) ?_ | with_reducible refine abr_same_ne ?_); (conv => whnf))))
            refine aget (by omega) (get_bytes h) ?_
            ((conv => whnf); (repeat ((first | with_reducible refine abr_true rfl ?_ | with_reducible refine abr_false rfl ?_ | with_reducible refine abr_yes rfl ?_ | refine abr_yes (by decide) ?_ | refine abr_no (by decide) ?_ | with_reducible refine abr_same_ne ?_); (conv => whnf))))
            refine acell rfl ?_
            ((conv => whnf); (repeat ((first | with_reducible refine abr_true rfl ?_ | with_reducible refine abr_false rfl ?_ | with_reducible refine abr_yes rfl ?_ | refine abr_yes (by decide) ?_ | refine abr_no (by decide) ?_ | with_reducible refine abr_same_ne ?_); (conv => whnf))))
            refine adiv_u8 (by omega) (by omega) ?_
            ((conv => whnf); (repeat ((first | with_reducible refine abr_true rfl ?_ | with_reducible refine abr_false rfl ?_ | with_reducible refine abr_yes rfl ?_ | refine abr_yes (by decide) ?_ | refine abr_no (by decide) ?_ | with_reducible refine abr_same_ne ?_); (conv => whnf))))
            refine arem_nat (b := 2) (by omega) ?_
            ((conv => whnf); (repeat ((first | with_reducible refine abr_true rfl ?_ | with_reducible refine abr_false rfl ?_ | with_reducible refine abr_yes rfl ?_ | refine abr_yes (by decide) ?_ | refine abr_no (by decide) ?_ | with_reducible refine abr_same_ne ?_); (conv => whnf))))
            rw [mask_eq m hm8, testBit_one, ← mask_eq m hm8]
            ((conv => whnf); (repeat ((first | with_reducible refine abr_true rfl ?_ | with_reducible refine abr_false rfl ?_ | with_reducible refine abr_yes rfl ?_ | refine abr_yes (by decide) ?_ | refine abr_no (by decide) ?_ | with_reducible refine abr_same_ne ?_); (conv => whnf))))
            refine aapp_owned ho2 (by rw [List.length_map, List.length_append, List.length_take, byteBits_length, hul]; show (8 * i + min m 8 + 1) * 1 ≤ _; omega) fun t' tk' ho' _ => ?_
            have hb : (byteBits b[i])[m]? = some (b[i].toNat.testBit (7 - m)) := numBits_get b[i].toNat 8 m hm8
            rw [show List.map boolv (unpack (b.take i) ++ (byteBits b[i]).take m) ++ [AVal.v (Value.bool (b[i].toNat.testBit (7 - m)))] = List.map boolv (unpack (b.take i) ++ (byteBits b[i]).take (m + 1)) by
              rw [take_snoc hb]; simp]
            ((conv => whnf); (repeat ((first | with_reducible refine abr_true rfl ?_ | with_reducible refine abr_false rfl ?_ | with_reducible refine abr_yes rfl ?_ | refine abr_yes (by decide) ?_ | refine abr_no (by decide) ?_ | with_reducible refine abr_same_ne ?_); (conv => whnf))))
            refine adiv_u8 (b := 2) (by omega) (by omega) ?_
            ((conv => whnf); (repeat ((first | with_reducible refine abr_true rfl ?_ | with_reducible refine abr_false rfl ?_ | with_reducible refine abr_yes rfl ?_ | refine abr_yes (by decide) ?_ | refine abr_no (by decide) ?_ | with_reducible refine abr_same_ne ?_); (conv => whnf))))
            rw [mask_half]
            refine ⟨(m + 1, tk', _), ⟨by dsimp only; omega, ho'⟩, by dsimp only; omega, Sub.refl _, ?_⟩
            ((conv => whnf); (repeat ((first | with_reducible refine abr_true rfl ?_ | with_reducible refine abr_false rfl ?_ | with_reducible refine abr_yes rfl ?_ | refine abr_yes (by decide) ?_ | refine abr_no (by decide) ?_ | with_reducible refine abr_same_ne ?_); (conv => whnf))))
            (repeat' first | with_reducible exact EnvLe.refl _ | (refine EnvLe.node ?_ (by first | exact Or.inl rfl | exact Or.inr (Or.inl rfl) | exact Or.inr (Or.inr ⟨nofun, VLe.slice _ _ _⟩)) ?_))
          · have : m = 8 := by omega
            subst this
            ((conv => whnf); (repeat ((first | with_reducible refine abr_true rfl ?_ | with_reducible refine abr_false rfl ?_ | with_reducible refine abr_yes rfl ?_ | refine abr_yes (by decide) ?_ | refine abr_no (by decide) ?_ | with_reducible refine abr_same_ne ?_); (conv => whnf))))
            (repeat ((first | refine aload (by (repeat (first | with_reducible exact upd_same _ _ _ | assumption | rw [upd_ne _ _ (by first | assumption | (apply Ne.symm; assumption))]))) rfl ?_ | refine afit_i64 (by omega) ?_ | refine arem_nonneg (by omega) (by omega) ?_ | refine adiv_i64 (by omega) (by omega) ?_ | refine abr_yes (by omega) ?_ | refine abr_no (by omega) ?_ | refine amin ?_ | refine amax ?_ | refine afit_u64 (by omega) ?_ | refine afit_u8 (by omega) ?_ | rw [List.length_map]); ((conv => whnf); (repeat ((first | with_reducible refine abr_true rfl ?_ | with_reducible refine abr_false rfl ?_ | with_reducible refine abr_yes rfl ?_ | refine abr_yes (by decide) ?_ | refine abr_no (by decide) ?_ | with_reducible refine abr_same_ne ?_); (conv => whnf))))))
            refine ⟨(i + 1, tk2, σ2), ⟨by dsimp only; omega, by dsimp only; omega, ho2⟩, by dsimp only; omega, Sub.refl _, ?_⟩
            have e : unpack (b.take (i + 1)) = unpack (b.take i) ++ (byteBits b[i]).take 8 := by
              rw [take_snoc (List.getElem?_eq_getElem h), unpack_append, List.take_of_length_le (l := byteBits b[i]) (by rw [byteBits_length]; omega)]
              congr 1
            ((conv => whnf); (repeat ((first | with_reducible refine abr_true rfl ?_ | with_reducible refine abr_false rfl ?_ | with_reducible refine abr_yes rfl ?_ | refine abr_yes (by decide) ?_ | refine abr_no (by decide) ?_ | with_reducible refine abr_same_ne ?_); (conv => whnf))))
            rw [e]
            (repeat' first | with_reducible exact EnvLe.refl _ | (refine EnvLe.node ?_ (by first | exact Or.inl rfl | exact Or.inr (Or.inl rfl) | exact Or.inr (Or.inr ⟨nofun, VLe.slice _ _ _⟩)) ?_))
      · ((conv => whnf); (repeat ((first | with_reducible refine abr_true rfl ?_ | with_reducible refine abr_false rfl ?_ | with_reducible refine abr_yes rfl ?_ | refine abr_yes (by decide) ?_ | refine abr_no (by decide) ?_ | with_reducible refine abr_same_ne ?_); (conv => whnf))))
        (repeat ((first | refine aload (by (repeat (first | with_reducible exact upd_same _ _ _ | assumption | rw [upd_ne _ _ (by first | assumption | (apply Ne.symm; assumption))]))) rfl ?_ | refine afit_i64 (by omega) ?_ | refine arem_nonneg (by omega) (by omega) ?_ | refine adiv_i64 (by omega) (by omega) ?_ | refine abr_yes (by omega) ?_ | refine abr_no (by omega) ?_ | refine amin ?_ | refine amax ?_ | refine afit_u64 (by omega) ?_ | refine afit_u8 (by omega) ?_ | rw [List.length_map]); ((conv => whnf); (repeat ((first | with_reducible refine abr_true rfl ?_ | with_reducible refine abr_false rfl ?_ | with_reducible refine abr_yes rfl ?_ | refine abr_yes (by decide) ?_ | refine abr_no (by decide) ?_ | with_reducible refine abr_same_ne ?_); (conv => whnf))))))
        refine aret_sl ho.sub ⟨?_, rfl⟩
        rw [show i = 8192 by omega]
    · ((conv => whnf); (repeat ((first | with_reducible refine abr_true rfl ?_ | with_reducible refine abr_false rfl ?_ | with_reducible refine abr_yes rfl ?_ | refine abr_yes (by decide) ?_ | refine abr_no (by decide) ?_ | with_reducible refine abr_same_ne ?_); (conv => whnf))))
      (repeat ((first | refine aload (by (repeat (first | with_reducible exact upd_same _ _ _ | assumption | rw [upd_ne _ _ (by first | assumption | (apply Ne.symm; assumption))]))) rfl ?_ | refine afit_i64 (by omega) ?_ | refine arem_nonneg (by omega) (by omega) ?_ | refine adiv_i64 (by omega) (by omega) ?_ | refine abr_yes (by omega) ?_ | refine abr_no (by omega) ?_ | refine amin ?_ | refine amax ?_ | refine afit_u64 (by omega) ?_ | refine afit_u8 (by omega) ?_ | rw [List.length_map]); ((conv => whnf); (repeat ((first | with_reducible refine abr_true rfl ?_ | with_reducible refine abr_false rfl ?_ | with_reducible refine abr_yes rfl ?_ | refine abr_yes (by decide) ?_ | refine abr_no (by decide) ?_ | with_reducible refine abr_same_ne ?_); (conv => whnf))))))
      refine aret_sl ho.sub ⟨?_, rfl⟩
      rw [List.take_of_length_le (by omega), List.take_of_length_le (by omega)]

set_option maxRecDepth 10000 in
theorem refGet (l : List Bool) (t : Tok) (k : Nat) (n : Int) (σ : AHeap) (hk : k ≤ l.length) (hl : l.length ≤ 1000000) :
    ACalls Try.prog i_bowlineref01_Get [bl t l, i64v k, i64v n] σ fun x σ' => x = .tup [u64v (getVal l k n), i64v (getAt l.length k n), i64v (getCode l.length k n)] ∧ σ' = σ := by
  refine k_bowlineref01_Get rfl ?_
  ((conv => whnf); (repeat ((first | with_reducible refine abr_true rfl ?_ | with_reducible refine abr_false rfl ?_ | with_reducible refine abr_yes rfl ?_ | refine abr_yes (by decide) ?_ | refine abr_no (by decide) ?_ | with_reducible refine abr_same_ne ?_); (conv => whnf))))
  by_cases h1 : n < 0
  · have hc : getCode l.length k n = 1 := by unfold getCode; rw [if_pos (.inl h1)]
    (repeat ((first | refine aload (by (repeat (first | with_reducible exact upd_same _ _ _ | assumption | rw [upd_ne _ _ (by first | assumption | (apply Ne.symm; assumption))]))) rfl ?_ | refine afit_i64 (by omega) ?_ | refine arem_nonneg (by omega) (by omega) ?_ | refine adiv_i64 (by omega) (by omega) ?_ | refine abr_yes (by omega) ?_ | refine abr_no (by omega) ?_ | refine amin ?_ | refine amax ?_ | refine afit_u64 (by omega) ?_ | refine afit_u8 (by omega) ?_ | rw [List.length_map]); ((conv => whnf); (repeat ((first | with_reducible refine abr_true rfl ?_ | with_reducible refine abr_false rfl ?_ | with_reducible refine abr_yes rfl ?_ | refine abr_yes (by decide) ?_ | refine abr_no (by decide) ?_ | with_reducible refine abr_same_ne ?_); (conv => whnf))))))
    refine aret_same ⟨?_, rfl⟩
    unfold getVal getAt; rw [hc]; rfl
  · by_cases h2 : n > 64
    · have hc : getCode l.length k n = 1 := by unfold getCode; rw [if_pos (.inr h2)]
      (repeat ((first | refine aload (by (repeat (first | with_reducible exact upd_same _ _ _ | assumption | rw [upd_ne _ _ (by first | assumption | (apply Ne.symm; assumption))]))) rfl ?_ | refine afit_i64 (by omega) ?_ | refine arem_nonneg (by omega) (by omega) ?_ | refine adiv_i64 (by omega) (by omega) ?_ | refine abr_yes (by omega) ?_ | refine abr_no (by omega) ?_ | refine amin ?_ | refine amax ?_ | refine afit_u64 (by omega) ?_ | refine afit_u8 (by omega) ?_ | rw [List.length_map]); ((conv => whnf); (repeat ((first | with_reducible refine abr_true rfl ?_ | with_reducible refine abr_false rfl ?_ | with_reducible refine abr_yes rfl ?_ | refine abr_yes (by decide) ?_ | refine abr_no (by decide) ?_ | with_reducible refine abr_same_ne ?_); (conv => whnf))))))
      refine aret_same ⟨?_, rfl⟩
      unfold getVal getAt; rw [hc]; rfl
    · by_cases h3 : n > (l.length : Int) - k
      · have hc : getCode l.length k n = 8 := by unfold getCode; rw [if_neg (by omega), if_pos h3]
        (repeat ((first | refine aload (by (repeat (first | with_reducible exact upd_same _ _ _ | assumption | rw [upd_ne _ _ (by first | assumption | (apply Ne.symm; assumption))]))) rfl ?_ | refine afit_i64 (by omega) ?_ | refine arem_nonneg (by omega) (by omega) ?_ | refine adiv_i64 (by omega) (by omega) ?_ | refine abr_yes (by omega) ?_ | refine abr_no (by omega) ?_ | refine amin ?_ | refine amax ?_ | refine afit_u64 (by omega) ?_ | refine afit_u8 (by omega) ?_ | rw [List.length_map]); ((conv => whnf); (repeat ((first | with_reducible refine abr_true rfl ?_ | with_reducible refine abr_false rfl ?_ | with_reducible refine abr_yes rfl ?_ | refine abr_yes (by decide) ?_ | refine abr_no (by decide) ?_ | with_reducible refine abr_same_ne ?_); (conv => whnf))))))
        refine aret_same ⟨?_, rfl⟩
        unfold getVal getAt; rw [hc]; rfl
      · have hc : getCode l.length k n = 0 := by unfold getCode; rw [if_neg (by omega), if_neg h3]
        (repeat ((first | refine aload (by (repeat (first | with_reducible exact upd_same _ _ _ | assumption | rw [upd_ne _ _ (by first | assumption | (apply Ne.symm; assumption))]))) rfl ?_ | refine afit_i64 (by omega) ?_ | refine arem_nonneg (by omega) (by omega) ?_ | refine adiv_i64 (by omega) (by omega) ?_ | refine abr_yes (by omega) ?_ | refine abr_no (by omega) ?_ | refine amin ?_ | refine amax ?_ | refine afit_u64 (by omega) ?_ | refine afit_u8 (by omega) ?_ | rw [List.length_map]); ((conv => whnf); (repeat ((first | with_reducible refine abr_true rfl ?_ | with_reducible refine abr_false rfl ?_ | with_reducible refine abr_yes rfl ?_ | refine abr_yes (by decide) ?_ | refine abr_no (by decide) ?_ | with_reducible refine abr_same_ne ?_); (conv => whnf))))))
        refine aloop (α := Nat) (fun j => [(s9, u64v (val 0 ((l.drop k).take j))), (s10, i64v ((k + j : Nat) : Int))]) (fun _ => σ) (fun j => j ≤ n.toNat) (fun j => n.toNat - j) 0 (by omega) (Sub.refl _) ?_ ?_
        · ((conv => whnf); (repeat ((first | with_reducible refine abr_true rfl ?_ | with_reducible refine abr_false rfl ?_ | with_reducible refine abr_yes rfl ?_ | refine abr_yes (by decide) ?_ | refine abr_no (by decide) ?_ | with_reducible refine abr_same_ne ?_); (conv => whnf))))
          (repeat' first | with_reducible exact EnvLe.refl _ | (refine EnvLe.node ?_ (by first | exact Or.inl rfl | exact Or.inr (Or.inl rfl) | exact Or.inr (Or.inr ⟨nofun, VLe.slice _ _ _⟩)) ?_))
        · rintro j hj
          by_cases h : j < n.toNat
          · have hin : k + j < l.length := by omega
            have hv2 : val 0 ((l.drop k).take j) < 2 ^ 63 := by
              have h1 := val_lt ((l.drop k).take j)
              have h2 : ((l.drop k).take j).length ≤ 63 := by rw [List.length_take]; omega
              exact Nat.lt_of_lt_of_le h1 (Nat.pow_le_pow_right (by omega) h2)
            have e : val 0 ((l.drop k).take (j + 1)) = 2 * val 0 ((l.drop k).take j) + l[k + j].toNat := by
              rw [take_snoc (l := l.drop k) (i := j) (x := l[k + j]) (by rw [List.getElem?_drop, List.getElem?_eq_getElem hin]), val_snoc]
            ((conv => whnf); (repeat ((first | with_reducible refine abr_true rfl ?_ | with_reducible refine abr_false rfl ?_ | with_reducible refine abr_yes rfl ?_ | refine abr_yes (by decide) ?_ | refine abr_no (by decide) ?_ | with_reducible refine abr_same_ne ?_); (conv => whnf))))
            (repeat ((first | refine aload (by (repeat (first | with_reducible exact upd_same _ _ _ | assumption | rw [upd_ne _ _ (by first | assumption | (apply Ne.symm; assumption))]))) rfl ?_ | refine afit_i64 (by omega) ?_ | refine arem_nonneg (by omega) (by omega) ?_ | refine adiv_i64 (by omega) (by omega) ?_ | refine abr_yes (by omega) ?_ | refine abr_no (by omega) ?_ | refine amin ?_ | refine amax ?_ | refine afit_u64 (by omega) ?_ | refine afit_u8 (by omega) ?_ | rw [List.length_map]); ((conv => whnf); (repeat ((first | with_reducible refine abr_true rfl ?_ | with_reducible refine abr_false rfl ?_ | with_reducible refine abr_yes rfl ?_ | refine abr_yes (by decide) ?_ | refine abr_no (by decide) ?_ | with_reducible refine abr_same_ne ?_); (conv => whnf))))))
            try refine afit_u64 (by omega) ?_
            rw [show (2 : Int) * ((val 0 ((l.drop k).take j) : Nat) : Int) = ((2 * val 0 ((l.drop k).take j) : Nat) : Int) by omega]
            ((conv => whnf); (repeat ((first | with_reducible refine abr_true rfl ?_ | with_reducible refine abr_false rfl ?_ | with_reducible refine abr_yes rfl ?_ | refine abr_yes (by decide) ?_ | refine abr_no (by decide) ?_ | with_reducible refine abr_same_ne ?_); (conv => whnf))))
            refine aget (by omega) (get_bools hin) ?_
            ((conv => whnf); (repeat ((first | with_reducible refine abr_true rfl ?_ | with_reducible refine abr_false rfl ?_ | with_reducible refine abr_yes rfl ?_ | refine abr_yes (by decide) ?_ | refine abr_no (by decide) ?_ | with_reducible refine abr_same_ne ?_); (conv => whnf))))
            refine acell rfl ?_
            ((conv => whnf); (repeat ((first | with_reducible refine abr_true rfl ?_ | with_reducible refine abr_false rfl ?_ | with_reducible refine abr_yes rfl ?_ | refine abr_yes (by decide) ?_ | refine abr_no (by decide) ?_ | with_reducible refine abr_same_ne ?_); (conv => whnf))))
            have nx : ((k + j : Nat) : Int) + 1 = ((k + (j + 1) : Nat) : Int) := by omega
            cases hb : l[k + j] with
            | true =>
              rw [hb] at e
              ((conv => whnf); (repeat ((first | with_reducible refine abr_true rfl ?_ | with_reducible refine abr_false rfl ?_ | with_reducible refine abr_yes rfl ?_ | refine abr_yes (by decide) ?_ | refine abr_no (by decide) ?_ | with_reducible refine abr_same_ne ?_); (conv => whnf))))
              refine afit_u64 (by omega) ?_
              ((conv => whnf); (repeat ((first | with_reducible refine abr_true rfl ?_ | with_reducible refine abr_false rfl ?_ | with_reducible refine abr_yes rfl ?_ | refine abr_yes (by decide) ?_ | refine abr_no (by decide) ?_ | with_reducible refine abr_same_ne ?_); (conv => whnf))))
              (repeat ((first | refine aload (by (repeat (first | with_reducible exact upd_same _ _ _ | assumption | rw [upd_ne _ _ (by first | assumption | (apply Ne.symm; assumption))]))) rfl ?_ | refine afit_i64 (by omega) ?_ | refine arem_nonneg (by omega) (by omega) ?_ | refine adiv_i64 (by omega) (by omega) ?_ | refine abr_yes (by omega) ?_ | refine abr_no (by omega) ?_ | refine amin ?_ | refine amax ?_ | refine afit_u64 (by omega) ?_ | refine afit_u8 (by omega) ?_ | rw [List.length_map]); ((conv => whnf); (repeat ((first | with_reducible refine abr_true rfl ?_ | with_reducible refine abr_false rfl ?_ | with_reducible refine abr_yes rfl ?_ | refine abr_yes (by decide) ?_ | refine abr_no (by decide) ?_ | with_reducible refine abr_same_ne ?_); (conv => whnf))))))
              refine ⟨j + 1, by omega, by omega, Sub.refl _, ?_⟩
              ((conv => whnf); (repeat ((first | with_reducible refine abr_true rfl ?_ | with_reducible refine abr_false rfl ?_ | with_reducible refine abr_yes rfl ?_ | refine abr_yes (by decide) ?_ | refine abr_no (by decide) ?_ | with_reducible refine abr_same_ne ?_); (conv => whnf))))
              rw [e, show ((2 * val 0 ((l.drop k).take j) : Nat) : Int) + 1 = ((2 * val 0 ((l.drop k).take j) + Bool.toNat true : Nat) : Int) by simp, nx]
              (repeat' first | with_reducible exact EnvLe.refl _ | (refine EnvLe.node ?_ (by first | exact Or.inl rfl | exact Or.inr (Or.inl rfl) | exact Or.inr (Or.inr ⟨nofun, VLe.slice _ _ _⟩)) ?_))
            | false =>
              rw [hb] at e
              ((conv => whnf); (repeat ((first | with_reducible refine abr_true rfl ?_ | with_reducible refine abr_false rfl ?_ | with_reducible refine abr_yes rfl ?_ | refine abr_yes (by decide) ?_ | refine abr_no (by decide) ?_ | with_reducible refine abr_same_ne ?_); (conv => whnf))))
              (repeat ((first | refine aload (by (repeat (first | with_reducible exact upd_same _ _ _ | assumption | rw [upd_ne _ _ (by first | assumption | (apply Ne.symm; assumption))]))) rfl ?_ | refine afit_i64 (by omega) ?_ | refine arem_nonneg (by omega) (by omega) ?_ | refine adiv_i64 (by omega) (by omega) ?_ | refine abr_yes (by omega) ?_ | refine abr_no (by omega) ?_ | refine amin ?_ | refine amax ?_ | refine afit_u64 (by omega) ?_ | refine afit_u8 (by omega) ?_ | rw [List.length_map]); ((conv => whnf); (repeat ((first | with_reducible refine abr_true rfl ?_ | with_reducible refine abr_false rfl ?_ | with_reducible refine abr_yes rfl ?_ | refine abr_yes (by decide) ?_ | refine abr_no (by decide) ?_ | with_reducible refine abr_same_ne ?_); (conv => whnf))))))
              refine ⟨j + 1, by omega, by omega, Sub.refl _, ?_⟩
              ((conv => whnf); (repeat ((first | with_reducible refine abr_true rfl ?_ | with_reducible refine abr_false rfl ?_ | with_reducible refine abr_yes rfl ?_ | refine abr_yes (by decide) ?_ | refine abr_no (by decide) ?_ | with_reducible refine abr_same_ne ?_); (conv => whnf))))
              rw [e, nx]
              (repeat' first | with_reducible exact EnvLe.refl _ | (refine EnvLe.node ?_ (by first | exact Or.inl rfl | exact Or.inr (Or.inl rfl) | exact Or.inr (Or.inr ⟨nofun, VLe.slice _ _ _⟩)) ?_))
          · have : j = n.toNat := by omega
            subst this
            ((conv => whnf); (repeat ((first | with_reducible refine abr_true rfl ?_ | with_reducible refine abr_false rfl ?_ | with_reducible refine abr_yes rfl ?_ | refine abr_yes (by decide) ?_ | refine abr_no (by decide) ?_ | with_reducible refine abr_same_ne ?_); (conv => whnf))))
            (repeat ((first | refine aload (by (repeat (first | with_reducible exact upd_same _ _ _ | assumption | rw [upd_ne _ _ (by first | assumption | (apply Ne.symm; assumption))]))) rfl ?_ | refine afit_i64 (by omega) ?_ | refine arem_nonneg (by omega) (by omega) ?_ | refine adiv_i64 (by omega) (by omega) ?_ | refine abr_yes (by omega) ?_ | refine abr_no (by omega) ?_ | refine amin ?_ | refine amax ?_ | refine afit_u64 (by omega) ?_ | refine afit_u8 (by omega) ?_ | rw [List.length_map]); ((conv => whnf); (repeat ((first | with_reducible refine abr_true rfl ?_ | with_reducible refine abr_false rfl ?_ | with_reducible refine abr_yes rfl ?_ | refine abr_yes (by decide) ?_ | refine abr_no (by decide) ?_ | with_reducible refine abr_same_ne ?_); (conv => whnf))))))
            refine aret_same ⟨?_, rfl⟩
            unfold getVal getAt
            rw [if_pos hc, if_pos hc, hc, show ((k + n.toNat : Nat) : Int) = (k : Int) + n by omega]

end Go.Proofs.Ythjjkcmiachpcaa
/-
  The bodies of one package, compiled to the framework's language (printed by a program of this session).
-/
namespace Go.Proofs.Ythjjkcmiachpcaa
set_option linter.unusedVariables false
set_option linter.unusedSimpArgs false
open Go Go.Am
/- bowlineref08.Read -/
def c49 : Cfg := ⟨qs, [], 67, []⟩
def ir49 : IFun := ⟨2, [.tmp s4, .tmp s5, .tmp s6],
  (.seq (.reg (.one ⟨some s4, none, (.mv (.c (.slice 1 [] .full)))⟩
    (.one ⟨some s5, none, (.mv (.c (.v (.int .i64 0))))⟩
    (.one ⟨some s6, none, (.mv (.c (.v (.int .i64 0))))⟩
    .done))))
  (.seq (.seq (.reg (.one ⟨some s14, none, (.mv (.t s1))⟩
    (.one ⟨some s15, none, (.bin false .neq (.t s14) (.c (.v (.int .i64 11))))⟩
    (.one ⟨some s16, none, (.mv (.t s15))⟩
    (.one ⟨some s17, some (s16, true), (.mv (.t s1))⟩
    (.one ⟨some s18, some (s16, true), (.bin false .neq (.t s17) (.c (.v (.int .i64 15))))⟩
    (.one ⟨some s19, none, (.pick (.t s16) (.t s18) (.c (.v (.bool false))))⟩
    .done)))))))
  (.cond (.t s19) (.seq (.reg (.one ⟨some s4, none, (.mv (.c (.slice 1 [] .full)))⟩
    (.one ⟨some s5, none, (.mv (.c (.v (.int .i64 0))))⟩
    (.one ⟨some s6, none, (.mv (.c (.v (.int .i64 9))))⟩
    .done))))
  .ret) .skip))
  (.seq (.reg (.one ⟨some s20, none, (.mv (.t s0))⟩
    (.one ⟨some s21, none, (.callq 25 [(.t s20)])⟩
    (.one ⟨some s7, none, (.mv (.t s21))⟩
    .done))))
  (.seq (.reg (.one ⟨some s8, none, (.mv (.c (.slice 1 [] .full)))⟩
    .done))
  (.seq (.reg (.one ⟨some s9, none, (.mv (.c (.v (.int .i64 0))))⟩
    .done))
  (.seq (.block 0 (.loop (.block 1 (.seq (.seq (.reg (.one ⟨some s22, none, (.mv (.t s7))⟩
    (.one ⟨some s23, none, (.len false (.t s22))⟩
    (.one ⟨some s24, none, (.mv (.t s9))⟩
    (.one ⟨some s25, none, (.bin false .sub (.t s23) (.t s24))⟩
    (.one ⟨some s26, none, (.mv (.t s1))⟩
    (.one ⟨some s27, none, (.bin false .add (.t s26) (.c (.v (.int .i64 1))))⟩
    (.one ⟨some s28, none, (.bin false .lss (.t s25) (.t s27))⟩
    .done))))))))
  (.cond (.t s28) (.seq (.reg (.one ⟨some s4, none, (.mv (.c (.slice 1 [] .full)))⟩
    (.one ⟨some s5, none, (.mv (.c (.v (.int .i64 0))))⟩
    (.one ⟨some s6, none, (.mv (.c (.v (.int .i64 8))))⟩
    .done))))
  .ret) .skip))
  (.seq (.reg (.one ⟨some s30, none, (.mv (.t s7))⟩
    (.one ⟨some s31, none, (.mv (.t s9))⟩
    (.one ⟨some s32, none, (.bin false .add (.t s31) (.c (.v (.int .i64 1))))⟩
    (.one ⟨some s33, none, (.mv (.t s1))⟩
    (.one ⟨some s34, none, (.callq 26 [(.t s30), (.t s32), (.t s33)])⟩
    (.one ⟨some s29, none, (.mv (.t s34))⟩
    (.one ⟨some s35, none, (.ext (.t s29) 0)⟩
    (.one ⟨some s36, none, (.ext (.t s29) 1)⟩
    (.one ⟨some s37, none, (.ext (.t s29) 2)⟩
    (.one ⟨some s10, none, (.mv (.t s35))⟩
    (.one ⟨some s11, none, (.mv (.t s36))⟩
    (.one ⟨some s12, none, (.mv (.t s37))⟩
    .done)))))))))))))
  (.seq (.reg (.one ⟨some s38, none, (.mv (.t s7))⟩
    (.one ⟨some s39, none, (.mv (.t s9))⟩
    (.one ⟨some s40, none, (.iaddr 1 (.t s38) (.t s39))⟩
    (.one ⟨some s41, none, (.load none (.t s40))⟩
    (.one ⟨some s13, none, (.mv (.t s41))⟩
    .done))))))
  (.seq (.reg (.one ⟨some s42, none, (.mv (.t s11))⟩
    (.one ⟨some s9, none, (.mv (.t s42))⟩
    .done)))
  (.seq (.seq (.reg (.one ⟨some s43, none, (.mv (.t s10))⟩
    (.one ⟨some s44, none, (.bin false .eql (.t s43) (.c (.v (.int .u64 0))))⟩
    .done)))
  (.cond (.t s44) (.seq (.reg (.one ⟨some s4, none, (.mv (.c (.slice 1 [] .full)))⟩
    (.one ⟨some s5, none, (.mv (.c (.v (.int .i64 0))))⟩
    (.one ⟨some s6, none, (.mv (.c (.v (.int .i64 3))))⟩
    .done))))
  .ret) .skip))
  (.seq (.reg (.one ⟨some s45, none, (.mv (.t s8))⟩
    (.one ⟨some s46, none, (.mv (.t s10))⟩
    (.one ⟨some s47, none, (.conv .i64 (.t s46))⟩
    (.one ⟨some s48, none, (.row 1 [(.t s47)])⟩
    (.one ⟨some s49, none, (.app 1 8 (.t s45) (.t s48))⟩
    (.one ⟨some s8, none, (.mv (.t s49))⟩
    .done)))))))
  (.seq (.seq (.reg (.one ⟨some s50, none, (.mv (.t s13))⟩
    (.one ⟨some s51, none, (.not (.t s50))⟩
    .done)))
  (.cond (.t s51) (.exit 0) .skip))
  (.seq (.reg (.one ⟨some s52, none, (.mv (.t s8))⟩
    (.one ⟨some s53, none, (.len false (.t s52))⟩
    (.one ⟨some s54, none, (.bin false .eql (.t s53) (.c (.v (.int .i64 23))))⟩
    .done))))
  (.cond (.t s54) (.seq (.reg (.one ⟨some s4, none, (.mv (.c (.slice 1 [] .full)))⟩
    (.one ⟨some s5, none, (.mv (.c (.v (.int .i64 0))))⟩
    (.one ⟨some s6, none, (.mv (.c (.v (.int .i64 2))))⟩
    .done))))
  .ret) .skip))))))))))))
  (.seq (.block 2 (.loop (.seq (.seq (.reg (.one ⟨some s55, none, (.mv (.t s9))⟩
    (.one ⟨some s56, none, (.bin false .rem (.t s55) (.c (.v (.int .i64 8))))⟩
    (.one ⟨some s57, none, (.bin false .neq (.t s56) (.c (.v (.int .i64 0))))⟩
    .done))))
  (.cond (.t s57) .skip (.exit 2)))
  (.block 3 (.seq (.seq (.reg (.one ⟨some s58, none, (.mv (.t s7))⟩
    (.one ⟨some s59, none, (.mv (.t s9))⟩
    (.one ⟨some s60, none, (.iaddr 1 (.t s58) (.t s59))⟩
    (.one ⟨some s61, none, (.load none (.t s60))⟩
    .done)))))
  (.cond (.t s61) (.seq (.reg (.one ⟨some s4, none, (.mv (.c (.slice 1 [] .full)))⟩
    (.one ⟨some s5, none, (.mv (.c (.v (.int .i64 0))))⟩
    (.one ⟨some s6, none, (.mv (.c (.v (.int .i64 3))))⟩
    .done))))
  .ret) .skip))
  (.reg (.one ⟨some s62, none, (.mv (.t s9))⟩
    (.one ⟨some s63, none, (.bin false .add (.t s62) (.c (.v (.int .i64 1))))⟩
    (.one ⟨some s9, none, (.mv (.t s63))⟩
    .done)))))))))
  (.seq (.reg (.one ⟨some s64, none, (.mv (.t s8))⟩
    (.one ⟨some s65, none, (.mv (.t s9))⟩
    (.one ⟨some s66, none, (.bin false .quo (.t s65) (.c (.v (.int .i64 8))))⟩
    (.one ⟨some s4, none, (.mv (.t s64))⟩
    (.one ⟨some s5, none, (.mv (.t s66))⟩
    (.one ⟨some s6, none, (.mv (.c (.v (.int .i64 0))))⟩
    .done)))))))
  .ret))))))))⟩
theorem ok49 : compF Try.prog c49 Try.f49 = some ir49 := by kernel_rfl
theorem k_bowlineref08_Read {args : List AVal} {σ : AHeap} {Q : AVal → AHeap → Prop} (hl : Nat.ble args.length 67 = true) (h : argsK (Env.full 9) 0 args fun env => evC Try.prog c49 ir49.body env σ (retQ ir49 Q)) : ACalls Try.prog 49 args σ Q :=
  acalls_of Try.func49 ok49 rfl (Nat.le_of_ble_eq_true hl) h
/- bowlineref08.Size -/
def c54 : Cfg := ⟨qs, [], 30, []⟩
def ir54 : IFun := ⟨2, [.tmp s4],
  (.seq (.reg (.one ⟨some s4, none, (.mv (.c (.v (.int .i64 0))))⟩
    .done))
  (.seq (.seq (.reg (.one ⟨some s6, none, (.mv (.t s1))⟩
    (.one ⟨some s7, none, (.bin false .neq (.t s6) (.c (.v (.int .i64 11))))⟩
    (.one ⟨some s8, none, (.mv (.t s7))⟩
    (.one ⟨some s9, some (s8, true), (.mv (.t s1))⟩
    (.one ⟨some s10, some (s8, true), (.bin false .neq (.t s9) (.c (.v (.int .i64 15))))⟩
    (.one ⟨some s11, none, (.pick (.t s8) (.t s10) (.c (.v (.bool false))))⟩
    (.one ⟨some s12, none, (.mv (.t s11))⟩
    (.one ⟨some s13, some (s12, false), (.mv (.t s0))⟩
    (.one ⟨some s14, some (s12, false), (.bin false .lss (.t s13) (.c (.v (.int .i64 1))))⟩
    (.one ⟨some s15, none, (.pick (.t s12) (.c (.v (.bool true))) (.t s14))⟩
    (.one ⟨some s16, none, (.mv (.t s15))⟩
    (.one ⟨some s17, some (s16, false), (.mv (.t s0))⟩
    (.one ⟨some s18, some (s16, false), (.bin false .gtr (.t s17) (.c (.v (.int .i64 23))))⟩
    (.one ⟨some s19, none, (.pick (.t s16) (.c (.v (.bool true))) (.t s18))⟩
    .done)))))))))))))))
  (.cond (.t s19) (.seq (.reg (.one ⟨some s4, none, (.mv (.c (.v (.int .i64 0))))⟩
    .done))
  .ret) .skip))
  (.seq (.reg (.one ⟨some s5, none, (.mv (.c (.v (.int .i64 0))))⟩
    .done))
  (.seq (.block 0 (.loop (.seq (.seq (.reg (.one ⟨some s20, none, (.mv (.t s5))⟩
    (.one ⟨some s21, none, (.bin false .mul (.c (.v (.int .i64 8))) (.t s20))⟩
    (.one ⟨some s22, none, (.mv (.t s0))⟩
    (.one ⟨some s23, none, (.mv (.t s1))⟩
    (.one ⟨some s24, none, (.bin false .add (.t s23) (.c (.v (.int .i64 1))))⟩
    (.one ⟨some s25, none, (.bin false .mul (.t s22) (.t s24))⟩
    (.one ⟨some s26, none, (.bin false .lss (.t s21) (.t s25))⟩
    .done))))))))
  (.cond (.t s26) .skip (.exit 0)))
  (.block 1 (.reg (.one ⟨some s27, none, (.mv (.t s5))⟩
    (.one ⟨some s28, none, (.bin false .add (.t s27) (.c (.v (.int .i64 1))))⟩
    (.one ⟨some s5, none, (.mv (.t s28))⟩
    .done))))))))
  (.seq (.reg (.one ⟨some s29, none, (.mv (.t s5))⟩
    (.one ⟨some s4, none, (.mv (.t s29))⟩
    .done)))
  .ret)))))⟩
theorem ok54 : compF Try.prog c54 Try.f54 = some ir54 := by kernel_rfl
theorem k_bowlineref08_Size {args : List AVal} {σ : AHeap} {Q : AVal → AHeap → Prop} (hl : Nat.ble args.length 30 = true) (h : argsK (Env.full 9) 0 args fun env => evC Try.prog c54 ir54.body env σ (retQ ir54 Q)) : ACalls Try.prog 54 args σ Q :=
  acalls_of Try.func54 ok54 rfl (Nat.le_of_ble_eq_true hl) h
/- bowlineref08.Write -/
def c56 : Cfg := ⟨qs, [], 61, []⟩
def ir56 : IFun := ⟨2, [.tmp s4, .tmp s5],
  (.seq (.reg (.one ⟨some s4, none, (.mv (.c (.slice 1 [] .full)))⟩
    (.one ⟨some s5, none, (.mv (.c (.v (.int .i64 0))))⟩
    .done)))
  (.seq (.seq (.reg (.one ⟨some s8, none, (.mv (.t s1))⟩
    (.one ⟨some s9, none, (.bin false .neq (.t s8) (.c (.v (.int .i64 11))))⟩
    (.one ⟨some s10, none, (.mv (.t s9))⟩
    (.one ⟨some s11, some (s10, true), (.mv (.t s1))⟩
    (.one ⟨some s12, some (s10, true), (.bin false .neq (.t s11) (.c (.v (.int .i64 15))))⟩
    (.one ⟨some s13, none, (.pick (.t s10) (.t s12) (.c (.v (.bool false))))⟩
    .done)))))))
  (.cond (.t s13) (.seq (.reg (.one ⟨some s4, none, (.mv (.c (.slice 1 [] .full)))⟩
    (.one ⟨some s5, none, (.mv (.c (.v (.int .i64 9))))⟩
    .done)))
  .ret) .skip))
  (.seq (.seq (.reg (.one ⟨some s14, none, (.mv (.t s0))⟩
    (.one ⟨some s15, none, (.len false (.t s14))⟩
    (.one ⟨some s16, none, (.bin false .eql (.t s15) (.c (.v (.int .i64 0))))⟩
    .done))))
  (.cond (.t s16) (.seq (.reg (.one ⟨some s4, none, (.mv (.c (.slice 1 [] .full)))⟩
    (.one ⟨some s5, none, (.mv (.c (.v (.int .i64 4))))⟩
    .done)))
  .ret) .skip))
  (.seq (.seq (.reg (.one ⟨some s17, none, (.mv (.t s0))⟩
    (.one ⟨some s18, none, (.len false (.t s17))⟩
    (.one ⟨some s19, none, (.bin false .gtr (.t s18) (.c (.v (.int .i64 23))))⟩
    .done))))
  (.cond (.t s19) (.seq (.reg (.one ⟨some s4, none, (.mv (.c (.slice 1 [] .full)))⟩
    (.one ⟨some s5, none, (.mv (.c (.v (.int .i64 2))))⟩
    .done)))
  .ret) .skip))
  (.seq (.reg (.one ⟨some s6, none, (.mv (.c (.slice 1 [] .full)))⟩
    .done))
  (.seq (.seq (.reg (.one ⟨some s7, none, (.mv (.c (.v (.int .i64 0))))⟩
    .done))
  (.block 0 (.loop (.seq (.seq (.reg (.one ⟨some s20, none, (.mv (.t s7))⟩
    (.one ⟨some s21, none, (.mv (.t s0))⟩
    (.one ⟨some s22, none, (.len false (.t s21))⟩
    (.one ⟨some s23, none, (.bin false .lss (.t s20) (.t s22))⟩
    .done)))))
  (.cond (.t s23) .skip (.exit 0)))
  (.seq (.block 1 (.seq (.seq (.reg (.one ⟨some s26, none, (.mv (.t s0))⟩
    (.one ⟨some s27, none, (.mv (.t s7))⟩
    (.one ⟨some s28, none, (.iaddr 1 (.t s26) (.t s27))⟩
    (.one ⟨some s29, none, (.load none (.t s28))⟩
    (.one ⟨some s30, none, (.bin false .lss (.t s29) (.c (.v (.int .i64 1))))⟩
    (.one ⟨some s31, none, (.mv (.t s30))⟩
    (.one ⟨some s32, some (s31, false), (.mv (.t s0))⟩
    (.one ⟨some s33, some (s31, false), (.mv (.t s7))⟩
    (.one ⟨some s34, some (s31, false), (.iaddr 1 (.t s32) (.t s33))⟩
    (.one ⟨some s35, some (s31, false), (.load none (.t s34))⟩
    (.one ⟨some s36, some (s31, false), (.mv (.t s1))⟩
    (.one ⟨some s37, some (s31, false), (.callq 58 [(.t s36)])⟩
    (.one ⟨some s38, some (s31, false), (.bin false .geq (.t s35) (.t s37))⟩
    (.one ⟨some s39, none, (.pick (.t s31) (.c (.v (.bool true))) (.t s38))⟩
    .done)))))))))))))))
  (.cond (.t s39) (.seq (.reg (.one ⟨some s4, none, (.mv (.c (.slice 1 [] .full)))⟩
    (.one ⟨some s5, none, (.mv (.c (.v (.int .i64 1))))⟩
    .done)))
  .ret) .skip))
  (.seq (.reg (.one ⟨some s40, none, (.mv (.t s6))⟩
    (.one ⟨some s41, none, (.mv (.t s7))⟩
    (.one ⟨some s42, none, (.bin false .add (.t s41) (.c (.v (.int .i64 1))))⟩
    (.one ⟨some s43, none, (.mv (.t s0))⟩
    (.one ⟨some s44, none, (.len false (.t s43))⟩
    (.one ⟨some s45, none, (.bin false .lss (.t s42) (.t s44))⟩
    (.one ⟨some s46, none, (.row 1 [(.t s45)])⟩
    (.one ⟨some s47, none, (.app 1 1 (.t s40) (.t s46))⟩
    (.one ⟨some s6, none, (.mv (.t s47))⟩
    .done))))))))))
  (.reg (.one ⟨some s49, none, (.mv (.t s6))⟩
    (.one ⟨some s50, none, (.mv (.t s0))⟩
    (.one ⟨some s51, none, (.mv (.t s7))⟩
    (.one ⟨some s52, none, (.iaddr 1 (.t s50) (.t s51))⟩
    (.one ⟨some s53, none, (.load none (.t s52))⟩
    (.one ⟨some s54, none, (.conv .u64 (.t s53))⟩
    (.one ⟨some s55, none, (.mv (.t s1))⟩
    (.one ⟨some s56, none, (.callq 41 [(.t s49), (.t s54), (.t s55)])⟩
    (.one ⟨some s48, none, (.mv (.t s56))⟩
    (.one ⟨some s57, none, (.ext (.t s48) 0)⟩
    (.one ⟨some s58, none, (.ext (.t s48) 1)⟩
    (.one ⟨some s6, none, (.mv (.t s57))⟩
    .done))))))))))))))))
  (.reg (.one ⟨some s24, none, (.mv (.t s7))⟩
    (.one ⟨some s25, none, (.bin false .add (.t s24) (.c (.v (.int .i64 1))))⟩
    (.one ⟨some s7, none, (.mv (.t s25))⟩
    .done)))))))))
  (.seq (.reg (.one ⟨some s59, none, (.mv (.t s6))⟩
    (.one ⟨some s60, none, (.callq 43 [(.t s59)])⟩
    (.one ⟨some s4, none, (.mv (.t s60))⟩
    (.one ⟨some s5, none, (.mv (.c (.v (.int .i64 0))))⟩
    .done)))))
  .ret)))))))⟩
theorem ok56 : compF Try.prog c56 Try.f56 = some ir56 := by kernel_rfl
theorem k_bowlineref08_Write {args : List AVal} {σ : AHeap} {Q : AVal → AHeap → Prop} (hl : Nat.ble args.length 61 = true) (h : argsK (Env.full 9) 0 args fun env => evC Try.prog c56 ir56.body env σ (retQ ir56 Q)) : ACalls Try.prog 56 args σ Q :=
  acalls_of Try.func56 ok56 rfl (Nat.le_of_ble_eq_true hl) h
/- bowlineref08.top -/
def c58 : Cfg := ⟨qs, [], 13, []⟩
def ir58 : IFun := ⟨1, [.tmp s2],
  (.seq (.reg (.one ⟨some s2, none, (.mv (.c (.v (.int .i64 0))))⟩
    .done))
  (.seq (.reg (.one ⟨some s3, none, (.mv (.c (.v (.int .i64 1))))⟩
    .done))
  (.seq (.seq (.reg (.one ⟨some s4, none, (.mv (.c (.v (.int .i64 0))))⟩
    .done))
  (.block 0 (.loop (.seq (.seq (.reg (.one ⟨some s5, none, (.mv (.t s4))⟩
    (.one ⟨some s6, none, (.mv (.t s0))⟩
    (.one ⟨some s7, none, (.bin false .lss (.t s5) (.t s6))⟩
    .done))))
  (.cond (.t s7) .skip (.exit 0)))
  (.seq (.block 1 (.reg (.one ⟨some s10, none, (.mv (.t s3))⟩
    (.one ⟨some s11, none, (.bin false .mul (.c (.v (.int .i64 2))) (.t s10))⟩
    (.one ⟨some s3, none, (.mv (.t s11))⟩
    .done)))))
  (.reg (.one ⟨some s8, none, (.mv (.t s4))⟩
    (.one ⟨some s9, none, (.bin false .add (.t s8) (.c (.v (.int .i64 1))))⟩
    (.one ⟨some s4, none, (.mv (.t s9))⟩
    .done)))))))))
  (.seq (.reg (.one ⟨some s12, none, (.mv (.t s3))⟩
    (.one ⟨some s2, none, (.mv (.t s12))⟩
    .done)))
  .ret))))⟩
theorem ok58 : compF Try.prog c58 Try.f58 = some ir58 := by kernel_rfl
theorem k_bowlineref08_top {args : List AVal} {σ : AHeap} {Q : AVal → AHeap → Prop} (hl : Nat.ble args.length 13 = true) (h : argsK (Env.full 9) 0 args fun env => evC Try.prog c58 ir58.body env σ (retQ ir58 Q)) : ACalls Try.prog 58 args σ Q :=
  acalls_of Try.func58 ok58 rfl (Nat.le_of_ble_eq_true hl) h
end Go.Proofs.Ythjjkcmiachpcaa
/-
  The document's lengths: sizes, and what is written.
-/
namespace Go.Proofs.Ythjjkcmiachpcaa
set_option linter.unusedVariables false
set_option linter.unusedSimpArgs false
open Go Go.Am

theorem refTop (W : Nat) (σ : AHeap) (hW : W ≤ 60) : ACalls Try.prog i_bowlineref08_top [i64v W] σ fun v σ' => v = i64v ((2 ^ W : Nat) : Int) ∧ σ' = σ := by
  refine k_bowlineref08_top rfl ?_
  ((conv => whnf); (repeat ((first | with_reducible refine abr_true rfl ?_ | with_reducible refine abr_false rfl ?_ | with_reducible refine abr_yes rfl ?_ | refine abr_yes (by decide) ?_ | refine abr_no (by decide) ?_ | with_reducible refine abr_same_ne ?_); (conv => whnf))))
  refine aloop (α := Nat) (fun i => [(s3, i64v ((2 ^ i : Nat) : Int)), (s4, i64v i)]) (fun _ => σ) (fun i => i ≤ W) (fun i => W - i) 0 (Nat.zero_le _) (Sub.refl _) ?_ ?_
  · ((conv => whnf); (repeat ((first | with_reducible refine abr_true rfl ?_ | with_reducible refine abr_false rfl ?_ | with_reducible refine abr_yes rfl ?_ | refine abr_yes (by decide) ?_ | refine abr_no (by decide) ?_ | with_reducible refine abr_same_ne ?_); (conv => whnf))))
    (repeat' first | with_reducible exact EnvLe.refl _ | (refine EnvLe.node ?_ (by first | exact Or.inl rfl | exact Or.inr (Or.inl rfl) | exact Or.inr (Or.inr ⟨nofun, VLe.slice _ _ _⟩)) ?_))
  · rintro i hi
    by_cases h : i < W
    · have hp : 2 ^ (i + 1) ≤ 2 ^ 60 := Nat.pow_le_pow_right (by omega) (by omega)
      have hs : 2 ^ (i + 1) = 2 * 2 ^ i := by rw [Nat.pow_succ, Nat.mul_comm]
      ((conv => whnf); (repeat ((first | with_reducible refine abr_true rfl ?_ | with_reducible refine abr_false rfl ?_ | with_reducible refine abr_yes rfl ?_ | refine abr_yes (by decide) ?_ | refine abr_no (by decide) ?_ | with_reducible refine abr_same_ne ?_); (conv => whnf))))
      (repeat ((first | refine aload (by (repeat (first | with_reducible exact upd_same _ _ _ | assumption | rw [upd_ne _ _ (by first | assumption | (apply Ne.symm; assumption))]))) rfl ?_ | refine afit_i64 (by omega) ?_ | refine arem_nonneg (by omega) (by omega) ?_ | refine adiv_i64 (by omega) (by omega) ?_ | refine abr_yes (by omega) ?_ | refine abr_no (by omega) ?_ | refine amin ?_ | refine amax ?_ | refine afit_u64 (by omega) ?_ | refine afit_u8 (by omega) ?_ | rw [List.length_map]); ((conv => whnf); (repeat ((first | with_reducible refine abr_true rfl ?_ | with_reducible refine abr_false rfl ?_ | with_reducible refine abr_yes rfl ?_ | refine abr_yes (by decide) ?_ | refine abr_no (by decide) ?_ | with_reducible refine abr_same_ne ?_); (conv => whnf))))))
      rw [show (2 : Int) * ((2 ^ i : Nat) : Int) = ((2 ^ (i + 1) : Nat) : Int) by omega]
      (repeat ((first | refine aload (by (repeat (first | with_reducible exact upd_same _ _ _ | assumption | rw [upd_ne _ _ (by first | assumption | (apply Ne.symm; assumption))]))) rfl ?_ | refine afit_i64 (by omega) ?_ | refine arem_nonneg (by omega) (by omega) ?_ | refine adiv_i64 (by omega) (by omega) ?_ | refine abr_yes (by omega) ?_ | refine abr_no (by omega) ?_ | refine amin ?_ | refine amax ?_ | refine afit_u64 (by omega) ?_ | refine afit_u8 (by omega) ?_ | rw [List.length_map]); ((conv => whnf); (repeat ((first | with_reducible refine abr_true rfl ?_ | with_reducible refine abr_false rfl ?_ | with_reducible refine abr_yes rfl ?_ | refine abr_yes (by decide) ?_ | refine abr_no (by decide) ?_ | with_reducible refine abr_same_ne ?_); (conv => whnf))))))
      refine ⟨i + 1, by omega, by omega, Sub.refl _, ?_⟩
      ((conv => whnf); (repeat ((first | with_reducible refine abr_true rfl ?_ | with_reducible refine abr_false rfl ?_ | with_reducible refine abr_yes rfl ?_ | refine abr_yes (by decide) ?_ | refine abr_no (by decide) ?_ | with_reducible refine abr_same_ne ?_); (conv => whnf))))
      (repeat' first | with_reducible exact EnvLe.refl _ | (refine EnvLe.node ?_ (by first | exact Or.inl rfl | exact Or.inr (Or.inl rfl) | exact Or.inr (Or.inr ⟨nofun, VLe.slice _ _ _⟩)) ?_))
    · have : i = W := by omega
      subst this
      ((conv => whnf); (repeat ((first | with_reducible refine abr_true rfl ?_ | with_reducible refine abr_false rfl ?_ | with_reducible refine abr_yes rfl ?_ | refine abr_yes (by decide) ?_ | refine abr_no (by decide) ?_ | with_reducible refine abr_same_ne ?_); (conv => whnf))))
      (repeat ((first | refine aload (by (repeat (first | with_reducible exact upd_same _ _ _ | assumption | rw [upd_ne _ _ (by first | assumption | (apply Ne.symm; assumption))]))) rfl ?_ | refine afit_i64 (by omega) ?_ | refine arem_nonneg (by omega) (by omega) ?_ | refine adiv_i64 (by omega) (by omega) ?_ | refine abr_yes (by omega) ?_ | refine abr_no (by omega) ?_ | refine amin ?_ | refine amax ?_ | refine afit_u64 (by omega) ?_ | refine afit_u8 (by omega) ?_ | rw [List.length_map]); ((conv => whnf); (repeat ((first | with_reducible refine abr_true rfl ?_ | with_reducible refine abr_false rfl ?_ | with_reducible refine abr_yes rfl ?_ | refine abr_yes (by decide) ?_ | refine abr_no (by decide) ?_ | with_reducible refine abr_same_ne ?_); (conv => whnf))))))
      exact aret_same ⟨rfl, rfl⟩

theorem refSize (n w : Int) (σ : AHeap) : ACalls Try.prog i_bowlineref08_Size [i64v n, i64v w] σ fun v σ' => v = i64v (sizeV n w) ∧ σ' = σ := by
  refine k_bowlineref08_Size rfl ?_
  by_cases hw : w = 11 ∨ w = 15
  · by_cases h1 : n < 1
    · have e : sizeV n w = 0 := by unfold sizeV; rw [if_pos (.inr (.inl h1))]
      rcases hw with rfl | rfl
      all_goals
        ((conv => whnf); (repeat ((first | with_reducible refine abr_true rfl ?_ | with_reducible refine abr_false rfl ?_ | with_reducible refine abr_yes rfl ?_ | refine abr_yes (by decide) ?_ | refine abr_no (by decide) ?_ | with_reducible refine abr_same_ne ?_); (conv => whnf))))
        (repeat ((first | refine aload (by (repeat (first | with_reducible exact upd_same _ _ _ | assumption | rw [upd_ne _ _ (by first | assumption | (apply Ne.symm; assumption))]))) rfl ?_ | refine afit_i64 (by omega) ?_ | refine arem_nonneg (by omega) (by omega) ?_ | refine adiv_i64 (by omega) (by omega) ?_ | refine abr_yes (by omega) ?_ | refine abr_no (by omega) ?_ | refine amin ?_ | refine amax ?_ | refine afit_u64 (by omega) ?_ | refine afit_u8 (by omega) ?_ | rw [List.length_map]); ((conv => whnf); (repeat ((first | with_reducible refine abr_true rfl ?_ | with_reducible refine abr_false rfl ?_ | with_reducible refine abr_yes rfl ?_ | refine abr_yes (by decide) ?_ | refine abr_no (by decide) ?_ | with_reducible refine abr_same_ne ?_); (conv => whnf))))))
        exact aret_same ⟨by rw [e], rfl⟩
    · by_cases h2 : n > 23
      · have e : sizeV n w = 0 := by unfold sizeV; rw [if_pos (.inr (.inr h2))]
        rcases hw with rfl | rfl
        all_goals
          ((conv => whnf); (repeat ((first | with_reducible refine abr_true rfl ?_ | with_reducible refine abr_false rfl ?_ | with_reducible refine abr_yes rfl ?_ | refine abr_yes (by decide) ?_ | refine abr_no (by decide) ?_ | with_reducible refine abr_same_ne ?_); (conv => whnf))))
          (repeat ((first | refine aload (by (repeat (first | with_reducible exact upd_same _ _ _ | assumption | rw [upd_ne _ _ (by first | assumption | (apply Ne.symm; assumption))]))) rfl ?_ | refine afit_i64 (by omega) ?_ | refine arem_nonneg (by omega) (by omega) ?_ | refine adiv_i64 (by omega) (by omega) ?_ | refine abr_yes (by omega) ?_ | refine abr_no (by omega) ?_ | refine amin ?_ | refine amax ?_ | refine afit_u64 (by omega) ?_ | refine afit_u8 (by omega) ?_ | rw [List.length_map]); ((conv => whnf); (repeat ((first | with_reducible refine abr_true rfl ?_ | with_reducible refine abr_false rfl ?_ | with_reducible refine abr_yes rfl ?_ | refine abr_yes (by decide) ?_ | refine abr_no (by decide) ?_ | with_reducible refine abr_same_ne ?_); (conv => whnf))))))
          exact aret_same ⟨by rw [e], rfl⟩
      · have e : sizeV n w = (n * (w + 1) + 7) / 8 := by
          unfold sizeV; rw [if_neg]; rw [widthOk_iff.2 hw]
          rintro (h | h | h)
          · cases h
          · exact h1 h
          · exact h2 h
        have hb : 0 ≤ n * (w + 1) ∧ n * (w + 1) ≤ 368 := by
          rcases hw with rfl | rfl <;> omega
        obtain ⟨q, hq⟩ : ∃ q, q = n * (w + 1) := ⟨_, rfl⟩
        rw [← hq] at e hb
        rcases hw with rfl | rfl
        all_goals
          ((conv => whnf); (repeat ((first | with_reducible refine abr_true rfl ?_ | with_reducible refine abr_false rfl ?_ | with_reducible refine abr_yes rfl ?_ | refine abr_yes (by decide) ?_ | refine abr_no (by decide) ?_ | with_reducible refine abr_same_ne ?_); (conv => whnf))))
          (repeat ((first | refine aload (by (repeat (first | with_reducible exact upd_same _ _ _ | assumption | rw [upd_ne _ _ (by first | assumption | (apply Ne.symm; assumption))]))) rfl ?_ | refine afit_i64 (by omega) ?_ | refine arem_nonneg (by omega) (by omega) ?_ | refine adiv_i64 (by omega) (by omega) ?_ | refine abr_yes (by omega) ?_ | refine abr_no (by omega) ?_ | refine amin ?_ | refine amax ?_ | refine afit_u64 (by omega) ?_ | refine afit_u8 (by omega) ?_ | rw [List.length_map]); ((conv => whnf); (repeat ((first | with_reducible refine abr_true rfl ?_ | with_reducible refine abr_false rfl ?_ | with_reducible refine abr_yes rfl ?_ | refine abr_yes (by decide) ?_ | refine abr_no (by decide) ?_ | with_reducible refine abr_same_ne ?_); (conv => whnf))))))
          refine aloop (α := Nat) (fun i => [(s5, i64v i)]) (fun _ => σ) (fun i => 8 * (i : Int) ≤ q + 7) (fun i => 60 - i) 0 (by omega) (Sub.refl _) ?_ ?_
          · ((conv => whnf); (repeat ((first | with_reducible refine abr_true rfl ?_ | with_reducible refine abr_false rfl ?_ | with_reducible refine abr_yes rfl ?_ | refine abr_yes (by decide) ?_ | refine abr_no (by decide) ?_ | with_reducible refine abr_same_ne ?_); (conv => whnf))))
            (repeat' first | with_reducible exact EnvLe.refl _ | (refine EnvLe.node ?_ (by first | exact Or.inl rfl | exact Or.inr (Or.inl rfl) | exact Or.inr (Or.inr ⟨nofun, VLe.slice _ _ _⟩)) ?_))
          · rintro i hi
            ((conv => whnf); (repeat ((first | with_reducible refine abr_true rfl ?_ | with_reducible refine abr_false rfl ?_ | with_reducible refine abr_yes rfl ?_ | refine abr_yes (by decide) ?_ | refine abr_no (by decide) ?_ | with_reducible refine abr_same_ne ?_); (conv => whnf))))
            (repeat ((first | refine aload (by (repeat (first | with_reducible exact upd_same _ _ _ | assumption | rw [upd_ne _ _ (by first | assumption | (apply Ne.symm; assumption))]))) rfl ?_ | refine afit_i64 (by omega) ?_ | refine arem_nonneg (by omega) (by omega) ?_ | refine adiv_i64 (by omega) (by omega) ?_ | refine abr_yes (by omega) ?_ | refine abr_no (by omega) ?_ | refine amin ?_ | refine amax ?_ | refine afit_u64 (by omega) ?_ | refine afit_u8 (by omega) ?_ | rw [List.length_map]); ((conv => whnf); (repeat ((first | with_reducible refine abr_true rfl ?_ | with_reducible refine abr_false rfl ?_ | with_reducible refine abr_yes rfl ?_ | refine abr_yes (by decide) ?_ | refine abr_no (by decide) ?_ | with_reducible refine abr_same_ne ?_); (conv => whnf))))))
            refine abr_dec (fun h => ?_) (fun h => ?_)
            · ((conv => whnf); (repeat ((first | with_reducible refine abr_true rfl ?_ | with_reducible refine abr_false rfl ?_ | with_reducible refine abr_yes rfl ?_ | refine abr_yes (by decide) ?_ | refine abr_no (by decide) ?_ | with_reducible refine abr_same_ne ?_); (conv => whnf))))
              (repeat ((first | refine aload (by (repeat (first | with_reducible exact upd_same _ _ _ | assumption | rw [upd_ne _ _ (by first | assumption | (apply Ne.symm; assumption))]))) rfl ?_ | refine afit_i64 (by omega) ?_ | refine arem_nonneg (by omega) (by omega) ?_ | refine adiv_i64 (by omega) (by omega) ?_ | refine abr_yes (by omega) ?_ | refine abr_no (by omega) ?_ | refine amin ?_ | refine amax ?_ | refine afit_u64 (by omega) ?_ | refine afit_u8 (by omega) ?_ | rw [List.length_map]); ((conv => whnf); (repeat ((first | with_reducible refine abr_true rfl ?_ | with_reducible refine abr_false rfl ?_ | with_reducible refine abr_yes rfl ?_ | refine abr_yes (by decide) ?_ | refine abr_no (by decide) ?_ | with_reducible refine abr_same_ne ?_); (conv => whnf))))))
              refine ⟨i + 1, by omega, by omega, Sub.refl _, ?_⟩
              ((conv => whnf); (repeat ((first | with_reducible refine abr_true rfl ?_ | with_reducible refine abr_false rfl ?_ | with_reducible refine abr_yes rfl ?_ | refine abr_yes (by decide) ?_ | refine abr_no (by decide) ?_ | with_reducible refine abr_same_ne ?_); (conv => whnf))))
              (repeat' first | with_reducible exact EnvLe.refl _ | (refine EnvLe.node ?_ (by first | exact Or.inl rfl | exact Or.inr (Or.inl rfl) | exact Or.inr (Or.inr ⟨nofun, VLe.slice _ _ _⟩)) ?_))
            · ((conv => whnf); (repeat ((first | with_reducible refine abr_true rfl ?_ | with_reducible refine abr_false rfl ?_ | with_reducible refine abr_yes rfl ?_ | refine abr_yes (by decide) ?_ | refine abr_no (by decide) ?_ | with_reducible refine abr_same_ne ?_); (conv => whnf))))
              refine aret_same ⟨?_, rfl⟩
              rw [e]
              congr 2
              omega
  · have e : sizeV n w = 0 := by unfold sizeV; rw [if_pos (.inl (widthNo hw))]
    have g1 : w ≠ 11 := fun h => hw (.inl h)
    have g2 : w ≠ 15 := fun h => hw (.inr h)
    ((conv => whnf); (repeat ((first | with_reducible refine abr_true rfl ?_ | with_reducible refine abr_false rfl ?_ | with_reducible refine abr_yes rfl ?_ | refine abr_yes (by decide) ?_ | refine abr_no (by decide) ?_ | with_reducible refine abr_same_ne ?_); (conv => whnf))))
    refine abr_yes g1 ?_
    ((conv => whnf); (repeat ((first | with_reducible refine abr_true rfl ?_ | with_reducible refine abr_false rfl ?_ | with_reducible refine abr_yes rfl ?_ | refine abr_yes (by decide) ?_ | refine abr_no (by decide) ?_ | with_reducible refine abr_same_ne ?_); (conv => whnf))))
    refine abr_yes g2 ?_
    ((conv => whnf); (repeat ((first | with_reducible refine abr_true rfl ?_ | with_reducible refine abr_false rfl ?_ | with_reducible refine abr_yes rfl ?_ | refine abr_yes (by decide) ?_ | refine abr_no (by decide) ?_ | with_reducible refine abr_same_ne ?_); (conv => whnf))))
    exact aret_same ⟨by rw [e], rfl⟩

set_option maxRecDepth 10000 in
theorem refWrite (l : List Int) (t : Tok) (w : Int) (σ : AHeap) (hl : l.length ≤ 4611686018427387904) : ACalls Try.prog i_bowlineref08_Write [ints t l, i64v w] σ fun v σ' => v = .tup [sl .none (writeBytes l w), i64v (writeCode l w)] ∧ σ' = σ := by
  refine k_bowlineref08_Write rfl ?_
  by_cases hw : w = 11 ∨ w = 15
  · have hok := widthOk_iff.2 hw
    obtain ⟨W, rfl⟩ : ∃ W : Nat, w = W := ⟨w.toNat, by omega⟩
    have hW : W = 11 ∨ W = 15 := by omega
    have hpw : 2 ^ W ≤ 32768 := by rcases hW with rfl | rfl <;> decide
    ((conv => whnf); (repeat ((first | with_reducible refine abr_true rfl ?_ | with_reducible refine abr_false rfl ?_ | with_reducible refine abr_yes rfl ?_ | refine abr_yes (by decide) ?_ | refine abr_no (by decide) ?_ | with_reducible refine abr_same_ne ?_); (conv => whnf))))
    refine abr_dec (fun ha => ?_) (fun ha => ?_)
    all_goals
      ((conv => whnf); (repeat ((first | with_reducible refine abr_true rfl ?_ | with_reducible refine abr_false rfl ?_ | with_reducible refine abr_yes rfl ?_ | refine abr_yes (by decide) ?_ | refine abr_no (by decide) ?_ | with_reducible refine abr_same_ne ?_); (conv => whnf))))
      first
        | refine abr_no (fun h => h (by omega)) ?_
        | skip
      ((conv => whnf); (repeat ((first | with_reducible refine abr_true rfl ?_ | with_reducible refine abr_false rfl ?_ | with_reducible refine abr_yes rfl ?_ | refine abr_yes (by decide) ?_ | refine abr_no (by decide) ?_ | with_reducible refine abr_same_ne ?_); (conv => whnf))))
      by_cases h0 : l.length = 0
      · have hc : writeCode l ((W : Nat) : Int) = 4 := by unfold writeCode; rw [hok]; simp [h0]
        (repeat ((first | refine aload (by (repeat (first | with_reducible exact upd_same _ _ _ | assumption | rw [upd_ne _ _ (by first | assumption | (apply Ne.symm; assumption))]))) rfl ?_ | refine afit_i64 (by omega) ?_ | refine arem_nonneg (by omega) (by omega) ?_ | refine adiv_i64 (by omega) (by omega) ?_ | refine abr_yes (by omega) ?_ | refine abr_no (by omega) ?_ | refine amin ?_ | refine amax ?_ | refine afit_u64 (by omega) ?_ | refine afit_u8 (by omega) ?_ | rw [List.length_map]); ((conv => whnf); (repeat ((first | with_reducible refine abr_true rfl ?_ | with_reducible refine abr_false rfl ?_ | with_reducible refine abr_yes rfl ?_ | refine abr_yes (by decide) ?_ | refine abr_no (by decide) ?_ | with_reducible refine abr_same_ne ?_); (conv => whnf))))))
        exact aret VLe.tup_sl (Sub.refl _) ⟨by unfold writeBytes; rw [hc]; rfl, rfl⟩
      · by_cases h23 : l.length > 23
        · have hc : writeCode l ((W : Nat) : Int) = 2 := by unfold writeCode; rw [hok]; simp [h0, h23]
          (repeat ((first | refine aload (by (repeat (first | with_reducible exact upd_same _ _ _ | assumption | rw [upd_ne _ _ (by first | assumption | (apply Ne.symm; assumption))]))) rfl ?_ | refine afit_i64 (by omega) ?_ | refine arem_nonneg (by omega) (by omega) ?_ | refine adiv_i64 (by omega) (by omega) ?_ | refine abr_yes (by omega) ?_ | refine abr_no (by omega) ?_ | refine amin ?_ | refine amax ?_ | refine afit_u64 (by omega) ?_ | refine afit_u8 (by omega) ?_ | rw [List.length_map]); ((conv => whnf); (repeat ((first | with_reducible refine abr_true rfl ?_ | with_reducible refine abr_false rfl ?_ | with_reducible refine abr_yes rfl ?_ | refine abr_yes (by decide) ?_ | refine abr_no (by decide) ?_ | with_reducible refine abr_same_ne ?_); (conv => whnf))))))
          exact aret VLe.tup_sl (Sub.refl _) ⟨by unfold writeBytes; rw [hc]; rfl, rfl⟩
        · (repeat ((first | refine aload (by (repeat (first | with_reducible exact upd_same _ _ _ | assumption | rw [upd_ne _ _ (by first | assumption | (apply Ne.symm; assumption))]))) rfl ?_ | refine afit_i64 (by omega) ?_ | refine arem_nonneg (by omega) (by omega) ?_ | refine adiv_i64 (by omega) (by omega) ?_ | refine abr_yes (by omega) ?_ | refine abr_no (by omega) ?_ | refine amin ?_ | refine amax ?_ | refine afit_u64 (by omega) ?_ | refine afit_u8 (by omega) ?_ | rw [List.length_map]); ((conv => whnf); (repeat ((first | with_reducible refine abr_true rfl ?_ | with_reducible refine abr_false rfl ?_ | with_reducible refine abr_yes rfl ?_ | refine abr_yes (by decide) ?_ | refine abr_no (by decide) ?_ | with_reducible refine abr_same_ne ?_); (conv => whnf))))))
          refine aloop (α := Nat × Tok × AHeap) (fun x => [(s6, bl x.2.1 (lenBits l W x.1)), (s7, i64v x.1)]) (fun x => x.2.2) (fun x => x.1 ≤ l.length ∧ Owned σ x.2.2 x.2.1 ∧ ∀ j (h : j < l.length), j < x.1 → badLen W l[j] = false) (fun x => l.length - x.1) (0, .full, σ) ⟨Nat.zero_le _, .full _, fun _ _ h => by omega⟩ (Sub.refl _) ?_ ?_
          · ((conv => whnf); (repeat ((first | with_reducible refine abr_true rfl ?_ | with_reducible refine abr_false rfl ?_ | with_reducible refine abr_yes rfl ?_ | refine abr_yes (by decide) ?_ | refine abr_no (by decide) ?_ | with_reducible refine abr_same_ne ?_); (conv => whnf))))
            (repeat' first | with_reducible exact EnvLe.refl _ | (refine EnvLe.node ?_ (by first | exact Or.inl rfl | exact Or.inr (Or.inl rfl) | exact Or.inr (Or.inr ⟨nofun, VLe.slice _ _ _⟩)) ?_))
          · rintro ⟨i, tk, σ2⟩ ⟨hi, ho, hgood⟩
            dsimp only at hi ho hgood ⊢
            have hbl := lenBits_length l W i
            have hbl2 : i * (W + 1) ≤ 23 * 16 := Nat.mul_le_mul (by omega) (by omega)
            by_cases h : i < l.length
            · ((conv => whnf); (repeat ((first | with_reducible refine abr_true rfl ?_ | with_reducible refine abr_false rfl ?_ | with_reducible refine abr_yes rfl ?_ | refine abr_yes (by decide) ?_ | refine abr_no (by decide) ?_ | with_reducible refine abr_same_ne ?_); (conv => whnf))))
              (repeat ((first | refine aload (by (repeat (first | with_reducible exact upd_same _ _ _ | assumption | rw [upd_ne _ _ (by first | assumption | (apply Ne.symm; assumption))]))) rfl ?_ | refine afit_i64 (by omega) ?_ | refine arem_nonneg (by omega) (by omega) ?_ | refine adiv_i64 (by omega) (by omega) ?_ | refine abr_yes (by omega) ?_ | refine abr_no (by omega) ?_ | refine amin ?_ | refine amax ?_ | refine afit_u64 (by omega) ?_ | refine afit_u8 (by omega) ?_ | rw [List.length_map]); ((conv => whnf); (repeat ((first | with_reducible refine abr_true rfl ?_ | with_reducible refine abr_false rfl ?_ | with_reducible refine abr_yes rfl ?_ | refine abr_yes (by decide) ?_ | refine abr_no (by decide) ?_ | with_reducible refine abr_same_ne ?_); (conv => whnf))))))
              refine aget (by omega) (get_ints h) ?_
              ((conv => whnf); (repeat ((first | with_reducible refine abr_true rfl ?_ | with_reducible refine abr_false rfl ?_ | with_reducible refine abr_yes rfl ?_ | refine abr_yes (by decide) ?_ | refine abr_no (by decide) ?_ | with_reducible refine abr_same_ne ?_); (conv => whnf))))
              refine acell rfl ?_
              ((conv => whnf); (repeat ((first | with_reducible refine abr_true rfl ?_ | with_reducible refine abr_false rfl ?_ | with_reducible refine abr_yes rfl ?_ | refine abr_yes (by decide) ?_ | refine abr_no (by decide) ?_ | with_reducible refine abr_same_ne ?_); (conv => whnf))))
              have bad (hbad : badLen W l[i] = true) : writeCode l ((W : Nat) : Int) = 1 := by
                unfold writeCode
                rw [hok, if_neg (by simp), if_neg h0, if_neg h23, if_pos]
                rw [Int.toNat_natCast, List.any_eq_true]
                exact ⟨_, List.getElem_mem h, hbad⟩
              by_cases h1 : l[i] < 1
              · have hc := bad (decide_eq_true (.inl h1))
                refine abr_yes h1 ?_
                ((conv => whnf); (repeat ((first | with_reducible refine abr_true rfl ?_ | with_reducible refine abr_false rfl ?_ | with_reducible refine abr_yes rfl ?_ | refine abr_yes (by decide) ?_ | refine abr_no (by decide) ?_ | with_reducible refine abr_same_ne ?_); (conv => whnf))))
                exact aret VLe.tup_sl ho.sub ⟨by unfold writeBytes; rw [hc]; rfl, rfl⟩
              · refine abr_no h1 ?_
                ((conv => whnf); (repeat ((first | with_reducible refine abr_true rfl ?_ | with_reducible refine abr_false rfl ?_ | with_reducible refine abr_yes rfl ?_ | refine abr_yes (by decide) ?_ | refine abr_no (by decide) ?_ | with_reducible refine abr_same_ne ?_); (conv => whnf))))
                refine aget (by omega) (get_ints h) ?_
                ((conv => whnf); (repeat ((first | with_reducible refine abr_true rfl ?_ | with_reducible refine abr_false rfl ?_ | with_reducible refine abr_yes rfl ?_ | refine abr_yes (by decide) ?_ | refine abr_no (by decide) ?_ | with_reducible refine abr_same_ne ?_); (conv => whnf))))
                refine acell rfl ?_
                ((conv => whnf); (repeat ((first | with_reducible refine abr_true rfl ?_ | with_reducible refine abr_false rfl ?_ | with_reducible refine abr_yes rfl ?_ | refine abr_yes (by decide) ?_ | refine abr_no (by decide) ?_ | with_reducible refine abr_same_ne ?_); (conv => whnf))))
                refine acall (refTop W _ (by omega)) ?_
                rintro _ σ_ ⟨rfl, e_⟩
                obtain rfl := e_.symm
                refine ⟨?_, Ext.refl _⟩
                ((conv => whnf); (repeat ((first | with_reducible refine abr_true rfl ?_ | with_reducible refine abr_false rfl ?_ | with_reducible refine abr_yes rfl ?_ | refine abr_yes (by decide) ?_ | refine abr_no (by decide) ?_ | with_reducible refine abr_same_ne ?_); (conv => whnf))))
                by_cases h2 : l[i] ≥ ((2 ^ W : Nat) : Int)
                · have hc := bad (decide_eq_true (.inr h2))
                  refine abr_yes h2 ?_
                  ((conv => whnf); (repeat ((first | with_reducible refine abr_true rfl ?_ | with_reducible refine abr_false rfl ?_ | with_reducible refine abr_yes rfl ?_ | refine abr_yes (by decide) ?_ | refine abr_no (by decide) ?_ | with_reducible refine abr_same_ne ?_); (conv => whnf))))
                  exact aret VLe.tup_sl ho.sub ⟨by unfold writeBytes; rw [hc]; rfl, rfl⟩
                · have hg : badLen W l[i] = false := decide_eq_false (by omega)
                  have hlt : l[i].toNat < 2 ^ W := by omega
                  have hnat : ((l[i].toNat : Nat) : Int) = l[i] := by omega
                  have hget : l[i]?.getD 0 = l[i] := by rw [List.getElem?_eq_getElem h]; rfl
                  have b2 := put_num (lenBits l W i ++ [decide (i + 1 < l.length)]) l[i].toNat W (by rw [List.length_append, hbl]; show _ + 1 + W ≤ _; omega) (by omega) hlt
                  have next : lenBits l W (i + 1) = lenBits l W i ++ [decide (i + 1 < l.length)] ++ numBits l[i].toNat W := by
                    rw [lenBits_succ, hget]; simp
                  have good2 : ∀ j (h : j < l.length), j < i + 1 → badLen W l[j] = false := by
                    intro j hj hji
                    by_cases e : j = i
                    · subst e; exact hg
                    · exact hgood j hj (by omega)
                  refine abr_no h2 ?_
                  ((conv => whnf); (repeat ((first | with_reducible refine abr_true rfl ?_ | with_reducible refine abr_false rfl ?_ | with_reducible refine abr_yes rfl ?_ | refine abr_yes (by decide) ?_ | refine abr_no (by decide) ?_ | with_reducible refine abr_same_ne ?_); (conv => whnf))))
                  (repeat ((first | refine aload (by (repeat (first | with_reducible exact upd_same _ _ _ | assumption | rw [upd_ne _ _ (by first | assumption | (apply Ne.symm; assumption))]))) rfl ?_ | refine afit_i64 (by omega) ?_ | refine arem_nonneg (by omega) (by omega) ?_ | refine adiv_i64 (by omega) (by omega) ?_ | refine abr_yes (by omega) ?_ | refine abr_no (by omega) ?_ | refine amin ?_ | refine amax ?_ | refine afit_u64 (by omega) ?_ | refine afit_u8 (by omega) ?_ | rw [List.length_map]); ((conv => whnf); (repeat ((first | with_reducible refine abr_true rfl ?_ | with_reducible refine abr_false rfl ?_ | with_reducible refine abr_yes rfl ?_ | refine abr_yes (by decide) ?_ | refine abr_no (by decide) ?_ | with_reducible refine abr_same_ne ?_); (conv => whnf))))))
                  refine aapp_owned ho (by rw [List.length_map, hbl]; show (i * (W + 1) + 1) * 1 ≤ _; omega) fun t' tk' ho' _ => ?_
                  ((conv => whnf); (repeat ((first | with_reducible refine abr_true rfl ?_ | with_reducible refine abr_false rfl ?_ | with_reducible refine abr_yes rfl ?_ | refine abr_yes (by decide) ?_ | refine abr_no (by decide) ?_ | with_reducible refine abr_same_ne ?_); (conv => whnf))))
                  refine aget (by omega) (get_ints h) ?_
                  ((conv => whnf); (repeat ((first | with_reducible refine abr_true rfl ?_ | with_reducible refine abr_false rfl ?_ | with_reducible refine abr_yes rfl ?_ | refine abr_yes (by decide) ?_ | refine abr_no (by decide) ?_ | with_reducible refine abr_same_ne ?_); (conv => whnf))))
                  refine acell rfl ?_
                  ((conv => whnf); (repeat ((first | with_reducible refine abr_true rfl ?_ | with_reducible refine abr_false rfl ?_ | with_reducible refine abr_yes rfl ?_ | refine abr_yes (by decide) ?_ | refine abr_no (by decide) ?_ | with_reducible refine abr_same_ne ?_); (conv => whnf))))
                  refine afit_eq (m := ((l[i].toNat : Nat) : Int)) (by rw [← hnat]; exact wrap_u64 (by omega) (by omega)) ?_
                  ((conv => whnf); (repeat ((first | with_reducible refine abr_true rfl ?_ | with_reducible refine abr_false rfl ?_ | with_reducible refine abr_yes rfl ?_ | refine abr_yes (by decide) ?_ | refine abr_no (by decide) ?_ | with_reducible refine abr_same_ne ?_); (conv => whnf))))
                  have e1 : List.map boolv (lenBits l W i) ++ [AVal.v (Value.bool (@decide ((i : Int) + 1 < (l.length : Int)) (ltDec _ _)))] = List.map boolv (lenBits l W i ++ [decide (i + 1 < l.length)]) := by
                    rw [List.map_append, List.map_cons, List.map_nil]
                    rw [show boolv (decide (i + 1 < l.length)) = AVal.v (Value.bool (@decide ((i : Int) + 1 < (l.length : Int)) (ltDec _ _))) from congrArg boolv (dec_congr (by omega))]
                  rw [e1]
                  refine acall (refPutO (lenBits l W i ++ [decide (i + 1 < l.length)]) _ l[i].toNat (W : Int) _ (by omega) (by rw [List.length_append, hbl]; show _ + 1 ≤ _; omega)) ?_
                  rintro _ σ3 (⟨_, tk3, ho3, rfl⟩ | ⟨hno, _⟩)
                  case inr => exact absurd b2.1 hno
                  refine ⟨?_, ho3.ext⟩
                  rw [Int.toNat_natCast, ← next]
                  obtain ⟨σ4, ho4, hs4⟩ := owned_drop ho' ho3
                  ((conv => whnf); (repeat ((first | with_reducible refine abr_true rfl ?_ | with_reducible refine abr_false rfl ?_ | with_reducible refine abr_yes rfl ?_ | refine abr_yes (by decide) ?_ | refine abr_no (by decide) ?_ | with_reducible refine abr_same_ne ?_); (conv => whnf))))
                  (repeat ((first | refine aload (by (repeat (first | with_reducible exact upd_same _ _ _ | assumption | rw [upd_ne _ _ (by first | assumption | (apply Ne.symm; assumption))]))) rfl ?_ | refine afit_i64 (by omega) ?_ | refine arem_nonneg (by omega) (by omega) ?_ | refine adiv_i64 (by omega) (by omega) ?_ | refine abr_yes (by omega) ?_ | refine abr_no (by omega) ?_ | refine amin ?_ | refine amax ?_ | refine afit_u64 (by omega) ?_ | refine afit_u8 (by omega) ?_ | rw [List.length_map]); ((conv => whnf); (repeat ((first | with_reducible refine abr_true rfl ?_ | with_reducible refine abr_false rfl ?_ | with_reducible refine abr_yes rfl ?_ | refine abr_yes (by decide) ?_ | refine abr_no (by decide) ?_ | with_reducible refine abr_same_ne ?_); (conv => whnf))))))
                  refine ⟨(i + 1, tk3, σ4), ⟨by dsimp only; omega, ho4, good2⟩, by dsimp only; omega, hs4, ?_⟩
                  ((conv => whnf); (repeat ((first | with_reducible refine abr_true rfl ?_ | with_reducible refine abr_false rfl ?_ | with_reducible refine abr_yes rfl ?_ | refine abr_yes (by decide) ?_ | refine abr_no (by decide) ?_ | with_reducible refine abr_same_ne ?_); (conv => whnf))))
                  (repeat' first | with_reducible exact EnvLe.refl _ | (refine EnvLe.node ?_ (by first | exact Or.inl rfl | exact Or.inr (Or.inl rfl) | exact Or.inr (Or.inr ⟨nofun, VLe.slice _ _ _⟩)) ?_))
            · have hil : i = l.length := by omega
              have hc : writeCode l ((W : Nat) : Int) = 0 := by
                unfold writeCode
                rw [hok, if_neg (by simp), if_neg h0, if_neg h23, if_neg]
                rw [Int.toNat_natCast, List.any_eq_true]
                rintro ⟨x, hx, hb⟩
                obtain ⟨j, hj, rfl⟩ := List.getElem_of_mem hx
                rw [hgood j hj (by omega)] at hb; cases hb
              ((conv => whnf); (repeat ((first | with_reducible refine abr_true rfl ?_ | with_reducible refine abr_false rfl ?_ | with_reducible refine abr_yes rfl ?_ | refine abr_yes (by decide) ?_ | refine abr_no (by decide) ?_ | with_reducible refine abr_same_ne ?_); (conv => whnf))))
              (repeat ((first | refine aload (by (repeat (first | with_reducible exact upd_same _ _ _ | assumption | rw [upd_ne _ _ (by first | assumption | (apply Ne.symm; assumption))]))) rfl ?_ | refine afit_i64 (by omega) ?_ | refine arem_nonneg (by omega) (by omega) ?_ | refine adiv_i64 (by omega) (by omega) ?_ | refine abr_yes (by omega) ?_ | refine abr_no (by omega) ?_ | refine amin ?_ | refine amax ?_ | refine afit_u64 (by omega) ?_ | refine afit_u8 (by omega) ?_ | rw [List.length_map]); ((conv => whnf); (repeat ((first | with_reducible refine abr_true rfl ?_ | with_reducible refine abr_false rfl ?_ | with_reducible refine abr_yes rfl ?_ | refine abr_yes (by decide) ?_ | refine abr_no (by decide) ?_ | with_reducible refine abr_same_ne ?_); (conv => whnf))))))
              refine acall (refBytes (lenBits l W i) _ _ (by omega)) ?_
              rintro _ σ_ ⟨rfl, e_⟩
              obtain rfl := e_.symm
              refine ⟨?_, Ext.refl _⟩
              ((conv => whnf); (repeat ((first | with_reducible refine abr_true rfl ?_ | with_reducible refine abr_false rfl ?_ | with_reducible refine abr_yes rfl ?_ | refine abr_yes (by decide) ?_ | refine abr_no (by decide) ?_ | with_reducible refine abr_same_ne ?_); (conv => whnf))))
              exact aret VLe.tup_sl ho.sub ⟨by unfold writeBytes; rw [hc, if_pos rfl, Int.toNat_natCast, hil], rfl⟩
  · have hno := widthNo hw
    have hc : writeCode l w = 9 := by unfold writeCode; rw [if_pos hno]
    have g1 : w ≠ 11 := fun h => hw (.inl h)
    have g2 : w ≠ 15 := fun h => hw (.inr h)
    ((conv => whnf); (repeat ((first | with_reducible refine abr_true rfl ?_ | with_reducible refine abr_false rfl ?_ | with_reducible refine abr_yes rfl ?_ | refine abr_yes (by decide) ?_ | refine abr_no (by decide) ?_ | with_reducible refine abr_same_ne ?_); (conv => whnf))))
    refine abr_yes g1 ?_
    ((conv => whnf); (repeat ((first | with_reducible refine abr_true rfl ?_ | with_reducible refine abr_false rfl ?_ | with_reducible refine abr_yes rfl ?_ | refine abr_yes (by decide) ?_ | refine abr_no (by decide) ?_ | with_reducible refine abr_same_ne ?_); (conv => whnf))))
    refine abr_yes g2 ?_
    ((conv => whnf); (repeat ((first | with_reducible refine abr_true rfl ?_ | with_reducible refine abr_false rfl ?_ | with_reducible refine abr_yes rfl ?_ | refine abr_yes (by decide) ?_ | refine abr_no (by decide) ?_ | with_reducible refine abr_same_ne ?_); (conv => whnf))))
    exact aret VLe.tup_sl (Sub.refl _) ⟨by unfold writeBytes; rw [hc]; rfl, rfl⟩
end Go.Proofs.Ythjjkcmiachpcaa
/-
  The document's lengths: what is read.
-/
namespace Go.Proofs.Ythjjkcmiachpcaa
set_option linter.unusedVariables false
set_option linter.unusedSimpArgs false
open Go Go.Am

set_option maxRecDepth 10000 in
theorem refRead (b : List UInt8) (t : Tok) (w : Int) (σ : AHeap) (hl : b.length ≤ 8000) : ACalls Try.prog i_bowlineref08_Read [sl t b, i64v w] σ fun v σ' => v = rdRes (readV b w) ∧ σ' = σ := by
  refine k_bowlineref08_Read rfl ?_
  by_cases hw : w = 11 ∨ w = 15
  · obtain ⟨W, rfl⟩ : ∃ W : Nat, w = W := ⟨w.toNat, by omega⟩
    have hW : W = 11 ∨ W = 15 := by omega
    have hul := unpack_length b
    ((conv => whnf); (repeat ((first | with_reducible refine abr_true rfl ?_ | with_reducible refine abr_false rfl ?_ | with_reducible refine abr_yes rfl ?_ | refine abr_yes (by decide) ?_ | refine abr_no (by decide) ?_ | with_reducible refine abr_same_ne ?_); (conv => whnf))))
    refine abr_dec (fun ha => ?_) (fun ha => ?_)
    all_goals
      ((conv => whnf); (repeat ((first | with_reducible refine abr_true rfl ?_ | with_reducible refine abr_false rfl ?_ | with_reducible refine abr_yes rfl ?_ | refine abr_yes (by decide) ?_ | refine abr_no (by decide) ?_ | with_reducible refine abr_same_ne ?_); (conv => whnf))))
      first
        | refine abr_no (fun h => h (by omega)) ?_
        | skip
      ((conv => whnf); (repeat ((first | with_reducible refine abr_true rfl ?_ | with_reducible refine abr_false rfl ?_ | with_reducible refine abr_yes rfl ?_ | refine abr_yes (by decide) ?_ | refine abr_no (by decide) ?_ | with_reducible refine abr_same_ne ?_); (conv => whnf))))
      refine acall (refBits b _ _) ?_
      rintro _ σ_ ⟨rfl, e_⟩
      obtain rfl := e_.symm
      refine ⟨?_, Ext.refl _⟩
      rw [List.take_of_length_le (l := b) (by omega)]
      ((conv => whnf); (repeat ((first | with_reducible refine abr_true rfl ?_ | with_reducible refine abr_false rfl ?_ | with_reducible refine abr_yes rfl ?_ | refine abr_yes (by decide) ?_ | refine abr_no (by decide) ?_ | with_reducible refine abr_same_ne ?_); (conv => whnf))))
      refine aloop (α := Nat × List Int × Nat × Tok × AHeap) (fun x => [(s8, ints x.2.2.2.1 x.2.1), (s9, i64v x.2.2.1)]) (fun x => x.2.2.2.2)
        (fun x => x.2.1.length + (x.1 + 1) = 23 ∧ x.2.2.1 ≤ 8 * b.length ∧ rdLens (unpack b) W (x.1 + 1) x.2.1 x.2.2.1 = readV b (W : Int) ∧ Owned σ x.2.2.2.2 x.2.2.2.1) (fun x => x.1) (22, [], 0, .full, σ) ⟨rfl, Nat.zero_le _, by unfold readV; rw [widthOk_iff.2 hw, if_neg (by simp), Int.toNat_natCast], .full _⟩ (Sub.refl _) ?_ ?_
      · ((conv => whnf); (repeat ((first | with_reducible refine abr_true rfl ?_ | with_reducible refine abr_false rfl ?_ | with_reducible refine abr_yes rfl ?_ | refine abr_yes (by decide) ?_ | refine abr_no (by decide) ?_ | with_reducible refine abr_same_ne ?_); (conv => whnf))))
        (repeat' first | with_reducible exact EnvLe.refl _ | (refine EnvLe.node ?_ (by first | exact Or.inl rfl | exact Or.inr (Or.inl rfl) | exact Or.inr (Or.inr ⟨nofun, VLe.slice _ _ _⟩)) ?_))
      · rintro ⟨f, out, k, tk, σ1⟩ ⟨hf, hk, hR, ho⟩
        dsimp only at hf hk hR ho ⊢
        simp only [rdLens] at hR
        ((conv => whnf); (repeat ((first | with_reducible refine abr_true rfl ?_ | with_reducible refine abr_false rfl ?_ | with_reducible refine abr_yes rfl ?_ | refine abr_yes (by decide) ?_ | refine abr_no (by decide) ?_ | with_reducible refine abr_same_ne ?_); (conv => whnf))))
        (repeat ((first | refine aload (by (repeat (first | with_reducible exact upd_same _ _ _ | assumption | rw [upd_ne _ _ (by first | assumption | (apply Ne.symm; assumption))]))) rfl ?_ | refine afit_i64 (by omega) ?_ | refine arem_nonneg (by omega) (by omega) ?_ | refine adiv_i64 (by omega) (by omega) ?_ | refine abr_yes (by omega) ?_ | refine abr_no (by omega) ?_ | refine amin ?_ | refine amax ?_ | refine afit_u64 (by omega) ?_ | refine afit_u8 (by omega) ?_ | rw [List.length_map]); ((conv => whnf); (repeat ((first | with_reducible refine abr_true rfl ?_ | with_reducible refine abr_false rfl ?_ | with_reducible refine abr_yes rfl ?_ | refine abr_yes (by decide) ?_ | refine abr_no (by decide) ?_ | with_reducible refine abr_same_ne ?_); (conv => whnf))))))
        rw [hul]
        (repeat ((first | refine aload (by (repeat (first | with_reducible exact upd_same _ _ _ | assumption | rw [upd_ne _ _ (by first | assumption | (apply Ne.symm; assumption))]))) rfl ?_ | refine afit_i64 (by omega) ?_ | refine arem_nonneg (by omega) (by omega) ?_ | refine adiv_i64 (by omega) (by omega) ?_ | refine abr_yes (by omega) ?_ | refine abr_no (by omega) ?_ | refine amin ?_ | refine amax ?_ | refine afit_u64 (by omega) ?_ | refine afit_u8 (by omega) ?_ | rw [List.length_map]); ((conv => whnf); (repeat ((first | with_reducible refine abr_true rfl ?_ | with_reducible refine abr_false rfl ?_ | with_reducible refine abr_yes rfl ?_ | refine abr_yes (by decide) ?_ | refine abr_no (by decide) ?_ | with_reducible refine abr_same_ne ?_); (conv => whnf))))))
        by_cases h2 : k + (W + 1) ≤ 8 * b.length
        · rw [if_neg (by omega)] at hR
          refine abr_no (by omega) ?_
          ((conv => whnf); (repeat ((first | with_reducible refine abr_true rfl ?_ | with_reducible refine abr_false rfl ?_ | with_reducible refine abr_yes rfl ?_ | refine abr_yes (by decide) ?_ | refine abr_no (by decide) ?_ | with_reducible refine abr_same_ne ?_); (conv => whnf))))
          (repeat ((first | refine aload (by (repeat (first | with_reducible exact upd_same _ _ _ | assumption | rw [upd_ne _ _ (by first | assumption | (apply Ne.symm; assumption))]))) rfl ?_ | refine afit_i64 (by omega) ?_ | refine arem_nonneg (by omega) (by omega) ?_ | refine adiv_i64 (by omega) (by omega) ?_ | refine abr_yes (by omega) ?_ | refine abr_no (by omega) ?_ | refine amin ?_ | refine amax ?_ | refine afit_u64 (by omega) ?_ | refine afit_u8 (by omega) ?_ | rw [List.length_map]); ((conv => whnf); (repeat ((first | with_reducible refine abr_true rfl ?_ | with_reducible refine abr_false rfl ?_ | with_reducible refine abr_yes rfl ?_ | refine abr_yes (by decide) ?_ | refine abr_no (by decide) ?_ | with_reducible refine abr_same_ne ?_); (conv => whnf))))))
          have c2 : getCode (unpack b).length (k + 1) (W : Int) = 0 := getCode_fine (by omega) (by omega)
          rw [show (k : Int) + 1 = ((k + 1 : Nat) : Int) by omega]
          refine acall (refGet (unpack b) _ (k + 1) (W : Int) _ (by omega) (by omega)) ?_
          rintro _ σ_ ⟨rfl, e_⟩
          obtain rfl := e_.symm
          refine ⟨?_, Ext.refl _⟩
          ((conv => whnf); (repeat ((first | with_reducible refine abr_true rfl ?_ | with_reducible refine abr_false rfl ?_ | with_reducible refine abr_yes rfl ?_ | refine abr_yes (by decide) ?_ | refine abr_no (by decide) ?_ | with_reducible refine abr_same_ne ?_); (conv => whnf))))
          rw [c2, getVal_fine c2, getAt_fine c2, Int.toNat_natCast, show k + 1 + W = k + (W + 1) by omega]
          have hv := val_lt (((unpack b).drop (k + 1)).take W)
          have hv2 : ((((unpack b).drop (k + 1)).take W)).length ≤ 15 := by rw [List.length_take]; omega
          have hv3 : 2 ^ ((((unpack b).drop (k + 1)).take W)).length ≤ 2 ^ 15 := Nat.pow_le_pow_right (by omega) hv2
          generalize hn : val 0 (((unpack b).drop (k + 1)).take W) = n at *
          have hkl : k < (unpack b).length := by omega
          ((conv => whnf); (repeat ((first | with_reducible refine abr_true rfl ?_ | with_reducible refine abr_false rfl ?_ | with_reducible refine abr_yes rfl ?_ | refine abr_yes (by decide) ?_ | refine abr_no (by decide) ?_ | with_reducible refine abr_same_ne ?_); (conv => whnf))))
          refine aget (by omega) (get_bools hkl) ?_
          ((conv => whnf); (repeat ((first | with_reducible refine abr_true rfl ?_ | with_reducible refine abr_false rfl ?_ | with_reducible refine abr_yes rfl ?_ | refine abr_yes (by decide) ?_ | refine abr_no (by decide) ?_ | with_reducible refine abr_same_ne ?_); (conv => whnf))))
          refine acell rfl ?_
          rw [← bitD_get hkl]
          ((conv => whnf); (repeat ((first | with_reducible refine abr_true rfl ?_ | with_reducible refine abr_false rfl ?_ | with_reducible refine abr_yes rfl ?_ | refine abr_yes (by decide) ?_ | refine abr_no (by decide) ?_ | with_reducible refine abr_same_ne ?_); (conv => whnf))))
          by_cases h0 : n = 0
          · rw [if_pos h0] at hR
            refine abr_yes (by omega) ?_
            ((conv => whnf); (repeat ((first | with_reducible refine abr_true rfl ?_ | with_reducible refine abr_false rfl ?_ | with_reducible refine abr_yes rfl ?_ | refine abr_yes (by decide) ?_ | refine abr_no (by decide) ?_ | with_reducible refine abr_same_ne ?_); (conv => whnf))))
            exact aret VLe.tup_sl ho.sub ⟨by rw [← hR]; rfl, rfl⟩
          · rw [if_neg h0] at hR
            refine abr_no (by omega) ?_
            ((conv => whnf); (repeat ((first | with_reducible refine abr_true rfl ?_ | with_reducible refine abr_false rfl ?_ | with_reducible refine abr_yes rfl ?_ | refine abr_yes (by decide) ?_ | refine abr_no (by decide) ?_ | with_reducible refine abr_same_ne ?_); (conv => whnf))))
            (repeat ((first | refine aload (by (repeat (first | with_reducible exact upd_same _ _ _ | assumption | rw [upd_ne _ _ (by first | assumption | (apply Ne.symm; assumption))]))) rfl ?_ | refine afit_i64 (by omega) ?_ | refine arem_nonneg (by omega) (by omega) ?_ | refine adiv_i64 (by omega) (by omega) ?_ | refine abr_yes (by omega) ?_ | refine abr_no (by omega) ?_ | refine amin ?_ | refine amax ?_ | refine afit_u64 (by omega) ?_ | refine afit_u8 (by omega) ?_ | rw [List.length_map]); ((conv => whnf); (repeat ((first | with_reducible refine abr_true rfl ?_ | with_reducible refine abr_false rfl ?_ | with_reducible refine abr_yes rfl ?_ | refine abr_yes (by decide) ?_ | refine abr_no (by decide) ?_ | with_reducible refine abr_same_ne ?_); (conv => whnf))))))
            refine aapp_owned ho (by rw [List.length_map]; show (out.length + 1) * 8 ≤ _; omega) fun t' tk' ho' _ => ?_
            rw [show List.map i64v out ++ [AVal.v (Value.int IntKind.i64 ((n : Nat) : Int))] = List.map i64v (out ++ [(n : Int)]) by simp]
            have hol : (out ++ [(n : Int)]).length = out.length + 1 := by simp
            ((conv => whnf); (repeat ((first | with_reducible refine abr_true rfl ?_ | with_reducible refine abr_false rfl ?_ | with_reducible refine abr_yes rfl ?_ | refine abr_yes (by decide) ?_ | refine abr_no (by decide) ?_ | with_reducible refine abr_same_ne ?_); (conv => whnf))))
            cases hbit : bitD (unpack b) k with
            | true =>
              rw [hbit, if_pos rfl] at hR
              ((conv => whnf); (repeat ((first | with_reducible refine abr_true rfl ?_ | with_reducible refine abr_false rfl ?_ | with_reducible refine abr_yes rfl ?_ | refine abr_yes (by decide) ?_ | refine abr_no (by decide) ?_ | with_reducible refine abr_same_ne ?_); (conv => whnf))))
              (repeat ((first | refine aload (by (repeat (first | with_reducible exact upd_same _ _ _ | assumption | rw [upd_ne _ _ (by first | assumption | (apply Ne.symm; assumption))]))) rfl ?_ | refine afit_i64 (by omega) ?_ | refine arem_nonneg (by omega) (by omega) ?_ | refine adiv_i64 (by omega) (by omega) ?_ | refine abr_yes (by omega) ?_ | refine abr_no (by omega) ?_ | refine amin ?_ | refine amax ?_ | refine afit_u64 (by omega) ?_ | refine afit_u8 (by omega) ?_ | rw [List.length_map]); ((conv => whnf); (repeat ((first | with_reducible refine abr_true rfl ?_ | with_reducible refine abr_false rfl ?_ | with_reducible refine abr_yes rfl ?_ | refine abr_yes (by decide) ?_ | refine abr_no (by decide) ?_ | with_reducible refine abr_same_ne ?_); (conv => whnf))))))
              rw [hol]
              by_cases hf0 : f = 0
              · rw [if_pos hf0] at hR
                refine abr_yes (by omega) ?_
                ((conv => whnf); (repeat ((first | with_reducible refine abr_true rfl ?_ | with_reducible refine abr_false rfl ?_ | with_reducible refine abr_yes rfl ?_ | refine abr_yes (by decide) ?_ | refine abr_no (by decide) ?_ | with_reducible refine abr_same_ne ?_); (conv => whnf))))
                exact aret VLe.tup_sl ho'.sub ⟨by rw [← hR]; rfl, rfl⟩
              · rw [if_neg hf0] at hR
                refine abr_no (by omega) ?_
                ((conv => whnf); (repeat ((first | with_reducible refine abr_true rfl ?_ | with_reducible refine abr_false rfl ?_ | with_reducible refine abr_yes rfl ?_ | refine abr_yes (by decide) ?_ | refine abr_no (by decide) ?_ | with_reducible refine abr_same_ne ?_); (conv => whnf))))
                obtain ⟨f', rfl⟩ : ∃ f', f = f' + 1 := ⟨f - 1, by omega⟩
                refine ⟨(f', out ++ [(n : Int)], k + (W + 1), tk', upd σ t' .tip), ⟨by dsimp only; rw [hol]; omega, by dsimp only; omega, hR, ho'⟩, by dsimp only; omega, Sub.refl _, ?_⟩
                ((conv => whnf); (repeat ((first | with_reducible refine abr_true rfl ?_ | with_reducible refine abr_false rfl ?_ | with_reducible refine abr_yes rfl ?_ | refine abr_yes (by decide) ?_ | refine abr_no (by decide) ?_ | with_reducible refine abr_same_ne ?_); (conv => whnf))))
                (repeat' first | with_reducible exact EnvLe.refl _ | (refine EnvLe.node ?_ (by first | exact Or.inl rfl | exact Or.inr (Or.inl rfl) | exact Or.inr (Or.inr ⟨nofun, VLe.slice _ _ _⟩)) ?_))
            | false =>
              rw [hbit, if_neg (by simp)] at hR
              ((conv => whnf); (repeat ((first | with_reducible refine abr_true rfl ?_ | with_reducible refine abr_false rfl ?_ | with_reducible refine abr_yes rfl ?_ | refine abr_yes (by decide) ?_ | refine abr_no (by decide) ?_ | with_reducible refine abr_same_ne ?_); (conv => whnf))))
              generalize hK : k + (W + 1) = K at *
              have hp7 := pad_le K
              refine aloop (α := Nat) (fun j => [(s9, i64v ((K + j : Nat) : Int))]) (fun _ => upd σ t' .tip) (fun j => j ≤ pad K ∧ val 0 (((unpack b).drop K).take j) = 0) (fun j => pad K - j) 0 ⟨by omega, rfl⟩ (Sub.refl _) ?_ ?_
              · ((conv => whnf); (repeat ((first | with_reducible refine abr_true rfl ?_ | with_reducible refine abr_false rfl ?_ | with_reducible refine abr_yes rfl ?_ | refine abr_yes (by decide) ?_ | refine abr_no (by decide) ?_ | with_reducible refine abr_same_ne ?_); (conv => whnf))))
                (repeat' first | with_reducible exact EnvLe.refl _ | (refine EnvLe.node ?_ (by first | exact Or.inl rfl | exact Or.inr (Or.inl rfl) | exact Or.inr (Or.inr ⟨nofun, VLe.slice _ _ _⟩)) ?_))
              · rintro j ⟨hj, hv⟩
                by_cases h : j < pad K
                · have hin : K + j < (unpack b).length := by unfold pad at h; omega
                  have e : val 0 (((unpack b).drop K).take (j + 1)) = 2 * val 0 (((unpack b).drop K).take j) + (unpack b)[K + j].toNat := by
                    rw [take_snoc (l := (unpack b).drop K) (i := j) (x := (unpack b)[K + j]) (by rw [List.getElem?_drop, List.getElem?_eq_getElem hin]), val_snoc]
                  have hm : (K + j) % 8 ≠ 0 := by unfold pad at h; omega
                  ((conv => whnf); (repeat ((first | with_reducible refine abr_true rfl ?_ | with_reducible refine abr_false rfl ?_ | with_reducible refine abr_yes rfl ?_ | refine abr_yes (by decide) ?_ | refine abr_no (by decide) ?_ | with_reducible refine abr_same_ne ?_); (conv => whnf))))
                  (repeat ((first | refine aload (by (repeat (first | with_reducible exact upd_same _ _ _ | assumption | rw [upd_ne _ _ (by first | assumption | (apply Ne.symm; assumption))]))) rfl ?_ | refine afit_i64 (by omega) ?_ | refine arem_nonneg (by omega) (by omega) ?_ | refine adiv_i64 (by omega) (by omega) ?_ | refine abr_yes (by omega) ?_ | refine abr_no (by omega) ?_ | refine amin ?_ | refine amax ?_ | refine afit_u64 (by omega) ?_ | refine afit_u8 (by omega) ?_ | rw [List.length_map]); ((conv => whnf); (repeat ((first | with_reducible refine abr_true rfl ?_ | with_reducible refine abr_false rfl ?_ | with_reducible refine abr_yes rfl ?_ | refine abr_yes (by decide) ?_ | refine abr_no (by decide) ?_ | with_reducible refine abr_same_ne ?_); (conv => whnf))))))
                  refine aget (by omega) (get_bools hin) ?_
                  ((conv => whnf); (repeat ((first | with_reducible refine abr_true rfl ?_ | with_reducible refine abr_false rfl ?_ | with_reducible refine abr_yes rfl ?_ | refine abr_yes (by decide) ?_ | refine abr_no (by decide) ?_ | with_reducible refine abr_same_ne ?_); (conv => whnf))))
                  refine acell rfl ?_
                  ((conv => whnf); (repeat ((first | with_reducible refine abr_true rfl ?_ | with_reducible refine abr_false rfl ?_ | with_reducible refine abr_yes rfl ?_ | refine abr_yes (by decide) ?_ | refine abr_no (by decide) ?_ | with_reducible refine abr_same_ne ?_); (conv => whnf))))
                  cases hb : (unpack b)[K + j] with
                  | true =>
                    have hno : restOk (unpack b) K = false := by
                      unfold restOk
                      refine decide_eq_false fun h0 => ?_
                      rw [val_zero] at h0
                      have : (unpack b)[K + j] ∈ ((unpack b).drop K).take (pad K) := by
                        have h2 : j < (((unpack b).drop K).take (pad K)).length := by rw [List.length_take, List.length_drop]; omega
                        have h3 : (((unpack b).drop K).take (pad K))[j] = (unpack b)[K + j] := by rw [List.getElem_take, List.getElem_drop]
                        rw [← h3]; exact List.getElem_mem h2
                      have := h0 _ this
                      rw [hb] at this; cases this
                    rw [hno, if_neg (by simp)] at hR
                    ((conv => whnf); (repeat ((first | with_reducible refine abr_true rfl ?_ | with_reducible refine abr_false rfl ?_ | with_reducible refine abr_yes rfl ?_ | refine abr_yes (by decide) ?_ | refine abr_no (by decide) ?_ | with_reducible refine abr_same_ne ?_); (conv => whnf))))
                    exact aret VLe.tup_sl ho'.sub ⟨by rw [← hR]; rfl, rfl⟩
                  | false =>
                    rw [hb, hv] at e
                    ((conv => whnf); (repeat ((first | with_reducible refine abr_true rfl ?_ | with_reducible refine abr_false rfl ?_ | with_reducible refine abr_yes rfl ?_ | refine abr_yes (by decide) ?_ | refine abr_no (by decide) ?_ | with_reducible refine abr_same_ne ?_); (conv => whnf))))
                    (repeat ((first | refine aload (by (repeat (first | with_reducible exact upd_same _ _ _ | assumption | rw [upd_ne _ _ (by first | assumption | (apply Ne.symm; assumption))]))) rfl ?_ | refine afit_i64 (by omega) ?_ | refine arem_nonneg (by omega) (by omega) ?_ | refine adiv_i64 (by omega) (by omega) ?_ | refine abr_yes (by omega) ?_ | refine abr_no (by omega) ?_ | refine amin ?_ | refine amax ?_ | refine afit_u64 (by omega) ?_ | refine afit_u8 (by omega) ?_ | rw [List.length_map]); ((conv => whnf); (repeat ((first | with_reducible refine abr_true rfl ?_ | with_reducible refine abr_false rfl ?_ | with_reducible refine abr_yes rfl ?_ | refine abr_yes (by decide) ?_ | refine abr_no (by decide) ?_ | with_reducible refine abr_same_ne ?_); (conv => whnf))))))
                    refine ⟨j + 1, ⟨by omega, e⟩, by omega, Sub.refl _, ?_⟩
                    ((conv => whnf); (repeat ((first | with_reducible refine abr_true rfl ?_ | with_reducible refine abr_false rfl ?_ | with_reducible refine abr_yes rfl ?_ | refine abr_yes (by decide) ?_ | refine abr_no (by decide) ?_ | with_reducible refine abr_same_ne ?_); (conv => whnf))))
                    rw [show ((K + j : Nat) : Int) + 1 = ((K + (j + 1) : Nat) : Int) by omega]
                    (repeat' first | with_reducible exact EnvLe.refl _ | (refine EnvLe.node ?_ (by first | exact Or.inl rfl | exact Or.inr (Or.inl rfl) | exact Or.inr (Or.inr ⟨nofun, VLe.slice _ _ _⟩)) ?_))
                · have hjp : j = pad K := by omega
                  have hm : (K + j) % 8 = 0 := by subst hjp; unfold pad; omega
                  have hok : restOk (unpack b) K = true := by subst hjp; exact decide_eq_true hv
                  rw [hok, if_pos rfl] at hR
                  ((conv => whnf); (repeat ((first | with_reducible refine abr_true rfl ?_ | with_reducible refine abr_false rfl ?_ | with_reducible refine abr_yes rfl ?_ | refine abr_yes (by decide) ?_ | refine abr_no (by decide) ?_ | with_reducible refine abr_same_ne ?_); (conv => whnf))))
                  (repeat ((first | refine aload (by (repeat (first | with_reducible exact upd_same _ _ _ | assumption | rw [upd_ne _ _ (by first | assumption | (apply Ne.symm; assumption))]))) rfl ?_ | refine afit_i64 (by omega) ?_ | refine arem_nonneg (by omega) (by omega) ?_ | refine adiv_i64 (by omega) (by omega) ?_ | refine abr_yes (by omega) ?_ | refine abr_no (by omega) ?_ | refine amin ?_ | refine amax ?_ | refine afit_u64 (by omega) ?_ | refine afit_u8 (by omega) ?_ | rw [List.length_map]); ((conv => whnf); (repeat ((first | with_reducible refine abr_true rfl ?_ | with_reducible refine abr_false rfl ?_ | with_reducible refine abr_yes rfl ?_ | refine abr_yes (by decide) ?_ | refine abr_no (by decide) ?_ | with_reducible refine abr_same_ne ?_); (conv => whnf))))))
                  refine aret VLe.tup_sl ho'.sub ⟨?_, rfl⟩
                  rw [← hR, hjp]
                  show rdRes (_, _, _) = rdRes (_, _, _)
                  rw [show ((K + pad K : Nat) : Int) / 8 = (((K + 7) / 8 : Nat) : Int) by unfold pad; omega]
        · rw [if_pos (by omega)] at hR
          refine abr_yes (by omega) ?_
          ((conv => whnf); (repeat ((first | with_reducible refine abr_true rfl ?_ | with_reducible refine abr_false rfl ?_ | with_reducible refine abr_yes rfl ?_ | refine abr_yes (by decide) ?_ | refine abr_no (by decide) ?_ | with_reducible refine abr_same_ne ?_); (conv => whnf))))
          exact aret VLe.tup_sl ho.sub ⟨by rw [← hR]; rfl, rfl⟩
  · have hno := widthNo hw
    have g1 : w ≠ 11 := fun h => hw (.inl h)
    have g2 : w ≠ 15 := fun h => hw (.inr h)
    ((conv => whnf); (repeat ((first | with_reducible refine abr_true rfl ?_ | with_reducible refine abr_false rfl ?_ | with_reducible refine abr_yes rfl ?_ | refine abr_yes (by decide) ?_ | refine abr_no (by decide) ?_ | with_reducible refine abr_same_ne ?_); (conv => whnf))))
    refine abr_yes g1 ?_
    ((conv => whnf); (repeat ((first | with_reducible refine abr_true rfl ?_ | with_reducible refine abr_false rfl ?_ | with_reducible refine abr_yes rfl ?_ | refine abr_yes (by decide) ?_ | refine abr_no (by decide) ?_ | with_reducible refine abr_same_ne ?_); (conv => whnf))))
    refine abr_yes g2 ?_
    ((conv => whnf); (repeat ((first | with_reducible refine abr_true rfl ?_ | with_reducible refine abr_false rfl ?_ | with_reducible refine abr_yes rfl ?_ | refine abr_yes (by decide) ?_ | refine abr_no (by decide) ?_ | with_reducible refine abr_same_ne ?_); (conv => whnf))))
    exact aret VLe.tup_sl (Sub.refl _) ⟨by unfold readV; rw [if_pos hno]; rfl, rfl⟩
end Go.Proofs.Ythjjkcmiachpcaa
