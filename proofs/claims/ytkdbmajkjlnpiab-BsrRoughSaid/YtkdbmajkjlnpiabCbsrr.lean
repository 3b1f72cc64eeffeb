/-
  Reports read.
-/
import Derived.Test.YtkdbmajkjlnpiabCbsr
namespace Go.Proofs.Ytkdbmajkjlnpiab
set_option linter.unusedVariables false
set_option linter.unusedSimpArgs false
open Go Go.Am

def numAt (x : List Bool) (i : Nat) : Nat := val 0 ((x.drop (6 * i)).take 6)
def outs (x : List Bool) (i : Nat) : List Int := (List.range 4).map fun j => if j < i then ((numAt x j : Nat) : Int) else 0
theorem outs_set (x : List Bool) (i : Nat) (h : i < 4) : (outs x i).set i ((numAt x i : Nat) : Int) = outs x (i + 1) := by
  match i, h with
  | 0, _ => rfl
  | 1, _ => rfl
  | 2, _ => rfl
  | 3, _ => rfl
theorem outs_length (x : List Bool) (i : Nat) : (outs x i).length = 4 := rfl
theorem splice_ints {F : List Int} {p : Nat} {x : Int} (h : p < F.length) : splice (F.map i64v) p [i64v x] = (F.set p x).map i64v := by
  unfold splice
  rw [List.set_eq_take_append_cons_drop, if_pos h]
  simp [List.map_take, List.map_drop]
def readRep (b : List UInt8) : List Int × Int := if b.length < 3 then ([0, 0, 0, 0], 8) else if b.length > 3 then ([0, 0, 0, 0], 2) else (outs (unpack b) 4, 0)
theorem readRep_length (b : List UInt8) : (readRep b).1.length = 4 := by
  unfold readRep
  split
  · rfl
  · split <;> rfl
theorem Rd.set {σ σb : AHeap} {ir id : Nat} {b : List UInt8} {k : Nat} {o o' : AObj} (h : Rd σ ir b k σb) (hid : σb id = some o') : Rd (upd σ id o) ir b k (upd σb id o) := by
  obtain ⟨h1, h2, h3, tk, rfl⟩ := h
  have hne : id ≠ ir := fun e => by subst e; rw [h1] at hid; cases hid
  exact ⟨by rw [upd_ne _ _ (Ne.symm hne)]; exact h1, h2, h3, tk, upd_comm _ _ _ (Ne.symm hne)⟩
theorem Rd.get {σ σb : AHeap} {ir id : Nat} {b : List UInt8} {k : Nat} {o' : AObj} (h : Rd σ ir b k σb) (hid : σb id = some o') : σ id = some o' := by
  obtain ⟨h1, h2, h3, tk, rfl⟩ := h
  have hne : id ≠ ir := fun e => by subst e; rw [h1] at hid; cases hid
  rw [upd_ne _ _ hne]; exact hid

set_option maxRecDepth 10000 in
theorem bRead (b : List UInt8) (t : Tok) (σ : AHeap) (hl : b.length ≤ 140737488351232) : ACalls Try.prog i_bsr_Read [sl t b] σ fun v σ' => v = .tup [rep (readRep b).1, i64v (readRep b).2] ∧ σ' = σ := by
  refine k_bsr_Read rfl ?_
  ((conv => whnf); (repeat ((first | with_reducible refine abr_true rfl ?_ | with_reducible refine abr_false rfl ?_ | with_reducible refine abr_yes rfl ?_ | refine abr_yes (by decide) ?_ | refine abr_no (by decide) ?_ | with_reducible refine abr_same_ne ?_); (conv => whnf))))
  refine anew rfl fun i1 h1 => ?_
  ((conv => whnf); (repeat ((first | with_reducible refine abr_true rfl ?_ | with_reducible refine abr_false rfl ?_ | with_reducible refine abr_yes rfl ?_ | refine abr_yes (by decide) ?_ | refine abr_no (by decide) ?_ | with_reducible refine abr_same_ne ?_); (conv => whnf))))
  rw [List.length_map]
  by_cases hlt : b.length < 3
  · have e : readRep b = ([0, 0, 0, 0], 8) := by unfold readRep; rw [if_pos hlt]
    (repeat ((first | refine aload (by (repeat (first | with_reducible exact upd_same _ _ _ | assumption | rw [upd_ne _ _ (by first | assumption | (apply Ne.symm; assumption))]))) rfl ?_ | refine afit_i64 (by omega) ?_ | refine arem_nonneg (by omega) (by omega) ?_ | refine adiv_i64 (by omega) (by omega) ?_ | refine abr_yes (by omega) ?_ | refine abr_no (by omega) ?_ | refine amin ?_ | refine amax ?_ | rw [List.length_map]); ((conv => whnf); (repeat ((first | with_reducible refine abr_true rfl ?_ | with_reducible refine abr_false rfl ?_ | with_reducible refine abr_yes rfl ?_ | refine abr_yes (by decide) ?_ | refine abr_no (by decide) ?_ | with_reducible refine abr_same_ne ?_); (conv => whnf))))))
    refine astore (xs := [i64v 0, i64v 0, i64v 0, i64v 0]) (upd_same _ _ _) (by exact Nat.le_refl 4) rfl rfl ?_
    ((conv => whnf); (repeat ((first | with_reducible refine abr_true rfl ?_ | with_reducible refine abr_false rfl ?_ | with_reducible refine abr_yes rfl ?_ | refine abr_yes (by decide) ?_ | refine abr_no (by decide) ?_ | with_reducible refine abr_same_ne ?_); (conv => whnf))))
    refine aloads (l := [i64v 0, i64v 0, i64v 0, i64v 0]) (upd_same _ _ _) (by exact Nat.le_refl 4) rfl ?_
    ((conv => whnf); (repeat ((first | with_reducible refine abr_true rfl ?_ | with_reducible refine abr_false rfl ?_ | with_reducible refine abr_yes rfl ?_ | refine abr_yes (by decide) ?_ | refine abr_no (by decide) ?_ | with_reducible refine abr_same_ne ?_); (conv => whnf))))
    refine aret (VLe.refl _) (σ' := σ) ?_ ⟨by rw [e]; rfl, rfl⟩
    rw [upd_upd]; exact Sub.upd_fresh _ h1
  · by_cases hgt : b.length > 3
    · have e : readRep b = ([0, 0, 0, 0], 2) := by unfold readRep; rw [if_neg hlt, if_pos hgt]
      (repeat ((first | refine aload (by (repeat (first | with_reducible exact upd_same _ _ _ | assumption | rw [upd_ne _ _ (by first | assumption | (apply Ne.symm; assumption))]))) rfl ?_ | refine afit_i64 (by omega) ?_ | refine arem_nonneg (by omega) (by omega) ?_ | refine adiv_i64 (by omega) (by omega) ?_ | refine abr_yes (by omega) ?_ | refine abr_no (by omega) ?_ | refine amin ?_ | refine amax ?_ | rw [List.length_map]); ((conv => whnf); (repeat ((first | with_reducible refine abr_true rfl ?_ | with_reducible refine abr_false rfl ?_ | with_reducible refine abr_yes rfl ?_ | refine abr_yes (by decide) ?_ | refine abr_no (by decide) ?_ | with_reducible refine abr_same_ne ?_); (conv => whnf))))))
      refine astore (xs := [i64v 0, i64v 0, i64v 0, i64v 0]) (upd_same _ _ _) (by exact Nat.le_refl 4) rfl rfl ?_
      ((conv => whnf); (repeat ((first | with_reducible refine abr_true rfl ?_ | with_reducible refine abr_false rfl ?_ | with_reducible refine abr_yes rfl ?_ | refine abr_yes (by decide) ?_ | refine abr_no (by decide) ?_ | with_reducible refine abr_same_ne ?_); (conv => whnf))))
      refine aloads (l := [i64v 0, i64v 0, i64v 0, i64v 0]) (upd_same _ _ _) (by exact Nat.le_refl 4) rfl ?_
      ((conv => whnf); (repeat ((first | with_reducible refine abr_true rfl ?_ | with_reducible refine abr_false rfl ?_ | with_reducible refine abr_yes rfl ?_ | refine abr_yes (by decide) ?_ | refine abr_no (by decide) ?_ | with_reducible refine abr_same_ne ?_); (conv => whnf))))
      refine aret (VLe.refl _) (σ' := σ) ?_ ⟨by rw [e]; rfl, rfl⟩
      rw [upd_upd]; exact Sub.upd_fresh _ h1
    · have e : readRep b = (outs (unpack b) 4, 0) := by unfold readRep; rw [if_neg hlt, if_neg hgt]
      have hul := unpack_length b
      (repeat ((first | refine aload (by (repeat (first | with_reducible exact upd_same _ _ _ | assumption | rw [upd_ne _ _ (by first | assumption | (apply Ne.symm; assumption))]))) rfl ?_ | refine afit_i64 (by omega) ?_ | refine arem_nonneg (by omega) (by omega) ?_ | refine adiv_i64 (by omega) (by omega) ?_ | refine abr_yes (by omega) ?_ | refine abr_no (by omega) ?_ | refine amin ?_ | refine amax ?_ | rw [List.length_map]); ((conv => whnf); (repeat ((first | with_reducible refine abr_true rfl ?_ | with_reducible refine abr_false rfl ?_ | with_reducible refine abr_yes rfl ?_ | refine abr_yes (by decide) ?_ | refine abr_no (by decide) ?_ | with_reducible refine abr_same_ne ?_); (conv => whnf))))))
      refine anew rfl fun i2 h2 => ?_
      ((conv => whnf); (repeat ((first | with_reducible refine abr_true rfl ?_ | with_reducible refine abr_false rfl ?_ | with_reducible refine abr_yes rfl ?_ | refine abr_yes (by decide) ?_ | refine abr_no (by decide) ?_ | with_reducible refine abr_same_ne ?_); (conv => whnf))))
      have hne : i2 ≠ i1 := fun e => by subst e; rw [upd_same] at h2; cases h2
      refine acall (rRead b _ _ (by omega)) ?_
      rintro _ σ1 ⟨ir, rfl, r1⟩
      refine ⟨?_, r1.ext⟩
      rw [List.take_of_length_le (l := b) (by omega)] at r1
      ((conv => whnf); (repeat ((first | with_reducible refine abr_true rfl ?_ | with_reducible refine abr_false rfl ?_ | with_reducible refine abr_yes rfl ?_ | refine abr_yes (by decide) ?_ | refine abr_no (by decide) ?_ | with_reducible refine abr_same_ne ?_); (conv => whnf))))
      refine aloop (α := Nat × AHeap) (fun x => [(s21, i64v x.1)]) (fun x => x.2) (fun x => x.1 ≤ 4 ∧ Rd x.2 ir b (6 * x.1) (upd (upd σ i1 (.cells [i64v 0, i64v 0, i64v 0, i64v 0])) i2 (.cells ((outs (unpack b) x.1).map i64v)))) (fun x => 4 - x.1) (0, σ1) ⟨by omega, r1⟩ (Sub.refl _) ?_ ?_
      · ((conv => whnf); (repeat ((first | with_reducible refine abr_true rfl ?_ | with_reducible refine abr_false rfl ?_ | with_reducible refine abr_yes rfl ?_ | refine abr_yes (by decide) ?_ | refine abr_no (by decide) ?_ | with_reducible refine abr_same_ne ?_); (conv => whnf))))
        (repeat' first | with_reducible exact EnvLe.refl _ | (refine EnvLe.node ?_ (by first | exact Or.inl rfl | exact Or.inr (Or.inl rfl) | exact Or.inr (Or.inr ⟨nofun, VLe.slice _ _ _⟩)) ?_))
      · rintro ⟨i, σ2⟩ ⟨hi, r2⟩
        dsimp only at hi r2 ⊢
        by_cases h : i < 4
        · have hc : getCode (8 * b.length) (6 * i) 6 = 0 := by unfold getCode; rw [if_neg (by omega), if_neg (by omega)]
          have hval : getVal (unpack b) (6 * i) 6 = numAt (unpack b) i := by unfold getVal; rw [hul, if_pos hc]; rfl
          have hat : getAt (8 * b.length) (6 * i) 6 = 6 * (i + 1) := by
            unfold getAt; rw [if_pos hc]
            show 6 * i + 6 = _
            omega
          have hnlt : numAt (unpack b) i < 2 ^ 6 := by
            refine Nat.lt_of_lt_of_le (val_lt _) (Nat.pow_le_pow_right (by omega) ?_)
            rw [List.length_take]; omega
          ((conv => whnf); (repeat ((first | with_reducible refine abr_true rfl ?_ | with_reducible refine abr_false rfl ?_ | with_reducible refine abr_yes rfl ?_ | refine abr_yes (by decide) ?_ | refine abr_no (by decide) ?_ | with_reducible refine abr_same_ne ?_); (conv => whnf))))
          (repeat ((first | refine aload (by (repeat (first | with_reducible exact upd_same _ _ _ | assumption | rw [upd_ne _ _ (by first | assumption | (apply Ne.symm; assumption))]))) rfl ?_ | refine afit_i64 (by omega) ?_ | refine arem_nonneg (by omega) (by omega) ?_ | refine adiv_i64 (by omega) (by omega) ?_ | refine abr_yes (by omega) ?_ | refine abr_no (by omega) ?_ | refine amin ?_ | refine amax ?_ | rw [List.length_map]); ((conv => whnf); (repeat ((first | with_reducible refine abr_true rfl ?_ | with_reducible refine abr_false rfl ?_ | with_reducible refine abr_yes rfl ?_ | refine abr_yes (by decide) ?_ | refine abr_no (by decide) ?_ | with_reducible refine abr_same_ne ?_); (conv => whnf))))))
          refine acall (rGet ir b (6 * i) 6 _ _ r2) ?_
          rintro _ σ3 ⟨rfl, r3⟩
          rw [hat] at r3
          rw [hval, hc]
          ((conv => whnf); (repeat ((first | with_reducible refine abr_true rfl ?_ | with_reducible refine abr_false rfl ?_ | with_reducible refine abr_yes rfl ?_ | refine abr_yes (by decide) ?_ | refine abr_no (by decide) ?_ | with_reducible refine abr_same_ne ?_); (conv => whnf))))
          (repeat ((first | refine aload (by (repeat (first | with_reducible exact upd_same _ _ _ | assumption | rw [upd_ne _ _ (by first | assumption | (apply Ne.symm; assumption))]))) rfl ?_ | refine afit_i64 (by omega) ?_ | refine arem_nonneg (by omega) (by omega) ?_ | refine adiv_i64 (by omega) (by omega) ?_ | refine abr_yes (by omega) ?_ | refine abr_no (by omega) ?_ | refine amin ?_ | refine amax ?_ | rw [List.length_map]); ((conv => whnf); (repeat ((first | with_reducible refine abr_true rfl ?_ | with_reducible refine abr_false rfl ?_ | with_reducible refine abr_yes rfl ?_ | refine abr_yes (by decide) ?_ | refine abr_no (by decide) ?_ | with_reducible refine abr_same_ne ?_); (conv => whnf))))))
          refine aidx (by omega) (by omega) ?_
          ((conv => whnf); (repeat ((first | with_reducible refine abr_true rfl ?_ | with_reducible refine abr_false rfl ?_ | with_reducible refine abr_yes rfl ?_ | refine abr_yes (by decide) ?_ | refine abr_no (by decide) ?_ | with_reducible refine abr_same_ne ?_); (conv => whnf))))
          have hcell : σ3 i2 = some (.cells ((outs (unpack b) i).map i64v)) := r3.get (upd_same _ _ _)
          refine astore (xs := [i64v ((numAt (unpack b) i : Nat) : Int)]) hcell (by rw [List.length_map, outs_length]; show 0 + ((i : Nat) : Int).toNat * 1 + 1 ≤ 4; omega) rfl (l := (outs (unpack b) (i + 1)).map i64v) (by rw [show 0 + ((i : Nat) : Int).toNat * 1 = i by omega, splice_ints (by rw [outs_length]; omega), outs_set _ _ h]) ?_
          have r4 := r3.set (o := .cells ((outs (unpack b) (i + 1)).map i64v)) (upd_same _ _ _)
          rw [upd_upd] at r4
          ((conv => whnf); (repeat ((first | with_reducible refine abr_true rfl ?_ | with_reducible refine abr_false rfl ?_ | with_reducible refine abr_yes rfl ?_ | refine abr_yes (by decide) ?_ | refine abr_no (by decide) ?_ | with_reducible refine abr_same_ne ?_); (conv => whnf))))
          (repeat ((first | refine aload (by (repeat (first | with_reducible exact upd_same _ _ _ | assumption | rw [upd_ne _ _ (by first | assumption | (apply Ne.symm; assumption))]))) rfl ?_ | refine afit_i64 (by omega) ?_ | refine arem_nonneg (by omega) (by omega) ?_ | refine adiv_i64 (by omega) (by omega) ?_ | refine abr_yes (by omega) ?_ | refine abr_no (by omega) ?_ | refine amin ?_ | refine amax ?_ | rw [List.length_map]); ((conv => whnf); (repeat ((first | with_reducible refine abr_true rfl ?_ | with_reducible refine abr_false rfl ?_ | with_reducible refine abr_yes rfl ?_ | refine abr_yes (by decide) ?_ | refine abr_no (by decide) ?_ | with_reducible refine abr_same_ne ?_); (conv => whnf))))))
          refine ⟨(i + 1, _), ⟨by dsimp only; omega, r4⟩, by dsimp only; omega, Sub.refl _, ?_⟩
          ((conv => whnf); (repeat ((first | with_reducible refine abr_true rfl ?_ | with_reducible refine abr_false rfl ?_ | with_reducible refine abr_yes rfl ?_ | refine abr_yes (by decide) ?_ | refine abr_no (by decide) ?_ | with_reducible refine abr_same_ne ?_); (conv => whnf))))
          (repeat' first | with_reducible exact EnvLe.refl _ | (refine EnvLe.node ?_ (by first | exact Or.inl rfl | exact Or.inr (Or.inl rfl) | exact Or.inr (Or.inr ⟨nofun, VLe.slice _ _ _⟩)) ?_))
        · have hi4 : i = 4 := by omega
          subst hi4
          ((conv => whnf); (repeat ((first | with_reducible refine abr_true rfl ?_ | with_reducible refine abr_false rfl ?_ | with_reducible refine abr_yes rfl ?_ | refine abr_yes (by decide) ?_ | refine abr_no (by decide) ?_ | with_reducible refine abr_same_ne ?_); (conv => whnf))))
          (repeat ((first | refine aload (by (repeat (first | with_reducible exact upd_same _ _ _ | assumption | rw [upd_ne _ _ (by first | assumption | (apply Ne.symm; assumption))]))) rfl ?_ | refine afit_i64 (by omega) ?_ | refine arem_nonneg (by omega) (by omega) ?_ | refine adiv_i64 (by omega) (by omega) ?_ | refine abr_yes (by omega) ?_ | refine abr_no (by omega) ?_ | refine amin ?_ | refine amax ?_ | rw [List.length_map]); ((conv => whnf); (repeat ((first | with_reducible refine abr_true rfl ?_ | with_reducible refine abr_false rfl ?_ | with_reducible refine abr_yes rfl ?_ | refine abr_yes (by decide) ?_ | refine abr_no (by decide) ?_ | with_reducible refine abr_same_ne ?_); (conv => whnf))))))
          refine aloads (l := (outs (unpack b) 4).map i64v) (r2.get (upd_same _ _ _)) (by exact Nat.le_refl 4) rfl ?_
          ((conv => whnf); (repeat ((first | with_reducible refine abr_true rfl ?_ | with_reducible refine abr_false rfl ?_ | with_reducible refine abr_yes rfl ?_ | refine abr_yes (by decide) ?_ | refine abr_no (by decide) ?_ | with_reducible refine abr_same_ne ?_); (conv => whnf))))
          refine astore (xs := (outs (unpack b) 4).map i64v) (l := (outs (unpack b) 4).map i64v) (r2.get (by rw [upd_ne _ _ (Ne.symm hne)]; exact upd_same _ _ _)) (by exact Nat.le_refl 4) rfl rfl ?_
          ((conv => whnf); (repeat ((first | with_reducible refine abr_true rfl ?_ | with_reducible refine abr_false rfl ?_ | with_reducible refine abr_yes rfl ?_ | refine abr_yes (by decide) ?_ | refine abr_no (by decide) ?_ | with_reducible refine abr_same_ne ?_); (conv => whnf))))
          refine aloads (l := (outs (unpack b) 4).map i64v) (upd_same _ _ _) (by exact Nat.le_refl 4) rfl ?_
          ((conv => whnf); (repeat ((first | with_reducible refine abr_true rfl ?_ | with_reducible refine abr_false rfl ?_ | with_reducible refine abr_yes rfl ?_ | refine abr_yes (by decide) ?_ | refine abr_no (by decide) ?_ | with_reducible refine abr_same_ne ?_); (conv => whnf))))
          refine aret (VLe.refl _) (σ' := σ) ?_ ⟨by rw [e], rfl⟩
          have r4 := r2.set (o := .cells ((outs (unpack b) 4).map i64v)) (show _ = some (.cells [i64v 0, i64v 0, i64v 0, i64v 0]) by rw [upd_ne _ _ (Ne.symm hne)]; exact upd_same _ _ _)
          rw [upd_comm _ _ _ hne, upd_upd, upd_comm _ _ _ (Ne.symm hne)] at r4
          refine r4.sub.trans ((Sub.upd_fresh _ ?_).trans (Sub.upd_fresh _ ?_))
          · rw [upd_ne _ _ (Ne.symm hne)]; exact h1
          · first
              | exact h2
              | (rw [upd_ne _ _ hne] at h2; exact h2)
end Go.Proofs.Ytkdbmajkjlnpiab

