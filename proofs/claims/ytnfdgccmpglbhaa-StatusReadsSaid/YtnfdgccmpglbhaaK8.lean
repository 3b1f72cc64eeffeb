/-
  Texts of this claim, pack 8: Clawsta, Clawstc, Clawstd.
-/
import Derived.Test.YtnfdgccmpglbhaaK6
import Derived.Test.YtnfdgccmpglbhaaK7
/-
  The statements about statuses: what all of them use.
-/
namespace Go.Proofs.Ytnfdgccmpglbhaa
set_option linter.unusedVariables false
set_option linter.unusedSimpArgs false
open Go Go.Am

def st2 : Int × List Ms := (9, [(3, true, 2, 0), (7, false, 0, 0)])
set_option maxRecDepth 20000 in
theorem alive11 (σ : AHeap) : ACalls Try.prog i_bowlinelaw11_alive [] σ fun v σ' => v = boolv true ∧ σ' = σ := by
  refine k_bowlinelaw11_alive rfl ?_
  ((conv => whnf); (repeat ((first | with_reducible refine abr_true rfl ?_ | with_reducible refine abr_false rfl ?_ | with_reducible refine abr_yes rfl ?_ | refine abr_yes (by decide) ?_ | refine abr_no (by decide) ?_ | with_reducible refine abr_same_ne ?_); (conv => whnf))))
  refine acall (tWrite (5, []) .full 10 _ (by decide)) ?_
  rintro _ σ_ ⟨rfl, e_⟩
  obtain rfl := e_.symm
  refine ⟨?_, Ext.refl _⟩
  ((conv => whnf); (repeat ((first | with_reducible refine abr_true rfl ?_ | with_reducible refine abr_false rfl ?_ | with_reducible refine abr_yes rfl ?_ | refine abr_yes (by decide) ?_ | refine abr_no (by decide) ?_ | with_reducible refine abr_same_ne ?_); (conv => whnf))))
  rw [show writeSt 10 (5, []) = [0, 20] by decide +kernel, show writeCode 10 (5, []) = 0 by decide +kernel]
  refine acall (tWrite st2 .full 16 _ (by decide)) ?_
  rintro _ σ_ ⟨rfl, e_⟩
  obtain rfl := e_.symm
  refine ⟨?_, Ext.refl _⟩
  ((conv => whnf); (repeat ((first | with_reducible refine abr_true rfl ?_ | with_reducible refine abr_false rfl ?_ | with_reducible refine abr_yes rfl ?_ | refine abr_yes (by decide) ?_ | refine abr_no (by decide) ?_ | with_reducible refine abr_same_ne ?_); (conv => whnf))))
  rw [show writeCode 16 st2 = 0 by decide +kernel]
  have hwl : (writeSt 16 st2).length ≤ 8000 := by decide +kernel
  refine acall (tRead (writeSt 16 st2) .none 16 _ hwl) ?_
  rintro _ σ_ ⟨rfl, e_⟩
  obtain rfl := e_.symm
  refine ⟨?_, Ext.refl _⟩
  ((conv => whnf); (repeat ((first | with_reducible refine abr_true rfl ?_ | with_reducible refine abr_false rfl ?_ | with_reducible refine abr_yes rfl ?_ | refine abr_yes (by decide) ?_ | refine abr_no (by decide) ?_ | with_reducible refine abr_same_ne ?_); (conv => whnf))))
  rw [show readSt 16 (writeSt 16 st2) = (st2, 0) by decide +kernel]
  ((conv => whnf); (repeat ((first | with_reducible refine abr_true rfl ?_ | with_reducible refine abr_false rfl ?_ | with_reducible refine abr_yes rfl ?_ | refine abr_yes (by decide) ?_ | refine abr_no (by decide) ?_ | with_reducible refine abr_same_ne ?_); (conv => whnf))))
  refine anew rfl fun i5 h5 => ?_
  ((conv => whnf); (repeat ((first | with_reducible refine abr_true rfl ?_ | with_reducible refine abr_false rfl ?_ | with_reducible refine abr_yes rfl ?_ | refine abr_yes (by decide) ?_ | refine abr_no (by decide) ?_ | with_reducible refine abr_same_ne ?_); (conv => whnf))))
  refine astore (xs := [i64v 9, missV .none st2.2]) (l := [i64v 9, missV .none st2.2]) (upd_same _ _ _) (by exact Nat.le_refl 2) rfl rfl ?_
  rw [upd_upd]
  ((conv => whnf); (repeat ((first | with_reducible refine abr_true rfl ?_ | with_reducible refine abr_false rfl ?_ | with_reducible refine abr_yes rfl ?_ | refine abr_yes (by decide) ?_ | refine abr_no (by decide) ?_ | with_reducible refine abr_same_ne ?_); (conv => whnf))))
  refine acall (tRead [128] .full 10 _ (by decide)) ?_
  rintro _ σ_ ⟨rfl, e_⟩
  obtain rfl := e_.symm
  refine ⟨?_, Ext.refl _⟩
  ((conv => whnf); (repeat ((first | with_reducible refine abr_true rfl ?_ | with_reducible refine abr_false rfl ?_ | with_reducible refine abr_yes rfl ?_ | refine abr_yes (by decide) ?_ | refine abr_no (by decide) ?_ | with_reducible refine abr_same_ne ?_); (conv => whnf))))
  rw [show readSt 10 [128] = ((0, []), 4) by decide +kernel]
  ((conv => whnf); (repeat ((first | with_reducible refine abr_true rfl ?_ | with_reducible refine abr_false rfl ?_ | with_reducible refine abr_yes rfl ?_ | refine abr_yes (by decide) ?_ | refine abr_no (by decide) ?_ | with_reducible refine abr_same_ne ?_); (conv => whnf))))
  refine anew rfl fun i7 h7 => ?_
  have n57 : i5 ≠ i7 := fun e => by subst e; rw [upd_same] at h7; cases h7
  have b7 : σ i7 = none := sub_none (Sub.upd_fresh _ h5) h7
  ((conv => whnf); (repeat ((first | with_reducible refine abr_true rfl ?_ | with_reducible refine abr_false rfl ?_ | with_reducible refine abr_yes rfl ?_ | refine abr_yes (by decide) ?_ | refine abr_no (by decide) ?_ | with_reducible refine abr_same_ne ?_); (conv => whnf))))
  refine astore (xs := [i64v 0, missV .none []]) (l := [i64v 0, missV .none []]) (upd_same _ _ _) (by exact Nat.le_refl 2) rfl rfl ?_
  rw [upd_upd]
  have k5 : upd (upd σ i5 (.cells [i64v 9, missV .none st2.2])) i7 (.cells [i64v 0, missV .none []]) i5 = some (.cells [i64v 9, missV .none st2.2]) := (upd_ne _ _ n57).trans (upd_same _ _ _)
  have hs : Sub (upd (upd σ i5 (.cells [i64v 9, missV .none st2.2])) i7 (.cells [i64v 0, missV .none []])) σ := sub_upd _ (Sub.upd_fresh _ h5) b7
  generalize upd (upd σ i5 (.cells [i64v 9, missV .none st2.2])) i7 (.cells [i64v 0, missV .none []]) = τ at *
  ((conv => whnf); (repeat ((first | with_reducible refine abr_true rfl ?_ | with_reducible refine abr_false rfl ?_ | with_reducible refine abr_yes rfl ?_ | refine abr_yes (by decide) ?_ | refine abr_no (by decide) ?_ | with_reducible refine abr_same_ne ?_); (conv => whnf))))
  refine acall (tWrite (0, [(0, false, 1, 0)]) .full 10 _ (by decide)) ?_
  rintro _ σ_ ⟨rfl, e_⟩
  obtain rfl := e_.symm
  refine ⟨?_, Ext.refl _⟩
  ((conv => whnf); (repeat ((first | with_reducible refine abr_true rfl ?_ | with_reducible refine abr_false rfl ?_ | with_reducible refine abr_yes rfl ?_ | refine abr_yes (by decide) ?_ | refine abr_no (by decide) ?_ | with_reducible refine abr_same_ne ?_); (conv => whnf))))
  rw [show writeCode 10 (0, [(0, false, 1, 0)]) = 3 by decide +kernel]
  refine astr (bs := [0, 20]) rfl ?_
  ((conv => whnf); (repeat ((first | with_reducible refine abr_true rfl ?_ | with_reducible refine abr_false rfl ?_ | with_reducible refine abr_yes rfl ?_ | refine abr_yes (by decide) ?_ | refine abr_no (by decide) ?_ | with_reducible refine abr_same_ne ?_); (conv => whnf))))
  refine aload k5 rfl ?_
  ((conv => whnf); (repeat ((first | with_reducible refine abr_true rfl ?_ | with_reducible refine abr_false rfl ?_ | with_reducible refine abr_yes rfl ?_ | refine abr_yes (by decide) ?_ | refine abr_no (by decide) ?_ | with_reducible refine abr_same_ne ?_); (conv => whnf))))
  refine aload k5 rfl ?_
  ((conv => whnf); (repeat ((first | with_reducible refine abr_true rfl ?_ | with_reducible refine abr_false rfl ?_ | with_reducible refine abr_yes rfl ?_ | refine abr_yes (by decide) ?_ | refine abr_no (by decide) ?_ | with_reducible refine abr_same_ne ?_); (conv => whnf))))
  refine aload k5 rfl ?_
  ((conv => whnf); (repeat ((first | with_reducible refine abr_true rfl ?_ | with_reducible refine abr_false rfl ?_ | with_reducible refine abr_yes rfl ?_ | refine abr_yes (by decide) ?_ | refine abr_no (by decide) ?_ | with_reducible refine abr_same_ne ?_); (conv => whnf))))
  refine aget (x := msV (3, true, 2, 0)) (by omega) rfl ?_
  ((conv => whnf); (repeat ((first | with_reducible refine abr_true rfl ?_ | with_reducible refine abr_false rfl ?_ | with_reducible refine abr_yes rfl ?_ | refine abr_yes (by decide) ?_ | refine abr_no (by decide) ?_ | with_reducible refine abr_same_ne ?_); (conv => whnf))))
  refine acells (l := (msV (3, true, 2, 0)).cells) (by exact Nat.le_refl 4) rfl ?_
  ((conv => whnf); (repeat ((first | with_reducible refine abr_true rfl ?_ | with_reducible refine abr_false rfl ?_ | with_reducible refine abr_yes rfl ?_ | refine abr_yes (by decide) ?_ | refine abr_no (by decide) ?_ | with_reducible refine abr_same_ne ?_); (conv => whnf))))
  exact aret (VLe.refl _) hs ⟨rfl, rfl⟩
set_option maxRecDepth 20000 in
theorem StatusWrites (s o : Int × List Ms) (w : Int) (σ : AHeap) (hs : s.2.length * 32 ≤ 140737488351232) (ho : o.2.length * 32 ≤ 140737488351232) : ACalls Try.prog i_bowlinelaw11_StatusWrites [stV .none s, stV .none o, i64v w] σ fun v σ' => v = boolv true ∧ σ' = σ := by
  refine k_bowlinelaw11_StatusWrites rfl ?_
  ((conv => whnf); (repeat ((first | with_reducible refine abr_true rfl ?_ | with_reducible refine abr_false rfl ?_ | with_reducible refine abr_yes rfl ?_ | refine abr_yes (by decide) ?_ | refine abr_no (by decide) ?_ | with_reducible refine abr_same_ne ?_); (conv => whnf))))
  refine anew rfl fun i3 h3 => ?_
  ((conv => whnf); (repeat ((first | with_reducible refine abr_true rfl ?_ | with_reducible refine abr_false rfl ?_ | with_reducible refine abr_yes rfl ?_ | refine abr_yes (by decide) ?_ | refine abr_no (by decide) ?_ | with_reducible refine abr_same_ne ?_); (conv => whnf))))
  refine anew rfl fun i4 h4 => ?_
  have n34 : i3 ≠ i4 := fun e => by subst e; rw [upd_same] at h4; cases h4
  have b4 : σ i4 = none := sub_none (Sub.upd_fresh _ h3) h4
  obtain ⟨sa, sl⟩ := s
  obtain ⟨oa, ol⟩ := o
  dsimp only at hs ho
  have k3 : upd (upd σ i3 (.cells (stV .none (sa, sl)).cells)) i4 (.cells (stV .none (oa, ol)).cells) i3 = some (.cells [i64v sa, missV .none sl]) := (upd_ne _ _ n34).trans (upd_same _ _ _)
  have k4 : upd (upd σ i3 (.cells (stV .none (sa, sl)).cells)) i4 (.cells (stV .none (oa, ol)).cells) i4 = some (.cells [i64v oa, missV .none ol]) := upd_same _ _ _
  have hsub : Sub (upd (upd σ i3 (.cells (stV .none (sa, sl)).cells)) i4 (.cells (stV .none (oa, ol)).cells)) σ := sub_upd _ (Sub.upd_fresh _ h3) b4
  generalize upd (upd σ i3 (.cells (stV .none (sa, sl)).cells)) i4 (.cells (stV .none (oa, ol)).cells) = τ at *
  ((conv => whnf); (repeat ((first | with_reducible refine abr_true rfl ?_ | with_reducible refine abr_false rfl ?_ | with_reducible refine abr_yes rfl ?_ | refine abr_yes (by decide) ?_ | refine abr_no (by decide) ?_ | with_reducible refine abr_same_ne ?_); (conv => whnf))))
  refine aload k3 rfl ?_
  ((conv => whnf); (repeat ((first | with_reducible refine abr_true rfl ?_ | with_reducible refine abr_false rfl ?_ | with_reducible refine abr_yes rfl ?_ | refine abr_yes (by decide) ?_ | refine abr_no (by decide) ?_ | with_reducible refine abr_same_ne ?_); (conv => whnf))))
  rw [List.length_map]
  by_cases c1 : sl.length > 60
  · (repeat ((first | refine aload (by (repeat (first | with_reducible exact upd_same _ _ _ | assumption | rw [upd_ne _ _ (by first | assumption | (apply Ne.symm; assumption))]))) rfl ?_ | refine afit_i64 (by omega) ?_ | refine arem_nonneg (by omega) (by omega) ?_ | refine adiv_i64 (by omega) (by omega) ?_ | refine abr_yes (by omega) ?_ | refine abr_no (by omega) ?_ | refine amin ?_ | refine amax ?_ | refine afit_u64 (by omega) ?_ | refine afit_u8 (by omega) ?_ | rw [List.length_map]); ((conv => whnf); (repeat ((first | with_reducible refine abr_true rfl ?_ | with_reducible refine abr_false rfl ?_ | with_reducible refine abr_yes rfl ?_ | refine abr_yes (by decide) ?_ | refine abr_no (by decide) ?_ | with_reducible refine abr_same_ne ?_); (conv => whnf))))))
    refine acall (alive11 _) ?_
    rintro _ σ_ ⟨rfl, e_⟩
    obtain rfl := e_.symm
    refine ⟨?_, Ext.refl _⟩
    ((conv => whnf); (repeat ((first | with_reducible refine abr_true rfl ?_ | with_reducible refine abr_false rfl ?_ | with_reducible refine abr_yes rfl ?_ | refine abr_yes (by decide) ?_ | refine abr_no (by decide) ?_ | with_reducible refine abr_same_ne ?_); (conv => whnf))))
    exact aret (VLe.refl _) hsub ⟨rfl, rfl⟩
  (repeat ((first | refine aload (by (repeat (first | with_reducible exact upd_same _ _ _ | assumption | rw [upd_ne _ _ (by first | assumption | (apply Ne.symm; assumption))]))) rfl ?_ | refine afit_i64 (by omega) ?_ | refine arem_nonneg (by omega) (by omega) ?_ | refine adiv_i64 (by omega) (by omega) ?_ | refine abr_yes (by omega) ?_ | refine abr_no (by omega) ?_ | refine amin ?_ | refine amax ?_ | refine afit_u64 (by omega) ?_ | refine afit_u8 (by omega) ?_ | rw [List.length_map]); ((conv => whnf); (repeat ((first | with_reducible refine abr_true rfl ?_ | with_reducible refine abr_false rfl ?_ | with_reducible refine abr_yes rfl ?_ | refine abr_yes (by decide) ?_ | refine abr_no (by decide) ?_ | with_reducible refine abr_same_ne ?_); (conv => whnf))))))
  by_cases c2 : ol.length > 60
  · (repeat ((first | refine aload (by (repeat (first | with_reducible exact upd_same _ _ _ | assumption | rw [upd_ne _ _ (by first | assumption | (apply Ne.symm; assumption))]))) rfl ?_ | refine afit_i64 (by omega) ?_ | refine arem_nonneg (by omega) (by omega) ?_ | refine adiv_i64 (by omega) (by omega) ?_ | refine abr_yes (by omega) ?_ | refine abr_no (by omega) ?_ | refine amin ?_ | refine amax ?_ | refine afit_u64 (by omega) ?_ | refine afit_u8 (by omega) ?_ | rw [List.length_map]); ((conv => whnf); (repeat ((first | with_reducible refine abr_true rfl ?_ | with_reducible refine abr_false rfl ?_ | with_reducible refine abr_yes rfl ?_ | refine abr_yes (by decide) ?_ | refine abr_no (by decide) ?_ | with_reducible refine abr_same_ne ?_); (conv => whnf))))))
    refine acall (alive11 _) ?_
    rintro _ σ_ ⟨rfl, e_⟩
    obtain rfl := e_.symm
    refine ⟨?_, Ext.refl _⟩
    ((conv => whnf); (repeat ((first | with_reducible refine abr_true rfl ?_ | with_reducible refine abr_false rfl ?_ | with_reducible refine abr_yes rfl ?_ | refine abr_yes (by decide) ?_ | refine abr_no (by decide) ?_ | with_reducible refine abr_same_ne ?_); (conv => whnf))))
    exact aret (VLe.refl _) hsub ⟨rfl, rfl⟩
  (repeat ((first | refine aload (by (repeat (first | with_reducible exact upd_same _ _ _ | assumption | rw [upd_ne _ _ (by first | assumption | (apply Ne.symm; assumption))]))) rfl ?_ | refine afit_i64 (by omega) ?_ | refine arem_nonneg (by omega) (by omega) ?_ | refine adiv_i64 (by omega) (by omega) ?_ | refine abr_yes (by omega) ?_ | refine abr_no (by omega) ?_ | refine amin ?_ | refine amax ?_ | refine afit_u64 (by omega) ?_ | refine afit_u8 (by omega) ?_ | rw [List.length_map]); ((conv => whnf); (repeat ((first | with_reducible refine abr_true rfl ?_ | with_reducible refine abr_false rfl ?_ | with_reducible refine abr_yes rfl ?_ | refine abr_yes (by decide) ?_ | refine abr_no (by decide) ?_ | with_reducible refine abr_same_ne ?_); (conv => whnf))))))
  refine aloads (l := [i64v sa, missV .none sl]) k3 (by exact Nat.le_refl 2) rfl ?_
  ((conv => whnf); (repeat ((first | with_reducible refine abr_true rfl ?_ | with_reducible refine abr_false rfl ?_ | with_reducible refine abr_yes rfl ?_ | refine abr_yes (by decide) ?_ | refine abr_no (by decide) ?_ | with_reducible refine abr_same_ne ?_); (conv => whnf))))
  refine acall (tAs (sa, sl) .none _ hs) ?_
  rintro _ σ_ ⟨rfl, e_⟩
  obtain rfl := e_.symm
  refine ⟨?_, Ext.refl _⟩
  ((conv => whnf); (repeat ((first | with_reducible refine abr_true rfl ?_ | with_reducible refine abr_false rfl ?_ | with_reducible refine abr_yes rfl ?_ | refine abr_yes (by decide) ?_ | refine abr_no (by decide) ?_ | with_reducible refine abr_same_ne ?_); (conv => whnf))))
  refine anew rfl fun i7 h7 => ?_
  have n37 : i3 ≠ i7 := fun e => by subst e; rw [k3] at h7; cases h7
  have n47 : i4 ≠ i7 := fun e => by subst e; rw [k4] at h7; cases h7
  have b7 : σ i7 = none := sub_none hsub h7
  ((conv => whnf); (repeat ((first | with_reducible refine abr_true rfl ?_ | with_reducible refine abr_false rfl ?_ | with_reducible refine abr_yes rfl ?_ | refine abr_yes (by decide) ?_ | refine abr_no (by decide) ?_ | with_reducible refine abr_same_ne ?_); (conv => whnf))))
  refine astore (xs := [i64v sa, missV .none sl]) (l := [i64v sa, missV .none sl]) (upd_same _ _ _) (by exact Nat.le_refl 2) rfl rfl ?_
  rw [upd_upd]
  have k3 : upd τ i7 (.cells [i64v sa, missV .none sl]) i3 = some (.cells [i64v sa, missV .none sl]) := (upd_ne _ _ n37).trans k3
  have k4 : upd τ i7 (.cells [i64v sa, missV .none sl]) i4 = some (.cells [i64v oa, missV .none ol]) := (upd_ne _ _ n47).trans k4
  have k7 : upd τ i7 (.cells [i64v sa, missV .none sl]) i7 = some (.cells [i64v sa, missV .none sl]) := upd_same _ _ _
  have hsub : Sub (upd τ i7 (.cells [i64v sa, missV .none sl])) σ := sub_upd _ hsub b7
  generalize upd τ i7 (.cells [i64v sa, missV .none sl]) = υ at *
  have hl1 : sl.length ≤ 9223372036854775807 := by omega
  ((conv => whnf); (repeat ((first | with_reducible refine abr_true rfl ?_ | with_reducible refine abr_false rfl ?_ | with_reducible refine abr_yes rfl ?_ | refine abr_yes (by decide) ?_ | refine abr_no (by decide) ?_ | with_reducible refine abr_same_ne ?_); (conv => whnf))))
  refine aloads (l := [i64v sa, missV .none sl]) k3 (by exact Nat.le_refl 2) rfl ?_
  ((conv => whnf); (repeat ((first | with_reducible refine abr_true rfl ?_ | with_reducible refine abr_false rfl ?_ | with_reducible refine abr_yes rfl ?_ | refine abr_yes (by decide) ?_ | refine abr_no (by decide) ?_ | with_reducible refine abr_same_ne ?_); (conv => whnf))))
  refine acall (tWrite (sa, sl) .none w _ hl1) ?_
  rintro _ σ_ ⟨rfl, e_⟩
  obtain rfl := e_.symm
  refine ⟨?_, Ext.refl _⟩
  ((conv => whnf); (repeat ((first | with_reducible refine abr_true rfl ?_ | with_reducible refine abr_false rfl ?_ | with_reducible refine abr_yes rfl ?_ | refine abr_yes (by decide) ?_ | refine abr_no (by decide) ?_ | with_reducible refine abr_same_ne ?_); (conv => whnf))))
  refine aloads (l := [i64v sa, missV .none sl]) k3 (by exact Nat.le_refl 2) rfl ?_
  ((conv => whnf); (repeat ((first | with_reducible refine abr_true rfl ?_ | with_reducible refine abr_false rfl ?_ | with_reducible refine abr_yes rfl ?_ | refine abr_yes (by decide) ?_ | refine abr_no (by decide) ?_ | with_reducible refine abr_same_ne ?_); (conv => whnf))))
  refine aloads (l := [i64v sa, missV .none sl]) k7 (by exact Nat.le_refl 2) rfl ?_
  ((conv => whnf); (repeat ((first | with_reducible refine abr_true rfl ?_ | with_reducible refine abr_false rfl ?_ | with_reducible refine abr_yes rfl ?_ | refine abr_yes (by decide) ?_ | refine abr_no (by decide) ?_ | with_reducible refine abr_same_ne ?_); (conv => whnf))))
  refine acall (tRight (sa, sl) .none w _ hl1) ?_
  rintro _ σ_ ⟨rfl, e_⟩
  obtain rfl := e_.symm
  refine ⟨?_, Ext.refl _⟩
  ((conv => whnf); (repeat ((first | with_reducible refine abr_true rfl ?_ | with_reducible refine abr_false rfl ?_ | with_reducible refine abr_yes rfl ?_ | refine abr_yes (by decide) ?_ | refine abr_no (by decide) ?_ | with_reducible refine abr_same_ne ?_); (conv => whnf))))
  refine acall (refStRight (sa, sl) .none w _ hl1) ?_
  rintro _ σ_ ⟨rfl, e_⟩
  obtain rfl := e_.symm
  refine ⟨?_, Ext.refl _⟩
  ((conv => whnf); (repeat ((first | with_reducible refine abr_true rfl ?_ | with_reducible refine abr_false rfl ?_ | with_reducible refine abr_yes rfl ?_ | refine abr_yes (by decide) ?_ | refine abr_no (by decide) ?_ | with_reducible refine abr_same_ne ?_); (conv => whnf))))
  refine abr_false (by simp) ?_
  ((conv => whnf); (repeat ((first | with_reducible refine abr_true rfl ?_ | with_reducible refine abr_false rfl ?_ | with_reducible refine abr_yes rfl ?_ | refine abr_yes (by decide) ?_ | refine abr_no (by decide) ?_ | with_reducible refine abr_same_ne ?_); (conv => whnf))))
  refine aloads (l := [i64v sa, missV .none sl]) k3 (by exact Nat.le_refl 2) rfl ?_
  ((conv => whnf); (repeat ((first | with_reducible refine abr_true rfl ?_ | with_reducible refine abr_false rfl ?_ | with_reducible refine abr_yes rfl ?_ | refine abr_yes (by decide) ?_ | refine abr_no (by decide) ?_ | with_reducible refine abr_same_ne ?_); (conv => whnf))))
  refine aloads (l := [i64v sa, missV .none sl]) k7 (by exact Nat.le_refl 2) rfl ?_
  ((conv => whnf); (repeat ((first | with_reducible refine abr_true rfl ?_ | with_reducible refine abr_false rfl ?_ | with_reducible refine abr_yes rfl ?_ | refine abr_yes (by decide) ?_ | refine abr_no (by decide) ?_ | with_reducible refine abr_same_ne ?_); (conv => whnf))))
  refine acall (tSize (sa, sl) .none w _ hl1) ?_
  rintro _ σ_ ⟨rfl, e_⟩
  obtain rfl := e_.symm
  refine ⟨?_, Ext.refl _⟩
  ((conv => whnf); (repeat ((first | with_reducible refine abr_true rfl ?_ | with_reducible refine abr_false rfl ?_ | with_reducible refine abr_yes rfl ?_ | refine abr_yes (by decide) ?_ | refine abr_no (by decide) ?_ | with_reducible refine abr_same_ne ?_); (conv => whnf))))
  refine acall (refStSize (sa, sl) .none w _ hl1) ?_
  rintro _ σ_ ⟨rfl, e_⟩
  obtain rfl := e_.symm
  refine ⟨?_, Ext.refl _⟩
  ((conv => whnf); (repeat ((first | with_reducible refine abr_true rfl ?_ | with_reducible refine abr_false rfl ?_ | with_reducible refine abr_yes rfl ?_ | refine abr_yes (by decide) ?_ | refine abr_no (by decide) ?_ | with_reducible refine abr_same_ne ?_); (conv => whnf))))
  try refine abr_false (by simp) ?_
  ((conv => whnf); (repeat ((first | with_reducible refine abr_true rfl ?_ | with_reducible refine abr_false rfl ?_ | with_reducible refine abr_yes rfl ?_ | refine abr_yes (by decide) ?_ | refine abr_no (by decide) ?_ | with_reducible refine abr_same_ne ?_); (conv => whnf))))
  refine aloads (l := [i64v sa, missV .none sl]) k3 (by exact Nat.le_refl 2) rfl ?_
  ((conv => whnf); (repeat ((first | with_reducible refine abr_true rfl ?_ | with_reducible refine abr_false rfl ?_ | with_reducible refine abr_yes rfl ?_ | refine abr_yes (by decide) ?_ | refine abr_no (by decide) ?_ | with_reducible refine abr_same_ne ?_); (conv => whnf))))
  refine aloads (l := [i64v oa, missV .none ol]) k4 (by exact Nat.le_refl 2) rfl ?_
  ((conv => whnf); (repeat ((first | with_reducible refine abr_true rfl ?_ | with_reducible refine abr_false rfl ?_ | with_reducible refine abr_yes rfl ?_ | refine abr_yes (by decide) ?_ | refine abr_no (by decide) ?_ | with_reducible refine abr_same_ne ?_); (conv => whnf))))
  refine aloads (l := [i64v sa, missV .none sl]) k7 (by exact Nat.le_refl 2) rfl ?_
  ((conv => whnf); (repeat ((first | with_reducible refine abr_true rfl ?_ | with_reducible refine abr_false rfl ?_ | with_reducible refine abr_yes rfl ?_ | refine abr_yes (by decide) ?_ | refine abr_no (by decide) ?_ | with_reducible refine abr_same_ne ?_); (conv => whnf))))
  refine aloads (l := [i64v oa, missV .none ol]) k4 (by exact Nat.le_refl 2) rfl ?_
  ((conv => whnf); (repeat ((first | with_reducible refine abr_true rfl ?_ | with_reducible refine abr_false rfl ?_ | with_reducible refine abr_yes rfl ?_ | refine abr_yes (by decide) ?_ | refine abr_no (by decide) ?_ | with_reducible refine abr_same_ne ?_); (conv => whnf))))
  refine acall (tSame (sa, sl) (oa, ol) .none .none _ hl1) ?_
  rintro _ σ_ ⟨rfl, e_⟩
  obtain rfl := e_.symm
  refine ⟨?_, Ext.refl _⟩
  ((conv => whnf); (repeat ((first | with_reducible refine abr_true rfl ?_ | with_reducible refine abr_false rfl ?_ | with_reducible refine abr_yes rfl ?_ | refine abr_yes (by decide) ?_ | refine abr_no (by decide) ?_ | with_reducible refine abr_same_ne ?_); (conv => whnf))))
  refine acall (tAs (oa, ol) .none _ ho) ?_
  rintro _ σ_ ⟨rfl, e_⟩
  obtain rfl := e_.symm
  refine ⟨?_, Ext.refl _⟩
  ((conv => whnf); (repeat ((first | with_reducible refine abr_true rfl ?_ | with_reducible refine abr_false rfl ?_ | with_reducible refine abr_yes rfl ?_ | refine abr_yes (by decide) ?_ | refine abr_no (by decide) ?_ | with_reducible refine abr_same_ne ?_); (conv => whnf))))
  refine acall (refSame (sa, sl) (oa, ol) .none .none _ hl1) ?_
  rintro _ σ_ ⟨rfl, e_⟩
  obtain rfl := e_.symm
  refine ⟨?_, Ext.refl _⟩
  ((conv => whnf); (repeat ((first | with_reducible refine abr_true rfl ?_ | with_reducible refine abr_false rfl ?_ | with_reducible refine abr_yes rfl ?_ | refine abr_yes (by decide) ?_ | refine abr_no (by decide) ?_ | with_reducible refine abr_same_ne ?_); (conv => whnf))))
  try refine abr_false (by simp) ?_
  ((conv => whnf); (repeat ((first | with_reducible refine abr_true rfl ?_ | with_reducible refine abr_false rfl ?_ | with_reducible refine abr_yes rfl ?_ | refine abr_yes (by decide) ?_ | refine abr_no (by decide) ?_ | with_reducible refine abr_same_ne ?_); (conv => whnf))))
  by_cases hw : w = 10 ∨ w = 16
  case neg =>
    have c3 : ¬ w = 10 := fun e => hw (.inl e)
    have c4 : ¬ w = 16 := fun e => hw (.inr e)
    have hsw : stWidth w = false := decide_eq_false hw
    have hok : stOk w (sa, sl) = false := by unfold stOk; rw [hsw]; rfl
    (repeat ((first | refine aload (by (repeat (first | with_reducible exact upd_same _ _ _ | assumption | rw [upd_ne _ _ (by first | assumption | (apply Ne.symm; assumption))]))) rfl ?_ | refine afit_i64 (by omega) ?_ | refine arem_nonneg (by omega) (by omega) ?_ | refine adiv_i64 (by omega) (by omega) ?_ | refine abr_yes (by omega) ?_ | refine abr_no (by omega) ?_ | refine amin ?_ | refine amax ?_ | refine afit_u64 (by omega) ?_ | refine afit_u8 (by omega) ?_ | rw [List.length_map]); ((conv => whnf); (repeat ((first | with_reducible refine abr_true rfl ?_ | with_reducible refine abr_false rfl ?_ | with_reducible refine abr_yes rfl ?_ | refine abr_yes (by decide) ?_ | refine abr_no (by decide) ?_ | with_reducible refine abr_same_ne ?_); (conv => whnf))))))
    refine acall (alive11 _) ?_
    rintro _ σ_ ⟨rfl, e_⟩
    obtain rfl := e_.symm
    refine ⟨?_, Ext.refl _⟩
    ((conv => whnf); (repeat ((first | with_reducible refine abr_true rfl ?_ | with_reducible refine abr_false rfl ?_ | with_reducible refine abr_yes rfl ?_ | refine abr_yes (by decide) ?_ | refine abr_no (by decide) ?_ | with_reducible refine abr_same_ne ?_); (conv => whnf))))
    rw [show writeCode w (sa, sl) = 9 by unfold writeCode; rw [hsw]; rfl]
    ((conv => whnf); (repeat ((first | with_reducible refine abr_true rfl ?_ | with_reducible refine abr_false rfl ?_ | with_reducible refine abr_yes rfl ?_ | refine abr_yes (by decide) ?_ | refine abr_no (by decide) ?_ | with_reducible refine abr_same_ne ?_); (conv => whnf))))
    rw [show writeSt w (sa, sl) = [] by unfold writeSt; rw [hok]; rfl]
    exact aret (VLe.refl _) hsub ⟨rfl, rfl⟩
  have hsw : stWidth w = true := decide_eq_true hw
  rcases Classical.em (w = 10) with c3 | c3
  all_goals
    (repeat ((first | refine aload (by (repeat (first | with_reducible exact upd_same _ _ _ | assumption | rw [upd_ne _ _ (by first | assumption | (apply Ne.symm; assumption))]))) rfl ?_ | refine afit_i64 (by omega) ?_ | refine arem_nonneg (by omega) (by omega) ?_ | refine adiv_i64 (by omega) (by omega) ?_ | refine abr_yes (by omega) ?_ | refine abr_no (by omega) ?_ | refine amin ?_ | refine amax ?_ | refine afit_u64 (by omega) ?_ | refine afit_u8 (by omega) ?_ | rw [List.length_map]); ((conv => whnf); (repeat ((first | with_reducible refine abr_true rfl ?_ | with_reducible refine abr_false rfl ?_ | with_reducible refine abr_yes rfl ?_ | refine abr_yes (by decide) ?_ | refine abr_no (by decide) ?_ | with_reducible refine abr_same_ne ?_); (conv => whnf))))))
    refine aloads (l := [i64v sa, missV .none sl]) k7 (by exact Nat.le_refl 2) rfl ?_
    ((conv => whnf); (repeat ((first | with_reducible refine abr_true rfl ?_ | with_reducible refine abr_false rfl ?_ | with_reducible refine abr_yes rfl ?_ | refine abr_yes (by decide) ?_ | refine abr_no (by decide) ?_ | with_reducible refine abr_same_ne ?_); (conv => whnf))))
    refine acall (refStRight (sa, sl) .none w _ hl1) ?_
    rintro _ σ_ ⟨rfl, e_⟩
    obtain rfl := e_.symm
    refine ⟨?_, Ext.refl _⟩
    ((conv => whnf); (repeat ((first | with_reducible refine abr_true rfl ?_ | with_reducible refine abr_false rfl ?_ | with_reducible refine abr_yes rfl ?_ | refine abr_yes (by decide) ?_ | refine abr_no (by decide) ?_ | with_reducible refine abr_same_ne ?_); (conv => whnf))))
    cases hok : stOk w (sa, sl)
    · ((conv => whnf); (repeat ((first | with_reducible refine abr_true rfl ?_ | with_reducible refine abr_false rfl ?_ | with_reducible refine abr_yes rfl ?_ | refine abr_yes (by decide) ?_ | refine abr_no (by decide) ?_ | with_reducible refine abr_same_ne ?_); (conv => whnf))))
      refine acall (alive11 _) ?_
      rintro _ σ_ ⟨rfl, e_⟩
      obtain rfl := e_.symm
      refine ⟨?_, Ext.refl _⟩
      ((conv => whnf); (repeat ((first | with_reducible refine abr_true rfl ?_ | with_reducible refine abr_false rfl ?_ | with_reducible refine abr_yes rfl ?_ | refine abr_yes (by decide) ?_ | refine abr_no (by decide) ?_ | with_reducible refine abr_same_ne ?_); (conv => whnf))))
      rw [show writeCode w (sa, sl) = 3 by unfold writeCode; rw [hsw, hok]; rfl]
      ((conv => whnf); (repeat ((first | with_reducible refine abr_true rfl ?_ | with_reducible refine abr_false rfl ?_ | with_reducible refine abr_yes rfl ?_ | refine abr_yes (by decide) ?_ | refine abr_no (by decide) ?_ | with_reducible refine abr_same_ne ?_); (conv => whnf))))
      rw [show writeSt w (sa, sl) = [] by unfold writeSt; rw [hok]; rfl]
      exact aret (VLe.refl _) hsub ⟨rfl, rfl⟩
    · ((conv => whnf); (repeat ((first | with_reducible refine abr_true rfl ?_ | with_reducible refine abr_false rfl ?_ | with_reducible refine abr_yes rfl ?_ | refine abr_yes (by decide) ?_ | refine abr_no (by decide) ?_ | with_reducible refine abr_same_ne ?_); (conv => whnf))))
      refine acall (alive11 _) ?_
      rintro _ σ_ ⟨rfl, e_⟩
      obtain rfl := e_.symm
      refine ⟨?_, Ext.refl _⟩
      ((conv => whnf); (repeat ((first | with_reducible refine abr_true rfl ?_ | with_reducible refine abr_false rfl ?_ | with_reducible refine abr_yes rfl ?_ | refine abr_yes (by decide) ?_ | refine abr_no (by decide) ?_ | with_reducible refine abr_same_ne ?_); (conv => whnf))))
      rw [show writeCode w (sa, sl) = 0 by unfold writeCode; rw [hsw, hok]; rfl]
      ((conv => whnf); (repeat ((first | with_reducible refine abr_true rfl ?_ | with_reducible refine abr_false rfl ?_ | with_reducible refine abr_yes rfl ?_ | refine abr_yes (by decide) ?_ | refine abr_no (by decide) ?_ | with_reducible refine abr_same_ne ?_); (conv => whnf))))
      rw [show writeSt w (sa, sl) = pack (stBits w (sa, sl)) by unfold writeSt; rw [hok]; rfl]
      refine astr rfl ?_
      ((conv => whnf); (repeat ((first | with_reducible refine abr_true rfl ?_ | with_reducible refine abr_false rfl ?_ | with_reducible refine abr_yes rfl ?_ | refine abr_yes (by decide) ?_ | refine abr_no (by decide) ?_ | with_reducible refine abr_same_ne ?_); (conv => whnf))))
      refine aloads (l := [i64v sa, missV .none sl]) k7 (by exact Nat.le_refl 2) rfl ?_
      ((conv => whnf); (repeat ((first | with_reducible refine abr_true rfl ?_ | with_reducible refine abr_false rfl ?_ | with_reducible refine abr_yes rfl ?_ | refine abr_yes (by decide) ?_ | refine abr_no (by decide) ?_ | with_reducible refine abr_same_ne ?_); (conv => whnf))))
      refine acall (refStWrite (sa, sl) .none w _ hok) ?_
      rintro _ σ_ ⟨rfl, e_⟩
      obtain rfl := e_.symm
      refine ⟨?_, Ext.refl _⟩
      ((conv => whnf); (repeat ((first | with_reducible refine abr_true rfl ?_ | with_reducible refine abr_false rfl ?_ | with_reducible refine abr_yes rfl ?_ | refine abr_yes (by decide) ?_ | refine abr_no (by decide) ?_ | with_reducible refine abr_same_ne ?_); (conv => whnf))))
      refine astr rfl ?_
      ((conv => whnf); (repeat ((first | with_reducible refine abr_true rfl ?_ | with_reducible refine abr_false rfl ?_ | with_reducible refine abr_yes rfl ?_ | refine abr_yes (by decide) ?_ | refine abr_no (by decide) ?_ | with_reducible refine abr_same_ne ?_); (conv => whnf))))
      exact aret (VLe.refl _) hsub ⟨congrArg boolv (decide_eq_true rfl), rfl⟩
end Go.Proofs.Ytnfdgccmpglbhaa
/-
  Statuses: what is read is what the document reads.
-/
namespace Go.Proofs.Ytnfdgccmpglbhaa
set_option linter.unusedVariables false
set_option linter.unusedSimpArgs false
open Go Go.Am

theorem dMs_len {n : Nat} {x : List Bool} : ∀ (f : Nat) (ms : List Ms) (k : Nat) (more : Bool), ms.length + f ≤ 33 → (dMs n x f ms k more).1.length ≤ 33 := by
  intro f
  induction f with
  | zero => intro ms k more h; exact Nat.zero_le _
  | succ f ih =>
    intro ms k more h
    unfold dMs
    split
    · split
      · exact Nat.zero_le _
      · split
        · exact Nat.zero_le _
        · split
          · exact Nat.zero_le _
          · exact ih _ _ _ (by rw [List.length_append, List.length_singleton]; omega)
    · split
      · exact Nat.zero_le _
      · split
        · exact Nat.zero_le _
        · dsimp only; omega
theorem dRead_len (w : Int) (b : List UInt8) : (dRead w b).1.2.length ≤ 33 := by
  unfold dRead
  split
  · exact Nat.zero_le _
  split
  · exact Nat.zero_le _
  split
  · exact Nat.zero_le _
  split
  · exact Nat.zero_le _
  split
  · exact Nat.zero_le _
  dsimp only
  split
  · exact dMs_len _ _ _ _ (by decide)
  · exact Nat.zero_le _
set_option maxRecDepth 20000 in
theorem StatusReads (b : List UInt8) (t : Tok) (w : Int) (σ : AHeap) : ACalls Try.prog i_bowlinelaw11_StatusReads [sl t b, i64v w] σ fun v σ' => v = boolv true ∧ σ' = σ := by
  refine k_bowlinelaw11_StatusReads rfl ?_
  have H := Hp.nil σ
  ((conv => whnf); (repeat ((first | with_reducible refine abr_true rfl ?_ | with_reducible refine abr_false rfl ?_ | with_reducible refine abr_yes rfl ?_ | refine abr_yes (by decide) ?_ | refine abr_no (by decide) ?_ | with_reducible refine abr_same_ne ?_); (conv => whnf))))
  rw [List.length_map]
  by_cases c1 : b.length > 400
  · (repeat ((first | refine afit_i64 (by omega) ?_ | refine arem_nonneg (by omega) (by omega) ?_ | refine adiv_i64 (by omega) (by omega) ?_ | refine abr_yes (by omega) ?_ | refine abr_no (by omega) ?_ | refine amin ?_ | refine amax ?_ | refine afit_u64 (by omega) ?_ | refine afit_u8 (by omega) ?_ | refine acell rfl ?_ | refine acellA ?_ | refine hload H (k := 0) rfl rfl ?_ | refine hloadA H (k := 0) rfl ?_ | refine hload H (k := 1) rfl rfl ?_ | refine hloadA H (k := 1) rfl ?_ | refine hload H (k := 2) rfl rfl ?_ | refine hloadA H (k := 2) rfl ?_ | refine hload H (k := 3) rfl rfl ?_ | refine hloadA H (k := 3) rfl ?_ | refine hload H (k := 4) rfl rfl ?_ | refine hloadA H (k := 4) rfl ?_ | refine hload H (k := 5) rfl rfl ?_ | refine hloadA H (k := 5) rfl ?_ | refine hload H (k := 6) rfl rfl ?_ | refine hloadA H (k := 6) rfl ?_ | refine hload H (k := 7) rfl rfl ?_ | refine hloadA H (k := 7) rfl ?_ | refine hload H (k := 8) rfl rfl ?_ | refine hloadA H (k := 8) rfl ?_ | refine hload H (k := 9) rfl rfl ?_ | refine hloadA H (k := 9) rfl ?_ | (refine hstore H (k := 0) rfl rfl ?_; (conv => whnf); clear H; intro τ H) | (refine hstore H (k := 1) rfl rfl ?_; (conv => whnf); clear H; intro τ H) | (refine hstore H (k := 2) rfl rfl ?_; (conv => whnf); clear H; intro τ H) | (refine hstore H (k := 3) rfl rfl ?_; (conv => whnf); clear H; intro τ H) | (refine hstore H (k := 4) rfl rfl ?_; (conv => whnf); clear H; intro τ H) | (refine hstore H (k := 5) rfl rfl ?_; (conv => whnf); clear H; intro τ H) | (refine hstore H (k := 6) rfl rfl ?_; (conv => whnf); clear H; intro τ H) | (refine hstore H (k := 7) rfl rfl ?_; (conv => whnf); clear H; intro τ H) | (refine hstore H (k := 8) rfl rfl ?_; (conv => whnf); clear H; intro τ H) | (refine hstore H (k := 9) rfl rfl ?_; (conv => whnf); clear H; intro τ H) | rw [List.length_map]); ((conv => whnf); (repeat ((first | with_reducible refine abr_true rfl ?_ | with_reducible refine abr_false rfl ?_ | with_reducible refine abr_yes rfl ?_ | refine abr_yes (by decide) ?_ | refine abr_no (by decide) ?_ | with_reducible refine abr_same_ne ?_); (conv => whnf))))))
    refine acall (alive11 σ) ?_
    rintro _ σ_ ⟨rfl, e_⟩
    obtain rfl := e_.symm
    refine ⟨?_, Ext.refl _⟩
    ((conv => whnf); (repeat ((first | with_reducible refine abr_true rfl ?_ | with_reducible refine abr_false rfl ?_ | with_reducible refine abr_yes rfl ?_ | refine abr_yes (by decide) ?_ | refine abr_no (by decide) ?_ | with_reducible refine abr_same_ne ?_); (conv => whnf))))
    exact aret (VLe.refl _) H.sub ⟨rfl, rfl⟩
  (repeat ((first | refine afit_i64 (by omega) ?_ | refine arem_nonneg (by omega) (by omega) ?_ | refine adiv_i64 (by omega) (by omega) ?_ | refine abr_yes (by omega) ?_ | refine abr_no (by omega) ?_ | refine amin ?_ | refine amax ?_ | refine afit_u64 (by omega) ?_ | refine afit_u8 (by omega) ?_ | refine acell rfl ?_ | refine acellA ?_ | refine hload H (k := 0) rfl rfl ?_ | refine hloadA H (k := 0) rfl ?_ | refine hload H (k := 1) rfl rfl ?_ | refine hloadA H (k := 1) rfl ?_ | refine hload H (k := 2) rfl rfl ?_ | refine hloadA H (k := 2) rfl ?_ | refine hload H (k := 3) rfl rfl ?_ | refine hloadA H (k := 3) rfl ?_ | refine hload H (k := 4) rfl rfl ?_ | refine hloadA H (k := 4) rfl ?_ | refine hload H (k := 5) rfl rfl ?_ | refine hloadA H (k := 5) rfl ?_ | refine hload H (k := 6) rfl rfl ?_ | refine hloadA H (k := 6) rfl ?_ | refine hload H (k := 7) rfl rfl ?_ | refine hloadA H (k := 7) rfl ?_ | refine hload H (k := 8) rfl rfl ?_ | refine hloadA H (k := 8) rfl ?_ | refine hload H (k := 9) rfl rfl ?_ | refine hloadA H (k := 9) rfl ?_ | (refine hstore H (k := 0) rfl rfl ?_; (conv => whnf); clear H; intro τ H) | (refine hstore H (k := 1) rfl rfl ?_; (conv => whnf); clear H; intro τ H) | (refine hstore H (k := 2) rfl rfl ?_; (conv => whnf); clear H; intro τ H) | (refine hstore H (k := 3) rfl rfl ?_; (conv => whnf); clear H; intro τ H) | (refine hstore H (k := 4) rfl rfl ?_; (conv => whnf); clear H; intro τ H) | (refine hstore H (k := 5) rfl rfl ?_; (conv => whnf); clear H; intro τ H) | (refine hstore H (k := 6) rfl rfl ?_; (conv => whnf); clear H; intro τ H) | (refine hstore H (k := 7) rfl rfl ?_; (conv => whnf); clear H; intro τ H) | (refine hstore H (k := 8) rfl rfl ?_; (conv => whnf); clear H; intro τ H) | (refine hstore H (k := 9) rfl rfl ?_; (conv => whnf); clear H; intro τ H) | rw [List.length_map]); ((conv => whnf); (repeat ((first | with_reducible refine abr_true rfl ?_ | with_reducible refine abr_false rfl ?_ | with_reducible refine abr_yes rfl ?_ | refine abr_yes (by decide) ?_ | refine abr_no (by decide) ?_ | with_reducible refine abr_same_ne ?_); (conv => whnf))))))
  refine acall (tRead b t w σ (by omega)) ?_
  rintro _ σ_ ⟨rfl, e_⟩
  obtain rfl := e_.symm
  refine ⟨?_, Ext.refl _⟩
  ((conv => whnf); (repeat ((first | with_reducible refine abr_true rfl ?_ | with_reducible refine abr_false rfl ?_ | with_reducible refine abr_yes rfl ?_ | refine abr_yes (by decide) ?_ | refine abr_no (by decide) ?_ | with_reducible refine abr_same_ne ?_); (conv => whnf))))
  rw [read_same]
  have hlen := dRead_len w b
  have hq : dRead w b = dRead w b := rfl
  generalize hr : dRead w b = r at *
  clear hq
  obtain ⟨⟨ack, l⟩, c⟩ := r
  dsimp only at hlen ⊢
  refine hnew H rfl ?_
  clear H
  intro i5 τ H
  ((conv => whnf); (repeat ((first | with_reducible refine abr_true rfl ?_ | with_reducible refine abr_false rfl ?_ | with_reducible refine abr_yes rfl ?_ | refine abr_yes (by decide) ?_ | refine abr_no (by decide) ?_ | with_reducible refine abr_same_ne ?_); (conv => whnf))))
  (repeat ((first | refine afit_i64 (by omega) ?_ | refine arem_nonneg (by omega) (by omega) ?_ | refine adiv_i64 (by omega) (by omega) ?_ | refine abr_yes (by omega) ?_ | refine abr_no (by omega) ?_ | refine amin ?_ | refine amax ?_ | refine afit_u64 (by omega) ?_ | refine afit_u8 (by omega) ?_ | refine acell rfl ?_ | refine acellA ?_ | refine hload H (k := 0) rfl rfl ?_ | refine hloadA H (k := 0) rfl ?_ | refine hload H (k := 1) rfl rfl ?_ | refine hloadA H (k := 1) rfl ?_ | refine hload H (k := 2) rfl rfl ?_ | refine hloadA H (k := 2) rfl ?_ | refine hload H (k := 3) rfl rfl ?_ | refine hloadA H (k := 3) rfl ?_ | refine hload H (k := 4) rfl rfl ?_ | refine hloadA H (k := 4) rfl ?_ | refine hload H (k := 5) rfl rfl ?_ | refine hloadA H (k := 5) rfl ?_ | refine hload H (k := 6) rfl rfl ?_ | refine hloadA H (k := 6) rfl ?_ | refine hload H (k := 7) rfl rfl ?_ | refine hloadA H (k := 7) rfl ?_ | refine hload H (k := 8) rfl rfl ?_ | refine hloadA H (k := 8) rfl ?_ | refine hload H (k := 9) rfl rfl ?_ | refine hloadA H (k := 9) rfl ?_ | (refine hstore H (k := 0) rfl rfl ?_; (conv => whnf); clear H; intro τ H) | (refine hstore H (k := 1) rfl rfl ?_; (conv => whnf); clear H; intro τ H) | (refine hstore H (k := 2) rfl rfl ?_; (conv => whnf); clear H; intro τ H) | (refine hstore H (k := 3) rfl rfl ?_; (conv => whnf); clear H; intro τ H) | (refine hstore H (k := 4) rfl rfl ?_; (conv => whnf); clear H; intro τ H) | (refine hstore H (k := 5) rfl rfl ?_; (conv => whnf); clear H; intro τ H) | (refine hstore H (k := 6) rfl rfl ?_; (conv => whnf); clear H; intro τ H) | (refine hstore H (k := 7) rfl rfl ?_; (conv => whnf); clear H; intro τ H) | (refine hstore H (k := 8) rfl rfl ?_; (conv => whnf); clear H; intro τ H) | (refine hstore H (k := 9) rfl rfl ?_; (conv => whnf); clear H; intro τ H) | rw [List.length_map]); ((conv => whnf); (repeat ((first | with_reducible refine abr_true rfl ?_ | with_reducible refine abr_false rfl ?_ | with_reducible refine abr_yes rfl ?_ | refine abr_yes (by decide) ?_ | refine abr_no (by decide) ?_ | with_reducible refine abr_same_ne ?_); (conv => whnf))))))
  refine acall (refRead b t w τ (by omega)) ?_
  rintro _ σ_ ⟨rfl, e_⟩
  obtain rfl := e_.symm
  refine ⟨?_, Ext.refl _⟩
  ((conv => whnf); (repeat ((first | with_reducible refine abr_true rfl ?_ | with_reducible refine abr_false rfl ?_ | with_reducible refine abr_yes rfl ?_ | refine abr_yes (by decide) ?_ | refine abr_no (by decide) ?_ | with_reducible refine abr_same_ne ?_); (conv => whnf))))
  rw [hr]
  ((conv => whnf); (repeat ((first | with_reducible refine abr_true rfl ?_ | with_reducible refine abr_false rfl ?_ | with_reducible refine abr_yes rfl ?_ | refine abr_yes (by decide) ?_ | refine abr_no (by decide) ?_ | with_reducible refine abr_same_ne ?_); (conv => whnf))))
  refine hnew H rfl ?_
  clear H
  intro i7 τ H
  ((conv => whnf); (repeat ((first | with_reducible refine abr_true rfl ?_ | with_reducible refine abr_false rfl ?_ | with_reducible refine abr_yes rfl ?_ | refine abr_yes (by decide) ?_ | refine abr_no (by decide) ?_ | with_reducible refine abr_same_ne ?_); (conv => whnf))))
  (repeat ((first | refine afit_i64 (by omega) ?_ | refine arem_nonneg (by omega) (by omega) ?_ | refine adiv_i64 (by omega) (by omega) ?_ | refine abr_yes (by omega) ?_ | refine abr_no (by omega) ?_ | refine amin ?_ | refine amax ?_ | refine afit_u64 (by omega) ?_ | refine afit_u8 (by omega) ?_ | refine acell rfl ?_ | refine acellA ?_ | refine hload H (k := 0) rfl rfl ?_ | refine hloadA H (k := 0) rfl ?_ | refine hload H (k := 1) rfl rfl ?_ | refine hloadA H (k := 1) rfl ?_ | refine hload H (k := 2) rfl rfl ?_ | refine hloadA H (k := 2) rfl ?_ | refine hload H (k := 3) rfl rfl ?_ | refine hloadA H (k := 3) rfl ?_ | refine hload H (k := 4) rfl rfl ?_ | refine hloadA H (k := 4) rfl ?_ | refine hload H (k := 5) rfl rfl ?_ | refine hloadA H (k := 5) rfl ?_ | refine hload H (k := 6) rfl rfl ?_ | refine hloadA H (k := 6) rfl ?_ | refine hload H (k := 7) rfl rfl ?_ | refine hloadA H (k := 7) rfl ?_ | refine hload H (k := 8) rfl rfl ?_ | refine hloadA H (k := 8) rfl ?_ | refine hload H (k := 9) rfl rfl ?_ | refine hloadA H (k := 9) rfl ?_ | (refine hstore H (k := 0) rfl rfl ?_; (conv => whnf); clear H; intro τ H) | (refine hstore H (k := 1) rfl rfl ?_; (conv => whnf); clear H; intro τ H) | (refine hstore H (k := 2) rfl rfl ?_; (conv => whnf); clear H; intro τ H) | (refine hstore H (k := 3) rfl rfl ?_; (conv => whnf); clear H; intro τ H) | (refine hstore H (k := 4) rfl rfl ?_; (conv => whnf); clear H; intro τ H) | (refine hstore H (k := 5) rfl rfl ?_; (conv => whnf); clear H; intro τ H) | (refine hstore H (k := 6) rfl rfl ?_; (conv => whnf); clear H; intro τ H) | (refine hstore H (k := 7) rfl rfl ?_; (conv => whnf); clear H; intro τ H) | (refine hstore H (k := 8) rfl rfl ?_; (conv => whnf); clear H; intro τ H) | (refine hstore H (k := 9) rfl rfl ?_; (conv => whnf); clear H; intro τ H) | rw [List.length_map]); ((conv => whnf); (repeat ((first | with_reducible refine abr_true rfl ?_ | with_reducible refine abr_false rfl ?_ | with_reducible refine abr_yes rfl ?_ | refine abr_yes (by decide) ?_ | refine abr_no (by decide) ?_ | with_reducible refine abr_same_ne ?_); (conv => whnf))))))
  refine acall (alive11 τ) ?_
  rintro _ σ_ ⟨rfl, e_⟩
  obtain rfl := e_.symm
  refine ⟨?_, Ext.refl _⟩
  ((conv => whnf); (repeat ((first | with_reducible refine abr_true rfl ?_ | with_reducible refine abr_false rfl ?_ | with_reducible refine abr_yes rfl ?_ | refine abr_yes (by decide) ?_ | refine abr_no (by decide) ?_ | with_reducible refine abr_same_ne ?_); (conv => whnf))))
  (repeat ((first | refine afit_i64 (by omega) ?_ | refine arem_nonneg (by omega) (by omega) ?_ | refine adiv_i64 (by omega) (by omega) ?_ | refine abr_yes (by omega) ?_ | refine abr_no (by omega) ?_ | refine amin ?_ | refine amax ?_ | refine afit_u64 (by omega) ?_ | refine afit_u8 (by omega) ?_ | refine acell rfl ?_ | refine acellA ?_ | refine hload H (k := 0) rfl rfl ?_ | refine hloadA H (k := 0) rfl ?_ | refine hload H (k := 1) rfl rfl ?_ | refine hloadA H (k := 1) rfl ?_ | refine hload H (k := 2) rfl rfl ?_ | refine hloadA H (k := 2) rfl ?_ | refine hload H (k := 3) rfl rfl ?_ | refine hloadA H (k := 3) rfl ?_ | refine hload H (k := 4) rfl rfl ?_ | refine hloadA H (k := 4) rfl ?_ | refine hload H (k := 5) rfl rfl ?_ | refine hloadA H (k := 5) rfl ?_ | refine hload H (k := 6) rfl rfl ?_ | refine hloadA H (k := 6) rfl ?_ | refine hload H (k := 7) rfl rfl ?_ | refine hloadA H (k := 7) rfl ?_ | refine hload H (k := 8) rfl rfl ?_ | refine hloadA H (k := 8) rfl ?_ | refine hload H (k := 9) rfl rfl ?_ | refine hloadA H (k := 9) rfl ?_ | (refine hstore H (k := 0) rfl rfl ?_; (conv => whnf); clear H; intro τ H) | (refine hstore H (k := 1) rfl rfl ?_; (conv => whnf); clear H; intro τ H) | (refine hstore H (k := 2) rfl rfl ?_; (conv => whnf); clear H; intro τ H) | (refine hstore H (k := 3) rfl rfl ?_; (conv => whnf); clear H; intro τ H) | (refine hstore H (k := 4) rfl rfl ?_; (conv => whnf); clear H; intro τ H) | (refine hstore H (k := 5) rfl rfl ?_; (conv => whnf); clear H; intro τ H) | (refine hstore H (k := 6) rfl rfl ?_; (conv => whnf); clear H; intro τ H) | (refine hstore H (k := 7) rfl rfl ?_; (conv => whnf); clear H; intro τ H) | (refine hstore H (k := 8) rfl rfl ?_; (conv => whnf); clear H; intro τ H) | (refine hstore H (k := 9) rfl rfl ?_; (conv => whnf); clear H; intro τ H) | rw [List.length_map]); ((conv => whnf); (repeat ((first | with_reducible refine abr_true rfl ?_ | with_reducible refine abr_false rfl ?_ | with_reducible refine abr_yes rfl ?_ | refine abr_yes (by decide) ?_ | refine abr_no (by decide) ?_ | with_reducible refine abr_same_ne ?_); (conv => whnf))))))
  refine acall (tAs (ack, l) .none τ (by dsimp only; omega)) ?_
  rintro _ σ_ ⟨rfl, e_⟩
  obtain rfl := e_.symm
  refine ⟨?_, Ext.refl _⟩
  ((conv => whnf); (repeat ((first | with_reducible refine abr_true rfl ?_ | with_reducible refine abr_false rfl ?_ | with_reducible refine abr_yes rfl ?_ | refine abr_yes (by decide) ?_ | refine abr_no (by decide) ?_ | with_reducible refine abr_same_ne ?_); (conv => whnf))))
  (repeat ((first | refine afit_i64 (by omega) ?_ | refine arem_nonneg (by omega) (by omega) ?_ | refine adiv_i64 (by omega) (by omega) ?_ | refine abr_yes (by omega) ?_ | refine abr_no (by omega) ?_ | refine amin ?_ | refine amax ?_ | refine afit_u64 (by omega) ?_ | refine afit_u8 (by omega) ?_ | refine acell rfl ?_ | refine acellA ?_ | refine hload H (k := 0) rfl rfl ?_ | refine hloadA H (k := 0) rfl ?_ | refine hload H (k := 1) rfl rfl ?_ | refine hloadA H (k := 1) rfl ?_ | refine hload H (k := 2) rfl rfl ?_ | refine hloadA H (k := 2) rfl ?_ | refine hload H (k := 3) rfl rfl ?_ | refine hloadA H (k := 3) rfl ?_ | refine hload H (k := 4) rfl rfl ?_ | refine hloadA H (k := 4) rfl ?_ | refine hload H (k := 5) rfl rfl ?_ | refine hloadA H (k := 5) rfl ?_ | refine hload H (k := 6) rfl rfl ?_ | refine hloadA H (k := 6) rfl ?_ | refine hload H (k := 7) rfl rfl ?_ | refine hloadA H (k := 7) rfl ?_ | refine hload H (k := 8) rfl rfl ?_ | refine hloadA H (k := 8) rfl ?_ | refine hload H (k := 9) rfl rfl ?_ | refine hloadA H (k := 9) rfl ?_ | (refine hstore H (k := 0) rfl rfl ?_; (conv => whnf); clear H; intro τ H) | (refine hstore H (k := 1) rfl rfl ?_; (conv => whnf); clear H; intro τ H) | (refine hstore H (k := 2) rfl rfl ?_; (conv => whnf); clear H; intro τ H) | (refine hstore H (k := 3) rfl rfl ?_; (conv => whnf); clear H; intro τ H) | (refine hstore H (k := 4) rfl rfl ?_; (conv => whnf); clear H; intro τ H) | (refine hstore H (k := 5) rfl rfl ?_; (conv => whnf); clear H; intro τ H) | (refine hstore H (k := 6) rfl rfl ?_; (conv => whnf); clear H; intro τ H) | (refine hstore H (k := 7) rfl rfl ?_; (conv => whnf); clear H; intro τ H) | (refine hstore H (k := 8) rfl rfl ?_; (conv => whnf); clear H; intro τ H) | (refine hstore H (k := 9) rfl rfl ?_; (conv => whnf); clear H; intro τ H) | rw [List.length_map]); ((conv => whnf); (repeat ((first | with_reducible refine abr_true rfl ?_ | with_reducible refine abr_false rfl ?_ | with_reducible refine abr_yes rfl ?_ | refine abr_yes (by decide) ?_ | refine abr_no (by decide) ?_ | with_reducible refine abr_same_ne ?_); (conv => whnf))))))
  refine acall (refSame (ack, l) (ack, l) .none .none τ (by dsimp only; omega)) ?_
  rintro _ σ_ ⟨rfl, e_⟩
  obtain rfl := e_.symm
  refine ⟨?_, Ext.refl _⟩
  ((conv => whnf); (repeat ((first | with_reducible refine abr_true rfl ?_ | with_reducible refine abr_false rfl ?_ | with_reducible refine abr_yes rfl ?_ | refine abr_yes (by decide) ?_ | refine abr_no (by decide) ?_ | with_reducible refine abr_same_ne ?_); (conv => whnf))))
  exact aret (VLe.refl _) H.sub ⟨congrArg boolv (decide_eq_true rfl), rfl⟩
end Go.Proofs.Ytnfdgccmpglbhaa
/-
  Statuses there and back: the law.
-/
namespace Go.Proofs.Ytnfdgccmpglbhaa
set_option linter.unusedVariables false
set_option linter.unusedSimpArgs false
open Go Go.Am

set_option maxRecDepth 20000 in
set_option maxHeartbeats 2000000 in
theorem StatusBack (s : Int × List Ms) (b : List UInt8) (w : Int) (σ : AHeap) (hs : s.2.length * 32 ≤ 140737488351232) : ACalls Try.prog i_bowlinelaw11_StatusBack [stV .none s, sl .none b, i64v w] σ fun v σ' => v = boolv true ∧ σ' = σ := by
  obtain ⟨sa, sl'⟩ := s
  dsimp only at hs
  have hl1 : sl'.length ≤ 9223372036854775807 := by omega
  show ACalls Try.prog _ [.agg [i64v sa, missV .none sl'], sl .none b, i64v w] σ _
  refine k_bowlinelaw11_StatusBack rfl ?_
  have H := Hp.nil σ
  ((conv => whnf); (repeat ((first | with_reducible refine abr_true rfl ?_ | with_reducible refine abr_false rfl ?_ | with_reducible refine abr_yes rfl ?_ | refine abr_yes (by decide) ?_ | refine abr_no (by decide) ?_ | with_reducible refine abr_same_ne ?_); (conv => whnf))))
  refine hnew H rfl ?_
  clear H
  intro i3 τ H
  ((conv => whnf); (repeat ((first | with_reducible refine abr_true rfl ?_ | with_reducible refine abr_false rfl ?_ | with_reducible refine abr_yes rfl ?_ | refine abr_yes (by decide) ?_ | refine abr_no (by decide) ?_ | with_reducible refine abr_same_ne ?_); (conv => whnf))))
  (repeat ((first | refine afit_i64 (by omega) ?_ | refine arem_nonneg (by omega) (by omega) ?_ | refine adiv_i64 (by omega) (by omega) ?_ | refine abr_yes (by omega) ?_ | refine abr_no (by omega) ?_ | refine amin ?_ | refine amax ?_ | refine afit_u64 (by omega) ?_ | refine afit_u8 (by omega) ?_ | refine acell rfl ?_ | refine acellA ?_ | refine hload H (k := 0) rfl rfl ?_ | refine hloadA H (k := 0) rfl ?_ | refine hload H (k := 1) rfl rfl ?_ | refine hloadA H (k := 1) rfl ?_ | refine hload H (k := 2) rfl rfl ?_ | refine hloadA H (k := 2) rfl ?_ | refine hload H (k := 3) rfl rfl ?_ | refine hloadA H (k := 3) rfl ?_ | refine hload H (k := 4) rfl rfl ?_ | refine hloadA H (k := 4) rfl ?_ | refine hload H (k := 5) rfl rfl ?_ | refine hloadA H (k := 5) rfl ?_ | refine hload H (k := 6) rfl rfl ?_ | refine hloadA H (k := 6) rfl ?_ | refine hload H (k := 7) rfl rfl ?_ | refine hloadA H (k := 7) rfl ?_ | refine hload H (k := 8) rfl rfl ?_ | refine hloadA H (k := 8) rfl ?_ | refine hload H (k := 9) rfl rfl ?_ | refine hloadA H (k := 9) rfl ?_ | (refine hstore H (k := 0) rfl rfl ?_; (conv => whnf); clear H; intro τ H) | (refine hstore H (k := 1) rfl rfl ?_; (conv => whnf); clear H; intro τ H) | (refine hstore H (k := 2) rfl rfl ?_; (conv => whnf); clear H; intro τ H) | (refine hstore H (k := 3) rfl rfl ?_; (conv => whnf); clear H; intro τ H) | (refine hstore H (k := 4) rfl rfl ?_; (conv => whnf); clear H; intro τ H) | (refine hstore H (k := 5) rfl rfl ?_; (conv => whnf); clear H; intro τ H) | (refine hstore H (k := 6) rfl rfl ?_; (conv => whnf); clear H; intro τ H) | (refine hstore H (k := 7) rfl rfl ?_; (conv => whnf); clear H; intro τ H) | (refine hstore H (k := 8) rfl rfl ?_; (conv => whnf); clear H; intro τ H) | (refine hstore H (k := 9) rfl rfl ?_; (conv => whnf); clear H; intro τ H) | rw [List.length_map]); ((conv => whnf); (repeat ((first | with_reducible refine abr_true rfl ?_ | with_reducible refine abr_false rfl ?_ | with_reducible refine abr_yes rfl ?_ | refine abr_yes (by decide) ?_ | refine abr_no (by decide) ?_ | with_reducible refine abr_same_ne ?_); (conv => whnf))))))
  by_cases c1 : sl'.length > 60
  · (repeat ((first | refine afit_i64 (by omega) ?_ | refine arem_nonneg (by omega) (by omega) ?_ | refine adiv_i64 (by omega) (by omega) ?_ | refine abr_yes (by omega) ?_ | refine abr_no (by omega) ?_ | refine amin ?_ | refine amax ?_ | refine afit_u64 (by omega) ?_ | refine afit_u8 (by omega) ?_ | refine acell rfl ?_ | refine acellA ?_ | refine hload H (k := 0) rfl rfl ?_ | refine hloadA H (k := 0) rfl ?_ | refine hload H (k := 1) rfl rfl ?_ | refine hloadA H (k := 1) rfl ?_ | refine hload H (k := 2) rfl rfl ?_ | refine hloadA H (k := 2) rfl ?_ | refine hload H (k := 3) rfl rfl ?_ | refine hloadA H (k := 3) rfl ?_ | refine hload H (k := 4) rfl rfl ?_ | refine hloadA H (k := 4) rfl ?_ | refine hload H (k := 5) rfl rfl ?_ | refine hloadA H (k := 5) rfl ?_ | refine hload H (k := 6) rfl rfl ?_ | refine hloadA H (k := 6) rfl ?_ | refine hload H (k := 7) rfl rfl ?_ | refine hloadA H (k := 7) rfl ?_ | refine hload H (k := 8) rfl rfl ?_ | refine hloadA H (k := 8) rfl ?_ | refine hload H (k := 9) rfl rfl ?_ | refine hloadA H (k := 9) rfl ?_ | (refine hstore H (k := 0) rfl rfl ?_; (conv => whnf); clear H; intro τ H) | (refine hstore H (k := 1) rfl rfl ?_; (conv => whnf); clear H; intro τ H) | (refine hstore H (k := 2) rfl rfl ?_; (conv => whnf); clear H; intro τ H) | (refine hstore H (k := 3) rfl rfl ?_; (conv => whnf); clear H; intro τ H) | (refine hstore H (k := 4) rfl rfl ?_; (conv => whnf); clear H; intro τ H) | (refine hstore H (k := 5) rfl rfl ?_; (conv => whnf); clear H; intro τ H) | (refine hstore H (k := 6) rfl rfl ?_; (conv => whnf); clear H; intro τ H) | (refine hstore H (k := 7) rfl rfl ?_; (conv => whnf); clear H; intro τ H) | (refine hstore H (k := 8) rfl rfl ?_; (conv => whnf); clear H; intro τ H) | (refine hstore H (k := 9) rfl rfl ?_; (conv => whnf); clear H; intro τ H) | rw [List.length_map]); ((conv => whnf); (repeat ((first | with_reducible refine abr_true rfl ?_ | with_reducible refine abr_false rfl ?_ | with_reducible refine abr_yes rfl ?_ | refine abr_yes (by decide) ?_ | refine abr_no (by decide) ?_ | with_reducible refine abr_same_ne ?_); (conv => whnf))))))
    refine acall (alive11 τ) ?_
    rintro _ σ_ ⟨rfl, e_⟩
    obtain rfl := e_.symm
    refine ⟨?_, Ext.refl _⟩
    ((conv => whnf); (repeat ((first | with_reducible refine abr_true rfl ?_ | with_reducible refine abr_false rfl ?_ | with_reducible refine abr_yes rfl ?_ | refine abr_yes (by decide) ?_ | refine abr_no (by decide) ?_ | with_reducible refine abr_same_ne ?_); (conv => whnf))))
    exact aret (VLe.refl _) H.sub ⟨rfl, rfl⟩
  (repeat ((first | refine afit_i64 (by omega) ?_ | refine arem_nonneg (by omega) (by omega) ?_ | refine adiv_i64 (by omega) (by omega) ?_ | refine abr_yes (by omega) ?_ | refine abr_no (by omega) ?_ | refine amin ?_ | refine amax ?_ | refine afit_u64 (by omega) ?_ | refine afit_u8 (by omega) ?_ | refine acell rfl ?_ | refine acellA ?_ | refine hload H (k := 0) rfl rfl ?_ | refine hloadA H (k := 0) rfl ?_ | refine hload H (k := 1) rfl rfl ?_ | refine hloadA H (k := 1) rfl ?_ | refine hload H (k := 2) rfl rfl ?_ | refine hloadA H (k := 2) rfl ?_ | refine hload H (k := 3) rfl rfl ?_ | refine hloadA H (k := 3) rfl ?_ | refine hload H (k := 4) rfl rfl ?_ | refine hloadA H (k := 4) rfl ?_ | refine hload H (k := 5) rfl rfl ?_ | refine hloadA H (k := 5) rfl ?_ | refine hload H (k := 6) rfl rfl ?_ | refine hloadA H (k := 6) rfl ?_ | refine hload H (k := 7) rfl rfl ?_ | refine hloadA H (k := 7) rfl ?_ | refine hload H (k := 8) rfl rfl ?_ | refine hloadA H (k := 8) rfl ?_ | refine hload H (k := 9) rfl rfl ?_ | refine hloadA H (k := 9) rfl ?_ | (refine hstore H (k := 0) rfl rfl ?_; (conv => whnf); clear H; intro τ H) | (refine hstore H (k := 1) rfl rfl ?_; (conv => whnf); clear H; intro τ H) | (refine hstore H (k := 2) rfl rfl ?_; (conv => whnf); clear H; intro τ H) | (refine hstore H (k := 3) rfl rfl ?_; (conv => whnf); clear H; intro τ H) | (refine hstore H (k := 4) rfl rfl ?_; (conv => whnf); clear H; intro τ H) | (refine hstore H (k := 5) rfl rfl ?_; (conv => whnf); clear H; intro τ H) | (refine hstore H (k := 6) rfl rfl ?_; (conv => whnf); clear H; intro τ H) | (refine hstore H (k := 7) rfl rfl ?_; (conv => whnf); clear H; intro τ H) | (refine hstore H (k := 8) rfl rfl ?_; (conv => whnf); clear H; intro τ H) | (refine hstore H (k := 9) rfl rfl ?_; (conv => whnf); clear H; intro τ H) | rw [List.length_map]); ((conv => whnf); (repeat ((first | with_reducible refine abr_true rfl ?_ | with_reducible refine abr_false rfl ?_ | with_reducible refine abr_yes rfl ?_ | refine abr_yes (by decide) ?_ | refine abr_no (by decide) ?_ | with_reducible refine abr_same_ne ?_); (conv => whnf))))))
  by_cases c2 : b.length > 400
  · (repeat ((first | refine afit_i64 (by omega) ?_ | refine arem_nonneg (by omega) (by omega) ?_ | refine adiv_i64 (by omega) (by omega) ?_ | refine abr_yes (by omega) ?_ | refine abr_no (by omega) ?_ | refine amin ?_ | refine amax ?_ | refine afit_u64 (by omega) ?_ | refine afit_u8 (by omega) ?_ | refine acell rfl ?_ | refine acellA ?_ | refine hload H (k := 0) rfl rfl ?_ | refine hloadA H (k := 0) rfl ?_ | refine hload H (k := 1) rfl rfl ?_ | refine hloadA H (k := 1) rfl ?_ | refine hload H (k := 2) rfl rfl ?_ | refine hloadA H (k := 2) rfl ?_ | refine hload H (k := 3) rfl rfl ?_ | refine hloadA H (k := 3) rfl ?_ | refine hload H (k := 4) rfl rfl ?_ | refine hloadA H (k := 4) rfl ?_ | refine hload H (k := 5) rfl rfl ?_ | refine hloadA H (k := 5) rfl ?_ | refine hload H (k := 6) rfl rfl ?_ | refine hloadA H (k := 6) rfl ?_ | refine hload H (k := 7) rfl rfl ?_ | refine hloadA H (k := 7) rfl ?_ | refine hload H (k := 8) rfl rfl ?_ | refine hloadA H (k := 8) rfl ?_ | refine hload H (k := 9) rfl rfl ?_ | refine hloadA H (k := 9) rfl ?_ | (refine hstore H (k := 0) rfl rfl ?_; (conv => whnf); clear H; intro τ H) | (refine hstore H (k := 1) rfl rfl ?_; (conv => whnf); clear H; intro τ H) | (refine hstore H (k := 2) rfl rfl ?_; (conv => whnf); clear H; intro τ H) | (refine hstore H (k := 3) rfl rfl ?_; (conv => whnf); clear H; intro τ H) | (refine hstore H (k := 4) rfl rfl ?_; (conv => whnf); clear H; intro τ H) | (refine hstore H (k := 5) rfl rfl ?_; (conv => whnf); clear H; intro τ H) | (refine hstore H (k := 6) rfl rfl ?_; (conv => whnf); clear H; intro τ H) | (refine hstore H (k := 7) rfl rfl ?_; (conv => whnf); clear H; intro τ H) | (refine hstore H (k := 8) rfl rfl ?_; (conv => whnf); clear H; intro τ H) | (refine hstore H (k := 9) rfl rfl ?_; (conv => whnf); clear H; intro τ H) | rw [List.length_map]); ((conv => whnf); (repeat ((first | with_reducible refine abr_true rfl ?_ | with_reducible refine abr_false rfl ?_ | with_reducible refine abr_yes rfl ?_ | refine abr_yes (by decide) ?_ | refine abr_no (by decide) ?_ | with_reducible refine abr_same_ne ?_); (conv => whnf))))))
    refine acall (alive11 τ) ?_
    rintro _ σ_ ⟨rfl, e_⟩
    obtain rfl := e_.symm
    refine ⟨?_, Ext.refl _⟩
    ((conv => whnf); (repeat ((first | with_reducible refine abr_true rfl ?_ | with_reducible refine abr_false rfl ?_ | with_reducible refine abr_yes rfl ?_ | refine abr_yes (by decide) ?_ | refine abr_no (by decide) ?_ | with_reducible refine abr_same_ne ?_); (conv => whnf))))
    exact aret (VLe.refl _) H.sub ⟨rfl, rfl⟩
  (repeat ((first | refine afit_i64 (by omega) ?_ | refine arem_nonneg (by omega) (by omega) ?_ | refine adiv_i64 (by omega) (by omega) ?_ | refine abr_yes (by omega) ?_ | refine abr_no (by omega) ?_ | refine amin ?_ | refine amax ?_ | refine afit_u64 (by omega) ?_ | refine afit_u8 (by omega) ?_ | refine acell rfl ?_ | refine acellA ?_ | refine hload H (k := 0) rfl rfl ?_ | refine hloadA H (k := 0) rfl ?_ | refine hload H (k := 1) rfl rfl ?_ | refine hloadA H (k := 1) rfl ?_ | refine hload H (k := 2) rfl rfl ?_ | refine hloadA H (k := 2) rfl ?_ | refine hload H (k := 3) rfl rfl ?_ | refine hloadA H (k := 3) rfl ?_ | refine hload H (k := 4) rfl rfl ?_ | refine hloadA H (k := 4) rfl ?_ | refine hload H (k := 5) rfl rfl ?_ | refine hloadA H (k := 5) rfl ?_ | refine hload H (k := 6) rfl rfl ?_ | refine hloadA H (k := 6) rfl ?_ | refine hload H (k := 7) rfl rfl ?_ | refine hloadA H (k := 7) rfl ?_ | refine hload H (k := 8) rfl rfl ?_ | refine hloadA H (k := 8) rfl ?_ | refine hload H (k := 9) rfl rfl ?_ | refine hloadA H (k := 9) rfl ?_ | (refine hstore H (k := 0) rfl rfl ?_; (conv => whnf); clear H; intro τ H) | (refine hstore H (k := 1) rfl rfl ?_; (conv => whnf); clear H; intro τ H) | (refine hstore H (k := 2) rfl rfl ?_; (conv => whnf); clear H; intro τ H) | (refine hstore H (k := 3) rfl rfl ?_; (conv => whnf); clear H; intro τ H) | (refine hstore H (k := 4) rfl rfl ?_; (conv => whnf); clear H; intro τ H) | (refine hstore H (k := 5) rfl rfl ?_; (conv => whnf); clear H; intro τ H) | (refine hstore H (k := 6) rfl rfl ?_; (conv => whnf); clear H; intro τ H) | (refine hstore H (k := 7) rfl rfl ?_; (conv => whnf); clear H; intro τ H) | (refine hstore H (k := 8) rfl rfl ?_; (conv => whnf); clear H; intro τ H) | (refine hstore H (k := 9) rfl rfl ?_; (conv => whnf); clear H; intro τ H) | rw [List.length_map]); ((conv => whnf); (repeat ((first | with_reducible refine abr_true rfl ?_ | with_reducible refine abr_false rfl ?_ | with_reducible refine abr_yes rfl ?_ | refine abr_yes (by decide) ?_ | refine abr_no (by decide) ?_ | with_reducible refine abr_same_ne ?_); (conv => whnf))))))
  refine acall (tWrite (sa, sl') .none w τ hl1) ?_
  rintro _ σ_ ⟨rfl, e_⟩
  obtain rfl := e_.symm
  refine ⟨?_, Ext.refl _⟩
  ((conv => whnf); (repeat ((first | with_reducible refine abr_true rfl ?_ | with_reducible refine abr_false rfl ?_ | with_reducible refine abr_yes rfl ?_ | refine abr_yes (by decide) ?_ | refine abr_no (by decide) ?_ | with_reducible refine abr_same_ne ?_); (conv => whnf))))
  have hwl : (writeSt w (sa, sl')).length ≤ 8000 := by
    unfold writeSt
    by_cases h : stOk w (sa, sl') = true
    · rw [if_pos h, pack_length]
      obtain ⟨hw, _, hl, _⟩ := stOk_parts h
      have h1 := stBits_length (w := w) (by omega) (sa, sl')
      have h2 := mssLen_le (w := w) (by omega) sl'
      dsimp only at h1 hl
      omega
    · rw [if_neg h]; exact Nat.zero_le _
  have hlen := dRead_len w b
  refine Or.elim (Classical.em (stOk w (sa, sl') = true)) (fun hok => ?_) (fun hok => ?_)
  have hws : stWidth w = true := stWidth_iff.2 (stOk_parts hok).1
  rw [show writeCode w (sa, sl') = 0 by unfold writeCode; rw [hws, hok]; rfl]
  rw [show writeSt w (sa, sl') = pack (stBits w (sa, sl')) by unfold writeSt; rw [hok]; rfl] at hwl ⊢
  have hsz : sizeSt w (sa, sl') = ((pack (stBits w (sa, sl'))).length : Int) := by
    obtain ⟨hw, _, hl, _⟩ := stOk_parts hok
    have h1 := stBits_length (w := w) (by omega) (sa, sl')
    unfold sizeSt; rw [if_pos hok, pack_length, ← h1]; omega
  ((conv => whnf); (repeat ((first | with_reducible refine abr_true rfl ?_ | with_reducible refine abr_false rfl ?_ | with_reducible refine abr_yes rfl ?_ | refine abr_yes (by decide) ?_ | refine abr_no (by decide) ?_ | with_reducible refine abr_same_ne ?_); (conv => whnf))))
  refine acall (tRead (pack (stBits w (sa, sl'))) .none w τ hwl) ?_
  rintro _ σ_ ⟨rfl, e_⟩
  obtain rfl := e_.symm
  refine ⟨?_, Ext.refl _⟩
  ((conv => whnf); (repeat ((first | with_reducible refine abr_true rfl ?_ | with_reducible refine abr_false rfl ?_ | with_reducible refine abr_yes rfl ?_ | refine abr_yes (by decide) ?_ | refine abr_no (by decide) ?_ | with_reducible refine abr_same_ne ?_); (conv => whnf))))
  rw [read_same, read_out hok]
  ((conv => whnf); (repeat ((first | with_reducible refine abr_true rfl ?_ | with_reducible refine abr_false rfl ?_ | with_reducible refine abr_yes rfl ?_ | refine abr_yes (by decide) ?_ | refine abr_no (by decide) ?_ | with_reducible refine abr_same_ne ?_); (conv => whnf))))
  refine hnew H rfl ?_
  clear H
  intro i9 τ H
  ((conv => whnf); (repeat ((first | with_reducible refine abr_true rfl ?_ | with_reducible refine abr_false rfl ?_ | with_reducible refine abr_yes rfl ?_ | refine abr_yes (by decide) ?_ | refine abr_no (by decide) ?_ | with_reducible refine abr_same_ne ?_); (conv => whnf))))
  (repeat ((first | refine afit_i64 (by omega) ?_ | refine arem_nonneg (by omega) (by omega) ?_ | refine adiv_i64 (by omega) (by omega) ?_ | refine abr_yes (by omega) ?_ | refine abr_no (by omega) ?_ | refine amin ?_ | refine amax ?_ | refine afit_u64 (by omega) ?_ | refine afit_u8 (by omega) ?_ | refine acell rfl ?_ | refine acellA ?_ | refine hload H (k := 0) rfl rfl ?_ | refine hloadA H (k := 0) rfl ?_ | refine hload H (k := 1) rfl rfl ?_ | refine hloadA H (k := 1) rfl ?_ | refine hload H (k := 2) rfl rfl ?_ | refine hloadA H (k := 2) rfl ?_ | refine hload H (k := 3) rfl rfl ?_ | refine hloadA H (k := 3) rfl ?_ | refine hload H (k := 4) rfl rfl ?_ | refine hloadA H (k := 4) rfl ?_ | refine hload H (k := 5) rfl rfl ?_ | refine hloadA H (k := 5) rfl ?_ | refine hload H (k := 6) rfl rfl ?_ | refine hloadA H (k := 6) rfl ?_ | refine hload H (k := 7) rfl rfl ?_ | refine hloadA H (k := 7) rfl ?_ | refine hload H (k := 8) rfl rfl ?_ | refine hloadA H (k := 8) rfl ?_ | refine hload H (k := 9) rfl rfl ?_ | refine hloadA H (k := 9) rfl ?_ | (refine hstore H (k := 0) rfl rfl ?_; (conv => whnf); clear H; intro τ H) | (refine hstore H (k := 1) rfl rfl ?_; (conv => whnf); clear H; intro τ H) | (refine hstore H (k := 2) rfl rfl ?_; (conv => whnf); clear H; intro τ H) | (refine hstore H (k := 3) rfl rfl ?_; (conv => whnf); clear H; intro τ H) | (refine hstore H (k := 4) rfl rfl ?_; (conv => whnf); clear H; intro τ H) | (refine hstore H (k := 5) rfl rfl ?_; (conv => whnf); clear H; intro τ H) | (refine hstore H (k := 6) rfl rfl ?_; (conv => whnf); clear H; intro τ H) | (refine hstore H (k := 7) rfl rfl ?_; (conv => whnf); clear H; intro τ H) | (refine hstore H (k := 8) rfl rfl ?_; (conv => whnf); clear H; intro τ H) | (refine hstore H (k := 9) rfl rfl ?_; (conv => whnf); clear H; intro τ H) | rw [List.length_map]); ((conv => whnf); (repeat ((first | with_reducible refine abr_true rfl ?_ | with_reducible refine abr_false rfl ?_ | with_reducible refine abr_yes rfl ?_ | refine abr_yes (by decide) ?_ | refine abr_no (by decide) ?_ | with_reducible refine abr_same_ne ?_); (conv => whnf))))))
  refine acall (tAs (sa, sl') .none τ hs) ?_
  rintro _ σ_ ⟨rfl, e_⟩
  obtain rfl := e_.symm
  refine ⟨?_, Ext.refl _⟩
  ((conv => whnf); (repeat ((first | with_reducible refine abr_true rfl ?_ | with_reducible refine abr_false rfl ?_ | with_reducible refine abr_yes rfl ?_ | refine abr_yes (by decide) ?_ | refine abr_no (by decide) ?_ | with_reducible refine abr_same_ne ?_); (conv => whnf))))
  refine acall (tAs (sa, sl') .none τ hs) ?_
  rintro _ σ_ ⟨rfl, e_⟩
  obtain rfl := e_.symm
  refine ⟨?_, Ext.refl _⟩
  ((conv => whnf); (repeat ((first | with_reducible refine abr_true rfl ?_ | with_reducible refine abr_false rfl ?_ | with_reducible refine abr_yes rfl ?_ | refine abr_yes (by decide) ?_ | refine abr_no (by decide) ?_ | with_reducible refine abr_same_ne ?_); (conv => whnf))))
  refine acall (refSame (sa, sl') (sa, sl') .none .none τ hl1) ?_
  rintro _ σ_ ⟨rfl, e_⟩
  obtain rfl := e_.symm
  refine ⟨?_, Ext.refl _⟩
  ((conv => whnf); (repeat ((first | with_reducible refine abr_true rfl ?_ | with_reducible refine abr_false rfl ?_ | with_reducible refine abr_yes rfl ?_ | refine abr_yes (by decide) ?_ | refine abr_no (by decide) ?_ | with_reducible refine abr_same_ne ?_); (conv => whnf))))
  rw [decide_eq_true (rfl : (sa, sl') = (sa, sl'))]
  ((conv => whnf); (repeat ((first | with_reducible refine abr_true rfl ?_ | with_reducible refine abr_false rfl ?_ | with_reducible refine abr_yes rfl ?_ | refine abr_yes (by decide) ?_ | refine abr_no (by decide) ?_ | with_reducible refine abr_same_ne ?_); (conv => whnf))))
  (repeat ((first | refine afit_i64 (by omega) ?_ | refine arem_nonneg (by omega) (by omega) ?_ | refine adiv_i64 (by omega) (by omega) ?_ | refine abr_yes (by omega) ?_ | refine abr_no (by omega) ?_ | refine amin ?_ | refine amax ?_ | refine afit_u64 (by omega) ?_ | refine afit_u8 (by omega) ?_ | refine acell rfl ?_ | refine acellA ?_ | refine hload H (k := 0) rfl rfl ?_ | refine hloadA H (k := 0) rfl ?_ | refine hload H (k := 1) rfl rfl ?_ | refine hloadA H (k := 1) rfl ?_ | refine hload H (k := 2) rfl rfl ?_ | refine hloadA H (k := 2) rfl ?_ | refine hload H (k := 3) rfl rfl ?_ | refine hloadA H (k := 3) rfl ?_ | refine hload H (k := 4) rfl rfl ?_ | refine hloadA H (k := 4) rfl ?_ | refine hload H (k := 5) rfl rfl ?_ | refine hloadA H (k := 5) rfl ?_ | refine hload H (k := 6) rfl rfl ?_ | refine hloadA H (k := 6) rfl ?_ | refine hload H (k := 7) rfl rfl ?_ | refine hloadA H (k := 7) rfl ?_ | refine hload H (k := 8) rfl rfl ?_ | refine hloadA H (k := 8) rfl ?_ | refine hload H (k := 9) rfl rfl ?_ | refine hloadA H (k := 9) rfl ?_ | (refine hstore H (k := 0) rfl rfl ?_; (conv => whnf); clear H; intro τ H) | (refine hstore H (k := 1) rfl rfl ?_; (conv => whnf); clear H; intro τ H) | (refine hstore H (k := 2) rfl rfl ?_; (conv => whnf); clear H; intro τ H) | (refine hstore H (k := 3) rfl rfl ?_; (conv => whnf); clear H; intro τ H) | (refine hstore H (k := 4) rfl rfl ?_; (conv => whnf); clear H; intro τ H) | (refine hstore H (k := 5) rfl rfl ?_; (conv => whnf); clear H; intro τ H) | (refine hstore H (k := 6) rfl rfl ?_; (conv => whnf); clear H; intro τ H) | (refine hstore H (k := 7) rfl rfl ?_; (conv => whnf); clear H; intro τ H) | (refine hstore H (k := 8) rfl rfl ?_; (conv => whnf); clear H; intro τ H) | (refine hstore H (k := 9) rfl rfl ?_; (conv => whnf); clear H; intro τ H) | rw [List.length_map]); ((conv => whnf); (repeat ((first | with_reducible refine abr_true rfl ?_ | with_reducible refine abr_false rfl ?_ | with_reducible refine abr_yes rfl ?_ | refine abr_yes (by decide) ?_ | refine abr_no (by decide) ?_ | with_reducible refine abr_same_ne ?_); (conv => whnf))))))
  refine acall (tSize (sa, sl') .none w τ hl1) ?_
  rintro _ σ_ ⟨rfl, e_⟩
  obtain rfl := e_.symm
  refine ⟨?_, Ext.refl _⟩
  ((conv => whnf); (repeat ((first | with_reducible refine abr_true rfl ?_ | with_reducible refine abr_false rfl ?_ | with_reducible refine abr_yes rfl ?_ | refine abr_yes (by decide) ?_ | refine abr_no (by decide) ?_ | with_reducible refine abr_same_ne ?_); (conv => whnf))))
  rw [hsz]
  (repeat ((first | refine afit_i64 (by omega) ?_ | refine arem_nonneg (by omega) (by omega) ?_ | refine adiv_i64 (by omega) (by omega) ?_ | refine abr_yes (by omega) ?_ | refine abr_no (by omega) ?_ | refine amin ?_ | refine amax ?_ | refine afit_u64 (by omega) ?_ | refine afit_u8 (by omega) ?_ | refine acell rfl ?_ | refine acellA ?_ | refine hload H (k := 0) rfl rfl ?_ | refine hloadA H (k := 0) rfl ?_ | refine hload H (k := 1) rfl rfl ?_ | refine hloadA H (k := 1) rfl ?_ | refine hload H (k := 2) rfl rfl ?_ | refine hloadA H (k := 2) rfl ?_ | refine hload H (k := 3) rfl rfl ?_ | refine hloadA H (k := 3) rfl ?_ | refine hload H (k := 4) rfl rfl ?_ | refine hloadA H (k := 4) rfl ?_ | refine hload H (k := 5) rfl rfl ?_ | refine hloadA H (k := 5) rfl ?_ | refine hload H (k := 6) rfl rfl ?_ | refine hloadA H (k := 6) rfl ?_ | refine hload H (k := 7) rfl rfl ?_ | refine hloadA H (k := 7) rfl ?_ | refine hload H (k := 8) rfl rfl ?_ | refine hloadA H (k := 8) rfl ?_ | refine hload H (k := 9) rfl rfl ?_ | refine hloadA H (k := 9) rfl ?_ | (refine hstore H (k := 0) rfl rfl ?_; (conv => whnf); clear H; intro τ H) | (refine hstore H (k := 1) rfl rfl ?_; (conv => whnf); clear H; intro τ H) | (refine hstore H (k := 2) rfl rfl ?_; (conv => whnf); clear H; intro τ H) | (refine hstore H (k := 3) rfl rfl ?_; (conv => whnf); clear H; intro τ H) | (refine hstore H (k := 4) rfl rfl ?_; (conv => whnf); clear H; intro τ H) | (refine hstore H (k := 5) rfl rfl ?_; (conv => whnf); clear H; intro τ H) | (refine hstore H (k := 6) rfl rfl ?_; (conv => whnf); clear H; intro τ H) | (refine hstore H (k := 7) rfl rfl ?_; (conv => whnf); clear H; intro τ H) | (refine hstore H (k := 8) rfl rfl ?_; (conv => whnf); clear H; intro τ H) | (refine hstore H (k := 9) rfl rfl ?_; (conv => whnf); clear H; intro τ H) | rw [List.length_map]); ((conv => whnf); (repeat ((first | with_reducible refine abr_true rfl ?_ | with_reducible refine abr_false rfl ?_ | with_reducible refine abr_yes rfl ?_ | refine abr_yes (by decide) ?_ | refine abr_no (by decide) ?_ | with_reducible refine abr_same_ne ?_); (conv => whnf))))))
  rotate_left
  have hwc : writeCode w (sa, sl') ≠ 0 := by
    unfold writeCode
    split <;> decide
  refine abr_no hwc ?_
  ((conv => whnf); (repeat ((first | with_reducible refine abr_true rfl ?_ | with_reducible refine abr_false rfl ?_ | with_reducible refine abr_yes rfl ?_ | refine abr_yes (by decide) ?_ | refine abr_no (by decide) ?_ | with_reducible refine abr_same_ne ?_); (conv => whnf))))
  all_goals
    refine acall (tRead b .none w τ (by omega)) ?_
    rintro _ σ_ ⟨rfl, e_⟩
    obtain rfl := e_.symm
    refine ⟨?_, Ext.refl _⟩
    ((conv => whnf); (repeat ((first | with_reducible refine abr_true rfl ?_ | with_reducible refine abr_false rfl ?_ | with_reducible refine abr_yes rfl ?_ | refine abr_yes (by decide) ?_ | refine abr_no (by decide) ?_ | with_reducible refine abr_same_ne ?_); (conv => whnf))))
    rw [read_same]
    generalize hr : dRead w b = r at *
    obtain ⟨⟨ta, tl⟩, c⟩ := r
    dsimp only at hlen
    dsimp only [stRes]
    ((conv => whnf); (repeat ((first | with_reducible refine abr_true rfl ?_ | with_reducible refine abr_false rfl ?_ | with_reducible refine abr_yes rfl ?_ | refine abr_yes (by decide) ?_ | refine abr_no (by decide) ?_ | with_reducible refine abr_same_ne ?_); (conv => whnf))))
    refine hnew H rfl ?_
    clear H
    intro i11 τ H
    ((conv => whnf); (repeat ((first | with_reducible refine abr_true rfl ?_ | with_reducible refine abr_false rfl ?_ | with_reducible refine abr_yes rfl ?_ | refine abr_yes (by decide) ?_ | refine abr_no (by decide) ?_ | with_reducible refine abr_same_ne ?_); (conv => whnf))))
    (repeat ((first | refine afit_i64 (by omega) ?_ | refine arem_nonneg (by omega) (by omega) ?_ | refine adiv_i64 (by omega) (by omega) ?_ | refine abr_yes (by omega) ?_ | refine abr_no (by omega) ?_ | refine amin ?_ | refine amax ?_ | refine afit_u64 (by omega) ?_ | refine afit_u8 (by omega) ?_ | refine acell rfl ?_ | refine acellA ?_ | refine hload H (k := 0) rfl rfl ?_ | refine hloadA H (k := 0) rfl ?_ | refine hload H (k := 1) rfl rfl ?_ | refine hloadA H (k := 1) rfl ?_ | refine hload H (k := 2) rfl rfl ?_ | refine hloadA H (k := 2) rfl ?_ | refine hload H (k := 3) rfl rfl ?_ | refine hloadA H (k := 3) rfl ?_ | refine hload H (k := 4) rfl rfl ?_ | refine hloadA H (k := 4) rfl ?_ | refine hload H (k := 5) rfl rfl ?_ | refine hloadA H (k := 5) rfl ?_ | refine hload H (k := 6) rfl rfl ?_ | refine hloadA H (k := 6) rfl ?_ | refine hload H (k := 7) rfl rfl ?_ | refine hloadA H (k := 7) rfl ?_ | refine hload H (k := 8) rfl rfl ?_ | refine hloadA H (k := 8) rfl ?_ | refine hload H (k := 9) rfl rfl ?_ | refine hloadA H (k := 9) rfl ?_ | (refine hstore H (k := 0) rfl rfl ?_; (conv => whnf); clear H; intro τ H) | (refine hstore H (k := 1) rfl rfl ?_; (conv => whnf); clear H; intro τ H) | (refine hstore H (k := 2) rfl rfl ?_; (conv => whnf); clear H; intro τ H) | (refine hstore H (k := 3) rfl rfl ?_; (conv => whnf); clear H; intro τ H) | (refine hstore H (k := 4) rfl rfl ?_; (conv => whnf); clear H; intro τ H) | (refine hstore H (k := 5) rfl rfl ?_; (conv => whnf); clear H; intro τ H) | (refine hstore H (k := 6) rfl rfl ?_; (conv => whnf); clear H; intro τ H) | (refine hstore H (k := 7) rfl rfl ?_; (conv => whnf); clear H; intro τ H) | (refine hstore H (k := 8) rfl rfl ?_; (conv => whnf); clear H; intro τ H) | (refine hstore H (k := 9) rfl rfl ?_; (conv => whnf); clear H; intro τ H) | rw [List.length_map]); ((conv => whnf); (repeat ((first | with_reducible refine abr_true rfl ?_ | with_reducible refine abr_false rfl ?_ | with_reducible refine abr_yes rfl ?_ | refine abr_yes (by decide) ?_ | refine abr_no (by decide) ?_ | with_reducible refine abr_same_ne ?_); (conv => whnf))))))
    refine acall (tWrite (ta, tl) .none w τ (by dsimp only; omega)) ?_
    rintro _ σ_ ⟨rfl, e_⟩
    obtain rfl := e_.symm
    refine ⟨?_, Ext.refl _⟩
    ((conv => whnf); (repeat ((first | with_reducible refine abr_true rfl ?_ | with_reducible refine abr_false rfl ?_ | with_reducible refine abr_yes rfl ?_ | refine abr_yes (by decide) ?_ | refine abr_no (by decide) ?_ | with_reducible refine abr_same_ne ?_); (conv => whnf))))
    refine acall (alive11 τ) ?_
    rintro _ σ_ ⟨rfl, e_⟩
    obtain rfl := e_.symm
    refine ⟨?_, Ext.refl _⟩
    ((conv => whnf); (repeat ((first | with_reducible refine abr_true rfl ?_ | with_reducible refine abr_false rfl ?_ | with_reducible refine abr_yes rfl ?_ | refine abr_yes (by decide) ?_ | refine abr_no (by decide) ?_ | with_reducible refine abr_same_ne ?_); (conv => whnf))))
    by_cases hc : c = 0
    · obtain ⟨ok, hp⟩ := read_in (by rw [hr, hc])
      have hws : stWidth w = true := stWidth_iff.2 (stOk_parts ok).1
      rw [show writeCode w (ta, tl) = 0 by unfold writeCode; rw [hws, ok]; rfl]
      rw [show writeSt w (ta, tl) = b by unfold writeSt; rw [ok, if_pos rfl, hp]]
      refine abr_no (fun h => h hc) ?_
      ((conv => whnf); (repeat ((first | with_reducible refine abr_true rfl ?_ | with_reducible refine abr_false rfl ?_ | with_reducible refine abr_yes rfl ?_ | refine abr_yes (by decide) ?_ | refine abr_no (by decide) ?_ | with_reducible refine abr_same_ne ?_); (conv => whnf))))
      (repeat ((first | refine afit_i64 (by omega) ?_ | refine arem_nonneg (by omega) (by omega) ?_ | refine adiv_i64 (by omega) (by omega) ?_ | refine abr_yes (by omega) ?_ | refine abr_no (by omega) ?_ | refine amin ?_ | refine amax ?_ | refine afit_u64 (by omega) ?_ | refine afit_u8 (by omega) ?_ | refine acell rfl ?_ | refine acellA ?_ | refine hload H (k := 0) rfl rfl ?_ | refine hloadA H (k := 0) rfl ?_ | refine hload H (k := 1) rfl rfl ?_ | refine hloadA H (k := 1) rfl ?_ | refine hload H (k := 2) rfl rfl ?_ | refine hloadA H (k := 2) rfl ?_ | refine hload H (k := 3) rfl rfl ?_ | refine hloadA H (k := 3) rfl ?_ | refine hload H (k := 4) rfl rfl ?_ | refine hloadA H (k := 4) rfl ?_ | refine hload H (k := 5) rfl rfl ?_ | refine hloadA H (k := 5) rfl ?_ | refine hload H (k := 6) rfl rfl ?_ | refine hloadA H (k := 6) rfl ?_ | refine hload H (k := 7) rfl rfl ?_ | refine hloadA H (k := 7) rfl ?_ | refine hload H (k := 8) rfl rfl ?_ | refine hloadA H (k := 8) rfl ?_ | refine hload H (k := 9) rfl rfl ?_ | refine hloadA H (k := 9) rfl ?_ | (refine hstore H (k := 0) rfl rfl ?_; (conv => whnf); clear H; intro τ H) | (refine hstore H (k := 1) rfl rfl ?_; (conv => whnf); clear H; intro τ H) | (refine hstore H (k := 2) rfl rfl ?_; (conv => whnf); clear H; intro τ H) | (refine hstore H (k := 3) rfl rfl ?_; (conv => whnf); clear H; intro τ H) | (refine hstore H (k := 4) rfl rfl ?_; (conv => whnf); clear H; intro τ H) | (refine hstore H (k := 5) rfl rfl ?_; (conv => whnf); clear H; intro τ H) | (refine hstore H (k := 6) rfl rfl ?_; (conv => whnf); clear H; intro τ H) | (refine hstore H (k := 7) rfl rfl ?_; (conv => whnf); clear H; intro τ H) | (refine hstore H (k := 8) rfl rfl ?_; (conv => whnf); clear H; intro τ H) | (refine hstore H (k := 9) rfl rfl ?_; (conv => whnf); clear H; intro τ H) | rw [List.length_map]); ((conv => whnf); (repeat ((first | with_reducible refine abr_true rfl ?_ | with_reducible refine abr_false rfl ?_ | with_reducible refine abr_yes rfl ?_ | refine abr_yes (by decide) ?_ | refine abr_no (by decide) ?_ | with_reducible refine abr_same_ne ?_); (conv => whnf))))))
      refine acall (tRight (ta, tl) .none w τ (by dsimp only; omega)) ?_
      rintro _ σ_ ⟨rfl, e_⟩
      obtain rfl := e_.symm
      refine ⟨?_, Ext.refl _⟩
      ((conv => whnf); (repeat ((first | with_reducible refine abr_true rfl ?_ | with_reducible refine abr_false rfl ?_ | with_reducible refine abr_yes rfl ?_ | refine abr_yes (by decide) ?_ | refine abr_no (by decide) ?_ | with_reducible refine abr_same_ne ?_); (conv => whnf))))
      rw [ok]
      ((conv => whnf); (repeat ((first | with_reducible refine abr_true rfl ?_ | with_reducible refine abr_false rfl ?_ | with_reducible refine abr_yes rfl ?_ | refine abr_yes (by decide) ?_ | refine abr_no (by decide) ?_ | with_reducible refine abr_same_ne ?_); (conv => whnf))))
      (repeat ((first | refine afit_i64 (by omega) ?_ | refine arem_nonneg (by omega) (by omega) ?_ | refine adiv_i64 (by omega) (by omega) ?_ | refine abr_yes (by omega) ?_ | refine abr_no (by omega) ?_ | refine amin ?_ | refine amax ?_ | refine afit_u64 (by omega) ?_ | refine afit_u8 (by omega) ?_ | refine acell rfl ?_ | refine acellA ?_ | refine hload H (k := 0) rfl rfl ?_ | refine hloadA H (k := 0) rfl ?_ | refine hload H (k := 1) rfl rfl ?_ | refine hloadA H (k := 1) rfl ?_ | refine hload H (k := 2) rfl rfl ?_ | refine hloadA H (k := 2) rfl ?_ | refine hload H (k := 3) rfl rfl ?_ | refine hloadA H (k := 3) rfl ?_ | refine hload H (k := 4) rfl rfl ?_ | refine hloadA H (k := 4) rfl ?_ | refine hload H (k := 5) rfl rfl ?_ | refine hloadA H (k := 5) rfl ?_ | refine hload H (k := 6) rfl rfl ?_ | refine hloadA H (k := 6) rfl ?_ | refine hload H (k := 7) rfl rfl ?_ | refine hloadA H (k := 7) rfl ?_ | refine hload H (k := 8) rfl rfl ?_ | refine hloadA H (k := 8) rfl ?_ | refine hload H (k := 9) rfl rfl ?_ | refine hloadA H (k := 9) rfl ?_ | (refine hstore H (k := 0) rfl rfl ?_; (conv => whnf); clear H; intro τ H) | (refine hstore H (k := 1) rfl rfl ?_; (conv => whnf); clear H; intro τ H) | (refine hstore H (k := 2) rfl rfl ?_; (conv => whnf); clear H; intro τ H) | (refine hstore H (k := 3) rfl rfl ?_; (conv => whnf); clear H; intro τ H) | (refine hstore H (k := 4) rfl rfl ?_; (conv => whnf); clear H; intro τ H) | (refine hstore H (k := 5) rfl rfl ?_; (conv => whnf); clear H; intro τ H) | (refine hstore H (k := 6) rfl rfl ?_; (conv => whnf); clear H; intro τ H) | (refine hstore H (k := 7) rfl rfl ?_; (conv => whnf); clear H; intro τ H) | (refine hstore H (k := 8) rfl rfl ?_; (conv => whnf); clear H; intro τ H) | (refine hstore H (k := 9) rfl rfl ?_; (conv => whnf); clear H; intro τ H) | rw [List.length_map]); ((conv => whnf); (repeat ((first | with_reducible refine abr_true rfl ?_ | with_reducible refine abr_false rfl ?_ | with_reducible refine abr_yes rfl ?_ | refine abr_yes (by decide) ?_ | refine abr_no (by decide) ?_ | with_reducible refine abr_same_ne ?_); (conv => whnf))))))
      refine astr rfl ?_
      ((conv => whnf); (repeat ((first | with_reducible refine abr_true rfl ?_ | with_reducible refine abr_false rfl ?_ | with_reducible refine abr_yes rfl ?_ | refine abr_yes (by decide) ?_ | refine abr_no (by decide) ?_ | with_reducible refine abr_same_ne ?_); (conv => whnf))))
      refine astr rfl ?_
      ((conv => whnf); (repeat ((first | with_reducible refine abr_true rfl ?_ | with_reducible refine abr_false rfl ?_ | with_reducible refine abr_yes rfl ?_ | refine abr_yes (by decide) ?_ | refine abr_no (by decide) ?_ | with_reducible refine abr_same_ne ?_); (conv => whnf))))
      exact aret (VLe.refl _) H.sub ⟨congrArg boolv (decide_eq_true rfl), rfl⟩
    · refine abr_yes hc ?_
      ((conv => whnf); (repeat ((first | with_reducible refine abr_true rfl ?_ | with_reducible refine abr_false rfl ?_ | with_reducible refine abr_yes rfl ?_ | refine abr_yes (by decide) ?_ | refine abr_no (by decide) ?_ | with_reducible refine abr_same_ne ?_); (conv => whnf))))
      exact aret (VLe.refl _) H.sub ⟨rfl, rfl⟩
end Go.Proofs.Ytnfdgccmpglbhaa
