/-
  The statements about sums, at the abstract states.
-/
import Derived.Test.YtmgjkfepcejgnaaCcheck
import Derived.Test.YtmgjkfepcejgnaaIrlaw07
namespace Go.Proofs.Ytmgjkfepcejgnaa
set_option linter.unusedVariables false
set_option linter.unusedSimpArgs false
set_option linter.unusedSectionVars false
open Go Go.Am

theorem opened_abc : openedV [97, 98, 99, 81, 74] = .tup [sl .none [97, 98, 99], i64v 0] := opened_ok (by decide) (by decide +kernel)
theorem opened_1 : openedV [1] = .tup [sl .none [], i64v 8] := opened_short (by decide)
theorem opened_123 : openedV [1, 2, 3] = .tup [sl .none [], i64v 13] := opened_bad (by decide) (by decide +kernel)
theorem crc_digits : crc 65535#16 [49, 50, 51, 52, 53, 54, 55, 56, 57] = 10673#16 := by decide +kernel

theorem alive (σ : AHeap) : ACalls Try.prog i_bowlinelaw07_alive [] σ fun v σ' => v = boolv true ∧ σ' = σ := by
  refine k_bowlinelaw07_alive rfl ?_
  (conv => whnf)
  refine arowT fun t1 h1 => ?_
  (conv => whnf)
  refine acall (Open [97, 98, 99, 81, 74] (.own t1) _ (by decide)) ?_
  rintro v σ' ⟨rfl, rfl⟩
  refine ⟨?_, Ext.refl _⟩
  rw [opened_abc]
  (conv => whnf)
  refine arowT fun t2 h2 => ?_
  (conv => whnf)
  refine acall (Open [1] (.own t2) _ (by decide)) ?_
  rintro v σ' ⟨rfl, rfl⟩
  refine ⟨?_, Ext.refl _⟩
  rw [opened_1]
  (conv => whnf)
  refine arowT fun t3 h3 => ?_
  (conv => whnf)
  refine acall (Open [1, 2, 3] (.own t3) _ (by decide)) ?_
  rintro v σ' ⟨rfl, rfl⟩
  refine ⟨?_, Ext.refl _⟩
  rw [opened_123]
  (conv => whnf)
  refine arowT fun t4 h4 => ?_
  (conv => whnf)
  refine amark nofun (upd_same _ _ _) ?_
  rw [del_upd _ _ _ h4]
  (conv => whnf)
  refine acall (Of [49, 50, 51, 52, 53, 54, 55, 56, 57] .none _ (by decide)) ?_
  rintro v σ' ⟨rfl, rfl⟩
  refine ⟨?_, Ext.refl _⟩
  rw [crc_digits]
  (conv => whnf)
  refine abr_yes (by decide) ?_
  (conv => whnf)
  (repeat ((first | with_reducible refine abr_true rfl ?_ | with_reducible refine abr_false rfl ?_ | with_reducible refine abr_yes rfl ?_); (conv => whnf)))
  refine astr rfl ?_
  (conv => whnf)
  (repeat ((first | with_reducible refine abr_true rfl ?_ | with_reducible refine abr_false rfl ?_ | with_reducible refine abr_yes rfl ?_); (conv => whnf)))
  refine aret (VLe.refl _) ?_ ⟨rfl, rfl⟩
  exact ((Sub.upd_fresh _ h3).trans (Sub.upd_fresh _ h2)).trans (Sub.upd_fresh _ h1)

set_option maxRecDepth 10000 in
theorem CheckSums (s : BitVec 16) (b c : List UInt8) (σ : AHeap) (hb : b.length ≤ 140737488355320) (hc : c.length ≤ 140737488355320) : ACalls Try.prog i_bowlinelaw07_CheckSums [u16v s, sl .none b, sl .none c] σ fun v σ' => v = boolv true ∧ σ' = σ := by
  refine k_bowlinelaw07_CheckSums rfl ?_
  (conv => whnf); (repeat ((first | with_reducible refine abr_true rfl ?_ | with_reducible refine abr_false rfl ?_ | with_reducible refine abr_yes rfl ?_); (conv => whnf)))
  refine abr_dec (fun h => ?_) (fun h => ?_)
  · (conv => whnf); (repeat ((first | with_reducible refine abr_true rfl ?_ | with_reducible refine abr_false rfl ?_ | with_reducible refine abr_yes rfl ?_); (conv => whnf)))
    refine acall (alive _) ?_
    rintro v σ' ⟨rfl, rfl⟩
    refine ⟨?_, Ext.refl _⟩
    (conv => whnf); (repeat ((first | with_reducible refine abr_true rfl ?_ | with_reducible refine abr_false rfl ?_ | with_reducible refine abr_yes rfl ?_); (conv => whnf)))
    exact aret_same ⟨rfl, rfl⟩
  · (conv => whnf); (repeat ((first | with_reducible refine abr_true rfl ?_ | with_reducible refine abr_false rfl ?_ | with_reducible refine abr_yes rfl ?_); (conv => whnf)))
    refine abr_dec (fun h2 => ?_) (fun h2 => ?_)
    · (conv => whnf); (repeat ((first | with_reducible refine abr_true rfl ?_ | with_reducible refine abr_false rfl ?_ | with_reducible refine abr_yes rfl ?_); (conv => whnf)))
      refine acall (alive _) ?_
      rintro v σ' ⟨rfl, rfl⟩
      refine ⟨?_, Ext.refl _⟩
      (conv => whnf); (repeat ((first | with_reducible refine abr_true rfl ?_ | with_reducible refine abr_false rfl ?_ | with_reducible refine abr_yes rfl ?_); (conv => whnf)))
      exact aret_same ⟨rfl, rfl⟩
    · (conv => whnf); (repeat ((first | with_reducible refine abr_true rfl ?_ | with_reducible refine abr_false rfl ?_ | with_reducible refine abr_yes rfl ?_); (conv => whnf)))
      refine acall (Open c _ _ hc) ?_
      rintro v σ' ⟨rfl, rfl⟩
      refine ⟨?_, Ext.refl _⟩
      (conv => whnf); (repeat ((first | with_reducible refine abr_true rfl ?_ | with_reducible refine abr_false rfl ?_ | with_reducible refine abr_yes rfl ?_); (conv => whnf)))
      refine acall (refOpen c _ _ hc) ?_
      rintro v σ' ⟨rfl, rfl⟩
      refine ⟨?_, Ext.refl _⟩
      (conv => whnf); (repeat ((first | with_reducible refine abr_true rfl ?_ | with_reducible refine abr_false rfl ?_ | with_reducible refine abr_yes rfl ?_); (conv => whnf)))
      refine acall (alive _) ?_
      rintro v σ' ⟨rfl, rfl⟩
      refine ⟨?_, Ext.refl _⟩
      (conv => whnf); (repeat ((first | with_reducible refine abr_true rfl ?_ | with_reducible refine abr_false rfl ?_ | with_reducible refine abr_yes rfl ?_); (conv => whnf)))
      refine acall (Of b _ _ (by omega)) ?_
      rintro v σ' ⟨rfl, rfl⟩
      refine ⟨?_, Ext.refl _⟩
      (conv => whnf); (repeat ((first | with_reducible refine abr_true rfl ?_ | with_reducible refine abr_false rfl ?_ | with_reducible refine abr_yes rfl ?_); (conv => whnf)))
      refine acall (refMore 65535#16 b _ _ (by omega)) ?_
      rintro v σ' ⟨rfl, rfl⟩
      refine ⟨?_, Ext.refl _⟩
      (conv => whnf); (repeat ((first | with_reducible refine abr_true rfl ?_ | with_reducible refine abr_false rfl ?_ | with_reducible refine abr_yes rfl ?_); (conv => whnf)))
      refine acall (More s b _ _ (by omega)) ?_
      rintro v σ' ⟨rfl, rfl⟩
      refine ⟨?_, Ext.refl _⟩
      (conv => whnf); (repeat ((first | with_reducible refine abr_true rfl ?_ | with_reducible refine abr_false rfl ?_ | with_reducible refine abr_yes rfl ?_); (conv => whnf)))
      refine acall (refMore s b _ _ (by omega)) ?_
      rintro v σ' ⟨rfl, rfl⟩
      refine ⟨?_, Ext.refl _⟩
      (conv => whnf); (repeat ((first | with_reducible refine abr_true rfl ?_ | with_reducible refine abr_false rfl ?_ | with_reducible refine abr_yes rfl ?_); (conv => whnf)))
      refine acall (Close b _ _ hb) ?_
      rintro v σ' ⟨rfl, rfl⟩
      refine ⟨?_, Ext.refl _⟩
      (conv => whnf); (repeat ((first | with_reducible refine abr_true rfl ?_ | with_reducible refine abr_false rfl ?_ | with_reducible refine abr_yes rfl ?_); (conv => whnf)))
      refine astr rfl ?_
      (conv => whnf); (repeat ((first | with_reducible refine abr_true rfl ?_ | with_reducible refine abr_false rfl ?_ | with_reducible refine abr_yes rfl ?_); (conv => whnf)))
      refine acall (refClose b _ _ hb) ?_
      rintro v σ' ⟨rfl, rfl⟩
      refine ⟨?_, Ext.refl _⟩
      (conv => whnf); (repeat ((first | with_reducible refine abr_true rfl ?_ | with_reducible refine abr_false rfl ?_ | with_reducible refine abr_yes rfl ?_); (conv => whnf)))
      refine astr rfl ?_
      (conv => whnf); (repeat ((first | with_reducible refine abr_true rfl ?_ | with_reducible refine abr_false rfl ?_ | with_reducible refine abr_yes rfl ?_); (conv => whnf)))
      refine astr rfl ?_
      (conv => whnf); (repeat ((first | with_reducible refine abr_true rfl ?_ | with_reducible refine abr_false rfl ?_ | with_reducible refine abr_yes rfl ?_); (conv => whnf)))
      refine astr rfl ?_
      (conv => whnf); (repeat ((first | with_reducible refine abr_true rfl ?_ | with_reducible refine abr_false rfl ?_ | with_reducible refine abr_yes rfl ?_); (conv => whnf)))
      exact aret_same ⟨congrArg boolv (decide_eq_true rfl), rfl⟩
end Go.Proofs.Ytmgjkfepcejgnaa
