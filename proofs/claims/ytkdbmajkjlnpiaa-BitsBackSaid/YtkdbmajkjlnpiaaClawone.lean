/-
  The statements about bits, at the abstract states.
-/
import Derived.Test.YtkdbmajkjlnpiaaCown
import Derived.Test.YtkdbmajkjlnpiaaCrefbitsc
import Derived.Test.YtkdbmajkjlnpiaaIrlaw01
namespace Go.Proofs.Ytkdbmajkjlnpiaa
set_option linter.unusedVariables false
set_option linter.unusedSimpArgs false
open Go Go.Am

set_option maxRecDepth 10000 in
theorem alive01 (σ : AHeap) : ACalls Try.prog i_bowlinelaw01_alive [] σ fun v σ' => v = boolv true ∧ σ' = σ := by
  refine k_bowlinelaw01_alive rfl ?_
  ((conv => whnf); (repeat ((first | with_reducible refine abr_true rfl ?_ | with_reducible refine abr_false rfl ?_ | with_reducible refine abr_yes rfl ?_ | refine abr_yes (by decide) ?_ | refine abr_no (by decide) ?_ | with_reducible refine abr_same_ne ?_); (conv => whnf))))
  refine acall (wNew _) ?_
  rintro v σ1 ⟨id, rfl, w1⟩
  refine ⟨?_, w1.ext⟩
  ((conv => whnf); (repeat ((first | with_reducible refine abr_true rfl ?_ | with_reducible refine abr_false rfl ?_ | with_reducible refine abr_yes rfl ?_ | refine abr_yes (by decide) ?_ | refine abr_no (by decide) ?_ | with_reducible refine abr_same_ne ?_); (conv => whnf))))
  refine acall (wPut id [] 5 3 _ _ w1 (by omega) (by decide)) ?_
  rintro v σ2 ⟨rfl, w2⟩
  rw [show putBits [] 5 3 = [true, false, true] by decide] at w2
  rw [show putCode [].length 5 3 = 0 by decide]
  ((conv => whnf); (repeat ((first | with_reducible refine abr_true rfl ?_ | with_reducible refine abr_false rfl ?_ | with_reducible refine abr_yes rfl ?_ | refine abr_yes (by decide) ?_ | refine abr_no (by decide) ?_ | with_reducible refine abr_same_ne ?_); (conv => whnf))))
  refine acall (wPut id _ 1 2 _ _ w2 (by omega) (by decide)) ?_
  rintro v σ3 ⟨rfl, w3⟩
  rw [show putBits [true, false, true] 1 2 = [true, false, true, false, true] by decide] at w3
  rw [show putCode [true, false, true].length 1 2 = 0 by decide]
  ((conv => whnf); (repeat ((first | with_reducible refine abr_true rfl ?_ | with_reducible refine abr_false rfl ?_ | with_reducible refine abr_yes rfl ?_ | refine abr_yes (by decide) ?_ | refine abr_no (by decide) ?_ | with_reducible refine abr_same_ne ?_); (conv => whnf))))
  refine acall (wBytes id _ _ _ w3 (by decide)) ?_
  rintro v σ' ⟨rfl, rfl⟩
  refine ⟨?_, Ext.refl _⟩
  rw [show pack [true, false, true, false, true] = [168] by decide]
  ((conv => whnf); (repeat ((first | with_reducible refine abr_true rfl ?_ | with_reducible refine abr_false rfl ?_ | with_reducible refine abr_yes rfl ?_ | refine abr_yes (by decide) ?_ | refine abr_no (by decide) ?_ | with_reducible refine abr_same_ne ?_); (conv => whnf))))
  refine acall (rRead [168] _ _ (by decide)) ?_
  rintro v σ4 ⟨rid, rfl, r4⟩
  refine ⟨?_, r4.ext⟩
  ((conv => whnf); (repeat ((first | with_reducible refine abr_true rfl ?_ | with_reducible refine abr_false rfl ?_ | with_reducible refine abr_yes rfl ?_ | refine abr_yes (by decide) ?_ | refine abr_no (by decide) ?_ | with_reducible refine abr_same_ne ?_); (conv => whnf))))
  refine acall (rGet rid _ 0 3 _ _ r4) ?_
  rintro v σ5 ⟨rfl, r5⟩
  rw [show getVal (unpack (List.take 8192 [168])) 0 3 = 5 by decide, show getCode (8 * (List.take 8192 [(168 : UInt8)]).length) 0 3 = 0 by decide]
  rw [show getAt (8 * (List.take 8192 [(168 : UInt8)]).length) 0 3 = 3 by decide] at r5
  ((conv => whnf); (repeat ((first | with_reducible refine abr_true rfl ?_ | with_reducible refine abr_false rfl ?_ | with_reducible refine abr_yes rfl ?_ | refine abr_yes (by decide) ?_ | refine abr_no (by decide) ?_ | with_reducible refine abr_same_ne ?_); (conv => whnf))))
  refine acall (rGet rid _ 3 2 _ _ r5) ?_
  rintro v σ6 ⟨rfl, r6⟩
  rw [show getVal (unpack (List.take 8192 [168])) 3 2 = 1 by decide, show getCode (8 * (List.take 8192 [(168 : UInt8)]).length) 3 2 = 0 by decide]
  rw [show getAt (8 * (List.take 8192 [(168 : UInt8)]).length) 3 2 = 5 by decide] at r6
  obtain ⟨σa, w6, ra⟩ := swap_rw r6 w3
  ((conv => whnf); (repeat ((first | with_reducible refine abr_true rfl ?_ | with_reducible refine abr_false rfl ?_ | with_reducible refine abr_yes rfl ?_ | refine abr_yes (by decide) ?_ | refine abr_no (by decide) ?_ | with_reducible refine abr_same_ne ?_); (conv => whnf))))
  refine acall (wLen id _ _ _ w6) ?_
  rintro v σ' ⟨rfl, rfl⟩
  refine ⟨?_, Ext.refl _⟩
  ((conv => whnf); (repeat ((first | with_reducible refine abr_true rfl ?_ | with_reducible refine abr_false rfl ?_ | with_reducible refine abr_yes rfl ?_ | refine abr_yes (by decide) ?_ | refine abr_no (by decide) ?_ | with_reducible refine abr_same_ne ?_); (conv => whnf))))
  refine acall (wBytes id _ _ _ w6 (by decide)) ?_
  rintro v σ' ⟨rfl, rfl⟩
  refine ⟨?_, Ext.refl _⟩
  rw [show pack [true, false, true, false, true] = [168] by decide]
  ((conv => whnf); (repeat ((first | with_reducible refine abr_true rfl ?_ | with_reducible refine abr_false rfl ?_ | with_reducible refine abr_yes rfl ?_ | refine abr_yes (by decide) ?_ | refine abr_no (by decide) ?_ | with_reducible refine abr_same_ne ?_); (conv => whnf))))
  refine astr rfl ?_
  ((conv => whnf); (repeat ((first | with_reducible refine abr_true rfl ?_ | with_reducible refine abr_false rfl ?_ | with_reducible refine abr_yes rfl ?_ | refine abr_yes (by decide) ?_ | refine abr_no (by decide) ?_ | with_reducible refine abr_same_ne ?_); (conv => whnf))))
  refine acall (rLeft rid _ _ _ _ r6) ?_
  rintro v σ' ⟨rfl, rfl⟩
  refine ⟨?_, Ext.refl _⟩
  ((conv => whnf); (repeat ((first | with_reducible refine abr_true rfl ?_ | with_reducible refine abr_false rfl ?_ | with_reducible refine abr_yes rfl ?_ | refine abr_yes (by decide) ?_ | refine abr_no (by decide) ?_ | with_reducible refine abr_same_ne ?_); (conv => whnf))))
  refine acall (wPut id _ 4 2 _ _ w6 (by omega) (by decide)) ?_
  rintro v σ7 ⟨rfl, w7⟩
  rw [show putCode [true, false, true, false, true].length 4 2 = 1 by decide]
  ((conv => whnf); (repeat ((first | with_reducible refine abr_true rfl ?_ | with_reducible refine abr_false rfl ?_ | with_reducible refine abr_yes rfl ?_ | refine abr_yes (by decide) ?_ | refine abr_no (by decide) ?_ | with_reducible refine abr_same_ne ?_); (conv => whnf))))
  exact aret (VLe.refl _) (w7.sub.trans ra.sub) ⟨rfl, rfl⟩
end Go.Proofs.Ytkdbmajkjlnpiaa

