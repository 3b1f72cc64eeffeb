/-
  Queues: what must come of fixed calls.
-/
import Derived.Test.YtkdbmajkjlnpiaaCqueuec
namespace Go.Proofs.Ytkdbmajkjlnpiaa
set_option linter.unusedVariables false
set_option linter.unusedSimpArgs false
open Go Go.Am

set_option maxRecDepth 20000 in
theorem alive04 (σ : AHeap) : ACalls Try.prog i_bowlinelaw04_alive [] σ fun v σ' => v = boolv true ∧ σ' = σ := by
  refine k_bowlinelaw04_alive rfl ?_
  ((conv => whnf); (repeat ((first | with_reducible refine abr_true rfl ?_ | with_reducible refine abr_false rfl ?_ | with_reducible refine abr_yes rfl ?_ | refine abr_yes (by decide) ?_ | refine abr_no (by decide) ?_ | with_reducible refine abr_same_ne ?_); (conv => whnf))))
  refine acall (qNew 10 _ (by omega)) ?_
  rintro v σ1 ⟨id, rfl, q1⟩
  refine ⟨?_, q1.ext⟩
  ((conv => whnf); (repeat ((first | with_reducible refine abr_true rfl ?_ | with_reducible refine abr_false rfl ?_ | with_reducible refine abr_yes rfl ?_ | refine abr_yes (by decide) ?_ | refine abr_no (by decide) ?_ | with_reducible refine abr_same_ne ?_); (conv => whnf))))
  refine arowT fun t ht => ?_
  ((conv => whnf); (repeat ((first | with_reducible refine abr_true rfl ?_ | with_reducible refine abr_false rfl ?_ | with_reducible refine abr_yes rfl ?_ | refine abr_yes (by decide) ?_ | refine abr_no (by decide) ?_ | with_reducible refine abr_same_ne ?_); (conv => whnf))))
  refine amark (by simp) (upd_same _ _ _) ?_
  ((conv => whnf); (repeat ((first | with_reducible refine abr_true rfl ?_ | with_reducible refine abr_false rfl ?_ | with_reducible refine abr_yes rfl ?_ | refine abr_yes (by decide) ?_ | refine abr_no (by decide) ?_ | with_reducible refine abr_same_ne ?_); (conv => whnf))))
  rw [show del (upd σ1 t AObj.tip) t = σ1 from del_upd _ _ _ ht]
  refine acall (qPush id _ [97, 98] .none _ _ q1 (by decide) (by decide)) ?_
  rintro v σ2 ⟨rfl, q2⟩
  rw [show pushQ ⟨10, [], 0, 0⟩ [97, 98] = ⟨10, [(1, [97, 98])], 0, 1⟩ by decide] at q2
  rw [show pushCode ⟨10, [], 0, 0⟩ [97, 98] = 0 by decide, show pushId ⟨10, [], 0, 0⟩ [97, 98] = 1 by decide]
  ((conv => whnf); (repeat ((first | with_reducible refine abr_true rfl ?_ | with_reducible refine abr_false rfl ?_ | with_reducible refine abr_yes rfl ?_ | refine abr_yes (by decide) ?_ | refine abr_no (by decide) ?_ | with_reducible refine abr_same_ne ?_); (conv => whnf))))
  refine acall (qTake id _ 1 _ _ q2) ?_
  rintro v σ3 ⟨rfl, q3⟩
  rw [show takeQ ⟨10, [(1, [97, 98])], 0, 1⟩ 1 = ⟨10, [(1, [97, 98])], 1, 1⟩ by decide] at q3
  rw [show takeCode ⟨10, [(1, [97, 98])], 0, 1⟩ 1 = 0 by decide, show takeB ⟨10, [(1, [97, 98])], 0, 1⟩ 1 = [97] by decide, show takeAll ⟨10, [(1, [97, 98])], 0, 1⟩ 1 = false by decide]
  ((conv => whnf); (repeat ((first | with_reducible refine abr_true rfl ?_ | with_reducible refine abr_false rfl ?_ | with_reducible refine abr_yes rfl ?_ | refine abr_yes (by decide) ?_ | refine abr_no (by decide) ?_ | with_reducible refine abr_same_ne ?_); (conv => whnf))))
  refine acall (qFront id _ _ _ q3) ?_
  rintro _ σ_ ⟨rfl, e_⟩
  obtain rfl := e_.symm
  refine ⟨?_, Ext.refl _⟩
  ((conv => whnf); (repeat ((first | with_reducible refine abr_true rfl ?_ | with_reducible refine abr_false rfl ?_ | with_reducible refine abr_yes rfl ?_ | refine abr_yes (by decide) ?_ | refine abr_no (by decide) ?_ | with_reducible refine abr_same_ne ?_); (conv => whnf))))
  refine acall (qDiscardBegun id _ 1 _ _ q3 (1, [97, 98]) [] rfl rfl (by decide)) ?_
  rintro v σ4 ⟨rfl, rfl⟩
  ((conv => whnf); (repeat ((first | with_reducible refine abr_true rfl ?_ | with_reducible refine abr_false rfl ?_ | with_reducible refine abr_yes rfl ?_ | refine abr_yes (by decide) ?_ | refine abr_no (by decide) ?_ | with_reducible refine abr_same_ne ?_); (conv => whnf))))
  refine acall (qTake id _ 1 _ _ q3) ?_
  rintro v σ5 ⟨rfl, q5⟩
  rw [show takeQ ⟨10, [(1, [97, 98])], 1, 1⟩ 1 = ⟨10, [], 0, 1⟩ by decide] at q5
  rw [show takeCode ⟨10, [(1, [97, 98])], 1, 1⟩ 1 = 0 by decide, show takeB ⟨10, [(1, [97, 98])], 1, 1⟩ 1 = [98] by decide, show takeAll ⟨10, [(1, [97, 98])], 1, 1⟩ 1 = true by decide]
  ((conv => whnf); (repeat ((first | with_reducible refine abr_true rfl ?_ | with_reducible refine abr_false rfl ?_ | with_reducible refine abr_yes rfl ?_ | refine abr_yes (by decide) ?_ | refine abr_no (by decide) ?_ | with_reducible refine abr_same_ne ?_); (conv => whnf))))
  refine ⟨rfl, ?_⟩
  refine amk (bytes := 1) (n := 11) (by omega) (by omega) (by omega) ?_
  ((conv => whnf); (repeat ((first | with_reducible refine abr_true rfl ?_ | with_reducible refine abr_false rfl ?_ | with_reducible refine abr_yes rfl ?_ | refine abr_yes (by decide) ?_ | refine abr_no (by decide) ?_ | with_reducible refine abr_same_ne ?_); (conv => whnf))))
  refine acall (qPush id _ (List.replicate 11 0) .full _ _ q5 (by decide) (by decide)) ?_
  rintro v σ6 ⟨rfl, q6⟩
  rw [show pushQ ⟨10, [], 0, 1⟩ (List.replicate 11 0) = ⟨10, [], 0, 1⟩ by decide] at q6
  rw [show pushCode ⟨10, [], 0, 1⟩ (List.replicate 11 0) = 5 by decide, show pushId ⟨10, [], 0, 1⟩ (List.replicate 11 0) = 0 by decide]
  ((conv => whnf); (repeat ((first | with_reducible refine abr_true rfl ?_ | with_reducible refine abr_false rfl ?_ | with_reducible refine abr_yes rfl ?_ | refine abr_yes (by decide) ?_ | refine abr_no (by decide) ?_ | with_reducible refine abr_same_ne ?_); (conv => whnf))))
  refine astr (bs := [97]) rfl ?_
  ((conv => whnf); (repeat ((first | with_reducible refine abr_true rfl ?_ | with_reducible refine abr_false rfl ?_ | with_reducible refine abr_yes rfl ?_ | refine abr_yes (by decide) ?_ | refine abr_no (by decide) ?_ | with_reducible refine abr_same_ne ?_); (conv => whnf))))
  refine astr (bs := [98]) rfl ?_
  ((conv => whnf); (repeat ((first | with_reducible refine abr_true rfl ?_ | with_reducible refine abr_false rfl ?_ | with_reducible refine abr_yes rfl ?_ | refine abr_yes (by decide) ?_ | refine abr_no (by decide) ?_ | with_reducible refine abr_same_ne ?_); (conv => whnf))))
  refine acall (qBytes id _ _ _ q6) ?_
  rintro _ σ_ ⟨rfl, e_⟩
  obtain rfl := e_.symm
  refine ⟨?_, Ext.refl _⟩
  ((conv => whnf); (repeat ((first | with_reducible refine abr_true rfl ?_ | with_reducible refine abr_false rfl ?_ | with_reducible refine abr_yes rfl ?_ | refine abr_yes (by decide) ?_ | refine abr_no (by decide) ?_ | with_reducible refine abr_same_ne ?_); (conv => whnf))))
  exact aret (VLe.refl _) q6.sub ⟨rfl, rfl⟩
end Go.Proofs.Ytkdbmajkjlnpiaa

