/-
  The row of LensSizes: proved of all inputs; no condition.
-/
import Derived.Test.YtkdbmajkjlnpiacRows
import Derived.Test.YtkdbmajkjlnpiacClaweightb
import Derived.Test.YtkdbmajkjlnpiacFz
import Derived.WalkKit
import Derived.ProofKit
import Derived.OpenShut
import Derived.ShutString
import Derived.ChangeOld
import Derived.Below
import Derived.SizedLaws
namespace Go.Proofs.Ytkdbmajkjlnpiac
set_option linter.unusedVariables false
set_option linter.unusedSimpArgs false
open Go Go.Am Go.ChangeShapes Go.WideShapes Go.ChangeAt Go.RowKit
theorem lensSizes_own : ownKnob Try.prog.godebug = none := by kernel_rfl
theorem lensSizes_laid : laidOutB Try.prog = true := by kernel_rfl

set_option maxRecDepth 100000 in
theorem lensSizes_lifted (os : Os) (started : os.Started) (H : Type) (enc : TypeId × Value → H) :
    ReturnsInHanded {} Try.checked os 4 .any (Rows.lensSizesSpec.pre6 enc Try.prog Try.f4 Rows.lensSizesRow.domain false) (Rows.lensSizesSpec.post enc Try.prog Try.f4 false true false false) := by
  refine returnsInHanded_of_change_sized (C := Try.checked) lensSizes_own started (by kernel_rfl) Try.func4
    (ChangeSpec.witness6 (enc := enc) (C := Try.checked) false ⟨#[], #[.int .i64 0, .int .i64 0], []⟩ 8 (by kernel_rfl) (by kernel_rfl) (by kernel_rfl) (by kernel_rfl)) ?_
  intro W base args ds gs before hval0 hW hcnd hsz0 _
  have hsz : (DataW.weightsEach Try.prog (Try.f4.params.toList ++ Rows.lensSizesSpec.plain.varTypes Try.prog) (ds ++ gs)).all (· ≤ reachBytes) = true := hsz0
  have hval : ∀ (j : Nat) t v, Try.f4.params[j]? = some t → args[j]? = some v → Value.okWide Try.prog W .any base t v := hval0
  have hW' := hW
  obtain ⟨p, q, hA0, hV, rfl, hfz, hnd⟩ := hW
  have hA : DataW.TrodAll enc Try.prog W 0 (fun _ => true) true Try.f4.params.toList args.toList ds p := hA0
  rw [Try.params4] at hA hval hsz
  obtain ⟨v0, vs0, d0, ds0, p0, q0, hargs, rfl, rfl, h0, r0⟩ := trodAll_cons hA
  obtain ⟨v1, vs1, d1, ds1, p1, q1, rfl, rfl, rfl, h1, r1⟩ := trodAll_cons r0
  obtain ⟨rfl, rfl, rfl⟩ := trodAll_nil r1
  obtain rfl : args = #[v0, v1] := by cases args; simp_all
  obtain ⟨rfl, rfl⟩ := trodVars_none hV
  obtain ⟨a0, rfl, rfl, rfl, w0⟩ := open_int Try.underlying3 (hval 0 3 v0 rfl rfl) h0
  have g0 : -9223372036854775808 ≤ a0 ∧ a0 ≤ 9223372036854775807 := by
    simp only [Lit.wf, IntKind.min, IntKind.max, IntKind.signed, IntKind.bits] at w0
    simp at w0
    omega
  obtain ⟨a1, rfl, rfl, rfl, w1⟩ := open_int Try.underlying3 (hval 1 3 v1 rfl rfl) h1
  have g1 : -9223372036854775808 ≤ a1 ∧ a1 ≤ 9223372036854775807 := by
    simp only [Lit.wf, IntKind.min, IntKind.max, IntKind.signed, IntKind.bits] at w1
    simp at w1
    omega
  clear hA0 hval0 hsz0 hsz
  have hr : RepL (ghost0 W) [i64v a0, i64v a1] [.int .i64 a0, .int .i64 a1] := (.cons (.v rfl) (.cons (.v rfl) .nil))
  refine (law_calls (LensSizes a0 a1 heap0 g0) (fun v σ h => h.1) (cargs := #[.int .i64 a0, .int .i64 a1]) hr).mono fun e W' ⟨he, bel⟩ => ?_
  subst he
  exact ⟨_, rfl, _, _, _, [], _, [], hW', trodAll_mk1 (shut_bool Try.underlying4 _), (trodAll_cons_mk (shut_int Try.underlying3 w0) (trodAll_cons_mk (shut_int Try.underlying3 w1) trodAll_mk0)), rfl, bel.frame _, fun h => by cases h⟩

theorem lensSizes_closed : joinedFacts Try.pinned.checked.prog 4 Try.f4 Rows.lensSizesSpec Rows.lensSizesRow = true := by kernel_rfl
theorem lensSizes_named : Try.pinned.checked.prog.funcNamed Rows.lensSizesRow.func = some 4 := by kernel_rfl
theorem lensSizes_inst : Try.f4.isInstance Try.pinned.checked.prog Rows.lensSizesRow.origin Rows.lensSizesRow.targs := of_decide_eq_true (by kernel_rfl)
theorem lensSizes_wrap : Try.f4.isWrapper Try.pinned.checked.prog Rows.lensSizesRow.wrapper Rows.lensSizesRow.mainSum := by
  unfold Func.isWrapper; first | (rw [if_pos (by decide +kernel)]; kernel_rfl) | (rw [if_neg (by decide +kernel)]; exact ⟨rfl, rfl⟩)
theorem lensSizes_holds : Rows.LensSizesSaid :=
  OpenClaim.holds_of_wide 4 Try.f4 rfl rfl rfl rfl rfl rfl rfl ⟨rfl, rfl, rfl, rfl, rfl⟩ rfl rfl rfl rfl rfl lensSizes_named Try.func4 lensSizes_closed lensSizes_inst lensSizes_wrap
    (fun os started H enc _ => lensSizes_lifted os started H enc)
#print axioms lensSizes_holds
end Go.Proofs.Ytkdbmajkjlnpiac

