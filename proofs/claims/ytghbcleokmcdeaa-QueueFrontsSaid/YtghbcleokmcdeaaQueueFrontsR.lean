/-
  The row of QueueFronts: proved of all inputs; no condition.
-/
import Derived.Test.YtghbcleokmcdeaaK0
import Derived.Test.YtghbcleokmcdeaaK1
import Derived.Test.YtghbcleokmcdeaaK2
import Derived.Test.YtghbcleokmcdeaaK3
import Derived.Test.YtghbcleokmcdeaaK4
import Derived.Test.YtghbcleokmcdeaaK9
import Derived.Test.YtghbcleokmcdeaaK10
import Derived.Test.YtghbcleokmcdeaaRows
import Derived.WalkKit
import Derived.ProofKit
import Derived.OpenShut
import Derived.ShutString
import Derived.ChangeOld
import Derived.Below
import Derived.SizedLaws
namespace Go.Proofs.Ytghbcleokmcdeaa
set_option linter.unusedVariables false
set_option linter.unusedSimpArgs false
open Go Go.Am Go.ChangeShapes Go.WideShapes Go.ChangeAt Go.RowKit
theorem queueFronts_own : ownKnob Try.prog.godebug = none := by kernel_rfl
theorem queueFronts_laid : laidOutB Try.prog = true := by kernel_rfl

set_option maxRecDepth 100000 in
theorem queueFronts_lifted (os : Os) (started : os.Started) (H : Type) (enc : TypeId × Value → H) :
    ReturnsInHanded {} Try.checked os 10 .any (Rows.queueFrontsSpec.pre6 enc Try.prog Try.f10 Rows.queueFrontsRow.domain false) (Rows.queueFrontsSpec.post enc Try.prog Try.f10 false true false false) := by
  refine returnsInHanded_of_change_sized (C := Try.checked) queueFronts_own started (by kernel_rfl) Try.func10
    (ChangeSpec.witness6 (enc := enc) (C := Try.checked) false ⟨#[], #[.slice none 0 0, .slice none 0 0, .int .i64 0], []⟩ 8 (by kernel_rfl) (by kernel_rfl) (by kernel_rfl) (by kernel_rfl)) ?_
  intro W base args ds gs before hval0 hW hcnd hsz0 _
  have hsz : (DataW.weightsEach Try.prog (Try.f10.params.toList ++ Rows.queueFrontsSpec.plain.varTypes Try.prog) (ds ++ gs)).all (· ≤ reachBytes) = true := hsz0
  have hval : ∀ (j : Nat) t v, Try.f10.params[j]? = some t → args[j]? = some v → Value.okWide Try.prog W .any base t v := hval0
  have hW' := hW
  obtain ⟨p, q, hA0, hV, rfl, hfz, hnd⟩ := hW
  have hA : DataW.TrodAll enc Try.prog W 0 (fun _ => true) true Try.f10.params.toList args.toList ds p := hA0
  rw [Try.params10] at hA hval hsz
  obtain ⟨v0, vs0, d0, ds0, p0, q0, hargs, rfl, rfl, h0, r0⟩ := trodAll_cons hA
  obtain ⟨v1, vs1, d1, ds1, p1, q1, rfl, rfl, rfl, h1, r1⟩ := trodAll_cons r0
  obtain ⟨v2, vs2, d2, ds2, p2, q2, rfl, rfl, rfl, h2, r2⟩ := trodAll_cons r1
  obtain ⟨rfl, rfl, rfl⟩ := trodAll_nil r2
  obtain rfl : args = #[v0, v1, v2] := by cases args; simp_all
  obtain ⟨rfl, rfl⟩ := trodVars_none hV
  have k0 := h0
  have lt0 : ∀ x ∈ p0, x.block < W.heap.size := by obtain ⟨m, hm⟩ := k0; exact DataW.trod_lt m _ _ _ hm
  have zz0 : reachBytes = 140737488351232 := by decide
  have ml0 : maxLen = 9223372036854775807 := by decide
  obtain ⟨b0, y0, z0⟩ := bytes0 hsz (j := 0) (t := 22) rfl rfl Try.underlying22 Try.underlying5 (by kernel_rfl) (by kernel_rfl) (hval 0 22 v0 rfl rfl) h0
  have k1 := h1
  have lt1 : ∀ x ∈ p1, x.block < W.heap.size := by obtain ⟨m, hm⟩ := k1; exact DataW.trod_lt m _ _ _ hm
  have zz1 : reachBytes = 140737488351232 := by decide
  have ml1 : maxLen = 9223372036854775807 := by decide
  obtain ⟨b1, y1, z1⟩ := bytes0 hsz (j := 1) (t := 22) rfl rfl Try.underlying22 Try.underlying5 (by kernel_rfl) (by kernel_rfl) (hval 1 22 v1 rfl rfl) h1
  obtain ⟨a2, rfl, rfl, rfl, w2⟩ := open_int Try.underlying3 (hval 2 3 v2 rfl rfl) h2
  have g2 : -9223372036854775808 ≤ a2 ∧ a2 ≤ 9223372036854775807 := by
    simp only [Lit.wf, IntKind.min, IntKind.max, IntKind.signed, IntKind.bits] at w2
    simp at w2
    omega
  clear hA0 hval0 hsz0 hsz
  have hr : RepL (ghost0 W) [sl .none b0, sl .none b1, i64v a2] [v0, v1, .int .i64 a2] := (.cons y0 (.cons y1 (.cons (.v rfl) .nil)))
  refine (law_calls (QueueFronts b0 b1 a2 heap0 (by omega) (by omega)) (fun v σ h => h.1) (cargs := #[v0, v1, .int .i64 a2]) hr).mono fun e W' ⟨he, bel⟩ => ?_
  subst he
  exact ⟨_, rfl, _, _, _, [], _, [], hW', trodAll_mk1 (shut_bool Try.underlying4 _), (trodAll_cons_mk (Below.trod queueFronts_laid (by kernel_rfl) (of_decide_eq_true (by kernel_rfl)) k0 bel lt0) (trodAll_cons_mk (Below.trod queueFronts_laid (by kernel_rfl) (of_decide_eq_true (by kernel_rfl)) k1 bel lt1) (trodAll_cons_mk (shut_int Try.underlying3 w2) trodAll_mk0))), rfl, bel.frame _, fun h => by cases h⟩

theorem queueFronts_closed : joinedFacts Try.pinned.checked.prog 10 Try.f10 Rows.queueFrontsSpec Rows.queueFrontsRow = true := by kernel_rfl
theorem queueFronts_named : Try.pinned.checked.prog.funcNamed Rows.queueFrontsRow.func = some 10 := by kernel_rfl
theorem queueFronts_inst : Try.f10.isInstance Try.pinned.checked.prog Rows.queueFrontsRow.origin Rows.queueFrontsRow.targs := of_decide_eq_true (by kernel_rfl)
theorem queueFronts_wrap : Try.f10.isWrapper Try.pinned.checked.prog Rows.queueFrontsRow.wrapper Rows.queueFrontsRow.mainSum := by
  unfold Func.isWrapper; first | (rw [if_pos (by decide +kernel)]; kernel_rfl) | (rw [if_neg (by decide +kernel)]; exact ⟨rfl, rfl⟩)
theorem queueFronts_holds : Rows.QueueFrontsSaid :=
  OpenClaim.holds_of_wide 10 Try.f10 rfl rfl rfl rfl rfl rfl rfl ⟨rfl, rfl, rfl, rfl, rfl⟩ rfl rfl rfl rfl rfl queueFronts_named Try.func10 queueFronts_closed queueFronts_inst queueFronts_wrap
    (fun os started H enc _ => queueFronts_lifted os started H enc)
#print axioms queueFronts_holds
end Go.Proofs.Ytghbcleokmcdeaa
