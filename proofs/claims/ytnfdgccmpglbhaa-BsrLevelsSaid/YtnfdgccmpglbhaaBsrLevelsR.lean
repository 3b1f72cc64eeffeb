/-
  The row of BsrLevels: proved of all inputs; no condition.
-/
import Derived.Test.YtnfdgccmpglbhaaBsrLevelsM2
import Derived.Test.YtnfdgccmpglbhaaRows
import Derived.WalkKit
import Derived.ProofKit
import Derived.OpenShut
import Derived.ShutString
import Derived.ChangeOld
import Derived.Below
import Derived.SizedLaws
namespace Go.Proofs.Ytnfdgccmpglbhaa
set_option linter.unusedVariables false
set_option linter.unusedSimpArgs false
open Go Go.Am Go.ChangeShapes Go.WideShapes Go.ChangeAt Go.RowKit
theorem bsrLevels_own : ownKnob Try.prog.godebug = none := by kernel_rfl
theorem bsrLevels_laid : laidOutB Try.prog = true := by kernel_rfl

set_option maxRecDepth 100000 in
theorem bsrLevels_lifted (os : Os) (started : os.Started) (H : Type) (enc : TypeId × Value → H) :
    ReturnsInHanded {} Try.checked os 13 .any (Rows.bsrLevelsSpec.pre6 enc Try.prog Try.f13 Rows.bsrLevelsRow.domain false) (Rows.bsrLevelsSpec.post enc Try.prog Try.f13 false true false false) := by
  refine returnsInHanded_of_change_sized (C := Try.checked) bsrLevels_own started (by kernel_rfl) Try.func13
    (ChangeSpec.witness6 (enc := enc) (C := Try.checked) false ⟨#[], #[.int .i64 0, .int .i64 0, .agg #[.int .i64 0, .int .i64 0, .int .i64 0, .int .i64 0], .agg #[.int .i64 0, .int .i64 0, .int .i64 0, .int .i64 0]], []⟩ 8 (by kernel_rfl) (by kernel_rfl) (by kernel_rfl) (by kernel_rfl)) ?_
  intro W base args ds gs before hval0 hW hcnd hsz0 _
  have hsz : (DataW.weightsEach Try.prog (Try.f13.params.toList ++ Rows.bsrLevelsSpec.plain.varTypes Try.prog) (ds ++ gs)).all (· ≤ reachBytes) = true := hsz0
  have hval : ∀ (j : Nat) t v, Try.f13.params[j]? = some t → args[j]? = some v → Value.okWide Try.prog W .any base t v := hval0
  have hW' := hW
  obtain ⟨p, q, hA0, hV, rfl, hfz, hnd⟩ := hW
  have hA : DataW.TrodAll enc Try.prog W 0 (fun _ => true) true Try.f13.params.toList args.toList ds p := hA0
  rw [Try.params13] at hA hval hsz
  obtain ⟨v0, vs0, d0, ds0, p0, q0, hargs, rfl, rfl, h0, r0⟩ := trodAll_cons hA
  obtain ⟨v1, vs1, d1, ds1, p1, q1, rfl, rfl, rfl, h1, r1⟩ := trodAll_cons r0
  obtain ⟨v2, vs2, d2, ds2, p2, q2, rfl, rfl, rfl, h2, r2⟩ := trodAll_cons r1
  obtain ⟨v3, vs3, d3, ds3, p3, q3, rfl, rfl, rfl, h3, r3⟩ := trodAll_cons r2
  obtain ⟨rfl, rfl, rfl⟩ := trodAll_nil r3
  obtain rfl : args = #[v0, v1, v2, v3] := by cases args; simp_all
  obtain ⟨rfl, rfl⟩ := trodVars_none hV
  obtain ⟨a0, rfl, rfl, rfl, w0⟩ := open_int Try.underlying3 (hval 0 3 v0 rfl rfl) h0
  have g0 : -9223372036854775808 ≤ a0 ∧ a0 ≤ 9223372036854775807 := by
    simp only [Lit.wf, IntKind.min, IntKind.max, IntKind.signed, IntKind.bits] at w0
    simp at w0
    omega
  obtain ⟨a1, rfl, rfl, rfl, w1⟩ := open_int Try.underlying3 (hval 1 3 v1 rfl rfl) h1
  have g1 : -9223372036854775808 ≤ a1 ∧ a1 ≤ 9223372036854775807 := by
    simp only [Lit.wf, IntKind.min, IntKind.max, IntKind.signed, IntKind.bits] at w1
    simp at w1
    omega
  have k2 := h2
  have lt2 : ∀ x ∈ p2, x.block < W.heap.size := by obtain ⟨m, hm⟩ := k2; exact DataW.trod_lt m _ _ _ hm
  have zz2 : reachBytes = 140737488351232 := by decide
  have ml2 : maxLen = 9223372036854775807 := by decide
  have re2 : Reads enc Try.prog W 0 (fun _ => true) true 114 (fun a2 : List Int => a2.map fun z => AVal.v (.int .i64 z)) (fun a1 => (a1.length = 4 ∧ ∀ z ∈ a1, -9223372036854775808 ≤ z ∧ z ≤ 9223372036854775807)) := (reads_array_i64 Try.underlying114 Try.underlying3 (by kernel_rfl) (by kernel_rfl))
  obtain ⟨b2, y2, g2⟩ := aggs0 hsz (j := 2) (t := 114) rfl rfl (.inl ⟨_, _, Try.underlying114⟩) re2 (hval 2 114 v2 rfl rfl) h2
  have k3 := h3
  have lt3 : ∀ x ∈ p3, x.block < W.heap.size := by obtain ⟨m, hm⟩ := k3; exact DataW.trod_lt m _ _ _ hm
  have zz3 : reachBytes = 140737488351232 := by decide
  have ml3 : maxLen = 9223372036854775807 := by decide
  have re3 : Reads enc Try.prog W 0 (fun _ => true) true 113 (fun a4 : List Int => a4.map fun z => AVal.v (.int .i64 z)) (fun a3 => (a3.length = 4 ∧ ∀ z ∈ a3, -9223372036854775808 ≤ z ∧ z ≤ 9223372036854775807)) := (reads_array_i64 Try.underlying113 Try.underlying3 (by kernel_rfl) (by kernel_rfl))
  obtain ⟨b3, y3, g3⟩ := aggs0 hsz (j := 3) (t := 113) rfl rfl (.inl ⟨_, _, Try.underlying113⟩) re3 (hval 3 113 v3 rfl rfl) h3
  clear hA0 hval0 hsz0 hsz
  have hr : RepL (ghost0 W) [i64v a0, i64v a1, .agg (b2.map fun z => AVal.v (.int .i64 z)), .agg (b3.map fun z => AVal.v (.int .i64 z))] [.int .i64 a0, .int .i64 a1, v2, v3] := (.cons (.v rfl) (.cons (.v rfl) (.cons y2 (.cons y3 .nil))))
  refine (law_calls (BsrLevels a0 a1 b2 b3 g2.1 g3.1 heap0) (fun v σ h => h.1) (cargs := #[.int .i64 a0, .int .i64 a1, v2, v3]) hr).mono fun e W' ⟨he, bel⟩ => ?_
  subst he
  exact ⟨_, rfl, _, _, _, [], _, [], hW', trodAll_mk1 (shut_bool Try.underlying4 _), (trodAll_cons_mk (shut_int Try.underlying3 w0) (trodAll_cons_mk (shut_int Try.underlying3 w1) (trodAll_cons_mk (Below.trod bsrLevels_laid (by kernel_rfl) (of_decide_eq_true (by kernel_rfl)) k2 bel lt2) (trodAll_cons_mk (Below.trod bsrLevels_laid (by kernel_rfl) (of_decide_eq_true (by kernel_rfl)) k3 bel lt3) trodAll_mk0)))), rfl, bel.frame _, fun h => by cases h⟩

theorem bsrLevels_closed : joinedFacts Try.pinned.checked.prog 13 Try.f13 Rows.bsrLevelsSpec Rows.bsrLevelsRow = true := by kernel_rfl
theorem bsrLevels_named : Try.pinned.checked.prog.funcNamed Rows.bsrLevelsRow.func = some 13 := by kernel_rfl
theorem bsrLevels_inst : Try.f13.isInstance Try.pinned.checked.prog Rows.bsrLevelsRow.origin Rows.bsrLevelsRow.targs := of_decide_eq_true (by kernel_rfl)
theorem bsrLevels_wrap : Try.f13.isWrapper Try.pinned.checked.prog Rows.bsrLevelsRow.wrapper Rows.bsrLevelsRow.mainSum := by
  unfold Func.isWrapper; first | (rw [if_pos (by decide +kernel)]; kernel_rfl) | (rw [if_neg (by decide +kernel)]; exact ⟨rfl, rfl⟩)
theorem bsrLevels_holds : Rows.BsrLevelsSaid :=
  OpenClaim.holds_of_wide 13 Try.f13 rfl rfl rfl rfl rfl rfl rfl ⟨rfl, rfl, rfl, rfl, rfl⟩ rfl rfl rfl rfl rfl bsrLevels_named Try.func13 bsrLevels_closed bsrLevels_inst bsrLevels_wrap
    (fun os started H enc _ => bsrLevels_lifted os started H enc)
#print axioms bsrLevels_holds
end Go.Proofs.Ytnfdgccmpglbhaa
