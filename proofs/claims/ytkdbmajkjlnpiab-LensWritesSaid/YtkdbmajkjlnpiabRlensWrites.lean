/-
  The row of LensWrites: proved of all inputs; no condition.
-/
import Derived.Test.YtkdbmajkjlnpiabRows
import Derived.Test.YtkdbmajkjlnpiabClaweighta
import Derived.Test.YtkdbmajkjlnpiabFz
import Derived.WalkKit
import Derived.ProofKit
import Derived.OpenShut
import Derived.ShutString
import Derived.ChangeOld
import Derived.Below
import Derived.SizedLaws
namespace Go.Proofs.Ytkdbmajkjlnpiab
set_option linter.unusedVariables false
set_option linter.unusedSimpArgs false
open Go Go.Am Go.ChangeShapes Go.WideShapes Go.ChangeAt Go.RowKit
theorem lensWrites_own : ownKnob Try.prog.godebug = none := by kernel_rfl
theorem lensWrites_laid : laidOutB Try.prog = true := by kernel_rfl

set_option maxRecDepth 100000 in
theorem lensWrites_lifted (os : Os) (started : os.Started) (H : Type) (enc : TypeId × Value → H) :
    ReturnsInHanded {} Try.checked os 13 .any (Rows.lensWritesSpec.pre6 enc Try.prog Try.f13 Rows.lensWritesRow.domain false) (Rows.lensWritesSpec.post enc Try.prog Try.f13 false true false false) := by
  refine returnsInHanded_of_change_sized (C := Try.checked) lensWrites_own started (by kernel_rfl) Try.func13
    (ChangeSpec.witness6 (enc := enc) (C := Try.checked) false ⟨#[], #[.slice none 0 0, .int .i64 0, .int .i64 0], []⟩ 8 (by kernel_rfl) (by kernel_rfl) (by kernel_rfl) (by kernel_rfl)) ?_
  intro W base args ds gs before hval0 hW hcnd hsz0 _
  have hsz : (DataW.weightsEach Try.prog (Try.f13.params.toList ++ Rows.lensWritesSpec.plain.varTypes Try.prog) (ds ++ gs)).all (· ≤ reachBytes) = true := hsz0
  have hval : ∀ (j : Nat) t v, Try.f13.params[j]? = some t → args[j]? = some v → Value.okWide Try.prog W .any base t v := hval0
  have hW' := hW
  obtain ⟨p, q, hA0, hV, rfl, hfz, hnd⟩ := hW
  have hA : DataW.TrodAll enc Try.prog W 0 (fun _ => true) true Try.f13.params.toList args.toList ds p := hA0
  rw [Try.params13] at hA hval hsz
  obtain ⟨v0, vs0, d0, ds0, p0, q0, hargs, rfl, rfl, h0, r0⟩ := trodAll_cons hA
  obtain ⟨v1, vs1, d1, ds1, p1, q1, rfl, rfl, rfl, h1, r1⟩ := trodAll_cons r0
  obtain ⟨v2, vs2, d2, ds2, p2, q2, rfl, rfl, rfl, h2, r2⟩ := trodAll_cons r1
  obtain ⟨rfl, rfl, rfl⟩ := trodAll_nil r2
  obtain rfl : args = #[v0, v1, v2] := by cases args; simp_all
  obtain ⟨rfl, rfl⟩ := trodVars_none hV
  have k0 := h0
  have lt0 : ∀ x ∈ p0, x.block < W.heap.size := by obtain ⟨m, hm⟩ := k0; exact DataW.trod_lt m _ _ _ hm
  have re0 : Reads enc Try.prog W 0 (fun _ => true) true 3 (fun x => (i64v x).cells) (fun n => -9223372036854775808 ≤ n ∧ n ≤ 9223372036854775807) := reads_i64 Try.underlying3
  obtain ⟨b0, y0, z0, g0⟩ := slices0 (f := i64v) (s := 1) (B := 8) hsz (j := 0) (t := 75) rfl rfl Try.underlying75 (by kernel_rfl) (by kernel_rfl) (fun _ => rfl) re0 (hval 0 75 v0 rfl rfl) h0
  have zz0 : reachBytes = 140737488351232 := by decide
  obtain ⟨a1, rfl, rfl, rfl, w1⟩ := open_int Try.underlying3 (hval 1 3 v1 rfl rfl) h1
  have g1 : -9223372036854775808 ≤ a1 ∧ a1 ≤ 9223372036854775807 := by
    simp only [Lit.wf, IntKind.min, IntKind.max, IntKind.signed, IntKind.bits] at w1
    simp at w1
    omega
  obtain ⟨a2, rfl, rfl, rfl, w2⟩ := open_int Try.underlying3 (hval 2 3 v2 rfl rfl) h2
  have g2 : -9223372036854775808 ≤ a2 ∧ a2 ≤ 9223372036854775807 := by
    simp only [Lit.wf, IntKind.min, IntKind.max, IntKind.signed, IntKind.bits] at w2
    simp at w2
    omega
  clear hA0 hval0 hsz0 hsz
  have hr : RepL (ghost0 W) [.slice 1 (b0.map i64v) .none, i64v a1, i64v a2] [v0, .int .i64 a1, .int .i64 a2] := (.cons y0 (.cons (.v rfl) (.cons (.v rfl) .nil)))
  refine (law_calls (LensWrites b0 a1 a2 heap0 (by omega)) (fun v σ h => h.1) (cargs := #[v0, .int .i64 a1, .int .i64 a2]) hr).mono fun e W' ⟨he, bel⟩ => ?_
  subst he
  exact ⟨_, rfl, _, _, _, [], _, [], hW', trodAll_mk1 (shut_bool Try.underlying4 _), (trodAll_cons_mk (Below.trod lensWrites_laid (by kernel_rfl) (of_decide_eq_true (by kernel_rfl)) k0 bel lt0) (trodAll_cons_mk (shut_int Try.underlying3 w1) (trodAll_cons_mk (shut_int Try.underlying3 w2) trodAll_mk0))), rfl, bel.frame _, fun h => by cases h⟩

theorem lensWrites_closed : joinedFacts Try.pinned.checked.prog 13 Try.f13 Rows.lensWritesSpec Rows.lensWritesRow = true := by kernel_rfl
theorem lensWrites_named : Try.pinned.checked.prog.funcNamed Rows.lensWritesRow.func = some 13 := by kernel_rfl
theorem lensWrites_inst : Try.f13.isInstance Try.pinned.checked.prog Rows.lensWritesRow.origin Rows.lensWritesRow.targs := of_decide_eq_true (by kernel_rfl)
theorem lensWrites_wrap : Try.f13.isWrapper Try.pinned.checked.prog Rows.lensWritesRow.wrapper Rows.lensWritesRow.mainSum := by
  unfold Func.isWrapper; first | (rw [if_pos (by decide +kernel)]; kernel_rfl) | (rw [if_neg (by decide +kernel)]; exact ⟨rfl, rfl⟩)
theorem lensWrites_holds : Rows.LensWritesSaid :=
  OpenClaim.holds_of_wide 13 Try.f13 rfl rfl rfl rfl rfl rfl rfl ⟨rfl, rfl, rfl, rfl, rfl⟩ rfl rfl rfl rfl rfl lensWrites_named Try.func13 lensWrites_closed lensWrites_inst lensWrites_wrap
    (fun os started H enc _ => lensWrites_lifted os started H enc)
#print axioms lensWrites_holds
end Go.Proofs.Ytkdbmajkjlnpiab

