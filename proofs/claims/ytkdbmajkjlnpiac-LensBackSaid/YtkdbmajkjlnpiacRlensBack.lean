/-
  The row of LensBack: proved of all inputs; no condition.
-/
import Derived.Test.YtkdbmajkjlnpiacRows
import Derived.Test.YtkdbmajkjlnpiacClaweightb
import Derived.Test.YtkdbmajkjlnpiacFz
import Derived.WalkKit
import Derived.ProofKit
import Derived.OpenShut
import Derived.ShutString
import Derived.ChangeOld
import Derived.Below
import Derived.SizedLaws
namespace Go.Proofs.Ytkdbmajkjlnpiac
set_option linter.unusedVariables false
set_option linter.unusedSimpArgs false
open Go Go.Am Go.ChangeShapes Go.WideShapes Go.ChangeAt Go.RowKit
theorem lensBack_own : ownKnob Try.prog.godebug = none := by kernel_rfl
theorem lensBack_laid : laidOutB Try.prog = true := by kernel_rfl

set_option maxRecDepth 100000 in
theorem lensBack_lifted (os : Os) (started : os.Started) (H : Type) (enc : TypeId × Value → H) :
    ReturnsInHanded {} Try.checked os 3 .any (Rows.lensBackSpec.pre6 enc Try.prog Try.f3 Rows.lensBackRow.domain false) (Rows.lensBackSpec.post enc Try.prog Try.f3 false true false false) := by
  refine returnsInHanded_of_change_sized (C := Try.checked) lensBack_own started (by kernel_rfl) Try.func3
    (ChangeSpec.witness6 (enc := enc) (C := Try.checked) false ⟨#[], #[.slice none 0 0, .int .i64 0, .slice none 0 0, .slice none 0 0], []⟩ 8 (by kernel_rfl) (by kernel_rfl) (by kernel_rfl) (by kernel_rfl)) ?_
  intro W base args ds gs before hval0 hW hcnd hsz0 _
  have hsz : (DataW.weightsEach Try.prog (Try.f3.params.toList ++ Rows.lensBackSpec.plain.varTypes Try.prog) (ds ++ gs)).all (· ≤ reachBytes) = true := hsz0
  have hval : ∀ (j : Nat) t v, Try.f3.params[j]? = some t → args[j]? = some v → Value.okWide Try.prog W .any base t v := hval0
  have hW' := hW
  obtain ⟨p, q, hA0, hV, rfl, hfz, hnd⟩ := hW
  have hA : DataW.TrodAll enc Try.prog W 0 (fun _ => true) true Try.f3.params.toList args.toList ds p := hA0
  rw [Try.params3] at hA hval hsz
  obtain ⟨v0, vs0, d0, ds0, p0, q0, hargs, rfl, rfl, h0, r0⟩ := trodAll_cons hA
  obtain ⟨v1, vs1, d1, ds1, p1, q1, rfl, rfl, rfl, h1, r1⟩ := trodAll_cons r0
  obtain ⟨v2, vs2, d2, ds2, p2, q2, rfl, rfl, rfl, h2, r2⟩ := trodAll_cons r1
  obtain ⟨v3, vs3, d3, ds3, p3, q3, rfl, rfl, rfl, h3, r3⟩ := trodAll_cons r2
  obtain ⟨rfl, rfl, rfl⟩ := trodAll_nil r3
  obtain rfl : args = #[v0, v1, v2, v3] := by cases args; simp_all
  obtain ⟨rfl, rfl⟩ := trodVars_none hV
  have k0 := h0
  have lt0 : ∀ x ∈ p0, x.block < W.heap.size := by obtain ⟨m, hm⟩ := k0; exact DataW.trod_lt m _ _ _ hm
  have re0 : Reads enc Try.prog W 0 (fun _ => true) true 3 (fun x => (i64v x).cells) (fun n => -9223372036854775808 ≤ n ∧ n ≤ 9223372036854775807) := reads_i64 Try.underlying3
  obtain ⟨b0, y0, z0, g0⟩ := slices0 (f := i64v) (s := 1) (B := 8) hsz (j := 0) (t := 22) rfl rfl Try.underlying22 (by kernel_rfl) (by kernel_rfl) (fun _ => rfl) re0 (hval 0 22 v0 rfl rfl) h0
  have zz0 : reachBytes = 140737488351232 := by decide
  obtain ⟨a1, rfl, rfl, rfl, w1⟩ := open_int Try.underlying3 (hval 1 3 v1 rfl rfl) h1
  have g1 : -9223372036854775808 ≤ a1 ∧ a1 ≤ 9223372036854775807 := by
    simp only [Lit.wf, IntKind.min, IntKind.max, IntKind.signed, IntKind.bits] at w1
    simp at w1
    omega
  have k2 := h2
  have lt2 : ∀ x ∈ p2, x.block < W.heap.size := by obtain ⟨m, hm⟩ := k2; exact DataW.trod_lt m _ _ _ hm
  obtain ⟨b2, y2, z2⟩ := bytes0 hsz (j := 2) (t := 23) rfl rfl Try.underlying23 Try.underlying5 (by kernel_rfl) (by kernel_rfl) (hval 2 23 v2 rfl rfl) h2
  have k3 := h3
  have lt3 : ∀ x ∈ p3, x.block < W.heap.size := by obtain ⟨m, hm⟩ := k3; exact DataW.trod_lt m _ _ _ hm
  obtain ⟨b3, y3, z3⟩ := bytes0 hsz (j := 3) (t := 23) rfl rfl Try.underlying23 Try.underlying5 (by kernel_rfl) (by kernel_rfl) (hval 3 23 v3 rfl rfl) h3
  clear hA0 hval0 hsz0 hsz
  have hr : RepL (ghost0 W) [.slice 1 (b0.map i64v) .none, i64v a1, sl .none b2, sl .none b3] [v0, .int .i64 a1, v2, v3] := (.cons y0 (.cons (.v rfl) (.cons y2 (.cons y3 .nil))))
  refine (law_calls (LensBack b0 a1 b2 b3 heap0 (by omega) (by omega) (by omega)) (fun v σ h => h.1) (cargs := #[v0, .int .i64 a1, v2, v3]) hr).mono fun e W' ⟨he, bel⟩ => ?_
  subst he
  exact ⟨_, rfl, _, _, _, [], _, [], hW', trodAll_mk1 (shut_bool Try.underlying4 _), (trodAll_cons_mk (Below.trod lensBack_laid (by kernel_rfl) (of_decide_eq_true (by kernel_rfl)) k0 bel lt0) (trodAll_cons_mk (shut_int Try.underlying3 w1) (trodAll_cons_mk (Below.trod lensBack_laid (by kernel_rfl) (of_decide_eq_true (by kernel_rfl)) k2 bel lt2) (trodAll_cons_mk (Below.trod lensBack_laid (by kernel_rfl) (of_decide_eq_true (by kernel_rfl)) k3 bel lt3) trodAll_mk0)))), rfl, bel.frame _, fun h => by cases h⟩

theorem lensBack_closed : joinedFacts Try.pinned.checked.prog 3 Try.f3 Rows.lensBackSpec Rows.lensBackRow = true := by kernel_rfl
theorem lensBack_named : Try.pinned.checked.prog.funcNamed Rows.lensBackRow.func = some 3 := by kernel_rfl
theorem lensBack_inst : Try.f3.isInstance Try.pinned.checked.prog Rows.lensBackRow.origin Rows.lensBackRow.targs := of_decide_eq_true (by kernel_rfl)
theorem lensBack_wrap : Try.f3.isWrapper Try.pinned.checked.prog Rows.lensBackRow.wrapper Rows.lensBackRow.mainSum := by
  unfold Func.isWrapper; first | (rw [if_pos (by decide +kernel)]; kernel_rfl) | (rw [if_neg (by decide +kernel)]; exact ⟨rfl, rfl⟩)
theorem lensBack_holds : Rows.LensBackSaid :=
  OpenClaim.holds_of_wide 3 Try.f3 rfl rfl rfl rfl rfl rfl rfl ⟨rfl, rfl, rfl, rfl, rfl⟩ rfl rfl rfl rfl rfl lensBack_named Try.func3 lensBack_closed lensBack_inst lensBack_wrap
    (fun os started H enc _ => lensBack_lifted os started H enc)
#print axioms lensBack_holds
end Go.Proofs.Ytkdbmajkjlnpiac

