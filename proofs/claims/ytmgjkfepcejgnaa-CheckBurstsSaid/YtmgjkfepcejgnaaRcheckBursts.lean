/-
  The row of CheckBursts: proved of all inputs; no condition.
-/
import Derived.Test.YtmgjkfepcejgnaaRows
import Derived.Test.YtmgjkfepcejgnaaClawsevenc
import Derived.Test.YtmgjkfepcejgnaaFy
import Derived.WalkKit
import Derived.ProofKit
import Derived.OpenShut
import Derived.ShutString
import Derived.ChangeOld
import Derived.Below
import Derived.SizedLaws
namespace Go.Proofs.Ytmgjkfepcejgnaa
set_option linter.unusedVariables false
set_option linter.unusedSimpArgs false
open Go Go.Am Go.ChangeShapes Go.WideShapes Go.ChangeAt Go.RowKit
theorem checkBursts_own : ownKnob Try.prog.godebug = none := by kernel_rfl
theorem checkBursts_laid : laidOutB Try.prog = true := by kernel_rfl

set_option maxRecDepth 100000 in
theorem checkBursts_lifted (os : Os) (started : os.Started) (H : Type) (enc : TypeId × Value → H) :
    ReturnsInHanded {} Try.checked os 5 .any (Rows.checkBurstsSpec.pre6 enc Try.prog Try.f5 Rows.checkBurstsRow.domain false) (Rows.checkBurstsSpec.post enc Try.prog Try.f5 false true false false) := by
  refine returnsInHanded_of_change_sized (C := Try.checked) checkBursts_own started (by kernel_rfl) Try.func5
    (ChangeSpec.witness6 (enc := enc) (C := Try.checked) false ⟨#[], #[.slice none 0 0, .int .i64 0, .int .u16 0], []⟩ 8 (by kernel_rfl) (by kernel_rfl) (by kernel_rfl) (by kernel_rfl)) ?_
  intro W base args ds gs before hval0 hW hcnd hsz0 _
  have hsz : (DataW.weightsEach Try.prog (Try.f5.params.toList ++ Rows.checkBurstsSpec.plain.varTypes Try.prog) (ds ++ gs)).all (· ≤ reachBytes) = true := hsz0
  have hval : ∀ (j : Nat) t v, Try.f5.params[j]? = some t → args[j]? = some v → Value.okWide Try.prog W .any base t v := hval0
  have hW' := hW
  obtain ⟨p, q, hA0, hV, rfl, hfz, hnd⟩ := hW
  have hA : DataW.TrodAll enc Try.prog W 0 (fun _ => true) true Try.f5.params.toList args.toList ds p := hA0
  rw [Try.params5] at hA hval hsz
  obtain ⟨v0, vs0, d0, ds0, p0, q0, hargs, rfl, rfl, h0, r0⟩ := trodAll_cons hA
  obtain ⟨v1, vs1, d1, ds1, p1, q1, rfl, rfl, rfl, h1, r1⟩ := trodAll_cons r0
  obtain ⟨v2, vs2, d2, ds2, p2, q2, rfl, rfl, rfl, h2, r2⟩ := trodAll_cons r1
  obtain ⟨rfl, rfl, rfl⟩ := trodAll_nil r2
  obtain rfl : args = #[v0, v1, v2] := by cases args; simp_all
  obtain ⟨rfl, rfl⟩ := trodVars_none hV
  have k0 := h0
  have lt0 : ∀ x ∈ p0, x.block < W.heap.size := by obtain ⟨m, hm⟩ := k0; exact DataW.trod_lt m _ _ _ hm
  obtain ⟨b0, y0, z0⟩ := bytes0 hsz (j := 0) (t := 23) rfl rfl Try.underlying23 Try.underlying5 (by kernel_rfl) (by kernel_rfl) (hval 0 23 v0 rfl rfl) h0
  obtain ⟨a1, rfl, rfl, rfl, w1⟩ := open_int Try.underlying3 (hval 1 3 v1 rfl rfl) h1
  have g1 : -9223372036854775808 ≤ a1 ∧ a1 ≤ 9223372036854775807 := by
    simp only [Lit.wf, IntKind.min, IntKind.max, IntKind.signed, IntKind.bits] at w1
    simp at w1
    omega
  obtain ⟨a2, rfl, rfl, rfl, w2⟩ := open_int Try.underlying22 (hval 2 22 v2 rfl rfl) h2
  have e2 : ((BitVec.ofNat 16 a2.toNat).toNat : Int) = a2 := by
    simp only [Lit.wf, IntKind.min, IntKind.max, IntKind.signed, IntKind.bits] at w2
    simp at w2
    rw [BitVec.toNat_ofNat]; omega
  have x2 : RepV (ghost0 W) (u16v (BitVec.ofNat 16 a2.toNat)) (.int .u16 a2) := by unfold u16v; rw [e2]; exact .v rfl
  clear hA0 hval0 hsz0 hsz
  have hr : RepL (ghost0 W) [sl .none b0, i64v a1, u16v (BitVec.ofNat 16 a2.toNat)] [v0, .int .i64 a1, .int .u16 a2] := (.cons y0 (.cons (.v rfl) (.cons x2 .nil)))
  refine (law_calls (CheckBursts b0 a1 (BitVec.ofNat 16 a2.toNat) heap0 (by omega)) (fun v σ h => h) (cargs := #[v0, .int .i64 a1, .int .u16 a2]) hr).mono fun e W' ⟨he, bel⟩ => ?_
  subst he
  exact ⟨_, rfl, _, _, _, [], _, [], hW', trodAll_mk1 (shut_bool Try.underlying4 _), (trodAll_cons_mk (Below.trod checkBursts_laid (by kernel_rfl) (of_decide_eq_true (by kernel_rfl)) k0 bel lt0) (trodAll_cons_mk (shut_int Try.underlying3 w1) (trodAll_cons_mk (shut_int Try.underlying22 w2) trodAll_mk0))), rfl, bel.frame _, fun h => by cases h⟩

theorem checkBursts_closed : joinedFacts Try.pinned.checked.prog 5 Try.f5 Rows.checkBurstsSpec Rows.checkBurstsRow = true := by kernel_rfl
theorem checkBursts_named : Try.pinned.checked.prog.funcNamed Rows.checkBurstsRow.func = some 5 := by kernel_rfl
theorem checkBursts_inst : Try.f5.isInstance Try.pinned.checked.prog Rows.checkBurstsRow.origin Rows.checkBurstsRow.targs := of_decide_eq_true (by kernel_rfl)
theorem checkBursts_wrap : Try.f5.isWrapper Try.pinned.checked.prog Rows.checkBurstsRow.wrapper Rows.checkBurstsRow.mainSum := by
  unfold Func.isWrapper; first | (rw [if_pos (by decide +kernel)]; kernel_rfl) | (rw [if_neg (by decide +kernel)]; exact ⟨rfl, rfl⟩)
theorem checkBursts_holds : Rows.CheckBurstsSaid :=
  OpenClaim.holds_of_wide 5 Try.f5 rfl rfl rfl rfl rfl rfl rfl ⟨rfl, rfl, rfl, rfl, rfl⟩ rfl rfl rfl rfl rfl checkBursts_named Try.func5 checkBursts_closed checkBursts_inst checkBursts_wrap
    (fun os started H enc _ => checkBursts_lifted os started H enc)
#print axioms checkBursts_holds
end Go.Proofs.Ytmgjkfepcejgnaa
