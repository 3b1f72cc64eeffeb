/-
  The row of CheckSums: proved of all inputs; no condition.
-/
import Derived.Test.YtmgjkfepcejgnaaRows
import Derived.Test.YtmgjkfepcejgnaaClawseven
import Derived.Test.YtmgjkfepcejgnaaFy
import Derived.WalkKit
import Derived.ProofKit
import Derived.OpenShut
import Derived.ShutString
import Derived.ChangeOld
import Derived.Below
import Derived.SizedLaws
namespace Go.Proofs.Ytmgjkfepcejgnaa
set_option linter.unusedVariables false
set_option linter.unusedSimpArgs false
open Go Go.Am Go.ChangeShapes Go.WideShapes Go.ChangeAt Go.RowKit
theorem checkSums_own : ownKnob Try.prog.godebug = none := by kernel_rfl
theorem checkSums_laid : laidOutB Try.prog = true := by kernel_rfl

set_option maxRecDepth 100000 in
theorem checkSums_lifted (os : Os) (started : os.Started) (H : Type) (enc : TypeId × Value → H) :
    ReturnsInHanded {} Try.checked os 3 .any (Rows.checkSumsSpec.pre6 enc Try.prog Try.f3 Rows.checkSumsRow.domain false) (Rows.checkSumsSpec.post enc Try.prog Try.f3 false true false false) := by
  refine returnsInHanded_of_change_sized (C := Try.checked) checkSums_own started (by kernel_rfl) Try.func3
    (ChangeSpec.witness6 (enc := enc) (C := Try.checked) false ⟨#[], #[.int .u16 0, .slice none 0 0, .slice none 0 0], []⟩ 8 (by kernel_rfl) (by kernel_rfl) (by kernel_rfl) (by kernel_rfl)) ?_
  intro W base args ds gs before hval0 hW hcnd hsz0 _
  have hsz : (DataW.weightsEach Try.prog (Try.f3.params.toList ++ Rows.checkSumsSpec.plain.varTypes Try.prog) (ds ++ gs)).all (· ≤ reachBytes) = true := hsz0
  have hval : ∀ (j : Nat) t v, Try.f3.params[j]? = some t → args[j]? = some v → Value.okWide Try.prog W .any base t v := hval0
  have hW' := hW
  obtain ⟨p, q, hA0, hV, rfl, hfz, hnd⟩ := hW
  have hA : DataW.TrodAll enc Try.prog W 0 (fun _ => true) true Try.f3.params.toList args.toList ds p := hA0
  rw [Try.params3] at hA hval hsz
  obtain ⟨v0, vs0, d0, ds0, p0, q0, hargs, rfl, rfl, h0, r0⟩ := trodAll_cons hA
  obtain ⟨v1, vs1, d1, ds1, p1, q1, rfl, rfl, rfl, h1, r1⟩ := trodAll_cons r0
  obtain ⟨v2, vs2, d2, ds2, p2, q2, rfl, rfl, rfl, h2, r2⟩ := trodAll_cons r1
  obtain ⟨rfl, rfl, rfl⟩ := trodAll_nil r2
  obtain rfl : args = #[v0, v1, v2] := by cases args; simp_all
  obtain ⟨rfl, rfl⟩ := trodVars_none hV
  obtain ⟨a0, rfl, rfl, rfl, w0⟩ := open_int Try.underlying22 (hval 0 22 v0 rfl rfl) h0
  have e0 : ((BitVec.ofNat 16 a0.toNat).toNat : Int) = a0 := by
    simp only [Lit.wf, IntKind.min, IntKind.max, IntKind.signed, IntKind.bits] at w0
    simp at w0
    rw [BitVec.toNat_ofNat]; omega
  have x0 : RepV (ghost0 W) (u16v (BitVec.ofNat 16 a0.toNat)) (.int .u16 a0) := by unfold u16v; rw [e0]; exact .v rfl
  have k1 := h1
  have lt1 : ∀ x ∈ p1, x.block < W.heap.size := by obtain ⟨m, hm⟩ := k1; exact DataW.trod_lt m _ _ _ hm
  obtain ⟨b1, y1, z1⟩ := bytes0 hsz (j := 1) (t := 23) rfl rfl Try.underlying23 Try.underlying5 (by kernel_rfl) (by kernel_rfl) (hval 1 23 v1 rfl rfl) h1
  have k2 := h2
  have lt2 : ∀ x ∈ p2, x.block < W.heap.size := by obtain ⟨m, hm⟩ := k2; exact DataW.trod_lt m _ _ _ hm
  obtain ⟨b2, y2, z2⟩ := bytes0 hsz (j := 2) (t := 23) rfl rfl Try.underlying23 Try.underlying5 (by kernel_rfl) (by kernel_rfl) (hval 2 23 v2 rfl rfl) h2
  clear hA0 hval0 hsz0 hsz
  have hr : RepL (ghost0 W) [u16v (BitVec.ofNat 16 a0.toNat), sl .none b1, sl .none b2] [.int .u16 a0, v1, v2] := (.cons x0 (.cons y1 (.cons y2 .nil)))
  refine (law_calls (CheckSums _ b1 b2 heap0 (by omega) (by omega)) (fun v σ h => h.1) (cargs := #[.int .u16 a0, v1, v2]) hr).mono fun e W' ⟨he, bel⟩ => ?_
  subst he
  exact ⟨_, rfl, _, _, _, [], _, [], hW', trodAll_mk1 (shut_bool Try.underlying4 _), (trodAll_cons_mk (shut_int Try.underlying22 w0) (trodAll_cons_mk (Below.trod checkSums_laid (by kernel_rfl) (of_decide_eq_true (by kernel_rfl)) k1 bel lt1) (trodAll_cons_mk (Below.trod checkSums_laid (by kernel_rfl) (of_decide_eq_true (by kernel_rfl)) k2 bel lt2) trodAll_mk0))), rfl, bel.frame _, fun h => by cases h⟩

theorem checkSums_closed : joinedFacts Try.pinned.checked.prog 3 Try.f3 Rows.checkSumsSpec Rows.checkSumsRow = true := by kernel_rfl
theorem checkSums_named : Try.pinned.checked.prog.funcNamed Rows.checkSumsRow.func = some 3 := by kernel_rfl
theorem checkSums_inst : Try.f3.isInstance Try.pinned.checked.prog Rows.checkSumsRow.origin Rows.checkSumsRow.targs := of_decide_eq_true (by kernel_rfl)
theorem checkSums_wrap : Try.f3.isWrapper Try.pinned.checked.prog Rows.checkSumsRow.wrapper Rows.checkSumsRow.mainSum := by
  unfold Func.isWrapper; first | (rw [if_pos (by decide +kernel)]; kernel_rfl) | (rw [if_neg (by decide +kernel)]; exact ⟨rfl, rfl⟩)
theorem checkSums_holds : Rows.CheckSumsSaid :=
  OpenClaim.holds_of_wide 3 Try.f3 rfl rfl rfl rfl rfl rfl rfl ⟨rfl, rfl, rfl, rfl, rfl⟩ rfl rfl rfl rfl rfl checkSums_named Try.func3 checkSums_closed checkSums_inst checkSums_wrap
    (fun os started H enc _ => checkSums_lifted os started H enc)
#print axioms checkSums_holds
end Go.Proofs.Ytmgjkfepcejgnaa
