/-
  The row of MuxReads: proved of all inputs; no condition.
-/
import Derived.Test.YtndphnojmpeogaaRows
import Derived.Test.YtndphnojmpeogaaClaw30b
import Derived.Test.YtndphnojmpeogaaFz
import Derived.WalkKit
import Derived.ProofKit
import Derived.OpenShut
import Derived.ShutString
import Derived.ChangeOld
import Derived.Below
import Derived.SizedLaws
namespace Go.Proofs.Ytndphnojmpeogaa
set_option linter.unusedVariables false
set_option linter.unusedSimpArgs false
open Go Go.Am Go.ChangeShapes Go.WideShapes Go.ChangeAt Go.RowKit
theorem muxReads_own : ownKnob Try.prog.godebug = none := by kernel_rfl
theorem muxReads_laid : laidOutB Try.prog = true := by kernel_rfl

set_option maxRecDepth 100000 in
theorem muxReads_lifted (os : Os) (started : os.Started) (H : Type) (enc : TypeId × Value → H) :
    ReturnsInHanded {} Try.checked os 3 .any (Rows.muxReadsSpec.pre6 enc Try.prog Try.f3 Rows.muxReadsRow.domain false) (Rows.muxReadsSpec.post enc Try.prog Try.f3 false true false false) := by
  refine returnsInHanded_of_change_sized (C := Try.checked) muxReads_own started (by kernel_rfl) Try.func3
    (ChangeSpec.witness6 (enc := enc) (C := Try.checked) false ⟨#[], #[.slice none 0 0], []⟩ 8 (by kernel_rfl) (by kernel_rfl) (by kernel_rfl) (by kernel_rfl)) ?_
  intro W base args ds gs before hval0 hW hcnd hsz0 _
  have hsz : (DataW.weightsEach Try.prog (Try.f3.params.toList ++ Rows.muxReadsSpec.plain.varTypes Try.prog) (ds ++ gs)).all (· ≤ reachBytes) = true := hsz0
  have hval : ∀ (j : Nat) t v, Try.f3.params[j]? = some t → args[j]? = some v → Value.okWide Try.prog W .any base t v := hval0
  have hW' := hW
  obtain ⟨p, q, hA0, hV, rfl, hfz, hnd⟩ := hW
  have hA : DataW.TrodAll enc Try.prog W 0 (fun _ => true) true Try.f3.params.toList args.toList ds p := hA0
  rw [Try.params3] at hA hval hsz
  obtain ⟨v0, vs0, d0, ds0, p0, q0, hargs, rfl, rfl, h0, r0⟩ := trodAll_cons hA
  obtain ⟨rfl, rfl, rfl⟩ := trodAll_nil r0
  obtain rfl : args = #[v0] := by cases args; simp_all
  obtain ⟨rfl, rfl⟩ := trodVars_none hV
  have k0 := h0
  have lt0 : ∀ x ∈ p0, x.block < W.heap.size := by obtain ⟨m, hm⟩ := k0; exact DataW.trod_lt m _ _ _ hm
  obtain ⟨b0, y0, z0⟩ := bytes0 hsz (j := 0) (t := 22) rfl rfl Try.underlying22 Try.underlying5 (by kernel_rfl) (by kernel_rfl) (hval 0 22 v0 rfl rfl) h0
  clear hA0 hval0 hsz0 hsz
  have hr : RepL (ghost0 W) [sl .none b0] [v0] := (.cons y0 .nil)
  refine (law_calls (MuxReads b0 heap0 (by omega)) (fun v σ h => h.1) (cargs := #[v0]) hr).mono fun e W' ⟨he, bel⟩ => ?_
  subst he
  exact ⟨_, rfl, _, _, _, [], _, [], hW', trodAll_mk1 (shut_bool Try.underlying4 _), (trodAll_cons_mk (Below.trod muxReads_laid (by kernel_rfl) (of_decide_eq_true (by kernel_rfl)) k0 bel lt0) trodAll_mk0), rfl, bel.frame _, fun h => by cases h⟩

theorem muxReads_closed : joinedFacts Try.pinned.checked.prog 3 Try.f3 Rows.muxReadsSpec Rows.muxReadsRow = true := by kernel_rfl
theorem muxReads_named : Try.pinned.checked.prog.funcNamed Rows.muxReadsRow.func = some 3 := by kernel_rfl
theorem muxReads_inst : Try.f3.isInstance Try.pinned.checked.prog Rows.muxReadsRow.origin Rows.muxReadsRow.targs := of_decide_eq_true (by kernel_rfl)
theorem muxReads_wrap : Try.f3.isWrapper Try.pinned.checked.prog Rows.muxReadsRow.wrapper Rows.muxReadsRow.mainSum := by
  unfold Func.isWrapper; first | (rw [if_pos (by decide +kernel)]; kernel_rfl) | (rw [if_neg (by decide +kernel)]; exact ⟨rfl, rfl⟩)
theorem muxReads_holds : Rows.MuxReadsSaid :=
  OpenClaim.holds_of_wide 3 Try.f3 rfl rfl rfl rfl rfl rfl rfl ⟨rfl, rfl, rfl, rfl, rfl⟩ rfl rfl rfl rfl rfl muxReads_named Try.func3 muxReads_closed muxReads_inst muxReads_wrap
    (fun os started H enc _ => muxReads_lifted os started H enc)
#print axioms muxReads_holds
end Go.Proofs.Ytndphnojmpeogaa

