/-
  The row of BsrBytes: proved of all inputs; no condition.
-/
import Derived.Test.YtkdbmajkjlnpiabRows
import Derived.Test.YtkdbmajkjlnpiabCrefbsr
import Derived.Test.YtkdbmajkjlnpiabFz
import Derived.WalkKit
import Derived.ProofKit
import Derived.OpenShut
import Derived.ShutString
import Derived.ChangeOld
import Derived.Below
import Derived.SizedLaws
namespace Go.Proofs.Ytkdbmajkjlnpiab
set_option linter.unusedVariables false
set_option linter.unusedSimpArgs false
open Go Go.Am Go.ChangeShapes Go.WideShapes Go.ChangeAt Go.RowKit
theorem bsrBytes_own : ownKnob Try.prog.godebug = none := by kernel_rfl
theorem bsrBytes_laid : laidOutB Try.prog = true := by kernel_rfl

set_option maxRecDepth 100000 in
theorem bsrBytes_lifted (os : Os) (started : os.Started) (H : Type) (enc : TypeId × Value → H) :
    ReturnsInHanded {} Try.checked os 8 .any (Rows.bsrBytesSpec.pre6 enc Try.prog Try.f8 Rows.bsrBytesRow.domain false) (Rows.bsrBytesSpec.post enc Try.prog Try.f8 false true false false) := by
  refine returnsInHanded_of_change_sized (C := Try.checked) bsrBytes_own started (by kernel_rfl) Try.func8
    (ChangeSpec.witness6 (enc := enc) (C := Try.checked) false ⟨#[], #[.agg #[.int .i64 0, .int .i64 0, .int .i64 0, .int .i64 0], .slice none 0 0], []⟩ 8 (by kernel_rfl) (by kernel_rfl) (by kernel_rfl) (by kernel_rfl)) ?_
  intro W base args ds gs before hval0 hW hcnd hsz0 _
  have hsz : (DataW.weightsEach Try.prog (Try.f8.params.toList ++ Rows.bsrBytesSpec.plain.varTypes Try.prog) (ds ++ gs)).all (· ≤ reachBytes) = true := hsz0
  have hval : ∀ (j : Nat) t v, Try.f8.params[j]? = some t → args[j]? = some v → Value.okWide Try.prog W .any base t v := hval0
  have hW' := hW
  obtain ⟨p, q, hA0, hV, rfl, hfz, hnd⟩ := hW
  have hA : DataW.TrodAll enc Try.prog W 0 (fun _ => true) true Try.f8.params.toList args.toList ds p := hA0
  rw [Try.params8] at hA hval hsz
  obtain ⟨v0, vs0, d0, ds0, p0, q0, hargs, rfl, rfl, h0, r0⟩ := trodAll_cons hA
  obtain ⟨v1, vs1, d1, ds1, p1, q1, rfl, rfl, rfl, h1, r1⟩ := trodAll_cons r0
  obtain ⟨rfl, rfl, rfl⟩ := trodAll_nil r1
  obtain rfl : args = #[v0, v1] := by cases args; simp_all
  obtain ⟨rfl, rfl⟩ := trodVars_none hV
  have k0 := h0
  have lt0 : ∀ x ∈ p0, x.block < W.heap.size := by obtain ⟨m, hm⟩ := k0; exact DataW.trod_lt m _ _ _ hm
  have re0 : Reads enc Try.prog W 0 (fun _ => true) true 90 (fun l : List Int => l.map i64v) (fun l => l.length = 4 ∧ ∀ z ∈ l, -9223372036854775808 ≤ z ∧ z ≤ 9223372036854775807) := reads_array_i64 Try.underlying90 Try.underlying3 (by kernel_rfl) (by kernel_rfl)
  obtain ⟨b0, y0, g0⟩ := aggs0 (.inl ⟨_, _, Try.underlying90⟩) re0 (hval 0 90 v0 rfl rfl) h0
  have k1 := h1
  have lt1 : ∀ x ∈ p1, x.block < W.heap.size := by obtain ⟨m, hm⟩ := k1; exact DataW.trod_lt m _ _ _ hm
  obtain ⟨b1, y1, z1⟩ := bytes0 hsz (j := 1) (t := 29) rfl rfl Try.underlying29 Try.underlying5 (by kernel_rfl) (by kernel_rfl) (hval 1 29 v1 rfl rfl) h1
  clear hA0 hval0 hsz0 hsz
  have hr : RepL (ghost0 W) [rep b0, sl .none b1] [v0, v1] := (.cons y0 (.cons y1 .nil))
  refine (law_calls (BsrBytes b0 b1 g0.1 heap0 (by omega)) (fun v σ h => h.1) (cargs := #[v0, v1]) hr).mono fun e W' ⟨he, bel⟩ => ?_
  subst he
  exact ⟨_, rfl, _, _, _, [], _, [], hW', trodAll_mk1 (shut_bool Try.underlying4 _), (trodAll_cons_mk (Below.trod bsrBytes_laid (by kernel_rfl) (of_decide_eq_true (by kernel_rfl)) k0 bel lt0) (trodAll_cons_mk (Below.trod bsrBytes_laid (by kernel_rfl) (of_decide_eq_true (by kernel_rfl)) k1 bel lt1) trodAll_mk0)), rfl, bel.frame _, fun h => by cases h⟩

theorem bsrBytes_closed : joinedFacts Try.pinned.checked.prog 8 Try.f8 Rows.bsrBytesSpec Rows.bsrBytesRow = true := by kernel_rfl
theorem bsrBytes_named : Try.pinned.checked.prog.funcNamed Rows.bsrBytesRow.func = some 8 := by kernel_rfl
theorem bsrBytes_inst : Try.f8.isInstance Try.pinned.checked.prog Rows.bsrBytesRow.origin Rows.bsrBytesRow.targs := of_decide_eq_true (by kernel_rfl)
theorem bsrBytes_wrap : Try.f8.isWrapper Try.pinned.checked.prog Rows.bsrBytesRow.wrapper Rows.bsrBytesRow.mainSum := by
  unfold Func.isWrapper; first | (rw [if_pos (by decide +kernel)]; kernel_rfl) | (rw [if_neg (by decide +kernel)]; exact ⟨rfl, rfl⟩)
theorem bsrBytes_holds : Rows.BsrBytesSaid :=
  OpenClaim.holds_of_wide 8 Try.f8 rfl rfl rfl rfl rfl rfl rfl ⟨rfl, rfl, rfl, rfl, rfl⟩ rfl rfl rfl rfl rfl bsrBytes_named Try.func8 bsrBytes_closed bsrBytes_inst bsrBytes_wrap
    (fun os started H enc _ => bsrBytes_lifted os started H enc)
#print axioms bsrBytes_holds
end Go.Proofs.Ytkdbmajkjlnpiab

