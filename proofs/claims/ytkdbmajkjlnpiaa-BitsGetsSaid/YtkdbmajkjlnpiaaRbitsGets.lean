/-
  The row of BitsGets: proved of all inputs; no condition.
-/
import Derived.Test.YtkdbmajkjlnpiaaRows
import Derived.Test.YtkdbmajkjlnpiaaClawonec
import Derived.Test.YtkdbmajkjlnpiaaFz
import Derived.WalkKit
import Derived.ProofKit
import Derived.OpenShut
import Derived.ShutString
import Derived.ChangeOld
import Derived.Below
import Derived.SizedLaws
namespace Go.Proofs.Ytkdbmajkjlnpiaa
set_option linter.unusedVariables false
set_option linter.unusedSimpArgs false
open Go Go.Am Go.ChangeShapes Go.WideShapes Go.ChangeAt Go.RowKit
theorem bitsGets_own : ownKnob Try.prog.godebug = none := by kernel_rfl
theorem bitsGets_laid : laidOutB Try.prog = true := by kernel_rfl

set_option maxRecDepth 100000 in
theorem bitsGets_lifted (os : Os) (started : os.Started) (H : Type) (enc : TypeId × Value → H) :
    ReturnsInHanded {} Try.checked os 7 .any (Rows.bitsGetsSpec.pre6 enc Try.prog Try.f7 Rows.bitsGetsRow.domain false) (Rows.bitsGetsSpec.post enc Try.prog Try.f7 false true false false) := by
  refine returnsInHanded_of_change_sized (C := Try.checked) bitsGets_own started (by kernel_rfl) Try.func7
    (ChangeSpec.witness6 (enc := enc) (C := Try.checked) false ⟨#[], #[.slice none 0 0, .slice none 0 0], []⟩ 8 (by kernel_rfl) (by kernel_rfl) (by kernel_rfl) (by kernel_rfl)) ?_
  intro W base args ds gs before hval0 hW hcnd hsz0 _
  have hsz : (DataW.weightsEach Try.prog (Try.f7.params.toList ++ Rows.bitsGetsSpec.plain.varTypes Try.prog) (ds ++ gs)).all (· ≤ reachBytes) = true := hsz0
  have hval : ∀ (j : Nat) t v, Try.f7.params[j]? = some t → args[j]? = some v → Value.okWide Try.prog W .any base t v := hval0
  have hW' := hW
  obtain ⟨p, q, hA0, hV, rfl, hfz, hnd⟩ := hW
  have hA : DataW.TrodAll enc Try.prog W 0 (fun _ => true) true Try.f7.params.toList args.toList ds p := hA0
  rw [Try.params7] at hA hval hsz
  obtain ⟨v0, vs0, d0, ds0, p0, q0, hargs, rfl, rfl, h0, r0⟩ := trodAll_cons hA
  obtain ⟨v1, vs1, d1, ds1, p1, q1, rfl, rfl, rfl, h1, r1⟩ := trodAll_cons r0
  obtain ⟨rfl, rfl, rfl⟩ := trodAll_nil r1
  obtain rfl : args = #[v0, v1] := by cases args; simp_all
  obtain ⟨rfl, rfl⟩ := trodVars_none hV
  have k0 := h0
  have lt0 : ∀ x ∈ p0, x.block < W.heap.size := by obtain ⟨m, hm⟩ := k0; exact DataW.trod_lt m _ _ _ hm
  obtain ⟨b0, y0, z0⟩ := bytes0 hsz (j := 0) (t := 35) rfl rfl Try.underlying35 Try.underlying5 (by kernel_rfl) (by kernel_rfl) (hval 0 35 v0 rfl rfl) h0
  have k1 := h1
  have lt1 : ∀ x ∈ p1, x.block < W.heap.size := by obtain ⟨m, hm⟩ := k1; exact DataW.trod_lt m _ _ _ hm
  have re1 : Reads enc Try.prog W 0 (fun _ => true) true 3 (fun x => (i64v x).cells) (fun n => -9223372036854775808 ≤ n ∧ n ≤ 9223372036854775807) := reads_i64 Try.underlying3
  obtain ⟨b1, y1, z1, g1⟩ := slices0 (f := i64v) (s := 1) (B := 8) hsz (j := 1) (t := 51) rfl rfl Try.underlying51 (by kernel_rfl) (by kernel_rfl) (fun _ => rfl) re1 (hval 1 51 v1 rfl rfl) h1
  have zz1 : reachBytes = 140737488351232 := by decide
  clear hA0 hval0 hsz0 hsz
  have hr : RepL (ghost0 W) [sl .none b0, .slice 1 (b1.map i64v) .none] [v0, v1] := (.cons y0 (.cons y1 .nil))
  refine (law_calls (BitsGets b0 b1 heap0 (by omega)) (fun v σ h => h.1) (cargs := #[v0, v1]) hr).mono fun e W' ⟨he, bel⟩ => ?_
  subst he
  exact ⟨_, rfl, _, _, _, [], _, [], hW', trodAll_mk1 (shut_bool Try.underlying4 _), (trodAll_cons_mk (Below.trod bitsGets_laid (by kernel_rfl) (of_decide_eq_true (by kernel_rfl)) k0 bel lt0) (trodAll_cons_mk (Below.trod bitsGets_laid (by kernel_rfl) (of_decide_eq_true (by kernel_rfl)) k1 bel lt1) trodAll_mk0)), rfl, bel.frame _, fun h => by cases h⟩

theorem bitsGets_closed : joinedFacts Try.pinned.checked.prog 7 Try.f7 Rows.bitsGetsSpec Rows.bitsGetsRow = true := by kernel_rfl
theorem bitsGets_named : Try.pinned.checked.prog.funcNamed Rows.bitsGetsRow.func = some 7 := by kernel_rfl
theorem bitsGets_inst : Try.f7.isInstance Try.pinned.checked.prog Rows.bitsGetsRow.origin Rows.bitsGetsRow.targs := of_decide_eq_true (by kernel_rfl)
theorem bitsGets_wrap : Try.f7.isWrapper Try.pinned.checked.prog Rows.bitsGetsRow.wrapper Rows.bitsGetsRow.mainSum := by
  unfold Func.isWrapper; first | (rw [if_pos (by decide +kernel)]; kernel_rfl) | (rw [if_neg (by decide +kernel)]; exact ⟨rfl, rfl⟩)
theorem bitsGets_holds : Rows.BitsGetsSaid :=
  OpenClaim.holds_of_wide 7 Try.f7 rfl rfl rfl rfl rfl rfl rfl ⟨rfl, rfl, rfl, rfl, rfl⟩ rfl rfl rfl rfl rfl bitsGets_named Try.func7 bitsGets_closed bitsGets_inst bitsGets_wrap
    (fun os started H enc _ => bitsGets_lifted os started H enc)
#print axioms bitsGets_holds
end Go.Proofs.Ytkdbmajkjlnpiaa

