/-
  The row of BitsBack: proved of all inputs; no condition.
-/
import Derived.Test.YtkdbmajkjlnpiaaRows
import Derived.Test.YtkdbmajkjlnpiaaClawonee
import Derived.Test.YtkdbmajkjlnpiaaFz
import Derived.WalkKit
import Derived.ProofKit
import Derived.OpenShut
import Derived.ShutString
import Derived.ChangeOld
import Derived.Below
import Derived.SizedLaws
namespace Go.Proofs.Ytkdbmajkjlnpiaa
set_option linter.unusedVariables false
set_option linter.unusedSimpArgs false
open Go Go.Am Go.ChangeShapes Go.WideShapes Go.ChangeAt Go.RowKit
theorem bitsBack_own : ownKnob Try.prog.godebug = none := by kernel_rfl
theorem bitsBack_laid : laidOutB Try.prog = true := by kernel_rfl

set_option maxRecDepth 100000 in
theorem bitsBack_lifted (os : Os) (started : os.Started) (H : Type) (enc : TypeId × Value → H) :
    ReturnsInHanded {} Try.checked os 8 .any (Rows.bitsBackSpec.pre6 enc Try.prog Try.f8 Rows.bitsBackRow.domain false) (Rows.bitsBackSpec.post enc Try.prog Try.f8 false true false false) := by
  refine returnsInHanded_of_change_sized (C := Try.checked) bitsBack_own started (by kernel_rfl) Try.func8
    (ChangeSpec.witness6 (enc := enc) (C := Try.checked) false ⟨#[], #[.slice none 0 0], []⟩ 8 (by kernel_rfl) (by kernel_rfl) (by kernel_rfl) (by kernel_rfl)) ?_
  intro W base args ds gs before hval0 hW hcnd hsz0 _
  have hsz : (DataW.weightsEach Try.prog (Try.f8.params.toList ++ Rows.bitsBackSpec.plain.varTypes Try.prog) (ds ++ gs)).all (· ≤ reachBytes) = true := hsz0
  have hval : ∀ (j : Nat) t v, Try.f8.params[j]? = some t → args[j]? = some v → Value.okWide Try.prog W .any base t v := hval0
  have hW' := hW
  obtain ⟨p, q, hA0, hV, rfl, hfz, hnd⟩ := hW
  have hA : DataW.TrodAll enc Try.prog W 0 (fun _ => true) true Try.f8.params.toList args.toList ds p := hA0
  rw [Try.params8] at hA hval hsz
  obtain ⟨v0, vs0, d0, ds0, p0, q0, hargs, rfl, rfl, h0, r0⟩ := trodAll_cons hA
  obtain ⟨rfl, rfl, rfl⟩ := trodAll_nil r0
  obtain rfl : args = #[v0] := by cases args; simp_all
  obtain ⟨rfl, rfl⟩ := trodVars_none hV
  have k0 := h0
  have lt0 : ∀ x ∈ p0, x.block < W.heap.size := by obtain ⟨m, hm⟩ := k0; exact DataW.trod_lt m _ _ _ hm
  have re0 : Reads enc Try.prog W 0 (fun _ => true) true 30 (fun x => (putV x).cells) (fun p => p.1 < 18446744073709551616 ∧ (-9223372036854775808 ≤ p.2 ∧ p.2 ≤ 9223372036854775807)) := reads_struct2 (a := fun n : Nat => [.v (.int .u64 n)]) (b := fun n : Int => [.v (.int .i64 n)]) (Try.underlying30) rfl (by kernel_rfl) (by kernel_rfl) (reads_u64 Try.underlying28) (reads_i64 Try.underlying3)
  obtain ⟨b0, y0, z0, g0⟩ := slices0 (f := putV) (s := 2) (B := 16) hsz (j := 0) (t := 22) rfl rfl Try.underlying22 (by kernel_rfl) (by kernel_rfl) (fun _ => rfl) re0 (hval 0 22 v0 rfl rfl) h0
  have zz0 : reachBytes = 140737488351232 := by decide
  clear hA0 hval0 hsz0 hsz
  have hr : RepL (ghost0 W) [.slice 2 (b0.map putV) .none] [v0] := (.cons y0 .nil)
  refine (law_calls (BitsBack b0 heap0 (fun p hp => (g0 p hp).1)) (fun v σ h => h.1) (cargs := #[v0]) hr).mono fun e W' ⟨he, bel⟩ => ?_
  subst he
  exact ⟨_, rfl, _, _, _, [], _, [], hW', trodAll_mk1 (shut_bool Try.underlying4 _), (trodAll_cons_mk (Below.trod bitsBack_laid (by kernel_rfl) (of_decide_eq_true (by kernel_rfl)) k0 bel lt0) trodAll_mk0), rfl, bel.frame _, fun h => by cases h⟩

theorem bitsBack_closed : joinedFacts Try.pinned.checked.prog 8 Try.f8 Rows.bitsBackSpec Rows.bitsBackRow = true := by kernel_rfl
theorem bitsBack_named : Try.pinned.checked.prog.funcNamed Rows.bitsBackRow.func = some 8 := by kernel_rfl
theorem bitsBack_inst : Try.f8.isInstance Try.pinned.checked.prog Rows.bitsBackRow.origin Rows.bitsBackRow.targs := of_decide_eq_true (by kernel_rfl)
theorem bitsBack_wrap : Try.f8.isWrapper Try.pinned.checked.prog Rows.bitsBackRow.wrapper Rows.bitsBackRow.mainSum := by
  unfold Func.isWrapper; first | (rw [if_pos (by decide +kernel)]; kernel_rfl) | (rw [if_neg (by decide +kernel)]; exact ⟨rfl, rfl⟩)
theorem bitsBack_holds : Rows.BitsBackSaid :=
  OpenClaim.holds_of_wide 8 Try.f8 rfl rfl rfl rfl rfl rfl rfl ⟨rfl, rfl, rfl, rfl, rfl⟩ rfl rfl rfl rfl rfl bitsBack_named Try.func8 bitsBack_closed bitsBack_inst bitsBack_wrap
    (fun os started H enc _ => bitsBack_lifted os started H enc)
#print axioms bitsBack_holds
end Go.Proofs.Ytkdbmajkjlnpiaa

