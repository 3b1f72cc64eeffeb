/-
  The row of CutBuilds: proved of all inputs; no condition.
-/
import Derived.Test.YtagbbpllbiplkaaK0
import Derived.Test.YtagbbpllbiplkaaK1
import Derived.Test.YtagbbpllbiplkaaK2
import Derived.Test.YtagbbpllbiplkaaK3
import Derived.Test.YtagbbpllbiplkaaK4
import Derived.Test.YtagbbpllbiplkaaK5
import Derived.Test.YtagbbpllbiplkaaK7
import Derived.Test.YtagbbpllbiplkaaK8
import Derived.Test.YtagbbpllbiplkaaK9
import Derived.Test.YtagbbpllbiplkaaRows
import Derived.WalkKit
import Derived.ProofKit
import Derived.OpenShut
import Derived.ShutString
import Derived.ChangeOld
import Derived.Below
import Derived.SizedLaws
namespace Go.Proofs.Ytagbbpllbiplkaa
set_option linter.unusedVariables false
set_option linter.unusedSimpArgs false
open Go Go.Am Go.ChangeShapes Go.WideShapes Go.ChangeAt Go.RowKit
theorem cutBuilds_own : ownKnob Try.prog.godebug = none := by kernel_rfl
theorem cutBuilds_laid : laidOutB Try.prog = true := by kernel_rfl

set_option maxRecDepth 100000 in
theorem cutBuilds_lifted (os : Os) (started : os.Started) (H : Type) (enc : TypeId × Value → H) :
    ReturnsInHanded {} Try.checked os 4 .any (Rows.cutBuildsSpec.pre6 enc Try.prog Try.f4 Rows.cutBuildsRow.domain false) (Rows.cutBuildsSpec.post enc Try.prog Try.f4 false true false false) := by
  refine returnsInHanded_of_change_sized (C := Try.checked) cutBuilds_own started (by kernel_rfl) Try.func4
    (ChangeSpec.witness6 (enc := enc) (C := Try.checked) false ⟨#[], #[.slice none 0 0], []⟩ 8 (by kernel_rfl) (by kernel_rfl) (by kernel_rfl) (by kernel_rfl)) ?_
  intro W base args ds gs before hval0 hW hcnd hsz0 _
  have hsz : (DataW.weightsEach Try.prog (Try.f4.params.toList ++ Rows.cutBuildsSpec.plain.varTypes Try.prog) (ds ++ gs)).all (· ≤ reachBytes) = true := hsz0
  have hval : ∀ (j : Nat) t v, Try.f4.params[j]? = some t → args[j]? = some v → Value.okWide Try.prog W .any base t v := hval0
  have hW' := hW
  obtain ⟨p, q, hA0, hV, rfl, hfz, hnd⟩ := hW
  have hA : DataW.TrodAll enc Try.prog W 0 (fun _ => true) true Try.f4.params.toList args.toList ds p := hA0
  rw [Try.params4] at hA hval hsz
  obtain ⟨v0, vs0, d0, ds0, p0, q0, hargs, rfl, rfl, h0, r0⟩ := trodAll_cons hA
  obtain ⟨rfl, rfl, rfl⟩ := trodAll_nil r0
  obtain rfl : args = #[v0] := by cases args; simp_all
  obtain ⟨rfl, rfl⟩ := trodVars_none hV
  have k0 := h0
  have lt0 : ∀ x ∈ p0, x.block < W.heap.size := by obtain ⟨m, hm⟩ := k0; exact DataW.trod_lt m _ _ _ hm
  have zz0 : reachBytes = 140737488351232 := by decide
  have ml0 : maxLen = 9223372036854775807 := by decide
  have re0 : Reads enc Try.prog W 0 (fun _ => true) true 55 (fun x => ((fun a2 : List (UInt8) × Int × Int => AVal.agg (([AVal.slice 1 (a2.1.map byteV) .none]) ++ (([AVal.v (.int .i64 a2.2.1)]) ++ (([AVal.v (.int .i64 a2.2.2)]))))) x).cells) (fun a1 => (a1.1.length * 1 ≤ reachBytes ∧ ∀ a4 ∈ a1.1, True) ∧ (-9223372036854775808 ≤ a1.2.1 ∧ a1.2.1 ≤ 9223372036854775807) ∧ (-9223372036854775808 ≤ a1.2.2 ∧ a1.2.2 ≤ 9223372036854775807)) := (reads_struct (L := 3) Try.underlying55 (by kernel_rfl) (readsFs_cons (off2 := 1) rfl (by kernel_rfl) (reads_slice (f := byteV) (s := 1) (fun _ => rfl) Try.underlying34 (by kernel_rfl) (B := 1) (by kernel_rfl) (by decide) (fun _ => rfl) (reads_u8 Try.underlying5)) (readsFs_cons (off2 := 2) rfl (by kernel_rfl) (reads_i64 Try.underlying3) (readsFs_last rfl (by kernel_rfl) (reads_i64 Try.underlying3)))))
  obtain ⟨b0, y0, z0, g0⟩ := slices0 (f := (fun a6 : List (UInt8) × Int × Int => AVal.agg (([AVal.slice 1 (a6.1.map byteV) .none]) ++ (([AVal.v (.int .i64 a6.2.1)]) ++ (([AVal.v (.int .i64 a6.2.2)])))))) (s := 3) (B := 40) hsz (j := 0) (t := 53) rfl rfl Try.underlying53 (by kernel_rfl) (by kernel_rfl) (fun _ => rfl) re0 (hval 0 53 v0 rfl rfl) h0
  clear hA0 hval0 hsz0 hsz
  have hr : RepL (ghost0 W) [.slice 3 (b0.map (fun a8 : List (UInt8) × Int × Int => AVal.agg (([AVal.slice 1 (a8.1.map byteV) .none]) ++ (([AVal.v (.int .i64 a8.2.1)]) ++ (([AVal.v (.int .i64 a8.2.2)])))))) .none] [v0] := (.cons y0 .nil)
  refine (law_calls (CutBuilds b0 heap0 (by omega) (fun o ho => by have := (g0 o ho).1.1; omega)) (fun v σ h => h.1) (cargs := #[v0]) hr).mono fun e W' ⟨he, bel⟩ => ?_
  subst he
  exact ⟨_, rfl, _, _, _, [], _, [], hW', trodAll_mk1 (shut_bool Try.underlying4 _), (trodAll_cons_mk (Below.trod cutBuilds_laid (by kernel_rfl) (of_decide_eq_true (by kernel_rfl)) k0 bel lt0) trodAll_mk0), rfl, bel.frame _, fun h => by cases h⟩

theorem cutBuilds_closed : joinedFacts Try.pinned.checked.prog 4 Try.f4 Rows.cutBuildsSpec Rows.cutBuildsRow = true := by kernel_rfl
theorem cutBuilds_named : Try.pinned.checked.prog.funcNamed Rows.cutBuildsRow.func = some 4 := by kernel_rfl
theorem cutBuilds_inst : Try.f4.isInstance Try.pinned.checked.prog Rows.cutBuildsRow.origin Rows.cutBuildsRow.targs := of_decide_eq_true (by kernel_rfl)
theorem cutBuilds_wrap : Try.f4.isWrapper Try.pinned.checked.prog Rows.cutBuildsRow.wrapper Rows.cutBuildsRow.mainSum := by
  unfold Func.isWrapper; first | (rw [if_pos (by decide +kernel)]; kernel_rfl) | (rw [if_neg (by decide +kernel)]; exact ⟨rfl, rfl⟩)
theorem cutBuilds_holds : Rows.CutBuildsSaid :=
  OpenClaim.holds_of_wide 4 Try.f4 rfl rfl rfl rfl rfl rfl rfl ⟨rfl, rfl, rfl, rfl, rfl⟩ rfl rfl rfl rfl rfl cutBuilds_named Try.func4 cutBuilds_closed cutBuilds_inst cutBuilds_wrap
    (fun os started H enc _ => cutBuilds_lifted os started H enc)
#print axioms cutBuilds_holds
end Go.Proofs.Ytagbbpllbiplkaa
