/-
  The row of CutFits: proved of all inputs; no condition.
-/
import Derived.Test.YtnfdgccmpglbhaaCutFitsM2
import Derived.Test.YtnfdgccmpglbhaaRows
import Derived.WalkKit
import Derived.ProofKit
import Derived.OpenShut
import Derived.ShutString
import Derived.ChangeOld
import Derived.Below
import Derived.SizedLaws
namespace Go.Proofs.Ytnfdgccmpglbhaa
set_option linter.unusedVariables false
set_option linter.unusedSimpArgs false
open Go Go.Am Go.ChangeShapes Go.WideShapes Go.ChangeAt Go.RowKit
theorem cutFits_own : ownKnob Try.prog.godebug = none := by kernel_rfl
theorem cutFits_laid : laidOutB Try.prog = true := by kernel_rfl

set_option maxRecDepth 100000 in
theorem cutFits_lifted (os : Os) (started : os.Started) (H : Type) (enc : TypeId × Value → H) :
    ReturnsInHanded {} Try.checked os 3 .any (Rows.cutFitsSpec.pre6 enc Try.prog Try.f3 Rows.cutFitsRow.domain false) (Rows.cutFitsSpec.post enc Try.prog Try.f3 false true false false) := by
  refine returnsInHanded_of_change_sized (C := Try.checked) cutFits_own started (by kernel_rfl) Try.func3
    (ChangeSpec.witness6 (enc := enc) (C := Try.checked) false ⟨#[], #[.slice none 0 0, .slice none 0 0, .int .i64 0], []⟩ 8 (by kernel_rfl) (by kernel_rfl) (by kernel_rfl) (by kernel_rfl)) ?_
  intro W base args ds gs before hval0 hW hcnd hsz0 _
  have hsz : (DataW.weightsEach Try.prog (Try.f3.params.toList ++ Rows.cutFitsSpec.plain.varTypes Try.prog) (ds ++ gs)).all (· ≤ reachBytes) = true := hsz0
  have hval : ∀ (j : Nat) t v, Try.f3.params[j]? = some t → args[j]? = some v → Value.okWide Try.prog W .any base t v := hval0
  have hW' := hW
  obtain ⟨p, q, hA0, hV, rfl, hfz, hnd⟩ := hW
  have hA : DataW.TrodAll enc Try.prog W 0 (fun _ => true) true Try.f3.params.toList args.toList ds p := hA0
  rw [Try.params3] at hA hval hsz
  obtain ⟨v0, vs0, d0, ds0, p0, q0, hargs, rfl, rfl, h0, r0⟩ := trodAll_cons hA
  obtain ⟨v1, vs1, d1, ds1, p1, q1, rfl, rfl, rfl, h1, r1⟩ := trodAll_cons r0
  obtain ⟨v2, vs2, d2, ds2, p2, q2, rfl, rfl, rfl, h2, r2⟩ := trodAll_cons r1
  obtain ⟨rfl, rfl, rfl⟩ := trodAll_nil r2
  obtain rfl : args = #[v0, v1, v2] := by cases args; simp_all
  obtain ⟨rfl, rfl⟩ := trodVars_none hV
  have k0 := h0
  have lt0 : ∀ x ∈ p0, x.block < W.heap.size := by obtain ⟨m, hm⟩ := k0; exact DataW.trod_lt m _ _ _ hm
  have zz0 : reachBytes = 140737488351232 := by decide
  have ml0 : maxLen = 9223372036854775807 := by decide
  have re0 : Reads enc Try.prog W 0 (fun _ => true) true 29 (fun x => ((fun a2 : List (UInt8) => AVal.slice 1 (a2.map byteV) .none) x).cells) (fun a1 => (a1.length * 1 ≤ reachBytes ∧ ∀ a4 ∈ a1, True)) := (reads_slice (f := byteV) (s := 1) (fun _ => rfl) Try.underlying29 (by kernel_rfl) (B := 1) (by kernel_rfl) (by decide) (fun _ => rfl) (reads_u8 Try.underlying5))
  obtain ⟨b0, y0, z0, g0⟩ := slices0 (f := (fun a6 : List (UInt8) => AVal.slice 1 (a6.map byteV) .none)) (s := 1) (B := 24) hsz (j := 0) (t := 22) rfl rfl Try.underlying22 (by kernel_rfl) (by kernel_rfl) (fun _ => rfl) re0 (hval 0 22 v0 rfl rfl) h0
  have k1 := h1
  have lt1 : ∀ x ∈ p1, x.block < W.heap.size := by obtain ⟨m, hm⟩ := k1; exact DataW.trod_lt m _ _ _ hm
  have zz1 : reachBytes = 140737488351232 := by decide
  have ml1 : maxLen = 9223372036854775807 := by decide
  have re1 : Reads enc Try.prog W 0 (fun _ => true) true 33 (fun x => ((fun a11 : Nat => AVal.v (.int .u16 a11)) x).cells) (fun a10 => a10 < 65536) := (reads_u16 Try.underlying33)
  obtain ⟨b1, y1, z1, g1⟩ := slices0 (f := (fun a12 : Nat => AVal.v (.int .u16 a12))) (s := 1) (B := 2) hsz (j := 1) (t := 23) rfl rfl Try.underlying23 (by kernel_rfl) (by kernel_rfl) (fun _ => rfl) re1 (hval 1 23 v1 rfl rfl) h1
  obtain ⟨a2, rfl, rfl, rfl, w2⟩ := open_int Try.underlying3 (hval 2 3 v2 rfl rfl) h2
  have g2 : -9223372036854775808 ≤ a2 ∧ a2 ≤ 9223372036854775807 := by
    simp only [Lit.wf, IntKind.min, IntKind.max, IntKind.signed, IntKind.bits] at w2
    simp at w2
    omega
  clear hA0 hval0 hsz0 hsz
  have hr : RepL (ghost0 W) [.slice 1 (b0.map (fun a8 : List (UInt8) => AVal.slice 1 (a8.map byteV) .none)) .none, .slice 1 (b1.map (fun a13 : Nat => AVal.v (.int .u16 a13))) .none, i64v a2] [v0, v1, .int .i64 a2] := (.cons y0 (.cons y1 (.cons (.v rfl) .nil)))
  refine (law_calls (CutFits b0 b1 a2 heap0 (fun r hr => g1 r hr)) (fun v σ h => h.1) (cargs := #[v0, v1, .int .i64 a2]) hr).mono fun e W' ⟨he, bel⟩ => ?_
  subst he
  exact ⟨_, rfl, _, _, _, [], _, [], hW', trodAll_mk1 (shut_bool Try.underlying4 _), (trodAll_cons_mk (Below.trod cutFits_laid (by kernel_rfl) (of_decide_eq_true (by kernel_rfl)) k0 bel lt0) (trodAll_cons_mk (Below.trod cutFits_laid (by kernel_rfl) (of_decide_eq_true (by kernel_rfl)) k1 bel lt1) (trodAll_cons_mk (shut_int Try.underlying3 w2) trodAll_mk0))), rfl, bel.frame _, fun h => by cases h⟩

theorem cutFits_closed : joinedFacts Try.pinned.checked.prog 3 Try.f3 Rows.cutFitsSpec Rows.cutFitsRow = true := by kernel_rfl
theorem cutFits_named : Try.pinned.checked.prog.funcNamed Rows.cutFitsRow.func = some 3 := by kernel_rfl
theorem cutFits_inst : Try.f3.isInstance Try.pinned.checked.prog Rows.cutFitsRow.origin Rows.cutFitsRow.targs := of_decide_eq_true (by kernel_rfl)
theorem cutFits_wrap : Try.f3.isWrapper Try.pinned.checked.prog Rows.cutFitsRow.wrapper Rows.cutFitsRow.mainSum := by
  unfold Func.isWrapper; first | (rw [if_pos (by decide +kernel)]; kernel_rfl) | (rw [if_neg (by decide +kernel)]; exact ⟨rfl, rfl⟩)
theorem cutFits_holds : Rows.CutFitsSaid :=
  OpenClaim.holds_of_wide 3 Try.f3 rfl rfl rfl rfl rfl rfl rfl ⟨rfl, rfl, rfl, rfl, rfl⟩ rfl rfl rfl rfl rfl cutFits_named Try.func3 cutFits_closed cutFits_inst cutFits_wrap
    (fun os started H enc _ => cutFits_lifted os started H enc)
#print axioms cutFits_holds
end Go.Proofs.Ytnfdgccmpglbhaa
