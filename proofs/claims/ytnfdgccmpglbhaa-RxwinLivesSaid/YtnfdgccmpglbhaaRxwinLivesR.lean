/-
  The row of RxwinLives: proved of all inputs; no condition.
-/
import Derived.Test.YtnfdgccmpglbhaaK0
import Derived.Test.YtnfdgccmpglbhaaK1
import Derived.Test.YtnfdgccmpglbhaaK2
import Derived.Test.YtnfdgccmpglbhaaK3
import Derived.Test.YtnfdgccmpglbhaaK4
import Derived.Test.YtnfdgccmpglbhaaK5
import Derived.Test.YtnfdgccmpglbhaaK6
import Derived.Test.YtnfdgccmpglbhaaK7
import Derived.Test.YtnfdgccmpglbhaaK8
import Derived.Test.YtnfdgccmpglbhaaRows
import Derived.WalkKit
import Derived.ProofKit
import Derived.OpenShut
import Derived.ShutString
import Derived.ChangeOld
import Derived.Below
import Derived.SizedLaws
namespace Go.Proofs.Ytnfdgccmpglbhaa
set_option linter.unusedVariables false
set_option linter.unusedSimpArgs false
open Go Go.Am Go.ChangeShapes Go.WideShapes Go.ChangeAt Go.RowKit
theorem rxwinLives_own : ownKnob Try.prog.godebug = none := by kernel_rfl
theorem rxwinLives_laid : laidOutB Try.prog = true := by kernel_rfl

set_option maxRecDepth 100000 in
theorem rxwinLives_lifted (os : Os) (started : os.Started) (H : Type) (enc : TypeId × Value → H) :
    ReturnsInHanded {} Try.checked os 8 .any (Rows.rxwinLivesSpec.pre6 enc Try.prog Try.f8 Rows.rxwinLivesRow.domain false) (Rows.rxwinLivesSpec.post enc Try.prog Try.f8 false true false false) := by
  refine returnsInHanded_of_change_sized (C := Try.checked) rxwinLives_own started (by kernel_rfl) Try.func8
    (ChangeSpec.witness6 (enc := enc) (C := Try.checked) false ⟨#[], #[.int .i64 0, .int .i64 0, .slice none 0 0, .int .i64 0], []⟩ 8 (by kernel_rfl) (by kernel_rfl) (by kernel_rfl) (by kernel_rfl)) ?_
  intro W base args ds gs before hval0 hW hcnd hsz0 _
  have hsz : (DataW.weightsEach Try.prog (Try.f8.params.toList ++ Rows.rxwinLivesSpec.plain.varTypes Try.prog) (ds ++ gs)).all (· ≤ reachBytes) = true := hsz0
  have hval : ∀ (j : Nat) t v, Try.f8.params[j]? = some t → args[j]? = some v → Value.okWide Try.prog W .any base t v := hval0
  have hW' := hW
  obtain ⟨p, q, hA0, hV, rfl, hfz, hnd⟩ := hW
  have hA : DataW.TrodAll enc Try.prog W 0 (fun _ => true) true Try.f8.params.toList args.toList ds p := hA0
  rw [Try.params8] at hA hval hsz
  obtain ⟨v0, vs0, d0, ds0, p0, q0, hargs, rfl, rfl, h0, r0⟩ := trodAll_cons hA
  obtain ⟨v1, vs1, d1, ds1, p1, q1, rfl, rfl, rfl, h1, r1⟩ := trodAll_cons r0
  obtain ⟨v2, vs2, d2, ds2, p2, q2, rfl, rfl, rfl, h2, r2⟩ := trodAll_cons r1
  obtain ⟨v3, vs3, d3, ds3, p3, q3, rfl, rfl, rfl, h3, r3⟩ := trodAll_cons r2
  obtain ⟨rfl, rfl, rfl⟩ := trodAll_nil r3
  obtain rfl : args = #[v0, v1, v2, v3] := by cases args; simp_all
  obtain ⟨rfl, rfl⟩ := trodVars_none hV
  obtain ⟨a0, rfl, rfl, rfl, w0⟩ := open_int Try.underlying3 (hval 0 3 v0 rfl rfl) h0
  have g0 : -9223372036854775808 ≤ a0 ∧ a0 ≤ 9223372036854775807 := by
    simp only [Lit.wf, IntKind.min, IntKind.max, IntKind.signed, IntKind.bits] at w0
    simp at w0
    omega
  obtain ⟨a1, rfl, rfl, rfl, w1⟩ := open_int Try.underlying3 (hval 1 3 v1 rfl rfl) h1
  have g1 : -9223372036854775808 ≤ a1 ∧ a1 ≤ 9223372036854775807 := by
    simp only [Lit.wf, IntKind.min, IntKind.max, IntKind.signed, IntKind.bits] at w1
    simp at w1
    omega
  have k2 := h2
  have lt2 : ∀ x ∈ p2, x.block < W.heap.size := by obtain ⟨m, hm⟩ := k2; exact DataW.trod_lt m _ _ _ hm
  have zz2 : reachBytes = 140737488351232 := by decide
  have ml2 : maxLen = 9223372036854775807 := by decide
  have re2 : Reads enc Try.prog W 0 (fun _ => true) true 67 (fun x => ((fun a2 : Int × Int => AVal.agg (([AVal.v (.int .i64 a2.1)]) ++ (([AVal.v (.int .i64 a2.2)])))) x).cells) (fun a1 => (-9223372036854775808 ≤ a1.1 ∧ a1.1 ≤ 9223372036854775807) ∧ (-9223372036854775808 ≤ a1.2 ∧ a1.2 ≤ 9223372036854775807)) := (reads_struct (L := 2) Try.underlying67 (by kernel_rfl) (readsFs_cons (off2 := 1) rfl (by kernel_rfl) (reads_i64 Try.underlying3) (readsFs_last rfl (by kernel_rfl) (reads_i64 Try.underlying3))))
  obtain ⟨b2, y2, z2, g2⟩ := slices0 (f := (fun a3 : Int × Int => AVal.agg (([AVal.v (.int .i64 a3.1)]) ++ (([AVal.v (.int .i64 a3.2)]))))) (s := 2) (B := 16) hsz (j := 2) (t := 62) rfl rfl Try.underlying62 (by kernel_rfl) (by kernel_rfl) (fun _ => rfl) re2 (hval 2 62 v2 rfl rfl) h2
  obtain ⟨a3, rfl, rfl, rfl, w3⟩ := open_int Try.underlying3 (hval 3 3 v3 rfl rfl) h3
  have g3 : -9223372036854775808 ≤ a3 ∧ a3 ≤ 9223372036854775807 := by
    simp only [Lit.wf, IntKind.min, IntKind.max, IntKind.signed, IntKind.bits] at w3
    simp at w3
    omega
  clear hA0 hval0 hsz0 hsz
  have hr : RepL (ghost0 W) [i64v a0, i64v a1, .slice 2 (b2.map (fun a4 : Int × Int => AVal.agg (([AVal.v (.int .i64 a4.1)]) ++ (([AVal.v (.int .i64 a4.2)]))))) .none, i64v a3] [.int .i64 a0, .int .i64 a1, v2, .int .i64 a3] := (.cons (.v rfl) (.cons (.v rfl) (.cons y2 (.cons (.v rfl) .nil))))
  refine (law_calls (RxwinLives a0 a1 b2 a3 heap0 (by omega)) (fun v σ h => h.1) (cargs := #[.int .i64 a0, .int .i64 a1, v2, .int .i64 a3]) hr).mono fun e W' ⟨he, bel⟩ => ?_
  subst he
  exact ⟨_, rfl, _, _, _, [], _, [], hW', trodAll_mk1 (shut_bool Try.underlying4 _), (trodAll_cons_mk (shut_int Try.underlying3 w0) (trodAll_cons_mk (shut_int Try.underlying3 w1) (trodAll_cons_mk (Below.trod rxwinLives_laid (by kernel_rfl) (of_decide_eq_true (by kernel_rfl)) k2 bel lt2) (trodAll_cons_mk (shut_int Try.underlying3 w3) trodAll_mk0)))), rfl, bel.frame _, fun h => by cases h⟩

theorem rxwinLives_closed : joinedFacts Try.pinned.checked.prog 8 Try.f8 Rows.rxwinLivesSpec Rows.rxwinLivesRow = true := by kernel_rfl
theorem rxwinLives_named : Try.pinned.checked.prog.funcNamed Rows.rxwinLivesRow.func = some 8 := by kernel_rfl
theorem rxwinLives_inst : Try.f8.isInstance Try.pinned.checked.prog Rows.rxwinLivesRow.origin Rows.rxwinLivesRow.targs := of_decide_eq_true (by kernel_rfl)
theorem rxwinLives_wrap : Try.f8.isWrapper Try.pinned.checked.prog Rows.rxwinLivesRow.wrapper Rows.rxwinLivesRow.mainSum := by
  unfold Func.isWrapper; first | (rw [if_pos (by decide +kernel)]; kernel_rfl) | (rw [if_neg (by decide +kernel)]; exact ⟨rfl, rfl⟩)
theorem rxwinLives_holds : Rows.RxwinLivesSaid :=
  OpenClaim.holds_of_wide 8 Try.f8 rfl rfl rfl rfl rfl rfl rfl ⟨rfl, rfl, rfl, rfl, rfl⟩ rfl rfl rfl rfl rfl rxwinLives_named Try.func8 rxwinLives_closed rxwinLives_inst rxwinLives_wrap
    (fun os started H enc _ => rxwinLives_lifted os started H enc)
#print axioms rxwinLives_holds
end Go.Proofs.Ytnfdgccmpglbhaa
