/-
  The row of StatusBack: proved of all inputs; no condition.
-/
import Derived.Test.YtnfdgccmpglbhaaK0
import Derived.Test.YtnfdgccmpglbhaaK1
import Derived.Test.YtnfdgccmpglbhaaK2
import Derived.Test.YtnfdgccmpglbhaaK3
import Derived.Test.YtnfdgccmpglbhaaK4
import Derived.Test.YtnfdgccmpglbhaaK5
import Derived.Test.YtnfdgccmpglbhaaK6
import Derived.Test.YtnfdgccmpglbhaaK7
import Derived.Test.YtnfdgccmpglbhaaK8
import Derived.Test.YtnfdgccmpglbhaaRows
import Derived.WalkKit
import Derived.ProofKit
import Derived.OpenShut
import Derived.ShutString
import Derived.ChangeOld
import Derived.Below
import Derived.SizedLaws
namespace Go.Proofs.Ytnfdgccmpglbhaa
set_option linter.unusedVariables false
set_option linter.unusedSimpArgs false
open Go Go.Am Go.ChangeShapes Go.WideShapes Go.ChangeAt Go.RowKit
theorem statusBack_own : ownKnob Try.prog.godebug = none := by kernel_rfl
theorem statusBack_laid : laidOutB Try.prog = true := by kernel_rfl

set_option maxRecDepth 100000 in
theorem statusBack_lifted (os : Os) (started : os.Started) (H : Type) (enc : TypeId × Value → H) :
    ReturnsInHanded {} Try.checked os 10 .any (Rows.statusBackSpec.pre6 enc Try.prog Try.f10 Rows.statusBackRow.domain false) (Rows.statusBackSpec.post enc Try.prog Try.f10 false true false false) := by
  refine returnsInHanded_of_change_sized (C := Try.checked) statusBack_own started (by kernel_rfl) Try.func10
    (ChangeSpec.witness6 (enc := enc) (C := Try.checked) false ⟨#[], #[.agg #[.int .i64 0, .slice none 0 0], .slice none 0 0, .int .i64 0], []⟩ 8 (by kernel_rfl) (by kernel_rfl) (by kernel_rfl) (by kernel_rfl)) ?_
  intro W base args ds gs before hval0 hW hcnd hsz0 _
  have hsz : (DataW.weightsEach Try.prog (Try.f10.params.toList ++ Rows.statusBackSpec.plain.varTypes Try.prog) (ds ++ gs)).all (· ≤ reachBytes) = true := hsz0
  have hval : ∀ (j : Nat) t v, Try.f10.params[j]? = some t → args[j]? = some v → Value.okWide Try.prog W .any base t v := hval0
  have hW' := hW
  obtain ⟨p, q, hA0, hV, rfl, hfz, hnd⟩ := hW
  have hA : DataW.TrodAll enc Try.prog W 0 (fun _ => true) true Try.f10.params.toList args.toList ds p := hA0
  rw [Try.params10] at hA hval hsz
  obtain ⟨v0, vs0, d0, ds0, p0, q0, hargs, rfl, rfl, h0, r0⟩ := trodAll_cons hA
  obtain ⟨v1, vs1, d1, ds1, p1, q1, rfl, rfl, rfl, h1, r1⟩ := trodAll_cons r0
  obtain ⟨v2, vs2, d2, ds2, p2, q2, rfl, rfl, rfl, h2, r2⟩ := trodAll_cons r1
  obtain ⟨rfl, rfl, rfl⟩ := trodAll_nil r2
  obtain rfl : args = #[v0, v1, v2] := by cases args; simp_all
  obtain ⟨rfl, rfl⟩ := trodVars_none hV
  have k0 := h0
  have lt0 : ∀ x ∈ p0, x.block < W.heap.size := by obtain ⟨m, hm⟩ := k0; exact DataW.trod_lt m _ _ _ hm
  have zz0 : reachBytes = 140737488351232 := by decide
  have ml0 : maxLen = 9223372036854775807 := by decide
  have re0 : Reads enc Try.prog W 0 (fun _ => true) true 89 (fun a2 : Int × List (Int × Bool × Int × Int) => ([AVal.v (.int .i64 a2.1)]) ++ (([AVal.slice 4 (a2.2.map (fun a3 : Int × Bool × Int × Int => AVal.agg (([AVal.v (.int .i64 a3.1)]) ++ (([AVal.v (.bool a3.2.1)]) ++ (([AVal.v (.int .i64 a3.2.2.1)]) ++ (([AVal.v (.int .i64 a3.2.2.2)]))))))) .none]))) (fun a1 => (-9223372036854775808 ≤ a1.1 ∧ a1.1 ≤ 9223372036854775807) ∧ (a1.2.length * 32 ≤ reachBytes ∧ ∀ a4 ∈ a1.2, (-9223372036854775808 ≤ a4.1 ∧ a4.1 ≤ 9223372036854775807) ∧ True ∧ (-9223372036854775808 ≤ a4.2.2.1 ∧ a4.2.2.1 ≤ 9223372036854775807) ∧ (-9223372036854775808 ≤ a4.2.2.2 ∧ a4.2.2.2 ≤ 9223372036854775807))) := (reads_struct (L := 2) Try.underlying89 (by kernel_rfl) (readsFs_cons (off2 := 1) rfl (by kernel_rfl) (reads_i64 Try.underlying3) (readsFs_last rfl (by kernel_rfl) (reads_slice (f := (fun a5 : Int × Bool × Int × Int => AVal.agg (([AVal.v (.int .i64 a5.1)]) ++ (([AVal.v (.bool a5.2.1)]) ++ (([AVal.v (.int .i64 a5.2.2.1)]) ++ (([AVal.v (.int .i64 a5.2.2.2)]))))))) (s := 4) (fun _ => rfl) Try.underlying87 (by kernel_rfl) (B := 32) (by kernel_rfl) (by decide) (fun _ => rfl) (reads_struct (L := 4) Try.underlying106 (by kernel_rfl) (readsFs_cons (off2 := 1) rfl (by kernel_rfl) (reads_i64 Try.underlying3) (readsFs_cons (off2 := 2) rfl (by kernel_rfl) (reads_bool Try.underlying4) (readsFs_cons (off2 := 3) rfl (by kernel_rfl) (reads_i64 Try.underlying3) (readsFs_last rfl (by kernel_rfl) (reads_i64 Try.underlying3))))))))))
  obtain ⟨b0, y0, g0⟩ := aggs0 hsz (j := 0) (t := 89) rfl rfl (.inr ⟨_, Try.underlying89⟩) re0 (hval 0 89 v0 rfl rfl) h0
  have k1 := h1
  have lt1 : ∀ x ∈ p1, x.block < W.heap.size := by obtain ⟨m, hm⟩ := k1; exact DataW.trod_lt m _ _ _ hm
  have zz1 : reachBytes = 140737488351232 := by decide
  have ml1 : maxLen = 9223372036854775807 := by decide
  obtain ⟨b1, y1, z1⟩ := bytes0 hsz (j := 1) (t := 29) rfl rfl Try.underlying29 Try.underlying5 (by kernel_rfl) (by kernel_rfl) (hval 1 29 v1 rfl rfl) h1
  obtain ⟨a2, rfl, rfl, rfl, w2⟩ := open_int Try.underlying3 (hval 2 3 v2 rfl rfl) h2
  have g2 : -9223372036854775808 ≤ a2 ∧ a2 ≤ 9223372036854775807 := by
    simp only [Lit.wf, IntKind.min, IntKind.max, IntKind.signed, IntKind.bits] at w2
    simp at w2
    omega
  clear hA0 hval0 hsz0 hsz
  have hr : RepL (ghost0 W) [.agg (([AVal.v (.int .i64 b0.1)]) ++ (([AVal.slice 4 (b0.2.map (fun a6 : Int × Bool × Int × Int => AVal.agg (([AVal.v (.int .i64 a6.1)]) ++ (([AVal.v (.bool a6.2.1)]) ++ (([AVal.v (.int .i64 a6.2.2.1)]) ++ (([AVal.v (.int .i64 a6.2.2.2)]))))))) .none]))), sl .none b1, i64v a2] [v0, v1, .int .i64 a2] := (.cons y0 (.cons y1 (.cons (.v rfl) .nil)))
  refine (law_calls (StatusBack b0 b1 a2 heap0 (by omega)) (fun v σ h => h.1) (cargs := #[v0, v1, .int .i64 a2]) hr).mono fun e W' ⟨he, bel⟩ => ?_
  subst he
  exact ⟨_, rfl, _, _, _, [], _, [], hW', trodAll_mk1 (shut_bool Try.underlying4 _), (trodAll_cons_mk (Below.trod statusBack_laid (by kernel_rfl) (of_decide_eq_true (by kernel_rfl)) k0 bel lt0) (trodAll_cons_mk (Below.trod statusBack_laid (by kernel_rfl) (of_decide_eq_true (by kernel_rfl)) k1 bel lt1) (trodAll_cons_mk (shut_int Try.underlying3 w2) trodAll_mk0))), rfl, bel.frame _, fun h => by cases h⟩

theorem statusBack_closed : joinedFacts Try.pinned.checked.prog 10 Try.f10 Rows.statusBackSpec Rows.statusBackRow = true := by kernel_rfl
theorem statusBack_named : Try.pinned.checked.prog.funcNamed Rows.statusBackRow.func = some 10 := by kernel_rfl
theorem statusBack_inst : Try.f10.isInstance Try.pinned.checked.prog Rows.statusBackRow.origin Rows.statusBackRow.targs := of_decide_eq_true (by kernel_rfl)
theorem statusBack_wrap : Try.f10.isWrapper Try.pinned.checked.prog Rows.statusBackRow.wrapper Rows.statusBackRow.mainSum := by
  unfold Func.isWrapper; first | (rw [if_pos (by decide +kernel)]; kernel_rfl) | (rw [if_neg (by decide +kernel)]; exact ⟨rfl, rfl⟩)
theorem statusBack_holds : Rows.StatusBackSaid :=
  OpenClaim.holds_of_wide 10 Try.f10 rfl rfl rfl rfl rfl rfl rfl ⟨rfl, rfl, rfl, rfl, rfl⟩ rfl rfl rfl rfl rfl statusBack_named Try.func10 statusBack_closed statusBack_inst statusBack_wrap
    (fun os started H enc _ => statusBack_lifted os started H enc)
#print axioms statusBack_holds
end Go.Proofs.Ytnfdgccmpglbhaa
