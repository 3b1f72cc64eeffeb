/-
  The row of ResegSame: proved of all inputs; no condition.
-/
import Derived.Test.YtgipkpghabelkaaK0
import Derived.Test.YtgipkpghabelkaaK1
import Derived.Test.YtgipkpghabelkaaK2
import Derived.Test.YtgipkpghabelkaaK3
import Derived.Test.YtgipkpghabelkaaK4
import Derived.Test.YtgipkpghabelkaaK5
import Derived.Test.YtgipkpghabelkaaK6
import Derived.Test.YtgipkpghabelkaaK7
import Derived.Test.YtgipkpghabelkaaK8
import Derived.Test.YtgipkpghabelkaaRows
import Derived.WalkKit
import Derived.ProofKit
import Derived.OpenShut
import Derived.ShutString
import Derived.ChangeOld
import Derived.Below
import Derived.SizedLaws
namespace Go.Proofs.Ytgipkpghabelkaa
set_option linter.unusedVariables false
set_option linter.unusedSimpArgs false
open Go Go.Am Go.ChangeShapes Go.WideShapes Go.ChangeAt Go.RowKit
theorem resegSame_own : ownKnob Try.prog.godebug = none := by kernel_rfl
theorem resegSame_laid : laidOutB Try.prog = true := by kernel_rfl

set_option maxRecDepth 100000 in
theorem resegSame_lifted (os : Os) (started : os.Started) (H : Type) (enc : TypeId × Value → H) :
    ReturnsInHanded {} Try.checked os 5 .any (Rows.resegSameSpec.pre6 enc Try.prog Try.f5 Rows.resegSameRow.domain false) (Rows.resegSameSpec.post enc Try.prog Try.f5 false true false false) := by
  refine returnsInHanded_of_change_sized (C := Try.checked) resegSame_own started (by kernel_rfl) Try.func5
    (ChangeSpec.witness6 (enc := enc) (C := Try.checked) false ⟨#[], #[.agg #[.bool false, .int .i64 0, .int .i64 0, .bool false, .bool false, .int .i64 0, .slice none 0 0], .int .i64 0], []⟩ 8 (by kernel_rfl) (by kernel_rfl) (by kernel_rfl) (by kernel_rfl)) ?_
  intro W base args ds gs before hval0 hW hcnd hsz0 _
  have hsz : (DataW.weightsEach Try.prog (Try.f5.params.toList ++ Rows.resegSameSpec.plain.varTypes Try.prog) (ds ++ gs)).all (· ≤ reachBytes) = true := hsz0
  have hval : ∀ (j : Nat) t v, Try.f5.params[j]? = some t → args[j]? = some v → Value.okWide Try.prog W .any base t v := hval0
  have hW' := hW
  obtain ⟨p, q, hA0, hV, rfl, hfz, hnd⟩ := hW
  have hA : DataW.TrodAll enc Try.prog W 0 (fun _ => true) true Try.f5.params.toList args.toList ds p := hA0
  rw [Try.params5] at hA hval hsz
  obtain ⟨v0, vs0, d0, ds0, p0, q0, hargs, rfl, rfl, h0, r0⟩ := trodAll_cons hA
  obtain ⟨v1, vs1, d1, ds1, p1, q1, rfl, rfl, rfl, h1, r1⟩ := trodAll_cons r0
  obtain ⟨rfl, rfl, rfl⟩ := trodAll_nil r1
  obtain rfl : args = #[v0, v1] := by cases args; simp_all
  obtain ⟨rfl, rfl⟩ := trodVars_none hV
  have k0 := h0
  have lt0 : ∀ x ∈ p0, x.block < W.heap.size := by obtain ⟨m, hm⟩ := k0; exact DataW.trod_lt m _ _ _ hm
  have zz0 : reachBytes = 140737488351232 := by decide
  have ml0 : maxLen = 9223372036854775807 := by decide
  have re0 : Reads enc Try.prog W 0 (fun _ => true) true 24 (fun a2 : Bool × Int × Int × Bool × Bool × Int × List (List (UInt8)) => ([AVal.v (.bool a2.1)]) ++ (([AVal.v (.int .i64 a2.2.1)]) ++ (([AVal.v (.int .i64 a2.2.2.1)]) ++ (([AVal.v (.bool a2.2.2.2.1)]) ++ (([AVal.v (.bool a2.2.2.2.2.1)]) ++ (([AVal.v (.int .i64 a2.2.2.2.2.2.1)]) ++ (([AVal.slice 1 (a2.2.2.2.2.2.2.map (fun a3 : List (UInt8) => AVal.slice 1 (a3.map byteV) .none)) .none])))))))) (fun a1 => True ∧ (-9223372036854775808 ≤ a1.2.1 ∧ a1.2.1 ≤ 9223372036854775807) ∧ (-9223372036854775808 ≤ a1.2.2.1 ∧ a1.2.2.1 ≤ 9223372036854775807) ∧ True ∧ True ∧ (-9223372036854775808 ≤ a1.2.2.2.2.2.1 ∧ a1.2.2.2.2.2.1 ≤ 9223372036854775807) ∧ (a1.2.2.2.2.2.2.length * 24 ≤ reachBytes ∧ ∀ a5 ∈ a1.2.2.2.2.2.2, (a5.length * 1 ≤ reachBytes ∧ ∀ a6 ∈ a5, True))) := (reads_struct (L := 7) Try.underlying24 (by kernel_rfl) (readsFs_cons (off2 := 1) rfl (by kernel_rfl) (reads_bool Try.underlying4) (readsFs_cons (off2 := 2) rfl (by kernel_rfl) (reads_i64 Try.underlying3) (readsFs_cons (off2 := 3) rfl (by kernel_rfl) (reads_i64 Try.underlying3) (readsFs_cons (off2 := 4) rfl (by kernel_rfl) (reads_bool Try.underlying4) (readsFs_cons (off2 := 5) rfl (by kernel_rfl) (reads_bool Try.underlying4) (readsFs_cons (off2 := 6) rfl (by kernel_rfl) (reads_i64 Try.underlying3) (readsFs_last rfl (by kernel_rfl) (reads_slice (f := (fun a7 : List (UInt8) => AVal.slice 1 (a7.map byteV) .none)) (s := 1) (fun _ => rfl) Try.underlying22 (by kernel_rfl) (B := 24) (by kernel_rfl) (by decide) (fun _ => rfl) (reads_slice (f := byteV) (s := 1) (fun _ => rfl) Try.underlying39 (by kernel_rfl) (B := 1) (by kernel_rfl) (by decide) (fun _ => rfl) (reads_u8 Try.underlying5)))))))))))
  obtain ⟨b0, y0, g0⟩ := aggs0 hsz (j := 0) (t := 24) rfl rfl (.inr ⟨_, Try.underlying24⟩) re0 (hval 0 24 v0 rfl rfl) h0
  obtain ⟨a1, rfl, rfl, rfl, w1⟩ := open_int Try.underlying3 (hval 1 3 v1 rfl rfl) h1
  have g1 : -9223372036854775808 ≤ a1 ∧ a1 ≤ 9223372036854775807 := by
    simp only [Lit.wf, IntKind.min, IntKind.max, IntKind.signed, IntKind.bits] at w1
    simp at w1
    omega
  clear hA0 hval0 hsz0 hsz
  have hr : RepL (ghost0 W) [.agg (([AVal.v (.bool b0.1)]) ++ (([AVal.v (.int .i64 b0.2.1)]) ++ (([AVal.v (.int .i64 b0.2.2.1)]) ++ (([AVal.v (.bool b0.2.2.2.1)]) ++ (([AVal.v (.bool b0.2.2.2.2.1)]) ++ (([AVal.v (.int .i64 b0.2.2.2.2.2.1)]) ++ (([AVal.slice 1 (b0.2.2.2.2.2.2.map (fun a10 : List (UInt8) => AVal.slice 1 (a10.map byteV) .none)) .none])))))))), i64v a1] [v0, .int .i64 a1] := (.cons y0 (.cons (.v rfl) .nil))
  refine (law_calls (ResegSame ⟨b0.1, b0.2.1, b0.2.2.1, b0.2.2.2.1, b0.2.2.2.2.1, b0.2.2.2.2.2.1, b0.2.2.2.2.2.2⟩ a1 heap0 (by dsimp only; omega)) (fun v σ h => h.1) (cargs := #[v0, .int .i64 a1]) hr).mono fun e W' ⟨he, bel⟩ => ?_
  subst he
  exact ⟨_, rfl, _, _, _, [], _, [], hW', trodAll_mk1 (shut_bool Try.underlying4 _), (trodAll_cons_mk (Below.trod resegSame_laid (by kernel_rfl) (of_decide_eq_true (by kernel_rfl)) k0 bel lt0) (trodAll_cons_mk (shut_int Try.underlying3 w1) trodAll_mk0)), rfl, bel.frame _, fun h => by cases h⟩

theorem resegSame_closed : joinedFacts Try.pinned.checked.prog 5 Try.f5 Rows.resegSameSpec Rows.resegSameRow = true := by kernel_rfl
theorem resegSame_named : Try.pinned.checked.prog.funcNamed Rows.resegSameRow.func = some 5 := by kernel_rfl
theorem resegSame_inst : Try.f5.isInstance Try.pinned.checked.prog Rows.resegSameRow.origin Rows.resegSameRow.targs := of_decide_eq_true (by kernel_rfl)
theorem resegSame_wrap : Try.f5.isWrapper Try.pinned.checked.prog Rows.resegSameRow.wrapper Rows.resegSameRow.mainSum := by
  unfold Func.isWrapper; first | (rw [if_pos (by decide +kernel)]; kernel_rfl) | (rw [if_neg (by decide +kernel)]; exact ⟨rfl, rfl⟩)
theorem resegSame_holds : Rows.ResegSameSaid :=
  OpenClaim.holds_of_wide 5 Try.f5 rfl rfl rfl rfl rfl rfl rfl ⟨rfl, rfl, rfl, rfl, rfl⟩ rfl rfl rfl rfl rfl resegSame_named Try.func5 resegSame_closed resegSame_inst resegSame_wrap
    (fun os started H enc _ => resegSame_lifted os started H enc)
#print axioms resegSame_holds
end Go.Proofs.Ytgipkpghabelkaa
