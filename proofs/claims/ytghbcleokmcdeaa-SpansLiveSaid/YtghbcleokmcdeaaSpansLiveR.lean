/-
  The row of SpansLive: proved of all inputs; no condition.
-/
import Derived.Test.YtghbcleokmcdeaaK0
import Derived.Test.YtghbcleokmcdeaaK1
import Derived.Test.YtghbcleokmcdeaaK2
import Derived.Test.YtghbcleokmcdeaaK3
import Derived.Test.YtghbcleokmcdeaaK4
import Derived.Test.YtghbcleokmcdeaaK5
import Derived.Test.YtghbcleokmcdeaaK6
import Derived.Test.YtghbcleokmcdeaaK7
import Derived.Test.YtghbcleokmcdeaaK8
import Derived.Test.YtghbcleokmcdeaaRows
import Derived.WalkKit
import Derived.ProofKit
import Derived.OpenShut
import Derived.ShutString
import Derived.ChangeOld
import Derived.Below
import Derived.SizedLaws
namespace Go.Proofs.Ytghbcleokmcdeaa
set_option linter.unusedVariables false
set_option linter.unusedSimpArgs false
open Go Go.Am Go.ChangeShapes Go.WideShapes Go.ChangeAt Go.RowKit
theorem spansLive_own : ownKnob Try.prog.godebug = none := by kernel_rfl
theorem spansLive_laid : laidOutB Try.prog = true := by kernel_rfl

set_option maxRecDepth 100000 in
theorem spansLive_lifted (os : Os) (started : os.Started) (H : Type) (enc : TypeId × Value → H) :
    ReturnsInHanded {} Try.checked os 8 .any (Rows.spansLiveSpec.pre6 enc Try.prog Try.f8 Rows.spansLiveRow.domain false) (Rows.spansLiveSpec.post enc Try.prog Try.f8 false true false false) := by
  refine returnsInHanded_of_change_sized (C := Try.checked) spansLive_own started (by kernel_rfl) Try.func8
    (ChangeSpec.witness6 (enc := enc) (C := Try.checked) false ⟨#[], #[.slice none 0 0, .agg #[.int .i64 0, .int .i64 0], .int .i64 0], []⟩ 8 (by kernel_rfl) (by kernel_rfl) (by kernel_rfl) (by kernel_rfl)) ?_
  intro W base args ds gs before hval0 hW hcnd hsz0 _
  have hsz : (DataW.weightsEach Try.prog (Try.f8.params.toList ++ Rows.spansLiveSpec.plain.varTypes Try.prog) (ds ++ gs)).all (· ≤ reachBytes) = true := hsz0
  have hval : ∀ (j : Nat) t v, Try.f8.params[j]? = some t → args[j]? = some v → Value.okWide Try.prog W .any base t v := hval0
  have hW' := hW
  obtain ⟨p, q, hA0, hV, rfl, hfz, hnd⟩ := hW
  have hA : DataW.TrodAll enc Try.prog W 0 (fun _ => true) true Try.f8.params.toList args.toList ds p := hA0
  rw [Try.params8] at hA hval hsz
  obtain ⟨v0, vs0, d0, ds0, p0, q0, hargs, rfl, rfl, h0, r0⟩ := trodAll_cons hA
  obtain ⟨v1, vs1, d1, ds1, p1, q1, rfl, rfl, rfl, h1, r1⟩ := trodAll_cons r0
  obtain ⟨v2, vs2, d2, ds2, p2, q2, rfl, rfl, rfl, h2, r2⟩ := trodAll_cons r1
  obtain ⟨rfl, rfl, rfl⟩ := trodAll_nil r2
  obtain rfl : args = #[v0, v1, v2] := by cases args; simp_all
  obtain ⟨rfl, rfl⟩ := trodVars_none hV
  have k0 := h0
  have lt0 : ∀ x ∈ p0, x.block < W.heap.size := by obtain ⟨m, hm⟩ := k0; exact DataW.trod_lt m _ _ _ hm
  have zz0 : reachBytes = 140737488351232 := by decide
  have ml0 : maxLen = 9223372036854775807 := by decide
  have re0 : Reads enc Try.prog W 0 (fun _ => true) true 49 (fun x => ((fun a2 : Bool × (Int × Int) => AVal.agg (([AVal.v (.bool a2.1)]) ++ ((([AVal.v (.int .i64 a2.2.1)]) ++ (([AVal.v (.int .i64 a2.2.2)])))))) x).cells) (fun a1 => True ∧ (-9223372036854775808 ≤ a1.2.1 ∧ a1.2.1 ≤ 9223372036854775807) ∧ (-9223372036854775808 ≤ a1.2.2 ∧ a1.2.2 ≤ 9223372036854775807)) := (reads_struct (L := 3) Try.underlying49 (by kernel_rfl) (readsFs_cons (off2 := 1) rfl (by kernel_rfl) (reads_bool Try.underlying4) (readsFs_last rfl (by kernel_rfl) (reads_struct (L := 2) Try.underlying47 (by kernel_rfl) (readsFs_cons (off2 := 1) rfl (by kernel_rfl) (reads_i64 Try.underlying3) (readsFs_last rfl (by kernel_rfl) (reads_i64 Try.underlying3)))))))
  obtain ⟨b0, y0, z0, g0⟩ := slices0 (f := (fun a3 : Bool × (Int × Int) => AVal.agg (([AVal.v (.bool a3.1)]) ++ ((([AVal.v (.int .i64 a3.2.1)]) ++ (([AVal.v (.int .i64 a3.2.2)]))))))) (s := 3) (B := 24) hsz (j := 0) (t := 41) rfl rfl Try.underlying41 (by kernel_rfl) (by kernel_rfl) (fun _ => rfl) re0 (hval 0 41 v0 rfl rfl) h0
  have k1 := h1
  have lt1 : ∀ x ∈ p1, x.block < W.heap.size := by obtain ⟨m, hm⟩ := k1; exact DataW.trod_lt m _ _ _ hm
  have zz1 : reachBytes = 140737488351232 := by decide
  have ml1 : maxLen = 9223372036854775807 := by decide
  have re1 : Reads enc Try.prog W 0 (fun _ => true) true 47 (fun a6 : Int × Int => ([AVal.v (.int .i64 a6.1)]) ++ (([AVal.v (.int .i64 a6.2)]))) (fun a5 => (-9223372036854775808 ≤ a5.1 ∧ a5.1 ≤ 9223372036854775807) ∧ (-9223372036854775808 ≤ a5.2 ∧ a5.2 ≤ 9223372036854775807)) := (reads_struct (L := 2) Try.underlying47 (by kernel_rfl) (readsFs_cons (off2 := 1) rfl (by kernel_rfl) (reads_i64 Try.underlying3) (readsFs_last rfl (by kernel_rfl) (reads_i64 Try.underlying3))))
  obtain ⟨b1, y1, g1⟩ := aggs0 hsz (j := 1) (t := 47) rfl rfl (.inr ⟨_, Try.underlying47⟩) re1 (hval 1 47 v1 rfl rfl) h1
  obtain ⟨a2, rfl, rfl, rfl, w2⟩ := open_int Try.underlying3 (hval 2 3 v2 rfl rfl) h2
  have g2 : -9223372036854775808 ≤ a2 ∧ a2 ≤ 9223372036854775807 := by
    simp only [Lit.wf, IntKind.min, IntKind.max, IntKind.signed, IntKind.bits] at w2
    simp at w2
    omega
  clear hA0 hval0 hsz0 hsz
  have hr : RepL (ghost0 W) [.slice 3 (b0.map (fun a4 : Bool × (Int × Int) => AVal.agg (([AVal.v (.bool a4.1)]) ++ ((([AVal.v (.int .i64 a4.2.1)]) ++ (([AVal.v (.int .i64 a4.2.2)]))))))) .none, .agg (([AVal.v (.int .i64 b1.1)]) ++ (([AVal.v (.int .i64 b1.2)]))), i64v a2] [v0, v1, .int .i64 a2] := (.cons y0 (.cons y1 (.cons (.v rfl) .nil)))
  refine (law_calls (SpansLive b0 b1 a2 heap0 (by omega)) (fun v σ h => h.1) (cargs := #[v0, v1, .int .i64 a2]) hr).mono fun e W' ⟨he, bel⟩ => ?_
  subst he
  exact ⟨_, rfl, _, _, _, [], _, [], hW', trodAll_mk1 (shut_bool Try.underlying4 _), (trodAll_cons_mk (Below.trod spansLive_laid (by kernel_rfl) (of_decide_eq_true (by kernel_rfl)) k0 bel lt0) (trodAll_cons_mk (Below.trod spansLive_laid (by kernel_rfl) (of_decide_eq_true (by kernel_rfl)) k1 bel lt1) (trodAll_cons_mk (shut_int Try.underlying3 w2) trodAll_mk0))), rfl, bel.frame _, fun h => by cases h⟩

theorem spansLive_closed : joinedFacts Try.pinned.checked.prog 8 Try.f8 Rows.spansLiveSpec Rows.spansLiveRow = true := by kernel_rfl
theorem spansLive_named : Try.pinned.checked.prog.funcNamed Rows.spansLiveRow.func = some 8 := by kernel_rfl
theorem spansLive_inst : Try.f8.isInstance Try.pinned.checked.prog Rows.spansLiveRow.origin Rows.spansLiveRow.targs := of_decide_eq_true (by kernel_rfl)
theorem spansLive_wrap : Try.f8.isWrapper Try.pinned.checked.prog Rows.spansLiveRow.wrapper Rows.spansLiveRow.mainSum := by
  unfold Func.isWrapper; first | (rw [if_pos (by decide +kernel)]; kernel_rfl) | (rw [if_neg (by decide +kernel)]; exact ⟨rfl, rfl⟩)
theorem spansLive_holds : Rows.SpansLiveSaid :=
  OpenClaim.holds_of_wide 8 Try.f8 rfl rfl rfl rfl rfl rfl rfl ⟨rfl, rfl, rfl, rfl, rfl⟩ rfl rfl rfl rfl rfl spansLive_named Try.func8 spansLive_closed spansLive_inst spansLive_wrap
    (fun os started H enc _ => spansLive_lifted os started H enc)
#print axioms spansLive_holds
end Go.Proofs.Ytghbcleokmcdeaa
