/-
  The row of ResegWhole: proved of all inputs; no condition.
-/
import Derived.Test.YtgipkpghabelkaaK0
import Derived.Test.YtgipkpghabelkaaK1
import Derived.Test.YtgipkpghabelkaaK2
import Derived.Test.YtgipkpghabelkaaK3
import Derived.Test.YtgipkpghabelkaaK4
import Derived.Test.YtgipkpghabelkaaK5
import Derived.Test.YtgipkpghabelkaaK6
import Derived.Test.YtgipkpghabelkaaK7
import Derived.Test.YtgipkpghabelkaaK8
import Derived.Test.YtgipkpghabelkaaK12
import Derived.Test.YtgipkpghabelkaaK13
import Derived.Test.YtgipkpghabelkaaRows
import Derived.WalkKit
import Derived.ProofKit
import Derived.OpenShut
import Derived.ShutString
import Derived.ChangeOld
import Derived.Below
import Derived.SizedLaws
namespace Go.Proofs.Ytgipkpghabelkaa
set_option linter.unusedVariables false
set_option linter.unusedSimpArgs false
open Go Go.Am Go.ChangeShapes Go.WideShapes Go.ChangeAt Go.RowKit
theorem resegWhole_own : ownKnob Try.prog.godebug = none := by kernel_rfl
theorem resegWhole_laid : laidOutB Try.prog = true := by kernel_rfl

set_option maxRecDepth 100000 in
theorem resegWhole_lifted (os : Os) (started : os.Started) (H : Type) (enc : TypeId × Value → H) :
    ReturnsInHanded {} Try.checked os 6 .any (Rows.resegWholeSpec.pre6 enc Try.prog Try.f6 Rows.resegWholeRow.domain false) (Rows.resegWholeSpec.post enc Try.prog Try.f6 false true false false) := by
  refine returnsInHanded_of_change_sized (C := Try.checked) resegWhole_own started (by kernel_rfl) Try.func6
    (ChangeSpec.witness6 (enc := enc) (C := Try.checked) false ⟨#[], #[.agg #[.bool false, .int .i64 0, .int .i64 0, .bool false, .bool false, .int .i64 0, .slice none 0 0], .slice none 0 0, .int .i64 0, .slice none 0 0], []⟩ 8 (by kernel_rfl) (by kernel_rfl) (by kernel_rfl) (by kernel_rfl)) ?_
  intro W base args ds gs before hval0 hW hcnd hsz0 _
  have hsz : (DataW.weightsEach Try.prog (Try.f6.params.toList ++ Rows.resegWholeSpec.plain.varTypes Try.prog) (ds ++ gs)).all (· ≤ reachBytes) = true := hsz0
  have hval : ∀ (j : Nat) t v, Try.f6.params[j]? = some t → args[j]? = some v → Value.okWide Try.prog W .any base t v := hval0
  have hW' := hW
  obtain ⟨p, q, hA0, hV, rfl, hfz, hnd⟩ := hW
  have hA : DataW.TrodAll enc Try.prog W 0 (fun _ => true) true Try.f6.params.toList args.toList ds p := hA0
  rw [Try.params6] at hA hval hsz
  obtain ⟨v0, vs0, d0, ds0, p0, q0, hargs, rfl, rfl, h0, r0⟩ := trodAll_cons hA
  obtain ⟨v1, vs1, d1, ds1, p1, q1, rfl, rfl, rfl, h1, r1⟩ := trodAll_cons r0
  obtain ⟨v2, vs2, d2, ds2, p2, q2, rfl, rfl, rfl, h2, r2⟩ := trodAll_cons r1
  obtain ⟨v3, vs3, d3, ds3, p3, q3, rfl, rfl, rfl, h3, r3⟩ := trodAll_cons r2
  obtain ⟨rfl, rfl, rfl⟩ := trodAll_nil r3
  obtain rfl : args = #[v0, v1, v2, v3] := by cases args; simp_all
  obtain ⟨rfl, rfl⟩ := trodVars_none hV
  have k0 := h0
  have lt0 : ∀ x ∈ p0, x.block < W.heap.size := by obtain ⟨m, hm⟩ := k0; exact DataW.trod_lt m _ _ _ hm
  have zz0 : reachBytes = 140737488351232 := by decide
  have ml0 : maxLen = 9223372036854775807 := by decide
  have re0 : Reads enc Try.prog W 0 (fun _ => true) true 24 (fun a2 : Bool × Int × Int × Bool × Bool × Int × List (List (UInt8)) => ([AVal.v (.bool a2.1)]) ++ (([AVal.v (.int .i64 a2.2.1)]) ++ (([AVal.v (.int .i64 a2.2.2.1)]) ++ (([AVal.v (.bool a2.2.2.2.1)]) ++ (([AVal.v (.bool a2.2.2.2.2.1)]) ++ (([AVal.v (.int .i64 a2.2.2.2.2.2.1)]) ++ (([AVal.slice 1 (a2.2.2.2.2.2.2.map (fun a3 : List (UInt8) => AVal.slice 1 (a3.map byteV) .none)) .none])))))))) (fun a1 => True ∧ (-9223372036854775808 ≤ a1.2.1 ∧ a1.2.1 ≤ 9223372036854775807) ∧ (-9223372036854775808 ≤ a1.2.2.1 ∧ a1.2.2.1 ≤ 9223372036854775807) ∧ True ∧ True ∧ (-9223372036854775808 ≤ a1.2.2.2.2.2.1 ∧ a1.2.2.2.2.2.1 ≤ 9223372036854775807) ∧ (a1.2.2.2.2.2.2.length * 24 ≤ reachBytes ∧ ∀ a5 ∈ a1.2.2.2.2.2.2, (a5.length * 1 ≤ reachBytes ∧ ∀ a6 ∈ a5, True))) := (reads_struct (L := 7) Try.underlying24 (by kernel_rfl) (readsFs_cons (off2 := 1) rfl (by kernel_rfl) (reads_bool Try.underlying4) (readsFs_cons (off2 := 2) rfl (by kernel_rfl) (reads_i64 Try.underlying3) (readsFs_cons (off2 := 3) rfl (by kernel_rfl) (reads_i64 Try.underlying3) (readsFs_cons (off2 := 4) rfl (by kernel_rfl) (reads_bool Try.underlying4) (readsFs_cons (off2 := 5) rfl (by kernel_rfl) (reads_bool Try.underlying4) (readsFs_cons (off2 := 6) rfl (by kernel_rfl) (reads_i64 Try.underlying3) (readsFs_last rfl (by kernel_rfl) (reads_slice (f := (fun a7 : List (UInt8) => AVal.slice 1 (a7.map byteV) .none)) (s := 1) (fun _ => rfl) Try.underlying22 (by kernel_rfl) (B := 24) (by kernel_rfl) (by decide) (fun _ => rfl) (reads_slice (f := byteV) (s := 1) (fun _ => rfl) Try.underlying39 (by kernel_rfl) (B := 1) (by kernel_rfl) (by decide) (fun _ => rfl) (reads_u8 Try.underlying5)))))))))))
  obtain ⟨b0, y0, g0⟩ := aggs0 hsz (j := 0) (t := 24) rfl rfl (.inr ⟨_, Try.underlying24⟩) re0 (hval 0 24 v0 rfl rfl) h0
  have k1 := h1
  have lt1 : ∀ x ∈ p1, x.block < W.heap.size := by obtain ⟨m, hm⟩ := k1; exact DataW.trod_lt m _ _ _ hm
  have zz1 : reachBytes = 140737488351232 := by decide
  have ml1 : maxLen = 9223372036854775807 := by decide
  have re1 : Reads enc Try.prog W 0 (fun _ => true) true 48 (fun x => ((fun a13 : Nat => AVal.v (.int .u16 a13)) x).cells) (fun a12 => a12 < 65536) := (reads_u16 Try.underlying48)
  obtain ⟨b1, y1, z1, g1⟩ := slices0 (f := (fun a14 : Nat => AVal.v (.int .u16 a14))) (s := 1) (B := 2) hsz (j := 1) (t := 43) rfl rfl Try.underlying43 (by kernel_rfl) (by kernel_rfl) (fun _ => rfl) re1 (hval 1 43 v1 rfl rfl) h1
  obtain ⟨a2, rfl, rfl, rfl, w2⟩ := open_int Try.underlying3 (hval 2 3 v2 rfl rfl) h2
  have g2 : -9223372036854775808 ≤ a2 ∧ a2 ≤ 9223372036854775807 := by
    simp only [Lit.wf, IntKind.min, IntKind.max, IntKind.signed, IntKind.bits] at w2
    simp at w2
    omega
  have k3 := h3
  have lt3 : ∀ x ∈ p3, x.block < W.heap.size := by obtain ⟨m, hm⟩ := k3; exact DataW.trod_lt m _ _ _ hm
  have zz3 : reachBytes = 140737488351232 := by decide
  have ml3 : maxLen = 9223372036854775807 := by decide
  obtain ⟨b3, y3, z3⟩ := bytes0 hsz (j := 3) (t := 39) rfl rfl Try.underlying39 Try.underlying5 (by kernel_rfl) (by kernel_rfl) (hval 3 39 v3 rfl rfl) h3
  clear hA0 hval0 hsz0 hsz
  have hr : RepL (ghost0 W) [.agg (([AVal.v (.bool b0.1)]) ++ (([AVal.v (.int .i64 b0.2.1)]) ++ (([AVal.v (.int .i64 b0.2.2.1)]) ++ (([AVal.v (.bool b0.2.2.2.1)]) ++ (([AVal.v (.bool b0.2.2.2.2.1)]) ++ (([AVal.v (.int .i64 b0.2.2.2.2.2.1)]) ++ (([AVal.slice 1 (b0.2.2.2.2.2.2.map (fun a10 : List (UInt8) => AVal.slice 1 (a10.map byteV) .none)) .none])))))))), .slice 1 (b1.map (fun a15 : Nat => AVal.v (.int .u16 a15))) .none, i64v a2, sl .none b3] [v0, v1, .int .i64 a2, v3] := (.cons y0 (.cons y1 (.cons (.v rfl) (.cons y3 .nil))))
  refine (law_calls (ResegWhole ⟨b0.1, b0.2.1, b0.2.2.1, b0.2.2.2.1, b0.2.2.2.2.1, b0.2.2.2.2.2.1, b0.2.2.2.2.2.2⟩ b1 a2 b3 heap0 (by dsimp only; omega) (fun p hp => g1 p hp) (by omega) (by omega)) (fun v σ h => h.1) (cargs := #[v0, v1, .int .i64 a2, v3]) hr).mono fun e W' ⟨he, bel⟩ => ?_
  subst he
  exact ⟨_, rfl, _, _, _, [], _, [], hW', trodAll_mk1 (shut_bool Try.underlying4 _), (trodAll_cons_mk (Below.trod resegWhole_laid (by kernel_rfl) (of_decide_eq_true (by kernel_rfl)) k0 bel lt0) (trodAll_cons_mk (Below.trod resegWhole_laid (by kernel_rfl) (of_decide_eq_true (by kernel_rfl)) k1 bel lt1) (trodAll_cons_mk (shut_int Try.underlying3 w2) (trodAll_cons_mk (Below.trod resegWhole_laid (by kernel_rfl) (of_decide_eq_true (by kernel_rfl)) k3 bel lt3) trodAll_mk0)))), rfl, bel.frame _, fun h => by cases h⟩

theorem resegWhole_closed : joinedFacts Try.pinned.checked.prog 6 Try.f6 Rows.resegWholeSpec Rows.resegWholeRow = true := by kernel_rfl
theorem resegWhole_named : Try.pinned.checked.prog.funcNamed Rows.resegWholeRow.func = some 6 := by kernel_rfl
theorem resegWhole_inst : Try.f6.isInstance Try.pinned.checked.prog Rows.resegWholeRow.origin Rows.resegWholeRow.targs := of_decide_eq_true (by kernel_rfl)
theorem resegWhole_wrap : Try.f6.isWrapper Try.pinned.checked.prog Rows.resegWholeRow.wrapper Rows.resegWholeRow.mainSum := by
  unfold Func.isWrapper; first | (rw [if_pos (by decide +kernel)]; kernel_rfl) | (rw [if_neg (by decide +kernel)]; exact ⟨rfl, rfl⟩)
theorem resegWhole_holds : Rows.ResegWholeSaid :=
  OpenClaim.holds_of_wide 6 Try.f6 rfl rfl rfl rfl rfl rfl rfl ⟨rfl, rfl, rfl, rfl, rfl⟩ rfl rfl rfl rfl rfl resegWhole_named Try.func6 resegWhole_closed resegWhole_inst resegWhole_wrap
    (fun os started H enc _ => resegWhole_lifted os started H enc)
#print axioms resegWhole_holds
end Go.Proofs.Ytgipkpghabelkaa
