/-
  The row of TopReseg: proved of all inputs; no condition.
-/
import Derived.Test.YtgbpjbpdpgbngaaK0
import Derived.Test.YtgbpjbpdpgbngaaK1
import Derived.Test.YtgbpjbpdpgbngaaK2
import Derived.Test.YtgbpjbpdpgbngaaK3
import Derived.Test.YtgbpjbpdpgbngaaK4
import Derived.Test.YtgbpjbpdpgbngaaK5
import Derived.Test.YtgbpjbpdpgbngaaK6
import Derived.Test.YtgbpjbpdpgbngaaK7
import Derived.Test.YtgbpjbpdpgbngaaK8
import Derived.Test.YtgbpjbpdpgbngaaRows
import Derived.WalkKit
import Derived.ProofKit
import Derived.OpenShut
import Derived.ShutString
import Derived.ChangeOld
import Derived.Below
import Derived.SizedLaws
namespace Go.Proofs.Ytgbpjbpdpgbngaa
set_option linter.unusedVariables false
set_option linter.unusedSimpArgs false
open Go Go.Am Go.ChangeShapes Go.WideShapes Go.ChangeAt Go.RowKit
theorem topReseg_own : ownKnob Try.prog.godebug = none := by kernel_rfl
theorem topReseg_laid : laidOutB Try.prog = true := by kernel_rfl

set_option maxRecDepth 100000 in
theorem topReseg_lifted (os : Os) (started : os.Started) (H : Type) (enc : TypeId × Value → H) :
    ReturnsInHanded {} Try.checked os 3 .any (Rows.topResegSpec.pre6 enc Try.prog Try.f3 Rows.topResegRow.domain false) (Rows.topResegSpec.post enc Try.prog Try.f3 false true false false) := by
  refine returnsInHanded_of_change_sized (C := Try.checked) topReseg_own started (by kernel_rfl) Try.func3
    (ChangeSpec.witness6 (enc := enc) (C := Try.checked) false ⟨#[], #[.agg #[.bool false, .int .i64 0, .int .i64 0, .bool false, .bool false, .int .i64 0, .slice none 0 0], .agg #[.bool false, .int .i64 0, .int .i64 0, .bool false, .bool false, .int .i64 0, .slice none 0 0], .slice none 0 0, .slice none 0 0, .int .i64 0], []⟩ 8 (by kernel_rfl) (by kernel_rfl) (by kernel_rfl) (by kernel_rfl)) ?_
  intro W base args ds gs before hval0 hW hcnd hsz0 _
  have hsz : (DataW.weightsEach Try.prog (Try.f3.params.toList ++ Rows.topResegSpec.plain.varTypes Try.prog) (ds ++ gs)).all (· ≤ reachBytes) = true := hsz0
  have hval : ∀ (j : Nat) t v, Try.f3.params[j]? = some t → args[j]? = some v → Value.okWide Try.prog W .any base t v := hval0
  have hW' := hW
  obtain ⟨p, q, hA0, hV, rfl, hfz, hnd⟩ := hW
  have hA : DataW.TrodAll enc Try.prog W 0 (fun _ => true) true Try.f3.params.toList args.toList ds p := hA0
  rw [Try.params3] at hA hval hsz
  obtain ⟨v0, vs0, d0, ds0, p0, q0, hargs, rfl, rfl, h0, r0⟩ := trodAll_cons hA
  obtain ⟨v1, vs1, d1, ds1, p1, q1, rfl, rfl, rfl, h1, r1⟩ := trodAll_cons r0
  obtain ⟨v2, vs2, d2, ds2, p2, q2, rfl, rfl, rfl, h2, r2⟩ := trodAll_cons r1
  obtain ⟨v3, vs3, d3, ds3, p3, q3, rfl, rfl, rfl, h3, r3⟩ := trodAll_cons r2
  obtain ⟨v4, vs4, d4, ds4, p4, q4, rfl, rfl, rfl, h4, r4⟩ := trodAll_cons r3
  obtain ⟨rfl, rfl, rfl⟩ := trodAll_nil r4
  obtain rfl : args = #[v0, v1, v2, v3, v4] := by cases args; simp_all
  obtain ⟨rfl, rfl⟩ := trodVars_none hV
  have k0 := h0
  have lt0 : ∀ x ∈ p0, x.block < W.heap.size := by obtain ⟨m, hm⟩ := k0; exact DataW.trod_lt m _ _ _ hm
  have zz0 : reachBytes = 140737488351232 := by decide
  have ml0 : maxLen = 9223372036854775807 := by decide
  have re0 : Reads enc Try.prog W 0 (fun _ => true) true 24 (fun a2 : Bool × Int × Int × Bool × Bool × Int × List (List (UInt8)) => ([AVal.v (.bool a2.1)]) ++ (([AVal.v (.int .i64 a2.2.1)]) ++ (([AVal.v (.int .i64 a2.2.2.1)]) ++ (([AVal.v (.bool a2.2.2.2.1)]) ++ (([AVal.v (.bool a2.2.2.2.2.1)]) ++ (([AVal.v (.int .i64 a2.2.2.2.2.2.1)]) ++ (([AVal.slice 1 (a2.2.2.2.2.2.2.map (fun a3 : List (UInt8) => AVal.slice 1 (a3.map byteV) .none)) .none])))))))) (fun a1 => True ∧ (-9223372036854775808 ≤ a1.2.1 ∧ a1.2.1 ≤ 9223372036854775807) ∧ (-9223372036854775808 ≤ a1.2.2.1 ∧ a1.2.2.1 ≤ 9223372036854775807) ∧ True ∧ True ∧ (-9223372036854775808 ≤ a1.2.2.2.2.2.1 ∧ a1.2.2.2.2.2.1 ≤ 9223372036854775807) ∧ (a1.2.2.2.2.2.2.length * 24 ≤ reachBytes ∧ ∀ a5 ∈ a1.2.2.2.2.2.2, (a5.length * 1 ≤ reachBytes ∧ ∀ a6 ∈ a5, True))) := (reads_struct (L := 7) Try.underlying24 (by kernel_rfl) (readsFs_cons (off2 := 1) rfl (by kernel_rfl) (reads_bool Try.underlying4) (readsFs_cons (off2 := 2) rfl (by kernel_rfl) (reads_i64 Try.underlying3) (readsFs_cons (off2 := 3) rfl (by kernel_rfl) (reads_i64 Try.underlying3) (readsFs_cons (off2 := 4) rfl (by kernel_rfl) (reads_bool Try.underlying4) (readsFs_cons (off2 := 5) rfl (by kernel_rfl) (reads_bool Try.underlying4) (readsFs_cons (off2 := 6) rfl (by kernel_rfl) (reads_i64 Try.underlying3) (readsFs_last rfl (by kernel_rfl) (reads_slice (f := (fun a7 : List (UInt8) => AVal.slice 1 (a7.map byteV) .none)) (s := 1) (fun _ => rfl) Try.underlying22 (by kernel_rfl) (B := 24) (by kernel_rfl) (by decide) (fun _ => rfl) (reads_slice (f := byteV) (s := 1) (fun _ => rfl) Try.underlying26 (by kernel_rfl) (B := 1) (by kernel_rfl) (by decide) (fun _ => rfl) (reads_u8 Try.underlying5)))))))))))
  obtain ⟨b0, y0, g0⟩ := aggs0 hsz (j := 0) (t := 24) rfl rfl (.inr ⟨_, Try.underlying24⟩) re0 (hval 0 24 v0 rfl rfl) h0
  have k1 := h1
  have lt1 : ∀ x ∈ p1, x.block < W.heap.size := by obtain ⟨m, hm⟩ := k1; exact DataW.trod_lt m _ _ _ hm
  have zz1 : reachBytes = 140737488351232 := by decide
  have ml1 : maxLen = 9223372036854775807 := by decide
  have re1 : Reads enc Try.prog W 0 (fun _ => true) true 24 (fun a13 : Bool × Int × Int × Bool × Bool × Int × List (List (UInt8)) => ([AVal.v (.bool a13.1)]) ++ (([AVal.v (.int .i64 a13.2.1)]) ++ (([AVal.v (.int .i64 a13.2.2.1)]) ++ (([AVal.v (.bool a13.2.2.2.1)]) ++ (([AVal.v (.bool a13.2.2.2.2.1)]) ++ (([AVal.v (.int .i64 a13.2.2.2.2.2.1)]) ++ (([AVal.slice 1 (a13.2.2.2.2.2.2.map (fun a14 : List (UInt8) => AVal.slice 1 (a14.map byteV) .none)) .none])))))))) (fun a12 => True ∧ (-9223372036854775808 ≤ a12.2.1 ∧ a12.2.1 ≤ 9223372036854775807) ∧ (-9223372036854775808 ≤ a12.2.2.1 ∧ a12.2.2.1 ≤ 9223372036854775807) ∧ True ∧ True ∧ (-9223372036854775808 ≤ a12.2.2.2.2.2.1 ∧ a12.2.2.2.2.2.1 ≤ 9223372036854775807) ∧ (a12.2.2.2.2.2.2.length * 24 ≤ reachBytes ∧ ∀ a16 ∈ a12.2.2.2.2.2.2, (a16.length * 1 ≤ reachBytes ∧ ∀ a17 ∈ a16, True))) := (reads_struct (L := 7) Try.underlying24 (by kernel_rfl) (readsFs_cons (off2 := 1) rfl (by kernel_rfl) (reads_bool Try.underlying4) (readsFs_cons (off2 := 2) rfl (by kernel_rfl) (reads_i64 Try.underlying3) (readsFs_cons (off2 := 3) rfl (by kernel_rfl) (reads_i64 Try.underlying3) (readsFs_cons (off2 := 4) rfl (by kernel_rfl) (reads_bool Try.underlying4) (readsFs_cons (off2 := 5) rfl (by kernel_rfl) (reads_bool Try.underlying4) (readsFs_cons (off2 := 6) rfl (by kernel_rfl) (reads_i64 Try.underlying3) (readsFs_last rfl (by kernel_rfl) (reads_slice (f := (fun a18 : List (UInt8) => AVal.slice 1 (a18.map byteV) .none)) (s := 1) (fun _ => rfl) Try.underlying22 (by kernel_rfl) (B := 24) (by kernel_rfl) (by decide) (fun _ => rfl) (reads_slice (f := byteV) (s := 1) (fun _ => rfl) Try.underlying26 (by kernel_rfl) (B := 1) (by kernel_rfl) (by decide) (fun _ => rfl) (reads_u8 Try.underlying5)))))))))))
  obtain ⟨b1, y1, g1⟩ := aggs0 hsz (j := 1) (t := 24) rfl rfl (.inr ⟨_, Try.underlying24⟩) re1 (hval 1 24 v1 rfl rfl) h1
  have k2 := h2
  have lt2 : ∀ x ∈ p2, x.block < W.heap.size := by obtain ⟨m, hm⟩ := k2; exact DataW.trod_lt m _ _ _ hm
  have zz2 : reachBytes = 140737488351232 := by decide
  have ml2 : maxLen = 9223372036854775807 := by decide
  have re2 : Reads enc Try.prog W 0 (fun _ => true) true 34 (fun x => ((fun a24 : Nat => AVal.v (.int .u16 a24)) x).cells) (fun a23 => a23 < 65536) := (reads_u16 Try.underlying34)
  obtain ⟨b2, y2, z2, g2⟩ := slices0 (f := (fun a25 : Nat => AVal.v (.int .u16 a25))) (s := 1) (B := 2) hsz (j := 2) (t := 25) rfl rfl Try.underlying25 (by kernel_rfl) (by kernel_rfl) (fun _ => rfl) re2 (hval 2 25 v2 rfl rfl) h2
  have k3 := h3
  have lt3 : ∀ x ∈ p3, x.block < W.heap.size := by obtain ⟨m, hm⟩ := k3; exact DataW.trod_lt m _ _ _ hm
  have zz3 : reachBytes = 140737488351232 := by decide
  have ml3 : maxLen = 9223372036854775807 := by decide
  obtain ⟨b3, y3, z3⟩ := bytes0 hsz (j := 3) (t := 26) rfl rfl Try.underlying26 Try.underlying5 (by kernel_rfl) (by kernel_rfl) (hval 3 26 v3 rfl rfl) h3
  obtain ⟨a4, rfl, rfl, rfl, w4⟩ := open_int Try.underlying3 (hval 4 3 v4 rfl rfl) h4
  have g4 : -9223372036854775808 ≤ a4 ∧ a4 ≤ 9223372036854775807 := by
    simp only [Lit.wf, IntKind.min, IntKind.max, IntKind.signed, IntKind.bits] at w4
    simp at w4
    omega
  clear hA0 hval0 hsz0 hsz
  have hr : RepL (ghost0 W) [.agg (([AVal.v (.bool b0.1)]) ++ (([AVal.v (.int .i64 b0.2.1)]) ++ (([AVal.v (.int .i64 b0.2.2.1)]) ++ (([AVal.v (.bool b0.2.2.2.1)]) ++ (([AVal.v (.bool b0.2.2.2.2.1)]) ++ (([AVal.v (.int .i64 b0.2.2.2.2.2.1)]) ++ (([AVal.slice 1 (b0.2.2.2.2.2.2.map (fun a10 : List (UInt8) => AVal.slice 1 (a10.map byteV) .none)) .none])))))))), .agg (([AVal.v (.bool b1.1)]) ++ (([AVal.v (.int .i64 b1.2.1)]) ++ (([AVal.v (.int .i64 b1.2.2.1)]) ++ (([AVal.v (.bool b1.2.2.2.1)]) ++ (([AVal.v (.bool b1.2.2.2.2.1)]) ++ (([AVal.v (.int .i64 b1.2.2.2.2.2.1)]) ++ (([AVal.slice 1 (b1.2.2.2.2.2.2.map (fun a21 : List (UInt8) => AVal.slice 1 (a21.map byteV) .none)) .none])))))))), .slice 1 (b2.map (fun a26 : Nat => AVal.v (.int .u16 a26))) .none, sl .none b3, i64v a4] [v0, v1, v2, v3, .int .i64 a4] := (.cons y0 (.cons y1 (.cons y2 (.cons y3 (.cons (.v rfl) .nil)))))
  refine (law_calls (TopReseg ⟨b0.1, b0.2.1, b0.2.2.1, b0.2.2.2.1, b0.2.2.2.2.1, b0.2.2.2.2.2.1, b0.2.2.2.2.2.2⟩ ⟨b1.1, b1.2.1, b1.2.2.1, b1.2.2.2.1, b1.2.2.2.2.1, b1.2.2.2.2.2.1, b1.2.2.2.2.2.2⟩ b2 b3 a4 heap0 (by dsimp only; omega) (by dsimp only; omega) (fun p hp => g2 p hp) (by omega) (by omega)) (fun v σ h => h.1) (cargs := #[v0, v1, v2, v3, .int .i64 a4]) hr).mono fun e W' ⟨he, bel⟩ => ?_
  subst he
  exact ⟨_, rfl, _, _, _, [], _, [], hW', trodAll_mk1 (shut_bool Try.underlying4 _), (trodAll_cons_mk (Below.trod topReseg_laid (by kernel_rfl) (of_decide_eq_true (by kernel_rfl)) k0 bel lt0) (trodAll_cons_mk (Below.trod topReseg_laid (by kernel_rfl) (of_decide_eq_true (by kernel_rfl)) k1 bel lt1) (trodAll_cons_mk (Below.trod topReseg_laid (by kernel_rfl) (of_decide_eq_true (by kernel_rfl)) k2 bel lt2) (trodAll_cons_mk (Below.trod topReseg_laid (by kernel_rfl) (of_decide_eq_true (by kernel_rfl)) k3 bel lt3) (trodAll_cons_mk (shut_int Try.underlying3 w4) trodAll_mk0))))), rfl, bel.frame _, fun h => by cases h⟩

theorem topReseg_closed : joinedFacts Try.pinned.checked.prog 3 Try.f3 Rows.topResegSpec Rows.topResegRow = true := by kernel_rfl
theorem topReseg_named : Try.pinned.checked.prog.funcNamed Rows.topResegRow.func = some 3 := by kernel_rfl
theorem topReseg_inst : Try.f3.isInstance Try.pinned.checked.prog Rows.topResegRow.origin Rows.topResegRow.targs := of_decide_eq_true (by kernel_rfl)
theorem topReseg_wrap : Try.f3.isWrapper Try.pinned.checked.prog Rows.topResegRow.wrapper Rows.topResegRow.mainSum := by
  unfold Func.isWrapper; first | (rw [if_pos (by decide +kernel)]; kernel_rfl) | (rw [if_neg (by decide +kernel)]; exact ⟨rfl, rfl⟩)
theorem topReseg_holds : Rows.TopResegSaid :=
  OpenClaim.holds_of_wide 3 Try.f3 rfl rfl rfl rfl rfl rfl rfl ⟨rfl, rfl, rfl, rfl, rfl⟩ rfl rfl rfl rfl rfl topReseg_named Try.func3 topReseg_closed topReseg_inst topReseg_wrap
    (fun os started H enc _ => topReseg_lifted os started H enc)
#print axioms topReseg_holds
end Go.Proofs.Ytgbpjbpdpgbngaa
