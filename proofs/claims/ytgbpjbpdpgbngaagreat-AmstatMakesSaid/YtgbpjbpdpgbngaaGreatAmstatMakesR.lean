/-
  The row of AmstatMakes: proved of all inputs; no condition.
-/
import Derived.Test.YtgbpjbpdpgbngaaGreatK0
import Derived.Test.YtgbpjbpdpgbngaaGreatK1
import Derived.Test.YtgbpjbpdpgbngaaGreatK2
import Derived.Test.YtgbpjbpdpgbngaaGreatK3
import Derived.Test.YtgbpjbpdpgbngaaGreatK4
import Derived.Test.YtgbpjbpdpgbngaaGreatK5
import Derived.Test.YtgbpjbpdpgbngaaGreatK6
import Derived.Test.YtgbpjbpdpgbngaaGreatK7
import Derived.Test.YtgbpjbpdpgbngaaGreatK8
import Derived.Test.YtgbpjbpdpgbngaaGreatRows
import Derived.WalkKit
import Derived.ProofKit
import Derived.OpenShut
import Derived.ShutString
import Derived.ChangeOld
import Derived.Below
import Derived.SizedLaws
namespace Go.Proofs.YtgbpjbpdpgbngaaGreat
set_option linter.unusedVariables false
set_option linter.unusedSimpArgs false
open Go Go.Am Go.ChangeShapes Go.WideShapes Go.ChangeAt Go.RowKit
theorem amstatMakes_own : ownKnob Tryz.prog.godebug = none := by kernel_rfl
theorem amstatMakes_laid : laidOutB Tryz.prog = true := by kernel_rfl

set_option maxRecDepth 100000 in
theorem amstatMakes_lifted (os : Os) (started : os.Started) (H : Type) (enc : TypeId × Value → H) :
    ReturnsInHanded {} Tryz.checked os 3 .any (Rows.amstatMakesSpec.pre6 enc Tryz.prog Tryz.f3 Rows.amstatMakesRow.domain false) (Rows.amstatMakesSpec.post enc Tryz.prog Tryz.f3 false true false false) := by
  refine returnsInHanded_of_change_sized (C := Tryz.checked) amstatMakes_own started (by kernel_rfl) Tryz.func3
    (ChangeSpec.witness6 (enc := enc) (C := Tryz.checked) false ⟨#[], #[.slice none 0 0, .int .i64 0, .int .i64 0, .int .i64 0, .int .i64 0], []⟩ 8 (by kernel_rfl) (by kernel_rfl) (by kernel_rfl) (by kernel_rfl)) ?_
  intro W base args ds gs before hval0 hW hcnd hsz0 _
  have hsz : (DataW.weightsEach Tryz.prog (Tryz.f3.params.toList ++ Rows.amstatMakesSpec.plain.varTypes Tryz.prog) (ds ++ gs)).all (· ≤ reachBytes) = true := hsz0
  have hval : ∀ (j : Nat) t v, Tryz.f3.params[j]? = some t → args[j]? = some v → Value.okWide Tryz.prog W .any base t v := hval0
  have hW' := hW
  obtain ⟨p, q, hA0, hV, rfl, hfz, hnd⟩ := hW
  have hA : DataW.TrodAll enc Tryz.prog W 0 (fun _ => true) true Tryz.f3.params.toList args.toList ds p := hA0
  rw [Tryz.params3] at hA hval hsz
  obtain ⟨v0, vs0, d0, ds0, p0, q0, hargs, rfl, rfl, h0, r0⟩ := trodAll_cons hA
  obtain ⟨v1, vs1, d1, ds1, p1, q1, rfl, rfl, rfl, h1, r1⟩ := trodAll_cons r0
  obtain ⟨v2, vs2, d2, ds2, p2, q2, rfl, rfl, rfl, h2, r2⟩ := trodAll_cons r1
  obtain ⟨v3, vs3, d3, ds3, p3, q3, rfl, rfl, rfl, h3, r3⟩ := trodAll_cons r2
  obtain ⟨v4, vs4, d4, ds4, p4, q4, rfl, rfl, rfl, h4, r4⟩ := trodAll_cons r3
  obtain ⟨rfl, rfl, rfl⟩ := trodAll_nil r4
  obtain rfl : args = #[v0, v1, v2, v3, v4] := by cases args; simp_all
  obtain ⟨rfl, rfl⟩ := trodVars_none hV
  have k0 := h0
  have lt0 : ∀ x ∈ p0, x.block < W.heap.size := by obtain ⟨m, hm⟩ := k0; exact DataW.trod_lt m _ _ _ hm
  have zz0 : reachBytes = 140737488351232 := by decide
  have ml0 : maxLen = 9223372036854775807 := by decide
  have re0 : Reads enc Tryz.prog W 0 (fun _ => true) true 67 (fun x => ((fun a2 : Bool × Int × Int × Bool × Bool × Int × List (List (UInt8)) => AVal.agg (([AVal.v (.bool a2.1)]) ++ (([AVal.v (.int .i64 a2.2.1)]) ++ (([AVal.v (.int .i64 a2.2.2.1)]) ++ (([AVal.v (.bool a2.2.2.2.1)]) ++ (([AVal.v (.bool a2.2.2.2.2.1)]) ++ (([AVal.v (.int .i64 a2.2.2.2.2.2.1)]) ++ (([AVal.slice 1 (a2.2.2.2.2.2.2.map (fun a3 : List (UInt8) => AVal.slice 1 (a3.map byteV) .none)) .none]))))))))) x).cells) (fun a1 => True ∧ (-9223372036854775808 ≤ a1.2.1 ∧ a1.2.1 ≤ 9223372036854775807) ∧ (-9223372036854775808 ≤ a1.2.2.1 ∧ a1.2.2.1 ≤ 9223372036854775807) ∧ True ∧ True ∧ (-9223372036854775808 ≤ a1.2.2.2.2.2.1 ∧ a1.2.2.2.2.2.1 ≤ 9223372036854775807) ∧ (a1.2.2.2.2.2.2.length * 24 ≤ reachBytes ∧ ∀ a5 ∈ a1.2.2.2.2.2.2, (a5.length * 1 ≤ reachBytes ∧ ∀ a6 ∈ a5, True))) := (reads_struct (L := 7) Tryz.underlying67 (by kernel_rfl) (readsFs_cons (off2 := 1) rfl (by kernel_rfl) (reads_bool Tryz.underlying4) (readsFs_cons (off2 := 2) rfl (by kernel_rfl) (reads_i64 Tryz.underlying3) (readsFs_cons (off2 := 3) rfl (by kernel_rfl) (reads_i64 Tryz.underlying3) (readsFs_cons (off2 := 4) rfl (by kernel_rfl) (reads_bool Tryz.underlying4) (readsFs_cons (off2 := 5) rfl (by kernel_rfl) (reads_bool Tryz.underlying4) (readsFs_cons (off2 := 6) rfl (by kernel_rfl) (reads_i64 Tryz.underlying3) (readsFs_last rfl (by kernel_rfl) (reads_slice (f := (fun a7 : List (UInt8) => AVal.slice 1 (a7.map byteV) .none)) (s := 1) (fun _ => rfl) Tryz.underlying65 (by kernel_rfl) (B := 24) (by kernel_rfl) (by decide) (fun _ => rfl) (reads_slice (f := byteV) (s := 1) (fun _ => rfl) Tryz.underlying80 (by kernel_rfl) (B := 1) (by kernel_rfl) (by decide) (fun _ => rfl) (reads_u8 Tryz.underlying5)))))))))))
  obtain ⟨b0, y0, z0, g0⟩ := slices0 (f := (fun a10 : Bool × Int × Int × Bool × Bool × Int × List (List (UInt8)) => AVal.agg (([AVal.v (.bool a10.1)]) ++ (([AVal.v (.int .i64 a10.2.1)]) ++ (([AVal.v (.int .i64 a10.2.2.1)]) ++ (([AVal.v (.bool a10.2.2.2.1)]) ++ (([AVal.v (.bool a10.2.2.2.2.1)]) ++ (([AVal.v (.int .i64 a10.2.2.2.2.2.1)]) ++ (([AVal.slice 1 (a10.2.2.2.2.2.2.map (fun a11 : List (UInt8) => AVal.slice 1 (a11.map byteV) .none)) .none])))))))))) (s := 7) (B := 64) hsz (j := 0) (t := 22) rfl rfl Tryz.underlying22 (by kernel_rfl) (by kernel_rfl) (fun _ => rfl) re0 (hval 0 22 v0 rfl rfl) h0
  obtain ⟨a1, rfl, rfl, rfl, w1⟩ := open_int Tryz.underlying3 (hval 1 3 v1 rfl rfl) h1
  have g1 : -9223372036854775808 ≤ a1 ∧ a1 ≤ 9223372036854775807 := by
    simp only [Lit.wf, IntKind.min, IntKind.max, IntKind.signed, IntKind.bits] at w1
    simp at w1
    omega
  obtain ⟨a2, rfl, rfl, rfl, w2⟩ := open_int Tryz.underlying3 (hval 2 3 v2 rfl rfl) h2
  have g2 : -9223372036854775808 ≤ a2 ∧ a2 ≤ 9223372036854775807 := by
    simp only [Lit.wf, IntKind.min, IntKind.max, IntKind.signed, IntKind.bits] at w2
    simp at w2
    omega
  obtain ⟨a3, rfl, rfl, rfl, w3⟩ := open_int Tryz.underlying3 (hval 3 3 v3 rfl rfl) h3
  have g3 : -9223372036854775808 ≤ a3 ∧ a3 ≤ 9223372036854775807 := by
    simp only [Lit.wf, IntKind.min, IntKind.max, IntKind.signed, IntKind.bits] at w3
    simp at w3
    omega
  obtain ⟨a4, rfl, rfl, rfl, w4⟩ := open_int Tryz.underlying3 (hval 4 3 v4 rfl rfl) h4
  have g4 : -9223372036854775808 ≤ a4 ∧ a4 ≤ 9223372036854775807 := by
    simp only [Lit.wf, IntKind.min, IntKind.max, IntKind.signed, IntKind.bits] at w4
    simp at w4
    omega
  clear hA0 hval0 hsz0 hsz
  have hr : RepL (ghost0 W) [.slice 7 (b0.map (fun a13 : Bool × Int × Int × Bool × Bool × Int × List (List (UInt8)) => AVal.agg (([AVal.v (.bool a13.1)]) ++ (([AVal.v (.int .i64 a13.2.1)]) ++ (([AVal.v (.int .i64 a13.2.2.1)]) ++ (([AVal.v (.bool a13.2.2.2.1)]) ++ (([AVal.v (.bool a13.2.2.2.2.1)]) ++ (([AVal.v (.int .i64 a13.2.2.2.2.2.1)]) ++ (([AVal.slice 1 (a13.2.2.2.2.2.2.map (fun a14 : List (UInt8) => AVal.slice 1 (a14.map byteV) .none)) .none])))))))))) .none, i64v a1, i64v a2, i64v a3, i64v a4] [v0, .int .i64 a1, .int .i64 a2, .int .i64 a3, .int .i64 a4] := (.cons y0 (.cons (.v rfl) (.cons (.v rfl) (.cons (.v rfl) (.cons (.v rfl) .nil)))))
  refine (law_calls (AmstatMakes b0 a1 a2 a3 a4 heap0 (by omega) (fun o ho => ⟨by have := (g0 o ho).2.2.2.2.2.2.1; show o.2.2.2.2.2.2.length ≤ _; omega, inR_ofX (g0 o ho).2.2.1⟩)) (fun v σ h => h.1) (cargs := #[v0, .int .i64 a1, .int .i64 a2, .int .i64 a3, .int .i64 a4]) hr).mono fun e W' ⟨he, bel⟩ => ?_
  subst he
  exact ⟨_, rfl, _, _, _, [], _, [], hW', trodAll_mk1 (shut_bool Tryz.underlying4 _), (trodAll_cons_mk (Below.trod amstatMakes_laid (by kernel_rfl) (of_decide_eq_true (by kernel_rfl)) k0 bel lt0) (trodAll_cons_mk (shut_int Tryz.underlying3 w1) (trodAll_cons_mk (shut_int Tryz.underlying3 w2) (trodAll_cons_mk (shut_int Tryz.underlying3 w3) (trodAll_cons_mk (shut_int Tryz.underlying3 w4) trodAll_mk0))))), rfl, bel.frame _, fun h => by cases h⟩

theorem amstatMakes_closed : joinedFacts Tryz.pinned.checked.prog 3 Tryz.f3 Rows.amstatMakesSpec Rows.amstatMakesRow = true := by kernel_rfl
theorem amstatMakes_named : Tryz.pinned.checked.prog.funcNamed Rows.amstatMakesRow.func = some 3 := by kernel_rfl
theorem amstatMakes_inst : Tryz.f3.isInstance Tryz.pinned.checked.prog Rows.amstatMakesRow.origin Rows.amstatMakesRow.targs := of_decide_eq_true (by kernel_rfl)
theorem amstatMakes_wrap : Tryz.f3.isWrapper Tryz.pinned.checked.prog Rows.amstatMakesRow.wrapper Rows.amstatMakesRow.mainSum := by
  unfold Func.isWrapper; first | (rw [if_pos (by decide +kernel)]; kernel_rfl) | (rw [if_neg (by decide +kernel)]; exact ⟨rfl, rfl⟩)
theorem amstatMakes_holds : Rows.AmstatMakesSaid :=
  OpenClaim.holds_of_wide 3 Tryz.f3 rfl rfl rfl rfl rfl rfl rfl ⟨rfl, rfl, rfl, rfl, rfl⟩ rfl rfl rfl rfl rfl amstatMakes_named Tryz.func3 amstatMakes_closed amstatMakes_inst amstatMakes_wrap
    (fun os started H enc _ => amstatMakes_lifted os started H enc)
#print axioms amstatMakes_holds
end Go.Proofs.YtgbpjbpdpgbngaaGreat
