/-
  The row of SentLives: proved of all inputs; no condition.
-/
import Derived.Test.YtgobbmdbkmjlnaaK0
import Derived.Test.YtgobbmdbkmjlnaaK1
import Derived.Test.YtgobbmdbkmjlnaaK2
import Derived.Test.YtgobbmdbkmjlnaaK3
import Derived.Test.YtgobbmdbkmjlnaaK4
import Derived.Test.YtgobbmdbkmjlnaaK5
import Derived.Test.YtgobbmdbkmjlnaaK6
import Derived.Test.YtgobbmdbkmjlnaaK7
import Derived.Test.YtgobbmdbkmjlnaaK8
import Derived.Test.YtgobbmdbkmjlnaaK9
import Derived.Test.YtgobbmdbkmjlnaaRows
import Derived.WalkKit
import Derived.ProofKit
import Derived.OpenShut
import Derived.ShutString
import Derived.ChangeOld
import Derived.Below
import Derived.SizedLaws
namespace Go.Proofs.Ytgobbmdbkmjlnaa
set_option linter.unusedVariables false
set_option linter.unusedSimpArgs false
open Go Go.Am Go.ChangeShapes Go.WideShapes Go.ChangeAt Go.RowKit
theorem sentLives_own : ownKnob Try.prog.godebug = none := by kernel_rfl
theorem sentLives_laid : laidOutB Try.prog = true := by kernel_rfl

set_option maxRecDepth 100000 in
theorem sentLives_lifted (os : Os) (started : os.Started) (H : Type) (enc : TypeId × Value → H) :
    ReturnsInHanded {} Try.checked os 7 .any (Rows.sentLivesSpec.pre6 enc Try.prog Try.f7 Rows.sentLivesRow.domain false) (Rows.sentLivesSpec.post enc Try.prog Try.f7 false true false false) := by
  refine returnsInHanded_of_change_sized (C := Try.checked) sentLives_own started (by kernel_rfl) Try.func7
    (ChangeSpec.witness6 (enc := enc) (C := Try.checked) false ⟨#[], #[.int .i64 0, .slice none 0 0], []⟩ 8 (by kernel_rfl) (by kernel_rfl) (by kernel_rfl) (by kernel_rfl)) ?_
  intro W base args ds gs before hval0 hW hcnd hsz0 _
  have hsz : (DataW.weightsEach Try.prog (Try.f7.params.toList ++ Rows.sentLivesSpec.plain.varTypes Try.prog) (ds ++ gs)).all (· ≤ reachBytes) = true := hsz0
  have hval : ∀ (j : Nat) t v, Try.f7.params[j]? = some t → args[j]? = some v → Value.okWide Try.prog W .any base t v := hval0
  have hW' := hW
  obtain ⟨p, q, hA0, hV, rfl, hfz, hnd⟩ := hW
  have hA : DataW.TrodAll enc Try.prog W 0 (fun _ => true) true Try.f7.params.toList args.toList ds p := hA0
  rw [Try.params7] at hA hval hsz
  obtain ⟨v0, vs0, d0, ds0, p0, q0, hargs, rfl, rfl, h0, r0⟩ := trodAll_cons hA
  obtain ⟨v1, vs1, d1, ds1, p1, q1, rfl, rfl, rfl, h1, r1⟩ := trodAll_cons r0
  obtain ⟨rfl, rfl, rfl⟩ := trodAll_nil r1
  obtain rfl : args = #[v0, v1] := by cases args; simp_all
  obtain ⟨rfl, rfl⟩ := trodVars_none hV
  obtain ⟨a0, rfl, rfl, rfl, w0⟩ := open_int Try.underlying3 (hval 0 3 v0 rfl rfl) h0
  have g0 : -9223372036854775808 ≤ a0 ∧ a0 ≤ 9223372036854775807 := by
    simp only [Lit.wf, IntKind.min, IntKind.max, IntKind.signed, IntKind.bits] at w0
    simp at w0
    omega
  have k1 := h1
  have lt1 : ∀ x ∈ p1, x.block < W.heap.size := by obtain ⟨m, hm⟩ := k1; exact DataW.trod_lt m _ _ _ hm
  have zz1 : reachBytes = 140737488351232 := by decide
  have ml1 : maxLen = 9223372036854775807 := by decide
  have re1 : Reads enc Try.prog W 0 (fun _ => true) true 83 (fun x => ((fun a2 : Int × Int × Int × Int × (Bool × Int × Int × Bool × Bool × Int × List (List (UInt8))) => AVal.agg (([AVal.v (.int .i64 a2.1)]) ++ (([AVal.v (.int .i64 a2.2.1)]) ++ (([AVal.v (.int .i64 a2.2.2.1)]) ++ (([AVal.v (.int .i64 a2.2.2.2.1)]) ++ ((([AVal.v (.bool a2.2.2.2.2.1)]) ++ (([AVal.v (.int .i64 a2.2.2.2.2.2.1)]) ++ (([AVal.v (.int .i64 a2.2.2.2.2.2.2.1)]) ++ (([AVal.v (.bool a2.2.2.2.2.2.2.2.1)]) ++ (([AVal.v (.bool a2.2.2.2.2.2.2.2.2.1)]) ++ (([AVal.v (.int .i64 a2.2.2.2.2.2.2.2.2.2.1)]) ++ (([AVal.slice 1 (a2.2.2.2.2.2.2.2.2.2.2.map (fun a3 : List (UInt8) => AVal.slice 1 (a3.map byteV) .none)) .none])))))))))))))) x).cells) (fun a1 => (-9223372036854775808 ≤ a1.1 ∧ a1.1 ≤ 9223372036854775807) ∧ (-9223372036854775808 ≤ a1.2.1 ∧ a1.2.1 ≤ 9223372036854775807) ∧ (-9223372036854775808 ≤ a1.2.2.1 ∧ a1.2.2.1 ≤ 9223372036854775807) ∧ (-9223372036854775808 ≤ a1.2.2.2.1 ∧ a1.2.2.2.1 ≤ 9223372036854775807) ∧ True ∧ (-9223372036854775808 ≤ a1.2.2.2.2.2.1 ∧ a1.2.2.2.2.2.1 ≤ 9223372036854775807) ∧ (-9223372036854775808 ≤ a1.2.2.2.2.2.2.1 ∧ a1.2.2.2.2.2.2.1 ≤ 9223372036854775807) ∧ True ∧ True ∧ (-9223372036854775808 ≤ a1.2.2.2.2.2.2.2.2.2.1 ∧ a1.2.2.2.2.2.2.2.2.2.1 ≤ 9223372036854775807) ∧ (a1.2.2.2.2.2.2.2.2.2.2.length * 24 ≤ reachBytes ∧ ∀ a5 ∈ a1.2.2.2.2.2.2.2.2.2.2, (a5.length * 1 ≤ reachBytes ∧ ∀ a6 ∈ a5, True))) := (reads_struct (L := 11) Try.underlying83 (by kernel_rfl) (readsFs_cons (off2 := 1) rfl (by kernel_rfl) (reads_i64 Try.underlying3) (readsFs_cons (off2 := 2) rfl (by kernel_rfl) (reads_i64 Try.underlying3) (readsFs_cons (off2 := 3) rfl (by kernel_rfl) (reads_i64 Try.underlying3) (readsFs_cons (off2 := 4) rfl (by kernel_rfl) (reads_i64 Try.underlying3) (readsFs_last rfl (by kernel_rfl) (reads_struct (L := 7) Try.underlying27 (by kernel_rfl) (readsFs_cons (off2 := 1) rfl (by kernel_rfl) (reads_bool Try.underlying4) (readsFs_cons (off2 := 2) rfl (by kernel_rfl) (reads_i64 Try.underlying3) (readsFs_cons (off2 := 3) rfl (by kernel_rfl) (reads_i64 Try.underlying3) (readsFs_cons (off2 := 4) rfl (by kernel_rfl) (reads_bool Try.underlying4) (readsFs_cons (off2 := 5) rfl (by kernel_rfl) (reads_bool Try.underlying4) (readsFs_cons (off2 := 6) rfl (by kernel_rfl) (reads_i64 Try.underlying3) (readsFs_last rfl (by kernel_rfl) (reads_slice (f := (fun a7 : List (UInt8) => AVal.slice 1 (a7.map byteV) .none)) (s := 1) (fun _ => rfl) Try.underlying25 (by kernel_rfl) (B := 24) (by kernel_rfl) (by decide) (fun _ => rfl) (reads_slice (f := byteV) (s := 1) (fun _ => rfl) Try.underlying64 (by kernel_rfl) (B := 1) (by kernel_rfl) (by decide) (fun _ => rfl) (reads_u8 Try.underlying5)))))))))))))))))
  obtain ⟨b1, y1, z1, g1⟩ := slices0 (f := (fun a10 : Int × Int × Int × Int × (Bool × Int × Int × Bool × Bool × Int × List (List (UInt8))) => AVal.agg (([AVal.v (.int .i64 a10.1)]) ++ (([AVal.v (.int .i64 a10.2.1)]) ++ (([AVal.v (.int .i64 a10.2.2.1)]) ++ (([AVal.v (.int .i64 a10.2.2.2.1)]) ++ ((([AVal.v (.bool a10.2.2.2.2.1)]) ++ (([AVal.v (.int .i64 a10.2.2.2.2.2.1)]) ++ (([AVal.v (.int .i64 a10.2.2.2.2.2.2.1)]) ++ (([AVal.v (.bool a10.2.2.2.2.2.2.2.1)]) ++ (([AVal.v (.bool a10.2.2.2.2.2.2.2.2.1)]) ++ (([AVal.v (.int .i64 a10.2.2.2.2.2.2.2.2.2.1)]) ++ (([AVal.slice 1 (a10.2.2.2.2.2.2.2.2.2.2.map (fun a11 : List (UInt8) => AVal.slice 1 (a11.map byteV) .none)) .none]))))))))))))))) (s := 11) (B := 96) hsz (j := 1) (t := 77) rfl rfl Try.underlying77 (by kernel_rfl) (by kernel_rfl) (fun _ => rfl) re1 (hval 1 77 v1 rfl rfl) h1
  clear hA0 hval0 hsz0 hsz
  have hr : RepL (ghost0 W) [i64v a0, .slice 11 (b1.map (fun a13 : Int × Int × Int × Int × (Bool × Int × Int × Bool × Bool × Int × List (List (UInt8))) => AVal.agg (([AVal.v (.int .i64 a13.1)]) ++ (([AVal.v (.int .i64 a13.2.1)]) ++ (([AVal.v (.int .i64 a13.2.2.1)]) ++ (([AVal.v (.int .i64 a13.2.2.2.1)]) ++ ((([AVal.v (.bool a13.2.2.2.2.1)]) ++ (([AVal.v (.int .i64 a13.2.2.2.2.2.1)]) ++ (([AVal.v (.int .i64 a13.2.2.2.2.2.2.1)]) ++ (([AVal.v (.bool a13.2.2.2.2.2.2.2.1)]) ++ (([AVal.v (.bool a13.2.2.2.2.2.2.2.2.1)]) ++ (([AVal.v (.int .i64 a13.2.2.2.2.2.2.2.2.2.1)]) ++ (([AVal.slice 1 (a13.2.2.2.2.2.2.2.2.2.2.map (fun a14 : List (UInt8) => AVal.slice 1 (a14.map byteV) .none)) .none]))))))))))))))) .none] [.int .i64 a0, v1] := (.cons (.v rfl) (.cons y1 .nil))
  refine (law_calls (SentLives a0 b1 heap0 (by omega) (fun o ho => ⟨by have := (g1 o ho).2.2.2.2.2.2.2.2.2.2.1; show o.2.2.2.2.2.2.2.2.2.2.length ≤ _; omega, inR_of (g1 o ho).2.2.2.2.2.2.1⟩)) (fun v σ h => h.1) (cargs := #[.int .i64 a0, v1]) hr).mono fun e W' ⟨he, bel⟩ => ?_
  subst he
  exact ⟨_, rfl, _, _, _, [], _, [], hW', trodAll_mk1 (shut_bool Try.underlying4 _), (trodAll_cons_mk (shut_int Try.underlying3 w0) (trodAll_cons_mk (Below.trod sentLives_laid (by kernel_rfl) (of_decide_eq_true (by kernel_rfl)) k1 bel lt1) trodAll_mk0)), rfl, bel.frame _, fun h => by cases h⟩

theorem sentLives_closed : joinedFacts Try.pinned.checked.prog 7 Try.f7 Rows.sentLivesSpec Rows.sentLivesRow = true := by kernel_rfl
theorem sentLives_named : Try.pinned.checked.prog.funcNamed Rows.sentLivesRow.func = some 7 := by kernel_rfl
theorem sentLives_inst : Try.f7.isInstance Try.pinned.checked.prog Rows.sentLivesRow.origin Rows.sentLivesRow.targs := of_decide_eq_true (by kernel_rfl)
theorem sentLives_wrap : Try.f7.isWrapper Try.pinned.checked.prog Rows.sentLivesRow.wrapper Rows.sentLivesRow.mainSum := by
  unfold Func.isWrapper; first | (rw [if_pos (by decide +kernel)]; kernel_rfl) | (rw [if_neg (by decide +kernel)]; exact ⟨rfl, rfl⟩)
theorem sentLives_holds : Rows.SentLivesSaid :=
  OpenClaim.holds_of_wide 7 Try.f7 rfl rfl rfl rfl rfl rfl rfl ⟨rfl, rfl, rfl, rfl, rfl⟩ rfl rfl rfl rfl rfl sentLives_named Try.func7 sentLives_closed sentLives_inst sentLives_wrap
    (fun os started H enc _ => sentLives_lifted os started H enc)
#print axioms sentLives_holds
end Go.Proofs.Ytgobbmdbkmjlnaa
