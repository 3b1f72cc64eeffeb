/-
  The row of RxbufLives: proved of all inputs; no condition.
-/
import Derived.Test.YtgobbmdbkmjlnaaK0
import Derived.Test.YtgobbmdbkmjlnaaK1
import Derived.Test.YtgobbmdbkmjlnaaK2
import Derived.Test.YtgobbmdbkmjlnaaK3
import Derived.Test.YtgobbmdbkmjlnaaK4
import Derived.Test.YtgobbmdbkmjlnaaK5
import Derived.Test.YtgobbmdbkmjlnaaK6
import Derived.Test.YtgobbmdbkmjlnaaK7
import Derived.Test.YtgobbmdbkmjlnaaK8
import Derived.Test.YtgobbmdbkmjlnaaK9
import Derived.Test.YtgobbmdbkmjlnaaRows
import Derived.WalkKit
import Derived.ProofKit
import Derived.OpenShut
import Derived.ShutString
import Derived.ChangeOld
import Derived.Below
import Derived.SizedLaws
namespace Go.Proofs.Ytgobbmdbkmjlnaa
set_option linter.unusedVariables false
set_option linter.unusedSimpArgs false
open Go Go.Am Go.ChangeShapes Go.WideShapes Go.ChangeAt Go.RowKit
theorem rxbufLives_own : ownKnob Try.prog.godebug = none := by kernel_rfl
theorem rxbufLives_laid : laidOutB Try.prog = true := by kernel_rfl

set_option maxRecDepth 100000 in
theorem rxbufLives_lifted (os : Os) (started : os.Started) (H : Type) (enc : TypeId × Value → H) :
    ReturnsInHanded {} Try.checked os 4 .any (Rows.rxbufLivesSpec.pre6 enc Try.prog Try.f4 Rows.rxbufLivesRow.domain false) (Rows.rxbufLivesSpec.post enc Try.prog Try.f4 false true false false) := by
  refine returnsInHanded_of_change_sized (C := Try.checked) rxbufLives_own started (by kernel_rfl) Try.func4
    (ChangeSpec.witness6 (enc := enc) (C := Try.checked) false ⟨#[], #[.slice none 0 0], []⟩ 8 (by kernel_rfl) (by kernel_rfl) (by kernel_rfl) (by kernel_rfl)) ?_
  intro W base args ds gs before hval0 hW hcnd hsz0 _
  have hsz : (DataW.weightsEach Try.prog (Try.f4.params.toList ++ Rows.rxbufLivesSpec.plain.varTypes Try.prog) (ds ++ gs)).all (· ≤ reachBytes) = true := hsz0
  have hval : ∀ (j : Nat) t v, Try.f4.params[j]? = some t → args[j]? = some v → Value.okWide Try.prog W .any base t v := hval0
  have hW' := hW
  obtain ⟨p, q, hA0, hV, rfl, hfz, hnd⟩ := hW
  have hA : DataW.TrodAll enc Try.prog W 0 (fun _ => true) true Try.f4.params.toList args.toList ds p := hA0
  rw [Try.params4] at hA hval hsz
  obtain ⟨v0, vs0, d0, ds0, p0, q0, hargs, rfl, rfl, h0, r0⟩ := trodAll_cons hA
  obtain ⟨rfl, rfl, rfl⟩ := trodAll_nil r0
  obtain rfl : args = #[v0] := by cases args; simp_all
  obtain ⟨rfl, rfl⟩ := trodVars_none hV
  have k0 := h0
  have lt0 : ∀ x ∈ p0, x.block < W.heap.size := by obtain ⟨m, hm⟩ := k0; exact DataW.trod_lt m _ _ _ hm
  have zz0 : reachBytes = 140737488351232 := by decide
  have ml0 : maxLen = 9223372036854775807 := by decide
  have re0 : Reads enc Try.prog W 0 (fun _ => true) true 29 (fun x => ((fun a2 : Int × Int × (Bool × Int × Int × Bool × Bool × Int × List (List (UInt8))) => AVal.agg (([AVal.v (.int .i64 a2.1)]) ++ (([AVal.v (.int .i64 a2.2.1)]) ++ ((([AVal.v (.bool a2.2.2.1)]) ++ (([AVal.v (.int .i64 a2.2.2.2.1)]) ++ (([AVal.v (.int .i64 a2.2.2.2.2.1)]) ++ (([AVal.v (.bool a2.2.2.2.2.2.1)]) ++ (([AVal.v (.bool a2.2.2.2.2.2.2.1)]) ++ (([AVal.v (.int .i64 a2.2.2.2.2.2.2.2.1)]) ++ (([AVal.slice 1 (a2.2.2.2.2.2.2.2.2.map (fun a3 : List (UInt8) => AVal.slice 1 (a3.map byteV) .none)) .none])))))))))))) x).cells) (fun a1 => (-9223372036854775808 ≤ a1.1 ∧ a1.1 ≤ 9223372036854775807) ∧ (-9223372036854775808 ≤ a1.2.1 ∧ a1.2.1 ≤ 9223372036854775807) ∧ True ∧ (-9223372036854775808 ≤ a1.2.2.2.1 ∧ a1.2.2.2.1 ≤ 9223372036854775807) ∧ (-9223372036854775808 ≤ a1.2.2.2.2.1 ∧ a1.2.2.2.2.1 ≤ 9223372036854775807) ∧ True ∧ True ∧ (-9223372036854775808 ≤ a1.2.2.2.2.2.2.2.1 ∧ a1.2.2.2.2.2.2.2.1 ≤ 9223372036854775807) ∧ (a1.2.2.2.2.2.2.2.2.length * 24 ≤ reachBytes ∧ ∀ a5 ∈ a1.2.2.2.2.2.2.2.2, (a5.length * 1 ≤ reachBytes ∧ ∀ a6 ∈ a5, True))) := (reads_struct (L := 9) Try.underlying29 (by kernel_rfl) (readsFs_cons (off2 := 1) rfl (by kernel_rfl) (reads_i64 Try.underlying3) (readsFs_cons (off2 := 2) rfl (by kernel_rfl) (reads_i64 Try.underlying3) (readsFs_last rfl (by kernel_rfl) (reads_struct (L := 7) Try.underlying27 (by kernel_rfl) (readsFs_cons (off2 := 1) rfl (by kernel_rfl) (reads_bool Try.underlying4) (readsFs_cons (off2 := 2) rfl (by kernel_rfl) (reads_i64 Try.underlying3) (readsFs_cons (off2 := 3) rfl (by kernel_rfl) (reads_i64 Try.underlying3) (readsFs_cons (off2 := 4) rfl (by kernel_rfl) (reads_bool Try.underlying4) (readsFs_cons (off2 := 5) rfl (by kernel_rfl) (reads_bool Try.underlying4) (readsFs_cons (off2 := 6) rfl (by kernel_rfl) (reads_i64 Try.underlying3) (readsFs_last rfl (by kernel_rfl) (reads_slice (f := (fun a7 : List (UInt8) => AVal.slice 1 (a7.map byteV) .none)) (s := 1) (fun _ => rfl) Try.underlying25 (by kernel_rfl) (B := 24) (by kernel_rfl) (by decide) (fun _ => rfl) (reads_slice (f := byteV) (s := 1) (fun _ => rfl) Try.underlying64 (by kernel_rfl) (B := 1) (by kernel_rfl) (by decide) (fun _ => rfl) (reads_u8 Try.underlying5)))))))))))))))
  obtain ⟨b0, y0, z0, g0⟩ := slices0 (f := (fun a10 : Int × Int × (Bool × Int × Int × Bool × Bool × Int × List (List (UInt8))) => AVal.agg (([AVal.v (.int .i64 a10.1)]) ++ (([AVal.v (.int .i64 a10.2.1)]) ++ ((([AVal.v (.bool a10.2.2.1)]) ++ (([AVal.v (.int .i64 a10.2.2.2.1)]) ++ (([AVal.v (.int .i64 a10.2.2.2.2.1)]) ++ (([AVal.v (.bool a10.2.2.2.2.2.1)]) ++ (([AVal.v (.bool a10.2.2.2.2.2.2.1)]) ++ (([AVal.v (.int .i64 a10.2.2.2.2.2.2.2.1)]) ++ (([AVal.slice 1 (a10.2.2.2.2.2.2.2.2.map (fun a11 : List (UInt8) => AVal.slice 1 (a11.map byteV) .none)) .none]))))))))))))) (s := 9) (B := 80) hsz (j := 0) (t := 22) rfl rfl Try.underlying22 (by kernel_rfl) (by kernel_rfl) (fun _ => rfl) re0 (hval 0 22 v0 rfl rfl) h0
  clear hA0 hval0 hsz0 hsz
  have hr : RepL (ghost0 W) [.slice 9 (b0.map (fun a13 : Int × Int × (Bool × Int × Int × Bool × Bool × Int × List (List (UInt8))) => AVal.agg (([AVal.v (.int .i64 a13.1)]) ++ (([AVal.v (.int .i64 a13.2.1)]) ++ ((([AVal.v (.bool a13.2.2.1)]) ++ (([AVal.v (.int .i64 a13.2.2.2.1)]) ++ (([AVal.v (.int .i64 a13.2.2.2.2.1)]) ++ (([AVal.v (.bool a13.2.2.2.2.2.1)]) ++ (([AVal.v (.bool a13.2.2.2.2.2.2.1)]) ++ (([AVal.v (.int .i64 a13.2.2.2.2.2.2.2.1)]) ++ (([AVal.slice 1 (a13.2.2.2.2.2.2.2.2.map (fun a14 : List (UInt8) => AVal.slice 1 (a14.map byteV) .none)) .none]))))))))))))) .none] [v0] := (.cons y0 .nil)
  refine (law_calls (RxbufLives b0 heap0 (by omega) (fun o ho => ⟨by have := (g0 o ho).2.2.2.2.2.2.2.2.1; show o.2.2.2.2.2.2.2.2.length ≤ _; omega, inR_ofX (g0 o ho).2.2.2.2.1⟩)) (fun v σ h => h.1) (cargs := #[v0]) hr).mono fun e W' ⟨he, bel⟩ => ?_
  subst he
  exact ⟨_, rfl, _, _, _, [], _, [], hW', trodAll_mk1 (shut_bool Try.underlying4 _), (trodAll_cons_mk (Below.trod rxbufLives_laid (by kernel_rfl) (of_decide_eq_true (by kernel_rfl)) k0 bel lt0) trodAll_mk0), rfl, bel.frame _, fun h => by cases h⟩

theorem rxbufLives_closed : joinedFacts Try.pinned.checked.prog 4 Try.f4 Rows.rxbufLivesSpec Rows.rxbufLivesRow = true := by kernel_rfl
theorem rxbufLives_named : Try.pinned.checked.prog.funcNamed Rows.rxbufLivesRow.func = some 4 := by kernel_rfl
theorem rxbufLives_inst : Try.f4.isInstance Try.pinned.checked.prog Rows.rxbufLivesRow.origin Rows.rxbufLivesRow.targs := of_decide_eq_true (by kernel_rfl)
theorem rxbufLives_wrap : Try.f4.isWrapper Try.pinned.checked.prog Rows.rxbufLivesRow.wrapper Rows.rxbufLivesRow.mainSum := by
  unfold Func.isWrapper; first | (rw [if_pos (by decide +kernel)]; kernel_rfl) | (rw [if_neg (by decide +kernel)]; exact ⟨rfl, rfl⟩)
theorem rxbufLives_holds : Rows.RxbufLivesSaid :=
  OpenClaim.holds_of_wide 4 Try.f4 rfl rfl rfl rfl rfl rfl rfl ⟨rfl, rfl, rfl, rfl, rfl⟩ rfl rfl rfl rfl rfl rxbufLives_named Try.func4 rxbufLives_closed rxbufLives_inst rxbufLives_wrap
    (fun os started H enc _ => rxbufLives_lifted os started H enc)
#print axioms rxbufLives_holds
end Go.Proofs.Ytgobbmdbkmjlnaa
