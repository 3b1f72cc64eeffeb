/-
  The row of MuxTurned: proved of all inputs; no condition.
-/
import Derived.Test.YtndphnojmpeogaaRows
import Derived.Test.YtndphnojmpeogaaClaw30e
import Derived.Test.YtndphnojmpeogaaFz
import Derived.WalkKit
import Derived.ProofKit
import Derived.OpenShut
import Derived.ShutString
import Derived.ChangeOld
import Derived.Below
import Derived.SizedLaws
namespace Go.Proofs.Ytndphnojmpeogaa
set_option linter.unusedVariables false
set_option linter.unusedSimpArgs false
open Go Go.Am Go.ChangeShapes Go.WideShapes Go.ChangeAt Go.RowKit
theorem muxTurned_own : ownKnob Try.prog.godebug = none := by kernel_rfl
theorem muxTurned_laid : laidOutB Try.prog = true := by kernel_rfl

set_option maxRecDepth 100000 in
theorem muxTurned_lifted (os : Os) (started : os.Started) (H : Type) (enc : TypeId × Value → H) :
    ReturnsInHanded {} Try.checked os 4 .any (Rows.muxTurnedSpec.pre6 enc Try.prog Try.f4 Rows.muxTurnedRow.domain false) (Rows.muxTurnedSpec.post enc Try.prog Try.f4 false true false false) := by
  refine returnsInHanded_of_change_sized (C := Try.checked) muxTurned_own started (by kernel_rfl) Try.func4
    (ChangeSpec.witness6 (enc := enc) (C := Try.checked) false ⟨#[], #[.slice none 0 0, .int .i64 0, .int .u16 0], []⟩ 8 (by kernel_rfl) (by kernel_rfl) (by kernel_rfl) (by kernel_rfl)) ?_
  intro W base args ds gs before hval0 hW hcnd hsz0 _
  have hsz : (DataW.weightsEach Try.prog (Try.f4.params.toList ++ Rows.muxTurnedSpec.plain.varTypes Try.prog) (ds ++ gs)).all (· ≤ reachBytes) = true := hsz0
  have hval : ∀ (j : Nat) t v, Try.f4.params[j]? = some t → args[j]? = some v → Value.okWide Try.prog W .any base t v := hval0
  have hW' := hW
  obtain ⟨p, q, hA0, hV, rfl, hfz, hnd⟩ := hW
  have hA : DataW.TrodAll enc Try.prog W 0 (fun _ => true) true Try.f4.params.toList args.toList ds p := hA0
  rw [Try.params4] at hA hval hsz
  obtain ⟨v0, vs0, d0, ds0, p0, q0, hargs, rfl, rfl, h0, r0⟩ := trodAll_cons hA
  obtain ⟨v1, vs1, d1, ds1, p1, q1, rfl, rfl, rfl, h1, r1⟩ := trodAll_cons r0
  obtain ⟨v2, vs2, d2, ds2, p2, q2, rfl, rfl, rfl, h2, r2⟩ := trodAll_cons r1
  obtain ⟨rfl, rfl, rfl⟩ := trodAll_nil r2
  obtain rfl : args = #[v0, v1, v2] := by cases args; simp_all
  obtain ⟨rfl, rfl⟩ := trodVars_none hV
  have k0 := h0
  have lt0 : ∀ x ∈ p0, x.block < W.heap.size := by obtain ⟨m, hm⟩ := k0; exact DataW.trod_lt m _ _ _ hm
  have re0 : Reads enc Try.prog W 0 (fun _ => true) true 42 (fun x => (partV x).cells) (fun p => (-9223372036854775808 ≤ p.1 ∧ p.1 ≤ 9223372036854775807) ∧ (p.2.length ≤ maxLen ∧ ∀ a ∈ p.2, True)) := reads_struct2 (a := fun n : Int => [.v (.int .i64 n)]) (b := fun l : List UInt8 => [.slice 1 (l.map byteV) .none]) (Try.underlying42) rfl (by kernel_rfl) (by kernel_rfl) (reads_i64 Try.underlying3) (reads_slice (f := byteV) (s := 1) (fun _ => rfl) Try.underlying22 (by kernel_rfl) (by decide) (fun _ => rfl) (reads_u8 Try.underlying5))
  obtain ⟨b0, y0, z0, g0⟩ := slices0 (f := partV) (s := 2) (B := 32) hsz (j := 0) (t := 24) rfl rfl Try.underlying24 (by kernel_rfl) (by kernel_rfl) (fun _ => rfl) re0 (hval 0 24 v0 rfl rfl) h0
  have zz0 : reachBytes = 140737488351232 := by decide
  obtain ⟨a1, rfl, rfl, rfl, w1⟩ := open_int Try.underlying3 (hval 1 3 v1 rfl rfl) h1
  have g1 : -9223372036854775808 ≤ a1 ∧ a1 ≤ 9223372036854775807 := by
    simp only [Lit.wf, IntKind.min, IntKind.max, IntKind.signed, IntKind.bits] at w1
    simp at w1
    omega
  obtain ⟨a2, rfl, rfl, rfl, w2⟩ := open_int Try.underlying34 (hval 2 34 v2 rfl rfl) h2
  have e2 : ((BitVec.ofNat 16 a2.toNat).toNat : Int) = a2 := by
    simp only [Lit.wf, IntKind.min, IntKind.max, IntKind.signed, IntKind.bits] at w2
    simp at w2
    rw [BitVec.toNat_ofNat]; omega
  have x2 : RepV (ghost0 W) (u16v (BitVec.ofNat 16 a2.toNat)) (.int .u16 a2) := by unfold u16v; rw [e2]; exact .v rfl
  clear hA0 hval0 hsz0 hsz
  have hr : RepL (ghost0 W) [.slice 2 (b0.map partV) .none, i64v a1, u16v (BitVec.ofNat 16 a2.toNat)] [v0, .int .i64 a1, .int .u16 a2] := (.cons y0 (.cons (.v rfl) (.cons x2 .nil)))
  refine (law_calls (MuxTurned b0 a1 (BitVec.ofNat 16 a2.toNat) heap0 (by omega)) (fun v σ h => h) (cargs := #[v0, .int .i64 a1, .int .u16 a2]) hr).mono fun e W' ⟨he, bel⟩ => ?_
  subst he
  exact ⟨_, rfl, _, _, _, [], _, [], hW', trodAll_mk1 (shut_bool Try.underlying4 _), (trodAll_cons_mk (Below.trod muxTurned_laid (by kernel_rfl) (of_decide_eq_true (by kernel_rfl)) k0 bel lt0) (trodAll_cons_mk (shut_int Try.underlying3 w1) (trodAll_cons_mk (shut_int Try.underlying34 w2) trodAll_mk0))), rfl, bel.frame _, fun h => by cases h⟩

theorem muxTurned_closed : joinedFacts Try.pinned.checked.prog 4 Try.f4 Rows.muxTurnedSpec Rows.muxTurnedRow = true := by kernel_rfl
theorem muxTurned_named : Try.pinned.checked.prog.funcNamed Rows.muxTurnedRow.func = some 4 := by kernel_rfl
theorem muxTurned_inst : Try.f4.isInstance Try.pinned.checked.prog Rows.muxTurnedRow.origin Rows.muxTurnedRow.targs := of_decide_eq_true (by kernel_rfl)
theorem muxTurned_wrap : Try.f4.isWrapper Try.pinned.checked.prog Rows.muxTurnedRow.wrapper Rows.muxTurnedRow.mainSum := by
  unfold Func.isWrapper; first | (rw [if_pos (by decide +kernel)]; kernel_rfl) | (rw [if_neg (by decide +kernel)]; exact ⟨rfl, rfl⟩)
theorem muxTurned_holds : Rows.MuxTurnedSaid :=
  OpenClaim.holds_of_wide 4 Try.f4 rfl rfl rfl rfl rfl rfl rfl ⟨rfl, rfl, rfl, rfl, rfl⟩ rfl rfl rfl rfl rfl muxTurned_named Try.func4 muxTurned_closed muxTurned_inst muxTurned_wrap
    (fun os started H enc _ => muxTurned_lifted os started H enc)
#print axioms muxTurned_holds
end Go.Proofs.Ytndphnojmpeogaa

