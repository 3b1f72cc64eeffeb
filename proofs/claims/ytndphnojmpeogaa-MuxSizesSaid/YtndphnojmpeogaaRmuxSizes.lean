/-
  The row of MuxSizes: proved of all inputs; no condition.
-/
import Derived.Test.YtndphnojmpeogaaRows
import Derived.Test.YtndphnojmpeogaaClaw30d
import Derived.Test.YtndphnojmpeogaaFz
import Derived.WalkKit
import Derived.ProofKit
import Derived.OpenShut
import Derived.ShutString
import Derived.ChangeOld
import Derived.Below
import Derived.SizedLaws
namespace Go.Proofs.Ytndphnojmpeogaa
set_option linter.unusedVariables false
set_option linter.unusedSimpArgs false
open Go Go.Am Go.ChangeShapes Go.WideShapes Go.ChangeAt Go.RowKit
theorem muxSizes_own : ownKnob Try.prog.godebug = none := by kernel_rfl
theorem muxSizes_laid : laidOutB Try.prog = true := by kernel_rfl

set_option maxRecDepth 100000 in
theorem muxSizes_lifted (os : Os) (started : os.Started) (H : Type) (enc : TypeId × Value → H) :
    ReturnsInHanded {} Try.checked os 6 .any (Rows.muxSizesSpec.pre6 enc Try.prog Try.f6 Rows.muxSizesRow.domain false) (Rows.muxSizesSpec.post enc Try.prog Try.f6 false true false false) := by
  refine returnsInHanded_of_change_sized (C := Try.checked) muxSizes_own started (by kernel_rfl) Try.func6
    (ChangeSpec.witness6 (enc := enc) (C := Try.checked) false ⟨#[], #[.slice none 0 0, .agg #[.int .i64 0, .slice none 0 0]], []⟩ 8 (by kernel_rfl) (by kernel_rfl) (by kernel_rfl) (by kernel_rfl)) ?_
  intro W base args ds gs before hval0 hW hcnd hsz0 _
  have hsz : (DataW.weightsEach Try.prog (Try.f6.params.toList ++ Rows.muxSizesSpec.plain.varTypes Try.prog) (ds ++ gs)).all (· ≤ reachBytes) = true := hsz0
  have hval : ∀ (j : Nat) t v, Try.f6.params[j]? = some t → args[j]? = some v → Value.okWide Try.prog W .any base t v := hval0
  have hW' := hW
  obtain ⟨p, q, hA0, hV, rfl, hfz, hnd⟩ := hW
  have hA : DataW.TrodAll enc Try.prog W 0 (fun _ => true) true Try.f6.params.toList args.toList ds p := hA0
  rw [Try.params6] at hA hval hsz
  obtain ⟨v0, vs0, d0, ds0, p0, q0, hargs, rfl, rfl, h0, r0⟩ := trodAll_cons hA
  obtain ⟨v1, vs1, d1, ds1, p1, q1, rfl, rfl, rfl, h1, r1⟩ := trodAll_cons r0
  obtain ⟨rfl, rfl, rfl⟩ := trodAll_nil r1
  obtain rfl : args = #[v0, v1] := by cases args; simp_all
  obtain ⟨rfl, rfl⟩ := trodVars_none hV
  have k0 := h0
  have lt0 : ∀ x ∈ p0, x.block < W.heap.size := by obtain ⟨m, hm⟩ := k0; exact DataW.trod_lt m _ _ _ hm
  have re0 : Reads enc Try.prog W 0 (fun _ => true) true 42 (fun x => (partV x).cells) (fun p => (-9223372036854775808 ≤ p.1 ∧ p.1 ≤ 9223372036854775807) ∧ (p.2.length ≤ maxLen ∧ ∀ a ∈ p.2, True)) := reads_struct2 (a := fun n : Int => [.v (.int .i64 n)]) (b := fun l : List UInt8 => [.slice 1 (l.map byteV) .none]) (Try.underlying42) rfl (by kernel_rfl) (by kernel_rfl) (reads_i64 Try.underlying3) (reads_slice (f := byteV) (s := 1) (fun _ => rfl) Try.underlying22 (by kernel_rfl) (by decide) (fun _ => rfl) (reads_u8 Try.underlying5))
  obtain ⟨b0, y0, z0, g0⟩ := slices0 (f := partV) (s := 2) (B := 32) hsz (j := 0) (t := 24) rfl rfl Try.underlying24 (by kernel_rfl) (by kernel_rfl) (fun _ => rfl) re0 (hval 0 24 v0 rfl rfl) h0
  have zz0 : reachBytes = 140737488351232 := by decide
  have k1 := h1
  have lt1 : ∀ x ∈ p1, x.block < W.heap.size := by obtain ⟨m, hm⟩ := k1; exact DataW.trod_lt m _ _ _ hm
  have re1 : Reads enc Try.prog W 0 (fun _ => true) true 42 (fun x => (partV x).cells) (fun p => (-9223372036854775808 ≤ p.1 ∧ p.1 ≤ 9223372036854775807) ∧ (p.2.length ≤ maxLen ∧ ∀ a ∈ p.2, True)) := reads_struct2 (a := fun n : Int => [.v (.int .i64 n)]) (b := fun l : List UInt8 => [.slice 1 (l.map byteV) .none]) (Try.underlying42) rfl (by kernel_rfl) (by kernel_rfl) (reads_i64 Try.underlying3) (reads_slice (f := byteV) (s := 1) (fun _ => rfl) Try.underlying22 (by kernel_rfl) (by decide) (fun _ => rfl) (reads_u8 Try.underlying5))
  obtain ⟨b1, y1, g1⟩ := aggs0 (.inr ⟨_, Try.underlying42⟩) re1 (hval 1 42 v1 rfl rfl) h1
  clear hA0 hval0 hsz0 hsz
  have hr : RepL (ghost0 W) [.slice 2 (b0.map partV) .none, partV b1] [v0, v1] := (.cons y0 (.cons y1 .nil))
  refine (law_calls (MuxSizes b0 b1 heap0 (by omega)) (fun v σ h => h.1) (cargs := #[v0, v1]) hr).mono fun e W' ⟨he, bel⟩ => ?_
  subst he
  exact ⟨_, rfl, _, _, _, [], _, [], hW', trodAll_mk1 (shut_bool Try.underlying4 _), (trodAll_cons_mk (Below.trod muxSizes_laid (by kernel_rfl) (of_decide_eq_true (by kernel_rfl)) k0 bel lt0) (trodAll_cons_mk (Below.trod muxSizes_laid (by kernel_rfl) (of_decide_eq_true (by kernel_rfl)) k1 bel lt1) trodAll_mk0)), rfl, bel.frame _, fun h => by cases h⟩

theorem muxSizes_closed : joinedFacts Try.pinned.checked.prog 6 Try.f6 Rows.muxSizesSpec Rows.muxSizesRow = true := by kernel_rfl
theorem muxSizes_named : Try.pinned.checked.prog.funcNamed Rows.muxSizesRow.func = some 6 := by kernel_rfl
theorem muxSizes_inst : Try.f6.isInstance Try.pinned.checked.prog Rows.muxSizesRow.origin Rows.muxSizesRow.targs := of_decide_eq_true (by kernel_rfl)
theorem muxSizes_wrap : Try.f6.isWrapper Try.pinned.checked.prog Rows.muxSizesRow.wrapper Rows.muxSizesRow.mainSum := by
  unfold Func.isWrapper; first | (rw [if_pos (by decide +kernel)]; kernel_rfl) | (rw [if_neg (by decide +kernel)]; exact ⟨rfl, rfl⟩)
theorem muxSizes_holds : Rows.MuxSizesSaid :=
  OpenClaim.holds_of_wide 6 Try.f6 rfl rfl rfl rfl rfl rfl rfl ⟨rfl, rfl, rfl, rfl, rfl⟩ rfl rfl rfl rfl rfl muxSizes_named Try.func6 muxSizes_closed muxSizes_inst muxSizes_wrap
    (fun os started H enc _ => muxSizes_lifted os started H enc)
#print axioms muxSizes_holds
end Go.Proofs.Ytndphnojmpeogaa

