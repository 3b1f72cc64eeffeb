/-
  The row of QueueOrder: proved of all inputs; no condition.
-/
import Derived.Test.YtkdbmajkjlnpiaaRows
import Derived.Test.YtkdbmajkjlnpiaaClaw04b
import Derived.Test.YtkdbmajkjlnpiaaFz
import Derived.WalkKit
import Derived.ProofKit
import Derived.OpenShut
import Derived.ShutString
import Derived.ChangeOld
import Derived.Below
import Derived.SizedLaws
namespace Go.Proofs.Ytkdbmajkjlnpiaa
set_option linter.unusedVariables false
set_option linter.unusedSimpArgs false
open Go Go.Am Go.ChangeShapes Go.WideShapes Go.ChangeAt Go.RowKit
theorem queueOrder_own : ownKnob Try.prog.godebug = none := by kernel_rfl
theorem queueOrder_laid : laidOutB Try.prog = true := by kernel_rfl

set_option maxRecDepth 100000 in
theorem queueOrder_lifted (os : Os) (started : os.Started) (H : Type) (enc : TypeId × Value → H) :
    ReturnsInHanded {} Try.checked os 12 .any (Rows.queueOrderSpec.pre6 enc Try.prog Try.f12 Rows.queueOrderRow.domain false) (Rows.queueOrderSpec.post enc Try.prog Try.f12 false true false false) := by
  refine returnsInHanded_of_change_sized (C := Try.checked) queueOrder_own started (by kernel_rfl) Try.func12
    (ChangeSpec.witness6 (enc := enc) (C := Try.checked) false ⟨#[], #[.slice none 0 0, .slice none 0 0], []⟩ 8 (by kernel_rfl) (by kernel_rfl) (by kernel_rfl) (by kernel_rfl)) ?_
  intro W base args ds gs before hval0 hW hcnd hsz0 _
  have hsz : (DataW.weightsEach Try.prog (Try.f12.params.toList ++ Rows.queueOrderSpec.plain.varTypes Try.prog) (ds ++ gs)).all (· ≤ reachBytes) = true := hsz0
  have hval : ∀ (j : Nat) t v, Try.f12.params[j]? = some t → args[j]? = some v → Value.okWide Try.prog W .any base t v := hval0
  have hW' := hW
  obtain ⟨p, q, hA0, hV, rfl, hfz, hnd⟩ := hW
  have hA : DataW.TrodAll enc Try.prog W 0 (fun _ => true) true Try.f12.params.toList args.toList ds p := hA0
  rw [Try.params12] at hA hval hsz
  obtain ⟨v0, vs0, d0, ds0, p0, q0, hargs, rfl, rfl, h0, r0⟩ := trodAll_cons hA
  obtain ⟨v1, vs1, d1, ds1, p1, q1, rfl, rfl, rfl, h1, r1⟩ := trodAll_cons r0
  obtain ⟨rfl, rfl, rfl⟩ := trodAll_nil r1
  obtain rfl : args = #[v0, v1] := by cases args; simp_all
  obtain ⟨rfl, rfl⟩ := trodVars_none hV
  have k0 := h0
  have lt0 : ∀ x ∈ p0, x.block < W.heap.size := by obtain ⟨m, hm⟩ := k0; exact DataW.trod_lt m _ _ _ hm
  have re0 : Reads enc Try.prog W 0 (fun _ => true) true 35 (fun x => ((sl .none) x).cells) (fun l => l.length ≤ maxLen ∧ ∀ a ∈ l, True) := reads_slice (f := byteV) (s := 1) (fun _ => rfl) Try.underlying35 (by kernel_rfl) (by decide) (fun _ => rfl) (reads_u8 Try.underlying5)
  obtain ⟨b0, y0, z0, g0⟩ := slices0 (f := (sl .none)) (s := 1) (B := 24) hsz (j := 0) (t := 45) rfl rfl Try.underlying45 (by kernel_rfl) (by kernel_rfl) (fun _ => rfl) re0 (hval 0 45 v0 rfl rfl) h0
  have zz0 : reachBytes = 140737488351232 := by decide
  have k1 := h1
  have lt1 : ∀ x ∈ p1, x.block < W.heap.size := by obtain ⟨m, hm⟩ := k1; exact DataW.trod_lt m _ _ _ hm
  have re1 : Reads enc Try.prog W 0 (fun _ => true) true 85 (fun x => (u16n x).cells) (fun n => n < 65536) := reads_u16 Try.underlying85
  obtain ⟨b1, y1, z1, g1⟩ := slices0 (f := u16n) (s := 1) (B := 2) hsz (j := 1) (t := 84) rfl rfl Try.underlying84 (by kernel_rfl) (by kernel_rfl) (fun _ => rfl) re1 (hval 1 84 v1 rfl rfl) h1
  have zz1 : reachBytes = 140737488351232 := by decide
  clear hA0 hval0 hsz0 hsz
  have hr : RepL (ghost0 W) [.slice 1 (b0.map (sl .none)) .none, .slice 1 (b1.map u16n) .none] [v0, v1] := (.cons y0 (.cons y1 .nil))
  refine (law_calls (QueueOrder b0 b1 heap0 (fun p hp => g1 p hp) (by omega)) (fun v σ h => h.1) (cargs := #[v0, v1]) hr).mono fun e W' ⟨he, bel⟩ => ?_
  subst he
  exact ⟨_, rfl, _, _, _, [], _, [], hW', trodAll_mk1 (shut_bool Try.underlying4 _), (trodAll_cons_mk (Below.trod queueOrder_laid (by kernel_rfl) (of_decide_eq_true (by kernel_rfl)) k0 bel lt0) (trodAll_cons_mk (Below.trod queueOrder_laid (by kernel_rfl) (of_decide_eq_true (by kernel_rfl)) k1 bel lt1) trodAll_mk0)), rfl, bel.frame _, fun h => by cases h⟩

theorem queueOrder_closed : joinedFacts Try.pinned.checked.prog 12 Try.f12 Rows.queueOrderSpec Rows.queueOrderRow = true := by kernel_rfl
theorem queueOrder_named : Try.pinned.checked.prog.funcNamed Rows.queueOrderRow.func = some 12 := by kernel_rfl
theorem queueOrder_inst : Try.f12.isInstance Try.pinned.checked.prog Rows.queueOrderRow.origin Rows.queueOrderRow.targs := of_decide_eq_true (by kernel_rfl)
theorem queueOrder_wrap : Try.f12.isWrapper Try.pinned.checked.prog Rows.queueOrderRow.wrapper Rows.queueOrderRow.mainSum := by
  unfold Func.isWrapper; first | (rw [if_pos (by decide +kernel)]; kernel_rfl) | (rw [if_neg (by decide +kernel)]; exact ⟨rfl, rfl⟩)
theorem queueOrder_holds : Rows.QueueOrderSaid :=
  OpenClaim.holds_of_wide 12 Try.f12 rfl rfl rfl rfl rfl rfl rfl ⟨rfl, rfl, rfl, rfl, rfl⟩ rfl rfl rfl rfl rfl queueOrder_named Try.func12 queueOrder_closed queueOrder_inst queueOrder_wrap
    (fun os started H enc _ => queueOrder_lifted os started H enc)
#print axioms queueOrder_holds
end Go.Proofs.Ytkdbmajkjlnpiaa

