/-
  The row of QueueRoom: proved of all inputs; no condition.
-/
import Derived.Test.YtghbcleokmcdeaaK0
import Derived.Test.YtghbcleokmcdeaaK1
import Derived.Test.YtghbcleokmcdeaaK2
import Derived.Test.YtghbcleokmcdeaaK3
import Derived.Test.YtghbcleokmcdeaaK4
import Derived.Test.YtghbcleokmcdeaaK9
import Derived.Test.YtghbcleokmcdeaaK10
import Derived.Test.YtghbcleokmcdeaaK11
import Derived.Test.YtghbcleokmcdeaaRows
import Derived.WalkKit
import Derived.ProofKit
import Derived.OpenShut
import Derived.ShutString
import Derived.ChangeOld
import Derived.Below
import Derived.SizedLaws
namespace Go.Proofs.Ytghbcleokmcdeaa
set_option linter.unusedVariables false
set_option linter.unusedSimpArgs false
open Go Go.Am Go.ChangeShapes Go.WideShapes Go.ChangeAt Go.RowKit
theorem queueRoom_own : ownKnob Try.prog.godebug = none := by kernel_rfl
theorem queueRoom_laid : laidOutB Try.prog = true := by kernel_rfl

set_option maxRecDepth 100000 in
theorem queueRoom_lifted (os : Os) (started : os.Started) (H : Type) (enc : TypeId × Value → H) :
    ReturnsInHanded {} Try.checked os 11 .any (Rows.queueRoomSpec.pre6 enc Try.prog Try.f11 Rows.queueRoomRow.domain false) (Rows.queueRoomSpec.post enc Try.prog Try.f11 false true false false) := by
  refine returnsInHanded_of_change_sized (C := Try.checked) queueRoom_own started (by kernel_rfl) Try.func11
    (ChangeSpec.witness6 (enc := enc) (C := Try.checked) false ⟨#[], #[.int .i64 0, .slice none 0 0, .slice none 0 0], []⟩ 8 (by kernel_rfl) (by kernel_rfl) (by kernel_rfl) (by kernel_rfl)) ?_
  intro W base args ds gs before hval0 hW hcnd hsz0 _
  have hsz : (DataW.weightsEach Try.prog (Try.f11.params.toList ++ Rows.queueRoomSpec.plain.varTypes Try.prog) (ds ++ gs)).all (· ≤ reachBytes) = true := hsz0
  have hval : ∀ (j : Nat) t v, Try.f11.params[j]? = some t → args[j]? = some v → Value.okWide Try.prog W .any base t v := hval0
  have hW' := hW
  obtain ⟨p, q, hA0, hV, rfl, hfz, hnd⟩ := hW
  have hA : DataW.TrodAll enc Try.prog W 0 (fun _ => true) true Try.f11.params.toList args.toList ds p := hA0
  rw [Try.params11] at hA hval hsz
  obtain ⟨v0, vs0, d0, ds0, p0, q0, hargs, rfl, rfl, h0, r0⟩ := trodAll_cons hA
  obtain ⟨v1, vs1, d1, ds1, p1, q1, rfl, rfl, rfl, h1, r1⟩ := trodAll_cons r0
  obtain ⟨v2, vs2, d2, ds2, p2, q2, rfl, rfl, rfl, h2, r2⟩ := trodAll_cons r1
  obtain ⟨rfl, rfl, rfl⟩ := trodAll_nil r2
  obtain rfl : args = #[v0, v1, v2] := by cases args; simp_all
  obtain ⟨rfl, rfl⟩ := trodVars_none hV
  obtain ⟨a0, rfl, rfl, rfl, w0⟩ := open_int Try.underlying3 (hval 0 3 v0 rfl rfl) h0
  have g0 : -9223372036854775808 ≤ a0 ∧ a0 ≤ 9223372036854775807 := by
    simp only [Lit.wf, IntKind.min, IntKind.max, IntKind.signed, IntKind.bits] at w0
    simp at w0
    omega
  have k1 := h1
  have lt1 : ∀ x ∈ p1, x.block < W.heap.size := by obtain ⟨m, hm⟩ := k1; exact DataW.trod_lt m _ _ _ hm
  have zz1 : reachBytes = 140737488351232 := by decide
  have ml1 : maxLen = 9223372036854775807 := by decide
  have re1 : Reads enc Try.prog W 0 (fun _ => true) true 22 (fun x => ((fun a2 : List (UInt8) => AVal.slice 1 (a2.map byteV) .none) x).cells) (fun a1 => (a1.length * 1 ≤ reachBytes ∧ ∀ a4 ∈ a1, True)) := (reads_slice (f := byteV) (s := 1) (fun _ => rfl) Try.underlying22 (by kernel_rfl) (B := 1) (by kernel_rfl) (by decide) (fun _ => rfl) (reads_u8 Try.underlying5))
  obtain ⟨b1, y1, z1, g1⟩ := slices0 (f := (fun a6 : List (UInt8) => AVal.slice 1 (a6.map byteV) .none)) (s := 1) (B := 24) hsz (j := 1) (t := 23) rfl rfl Try.underlying23 (by kernel_rfl) (by kernel_rfl) (fun _ => rfl) re1 (hval 1 23 v1 rfl rfl) h1
  have k2 := h2
  have lt2 : ∀ x ∈ p2, x.block < W.heap.size := by obtain ⟨m, hm⟩ := k2; exact DataW.trod_lt m _ _ _ hm
  have zz2 : reachBytes = 140737488351232 := by decide
  have ml2 : maxLen = 9223372036854775807 := by decide
  obtain ⟨b2, y2, z2⟩ := bytes0 hsz (j := 2) (t := 22) rfl rfl Try.underlying22 Try.underlying5 (by kernel_rfl) (by kernel_rfl) (hval 2 22 v2 rfl rfl) h2
  clear hA0 hval0 hsz0 hsz
  have hr : RepL (ghost0 W) [i64v a0, .slice 1 (b1.map (fun a8 : List (UInt8) => AVal.slice 1 (a8.map byteV) .none)) .none, sl .none b2] [.int .i64 a0, v1, v2] := (.cons (.v rfl) (.cons y1 (.cons y2 .nil)))
  refine (law_calls (QueueRoom a0 b1 b2 heap0 (by omega) (by omega)) (fun v σ h => h.1) (cargs := #[.int .i64 a0, v1, v2]) hr).mono fun e W' ⟨he, bel⟩ => ?_
  subst he
  exact ⟨_, rfl, _, _, _, [], _, [], hW', trodAll_mk1 (shut_bool Try.underlying4 _), (trodAll_cons_mk (shut_int Try.underlying3 w0) (trodAll_cons_mk (Below.trod queueRoom_laid (by kernel_rfl) (of_decide_eq_true (by kernel_rfl)) k1 bel lt1) (trodAll_cons_mk (Below.trod queueRoom_laid (by kernel_rfl) (of_decide_eq_true (by kernel_rfl)) k2 bel lt2) trodAll_mk0))), rfl, bel.frame _, fun h => by cases h⟩

theorem queueRoom_closed : joinedFacts Try.pinned.checked.prog 11 Try.f11 Rows.queueRoomSpec Rows.queueRoomRow = true := by kernel_rfl
theorem queueRoom_named : Try.pinned.checked.prog.funcNamed Rows.queueRoomRow.func = some 11 := by kernel_rfl
theorem queueRoom_inst : Try.f11.isInstance Try.pinned.checked.prog Rows.queueRoomRow.origin Rows.queueRoomRow.targs := of_decide_eq_true (by kernel_rfl)
theorem queueRoom_wrap : Try.f11.isWrapper Try.pinned.checked.prog Rows.queueRoomRow.wrapper Rows.queueRoomRow.mainSum := by
  unfold Func.isWrapper; first | (rw [if_pos (by decide +kernel)]; kernel_rfl) | (rw [if_neg (by decide +kernel)]; exact ⟨rfl, rfl⟩)
theorem queueRoom_holds : Rows.QueueRoomSaid :=
  OpenClaim.holds_of_wide 11 Try.f11 rfl rfl rfl rfl rfl rfl rfl ⟨rfl, rfl, rfl, rfl, rfl⟩ rfl rfl rfl rfl rfl queueRoom_named Try.func11 queueRoom_closed queueRoom_inst queueRoom_wrap
    (fun os started H enc _ => queueRoom_lifted os started H enc)
#print axioms queueRoom_holds
end Go.Proofs.Ytghbcleokmcdeaa
