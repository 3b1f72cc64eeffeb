/-
  The row of UmdGrows: proved of all inputs; no condition.
-/
import Derived.Test.YthjjkcmiachpcaaUmdGrowsM5
import Derived.Test.YthjjkcmiachpcaaRows
import Derived.WalkKit
import Derived.ProofKit
import Derived.OpenShut
import Derived.ShutString
import Derived.ChangeOld
import Derived.Below
import Derived.SizedLaws
namespace Go.Proofs.Ythjjkcmiachpcaa
set_option linter.unusedVariables false
set_option linter.unusedSimpArgs false
open Go Go.Am Go.ChangeShapes Go.WideShapes Go.ChangeAt Go.RowKit
theorem umdGrows_own : ownKnob Try.prog.godebug = none := by kernel_rfl
theorem umdGrows_laid : laidOutB Try.prog = true := by kernel_rfl

set_option maxRecDepth 100000 in
theorem umdGrows_lifted (os : Os) (started : os.Started) (H : Type) (enc : TypeId × Value → H) :
    ReturnsInHanded {} Try.checked os 5 .any (Rows.umdGrowsSpec.pre6 enc Try.prog Try.f5 Rows.umdGrowsRow.domain false) (Rows.umdGrowsSpec.post enc Try.prog Try.f5 false true false false) := by
  refine returnsInHanded_of_change_sized (C := Try.checked) umdGrows_own started (by kernel_rfl) Try.func5
    (ChangeSpec.witness6 (enc := enc) (C := Try.checked) false ⟨#[], #[.agg #[.int .i64 0, .int .i64 0, .slice none 0 0], .int .u8 0], []⟩ 8 (by kernel_rfl) (by kernel_rfl) (by kernel_rfl) (by kernel_rfl)) ?_
  intro W base args ds gs before hval0 hW hcnd hsz0 _
  have hsz : (DataW.weightsEach Try.prog (Try.f5.params.toList ++ Rows.umdGrowsSpec.plain.varTypes Try.prog) (ds ++ gs)).all (· ≤ reachBytes) = true := hsz0
  have hval : ∀ (j : Nat) t v, Try.f5.params[j]? = some t → args[j]? = some v → Value.okWide Try.prog W .any base t v := hval0
  have hW' := hW
  obtain ⟨p, q, hA0, hV, rfl, hfz, hnd⟩ := hW
  have hA : DataW.TrodAll enc Try.prog W 0 (fun _ => true) true Try.f5.params.toList args.toList ds p := hA0
  rw [Try.params5] at hA hval hsz
  obtain ⟨v0, vs0, d0, ds0, p0, q0, hargs, rfl, rfl, h0, r0⟩ := trodAll_cons hA
  obtain ⟨v1, vs1, d1, ds1, p1, q1, rfl, rfl, rfl, h1, r1⟩ := trodAll_cons r0
  obtain ⟨rfl, rfl, rfl⟩ := trodAll_nil r1
  obtain rfl : args = #[v0, v1] := by cases args; simp_all
  obtain ⟨rfl, rfl⟩ := trodVars_none hV
  have k0 := h0
  have lt0 : ∀ x ∈ p0, x.block < W.heap.size := by obtain ⟨m, hm⟩ := k0; exact DataW.trod_lt m _ _ _ hm
  have zz0 : reachBytes = 140737488351232 := by decide
  have ml0 : maxLen = 9223372036854775807 := by decide
  have re0 : Reads enc Try.prog W 0 (fun _ => true) true 26 (fun a2 : Int × Int × List (List (UInt8)) => ([AVal.v (.int .i64 a2.1)]) ++ (([AVal.v (.int .i64 a2.2.1)]) ++ (([AVal.slice 1 (a2.2.2.map (fun a3 : List (UInt8) => AVal.slice 1 (a3.map byteV) .none)) .none])))) (fun a1 => (-9223372036854775808 ≤ a1.1 ∧ a1.1 ≤ 9223372036854775807) ∧ (-9223372036854775808 ≤ a1.2.1 ∧ a1.2.1 ≤ 9223372036854775807) ∧ (a1.2.2.length * 24 ≤ reachBytes ∧ ∀ a5 ∈ a1.2.2, (a5.length * 1 ≤ reachBytes ∧ ∀ a6 ∈ a5, True))) := (reads_struct (L := 3) Try.underlying26 (by kernel_rfl) (readsFs_cons (off2 := 1) rfl (by kernel_rfl) (reads_i64 Try.underlying3) (readsFs_cons (off2 := 2) rfl (by kernel_rfl) (reads_i64 Try.underlying3) (readsFs_last rfl (by kernel_rfl) (reads_slice (f := (fun a7 : List (UInt8) => AVal.slice 1 (a7.map byteV) .none)) (s := 1) (fun _ => rfl) Try.underlying24 (by kernel_rfl) (B := 24) (by kernel_rfl) (by decide) (fun _ => rfl) (reads_slice (f := byteV) (s := 1) (fun _ => rfl) Try.underlying22 (by kernel_rfl) (B := 1) (by kernel_rfl) (by decide) (fun _ => rfl) (reads_u8 Try.underlying5)))))))
  obtain ⟨b0, y0, g0⟩ := aggs0 hsz (j := 0) (t := 26) rfl rfl (.inr ⟨_, Try.underlying26⟩) re0 (hval 0 26 v0 rfl rfl) h0
  obtain ⟨a1, rfl, rfl, rfl, w1⟩ := open_int Try.underlying5 (hval 1 5 v1 rfl rfl) h1
  have g1 : ((UInt8.ofNat a1.toNat).toNat : Int) = a1 := by
    simp only [Lit.wf, IntKind.min, IntKind.max, IntKind.signed, IntKind.bits] at w1
    simp at w1
    rw [UInt8.toNat_ofNat']; omega
  have x1 : RepV (ghost0 W) (byteV (UInt8.ofNat a1.toNat)) (.int .u8 a1) := by unfold byteV; rw [g1]; exact .v rfl
  obtain ⟨b1, hb1⟩ : ∃ b, b = UInt8.ofNat a1.toNat := ⟨_, rfl⟩
  rw [← hb1] at x1
  clear hA0 hval0 hsz0 hsz
  have hr : RepL (ghost0 W) [.agg (([AVal.v (.int .i64 b0.1)]) ++ (([AVal.v (.int .i64 b0.2.1)]) ++ (([AVal.slice 1 (b0.2.2.map (fun a10 : List (UInt8) => AVal.slice 1 (a10.map byteV) .none)) .none])))), byteV b1] [v0, .int .u8 a1] := (.cons y0 (.cons x1 .nil))
  refine (law_calls (UmdGrows b0.1 b0.2.1 b0.2.2 b1 heap0 (by omega)) (fun v σ h => h.1) (cargs := #[v0, .int .u8 a1]) hr).mono fun e W' ⟨he, bel⟩ => ?_
  subst he
  exact ⟨_, rfl, _, _, _, [], _, [], hW', trodAll_mk1 (shut_bool Try.underlying4 _), (trodAll_cons_mk (Below.trod umdGrows_laid (by kernel_rfl) (of_decide_eq_true (by kernel_rfl)) k0 bel lt0) (trodAll_cons_mk (shut_int Try.underlying5 w1) trodAll_mk0)), rfl, bel.frame _, fun h => by cases h⟩

theorem umdGrows_closed : joinedFacts Try.pinned.checked.prog 5 Try.f5 Rows.umdGrowsSpec Rows.umdGrowsRow = true := by kernel_rfl
theorem umdGrows_named : Try.pinned.checked.prog.funcNamed Rows.umdGrowsRow.func = some 5 := by kernel_rfl
theorem umdGrows_inst : Try.f5.isInstance Try.pinned.checked.prog Rows.umdGrowsRow.origin Rows.umdGrowsRow.targs := of_decide_eq_true (by kernel_rfl)
theorem umdGrows_wrap : Try.f5.isWrapper Try.pinned.checked.prog Rows.umdGrowsRow.wrapper Rows.umdGrowsRow.mainSum := by
  unfold Func.isWrapper; first | (rw [if_pos (by decide +kernel)]; kernel_rfl) | (rw [if_neg (by decide +kernel)]; exact ⟨rfl, rfl⟩)
theorem umdGrows_holds : Rows.UmdGrowsSaid :=
  OpenClaim.holds_of_wide 5 Try.f5 rfl rfl rfl rfl rfl rfl rfl ⟨rfl, rfl, rfl, rfl, rfl⟩ rfl rfl rfl rfl rfl umdGrows_named Try.func5 umdGrows_closed umdGrows_inst umdGrows_wrap
    (fun os started H enc _ => umdGrows_lifted os started H enc)
#print axioms umdGrows_holds
end Go.Proofs.Ythjjkcmiachpcaa
