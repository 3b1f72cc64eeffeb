/-
  The row of BsrBack: proved of all inputs; no condition.
-/
import Derived.Test.YtkdbmajkjlnpiabRows
import Derived.Test.YtkdbmajkjlnpiabClawbsrb
import Derived.Test.YtkdbmajkjlnpiabFz
import Derived.WalkKit
import Derived.ProofKit
import Derived.OpenShut
import Derived.ShutString
import Derived.ChangeOld
import Derived.Below
import Derived.SizedLaws
namespace Go.Proofs.Ytkdbmajkjlnpiab
set_option linter.unusedVariables false
set_option linter.unusedSimpArgs false
open Go Go.Am Go.ChangeShapes Go.WideShapes Go.ChangeAt Go.RowKit
theorem bsrBack_own : ownKnob Try.prog.godebug = none := by kernel_rfl
theorem bsrBack_laid : laidOutB Try.prog = true := by kernel_rfl

set_option maxRecDepth 100000 in
theorem bsrBack_lifted (os : Os) (started : os.Started) (H : Type) (enc : TypeId × Value → H) :
    ReturnsInHanded {} Try.checked os 10 .any (Rows.bsrBackSpec.pre6 enc Try.prog Try.f10 Rows.bsrBackRow.domain false) (Rows.bsrBackSpec.post enc Try.prog Try.f10 false true false false) := by
  refine returnsInHanded_of_change_sized (C := Try.checked) bsrBack_own started (by kernel_rfl) Try.func10
    (ChangeSpec.witness6 (enc := enc) (C := Try.checked) false ⟨#[], #[.agg #[.int .i64 0, .int .i64 0, .int .i64 0, .int .i64 0], .int .u8 0, .int .u8 0, .int .u8 0], []⟩ 8 (by kernel_rfl) (by kernel_rfl) (by kernel_rfl) (by kernel_rfl)) ?_
  intro W base args ds gs before hval0 hW hcnd hsz0 _
  have hsz : (DataW.weightsEach Try.prog (Try.f10.params.toList ++ Rows.bsrBackSpec.plain.varTypes Try.prog) (ds ++ gs)).all (· ≤ reachBytes) = true := hsz0
  have hval : ∀ (j : Nat) t v, Try.f10.params[j]? = some t → args[j]? = some v → Value.okWide Try.prog W .any base t v := hval0
  have hW' := hW
  obtain ⟨p, q, hA0, hV, rfl, hfz, hnd⟩ := hW
  have hA : DataW.TrodAll enc Try.prog W 0 (fun _ => true) true Try.f10.params.toList args.toList ds p := hA0
  rw [Try.params10] at hA hval hsz
  obtain ⟨v0, vs0, d0, ds0, p0, q0, hargs, rfl, rfl, h0, r0⟩ := trodAll_cons hA
  obtain ⟨v1, vs1, d1, ds1, p1, q1, rfl, rfl, rfl, h1, r1⟩ := trodAll_cons r0
  obtain ⟨v2, vs2, d2, ds2, p2, q2, rfl, rfl, rfl, h2, r2⟩ := trodAll_cons r1
  obtain ⟨v3, vs3, d3, ds3, p3, q3, rfl, rfl, rfl, h3, r3⟩ := trodAll_cons r2
  obtain ⟨rfl, rfl, rfl⟩ := trodAll_nil r3
  obtain rfl : args = #[v0, v1, v2, v3] := by cases args; simp_all
  obtain ⟨rfl, rfl⟩ := trodVars_none hV
  have k0 := h0
  have lt0 : ∀ x ∈ p0, x.block < W.heap.size := by obtain ⟨m, hm⟩ := k0; exact DataW.trod_lt m _ _ _ hm
  have re0 : Reads enc Try.prog W 0 (fun _ => true) true 90 (fun l : List Int => l.map i64v) (fun l => l.length = 4 ∧ ∀ z ∈ l, -9223372036854775808 ≤ z ∧ z ≤ 9223372036854775807) := reads_array_i64 Try.underlying90 Try.underlying3 (by kernel_rfl) (by kernel_rfl)
  obtain ⟨b0, y0, g0⟩ := aggs0 (.inl ⟨_, _, Try.underlying90⟩) re0 (hval 0 90 v0 rfl rfl) h0
  obtain ⟨a1, rfl, rfl, rfl, w1⟩ := open_int Try.underlying5 (hval 1 5 v1 rfl rfl) h1
  have g1 : ((UInt8.ofNat a1.toNat).toNat : Int) = a1 := by
    simp only [Lit.wf, IntKind.min, IntKind.max, IntKind.signed, IntKind.bits] at w1
    simp at w1
    rw [UInt8.toNat_ofNat']; omega
  have x1 : RepV (ghost0 W) (byteV (UInt8.ofNat a1.toNat)) (.int .u8 a1) := by unfold byteV; rw [g1]; exact .v rfl
  obtain ⟨a2, rfl, rfl, rfl, w2⟩ := open_int Try.underlying5 (hval 2 5 v2 rfl rfl) h2
  have g2 : ((UInt8.ofNat a2.toNat).toNat : Int) = a2 := by
    simp only [Lit.wf, IntKind.min, IntKind.max, IntKind.signed, IntKind.bits] at w2
    simp at w2
    rw [UInt8.toNat_ofNat']; omega
  have x2 : RepV (ghost0 W) (byteV (UInt8.ofNat a2.toNat)) (.int .u8 a2) := by unfold byteV; rw [g2]; exact .v rfl
  obtain ⟨a3, rfl, rfl, rfl, w3⟩ := open_int Try.underlying5 (hval 3 5 v3 rfl rfl) h3
  have g3 : ((UInt8.ofNat a3.toNat).toNat : Int) = a3 := by
    simp only [Lit.wf, IntKind.min, IntKind.max, IntKind.signed, IntKind.bits] at w3
    simp at w3
    rw [UInt8.toNat_ofNat']; omega
  have x3 : RepV (ghost0 W) (byteV (UInt8.ofNat a3.toNat)) (.int .u8 a3) := by unfold byteV; rw [g3]; exact .v rfl
  clear hA0 hval0 hsz0 hsz
  have hr : RepL (ghost0 W) [rep b0, byteV (UInt8.ofNat a1.toNat), byteV (UInt8.ofNat a2.toNat), byteV (UInt8.ofNat a3.toNat)] [v0, .int .u8 a1, .int .u8 a2, .int .u8 a3] := (.cons y0 (.cons x1 (.cons x2 (.cons x3 .nil))))
  refine (law_calls (BsrBack b0 (UInt8.ofNat a1.toNat) (UInt8.ofNat a2.toNat) (UInt8.ofNat a3.toNat) g0.1 heap0) (fun v σ h => h.1) (cargs := #[v0, .int .u8 a1, .int .u8 a2, .int .u8 a3]) hr).mono fun e W' ⟨he, bel⟩ => ?_
  subst he
  exact ⟨_, rfl, _, _, _, [], _, [], hW', trodAll_mk1 (shut_bool Try.underlying4 _), (trodAll_cons_mk (Below.trod bsrBack_laid (by kernel_rfl) (of_decide_eq_true (by kernel_rfl)) k0 bel lt0) (trodAll_cons_mk (shut_int Try.underlying5 w1) (trodAll_cons_mk (shut_int Try.underlying5 w2) (trodAll_cons_mk (shut_int Try.underlying5 w3) trodAll_mk0)))), rfl, bel.frame _, fun h => by cases h⟩

theorem bsrBack_closed : joinedFacts Try.pinned.checked.prog 10 Try.f10 Rows.bsrBackSpec Rows.bsrBackRow = true := by kernel_rfl
theorem bsrBack_named : Try.pinned.checked.prog.funcNamed Rows.bsrBackRow.func = some 10 := by kernel_rfl
theorem bsrBack_inst : Try.f10.isInstance Try.pinned.checked.prog Rows.bsrBackRow.origin Rows.bsrBackRow.targs := of_decide_eq_true (by kernel_rfl)
theorem bsrBack_wrap : Try.f10.isWrapper Try.pinned.checked.prog Rows.bsrBackRow.wrapper Rows.bsrBackRow.mainSum := by
  unfold Func.isWrapper; first | (rw [if_pos (by decide +kernel)]; kernel_rfl) | (rw [if_neg (by decide +kernel)]; exact ⟨rfl, rfl⟩)
theorem bsrBack_holds : Rows.BsrBackSaid :=
  OpenClaim.holds_of_wide 10 Try.f10 rfl rfl rfl rfl rfl rfl rfl ⟨rfl, rfl, rfl, rfl, rfl⟩ rfl rfl rfl rfl rfl bsrBack_named Try.func10 bsrBack_closed bsrBack_inst bsrBack_wrap
    (fun os started H enc _ => bsrBack_lifted os started H enc)
#print axioms bsrBack_holds
end Go.Proofs.Ytkdbmajkjlnpiab

