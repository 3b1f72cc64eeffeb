/-
  The bodies of one package, compiled to the framework's language (printed by a program of this session).
-/
import Derived.Test.YtndphnojmpeogaaIr0
namespace Go.Proofs.Ytndphnojmpeogaa
set_option linter.unusedVariables false
set_option linter.unusedSimpArgs false
open Go Go.Am
/- bytes.Equal -/
def c56 : Cfg := ⟨qs, false, 10, []⟩
def ir56 : IFun := ⟨2, [.tmp s4],
  (.seq (.reg (.one ⟨some s4, none, (.mv (.c (.v (.bool false))))⟩
    .done))
  (.seq (.reg (.one ⟨some s5, none, (.mv (.t s0))⟩
    (.one ⟨some s6, none, (.b2s (.t s5))⟩
    (.one ⟨some s7, none, (.mv (.t s1))⟩
    (.one ⟨some s8, none, (.b2s (.t s7))⟩
    (.one ⟨some s9, none, (.bin false .eql (.t s6) (.t s8))⟩
    (.one ⟨some s4, none, (.mv (.t s9))⟩
    .done)))))))
  .ret))⟩
theorem ok56 : compF Try.prog c56 Try.f56 = some ir56 := by kernel_rfl
theorem k_bytes_Equal {args : List AVal} {σ : AHeap} {Q : AVal → AHeap → Prop} (hl : Nat.ble args.length 10 = true) (h : argsK (Env.full 9) 0 args fun env => evC Try.prog c56 ir56.body env σ (retQ ir56 Q)) : ACalls Try.prog 56 args σ Q :=
  acalls_of Try.func56 ok56 rfl (Nat.le_of_ble_eq_true hl) h
end Go.Proofs.Ytndphnojmpeogaa

