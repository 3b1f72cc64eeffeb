/-
  The bodies of one package, compiled to the framework's language (printed by a program of this session).
-/
import Derived.Test.YtndphnojmpeogaaIr0
namespace Go.Proofs.Ytndphnojmpeogaa
set_option linter.unusedVariables false
set_option linter.unusedSimpArgs false
open Go Go.Am
/- slices.Clone[[]byte,byte] -/
def c37 : Cfg := ⟨qs, false, 8, []⟩
def ir37 : IFun := ⟨1, [.tmp s2],
  (.seq (.reg (.one ⟨some s2, none, (.mv (.c (.slice 1 [] .full)))⟩
    .done))
  (.seq (.seq (.reg (.one ⟨some s3, none, (.mv (.t s0))⟩
    (.one ⟨some s4, none, (.eqNil 0 false (.t s3))⟩
    .done)))
  (.cond (.t s4) (.seq (.reg (.one ⟨some s2, none, (.mv (.c (.slice 1 [] .full)))⟩
    .done))
  .ret) .skip))
  (.seq (.reg (.one ⟨some s5, none, (.row 1 [])⟩
    (.one ⟨some s6, none, (.mv (.t s0))⟩
    (.one ⟨some s7, none, (.app 1 1 (.t s5) (.t s6))⟩
    (.one ⟨some s2, none, (.mv (.t s7))⟩
    .done)))))
  .ret)))⟩
theorem ok37 : compF Try.prog c37 Try.f37 = some ir37 := by kernel_rfl
theorem k_slices_Clone_byte_byte {args : List AVal} {σ : AHeap} {Q : AVal → AHeap → Prop} (hl : Nat.ble args.length 8 = true) (h : argsK (Env.full 9) 0 args fun env => evC Try.prog c37 ir37.body env σ (retQ ir37 Q)) : ACalls Try.prog 37 args σ Q :=
  acalls_of Try.func37 ok37 rfl (Nat.le_of_ble_eq_true hl) h
/- slices.Clone[[]byte,byte] -/
def c37m : Cfg := ⟨qs, true, 8, []⟩
def ir37m : IFun := ⟨1, [.tmp s2],
  (.seq (.reg (.one ⟨some s2, none, (.mv (.c (.slice 1 [] .full)))⟩
    .done))
  (.seq (.seq (.reg (.one ⟨some s3, none, (.mv (.t s0))⟩
    (.one ⟨some s4, none, (.eqNil 0 false (.t s3))⟩
    .done)))
  (.cond (.t s4) (.seq (.reg (.one ⟨some s2, none, (.mv (.c (.slice 1 [] .full)))⟩
    .done))
  .ret) .skip))
  (.seq (.reg (.one ⟨some s5, none, (.row 1 [])⟩
    (.one ⟨some s6, none, (.mv (.t s0))⟩
    (.one ⟨some s7, none, (.appm 1 1 (.t s5) (.t s6))⟩
    (.one ⟨some s2, none, (.mv (.t s7))⟩
    .done)))))
  .ret)))⟩
theorem ok37m : compF Try.prog c37m Try.f37 = some ir37m := by kernel_rfl
theorem km_slices_Clone_byte_byte {args : List AVal} {σ : AHeap} {Q : AVal → AHeap → Prop} (hl : Nat.ble args.length 8 = true) (h : argsK (Env.full 9) 0 args fun env => evC Try.prog c37m ir37m.body env σ (retQ ir37m Q)) : ACalls Try.prog 37 args σ Q :=
  acalls_of Try.func37 ok37m rfl (Nat.le_of_ble_eq_true hl) h
/- slices.Equal[[]byte,byte] -/
def c68 : Cfg := ⟨qs, false, 26, []⟩
def ir68 : IFun := ⟨2, [.tmp s4],
  (.seq (.reg (.one ⟨some s4, none, (.mv (.c (.v (.bool false))))⟩
    .done))
  (.seq (.seq (.reg (.one ⟨some s6, none, (.mv (.t s0))⟩
    (.one ⟨some s7, none, (.len false (.t s6))⟩
    (.one ⟨some s8, none, (.mv (.t s1))⟩
    (.one ⟨some s9, none, (.len false (.t s8))⟩
    (.one ⟨some s10, none, (.bin false .neq (.t s7) (.t s9))⟩
    .done))))))
  (.cond (.t s10) (.seq (.reg (.one ⟨some s4, none, (.mv (.c (.v (.bool false))))⟩
    .done))
  .ret) .skip))
  (.seq (.seq (.reg (.one ⟨some s11, none, (.mv (.t s0))⟩
    (.one ⟨some s12, none, (.len false (.t s11))⟩
    (.one ⟨some s13, none, (.mv (.c (.v (.int .i64 0))))⟩
    .done))))
  (.block 0 (.loop (.seq (.reg (.one ⟨some s14, none, (.bin false .lss (.t s13) (.t s12))⟩
    .done))
  (.seq (.cond (.t s14) .skip (.exit 0))
  (.seq (.block 1 (.seq (.reg (.one ⟨some s15, none, (.mv (.t s13))⟩
    (.one ⟨some s5, none, (.mv (.t s15))⟩
    .done)))
  (.seq (.reg (.one ⟨some s16, none, (.mv (.t s0))⟩
    (.one ⟨some s17, none, (.mv (.t s5))⟩
    (.one ⟨some s18, none, (.iaddr 1 (.t s16) (.t s17))⟩
    (.one ⟨some s19, none, (.load none (.t s18))⟩
    (.one ⟨some s20, none, (.mv (.t s1))⟩
    (.one ⟨some s21, none, (.mv (.t s5))⟩
    (.one ⟨some s22, none, (.iaddr 1 (.t s20) (.t s21))⟩
    (.one ⟨some s23, none, (.load none (.t s22))⟩
    (.one ⟨some s24, none, (.bin false .neq (.t s19) (.t s23))⟩
    .done))))))))))
  (.cond (.t s24) (.seq (.reg (.one ⟨some s4, none, (.mv (.c (.v (.bool false))))⟩
    .done))
  .ret) .skip))))
  (.reg (.one ⟨some s25, none, (.bin false .add (.t s13) (.c (.v (.int .i64 1))))⟩
    (.one ⟨some s13, none, (.mv (.t s25))⟩
    .done)))))))))
  (.seq (.reg (.one ⟨some s4, none, (.mv (.c (.v (.bool true))))⟩
    .done))
  .ret))))⟩
theorem ok68 : compF Try.prog c68 Try.f68 = some ir68 := by kernel_rfl
theorem k_slices_Equal_byte_byte {args : List AVal} {σ : AHeap} {Q : AVal → AHeap → Prop} (hl : Nat.ble args.length 26 = true) (h : argsK (Env.full 9) 0 args fun env => evC Try.prog c68 ir68.body env σ (retQ ir68 Q)) : ACalls Try.prog 68 args σ Q :=
  acalls_of Try.func68 ok68 rfl (Nat.le_of_ble_eq_true hl) h
end Go.Proofs.Ytndphnojmpeogaa

