/-
  The bodies of one package, compiled to the framework's language (printed by a program of this session).
-/
import Derived.Test.YtndphnojmpeogaaIr0
namespace Go.Proofs.Ytndphnojmpeogaa
set_option linter.unusedVariables false
set_option linter.unusedSimpArgs false
open Go Go.Am
/- bowlineref07.Open -/
def c38 : Cfg := ⟨qs, false, 22, []⟩
def ir38 : IFun := ⟨1, [.tmp s2, .tmp s3],
  (.seq (.reg (.one ⟨some s2, none, (.mv (.c (.slice 1 [] .full)))⟩
    (.one ⟨some s3, none, (.mv (.c (.v (.int .i64 0))))⟩
    .done)))
  (.seq (.seq (.reg (.one ⟨some s4, none, (.mv (.t s0))⟩
    (.one ⟨some s5, none, (.len false (.t s4))⟩
    (.one ⟨some s6, none, (.bin false .lss (.t s5) (.c (.v (.int .i64 2))))⟩
    .done))))
  (.cond (.t s6) (.seq (.reg (.one ⟨some s2, none, (.mv (.c (.slice 1 [] .full)))⟩
    (.one ⟨some s3, none, (.mv (.c (.v (.int .i64 8))))⟩
    .done)))
  .ret) .skip))
  (.seq (.seq (.reg (.one ⟨some s7, none, (.mv (.t s0))⟩
    (.one ⟨some s8, none, (.mv (.t s0))⟩
    (.one ⟨some s9, none, (.len false (.t s8))⟩
    (.one ⟨some s10, none, (.bin false .sub (.t s9) (.c (.v (.int .i64 2))))⟩
    (.one ⟨some s11, none, (.cut 1 (.t s7) none (some (.t s10)) none)⟩
    (.one ⟨some s14, none, (.mv (.t s0))⟩
    (.one ⟨some s15, none, (.b2s (.t s14))⟩
    (.one ⟨some s12, none, (.callq 53 [(.t s11)])⟩
    (.one ⟨some s13, none, (.b2s (.t s12))⟩
    (.one ⟨some s16, none, (.bin false .neq (.t s13) (.t s15))⟩
    .done)))))))))))
  (.cond (.t s16) (.seq (.reg (.one ⟨some s2, none, (.mv (.c (.slice 1 [] .full)))⟩
    (.one ⟨some s3, none, (.mv (.c (.v (.int .i64 13))))⟩
    .done)))
  .ret) .skip))
  (.seq (.reg (.one ⟨some s17, none, (.mv (.t s0))⟩
    (.one ⟨some s18, none, (.mv (.t s0))⟩
    (.one ⟨some s19, none, (.len false (.t s18))⟩
    (.one ⟨some s20, none, (.bin false .sub (.t s19) (.c (.v (.int .i64 2))))⟩
    (.one ⟨some s21, none, (.cut 1 (.t s17) none (some (.t s20)) none)⟩
    (.one ⟨some s2, none, (.mv (.t s21))⟩
    (.one ⟨some s3, none, (.mv (.c (.v (.int .i64 0))))⟩
    .done))))))))
  .ret))))⟩
theorem ok38 : compF Try.prog c38 Try.f38 = some ir38 := by kernel_rfl
theorem k_bowlineref07_Open {args : List AVal} {σ : AHeap} {Q : AVal → AHeap → Prop} (hl : Nat.ble args.length 22 = true) (h : argsK (Env.full 9) 0 args fun env => evC Try.prog c38 ir38.body env σ (retQ ir38 Q)) : ACalls Try.prog 38 args σ Q :=
  acalls_of Try.func38 ok38 rfl (Nat.le_of_ble_eq_true hl) h
/- bowlineref07.Close -/
def c53 : Cfg := ⟨qs, false, 19, []⟩
def ir53 : IFun := ⟨1, [.tmp s2],
  (.seq (.reg (.one ⟨some s2, none, (.mv (.c (.slice 1 [] .full)))⟩
    .done))
  (.seq (.reg (.one ⟨some s5, none, (.mv (.t s0))⟩
    (.one ⟨some s6, none, (.callq 74 [(.c (.v (.int .u16 65535))), (.t s5)])⟩
    (.one ⟨some s3, none, (.mv (.t s6))⟩
    .done))))
  (.seq (.reg (.one ⟨some s4, none, (.mv (.c (.slice 1 [] .full)))⟩
    .done))
  (.seq (.reg (.one ⟨some s7, none, (.mv (.t s4))⟩
    (.one ⟨some s8, none, (.mv (.t s0))⟩
    (.one ⟨some s9, none, (.app 1 1 (.t s7) (.t s8))⟩
    (.one ⟨some s4, none, (.mv (.t s9))⟩
    .done)))))
  (.seq (.reg (.one ⟨some s10, none, (.mv (.t s4))⟩
    (.one ⟨some s11, none, (.mv (.t s3))⟩
    (.one ⟨some s12, none, (.bin false .quo (.t s11) (.c (.v (.int .u16 256))))⟩
    (.one ⟨some s13, none, (.conv .u8 (.t s12))⟩
    (.one ⟨some s14, none, (.mv (.t s3))⟩
    (.one ⟨some s15, none, (.bin false .rem (.t s14) (.c (.v (.int .u16 256))))⟩
    (.one ⟨some s16, none, (.conv .u8 (.t s15))⟩
    (.one ⟨some s17, none, (.row 1 [(.t s13), (.t s16)])⟩
    (.one ⟨some s18, none, (.app 1 1 (.t s10) (.t s17))⟩
    (.one ⟨some s2, none, (.mv (.t s18))⟩
    .done)))))))))))
  .ret)))))⟩
theorem ok53 : compF Try.prog c53 Try.f53 = some ir53 := by kernel_rfl
theorem k_bowlineref07_Close {args : List AVal} {σ : AHeap} {Q : AVal → AHeap → Prop} (hl : Nat.ble args.length 19 = true) (h : argsK (Env.full 9) 0 args fun env => evC Try.prog c53 ir53.body env σ (retQ ir53 Q)) : ACalls Try.prog 53 args σ Q :=
  acalls_of Try.func53 ok53 rfl (Nat.le_of_ble_eq_true hl) h
/- bowlineref07.More -/
def c74 : Cfg := ⟨qs, false, 37, []⟩
def ir74 : IFun := ⟨2, [.tmp s4],
  (.seq (.reg (.one ⟨some s4, none, (.mv (.c (.v (.int .u16 0))))⟩
    .done))
  (.seq (.reg (.one ⟨some s8, none, (.mv (.t s0))⟩
    (.one ⟨some s9, none, (.conv .u32 (.t s8))⟩
    (.one ⟨some s5, none, (.mv (.t s9))⟩
    .done))))
  (.seq (.seq (.reg (.one ⟨some s6, none, (.mv (.c (.v (.int .i64 0))))⟩
    .done))
  (.block 0 (.loop (.seq (.seq (.reg (.one ⟨some s10, none, (.mv (.t s6))⟩
    (.one ⟨some s11, none, (.mv (.t s1))⟩
    (.one ⟨some s12, none, (.len false (.t s11))⟩
    (.one ⟨some s13, none, (.bin false .lss (.t s10) (.t s12))⟩
    .done)))))
  (.cond (.t s13) .skip (.exit 0)))
  (.seq (.block 1 (.seq (.reg (.one ⟨some s16, none, (.mv (.t s5))⟩
    (.one ⟨some s17, none, (.mv (.t s1))⟩
    (.one ⟨some s18, none, (.mv (.t s6))⟩
    (.one ⟨some s19, none, (.iaddr 1 (.t s17) (.t s18))⟩
    (.one ⟨some s20, none, (.load none (.t s19))⟩
    (.one ⟨some s21, none, (.conv .u32 (.t s20))⟩
    (.one ⟨some s22, none, (.bin false .mul (.c (.v (.int .u32 256))) (.t s21))⟩
    (.one ⟨some s23, none, (.bin false .xor (.t s16) (.t s22))⟩
    (.one ⟨some s5, none, (.mv (.t s23))⟩
    .done))))))))))
  (.seq (.reg (.one ⟨some s7, none, (.mv (.c (.v (.int .i64 0))))⟩
    .done))
  (.block 2 (.loop (.seq (.seq (.reg (.one ⟨some s24, none, (.mv (.t s7))⟩
    (.one ⟨some s25, none, (.bin false .lss (.t s24) (.c (.v (.int .i64 8))))⟩
    .done)))
  (.cond (.t s25) .skip (.exit 2)))
  (.seq (.block 3 (.seq (.reg (.one ⟨some s28, none, (.mv (.t s5))⟩
    (.one ⟨some s29, none, (.bin false .mul (.c (.v (.int .u32 2))) (.t s28))⟩
    (.one ⟨some s5, none, (.mv (.t s29))⟩
    .done))))
  (.seq (.reg (.one ⟨some s30, none, (.mv (.t s5))⟩
    (.one ⟨some s31, none, (.bin false .geq (.t s30) (.c (.v (.int .u32 65536))))⟩
    .done)))
  (.cond (.t s31) (.reg (.one ⟨some s32, none, (.mv (.t s5))⟩
    (.one ⟨some s33, none, (.bin false .sub (.t s32) (.c (.v (.int .u32 65536))))⟩
    (.one ⟨some s34, none, (.bin false .xor (.t s33) (.c (.v (.int .u32 4129))))⟩
    (.one ⟨some s5, none, (.mv (.t s34))⟩
    .done))))) .skip))))
  (.reg (.one ⟨some s26, none, (.mv (.t s7))⟩
    (.one ⟨some s27, none, (.bin false .add (.t s26) (.c (.v (.int .i64 1))))⟩
    (.one ⟨some s7, none, (.mv (.t s27))⟩
    .done)))))))))))
  (.reg (.one ⟨some s14, none, (.mv (.t s6))⟩
    (.one ⟨some s15, none, (.bin false .add (.t s14) (.c (.v (.int .i64 1))))⟩
    (.one ⟨some s6, none, (.mv (.t s15))⟩
    .done)))))))))
  (.seq (.reg (.one ⟨some s35, none, (.mv (.t s5))⟩
    (.one ⟨some s36, none, (.conv .u16 (.t s35))⟩
    (.one ⟨some s4, none, (.mv (.t s36))⟩
    .done))))
  .ret))))⟩
theorem ok74 : compF Try.prog c74 Try.f74 = some ir74 := by kernel_rfl
theorem k_bowlineref07_More {args : List AVal} {σ : AHeap} {Q : AVal → AHeap → Prop} (hl : Nat.ble args.length 37 = true) (h : argsK (Env.full 9) 0 args fun env => evC Try.prog c74 ir74.body env σ (retQ ir74 Q)) : ACalls Try.prog 74 args σ Q :=
  acalls_of Try.func74 ok74 rfl (Nat.le_of_ble_eq_true hl) h
end Go.Proofs.Ytndphnojmpeogaa

