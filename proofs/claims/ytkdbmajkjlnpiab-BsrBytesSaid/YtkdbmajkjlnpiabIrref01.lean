/-
  The bodies of one package, compiled to the framework's language (printed by a program of this session).
-/
import Derived.Test.YtkdbmajkjlnpiabIr0
namespace Go.Proofs.Ytkdbmajkjlnpiab
set_option linter.unusedVariables false
set_option linter.unusedSimpArgs false
open Go Go.Am
/- bowlineref01.Bits -/
def c94 : Cfg := ⟨qs, false, 32, []⟩
def ir94 : IFun := ⟨1, [.tmp s2],
  (.seq (.reg (.one ⟨some s2, none, (.mv (.c (.slice 1 [] .full)))⟩
    .done))
  (.seq (.reg (.one ⟨some s3, none, (.mv (.c (.slice 1 [] .full)))⟩
    .done))
  (.seq (.seq (.reg (.one ⟨some s4, none, (.mv (.c (.v (.int .i64 0))))⟩
    .done))
  (.block 0 (.loop (.seq (.seq (.reg (.one ⟨some s6, none, (.mv (.t s4))⟩
    (.one ⟨some s7, none, (.mv (.t s0))⟩
    (.one ⟨some s8, none, (.len false (.t s7))⟩
    (.one ⟨some s9, none, (.bin false .lss (.t s6) (.t s8))⟩
    (.one ⟨some s10, none, (.mv (.t s9))⟩
    (.one ⟨some s11, some (s10, true), (.mv (.t s4))⟩
    (.one ⟨some s12, some (s10, true), (.bin false .lss (.t s11) (.c (.v (.int .i64 8192))))⟩
    (.one ⟨some s13, none, (.pick (.t s10) (.t s12) (.c (.v (.bool false))))⟩
    .done)))))))))
  (.cond (.t s13) .skip (.exit 0)))
  (.seq (.block 1 (.seq (.reg (.one ⟨some s5, none, (.mv (.c (.v (.int .u8 128))))⟩
    .done))
  (.block 2 (.loop (.seq (.seq (.reg (.one ⟨some s16, none, (.mv (.t s5))⟩
    (.one ⟨some s17, none, (.bin false .gtr (.t s16) (.c (.v (.int .u8 0))))⟩
    .done)))
  (.cond (.t s17) .skip (.exit 2)))
  (.seq (.block 3 (.reg (.one ⟨some s20, none, (.mv (.t s3))⟩
    (.one ⟨some s21, none, (.mv (.t s0))⟩
    (.one ⟨some s22, none, (.mv (.t s4))⟩
    (.one ⟨some s23, none, (.iaddr 1 (.t s21) (.t s22))⟩
    (.one ⟨some s24, none, (.load none (.t s23))⟩
    (.one ⟨some s25, none, (.mv (.t s5))⟩
    (.one ⟨some s26, none, (.bin false .quo (.t s24) (.t s25))⟩
    (.one ⟨some s27, none, (.bin false .rem (.t s26) (.c (.v (.int .u8 2))))⟩
    (.one ⟨some s28, none, (.bin false .eql (.t s27) (.c (.v (.int .u8 1))))⟩
    (.one ⟨some s29, none, (.row 1 [(.t s28)])⟩
    (.one ⟨some s30, none, (.app 1 1 (.t s20) (.t s29))⟩
    (.one ⟨some s3, none, (.mv (.t s30))⟩
    .done))))))))))))))
  (.reg (.one ⟨some s18, none, (.mv (.t s5))⟩
    (.one ⟨some s19, none, (.bin false .quo (.t s18) (.c (.v (.int .u8 2))))⟩
    (.one ⟨some s5, none, (.mv (.t s19))⟩
    .done))))))))))
  (.reg (.one ⟨some s14, none, (.mv (.t s4))⟩
    (.one ⟨some s15, none, (.bin false .add (.t s14) (.c (.v (.int .i64 1))))⟩
    (.one ⟨some s4, none, (.mv (.t s15))⟩
    .done)))))))))
  (.seq (.reg (.one ⟨some s31, none, (.mv (.t s3))⟩
    (.one ⟨some s2, none, (.mv (.t s31))⟩
    .done)))
  .ret))))⟩
theorem ok94 : compF Try.prog c94 Try.f94 = some ir94 := by kernel_rfl
theorem k_bowlineref01_Bits {args : List AVal} {σ : AHeap} {Q : AVal → AHeap → Prop} (hl : Nat.ble args.length 32 = true) (h : argsK (Env.full 9) 0 args fun env => evC Try.prog c94 ir94.body env σ (retQ ir94 Q)) : ACalls Try.prog 94 args σ Q :=
  acalls_of Try.func94 ok94 rfl (Nat.le_of_ble_eq_true hl) h
/- bowlineref01.Get -/
def c95 : Cfg := ⟨qs, false, 45, []⟩
def ir95 : IFun := ⟨3, [.tmp s6, .tmp s7, .tmp s8],
  (.seq (.reg (.one ⟨some s6, none, (.mv (.c (.v (.int .u64 0))))⟩
    (.one ⟨some s7, none, (.mv (.c (.v (.int .i64 0))))⟩
    (.one ⟨some s8, none, (.mv (.c (.v (.int .i64 0))))⟩
    .done))))
  (.seq (.seq (.reg (.one ⟨some s11, none, (.mv (.t s2))⟩
    (.one ⟨some s12, none, (.bin false .lss (.t s11) (.c (.v (.int .i64 0))))⟩
    (.one ⟨some s13, none, (.mv (.t s12))⟩
    (.one ⟨some s14, some (s13, false), (.mv (.t s2))⟩
    (.one ⟨some s15, some (s13, false), (.bin false .gtr (.t s14) (.c (.v (.int .i64 64))))⟩
    (.one ⟨some s16, none, (.pick (.t s13) (.c (.v (.bool true))) (.t s15))⟩
    .done)))))))
  (.cond (.t s16) (.seq (.reg (.one ⟨some s17, none, (.mv (.t s1))⟩
    (.one ⟨some s6, none, (.mv (.c (.v (.int .u64 0))))⟩
    (.one ⟨some s7, none, (.mv (.t s17))⟩
    (.one ⟨some s8, none, (.mv (.c (.v (.int .i64 1))))⟩
    .done)))))
  .ret) .skip))
  (.seq (.seq (.reg (.one ⟨some s18, none, (.mv (.t s2))⟩
    (.one ⟨some s19, none, (.mv (.t s0))⟩
    (.one ⟨some s20, none, (.len false (.t s19))⟩
    (.one ⟨some s21, none, (.mv (.t s1))⟩
    (.one ⟨some s22, none, (.bin false .sub (.t s20) (.t s21))⟩
    (.one ⟨some s23, none, (.bin false .gtr (.t s18) (.t s22))⟩
    .done)))))))
  (.cond (.t s23) (.seq (.reg (.one ⟨some s24, none, (.mv (.t s1))⟩
    (.one ⟨some s6, none, (.mv (.c (.v (.int .u64 0))))⟩
    (.one ⟨some s7, none, (.mv (.t s24))⟩
    (.one ⟨some s8, none, (.mv (.c (.v (.int .i64 8))))⟩
    .done)))))
  .ret) .skip))
  (.seq (.reg (.one ⟨some s9, none, (.mv (.c (.v (.int .u64 0))))⟩
    .done))
  (.seq (.seq (.reg (.one ⟨some s25, none, (.mv (.t s1))⟩
    (.one ⟨some s10, none, (.mv (.t s25))⟩
    .done)))
  (.block 0 (.loop (.seq (.seq (.reg (.one ⟨some s26, none, (.mv (.t s10))⟩
    (.one ⟨some s27, none, (.mv (.t s1))⟩
    (.one ⟨some s28, none, (.mv (.t s2))⟩
    (.one ⟨some s29, none, (.bin false .add (.t s27) (.t s28))⟩
    (.one ⟨some s30, none, (.bin false .lss (.t s26) (.t s29))⟩
    .done))))))
  (.cond (.t s30) .skip (.exit 0)))
  (.seq (.block 1 (.seq (.reg (.one ⟨some s33, none, (.mv (.t s9))⟩
    (.one ⟨some s34, none, (.bin false .mul (.c (.v (.int .u64 2))) (.t s33))⟩
    (.one ⟨some s9, none, (.mv (.t s34))⟩
    .done))))
  (.seq (.reg (.one ⟨some s35, none, (.mv (.t s0))⟩
    (.one ⟨some s36, none, (.mv (.t s10))⟩
    (.one ⟨some s37, none, (.iaddr 1 (.t s35) (.t s36))⟩
    (.one ⟨some s38, none, (.load none (.t s37))⟩
    .done)))))
  (.cond (.t s38) (.reg (.one ⟨some s39, none, (.mv (.t s9))⟩
    (.one ⟨some s40, none, (.bin false .add (.t s39) (.c (.v (.int .u64 1))))⟩
    (.one ⟨some s9, none, (.mv (.t s40))⟩
    .done)))) .skip))))
  (.reg (.one ⟨some s31, none, (.mv (.t s10))⟩
    (.one ⟨some s32, none, (.bin false .add (.t s31) (.c (.v (.int .i64 1))))⟩
    (.one ⟨some s10, none, (.mv (.t s32))⟩
    .done)))))))))
  (.seq (.reg (.one ⟨some s41, none, (.mv (.t s9))⟩
    (.one ⟨some s42, none, (.mv (.t s1))⟩
    (.one ⟨some s43, none, (.mv (.t s2))⟩
    (.one ⟨some s44, none, (.bin false .add (.t s42) (.t s43))⟩
    (.one ⟨some s6, none, (.mv (.t s41))⟩
    (.one ⟨some s7, none, (.mv (.t s44))⟩
    (.one ⟨some s8, none, (.mv (.c (.v (.int .i64 0))))⟩
    .done))))))))
  .ret))))))⟩
theorem ok95 : compF Try.prog c95 Try.f95 = some ir95 := by kernel_rfl
theorem k_bowlineref01_Get {args : List AVal} {σ : AHeap} {Q : AVal → AHeap → Prop} (hl : Nat.ble args.length 45 = true) (h : argsK (Env.full 9) 0 args fun env => evC Try.prog c95 ir95.body env σ (retQ ir95 Q)) : ACalls Try.prog 95 args σ Q :=
  acalls_of Try.func95 ok95 rfl (Nat.le_of_ble_eq_true hl) h
/- bowlineref01.Put -/
def c96 : Cfg := ⟨qs, false, 53, []⟩
def ir96 : IFun := ⟨3, [.tmp s6, .tmp s7],
  (.seq (.reg (.one ⟨some s6, none, (.mv (.c (.slice 1 [] .full)))⟩
    (.one ⟨some s7, none, (.mv (.c (.v (.int .i64 0))))⟩
    .done)))
  (.seq (.seq (.reg (.one ⟨some s12, none, (.mv (.t s1))⟩
    (.one ⟨some s13, none, (.mv (.t s2))⟩
    (.one ⟨some s14, none, (.callq 114 [(.t s12), (.t s13)])⟩
    (.one ⟨some s15, none, (.not (.t s14))⟩
    .done)))))
  (.cond (.t s15) (.seq (.reg (.one ⟨some s16, none, (.mv (.t s0))⟩
    (.one ⟨some s6, none, (.mv (.t s16))⟩
    (.one ⟨some s7, none, (.mv (.c (.v (.int .i64 1))))⟩
    .done))))
  .ret) .skip))
  (.seq (.seq (.reg (.one ⟨some s17, none, (.mv (.t s0))⟩
    (.one ⟨some s18, none, (.len false (.t s17))⟩
    (.one ⟨some s19, none, (.mv (.t s2))⟩
    (.one ⟨some s20, none, (.bin false .sub (.c (.v (.int .i64 65536))) (.t s19))⟩
    (.one ⟨some s21, none, (.bin false .gtr (.t s18) (.t s20))⟩
    .done))))))
  (.cond (.t s21) (.seq (.reg (.one ⟨some s22, none, (.mv (.t s0))⟩
    (.one ⟨some s6, none, (.mv (.t s22))⟩
    (.one ⟨some s7, none, (.mv (.c (.v (.int .i64 5))))⟩
    .done))))
  .ret) .skip))
  (.seq (.reg (.one ⟨some s8, none, (.mv (.c (.slice 1 [] .full)))⟩
    (.one ⟨some s9, none, (.mv (.c (.slice 1 [] .full)))⟩
    .done)))
  (.seq (.seq (.reg (.one ⟨some s10, none, (.mv (.c (.v (.int .i64 0))))⟩
    .done))
  (.block 0 (.loop (.seq (.seq (.reg (.one ⟨some s23, none, (.mv (.t s10))⟩
    (.one ⟨some s24, none, (.mv (.t s2))⟩
    (.one ⟨some s25, none, (.bin false .lss (.t s23) (.t s24))⟩
    .done))))
  (.cond (.t s25) .skip (.exit 0)))
  (.seq (.block 1 (.seq (.reg (.one ⟨some s28, none, (.mv (.t s8))⟩
    (.one ⟨some s29, none, (.mv (.t s1))⟩
    (.one ⟨some s30, none, (.bin false .rem (.t s29) (.c (.v (.int .u64 2))))⟩
    (.one ⟨some s31, none, (.bin false .eql (.t s30) (.c (.v (.int .u64 1))))⟩
    (.one ⟨some s32, none, (.row 1 [(.t s31)])⟩
    (.one ⟨some s33, none, (.app 1 1 (.t s28) (.t s32))⟩
    (.one ⟨some s8, none, (.mv (.t s33))⟩
    .done))))))))
  (.reg (.one ⟨some s34, none, (.mv (.t s1))⟩
    (.one ⟨some s35, none, (.bin false .quo (.t s34) (.c (.v (.int .u64 2))))⟩
    (.one ⟨some s1, none, (.mv (.t s35))⟩
    .done))))))
  (.reg (.one ⟨some s26, none, (.mv (.t s10))⟩
    (.one ⟨some s27, none, (.bin false .add (.t s26) (.c (.v (.int .i64 1))))⟩
    (.one ⟨some s10, none, (.mv (.t s27))⟩
    .done)))))))))
  (.seq (.reg (.one ⟨some s36, none, (.mv (.t s9))⟩
    (.one ⟨some s37, none, (.mv (.t s0))⟩
    (.one ⟨some s38, none, (.app 1 1 (.t s36) (.t s37))⟩
    (.one ⟨some s9, none, (.mv (.t s38))⟩
    .done)))))
  (.seq (.seq (.reg (.one ⟨some s39, none, (.mv (.t s2))⟩
    (.one ⟨some s40, none, (.bin false .sub (.t s39) (.c (.v (.int .i64 1))))⟩
    (.one ⟨some s11, none, (.mv (.t s40))⟩
    .done))))
  (.block 2 (.loop (.seq (.seq (.reg (.one ⟨some s41, none, (.mv (.t s11))⟩
    (.one ⟨some s42, none, (.bin false .geq (.t s41) (.c (.v (.int .i64 0))))⟩
    .done)))
  (.cond (.t s42) .skip (.exit 2)))
  (.seq (.block 3 (.reg (.one ⟨some s45, none, (.mv (.t s9))⟩
    (.one ⟨some s46, none, (.mv (.t s8))⟩
    (.one ⟨some s47, none, (.mv (.t s11))⟩
    (.one ⟨some s48, none, (.iaddr 1 (.t s46) (.t s47))⟩
    (.one ⟨some s49, none, (.load none (.t s48))⟩
    (.one ⟨some s50, none, (.row 1 [(.t s49)])⟩
    (.one ⟨some s51, none, (.app 1 1 (.t s45) (.t s50))⟩
    (.one ⟨some s9, none, (.mv (.t s51))⟩
    .done))))))))))
  (.reg (.one ⟨some s43, none, (.mv (.t s11))⟩
    (.one ⟨some s44, none, (.bin false .sub (.t s43) (.c (.v (.int .i64 1))))⟩
    (.one ⟨some s11, none, (.mv (.t s44))⟩
    .done)))))))))
  (.seq (.reg (.one ⟨some s52, none, (.mv (.t s9))⟩
    (.one ⟨some s6, none, (.mv (.t s52))⟩
    (.one ⟨some s7, none, (.mv (.c (.v (.int .i64 0))))⟩
    .done))))
  .ret))))))))⟩
theorem ok96 : compF Try.prog c96 Try.f96 = some ir96 := by kernel_rfl
theorem k_bowlineref01_Put {args : List AVal} {σ : AHeap} {Q : AVal → AHeap → Prop} (hl : Nat.ble args.length 53 = true) (h : argsK (Env.full 9) 0 args fun env => evC Try.prog c96 ir96.body env σ (retQ ir96 Q)) : ACalls Try.prog 96 args σ Q :=
  acalls_of Try.func96 ok96 rfl (Nat.le_of_ble_eq_true hl) h
/- bowlineref01.Bytes -/
def c97 : Cfg := ⟨qs, false, 40, []⟩
def ir97 : IFun := ⟨1, [.tmp s2],
  (.seq (.reg (.one ⟨some s2, none, (.mv (.c (.slice 1 [] .full)))⟩
    .done))
  (.seq (.reg (.one ⟨some s3, none, (.mv (.c (.slice 1 [] .full)))⟩
    .done))
  (.seq (.seq (.reg (.one ⟨some s4, none, (.mv (.c (.v (.int .i64 0))))⟩
    .done))
  (.block 0 (.loop (.seq (.seq (.reg (.one ⟨some s7, none, (.mv (.t s4))⟩
    (.one ⟨some s8, none, (.mv (.t s0))⟩
    (.one ⟨some s9, none, (.len false (.t s8))⟩
    (.one ⟨some s10, none, (.bin false .lss (.t s7) (.t s9))⟩
    .done)))))
  (.cond (.t s10) .skip (.exit 0)))
  (.seq (.block 1 (.seq (.reg (.one ⟨some s5, none, (.mv (.c (.v (.int .u8 0))))⟩
    .done))
  (.seq (.seq (.reg (.one ⟨some s6, none, (.mv (.c (.v (.int .i64 0))))⟩
    .done))
  (.block 2 (.loop (.seq (.seq (.reg (.one ⟨some s13, none, (.mv (.t s6))⟩
    (.one ⟨some s14, none, (.bin false .lss (.t s13) (.c (.v (.int .i64 8))))⟩
    .done)))
  (.cond (.t s14) .skip (.exit 2)))
  (.seq (.block 3 (.seq (.reg (.one ⟨some s17, none, (.mv (.t s5))⟩
    (.one ⟨some s18, none, (.bin false .mul (.c (.v (.int .u8 2))) (.t s17))⟩
    (.one ⟨some s5, none, (.mv (.t s18))⟩
    .done))))
  (.seq (.reg (.one ⟨some s19, none, (.mv (.t s4))⟩
    (.one ⟨some s20, none, (.mv (.t s6))⟩
    (.one ⟨some s21, none, (.bin false .add (.t s19) (.t s20))⟩
    (.one ⟨some s22, none, (.mv (.t s0))⟩
    (.one ⟨some s23, none, (.len false (.t s22))⟩
    (.one ⟨some s24, none, (.bin false .lss (.t s21) (.t s23))⟩
    (.one ⟨some s25, none, (.mv (.t s24))⟩
    (.one ⟨some s26, some (s25, true), (.mv (.t s0))⟩
    (.one ⟨some s27, some (s25, true), (.mv (.t s4))⟩
    (.one ⟨some s28, some (s25, true), (.mv (.t s6))⟩
    (.one ⟨some s29, some (s25, true), (.bin false .add (.t s27) (.t s28))⟩
    (.one ⟨some s30, some (s25, true), (.iaddr 1 (.t s26) (.t s29))⟩
    (.one ⟨some s31, some (s25, true), (.load none (.t s30))⟩
    (.one ⟨some s32, none, (.pick (.t s25) (.t s31) (.c (.v (.bool false))))⟩
    .done)))))))))))))))
  (.cond (.t s32) (.reg (.one ⟨some s33, none, (.mv (.t s5))⟩
    (.one ⟨some s34, none, (.bin false .add (.t s33) (.c (.v (.int .u8 1))))⟩
    (.one ⟨some s5, none, (.mv (.t s34))⟩
    .done)))) .skip))))
  (.reg (.one ⟨some s15, none, (.mv (.t s6))⟩
    (.one ⟨some s16, none, (.bin false .add (.t s15) (.c (.v (.int .i64 1))))⟩
    (.one ⟨some s6, none, (.mv (.t s16))⟩
    .done)))))))))
  (.reg (.one ⟨some s35, none, (.mv (.t s3))⟩
    (.one ⟨some s36, none, (.mv (.t s5))⟩
    (.one ⟨some s37, none, (.row 1 [(.t s36)])⟩
    (.one ⟨some s38, none, (.app 1 1 (.t s35) (.t s37))⟩
    (.one ⟨some s3, none, (.mv (.t s38))⟩
    .done)))))))))
  (.reg (.one ⟨some s11, none, (.mv (.t s4))⟩
    (.one ⟨some s12, none, (.bin false .add (.t s11) (.c (.v (.int .i64 8))))⟩
    (.one ⟨some s4, none, (.mv (.t s12))⟩
    .done)))))))))
  (.seq (.reg (.one ⟨some s39, none, (.mv (.t s3))⟩
    (.one ⟨some s2, none, (.mv (.t s39))⟩
    .done)))
  .ret))))⟩
theorem ok97 : compF Try.prog c97 Try.f97 = some ir97 := by kernel_rfl
theorem k_bowlineref01_Bytes {args : List AVal} {σ : AHeap} {Q : AVal → AHeap → Prop} (hl : Nat.ble args.length 40 = true) (h : argsK (Env.full 9) 0 args fun env => evC Try.prog c97 ir97.body env σ (retQ ir97 Q)) : ACalls Try.prog 97 args σ Q :=
  acalls_of Try.func97 ok97 rfl (Nat.le_of_ble_eq_true hl) h
/- bowlineref01.fits -/
def c114 : Cfg := ⟨qs, false, 21, []⟩
def ir114 : IFun := ⟨2, [.tmp s4],
  (.seq (.reg (.one ⟨some s4, none, (.mv (.c (.v (.bool false))))⟩
    .done))
  (.seq (.seq (.reg (.one ⟨some s6, none, (.mv (.t s1))⟩
    (.one ⟨some s7, none, (.bin false .lss (.t s6) (.c (.v (.int .i64 0))))⟩
    (.one ⟨some s8, none, (.mv (.t s7))⟩
    (.one ⟨some s9, some (s8, false), (.mv (.t s1))⟩
    (.one ⟨some s10, some (s8, false), (.bin false .gtr (.t s9) (.c (.v (.int .i64 64))))⟩
    (.one ⟨some s11, none, (.pick (.t s8) (.c (.v (.bool true))) (.t s10))⟩
    .done)))))))
  (.cond (.t s11) (.seq (.reg (.one ⟨some s4, none, (.mv (.c (.v (.bool false))))⟩
    .done))
  .ret) .skip))
  (.seq (.seq (.reg (.one ⟨some s5, none, (.mv (.c (.v (.int .i64 0))))⟩
    .done))
  (.block 0 (.loop (.seq (.seq (.reg (.one ⟨some s12, none, (.mv (.t s5))⟩
    (.one ⟨some s13, none, (.mv (.t s1))⟩
    (.one ⟨some s14, none, (.bin false .lss (.t s12) (.t s13))⟩
    .done))))
  (.cond (.t s14) .skip (.exit 0)))
  (.seq (.block 1 (.reg (.one ⟨some s17, none, (.mv (.t s0))⟩
    (.one ⟨some s18, none, (.bin false .quo (.t s17) (.c (.v (.int .u64 2))))⟩
    (.one ⟨some s0, none, (.mv (.t s18))⟩
    .done)))))
  (.reg (.one ⟨some s15, none, (.mv (.t s5))⟩
    (.one ⟨some s16, none, (.bin false .add (.t s15) (.c (.v (.int .i64 1))))⟩
    (.one ⟨some s5, none, (.mv (.t s16))⟩
    .done)))))))))
  (.seq (.reg (.one ⟨some s19, none, (.mv (.t s0))⟩
    (.one ⟨some s20, none, (.bin false .eql (.t s19) (.c (.v (.int .u64 0))))⟩
    (.one ⟨some s4, none, (.mv (.t s20))⟩
    .done))))
  .ret))))⟩
theorem ok114 : compF Try.prog c114 Try.f114 = some ir114 := by kernel_rfl
theorem k_bowlineref01_fits {args : List AVal} {σ : AHeap} {Q : AVal → AHeap → Prop} (hl : Nat.ble args.length 21 = true) (h : argsK (Env.full 9) 0 args fun env => evC Try.prog c114 ir114.body env σ (retQ ir114 Q)) : ACalls Try.prog 114 args σ Q :=
  acalls_of Try.func114 ok114 rfl (Nat.le_of_ble_eq_true hl) h
end Go.Proofs.Ytkdbmajkjlnpiab

