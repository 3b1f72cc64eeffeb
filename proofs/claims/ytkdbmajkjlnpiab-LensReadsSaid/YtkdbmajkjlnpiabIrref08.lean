/-
  The bodies of one package, compiled to the framework's language (printed by a program of this session).
-/
import Derived.Test.YtkdbmajkjlnpiabIr0
namespace Go.Proofs.Ytkdbmajkjlnpiab
set_option linter.unusedVariables false
set_option linter.unusedSimpArgs false
open Go Go.Am
/- bowlineref08.Write -/
def c64 : Cfg := ⟨qs, false, 61, []⟩
def ir64 : IFun := ⟨2, [.tmp s4, .tmp s5],
  (.seq (.reg (.one ⟨some s4, none, (.mv (.c (.slice 1 [] .full)))⟩
    (.one ⟨some s5, none, (.mv (.c (.v (.int .i64 0))))⟩
    .done)))
  (.seq (.seq (.reg (.one ⟨some s8, none, (.mv (.t s1))⟩
    (.one ⟨some s9, none, (.bin false .neq (.t s8) (.c (.v (.int .i64 11))))⟩
    (.one ⟨some s10, none, (.mv (.t s9))⟩
    (.one ⟨some s11, some (s10, true), (.mv (.t s1))⟩
    (.one ⟨some s12, some (s10, true), (.bin false .neq (.t s11) (.c (.v (.int .i64 15))))⟩
    (.one ⟨some s13, none, (.pick (.t s10) (.t s12) (.c (.v (.bool false))))⟩
    .done)))))))
  (.cond (.t s13) (.seq (.reg (.one ⟨some s4, none, (.mv (.c (.slice 1 [] .full)))⟩
    (.one ⟨some s5, none, (.mv (.c (.v (.int .i64 9))))⟩
    .done)))
  .ret) .skip))
  (.seq (.seq (.reg (.one ⟨some s14, none, (.mv (.t s0))⟩
    (.one ⟨some s15, none, (.len false (.t s14))⟩
    (.one ⟨some s16, none, (.bin false .eql (.t s15) (.c (.v (.int .i64 0))))⟩
    .done))))
  (.cond (.t s16) (.seq (.reg (.one ⟨some s4, none, (.mv (.c (.slice 1 [] .full)))⟩
    (.one ⟨some s5, none, (.mv (.c (.v (.int .i64 4))))⟩
    .done)))
  .ret) .skip))
  (.seq (.seq (.reg (.one ⟨some s17, none, (.mv (.t s0))⟩
    (.one ⟨some s18, none, (.len false (.t s17))⟩
    (.one ⟨some s19, none, (.bin false .gtr (.t s18) (.c (.v (.int .i64 23))))⟩
    .done))))
  (.cond (.t s19) (.seq (.reg (.one ⟨some s4, none, (.mv (.c (.slice 1 [] .full)))⟩
    (.one ⟨some s5, none, (.mv (.c (.v (.int .i64 2))))⟩
    .done)))
  .ret) .skip))
  (.seq (.reg (.one ⟨some s6, none, (.mv (.c (.slice 1 [] .full)))⟩
    .done))
  (.seq (.seq (.reg (.one ⟨some s7, none, (.mv (.c (.v (.int .i64 0))))⟩
    .done))
  (.block 0 (.loop (.seq (.seq (.reg (.one ⟨some s20, none, (.mv (.t s7))⟩
    (.one ⟨some s21, none, (.mv (.t s0))⟩
    (.one ⟨some s22, none, (.len false (.t s21))⟩
    (.one ⟨some s23, none, (.bin false .lss (.t s20) (.t s22))⟩
    .done)))))
  (.cond (.t s23) .skip (.exit 0)))
  (.seq (.block 1 (.seq (.seq (.reg (.one ⟨some s26, none, (.mv (.t s0))⟩
    (.one ⟨some s27, none, (.mv (.t s7))⟩
    (.one ⟨some s28, none, (.iaddr 1 (.t s26) (.t s27))⟩
    (.one ⟨some s29, none, (.load none (.t s28))⟩
    (.one ⟨some s30, none, (.bin false .lss (.t s29) (.c (.v (.int .i64 1))))⟩
    (.one ⟨some s31, none, (.mv (.t s30))⟩
    (.one ⟨some s32, some (s31, false), (.mv (.t s0))⟩
    (.one ⟨some s33, some (s31, false), (.mv (.t s7))⟩
    (.one ⟨some s34, some (s31, false), (.iaddr 1 (.t s32) (.t s33))⟩
    (.one ⟨some s35, some (s31, false), (.load none (.t s34))⟩
    (.one ⟨some s36, some (s31, false), (.mv (.t s1))⟩
    (.one ⟨some s37, some (s31, false), (.callq 107 [(.t s36)])⟩
    (.one ⟨some s38, some (s31, false), (.bin false .geq (.t s35) (.t s37))⟩
    (.one ⟨some s39, none, (.pick (.t s31) (.c (.v (.bool true))) (.t s38))⟩
    .done)))))))))))))))
  (.cond (.t s39) (.seq (.reg (.one ⟨some s4, none, (.mv (.c (.slice 1 [] .full)))⟩
    (.one ⟨some s5, none, (.mv (.c (.v (.int .i64 1))))⟩
    .done)))
  .ret) .skip))
  (.seq (.reg (.one ⟨some s40, none, (.mv (.t s6))⟩
    (.one ⟨some s41, none, (.mv (.t s7))⟩
    (.one ⟨some s42, none, (.bin false .add (.t s41) (.c (.v (.int .i64 1))))⟩
    (.one ⟨some s43, none, (.mv (.t s0))⟩
    (.one ⟨some s44, none, (.len false (.t s43))⟩
    (.one ⟨some s45, none, (.bin false .lss (.t s42) (.t s44))⟩
    (.one ⟨some s46, none, (.row 1 [(.t s45)])⟩
    (.one ⟨some s47, none, (.app 1 1 (.t s40) (.t s46))⟩
    (.one ⟨some s6, none, (.mv (.t s47))⟩
    .done))))))))))
  (.reg (.one ⟨some s49, none, (.mv (.t s6))⟩
    (.one ⟨some s50, none, (.mv (.t s0))⟩
    (.one ⟨some s51, none, (.mv (.t s7))⟩
    (.one ⟨some s52, none, (.iaddr 1 (.t s50) (.t s51))⟩
    (.one ⟨some s53, none, (.load none (.t s52))⟩
    (.one ⟨some s54, none, (.conv .u64 (.t s53))⟩
    (.one ⟨some s55, none, (.mv (.t s1))⟩
    (.one ⟨some s56, none, (.callq 96 [(.t s49), (.t s54), (.t s55)])⟩
    (.one ⟨some s48, none, (.mv (.t s56))⟩
    (.one ⟨some s57, none, (.ext (.t s48) 0)⟩
    (.one ⟨some s58, none, (.ext (.t s48) 1)⟩
    (.one ⟨some s6, none, (.mv (.t s57))⟩
    .done))))))))))))))))
  (.reg (.one ⟨some s24, none, (.mv (.t s7))⟩
    (.one ⟨some s25, none, (.bin false .add (.t s24) (.c (.v (.int .i64 1))))⟩
    (.one ⟨some s7, none, (.mv (.t s25))⟩
    .done)))))))))
  (.seq (.reg (.one ⟨some s59, none, (.mv (.t s6))⟩
    (.one ⟨some s60, none, (.callq 97 [(.t s59)])⟩
    (.one ⟨some s4, none, (.mv (.t s60))⟩
    (.one ⟨some s5, none, (.mv (.c (.v (.int .i64 0))))⟩
    .done)))))
  .ret)))))))⟩
theorem ok64 : compF Try.prog c64 Try.f64 = some ir64 := by kernel_rfl
theorem k_bowlineref08_Write {args : List AVal} {σ : AHeap} {Q : AVal → AHeap → Prop} (hl : Nat.ble args.length 61 = true) (h : argsK (Env.full 9) 0 args fun env => evC Try.prog c64 ir64.body env σ (retQ ir64 Q)) : ACalls Try.prog 64 args σ Q :=
  acalls_of Try.func64 ok64 rfl (Nat.le_of_ble_eq_true hl) h
/- bowlineref08.Size -/
def c66 : Cfg := ⟨qs, false, 30, []⟩
def ir66 : IFun := ⟨2, [.tmp s4],
  (.seq (.reg (.one ⟨some s4, none, (.mv (.c (.v (.int .i64 0))))⟩
    .done))
  (.seq (.seq (.reg (.one ⟨some s6, none, (.mv (.t s1))⟩
    (.one ⟨some s7, none, (.bin false .neq (.t s6) (.c (.v (.int .i64 11))))⟩
    (.one ⟨some s8, none, (.mv (.t s7))⟩
    (.one ⟨some s9, some (s8, true), (.mv (.t s1))⟩
    (.one ⟨some s10, some (s8, true), (.bin false .neq (.t s9) (.c (.v (.int .i64 15))))⟩
    (.one ⟨some s11, none, (.pick (.t s8) (.t s10) (.c (.v (.bool false))))⟩
    (.one ⟨some s12, none, (.mv (.t s11))⟩
    (.one ⟨some s13, some (s12, false), (.mv (.t s0))⟩
    (.one ⟨some s14, some (s12, false), (.bin false .lss (.t s13) (.c (.v (.int .i64 1))))⟩
    (.one ⟨some s15, none, (.pick (.t s12) (.c (.v (.bool true))) (.t s14))⟩
    (.one ⟨some s16, none, (.mv (.t s15))⟩
    (.one ⟨some s17, some (s16, false), (.mv (.t s0))⟩
    (.one ⟨some s18, some (s16, false), (.bin false .gtr (.t s17) (.c (.v (.int .i64 23))))⟩
    (.one ⟨some s19, none, (.pick (.t s16) (.c (.v (.bool true))) (.t s18))⟩
    .done)))))))))))))))
  (.cond (.t s19) (.seq (.reg (.one ⟨some s4, none, (.mv (.c (.v (.int .i64 0))))⟩
    .done))
  .ret) .skip))
  (.seq (.reg (.one ⟨some s5, none, (.mv (.c (.v (.int .i64 0))))⟩
    .done))
  (.seq (.block 0 (.loop (.seq (.seq (.reg (.one ⟨some s20, none, (.mv (.t s5))⟩
    (.one ⟨some s21, none, (.bin false .mul (.c (.v (.int .i64 8))) (.t s20))⟩
    (.one ⟨some s22, none, (.mv (.t s0))⟩
    (.one ⟨some s23, none, (.mv (.t s1))⟩
    (.one ⟨some s24, none, (.bin false .add (.t s23) (.c (.v (.int .i64 1))))⟩
    (.one ⟨some s25, none, (.bin false .mul (.t s22) (.t s24))⟩
    (.one ⟨some s26, none, (.bin false .lss (.t s21) (.t s25))⟩
    .done))))))))
  (.cond (.t s26) .skip (.exit 0)))
  (.block 1 (.reg (.one ⟨some s27, none, (.mv (.t s5))⟩
    (.one ⟨some s28, none, (.bin false .add (.t s27) (.c (.v (.int .i64 1))))⟩
    (.one ⟨some s5, none, (.mv (.t s28))⟩
    .done))))))))
  (.seq (.reg (.one ⟨some s29, none, (.mv (.t s5))⟩
    (.one ⟨some s4, none, (.mv (.t s29))⟩
    .done)))
  .ret)))))⟩
theorem ok66 : compF Try.prog c66 Try.f66 = some ir66 := by kernel_rfl
theorem k_bowlineref08_Size {args : List AVal} {σ : AHeap} {Q : AVal → AHeap → Prop} (hl : Nat.ble args.length 30 = true) (h : argsK (Env.full 9) 0 args fun env => evC Try.prog c66 ir66.body env σ (retQ ir66 Q)) : ACalls Try.prog 66 args σ Q :=
  acalls_of Try.func66 ok66 rfl (Nat.le_of_ble_eq_true hl) h
/- bowlineref08.Read -/
def c68 : Cfg := ⟨qs, false, 67, []⟩
def ir68 : IFun := ⟨2, [.tmp s4, .tmp s5, .tmp s6],
  (.seq (.reg (.one ⟨some s4, none, (.mv (.c (.slice 1 [] .full)))⟩
    (.one ⟨some s5, none, (.mv (.c (.v (.int .i64 0))))⟩
    (.one ⟨some s6, none, (.mv (.c (.v (.int .i64 0))))⟩
    .done))))
  (.seq (.seq (.reg (.one ⟨some s14, none, (.mv (.t s1))⟩
    (.one ⟨some s15, none, (.bin false .neq (.t s14) (.c (.v (.int .i64 11))))⟩
    (.one ⟨some s16, none, (.mv (.t s15))⟩
    (.one ⟨some s17, some (s16, true), (.mv (.t s1))⟩
    (.one ⟨some s18, some (s16, true), (.bin false .neq (.t s17) (.c (.v (.int .i64 15))))⟩
    (.one ⟨some s19, none, (.pick (.t s16) (.t s18) (.c (.v (.bool false))))⟩
    .done)))))))
  (.cond (.t s19) (.seq (.reg (.one ⟨some s4, none, (.mv (.c (.slice 1 [] .full)))⟩
    (.one ⟨some s5, none, (.mv (.c (.v (.int .i64 0))))⟩
    (.one ⟨some s6, none, (.mv (.c (.v (.int .i64 9))))⟩
    .done))))
  .ret) .skip))
  (.seq (.reg (.one ⟨some s20, none, (.mv (.t s0))⟩
    (.one ⟨some s21, none, (.callq 94 [(.t s20)])⟩
    (.one ⟨some s7, none, (.mv (.t s21))⟩
    .done))))
  (.seq (.reg (.one ⟨some s8, none, (.mv (.c (.slice 1 [] .full)))⟩
    .done))
  (.seq (.reg (.one ⟨some s9, none, (.mv (.c (.v (.int .i64 0))))⟩
    .done))
  (.seq (.block 0 (.loop (.block 1 (.seq (.seq (.reg (.one ⟨some s22, none, (.mv (.t s7))⟩
    (.one ⟨some s23, none, (.len false (.t s22))⟩
    (.one ⟨some s24, none, (.mv (.t s9))⟩
    (.one ⟨some s25, none, (.bin false .sub (.t s23) (.t s24))⟩
    (.one ⟨some s26, none, (.mv (.t s1))⟩
    (.one ⟨some s27, none, (.bin false .add (.t s26) (.c (.v (.int .i64 1))))⟩
    (.one ⟨some s28, none, (.bin false .lss (.t s25) (.t s27))⟩
    .done))))))))
  (.cond (.t s28) (.seq (.reg (.one ⟨some s4, none, (.mv (.c (.slice 1 [] .full)))⟩
    (.one ⟨some s5, none, (.mv (.c (.v (.int .i64 0))))⟩
    (.one ⟨some s6, none, (.mv (.c (.v (.int .i64 8))))⟩
    .done))))
  .ret) .skip))
  (.seq (.reg (.one ⟨some s30, none, (.mv (.t s7))⟩
    (.one ⟨some s31, none, (.mv (.t s9))⟩
    (.one ⟨some s32, none, (.bin false .add (.t s31) (.c (.v (.int .i64 1))))⟩
    (.one ⟨some s33, none, (.mv (.t s1))⟩
    (.one ⟨some s34, none, (.callq 95 [(.t s30), (.t s32), (.t s33)])⟩
    (.one ⟨some s29, none, (.mv (.t s34))⟩
    (.one ⟨some s35, none, (.ext (.t s29) 0)⟩
    (.one ⟨some s36, none, (.ext (.t s29) 1)⟩
    (.one ⟨some s37, none, (.ext (.t s29) 2)⟩
    (.one ⟨some s10, none, (.mv (.t s35))⟩
    (.one ⟨some s11, none, (.mv (.t s36))⟩
    (.one ⟨some s12, none, (.mv (.t s37))⟩
    .done)))))))))))))
  (.seq (.reg (.one ⟨some s38, none, (.mv (.t s7))⟩
    (.one ⟨some s39, none, (.mv (.t s9))⟩
    (.one ⟨some s40, none, (.iaddr 1 (.t s38) (.t s39))⟩
    (.one ⟨some s41, none, (.load none (.t s40))⟩
    (.one ⟨some s13, none, (.mv (.t s41))⟩
    .done))))))
  (.seq (.reg (.one ⟨some s42, none, (.mv (.t s11))⟩
    (.one ⟨some s9, none, (.mv (.t s42))⟩
    .done)))
  (.seq (.seq (.reg (.one ⟨some s43, none, (.mv (.t s10))⟩
    (.one ⟨some s44, none, (.bin false .eql (.t s43) (.c (.v (.int .u64 0))))⟩
    .done)))
  (.cond (.t s44) (.seq (.reg (.one ⟨some s4, none, (.mv (.c (.slice 1 [] .full)))⟩
    (.one ⟨some s5, none, (.mv (.c (.v (.int .i64 0))))⟩
    (.one ⟨some s6, none, (.mv (.c (.v (.int .i64 3))))⟩
    .done))))
  .ret) .skip))
  (.seq (.reg (.one ⟨some s45, none, (.mv (.t s8))⟩
    (.one ⟨some s46, none, (.mv (.t s10))⟩
    (.one ⟨some s47, none, (.conv .i64 (.t s46))⟩
    (.one ⟨some s48, none, (.row 1 [(.t s47)])⟩
    (.one ⟨some s49, none, (.app 1 8 (.t s45) (.t s48))⟩
    (.one ⟨some s8, none, (.mv (.t s49))⟩
    .done)))))))
  (.seq (.seq (.reg (.one ⟨some s50, none, (.mv (.t s13))⟩
    (.one ⟨some s51, none, (.not (.t s50))⟩
    .done)))
  (.cond (.t s51) (.exit 0) .skip))
  (.seq (.reg (.one ⟨some s52, none, (.mv (.t s8))⟩
    (.one ⟨some s53, none, (.len false (.t s52))⟩
    (.one ⟨some s54, none, (.bin false .eql (.t s53) (.c (.v (.int .i64 23))))⟩
    .done))))
  (.cond (.t s54) (.seq (.reg (.one ⟨some s4, none, (.mv (.c (.slice 1 [] .full)))⟩
    (.one ⟨some s5, none, (.mv (.c (.v (.int .i64 0))))⟩
    (.one ⟨some s6, none, (.mv (.c (.v (.int .i64 2))))⟩
    .done))))
  .ret) .skip))))))))))))
  (.seq (.block 2 (.loop (.seq (.seq (.reg (.one ⟨some s55, none, (.mv (.t s9))⟩
    (.one ⟨some s56, none, (.bin false .rem (.t s55) (.c (.v (.int .i64 8))))⟩
    (.one ⟨some s57, none, (.bin false .neq (.t s56) (.c (.v (.int .i64 0))))⟩
    .done))))
  (.cond (.t s57) .skip (.exit 2)))
  (.block 3 (.seq (.seq (.reg (.one ⟨some s58, none, (.mv (.t s7))⟩
    (.one ⟨some s59, none, (.mv (.t s9))⟩
    (.one ⟨some s60, none, (.iaddr 1 (.t s58) (.t s59))⟩
    (.one ⟨some s61, none, (.load none (.t s60))⟩
    .done)))))
  (.cond (.t s61) (.seq (.reg (.one ⟨some s4, none, (.mv (.c (.slice 1 [] .full)))⟩
    (.one ⟨some s5, none, (.mv (.c (.v (.int .i64 0))))⟩
    (.one ⟨some s6, none, (.mv (.c (.v (.int .i64 3))))⟩
    .done))))
  .ret) .skip))
  (.reg (.one ⟨some s62, none, (.mv (.t s9))⟩
    (.one ⟨some s63, none, (.bin false .add (.t s62) (.c (.v (.int .i64 1))))⟩
    (.one ⟨some s9, none, (.mv (.t s63))⟩
    .done)))))))))
  (.seq (.reg (.one ⟨some s64, none, (.mv (.t s8))⟩
    (.one ⟨some s65, none, (.mv (.t s9))⟩
    (.one ⟨some s66, none, (.bin false .quo (.t s65) (.c (.v (.int .i64 8))))⟩
    (.one ⟨some s4, none, (.mv (.t s64))⟩
    (.one ⟨some s5, none, (.mv (.t s66))⟩
    (.one ⟨some s6, none, (.mv (.c (.v (.int .i64 0))))⟩
    .done)))))))
  .ret))))))))⟩
theorem ok68 : compF Try.prog c68 Try.f68 = some ir68 := by kernel_rfl
theorem k_bowlineref08_Read {args : List AVal} {σ : AHeap} {Q : AVal → AHeap → Prop} (hl : Nat.ble args.length 67 = true) (h : argsK (Env.full 9) 0 args fun env => evC Try.prog c68 ir68.body env σ (retQ ir68 Q)) : ACalls Try.prog 68 args σ Q :=
  acalls_of Try.func68 ok68 rfl (Nat.le_of_ble_eq_true hl) h
/- bowlineref08.top -/
def c107 : Cfg := ⟨qs, false, 13, []⟩
def ir107 : IFun := ⟨1, [.tmp s2],
  (.seq (.reg (.one ⟨some s2, none, (.mv (.c (.v (.int .i64 0))))⟩
    .done))
  (.seq (.reg (.one ⟨some s3, none, (.mv (.c (.v (.int .i64 1))))⟩
    .done))
  (.seq (.seq (.reg (.one ⟨some s4, none, (.mv (.c (.v (.int .i64 0))))⟩
    .done))
  (.block 0 (.loop (.seq (.seq (.reg (.one ⟨some s5, none, (.mv (.t s4))⟩
    (.one ⟨some s6, none, (.mv (.t s0))⟩
    (.one ⟨some s7, none, (.bin false .lss (.t s5) (.t s6))⟩
    .done))))
  (.cond (.t s7) .skip (.exit 0)))
  (.seq (.block 1 (.reg (.one ⟨some s10, none, (.mv (.t s3))⟩
    (.one ⟨some s11, none, (.bin false .mul (.c (.v (.int .i64 2))) (.t s10))⟩
    (.one ⟨some s3, none, (.mv (.t s11))⟩
    .done)))))
  (.reg (.one ⟨some s8, none, (.mv (.t s4))⟩
    (.one ⟨some s9, none, (.bin false .add (.t s8) (.c (.v (.int .i64 1))))⟩
    (.one ⟨some s4, none, (.mv (.t s9))⟩
    .done)))))))))
  (.seq (.reg (.one ⟨some s12, none, (.mv (.t s3))⟩
    (.one ⟨some s2, none, (.mv (.t s12))⟩
    .done)))
  .ret))))⟩
theorem ok107 : compF Try.prog c107 Try.f107 = some ir107 := by kernel_rfl
theorem k_bowlineref08_top {args : List AVal} {σ : AHeap} {Q : AVal → AHeap → Prop} (hl : Nat.ble args.length 13 = true) (h : argsK (Env.full 9) 0 args fun env => evC Try.prog c107 ir107.body env σ (retQ ir107 Q)) : ACalls Try.prog 107 args σ Q :=
  acalls_of Try.func107 ok107 rfl (Nat.le_of_ble_eq_true hl) h
end Go.Proofs.Ytkdbmajkjlnpiab

