/-
  The bodies of one package, compiled to the framework's language (printed by a program of this session).
-/
import Derived.Test.YtndphnojmpeogaaIr0
namespace Go.Proofs.Ytndphnojmpeogaa
set_option linter.unusedVariables false
set_option linter.unusedSimpArgs false
open Go Go.Am
/- bowlineref30.Read -/
def c14 : Cfg := ⟨qs, false, 83, []⟩
def ir14 : IFun := ⟨1, [.tmp s2, .tmp s3],
  (.seq (.reg (.one ⟨some s2, none, (.mv (.c (.slice 2 [] .full)))⟩
    (.one ⟨some s3, none, (.mv (.c (.v (.int .i64 0))))⟩
    .done)))
  (.seq (.seq (.reg (.one ⟨some s9, none, (.mv (.t s0))⟩
    (.one ⟨some s10, none, (.len false (.t s9))⟩
    (.one ⟨some s11, none, (.bin false .gtr (.t s10) (.c (.v (.int .i64 4096))))⟩
    .done))))
  (.cond (.t s11) (.seq (.reg (.one ⟨some s2, none, (.mv (.c (.slice 2 [] .full)))⟩
    (.one ⟨some s3, none, (.mv (.c (.v (.int .i64 2))))⟩
    .done)))
  .ret) .skip))
  (.seq (.reg (.one ⟨some s13, none, (.mv (.t s0))⟩
    (.one ⟨some s14, none, (.callq 38 [(.t s13)])⟩
    (.one ⟨some s12, none, (.mv (.t s14))⟩
    (.one ⟨some s15, none, (.ext (.t s12) 0)⟩
    (.one ⟨some s16, none, (.ext (.t s12) 1)⟩
    (.one ⟨some s4, none, (.mv (.t s15))⟩
    (.one ⟨some s5, none, (.mv (.t s16))⟩
    .done))))))))
  (.seq (.seq (.reg (.one ⟨some s17, none, (.mv (.t s5))⟩
    (.one ⟨some s18, none, (.bin false .neq (.t s17) (.c (.v (.int .i64 0))))⟩
    .done)))
  (.cond (.t s18) (.seq (.reg (.one ⟨some s19, none, (.mv (.t s5))⟩
    (.one ⟨some s2, none, (.mv (.c (.slice 2 [] .full)))⟩
    (.one ⟨some s3, none, (.mv (.t s19))⟩
    .done))))
  .ret) .skip))
  (.seq (.reg (.one ⟨some s6, none, (.mv (.c (.slice 2 [] .full)))⟩
    .done))
  (.seq (.reg (.one ⟨some s7, none, (.mv (.c (.v (.int .i64 0))))⟩
    .done))
  (.seq (.block 0 (.loop (.seq (.seq (.reg (.one ⟨some s20, none, (.mv (.t s7))⟩
    (.one ⟨some s21, none, (.mv (.t s4))⟩
    (.one ⟨some s22, none, (.len false (.t s21))⟩
    (.one ⟨some s23, none, (.bin false .lss (.t s20) (.t s22))⟩
    .done)))))
  (.cond (.t s23) .skip (.exit 0)))
  (.block 1 (.seq (.seq (.reg (.one ⟨some s24, none, (.mv (.t s6))⟩
    (.one ⟨some s25, none, (.len false (.t s24))⟩
    (.one ⟨some s26, none, (.bin false .eql (.t s25) (.c (.v (.int .i64 16))))⟩
    .done))))
  (.cond (.t s26) (.seq (.reg (.one ⟨some s2, none, (.mv (.c (.slice 2 [] .full)))⟩
    (.one ⟨some s3, none, (.mv (.c (.v (.int .i64 2))))⟩
    .done)))
  .ret) .skip))
  (.seq (.seq (.reg (.one ⟨some s27, none, (.mv (.t s4))⟩
    (.one ⟨some s28, none, (.len false (.t s27))⟩
    (.one ⟨some s29, none, (.mv (.t s7))⟩
    (.one ⟨some s30, none, (.bin false .sub (.t s28) (.t s29))⟩
    (.one ⟨some s31, none, (.bin false .lss (.t s30) (.c (.v (.int .i64 2))))⟩
    .done))))))
  (.cond (.t s31) (.seq (.reg (.one ⟨some s2, none, (.mv (.c (.slice 2 [] .full)))⟩
    (.one ⟨some s3, none, (.mv (.c (.v (.int .i64 8))))⟩
    .done)))
  .ret) .skip))
  (.seq (.reg (.one ⟨some s32, none, (.mv (.t s4))⟩
    (.one ⟨some s33, none, (.mv (.t s7))⟩
    (.one ⟨some s34, none, (.iaddr 1 (.t s32) (.t s33))⟩
    (.one ⟨some s35, none, (.load none (.t s34))⟩
    (.one ⟨some s36, none, (.conv .i64 (.t s35))⟩
    (.one ⟨some s37, none, (.bin false .mul (.c (.v (.int .i64 256))) (.t s36))⟩
    (.one ⟨some s38, none, (.mv (.t s4))⟩
    (.one ⟨some s39, none, (.mv (.t s7))⟩
    (.one ⟨some s40, none, (.bin false .add (.t s39) (.c (.v (.int .i64 1))))⟩
    (.one ⟨some s41, none, (.iaddr 1 (.t s38) (.t s40))⟩
    (.one ⟨some s42, none, (.load none (.t s41))⟩
    (.one ⟨some s43, none, (.conv .i64 (.t s42))⟩
    (.one ⟨some s44, none, (.bin false .add (.t s37) (.t s43))⟩
    (.one ⟨some s8, none, (.mv (.t s44))⟩
    .done)))))))))))))))
  (.seq (.seq (.reg (.one ⟨some s45, none, (.mv (.t s8))⟩
    (.one ⟨some s46, none, (.bin false .quo (.t s45) (.c (.v (.int .i64 2048))))⟩
    (.one ⟨some s47, none, (.bin false .eql (.t s46) (.c (.v (.int .i64 0))))⟩
    (.one ⟨some s48, none, (.mv (.t s47))⟩
    (.one ⟨some s49, some (s48, false), (.mv (.t s8))⟩
    (.one ⟨some s50, some (s48, false), (.bin false .rem (.t s49) (.c (.v (.int .i64 2048))))⟩
    (.one ⟨some s51, some (s48, false), (.bin false .eql (.t s50) (.c (.v (.int .i64 0))))⟩
    (.one ⟨some s52, none, (.pick (.t s48) (.c (.v (.bool true))) (.t s51))⟩
    .done)))))))))
  (.cond (.t s52) (.seq (.reg (.one ⟨some s2, none, (.mv (.c (.slice 2 [] .full)))⟩
    (.one ⟨some s3, none, (.mv (.c (.v (.int .i64 3))))⟩
    .done)))
  .ret) .skip))
  (.seq (.seq (.reg (.one ⟨some s53, none, (.mv (.t s4))⟩
    (.one ⟨some s54, none, (.len false (.t s53))⟩
    (.one ⟨some s55, none, (.mv (.t s7))⟩
    (.one ⟨some s56, none, (.bin false .sub (.t s54) (.t s55))⟩
    (.one ⟨some s57, none, (.bin false .sub (.t s56) (.c (.v (.int .i64 2))))⟩
    (.one ⟨some s58, none, (.mv (.t s8))⟩
    (.one ⟨some s59, none, (.bin false .rem (.t s58) (.c (.v (.int .i64 2048))))⟩
    (.one ⟨some s60, none, (.bin false .lss (.t s57) (.t s59))⟩
    .done)))))))))
  (.cond (.t s60) (.seq (.reg (.one ⟨some s2, none, (.mv (.c (.slice 2 [] .full)))⟩
    (.one ⟨some s3, none, (.mv (.c (.v (.int .i64 8))))⟩
    .done)))
  .ret) .skip))
  (.seq (.reg (.one ⟨some s61, none, (.mv (.t s6))⟩
    (.one ⟨some s62, none, (.mv (.t s8))⟩
    (.one ⟨some s63, none, (.bin false .quo (.t s62) (.c (.v (.int .i64 2048))))⟩
    (.one ⟨some s64, none, (.mv (.t s4))⟩
    (.one ⟨some s65, none, (.mv (.t s7))⟩
    (.one ⟨some s66, none, (.bin false .add (.t s65) (.c (.v (.int .i64 2))))⟩
    (.one ⟨some s67, none, (.mv (.t s7))⟩
    (.one ⟨some s68, none, (.bin false .add (.t s67) (.c (.v (.int .i64 2))))⟩
    (.one ⟨some s69, none, (.mv (.t s8))⟩
    (.one ⟨some s70, none, (.bin false .rem (.t s69) (.c (.v (.int .i64 2048))))⟩
    (.one ⟨some s71, none, (.bin false .add (.t s68) (.t s70))⟩
    (.one ⟨some s72, none, (.cut 1 (.t s64) (some (.t s66)) (some (.t s71)) none)⟩
    (.one ⟨some s73, none, (.build [(.v (.int .i64 0)), (.slice 1 [] .full)] [(0, 1, (.t s63)), (1, 1, (.t s72))])⟩
    (.one ⟨some s74, none, (.row 2 [(.t s73)])⟩
    (.one ⟨some s75, none, (.app 2 32 (.t s61) (.t s74))⟩
    (.one ⟨some s6, none, (.mv (.t s75))⟩
    .done)))))))))))))))))
  (.reg (.one ⟨some s76, none, (.mv (.t s7))⟩
    (.one ⟨some s77, none, (.bin false .add (.t s76) (.c (.v (.int .i64 2))))⟩
    (.one ⟨some s78, none, (.mv (.t s8))⟩
    (.one ⟨some s79, none, (.bin false .rem (.t s78) (.c (.v (.int .i64 2048))))⟩
    (.one ⟨some s80, none, (.bin false .add (.t s77) (.t s79))⟩
    (.one ⟨some s7, none, (.mv (.t s80))⟩
    .done)))))))))))))))))
  (.seq (.reg (.one ⟨some s81, none, (.mv (.t s6))⟩
    (.one ⟨some s82, none, (.mv (.t s5))⟩
    (.one ⟨some s2, none, (.mv (.t s81))⟩
    (.one ⟨some s3, none, (.mv (.t s82))⟩
    .done)))))
  .ret))))))))⟩
theorem ok14 : compF Try.prog c14 Try.f14 = some ir14 := by kernel_rfl
theorem k_bowlineref30_Read {args : List AVal} {σ : AHeap} {Q : AVal → AHeap → Prop} (hl : Nat.ble args.length 83 = true) (h : argsK (Env.full 9) 0 args fun env => evC Try.prog c14 ir14.body env σ (retQ ir14 Q)) : ACalls Try.prog 14 args σ Q :=
  acalls_of Try.func14 ok14 rfl (Nat.le_of_ble_eq_true hl) h
/- bowlineref30.Same -/
def c15 : Cfg := ⟨qs, false, 43, []⟩
def ir15 : IFun := ⟨2, [.tmp s4],
  (.seq (.reg (.one ⟨some s4, none, (.mv (.c (.v (.bool false))))⟩
    .done))
  (.seq (.seq (.reg (.one ⟨some s6, none, (.mv (.t s0))⟩
    (.one ⟨some s7, none, (.len false (.t s6))⟩
    (.one ⟨some s8, none, (.mv (.t s1))⟩
    (.one ⟨some s9, none, (.len false (.t s8))⟩
    (.one ⟨some s10, none, (.bin false .neq (.t s7) (.t s9))⟩
    .done))))))
  (.cond (.t s10) (.seq (.reg (.one ⟨some s4, none, (.mv (.c (.v (.bool false))))⟩
    .done))
  .ret) .skip))
  (.seq (.seq (.reg (.one ⟨some s5, none, (.mv (.c (.v (.int .i64 0))))⟩
    .done))
  (.block 0 (.loop (.seq (.seq (.reg (.one ⟨some s11, none, (.mv (.t s5))⟩
    (.one ⟨some s12, none, (.mv (.t s0))⟩
    (.one ⟨some s13, none, (.len false (.t s12))⟩
    (.one ⟨some s14, none, (.bin false .lss (.t s11) (.t s13))⟩
    .done)))))
  (.cond (.t s14) .skip (.exit 0)))
  (.seq (.block 1 (.seq (.reg (.one ⟨some s17, none, (.mv (.t s0))⟩
    (.one ⟨some s18, none, (.mv (.t s5))⟩
    (.one ⟨some s19, none, (.iaddr 2 (.t s17) (.t s18))⟩
    (.one ⟨some s20, none, (.faddr 0 (.t s19))⟩
    (.one ⟨some s21, none, (.load none (.t s20))⟩
    (.one ⟨some s22, none, (.mv (.t s1))⟩
    (.one ⟨some s23, none, (.mv (.t s5))⟩
    (.one ⟨some s24, none, (.iaddr 2 (.t s22) (.t s23))⟩
    (.one ⟨some s25, none, (.faddr 0 (.t s24))⟩
    (.one ⟨some s26, none, (.load none (.t s25))⟩
    (.one ⟨some s27, none, (.bin false .neq (.t s21) (.t s26))⟩
    (.one ⟨some s28, none, (.mv (.t s27))⟩
    (.one ⟨some s29, some (s28, false), (.mv (.t s0))⟩
    (.one ⟨some s30, some (s28, false), (.mv (.t s5))⟩
    (.one ⟨some s31, some (s28, false), (.iaddr 2 (.t s29) (.t s30))⟩
    (.one ⟨some s32, some (s28, false), (.faddr 1 (.t s31))⟩
    (.one ⟨some s33, some (s28, false), (.load none (.t s32))⟩
    (.one ⟨some s34, some (s28, false), (.b2s (.t s33))⟩
    (.one ⟨some s35, some (s28, false), (.mv (.t s1))⟩
    (.one ⟨some s36, some (s28, false), (.mv (.t s5))⟩
    (.one ⟨some s37, some (s28, false), (.iaddr 2 (.t s35) (.t s36))⟩
    (.one ⟨some s38, some (s28, false), (.faddr 1 (.t s37))⟩
    (.one ⟨some s39, some (s28, false), (.load none (.t s38))⟩
    (.one ⟨some s40, some (s28, false), (.b2s (.t s39))⟩
    (.one ⟨some s41, some (s28, false), (.bin false .neq (.t s34) (.t s40))⟩
    (.one ⟨some s42, none, (.pick (.t s28) (.c (.v (.bool true))) (.t s41))⟩
    .done)))))))))))))))))))))))))))
  (.cond (.t s42) (.seq (.reg (.one ⟨some s4, none, (.mv (.c (.v (.bool false))))⟩
    .done))
  .ret) .skip)))
  (.reg (.one ⟨some s15, none, (.mv (.t s5))⟩
    (.one ⟨some s16, none, (.bin false .add (.t s15) (.c (.v (.int .i64 1))))⟩
    (.one ⟨some s5, none, (.mv (.t s16))⟩
    .done)))))))))
  (.seq (.reg (.one ⟨some s4, none, (.mv (.c (.v (.bool true))))⟩
    .done))
  .ret))))⟩
theorem ok15 : compF Try.prog c15 Try.f15 = some ir15 := by kernel_rfl
theorem k_bowlineref30_Same {args : List AVal} {σ : AHeap} {Q : AVal → AHeap → Prop} (hl : Nat.ble args.length 43 = true) (h : argsK (Env.full 9) 0 args fun env => evC Try.prog c15 ir15.body env σ (retQ ir15 Q)) : ACalls Try.prog 15 args σ Q :=
  acalls_of Try.func15 ok15 rfl (Nat.le_of_ble_eq_true hl) h
/- bowlineref30.Write -/
def c25 : Cfg := ⟨qs, false, 89, []⟩
def ir25 : IFun := ⟨1, [.tmp s2, .tmp s3],
  (.seq (.reg (.one ⟨some s2, none, (.mv (.c (.slice 1 [] .full)))⟩
    (.one ⟨some s3, none, (.mv (.c (.v (.int .i64 0))))⟩
    .done)))
  (.seq (.seq (.reg (.one ⟨some s4, none, (.mv (.c (.v (.int .i64 0))))⟩
    .done))
  (.block 0 (.loop (.seq (.seq (.reg (.one ⟨some s8, none, (.mv (.t s4))⟩
    (.one ⟨some s9, none, (.mv (.t s0))⟩
    (.one ⟨some s10, none, (.len false (.t s9))⟩
    (.one ⟨some s11, none, (.bin false .lss (.t s8) (.t s10))⟩
    .done)))))
  (.cond (.t s11) .skip (.exit 0)))
  (.seq (.block 1 (.seq (.reg (.one ⟨some s14, none, (.mv (.t s0))⟩
    (.one ⟨some s15, none, (.mv (.t s4))⟩
    (.one ⟨some s16, none, (.iaddr 2 (.t s14) (.t s15))⟩
    (.one ⟨some s17, none, (.faddr 0 (.t s16))⟩
    (.one ⟨some s18, none, (.load none (.t s17))⟩
    (.one ⟨some s19, none, (.bin false .lss (.t s18) (.c (.v (.int .i64 1))))⟩
    (.one ⟨some s20, none, (.mv (.t s19))⟩
    (.one ⟨some s21, some (s20, false), (.mv (.t s0))⟩
    (.one ⟨some s22, some (s20, false), (.mv (.t s4))⟩
    (.one ⟨some s23, some (s20, false), (.iaddr 2 (.t s21) (.t s22))⟩
    (.one ⟨some s24, some (s20, false), (.faddr 0 (.t s23))⟩
    (.one ⟨some s25, some (s20, false), (.load none (.t s24))⟩
    (.one ⟨some s26, some (s20, false), (.bin false .gtr (.t s25) (.c (.v (.int .i64 31))))⟩
    (.one ⟨some s27, none, (.pick (.t s20) (.c (.v (.bool true))) (.t s26))⟩
    (.one ⟨some s28, none, (.mv (.t s27))⟩
    (.one ⟨some s29, some (s28, false), (.mv (.t s0))⟩
    (.one ⟨some s30, some (s28, false), (.mv (.t s4))⟩
    (.one ⟨some s31, some (s28, false), (.iaddr 2 (.t s29) (.t s30))⟩
    (.one ⟨some s32, some (s28, false), (.faddr 1 (.t s31))⟩
    (.one ⟨some s33, some (s28, false), (.load none (.t s32))⟩
    (.one ⟨some s34, some (s28, false), (.len false (.t s33))⟩
    (.one ⟨some s35, some (s28, false), (.bin false .lss (.t s34) (.c (.v (.int .i64 1))))⟩
    (.one ⟨some s36, none, (.pick (.t s28) (.c (.v (.bool true))) (.t s35))⟩
    (.one ⟨some s37, none, (.mv (.t s36))⟩
    (.one ⟨some s38, some (s37, false), (.mv (.t s0))⟩
    (.one ⟨some s39, some (s37, false), (.mv (.t s4))⟩
    (.one ⟨some s40, some (s37, false), (.iaddr 2 (.t s38) (.t s39))⟩
    (.one ⟨some s41, some (s37, false), (.faddr 1 (.t s40))⟩
    (.one ⟨some s42, some (s37, false), (.load none (.t s41))⟩
    (.one ⟨some s43, some (s37, false), (.len false (.t s42))⟩
    (.one ⟨some s44, some (s37, false), (.bin false .gtr (.t s43) (.c (.v (.int .i64 2047))))⟩
    (.one ⟨some s45, none, (.pick (.t s37) (.c (.v (.bool true))) (.t s44))⟩
    .done)))))))))))))))))))))))))))))))))
  (.cond (.t s45) (.seq (.reg (.one ⟨some s2, none, (.mv (.c (.slice 1 [] .full)))⟩
    (.one ⟨some s3, none, (.mv (.c (.v (.int .i64 3))))⟩
    .done)))
  .ret) .skip)))
  (.reg (.one ⟨some s12, none, (.mv (.t s4))⟩
    (.one ⟨some s13, none, (.bin false .add (.t s12) (.c (.v (.int .i64 1))))⟩
    (.one ⟨some s4, none, (.mv (.t s13))⟩
    .done)))))))))
  (.seq (.seq (.reg (.one ⟨some s46, none, (.mv (.t s0))⟩
    (.one ⟨some s47, none, (.len false (.t s46))⟩
    (.one ⟨some s48, none, (.bin false .gtr (.t s47) (.c (.v (.int .i64 16))))⟩
    .done))))
  (.cond (.t s48) (.seq (.reg (.one ⟨some s2, none, (.mv (.c (.slice 1 [] .full)))⟩
    (.one ⟨some s3, none, (.mv (.c (.v (.int .i64 2))))⟩
    .done)))
  .ret) .skip))
  (.seq (.reg (.one ⟨some s5, none, (.mv (.c (.slice 1 [] .full)))⟩
    .done))
  (.seq (.seq (.reg (.one ⟨some s6, none, (.mv (.c (.v (.int .i64 0))))⟩
    .done))
  (.block 2 (.loop (.seq (.seq (.reg (.one ⟨some s49, none, (.mv (.t s6))⟩
    (.one ⟨some s50, none, (.mv (.t s0))⟩
    (.one ⟨some s51, none, (.len false (.t s50))⟩
    (.one ⟨some s52, none, (.bin false .lss (.t s49) (.t s51))⟩
    .done)))))
  (.cond (.t s52) .skip (.exit 2)))
  (.seq (.block 3 (.seq (.reg (.one ⟨some s55, none, (.mv (.t s0))⟩
    (.one ⟨some s56, none, (.mv (.t s6))⟩
    (.one ⟨some s57, none, (.iaddr 2 (.t s55) (.t s56))⟩
    (.one ⟨some s58, none, (.faddr 0 (.t s57))⟩
    (.one ⟨some s59, none, (.load none (.t s58))⟩
    (.one ⟨some s60, none, (.bin false .mul (.c (.v (.int .i64 2048))) (.t s59))⟩
    (.one ⟨some s61, none, (.mv (.t s0))⟩
    (.one ⟨some s62, none, (.mv (.t s6))⟩
    (.one ⟨some s63, none, (.iaddr 2 (.t s61) (.t s62))⟩
    (.one ⟨some s64, none, (.faddr 1 (.t s63))⟩
    (.one ⟨some s65, none, (.load none (.t s64))⟩
    (.one ⟨some s66, none, (.len false (.t s65))⟩
    (.one ⟨some s67, none, (.bin false .add (.t s60) (.t s66))⟩
    (.one ⟨some s7, none, (.mv (.t s67))⟩
    .done)))))))))))))))
  (.seq (.reg (.one ⟨some s68, none, (.mv (.t s5))⟩
    (.one ⟨some s69, none, (.mv (.t s7))⟩
    (.one ⟨some s70, none, (.bin false .quo (.t s69) (.c (.v (.int .i64 256))))⟩
    (.one ⟨some s71, none, (.conv .u8 (.t s70))⟩
    (.one ⟨some s72, none, (.mv (.t s7))⟩
    (.one ⟨some s73, none, (.bin false .rem (.t s72) (.c (.v (.int .i64 256))))⟩
    (.one ⟨some s74, none, (.conv .u8 (.t s73))⟩
    (.one ⟨some s75, none, (.row 1 [(.t s71), (.t s74)])⟩
    (.one ⟨some s76, none, (.app 1 1 (.t s68) (.t s75))⟩
    (.one ⟨some s5, none, (.mv (.t s76))⟩
    .done)))))))))))
  (.reg (.one ⟨some s77, none, (.mv (.t s5))⟩
    (.one ⟨some s78, none, (.mv (.t s0))⟩
    (.one ⟨some s79, none, (.mv (.t s6))⟩
    (.one ⟨some s80, none, (.iaddr 2 (.t s78) (.t s79))⟩
    (.one ⟨some s81, none, (.faddr 1 (.t s80))⟩
    (.one ⟨some s82, none, (.load none (.t s81))⟩
    (.one ⟨some s83, none, (.app 1 1 (.t s77) (.t s82))⟩
    (.one ⟨some s5, none, (.mv (.t s83))⟩
    .done))))))))))))
  (.reg (.one ⟨some s53, none, (.mv (.t s6))⟩
    (.one ⟨some s54, none, (.bin false .add (.t s53) (.c (.v (.int .i64 1))))⟩
    (.one ⟨some s6, none, (.mv (.t s54))⟩
    .done)))))))))
  (.seq (.seq (.reg (.one ⟨some s84, none, (.mv (.t s5))⟩
    (.one ⟨some s85, none, (.len false (.t s84))⟩
    (.one ⟨some s86, none, (.bin false .gtr (.t s85) (.c (.v (.int .i64 4094))))⟩
    .done))))
  (.cond (.t s86) (.seq (.reg (.one ⟨some s2, none, (.mv (.c (.slice 1 [] .full)))⟩
    (.one ⟨some s3, none, (.mv (.c (.v (.int .i64 2))))⟩
    .done)))
  .ret) .skip))
  (.seq (.reg (.one ⟨some s87, none, (.mv (.t s5))⟩
    (.one ⟨some s88, none, (.callq 53 [(.t s87)])⟩
    (.one ⟨some s2, none, (.mv (.t s88))⟩
    (.one ⟨some s3, none, (.mv (.c (.v (.int .i64 0))))⟩
    .done)))))
  .ret)))))))⟩
theorem ok25 : compF Try.prog c25 Try.f25 = some ir25 := by kernel_rfl
theorem k_bowlineref30_Write {args : List AVal} {σ : AHeap} {Q : AVal → AHeap → Prop} (hl : Nat.ble args.length 89 = true) (h : argsK (Env.full 9) 0 args fun env => evC Try.prog c25 ir25.body env σ (retQ ir25 Q)) : ACalls Try.prog 25 args σ Q :=
  acalls_of Try.func25 ok25 rfl (Nat.le_of_ble_eq_true hl) h
end Go.Proofs.Ytndphnojmpeogaa

