/-
  The bodies of one package, compiled to the framework's language (printed by a program of this session).
-/
import Derived.Test.YtndphnojmpeogaaIr0
namespace Go.Proofs.Ytndphnojmpeogaa
set_option linter.unusedVariables false
set_option linter.unusedSimpArgs false
open Go Go.Am
/- bowlinelaw30.MuxReads -/
def c3 : Cfg := ⟨qs, false, 33, []⟩
def ir3 : IFun := ⟨1, [.tmp s2],
  (.seq (.reg (.one ⟨some s2, none, (.mv (.c (.v (.bool false))))⟩
    .done))
  (.seq (.seq (.reg (.one ⟨some s7, none, (.mv (.t s0))⟩
    (.one ⟨some s8, none, (.len false (.t s7))⟩
    (.one ⟨some s9, none, (.bin false .gtr (.t s8) (.c (.v (.int .i64 4200))))⟩
    .done))))
  (.cond (.t s9) (.seq (.reg (.one ⟨some s10, none, (.callq 12 [])⟩
    (.one ⟨some s2, none, (.mv (.t s10))⟩
    .done)))
  .ret) .skip))
  (.seq (.reg (.one ⟨some s12, none, (.mv (.t s0))⟩
    (.one ⟨some s13, none, (.callq 13 [(.t s12)])⟩
    (.one ⟨some s11, none, (.mv (.t s13))⟩
    (.one ⟨some s14, none, (.ext (.t s11) 0)⟩
    (.one ⟨some s15, none, (.ext (.t s11) 1)⟩
    (.one ⟨some s3, none, (.mv (.t s14))⟩
    (.one ⟨some s4, none, (.mv (.t s15))⟩
    .done))))))))
  (.seq (.reg (.one ⟨some s17, none, (.mv (.t s0))⟩
    (.one ⟨some s18, none, (.callq 14 [(.t s17)])⟩
    (.one ⟨some s16, none, (.mv (.t s18))⟩
    (.one ⟨some s19, none, (.ext (.t s16) 0)⟩
    (.one ⟨some s20, none, (.ext (.t s16) 1)⟩
    (.one ⟨some s5, none, (.mv (.t s19))⟩
    (.one ⟨some s6, none, (.mv (.t s20))⟩
    .done))))))))
  (.seq (.reg (.one ⟨some s21, none, (.callq 12 [])⟩
    (.one ⟨some s22, none, (.mv (.t s21))⟩
    (.one ⟨some s23, some (s22, true), (.mv (.t s3))⟩
    (.one ⟨some s24, some (s22, true), (.callq 16 [(.t s23)])⟩
    (.one ⟨some s25, some (s22, true), (.mv (.t s5))⟩
    (.one ⟨some s26, some (s22, true), (.callq 15 [(.t s24), (.t s25)])⟩
    (.one ⟨some s27, none, (.pick (.t s22) (.t s26) (.c (.v (.bool false))))⟩
    (.one ⟨some s28, none, (.mv (.t s27))⟩
    (.one ⟨some s29, some (s28, true), (.mv (.t s4))⟩
    (.one ⟨some s30, some (s28, true), (.mv (.t s6))⟩
    (.one ⟨some s31, some (s28, true), (.bin false .eql (.t s29) (.t s30))⟩
    (.one ⟨some s32, none, (.pick (.t s28) (.t s31) (.c (.v (.bool false))))⟩
    (.one ⟨some s2, none, (.mv (.t s32))⟩
    .done))))))))))))))
  .ret)))))⟩
theorem ok3 : compF Try.prog c3 Try.f3 = some ir3 := by kernel_rfl
theorem k_bowlinelaw30_MuxReads {args : List AVal} {σ : AHeap} {Q : AVal → AHeap → Prop} (hl : Nat.ble args.length 33 = true) (h : argsK (Env.full 9) 0 args fun env => evC Try.prog c3 ir3.body env σ (retQ ir3 Q)) : ACalls Try.prog 3 args σ Q :=
  acalls_of Try.func3 ok3 rfl (Nat.le_of_ble_eq_true hl) h
/- bowlinelaw30.MuxTurned -/
def c4 : Cfg := ⟨[], false, 89, []⟩
def ir4 : IFun := ⟨3, [.tmp s6],
  (.seq (.reg (.one ⟨some s6, none, (.mv (.c (.v (.bool false))))⟩
    .done))
  (.seq (.seq (.reg (.one ⟨some s12, none, (.mv (.t s0))⟩
    (.one ⟨some s13, none, (.call 17 [(.t s12)])⟩
    (.one ⟨some s14, none, (.mv (.t s13))⟩
    (.one ⟨some s15, some (s14, false), (.mv (.t s2))⟩
    (.one ⟨some s16, some (s14, false), (.bin false .eql (.t s15) (.c (.v (.int .u16 0))))⟩
    (.one ⟨some s17, none, (.pick (.t s14) (.c (.v (.bool true))) (.t s16))⟩
    .done)))))))
  (.cond (.t s17) (.seq (.reg (.one ⟨some s18, none, (.call 12 [])⟩
    (.one ⟨some s6, none, (.mv (.t s18))⟩
    .done)))
  .ret) .skip))
  (.seq (.reg (.one ⟨some s20, none, (.mv (.t s0))⟩
    (.one ⟨some s21, none, (.call 18 [(.t s20)])⟩
    (.one ⟨some s19, none, (.mv (.t s21))⟩
    (.one ⟨some s22, none, (.ext (.t s19) 0)⟩
    (.one ⟨some s23, none, (.ext (.t s19) 1)⟩
    (.one ⟨some s7, none, (.mv (.t s22))⟩
    (.one ⟨some s8, none, (.mv (.t s23))⟩
    .done))))))))
  (.seq (.seq (.reg (.one ⟨some s24, none, (.mv (.t s8))⟩
    (.one ⟨some s25, none, (.bin false .eql (.t s24) (.c (.v (.int .i64 0))))⟩
    (.one ⟨some s26, none, (.mv (.t s25))⟩
    (.one ⟨some s27, some (s26, true), (.mv (.t s7))⟩
    (.one ⟨some s28, some (s26, true), (.len false (.t s27))⟩
    (.one ⟨some s29, some (s26, true), (.bin false .lss (.t s28) (.c (.v (.int .i64 2))))⟩
    (.one ⟨some s30, none, (.pick (.t s26) (.t s29) (.c (.v (.bool false))))⟩
    .done))))))))
  (.cond (.t s30) (.seq (.reg (.one ⟨some s6, none, (.mv (.c (.v (.bool false))))⟩
    .done))
  .ret) .skip))
  (.seq (.seq (.reg (.one ⟨some s31, none, (.mv (.t s8))⟩
    (.one ⟨some s32, none, (.bin false .neq (.t s31) (.c (.v (.int .i64 0))))⟩
    (.one ⟨some s33, none, (.mv (.t s32))⟩
    (.one ⟨some s34, some (s33, false), (.mv (.t s1))⟩
    (.one ⟨some s35, some (s33, false), (.bin false .lss (.t s34) (.c (.v (.int .i64 0))))⟩
    (.one ⟨some s36, none, (.pick (.t s33) (.c (.v (.bool true))) (.t s35))⟩
    (.one ⟨some s37, none, (.mv (.t s36))⟩
    (.one ⟨some s38, some (s37, false), (.mv (.t s1))⟩
    (.one ⟨some s39, some (s37, false), (.mv (.t s7))⟩
    (.one ⟨some s40, some (s37, false), (.len false (.t s39))⟩
    (.one ⟨some s41, some (s37, false), (.bin false .mul (.c (.v (.int .i64 8))) (.t s40))⟩
    (.one ⟨some s42, some (s37, false), (.bin false .sub (.t s41) (.c (.v (.int .i64 16))))⟩
    (.one ⟨some s43, some (s37, false), (.bin false .gtr (.t s38) (.t s42))⟩
    (.one ⟨some s44, none, (.pick (.t s37) (.c (.v (.bool true))) (.t s43))⟩
    .done)))))))))))))))
  (.cond (.t s44) (.seq (.reg (.one ⟨some s45, none, (.call 12 [])⟩
    (.one ⟨some s6, none, (.mv (.t s45))⟩
    .done)))
  .ret) .skip))
  (.seq (.seq (.reg (.one ⟨some s9, none, (.mv (.c (.v (.int .i64 0))))⟩
    .done))
  (.block 0 (.loop (.seq (.seq (.reg (.one ⟨some s46, none, (.mv (.t s9))⟩
    (.one ⟨some s47, none, (.bin false .lss (.t s46) (.c (.v (.int .i64 16))))⟩
    .done)))
  (.cond (.t s47) .skip (.exit 0)))
  (.seq (.block 1 (.seq (.reg (.one ⟨some s50, none, (.mv (.t s2))⟩
    (.one ⟨some s51, none, (.mv (.t s9))⟩
    (.one ⟨some s52, none, (.bin false .shr (.t s50) (.t s51))⟩
    (.one ⟨some s53, none, (.bin false .and (.t s52) (.c (.v (.int .u16 1))))⟩
    (.one ⟨some s54, none, (.bin false .eql (.t s53) (.c (.v (.int .u16 1))))⟩
    .done))))))
  (.cond (.t s54) (.reg (.one ⟨some s55, none, (.mv (.t s7))⟩
    (.one ⟨some s56, none, (.mv (.t s1))⟩
    (.one ⟨some s57, none, (.mv (.t s9))⟩
    (.one ⟨some s58, none, (.bin false .add (.t s56) (.t s57))⟩
    (.one ⟨some s59, none, (.bin false .quo (.t s58) (.c (.v (.int .i64 8))))⟩
    (.one ⟨some s60, none, (.mv (.t s7))⟩
    (.one ⟨some s61, none, (.mv (.t s1))⟩
    (.one ⟨some s62, none, (.mv (.t s9))⟩
    (.one ⟨some s63, none, (.bin false .add (.t s61) (.t s62))⟩
    (.one ⟨some s64, none, (.bin false .quo (.t s63) (.c (.v (.int .i64 8))))⟩
    (.one ⟨some s65, none, (.iaddr 1 (.t s60) (.t s64))⟩
    (.one ⟨some s66, none, (.load none (.t s65))⟩
    (.one ⟨some s67, none, (.mv (.t s1))⟩
    (.one ⟨some s68, none, (.mv (.t s9))⟩
    (.one ⟨some s69, none, (.bin false .add (.t s67) (.t s68))⟩
    (.one ⟨some s70, none, (.bin false .rem (.t s69) (.c (.v (.int .i64 8))))⟩
    (.one ⟨some s71, none, (.bin false .shr (.c (.v (.int .u8 128))) (.t s70))⟩
    (.one ⟨some s72, none, (.bin false .xor (.t s66) (.t s71))⟩
    (.one ⟨some s73, none, (.iaddr 1 (.t s55) (.t s59))⟩
    (.one ⟨none, none, (.store 1 (.t s73) (.t s72))⟩
    .done))))))))))))))))))))) .skip)))
  (.reg (.one ⟨some s48, none, (.mv (.t s9))⟩
    (.one ⟨some s49, none, (.bin false .add (.t s48) (.c (.v (.int .i64 1))))⟩
    (.one ⟨some s9, none, (.mv (.t s49))⟩
    .done)))))))))
  (.seq (.reg (.one ⟨some s75, none, (.mv (.t s7))⟩
    (.one ⟨some s76, none, (.call 13 [(.t s75)])⟩
    (.one ⟨some s74, none, (.mv (.t s76))⟩
    (.one ⟨some s77, none, (.ext (.t s74) 0)⟩
    (.one ⟨some s78, none, (.ext (.t s74) 1)⟩
    (.one ⟨some s10, none, (.mv (.t s77))⟩
    (.one ⟨some s11, none, (.mv (.t s78))⟩
    .done))))))))
  (.seq (.reg (.one ⟨some s79, none, (.call 12 [])⟩
    (.one ⟨some s80, none, (.mv (.t s79))⟩
    (.one ⟨some s81, some (s80, true), (.mv (.t s11))⟩
    (.one ⟨some s82, some (s80, true), (.bin false .eql (.t s81) (.c (.v (.int .i64 13))))⟩
    (.one ⟨some s83, none, (.pick (.t s80) (.t s82) (.c (.v (.bool false))))⟩
    (.one ⟨some s84, none, (.mv (.t s83))⟩
    (.one ⟨some s85, some (s84, true), (.mv (.t s10))⟩
    (.one ⟨some s86, some (s84, true), (.len false (.t s85))⟩
    (.one ⟨some s87, some (s84, true), (.bin false .eql (.t s86) (.c (.v (.int .i64 0))))⟩
    (.one ⟨some s88, none, (.pick (.t s84) (.t s87) (.c (.v (.bool false))))⟩
    (.one ⟨some s6, none, (.mv (.t s88))⟩
    .done))))))))))))
  .ret))))))))⟩
theorem ok4 : compF Try.prog c4 Try.f4 = some ir4 := by kernel_rfl
theorem k_bowlinelaw30_MuxTurned {args : List AVal} {σ : AHeap} {Q : AVal → AHeap → Prop} (hl : Nat.ble args.length 89 = true) (h : argsK (Env.full 9) 0 args fun env => evC Try.prog c4 ir4.body env σ (retQ ir4 Q)) : ACalls Try.prog 4 args σ Q :=
  acalls_of Try.func4 ok4 rfl (Nat.le_of_ble_eq_true hl) h
/- bowlinelaw30.MuxBack -/
def c5 : Cfg := ⟨qs, false, 76, []⟩
def ir5 : IFun := ⟨2, [.tmp s4],
  (.seq (.reg (.one ⟨some s4, none, (.mv (.c (.v (.bool false))))⟩
    .done))
  (.seq (.seq (.reg (.one ⟨some s13, none, (.mv (.t s0))⟩
    (.one ⟨some s14, none, (.callq 17 [(.t s13)])⟩
    (.one ⟨some s15, none, (.mv (.t s14))⟩
    (.one ⟨some s16, some (s15, false), (.mv (.t s1))⟩
    (.one ⟨some s17, some (s15, false), (.len false (.t s16))⟩
    (.one ⟨some s18, some (s15, false), (.bin false .gtr (.t s17) (.c (.v (.int .i64 4200))))⟩
    (.one ⟨some s19, none, (.pick (.t s15) (.c (.v (.bool true))) (.t s18))⟩
    .done))))))))
  (.cond (.t s19) (.seq (.reg (.one ⟨some s20, none, (.callq 12 [])⟩
    (.one ⟨some s4, none, (.mv (.t s20))⟩
    .done)))
  .ret) .skip))
  (.seq (.reg (.one ⟨some s22, none, (.mv (.t s0))⟩
    (.one ⟨some s23, none, (.callq 18 [(.t s22)])⟩
    (.one ⟨some s21, none, (.mv (.t s23))⟩
    (.one ⟨some s24, none, (.ext (.t s21) 0)⟩
    (.one ⟨some s25, none, (.ext (.t s21) 1)⟩
    (.one ⟨some s5, none, (.mv (.t s24))⟩
    (.one ⟨some s6, none, (.mv (.t s25))⟩
    .done))))))))
  (.seq (.seq (.reg (.one ⟨some s26, none, (.mv (.t s6))⟩
    (.one ⟨some s27, none, (.bin false .eql (.t s26) (.c (.v (.int .i64 0))))⟩
    .done)))
  (.cond (.t s27) (.seq (.reg (.one ⟨some s29, none, (.mv (.t s5))⟩
    (.one ⟨some s30, none, (.callq 13 [(.t s29)])⟩
    (.one ⟨some s28, none, (.mv (.t s30))⟩
    (.one ⟨some s31, none, (.ext (.t s28) 0)⟩
    (.one ⟨some s32, none, (.ext (.t s28) 1)⟩
    (.one ⟨some s7, none, (.mv (.t s31))⟩
    (.one ⟨some s8, none, (.mv (.t s32))⟩
    .done))))))))
  (.seq (.reg (.one ⟨some s33, none, (.mv (.t s8))⟩
    (.one ⟨some s34, none, (.bin false .neq (.t s33) (.c (.v (.int .i64 0))))⟩
    (.one ⟨some s35, none, (.mv (.t s34))⟩
    (.one ⟨some s36, some (s35, false), (.mv (.t s0))⟩
    (.one ⟨some s37, some (s35, false), (.callq 16 [(.t s36)])⟩
    (.one ⟨some s38, some (s35, false), (.mv (.t s7))⟩
    (.one ⟨some s39, some (s35, false), (.callq 16 [(.t s38)])⟩
    (.one ⟨some s40, some (s35, false), (.callq 15 [(.t s37), (.t s39)])⟩
    (.one ⟨some s41, some (s35, false), (.not (.t s40))⟩
    (.one ⟨some s42, none, (.pick (.t s35) (.c (.v (.bool true))) (.t s41))⟩
    (.one ⟨some s43, none, (.mv (.t s42))⟩
    (.one ⟨some s44, some (s43, false), (.mv (.t s5))⟩
    (.one ⟨some s45, some (s43, false), (.len false (.t s44))⟩
    (.one ⟨some s46, some (s43, false), (.mv (.t s0))⟩
    (.one ⟨some s47, some (s43, false), (.callq 19 [(.t s46)])⟩
    (.one ⟨some s48, some (s43, false), (.bin false .neq (.t s45) (.t s47))⟩
    (.one ⟨some s49, none, (.pick (.t s43) (.c (.v (.bool true))) (.t s48))⟩
    .done))))))))))))))))))
  (.cond (.t s49) (.seq (.reg (.one ⟨some s4, none, (.mv (.c (.v (.bool false))))⟩
    .done))
  .ret) .skip))) .skip))
  (.seq (.reg (.one ⟨some s51, none, (.mv (.t s1))⟩
    (.one ⟨some s52, none, (.callq 13 [(.t s51)])⟩
    (.one ⟨some s50, none, (.mv (.t s52))⟩
    (.one ⟨some s53, none, (.ext (.t s50) 0)⟩
    (.one ⟨some s54, none, (.ext (.t s50) 1)⟩
    (.one ⟨some s9, none, (.mv (.t s53))⟩
    (.one ⟨some s10, none, (.mv (.t s54))⟩
    .done))))))))
  (.seq (.reg (.one ⟨some s56, none, (.mv (.t s9))⟩
    (.one ⟨some s57, none, (.callq 18 [(.t s56)])⟩
    (.one ⟨some s55, none, (.mv (.t s57))⟩
    (.one ⟨some s58, none, (.ext (.t s55) 0)⟩
    (.one ⟨some s59, none, (.ext (.t s55) 1)⟩
    (.one ⟨some s11, none, (.mv (.t s58))⟩
    (.one ⟨some s12, none, (.mv (.t s59))⟩
    .done))))))))
  (.seq (.reg (.one ⟨some s60, none, (.callq 12 [])⟩
    (.one ⟨some s61, none, (.mv (.t s60))⟩
    (.one ⟨some s62, some (s61, true), (.mv (.t s10))⟩
    (.one ⟨some s63, some (s61, true), (.bin false .neq (.t s62) (.c (.v (.int .i64 0))))⟩
    (.one ⟨some s64, some (s61, true), (.mv (.t s63))⟩
    (.one ⟨some s65, some (s64, false), (.mv (.t s12))⟩
    (.one ⟨some s66, some (s64, false), (.bin false .eql (.t s65) (.c (.v (.int .i64 0))))⟩
    (.one ⟨some s67, some (s64, false), (.mv (.t s66))⟩
    (.one ⟨some s68, some (s67, true), (.mv (.t s11))⟩
    (.one ⟨some s69, some (s67, true), (.b2s (.t s68))⟩
    (.one ⟨some s70, some (s67, true), (.mv (.t s1))⟩
    (.one ⟨some s71, some (s67, true), (.b2s (.t s70))⟩
    (.one ⟨some s72, some (s67, true), (.bin false .eql (.t s69) (.t s71))⟩
    (.one ⟨some s73, some (s64, false), (.pick (.t s67) (.t s72) (.c (.v (.bool false))))⟩
    (.one ⟨some s74, some (s61, true), (.pick (.t s64) (.c (.v (.bool true))) (.t s73))⟩
    (.one ⟨some s75, none, (.pick (.t s61) (.t s74) (.c (.v (.bool false))))⟩
    (.one ⟨some s4, none, (.mv (.t s75))⟩
    .done))))))))))))))))))
  .ret)))))))⟩
theorem ok5 : compF Try.prog c5 Try.f5 = some ir5 := by kernel_rfl
theorem k_bowlinelaw30_MuxBack {args : List AVal} {σ : AHeap} {Q : AVal → AHeap → Prop} (hl : Nat.ble args.length 76 = true) (h : argsK (Env.full 9) 0 args fun env => evC Try.prog c5 ir5.body env σ (retQ ir5 Q)) : ACalls Try.prog 5 args σ Q :=
  acalls_of Try.func5 ok5 rfl (Nat.le_of_ble_eq_true hl) h
/- bowlinelaw30.MuxSizes -/
def c6 : Cfg := ⟨qs, false, 106, []⟩
def ir6 : IFun := ⟨2, [.tmp s4],
  (.seq (.reg (.one ⟨some s3, none, (.box 2 (.t s1))⟩
    (.one ⟨some s4, none, (.mv (.c (.v (.bool false))))⟩
    .done)))
  (.seq (.seq (.reg (.one ⟨some s10, none, (.mv (.t s0))⟩
    (.one ⟨some s11, none, (.callq 17 [(.t s10)])⟩
    (.one ⟨some s12, none, (.mv (.t s11))⟩
    (.one ⟨some s13, some (s12, false), (.faddr 1 (.t s3))⟩
    (.one ⟨some s14, some (s12, false), (.load none (.t s13))⟩
    (.one ⟨some s15, some (s12, false), (.len false (.t s14))⟩
    (.one ⟨some s16, some (s12, false), (.bin false .gtr (.t s15) (.c (.v (.int .i64 2100))))⟩
    (.one ⟨some s17, none, (.pick (.t s12) (.c (.v (.bool true))) (.t s16))⟩
    .done)))))))))
  (.cond (.t s17) (.seq (.reg (.one ⟨some s18, none, (.callq 12 [])⟩
    (.one ⟨some s4, none, (.mv (.t s18))⟩
    .done)))
  .ret) .skip))
  (.seq (.reg (.one ⟨some s19, none, (.mv (.t s0))⟩
    (.one ⟨some s20, none, (.callq 19 [(.t s19)])⟩
    (.one ⟨some s5, none, (.mv (.t s20))⟩
    .done))))
  (.seq (.seq (.reg (.one ⟨some s21, none, (.mv (.t s5))⟩
    (.one ⟨some s22, none, (.bin false .eql (.t s21) (.c (.v (.int .i64 0))))⟩
    .done)))
  (.cond (.t s22) (.seq (.reg (.one ⟨some s23, none, (.callq 12 [])⟩
    (.one ⟨some s4, none, (.mv (.t s23))⟩
    .done)))
  .ret) .skip))
  (.seq (.reg (.one ⟨some s6, none, (.mv (.c (.v (.int .i64 2))))⟩
    .done))
  (.seq (.seq (.reg (.one ⟨some s7, none, (.mv (.c (.v (.int .i64 0))))⟩
    .done))
  (.block 0 (.loop (.seq (.seq (.reg (.one ⟨some s24, none, (.mv (.t s7))⟩
    (.one ⟨some s25, none, (.mv (.t s0))⟩
    (.one ⟨some s26, none, (.len false (.t s25))⟩
    (.one ⟨some s27, none, (.bin false .lss (.t s24) (.t s26))⟩
    .done)))))
  (.cond (.t s27) .skip (.exit 0)))
  (.seq (.block 1 (.reg (.one ⟨some s30, none, (.mv (.t s6))⟩
    (.one ⟨some s31, none, (.bin false .add (.t s30) (.c (.v (.int .i64 2))))⟩
    (.one ⟨some s32, none, (.mv (.t s0))⟩
    (.one ⟨some s33, none, (.mv (.t s7))⟩
    (.one ⟨some s34, none, (.iaddr 2 (.t s32) (.t s33))⟩
    (.one ⟨some s35, none, (.faddr 1 (.t s34))⟩
    (.one ⟨some s36, none, (.load none (.t s35))⟩
    (.one ⟨some s37, none, (.len false (.t s36))⟩
    (.one ⟨some s38, none, (.bin false .add (.t s31) (.t s37))⟩
    (.one ⟨some s6, none, (.mv (.t s38))⟩
    .done))))))))))))
  (.reg (.one ⟨some s28, none, (.mv (.t s7))⟩
    (.one ⟨some s29, none, (.bin false .add (.t s28) (.c (.v (.int .i64 1))))⟩
    (.one ⟨some s7, none, (.mv (.t s29))⟩
    .done)))))))))
  (.seq (.reg (.one ⟨some s39, none, (.row 2 [])⟩
    (.one ⟨some s40, none, (.mv (.t s0))⟩
    (.one ⟨some s42, none, (.load (some 2) (.t s3))⟩
    (.one ⟨some s43, none, (.row 2 [(.t s42)])⟩
    (.one ⟨some s41, none, (.app 2 32 (.t s39) (.t s40))⟩
    (.one ⟨some s44, none, (.app 2 32 (.t s41) (.t s43))⟩
    (.one ⟨some s45, none, (.callq 19 [(.t s44)])⟩
    (.one ⟨some s8, none, (.mv (.t s45))⟩
    .done)))))))))
  (.seq (.reg (.one ⟨some s46, none, (.faddr 0 (.t s3))⟩
    (.one ⟨some s47, none, (.load none (.t s46))⟩
    (.one ⟨some s48, none, (.bin false .geq (.t s47) (.c (.v (.int .i64 1))))⟩
    (.one ⟨some s49, none, (.mv (.t s48))⟩
    (.one ⟨some s50, some (s49, true), (.faddr 0 (.t s3))⟩
    (.one ⟨some s51, some (s49, true), (.load none (.t s50))⟩
    (.one ⟨some s52, some (s49, true), (.bin false .leq (.t s51) (.c (.v (.int .i64 31))))⟩
    (.one ⟨some s53, none, (.pick (.t s49) (.t s52) (.c (.v (.bool false))))⟩
    (.one ⟨some s54, none, (.mv (.t s53))⟩
    (.one ⟨some s55, some (s54, true), (.faddr 1 (.t s3))⟩
    (.one ⟨some s56, some (s54, true), (.load none (.t s55))⟩
    (.one ⟨some s57, some (s54, true), (.len false (.t s56))⟩
    (.one ⟨some s58, some (s54, true), (.bin false .geq (.t s57) (.c (.v (.int .i64 1))))⟩
    (.one ⟨some s59, none, (.pick (.t s54) (.t s58) (.c (.v (.bool false))))⟩
    (.one ⟨some s60, none, (.mv (.t s59))⟩
    (.one ⟨some s61, some (s60, true), (.faddr 1 (.t s3))⟩
    (.one ⟨some s62, some (s60, true), (.load none (.t s61))⟩
    (.one ⟨some s63, some (s60, true), (.len false (.t s62))⟩
    (.one ⟨some s64, some (s60, true), (.bin false .leq (.t s63) (.c (.v (.int .i64 2047))))⟩
    (.one ⟨some s65, none, (.pick (.t s60) (.t s64) (.c (.v (.bool false))))⟩
    (.one ⟨some s66, none, (.mv (.t s65))⟩
    (.one ⟨some s67, some (s66, true), (.mv (.t s0))⟩
    (.one ⟨some s68, some (s66, true), (.len false (.t s67))⟩
    (.one ⟨some s69, some (s66, true), (.bin false .lss (.t s68) (.c (.v (.int .i64 16))))⟩
    (.one ⟨some s70, none, (.pick (.t s66) (.t s69) (.c (.v (.bool false))))⟩
    (.one ⟨some s71, none, (.mv (.t s70))⟩
    (.one ⟨some s72, some (s71, true), (.mv (.t s5))⟩
    (.one ⟨some s73, some (s71, true), (.bin false .add (.t s72) (.c (.v (.int .i64 2))))⟩
    (.one ⟨some s74, some (s71, true), (.faddr 1 (.t s3))⟩
    (.one ⟨some s75, some (s71, true), (.load none (.t s74))⟩
    (.one ⟨some s76, some (s71, true), (.len false (.t s75))⟩
    (.one ⟨some s77, some (s71, true), (.bin false .add (.t s73) (.t s76))⟩
    (.one ⟨some s78, some (s71, true), (.bin false .leq (.t s77) (.c (.v (.int .i64 4096))))⟩
    (.one ⟨some s79, none, (.pick (.t s71) (.t s78) (.c (.v (.bool false))))⟩
    (.one ⟨some s9, none, (.mv (.t s79))⟩
    .done))))))))))))))))))))))))))))))))))))
  (.seq (.reg (.one ⟨some s80, none, (.callq 12 [])⟩
    (.one ⟨some s81, none, (.mv (.t s80))⟩
    (.one ⟨some s82, some (s81, true), (.mv (.t s5))⟩
    (.one ⟨some s83, some (s81, true), (.mv (.t s6))⟩
    (.one ⟨some s84, some (s81, true), (.bin false .eql (.t s82) (.t s83))⟩
    (.one ⟨some s85, none, (.pick (.t s81) (.t s84) (.c (.v (.bool false))))⟩
    (.one ⟨some s86, none, (.mv (.t s85))⟩
    (.one ⟨some s87, some (s86, true), (.mv (.t s8))⟩
    (.one ⟨some s88, some (s86, true), (.bin false .neq (.t s87) (.c (.v (.int .i64 0))))⟩
    (.one ⟨some s89, some (s86, true), (.mv (.t s9))⟩
    (.one ⟨some s90, some (s86, true), (.bin true .eql (.t s88) (.t s89))⟩
    (.one ⟨some s91, none, (.pick (.t s86) (.t s90) (.c (.v (.bool false))))⟩
    (.one ⟨some s92, none, (.mv (.t s91))⟩
    (.one ⟨some s93, some (s92, true), (.mv (.t s9))⟩
    (.one ⟨some s94, some (s92, true), (.not (.t s93))⟩
    (.one ⟨some s95, some (s92, true), (.mv (.t s94))⟩
    (.one ⟨some s96, some (s95, false), (.mv (.t s8))⟩
    (.one ⟨some s97, some (s95, false), (.mv (.t s5))⟩
    (.one ⟨some s98, some (s95, false), (.bin false .add (.t s97) (.c (.v (.int .i64 2))))⟩
    (.one ⟨some s99, some (s95, false), (.faddr 1 (.t s3))⟩
    (.one ⟨some s100, some (s95, false), (.load none (.t s99))⟩
    (.one ⟨some s101, some (s95, false), (.len false (.t s100))⟩
    (.one ⟨some s102, some (s95, false), (.bin false .add (.t s98) (.t s101))⟩
    (.one ⟨some s103, some (s95, false), (.bin false .eql (.t s96) (.t s102))⟩
    (.one ⟨some s104, some (s92, true), (.pick (.t s95) (.c (.v (.bool true))) (.t s103))⟩
    (.one ⟨some s105, none, (.pick (.t s92) (.t s104) (.c (.v (.bool false))))⟩
    (.one ⟨some s4, none, (.mv (.t s105))⟩
    .done))))))))))))))))))))))))))))
  .ret)))))))))⟩
theorem ok6 : compF Try.prog c6 Try.f6 = some ir6 := by kernel_rfl
theorem k_bowlinelaw30_MuxSizes {args : List AVal} {σ : AHeap} {Q : AVal → AHeap → Prop} (hl : Nat.ble args.length 106 = true) (h : argsK (Env.full 9) 0 args fun env => evC Try.prog c6 ir6.body env σ (retQ ir6 Q)) : ACalls Try.prog 6 args σ Q :=
  acalls_of Try.func6 ok6 rfl (Nat.le_of_ble_eq_true hl) h
/- bowlinelaw30.MuxWrites -/
def c8 : Cfg := ⟨qs, false, 58, []⟩
def ir8 : IFun := ⟨2, [.tmp s4],
  (.seq (.reg (.one ⟨some s4, none, (.mv (.c (.v (.bool false))))⟩
    .done))
  (.seq (.seq (.reg (.one ⟨some s9, none, (.mv (.t s0))⟩
    (.one ⟨some s10, none, (.callq 17 [(.t s9)])⟩
    (.one ⟨some s11, none, (.mv (.t s10))⟩
    (.one ⟨some s12, some (s11, false), (.mv (.t s1))⟩
    (.one ⟨some s13, some (s11, false), (.callq 17 [(.t s12)])⟩
    (.one ⟨some s14, none, (.pick (.t s11) (.c (.v (.bool true))) (.t s13))⟩
    .done)))))))
  (.cond (.t s14) (.seq (.reg (.one ⟨some s15, none, (.callq 12 [])⟩
    (.one ⟨some s4, none, (.mv (.t s15))⟩
    .done)))
  .ret) .skip))
  (.seq (.reg (.one ⟨some s17, none, (.mv (.t s0))⟩
    (.one ⟨some s18, none, (.callq 18 [(.t s17)])⟩
    (.one ⟨some s16, none, (.mv (.t s18))⟩
    (.one ⟨some s19, none, (.ext (.t s16) 0)⟩
    (.one ⟨some s20, none, (.ext (.t s16) 1)⟩
    (.one ⟨some s5, none, (.mv (.t s19))⟩
    (.one ⟨some s6, none, (.mv (.t s20))⟩
    .done))))))))
  (.seq (.reg (.one ⟨some s22, none, (.mv (.t s0))⟩
    (.one ⟨some s23, none, (.callq 16 [(.t s22)])⟩
    (.one ⟨some s24, none, (.callq 25 [(.t s23)])⟩
    (.one ⟨some s21, none, (.mv (.t s24))⟩
    (.one ⟨some s25, none, (.ext (.t s21) 0)⟩
    (.one ⟨some s26, none, (.ext (.t s21) 1)⟩
    (.one ⟨some s7, none, (.mv (.t s25))⟩
    (.one ⟨some s8, none, (.mv (.t s26))⟩
    .done)))))))))
  (.seq (.reg (.one ⟨some s27, none, (.callq 12 [])⟩
    (.one ⟨some s28, none, (.mv (.t s27))⟩
    (.one ⟨some s29, some (s28, true), (.mv (.t s5))⟩
    (.one ⟨some s30, some (s28, true), (.b2s (.t s29))⟩
    (.one ⟨some s31, some (s28, true), (.mv (.t s7))⟩
    (.one ⟨some s32, some (s28, true), (.b2s (.t s31))⟩
    (.one ⟨some s33, some (s28, true), (.bin false .eql (.t s30) (.t s32))⟩
    (.one ⟨some s34, none, (.pick (.t s28) (.t s33) (.c (.v (.bool false))))⟩
    (.one ⟨some s35, none, (.mv (.t s34))⟩
    (.one ⟨some s36, some (s35, true), (.mv (.t s6))⟩
    (.one ⟨some s37, some (s35, true), (.mv (.t s8))⟩
    (.one ⟨some s38, some (s35, true), (.bin false .eql (.t s36) (.t s37))⟩
    (.one ⟨some s39, none, (.pick (.t s35) (.t s38) (.c (.v (.bool false))))⟩
    (.one ⟨some s40, none, (.mv (.t s39))⟩
    (.one ⟨some s41, some (s40, true), (.mv (.t s0))⟩
    (.one ⟨some s42, some (s40, true), (.callq 19 [(.t s41)])⟩
    (.one ⟨some s43, some (s40, true), (.mv (.t s7))⟩
    (.one ⟨some s44, some (s40, true), (.len false (.t s43))⟩
    (.one ⟨some s45, some (s40, true), (.bin false .eql (.t s42) (.t s44))⟩
    (.one ⟨some s46, none, (.pick (.t s40) (.t s45) (.c (.v (.bool false))))⟩
    (.one ⟨some s47, none, (.mv (.t s46))⟩
    (.one ⟨some s48, some (s47, true), (.mv (.t s0))⟩
    (.one ⟨some s49, some (s47, true), (.mv (.t s1))⟩
    (.one ⟨some s50, some (s47, true), (.callq 26 [(.t s48), (.t s49)])⟩
    (.one ⟨some s51, some (s47, true), (.mv (.t s0))⟩
    (.one ⟨some s52, some (s47, true), (.callq 16 [(.t s51)])⟩
    (.one ⟨some s53, some (s47, true), (.mv (.t s1))⟩
    (.one ⟨some s54, some (s47, true), (.callq 16 [(.t s53)])⟩
    (.one ⟨some s55, some (s47, true), (.callq 15 [(.t s52), (.t s54)])⟩
    (.one ⟨some s56, some (s47, true), (.bin true .eql (.t s50) (.t s55))⟩
    (.one ⟨some s57, none, (.pick (.t s47) (.t s56) (.c (.v (.bool false))))⟩
    (.one ⟨some s4, none, (.mv (.t s57))⟩
    .done)))))))))))))))))))))))))))))))))
  .ret)))))⟩
theorem ok8 : compF Try.prog c8 Try.f8 = some ir8 := by kernel_rfl
theorem k_bowlinelaw30_MuxWrites {args : List AVal} {σ : AHeap} {Q : AVal → AHeap → Prop} (hl : Nat.ble args.length 58 = true) (h : argsK (Env.full 9) 0 args fun env => evC Try.prog c8 ir8.body env σ (retQ ir8 Q)) : ACalls Try.prog 8 args σ Q :=
  acalls_of Try.func8 ok8 rfl (Nat.le_of_ble_eq_true hl) h
/- bowlinelaw30.alive -/
def c12 : Cfg := ⟨qs, false, 96, [16, 19, 41]⟩
def ir12 : IFun := ⟨0, [.tmp s0],
  (.seq (.reg (.one ⟨some s0, none, (.mv (.c (.v (.bool false))))⟩
    .done))
  (.seq (.reg (.one ⟨some s12, none, (.callq 18 [(.c (.slice 2 [] .full))])⟩
    (.one ⟨some s11, none, (.mv (.t s12))⟩
    (.one ⟨some s13, none, (.ext (.t s11) 0)⟩
    (.one ⟨some s14, none, (.ext (.t s11) 1)⟩
    (.one ⟨some s1, none, (.mv (.t s13))⟩
    (.one ⟨some s2, none, (.mv (.t s14))⟩
    .done)))))))
  (.seq (.reg (.one ⟨some s16, none, (.rowT 1 [(.c (.v (.int .u8 97))), (.c (.v (.int .u8 98)))])⟩
    (.one ⟨some s17, none, (.mark (.t s16))⟩
    (.one ⟨some s18, none, (.build [(.v (.int .i64 0)), (.slice 1 [] .full)] [(0, 1, (.c (.v (.int .i64 3)))), (1, 1, (.t s17))])⟩
    (.one ⟨some s19, none, (.rowT 1 [(.c (.v (.int .u8 99)))])⟩
    (.one ⟨some s20, none, (.mark (.t s19))⟩
    (.one ⟨some s21, none, (.build [(.v (.int .i64 0)), (.slice 1 [] .full)] [(0, 1, (.c (.v (.int .i64 4)))), (1, 1, (.t s20))])⟩
    (.one ⟨some s22, none, (.row 2 [(.t s18), (.t s21)])⟩
    (.one ⟨some s23, none, (.callq 18 [(.t s22)])⟩
    (.one ⟨some s15, none, (.mv (.t s23))⟩
    (.one ⟨some s24, none, (.ext (.t s15) 0)⟩
    (.one ⟨some s25, none, (.ext (.t s15) 1)⟩
    (.one ⟨some s3, none, (.mv (.t s24))⟩
    (.one ⟨some s4, none, (.mv (.t s25))⟩
    .done))))))))))))))
  (.seq (.reg (.one ⟨some s27, none, (.mv (.t s3))⟩
    (.one ⟨some s28, none, (.callq 13 [(.t s27)])⟩
    (.one ⟨some s26, none, (.mv (.t s28))⟩
    (.one ⟨some s29, none, (.ext (.t s26) 0)⟩
    (.one ⟨some s30, none, (.ext (.t s26) 1)⟩
    (.one ⟨some s5, none, (.mv (.t s29))⟩
    (.one ⟨some s6, none, (.mv (.t s30))⟩
    .done))))))))
  (.seq (.reg (.one ⟨some s32, none, (.mv (.t s3))⟩
    (.one ⟨some s33, none, (.mv (.t s3))⟩
    (.one ⟨some s34, none, (.len false (.t s33))⟩
    (.one ⟨some s35, none, (.bin false .quo (.t s34) (.c (.v (.int .i64 9))))⟩
    (.one ⟨some s36, none, (.cut 1 (.t s32) none (some (.t s35)) none)⟩
    (.one ⟨some s37, none, (.callq 13 [(.t s36)])⟩
    (.one ⟨some s31, none, (.mv (.t s37))⟩
    (.one ⟨some s38, none, (.ext (.t s31) 0)⟩
    (.one ⟨some s39, none, (.ext (.t s31) 1)⟩
    (.one ⟨some s7, none, (.mv (.t s38))⟩
    (.one ⟨some s8, none, (.mv (.t s39))⟩
    .done))))))))))))
  (.seq (.reg (.one ⟨some s41, none, (.rowT 1 [(.c (.v (.int .u8 97))), (.c (.v (.int .u8 98)))])⟩
    (.one ⟨some s42, none, (.mark (.t s41))⟩
    (.one ⟨some s43, none, (.build [(.v (.int .i64 0)), (.slice 1 [] .full)] [(0, 1, (.c (.v (.int .i64 0)))), (1, 1, (.t s42))])⟩
    (.one ⟨some s44, none, (.row 2 [(.t s43)])⟩
    (.one ⟨some s45, none, (.callq 18 [(.t s44)])⟩
    (.one ⟨some s40, none, (.mv (.t s45))⟩
    (.one ⟨some s46, none, (.ext (.t s40) 0)⟩
    (.one ⟨some s47, none, (.ext (.t s40) 1)⟩
    (.one ⟨some s9, none, (.mv (.t s46))⟩
    (.one ⟨some s10, none, (.mv (.t s47))⟩
    .done)))))))))))
  (.seq (.reg (.one ⟨some s48, none, (.mv (.t s1))⟩
    (.one ⟨some s49, none, (.b2s (.t s48))⟩
    (.one ⟨some s50, none, (.bin false .eql (.t s49) (.c (.v (.string ⟨#[255, 255]⟩))))⟩
    (.one ⟨some s51, none, (.mv (.t s50))⟩
    (.one ⟨some s52, some (s51, true), (.mv (.t s2))⟩
    (.one ⟨some s53, some (s51, true), (.bin false .eql (.t s52) (.c (.v (.int .i64 0))))⟩
    (.one ⟨some s54, none, (.pick (.t s51) (.t s53) (.c (.v (.bool false))))⟩
    (.one ⟨some s55, none, (.mv (.t s54))⟩
    (.one ⟨some s56, some (s55, true), (.mv (.t s3))⟩
    (.one ⟨some s57, some (s55, true), (.len false (.t s56))⟩
    (.one ⟨some s58, some (s55, true), (.bin false .eql (.t s57) (.c (.v (.int .i64 9))))⟩
    (.one ⟨some s59, none, (.pick (.t s55) (.t s58) (.c (.v (.bool false))))⟩
    (.one ⟨some s60, none, (.mv (.t s59))⟩
    (.one ⟨some s61, some (s60, true), (.mv (.t s3))⟩
    (.one ⟨some s62, some (s60, true), (.iaddr 1 (.t s61) (.c (.v (.int .i64 0))))⟩
    (.one ⟨some s63, some (s60, true), (.load none (.t s62))⟩
    (.one ⟨some s64, some (s60, true), (.bin false .eql (.t s63) (.c (.v (.int .u8 24))))⟩
    (.one ⟨some s65, none, (.pick (.t s60) (.t s64) (.c (.v (.bool false))))⟩
    (.one ⟨some s66, none, (.mv (.t s65))⟩
    (.one ⟨some s67, some (s66, true), (.mv (.t s4))⟩
    (.one ⟨some s68, some (s66, true), (.bin false .eql (.t s67) (.c (.v (.int .i64 0))))⟩
    (.one ⟨some s69, none, (.pick (.t s66) (.t s68) (.c (.v (.bool false))))⟩
    (.one ⟨some s70, none, (.mv (.t s69))⟩
    (.one ⟨some s71, some (s70, true), (.mv (.t s6))⟩
    (.one ⟨some s72, some (s70, true), (.bin false .eql (.t s71) (.c (.v (.int .i64 0))))⟩
    (.one ⟨some s73, none, (.pick (.t s70) (.t s72) (.c (.v (.bool false))))⟩
    (.one ⟨some s74, none, (.mv (.t s73))⟩
    (.one ⟨some s75, some (s74, true), (.mv (.t s5))⟩
    (.one ⟨some s76, some (s74, true), (.len false (.t s75))⟩
    (.one ⟨some s77, some (s74, true), (.bin false .eql (.t s76) (.c (.v (.int .i64 2))))⟩
    (.one ⟨some s78, none, (.pick (.t s74) (.t s77) (.c (.v (.bool false))))⟩
    (.one ⟨some s79, none, (.mv (.t s78))⟩
    (.one ⟨some s80, some (s79, true), (.mv (.t s5))⟩
    (.one ⟨some s81, some (s79, true), (.iaddr 2 (.t s80) (.c (.v (.int .i64 1))))⟩
    (.one ⟨some s82, some (s79, true), (.faddr 0 (.t s81))⟩
    (.one ⟨some s83, some (s79, true), (.load none (.t s82))⟩
    (.one ⟨some s84, some (s79, true), (.bin false .eql (.t s83) (.c (.v (.int .i64 4))))⟩
    (.one ⟨some s85, none, (.pick (.t s79) (.t s84) (.c (.v (.bool false))))⟩
    (.one ⟨some s86, none, (.mv (.t s85))⟩
    (.one ⟨some s87, some (s86, true), (.mv (.t s8))⟩
    (.one ⟨some s88, some (s86, true), (.bin false .eql (.t s87) (.c (.v (.int .i64 8))))⟩
    (.one ⟨some s89, none, (.pick (.t s86) (.t s88) (.c (.v (.bool false))))⟩
    (.one ⟨some s90, none, (.mv (.t s89))⟩
    (.one ⟨some s91, some (s90, true), (.mv (.t s10))⟩
    (.one ⟨some s92, some (s90, true), (.bin false .eql (.t s91) (.c (.v (.int .i64 3))))⟩
    (.one ⟨some s93, none, (.pick (.t s90) (.t s92) (.c (.v (.bool false))))⟩
    (.one ⟨some s94, none, (.mv (.t s93))⟩
    (.one ⟨some s95, none, (.pick (.t s94) (.c (.v (.bool true))) (.c (.v (.bool false))))⟩
    (.one ⟨some s0, none, (.mv (.t s95))⟩
    .done))))))))))))))))))))))))))))))))))))))))))))))))))
  .ret)))))))⟩
theorem ok12 : compF Try.prog c12 Try.f12 = some ir12 := by kernel_rfl
theorem k_bowlinelaw30_alive {args : List AVal} {σ : AHeap} {Q : AVal → AHeap → Prop} (hl : Nat.ble args.length 96 = true) (h : argsK (Env.full 9) 0 args fun env => evC Try.prog c12 ir12.body env σ (retQ ir12 Q)) : ACalls Try.prog 12 args σ Q :=
  acalls_of Try.func12 ok12 rfl (Nat.le_of_ble_eq_true hl) h
/- bowlinelaw30.as -/
def c16 : Cfg := ⟨qs, false, 26, []⟩
def ir16 : IFun := ⟨1, [.tmp s2],
  (.seq (.reg (.one ⟨some s2, none, (.mv (.c (.slice 2 [] .full)))⟩
    .done))
  (.seq (.reg (.one ⟨some s3, none, (.mv (.c (.slice 2 [] .full)))⟩
    .done))
  (.seq (.seq (.reg (.one ⟨some s4, none, (.mv (.c (.v (.int .i64 0))))⟩
    .done))
  (.block 0 (.loop (.seq (.seq (.reg (.one ⟨some s5, none, (.mv (.t s4))⟩
    (.one ⟨some s6, none, (.mv (.t s0))⟩
    (.one ⟨some s7, none, (.len false (.t s6))⟩
    (.one ⟨some s8, none, (.bin false .lss (.t s5) (.t s7))⟩
    .done)))))
  (.cond (.t s8) .skip (.exit 0)))
  (.seq (.block 1 (.reg (.one ⟨some s11, none, (.mv (.t s3))⟩
    (.one ⟨some s12, none, (.mv (.t s0))⟩
    (.one ⟨some s13, none, (.mv (.t s4))⟩
    (.one ⟨some s14, none, (.iaddr 2 (.t s12) (.t s13))⟩
    (.one ⟨some s15, none, (.faddr 0 (.t s14))⟩
    (.one ⟨some s16, none, (.load none (.t s15))⟩
    (.one ⟨some s17, none, (.mv (.t s0))⟩
    (.one ⟨some s18, none, (.mv (.t s4))⟩
    (.one ⟨some s19, none, (.iaddr 2 (.t s17) (.t s18))⟩
    (.one ⟨some s20, none, (.faddr 1 (.t s19))⟩
    (.one ⟨some s21, none, (.load none (.t s20))⟩
    (.one ⟨some s22, none, (.build [(.v (.int .i64 0)), (.slice 1 [] .full)] [(0, 1, (.t s16)), (1, 1, (.t s21))])⟩
    (.one ⟨some s23, none, (.row 2 [(.t s22)])⟩
    (.one ⟨some s24, none, (.app 2 32 (.t s11) (.t s23))⟩
    (.one ⟨some s3, none, (.mv (.t s24))⟩
    .done)))))))))))))))))
  (.reg (.one ⟨some s9, none, (.mv (.t s4))⟩
    (.one ⟨some s10, none, (.bin false .add (.t s9) (.c (.v (.int .i64 1))))⟩
    (.one ⟨some s4, none, (.mv (.t s10))⟩
    .done)))))))))
  (.seq (.reg (.one ⟨some s25, none, (.mv (.t s3))⟩
    (.one ⟨some s2, none, (.mv (.t s25))⟩
    .done)))
  .ret))))⟩
theorem ok16 : compF Try.prog c16 Try.f16 = some ir16 := by kernel_rfl
theorem k_bowlinelaw30_as {args : List AVal} {σ : AHeap} {Q : AVal → AHeap → Prop} (hl : Nat.ble args.length 26 = true) (h : argsK (Env.full 9) 0 args fun env => evC Try.prog c16 ir16.body env σ (retQ ir16 Q)) : ACalls Try.prog 16 args σ Q :=
  acalls_of Try.func16 ok16 rfl (Nat.le_of_ble_eq_true hl) h
/- bowlinelaw30.great -/
def c17 : Cfg := ⟨qs, false, 33, []⟩
def ir17 : IFun := ⟨1, [.tmp s2],
  (.seq (.reg (.one ⟨some s2, none, (.mv (.c (.v (.bool false))))⟩
    .done))
  (.seq (.reg (.one ⟨some s3, none, (.mv (.c (.v (.int .i64 0))))⟩
    .done))
  (.seq (.seq (.reg (.one ⟨some s4, none, (.mv (.c (.v (.int .i64 0))))⟩
    .done))
  (.block 0 (.loop (.seq (.seq (.reg (.one ⟨some s5, none, (.mv (.t s4))⟩
    (.one ⟨some s6, none, (.mv (.t s0))⟩
    (.one ⟨some s7, none, (.len false (.t s6))⟩
    (.one ⟨some s8, none, (.bin false .lss (.t s5) (.t s7))⟩
    .done)))))
  (.cond (.t s8) .skip (.exit 0)))
  (.seq (.block 1 (.seq (.seq (.reg (.one ⟨some s11, none, (.mv (.t s0))⟩
    (.one ⟨some s12, none, (.len false (.t s11))⟩
    (.one ⟨some s13, none, (.bin false .gtr (.t s12) (.c (.v (.int .i64 40))))⟩
    (.one ⟨some s14, none, (.mv (.t s13))⟩
    (.one ⟨some s15, some (s14, false), (.mv (.t s0))⟩
    (.one ⟨some s16, some (s14, false), (.mv (.t s4))⟩
    (.one ⟨some s17, some (s14, false), (.iaddr 2 (.t s15) (.t s16))⟩
    (.one ⟨some s18, some (s14, false), (.faddr 1 (.t s17))⟩
    (.one ⟨some s19, some (s14, false), (.load none (.t s18))⟩
    (.one ⟨some s20, some (s14, false), (.len false (.t s19))⟩
    (.one ⟨some s21, some (s14, false), (.bin false .gtr (.t s20) (.c (.v (.int .i64 2100))))⟩
    (.one ⟨some s22, none, (.pick (.t s14) (.c (.v (.bool true))) (.t s21))⟩
    .done)))))))))))))
  (.cond (.t s22) (.seq (.reg (.one ⟨some s2, none, (.mv (.c (.v (.bool true))))⟩
    .done))
  .ret) .skip))
  (.reg (.one ⟨some s23, none, (.mv (.t s3))⟩
    (.one ⟨some s24, none, (.mv (.t s0))⟩
    (.one ⟨some s25, none, (.mv (.t s4))⟩
    (.one ⟨some s26, none, (.iaddr 2 (.t s24) (.t s25))⟩
    (.one ⟨some s27, none, (.faddr 1 (.t s26))⟩
    (.one ⟨some s28, none, (.load none (.t s27))⟩
    (.one ⟨some s29, none, (.len false (.t s28))⟩
    (.one ⟨some s30, none, (.bin false .add (.t s23) (.t s29))⟩
    (.one ⟨some s3, none, (.mv (.t s30))⟩
    .done))))))))))))
  (.reg (.one ⟨some s9, none, (.mv (.t s4))⟩
    (.one ⟨some s10, none, (.bin false .add (.t s9) (.c (.v (.int .i64 1))))⟩
    (.one ⟨some s4, none, (.mv (.t s10))⟩
    .done)))))))))
  (.seq (.reg (.one ⟨some s31, none, (.mv (.t s3))⟩
    (.one ⟨some s32, none, (.bin false .gtr (.t s31) (.c (.v (.int .i64 9000))))⟩
    (.one ⟨some s2, none, (.mv (.t s32))⟩
    .done))))
  .ret))))⟩
theorem ok17 : compF Try.prog c17 Try.f17 = some ir17 := by kernel_rfl
theorem k_bowlinelaw30_great {args : List AVal} {σ : AHeap} {Q : AVal → AHeap → Prop} (hl : Nat.ble args.length 33 = true) (h : argsK (Env.full 9) 0 args fun env => evC Try.prog c17 ir17.body env σ (retQ ir17 Q)) : ACalls Try.prog 17 args σ Q :=
  acalls_of Try.func17 ok17 rfl (Nat.le_of_ble_eq_true hl) h
end Go.Proofs.Ytndphnojmpeogaa

