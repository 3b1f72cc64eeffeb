/-
  The bodies of one package, compiled to the framework's language (printed by a program of this session).
-/
import Derived.Test.YtkdbmajkjlnpiacIr0
namespace Go.Proofs.Ytkdbmajkjlnpiac
set_option linter.unusedVariables false
set_option linter.unusedSimpArgs false
open Go Go.Am
/- bowlinelaw08.LensBack -/
def c3 : Cfg := ⟨qs, false, 103, []⟩
def ir3 : IFun := ⟨4, [.tmp s8],
  (.seq (.reg (.one ⟨some s8, none, (.mv (.c (.v (.bool false))))⟩
    .done))
  (.seq (.seq (.reg (.one ⟨some s19, none, (.mv (.t s0))⟩
    (.one ⟨some s20, none, (.len false (.t s19))⟩
    (.one ⟨some s21, none, (.bin false .gtr (.t s20) (.c (.v (.int .i64 60))))⟩
    (.one ⟨some s22, none, (.mv (.t s21))⟩
    (.one ⟨some s23, some (s22, false), (.mv (.t s2))⟩
    (.one ⟨some s24, some (s22, false), (.len false (.t s23))⟩
    (.one ⟨some s25, some (s22, false), (.bin false .gtr (.t s24) (.c (.v (.int .i64 100))))⟩
    (.one ⟨some s26, none, (.pick (.t s22) (.c (.v (.bool true))) (.t s25))⟩
    (.one ⟨some s27, none, (.mv (.t s26))⟩
    (.one ⟨some s28, some (s27, false), (.mv (.t s3))⟩
    (.one ⟨some s29, some (s27, false), (.len false (.t s28))⟩
    (.one ⟨some s30, some (s27, false), (.bin false .gtr (.t s29) (.c (.v (.int .i64 200))))⟩
    (.one ⟨some s31, none, (.pick (.t s27) (.c (.v (.bool true))) (.t s30))⟩
    .done))))))))))))))
  (.cond (.t s31) (.seq (.reg (.one ⟨some s32, none, (.callq 9 [])⟩
    (.one ⟨some s8, none, (.mv (.t s32))⟩
    .done)))
  .ret) .skip))
  (.seq (.reg (.one ⟨some s34, none, (.mv (.t s0))⟩
    (.one ⟨some s35, none, (.mv (.t s1))⟩
    (.one ⟨some s36, none, (.callq 10 [(.t s34), (.t s35)])⟩
    (.one ⟨some s33, none, (.mv (.t s36))⟩
    (.one ⟨some s37, none, (.ext (.t s33) 0)⟩
    (.one ⟨some s38, none, (.ext (.t s33) 1)⟩
    (.one ⟨some s9, none, (.mv (.t s37))⟩
    (.one ⟨some s10, none, (.mv (.t s38))⟩
    .done)))))))))
  (.seq (.seq (.reg (.one ⟨some s39, none, (.mv (.t s10))⟩
    (.one ⟨some s40, none, (.bin false .eql (.t s39) (.c (.v (.int .i64 0))))⟩
    .done)))
  (.cond (.t s40) (.seq (.reg (.one ⟨some s42, none, (.row 1 [])⟩
    (.one ⟨some s43, none, (.mv (.t s9))⟩
    (.one ⟨some s44, none, (.app 1 1 (.t s42) (.t s43))⟩
    (.one ⟨some s45, none, (.mv (.t s2))⟩
    (.one ⟨some s46, none, (.app 1 1 (.t s44) (.t s45))⟩
    (.one ⟨some s47, none, (.mv (.t s1))⟩
    (.one ⟨some s48, none, (.callq 11 [(.t s46), (.t s47)])⟩
    (.one ⟨some s41, none, (.mv (.t s48))⟩
    (.one ⟨some s49, none, (.ext (.t s41) 0)⟩
    (.one ⟨some s50, none, (.ext (.t s41) 1)⟩
    (.one ⟨some s51, none, (.ext (.t s41) 2)⟩
    (.one ⟨some s11, none, (.mv (.t s49))⟩
    (.one ⟨some s12, none, (.mv (.t s50))⟩
    (.one ⟨some s13, none, (.mv (.t s51))⟩
    .done)))))))))))))))
  (.seq (.reg (.one ⟨some s52, none, (.mv (.t s13))⟩
    (.one ⟨some s53, none, (.bin false .neq (.t s52) (.c (.v (.int .i64 0))))⟩
    (.one ⟨some s54, none, (.mv (.t s53))⟩
    (.one ⟨some s55, some (s54, false), (.mv (.t s12))⟩
    (.one ⟨some s56, some (s54, false), (.mv (.t s9))⟩
    (.one ⟨some s57, some (s54, false), (.len false (.t s56))⟩
    (.one ⟨some s58, some (s54, false), (.bin false .neq (.t s55) (.t s57))⟩
    (.one ⟨some s59, none, (.pick (.t s54) (.c (.v (.bool true))) (.t s58))⟩
    (.one ⟨some s60, none, (.mv (.t s59))⟩
    (.one ⟨some s61, some (s60, false), (.mv (.t s0))⟩
    (.one ⟨some s62, some (s60, false), (.mv (.t s11))⟩
    (.one ⟨some s63, some (s60, false), (.callq 12 [(.t s61), (.t s62)])⟩
    (.one ⟨some s64, some (s60, false), (.not (.t s63))⟩
    (.one ⟨some s65, none, (.pick (.t s60) (.c (.v (.bool true))) (.t s64))⟩
    .done)))))))))))))))
  (.cond (.t s65) (.seq (.reg (.one ⟨some s8, none, (.mv (.c (.v (.bool false))))⟩
    .done))
  .ret) .skip))) .skip))
  (.seq (.reg (.one ⟨some s67, none, (.mv (.t s3))⟩
    (.one ⟨some s68, none, (.mv (.t s1))⟩
    (.one ⟨some s69, none, (.callq 11 [(.t s67), (.t s68)])⟩
    (.one ⟨some s66, none, (.mv (.t s69))⟩
    (.one ⟨some s70, none, (.ext (.t s66) 0)⟩
    (.one ⟨some s71, none, (.ext (.t s66) 1)⟩
    (.one ⟨some s72, none, (.ext (.t s66) 2)⟩
    (.one ⟨some s14, none, (.mv (.t s70))⟩
    (.one ⟨some s15, none, (.mv (.t s71))⟩
    (.one ⟨some s16, none, (.mv (.t s72))⟩
    .done)))))))))))
  (.seq (.reg (.one ⟨some s74, none, (.mv (.t s14))⟩
    (.one ⟨some s75, none, (.mv (.t s1))⟩
    (.one ⟨some s76, none, (.callq 10 [(.t s74), (.t s75)])⟩
    (.one ⟨some s73, none, (.mv (.t s76))⟩
    (.one ⟨some s77, none, (.ext (.t s73) 0)⟩
    (.one ⟨some s78, none, (.ext (.t s73) 1)⟩
    (.one ⟨some s17, none, (.mv (.t s77))⟩
    (.one ⟨some s18, none, (.mv (.t s78))⟩
    .done)))))))))
  (.seq (.reg (.one ⟨some s79, none, (.callq 9 [])⟩
    (.one ⟨some s80, none, (.mv (.t s79))⟩
    (.one ⟨some s81, some (s80, true), (.mv (.t s16))⟩
    (.one ⟨some s82, some (s80, true), (.bin false .neq (.t s81) (.c (.v (.int .i64 0))))⟩
    (.one ⟨some s83, some (s80, true), (.mv (.t s82))⟩
    (.one ⟨some s84, some (s83, false), (.mv (.t s18))⟩
    (.one ⟨some s85, some (s83, false), (.bin false .eql (.t s84) (.c (.v (.int .i64 0))))⟩
    (.one ⟨some s86, some (s83, false), (.mv (.t s85))⟩
    (.one ⟨some s87, some (s86, true), (.mv (.t s15))⟩
    (.one ⟨some s88, some (s86, true), (.mv (.t s3))⟩
    (.one ⟨some s89, some (s86, true), (.len false (.t s88))⟩
    (.one ⟨some s90, some (s86, true), (.bin false .leq (.t s87) (.t s89))⟩
    (.one ⟨some s91, some (s83, false), (.pick (.t s86) (.t s90) (.c (.v (.bool false))))⟩
    (.one ⟨some s92, some (s83, false), (.mv (.t s91))⟩
    (.one ⟨some s93, some (s92, true), (.mv (.t s17))⟩
    (.one ⟨some s94, some (s92, true), (.b2s (.t s93))⟩
    (.one ⟨some s95, some (s92, true), (.mv (.t s3))⟩
    (.one ⟨some s96, some (s92, true), (.mv (.t s15))⟩
    (.one ⟨some s97, some (s92, true), (.cut 1 (.t s95) none (some (.t s96)) none)⟩
    (.one ⟨some s98, some (s92, true), (.b2s (.t s97))⟩
    (.one ⟨some s99, some (s92, true), (.bin false .eql (.t s94) (.t s98))⟩
    (.one ⟨some s100, some (s83, false), (.pick (.t s92) (.t s99) (.c (.v (.bool false))))⟩
    (.one ⟨some s101, some (s80, true), (.pick (.t s83) (.c (.v (.bool true))) (.t s100))⟩
    (.one ⟨some s102, none, (.pick (.t s80) (.t s101) (.c (.v (.bool false))))⟩
    (.one ⟨some s8, none, (.mv (.t s102))⟩
    .done))))))))))))))))))))))))))
  .ret)))))))⟩
theorem ok3 : compF Try.prog c3 Try.f3 = some ir3 := by kernel_rfl
theorem k_bowlinelaw08_LensBack {args : List AVal} {σ : AHeap} {Q : AVal → AHeap → Prop} (hl : Nat.ble args.length 103 = true) (h : argsK (Env.full 9) 0 args fun env => evC Try.prog c3 ir3.body env σ (retQ ir3 Q)) : ACalls Try.prog 3 args σ Q :=
  acalls_of Try.func3 ok3 rfl (Nat.le_of_ble_eq_true hl) h
/- bowlinelaw08.LensSizes -/
def c4 : Cfg := ⟨qs, false, 70, []⟩
def ir4 : IFun := ⟨2, [.tmp s4],
  (.seq (.reg (.one ⟨some s4, none, (.mv (.c (.v (.bool false))))⟩
    .done))
  (.seq (.reg (.one ⟨some s7, none, (.mv (.t s0))⟩
    (.one ⟨some s8, none, (.mv (.t s1))⟩
    (.one ⟨some s9, none, (.callq 13 [(.t s7), (.t s8)])⟩
    (.one ⟨some s5, none, (.mv (.t s9))⟩
    .done)))))
  (.seq (.seq (.reg (.one ⟨some s10, none, (.mv (.t s5))⟩
    (.one ⟨some s11, none, (.bin false .eql (.t s10) (.c (.v (.int .i64 0))))⟩
    (.one ⟨some s12, none, (.mv (.t s11))⟩
    (.one ⟨some s13, some (s12, false), (.mv (.t s0))⟩
    (.one ⟨some s14, some (s12, false), (.bin false .lss (.t s13) (.c (.v (.int .i64 1))))⟩
    (.one ⟨some s15, none, (.pick (.t s12) (.c (.v (.bool true))) (.t s14))⟩
    (.one ⟨some s16, none, (.mv (.t s15))⟩
    (.one ⟨some s17, some (s16, false), (.mv (.t s0))⟩
    (.one ⟨some s18, some (s16, false), (.bin false .gtr (.t s17) (.c (.v (.int .i64 23))))⟩
    (.one ⟨some s19, none, (.pick (.t s16) (.c (.v (.bool true))) (.t s18))⟩
    .done)))))))))))
  (.cond (.t s19) (.seq (.reg (.one ⟨some s20, none, (.callq 9 [])⟩
    (.one ⟨some s21, none, (.mv (.t s20))⟩
    (.one ⟨some s22, some (s21, true), (.mv (.t s5))⟩
    (.one ⟨some s23, some (s21, true), (.bin false .eql (.t s22) (.c (.v (.int .i64 0))))⟩
    (.one ⟨some s24, none, (.pick (.t s21) (.t s23) (.c (.v (.bool false))))⟩
    (.one ⟨some s25, none, (.mv (.t s24))⟩
    (.one ⟨some s26, some (s25, true), (.mv (.t s1))⟩
    (.one ⟨some s27, some (s25, true), (.bin false .neq (.t s26) (.c (.v (.int .i64 11))))⟩
    (.one ⟨some s28, some (s25, true), (.mv (.t s27))⟩
    (.one ⟨some s29, some (s28, true), (.mv (.t s1))⟩
    (.one ⟨some s30, some (s28, true), (.bin false .neq (.t s29) (.c (.v (.int .i64 15))))⟩
    (.one ⟨some s31, some (s25, true), (.pick (.t s28) (.t s30) (.c (.v (.bool false))))⟩
    (.one ⟨some s32, some (s25, true), (.mv (.t s31))⟩
    (.one ⟨some s33, some (s32, false), (.mv (.t s0))⟩
    (.one ⟨some s34, some (s32, false), (.bin false .lss (.t s33) (.c (.v (.int .i64 1))))⟩
    (.one ⟨some s35, some (s25, true), (.pick (.t s32) (.c (.v (.bool true))) (.t s34))⟩
    (.one ⟨some s36, some (s25, true), (.mv (.t s35))⟩
    (.one ⟨some s37, some (s36, false), (.mv (.t s0))⟩
    (.one ⟨some s38, some (s36, false), (.bin false .gtr (.t s37) (.c (.v (.int .i64 23))))⟩
    (.one ⟨some s39, some (s25, true), (.pick (.t s36) (.c (.v (.bool true))) (.t s38))⟩
    (.one ⟨some s40, none, (.pick (.t s25) (.t s39) (.c (.v (.bool false))))⟩
    (.one ⟨some s4, none, (.mv (.t s40))⟩
    .done)))))))))))))))))))))))
  .ret) .skip))
  (.seq (.reg (.one ⟨some s41, none, (.mv (.t s0))⟩
    (.one ⟨some s42, none, (.bin false .sub (.t s41) (.c (.v (.int .i64 1))))⟩
    (.one ⟨some s43, none, (.mv (.t s1))⟩
    (.one ⟨some s44, none, (.callq 13 [(.t s42), (.t s43)])⟩
    (.one ⟨some s6, none, (.mv (.t s44))⟩
    .done))))))
  (.seq (.reg (.one ⟨some s45, none, (.callq 9 [])⟩
    (.one ⟨some s46, none, (.mv (.t s45))⟩
    (.one ⟨some s47, some (s46, true), (.mv (.t s5))⟩
    (.one ⟨some s48, some (s46, true), (.bin false .mul (.c (.v (.int .i64 8))) (.t s47))⟩
    (.one ⟨some s49, some (s46, true), (.mv (.t s0))⟩
    (.one ⟨some s50, some (s46, true), (.mv (.t s1))⟩
    (.one ⟨some s51, some (s46, true), (.bin false .add (.t s50) (.c (.v (.int .i64 1))))⟩
    (.one ⟨some s52, some (s46, true), (.bin false .mul (.t s49) (.t s51))⟩
    (.one ⟨some s53, some (s46, true), (.bin false .geq (.t s48) (.t s52))⟩
    (.one ⟨some s54, none, (.pick (.t s46) (.t s53) (.c (.v (.bool false))))⟩
    (.one ⟨some s55, none, (.mv (.t s54))⟩
    (.one ⟨some s56, some (s55, true), (.mv (.t s5))⟩
    (.one ⟨some s57, some (s55, true), (.bin false .mul (.c (.v (.int .i64 8))) (.t s56))⟩
    (.one ⟨some s58, some (s55, true), (.mv (.t s0))⟩
    (.one ⟨some s59, some (s55, true), (.mv (.t s1))⟩
    (.one ⟨some s60, some (s55, true), (.bin false .add (.t s59) (.c (.v (.int .i64 1))))⟩
    (.one ⟨some s61, some (s55, true), (.bin false .mul (.t s58) (.t s60))⟩
    (.one ⟨some s62, some (s55, true), (.bin false .add (.t s61) (.c (.v (.int .i64 8))))⟩
    (.one ⟨some s63, some (s55, true), (.bin false .lss (.t s57) (.t s62))⟩
    (.one ⟨some s64, none, (.pick (.t s55) (.t s63) (.c (.v (.bool false))))⟩
    (.one ⟨some s65, none, (.mv (.t s64))⟩
    (.one ⟨some s66, some (s65, true), (.mv (.t s5))⟩
    (.one ⟨some s67, some (s65, true), (.mv (.t s6))⟩
    (.one ⟨some s68, some (s65, true), (.bin false .gtr (.t s66) (.t s67))⟩
    (.one ⟨some s69, none, (.pick (.t s65) (.t s68) (.c (.v (.bool false))))⟩
    (.one ⟨some s4, none, (.mv (.t s69))⟩
    .done)))))))))))))))))))))))))))
  .ret)))))⟩
theorem ok4 : compF Try.prog c4 Try.f4 = some ir4 := by kernel_rfl
theorem k_bowlinelaw08_LensSizes {args : List AVal} {σ : AHeap} {Q : AVal → AHeap → Prop} (hl : Nat.ble args.length 70 = true) (h : argsK (Env.full 9) 0 args fun env => evC Try.prog c4 ir4.body env σ (retQ ir4 Q)) : ACalls Try.prog 4 args σ Q :=
  acalls_of Try.func4 ok4 rfl (Nat.le_of_ble_eq_true hl) h
/- bowlinelaw08.alive -/
def c9 : Cfg := ⟨qs, false, 77, []⟩
def ir9 : IFun := ⟨0, [.tmp s0],
  (.seq (.reg (.one ⟨some s0, none, (.mv (.c (.v (.bool false))))⟩
    .done))
  (.seq (.reg (.one ⟨some s12, none, (.row 1 [(.c (.v (.int .i64 5)))])⟩
    (.one ⟨some s13, none, (.callq 10 [(.t s12), (.c (.v (.int .i64 11)))])⟩
    (.one ⟨some s11, none, (.mv (.t s13))⟩
    (.one ⟨some s14, none, (.ext (.t s11) 0)⟩
    (.one ⟨some s15, none, (.ext (.t s11) 1)⟩
    (.one ⟨some s1, none, (.mv (.t s14))⟩
    (.one ⟨some s2, none, (.mv (.t s15))⟩
    .done))))))))
  (.seq (.reg (.one ⟨some s17, none, (.row 1 [(.c (.v (.int .u8 128))), (.c (.v (.int .u8 80))), (.c (.v (.int .u8 7))), (.c (.v (.int .u8 9)))])⟩
    (.one ⟨some s18, none, (.callq 11 [(.t s17), (.c (.v (.int .i64 11)))])⟩
    (.one ⟨some s16, none, (.mv (.t s18))⟩
    (.one ⟨some s19, none, (.ext (.t s16) 0)⟩
    (.one ⟨some s20, none, (.ext (.t s16) 1)⟩
    (.one ⟨some s21, none, (.ext (.t s16) 2)⟩
    (.one ⟨some s3, none, (.mv (.t s19))⟩
    (.one ⟨some s4, none, (.mv (.t s20))⟩
    (.one ⟨some s5, none, (.mv (.t s21))⟩
    .done))))))))))
  (.seq (.reg (.one ⟨some s23, none, (.row 1 [(.c (.v (.int .u8 0))), (.c (.v (.int .u8 81)))])⟩
    (.one ⟨some s24, none, (.callq 11 [(.t s23), (.c (.v (.int .i64 11)))])⟩
    (.one ⟨some s22, none, (.mv (.t s24))⟩
    (.one ⟨some s25, none, (.ext (.t s22) 0)⟩
    (.one ⟨some s26, none, (.ext (.t s22) 1)⟩
    (.one ⟨some s27, none, (.ext (.t s22) 2)⟩
    (.one ⟨some s6, none, (.mv (.t s25))⟩
    (.one ⟨some s7, none, (.mv (.t s26))⟩
    (.one ⟨some s8, none, (.mv (.t s27))⟩
    .done))))))))))
  (.seq (.reg (.one ⟨some s29, none, (.row 1 [(.c (.v (.int .i64 5)))])⟩
    (.one ⟨some s30, none, (.callq 10 [(.t s29), (.c (.v (.int .i64 12)))])⟩
    (.one ⟨some s28, none, (.mv (.t s30))⟩
    (.one ⟨some s31, none, (.ext (.t s28) 0)⟩
    (.one ⟨some s32, none, (.ext (.t s28) 1)⟩
    (.one ⟨some s9, none, (.mv (.t s31))⟩
    (.one ⟨some s10, none, (.mv (.t s32))⟩
    .done))))))))
  (.seq (.reg (.one ⟨some s33, none, (.mv (.t s1))⟩
    (.one ⟨some s34, none, (.b2s (.t s33))⟩
    (.one ⟨some s35, none, (.bin false .eql (.t s34) (.c (.v (.string ⟨#[0, 80]⟩))))⟩
    (.one ⟨some s36, none, (.mv (.t s35))⟩
    (.one ⟨some s37, some (s36, true), (.mv (.t s2))⟩
    (.one ⟨some s38, some (s36, true), (.bin false .eql (.t s37) (.c (.v (.int .i64 0))))⟩
    (.one ⟨some s39, none, (.pick (.t s36) (.t s38) (.c (.v (.bool false))))⟩
    (.one ⟨some s40, none, (.mv (.t s39))⟩
    (.one ⟨some s41, some (s40, true), (.mv (.t s3))⟩
    (.one ⟨some s42, some (s40, true), (.len false (.t s41))⟩
    (.one ⟨some s43, some (s40, true), (.bin false .eql (.t s42) (.c (.v (.int .i64 2))))⟩
    (.one ⟨some s44, none, (.pick (.t s40) (.t s43) (.c (.v (.bool false))))⟩
    (.one ⟨some s45, none, (.mv (.t s44))⟩
    (.one ⟨some s46, some (s45, true), (.mv (.t s3))⟩
    (.one ⟨some s47, some (s45, true), (.iaddr 1 (.t s46) (.c (.v (.int .i64 0))))⟩
    (.one ⟨some s48, some (s45, true), (.load none (.t s47))⟩
    (.one ⟨some s49, some (s45, true), (.bin false .eql (.t s48) (.c (.v (.int .i64 5))))⟩
    (.one ⟨some s50, none, (.pick (.t s45) (.t s49) (.c (.v (.bool false))))⟩
    (.one ⟨some s51, none, (.mv (.t s50))⟩
    (.one ⟨some s52, some (s51, true), (.mv (.t s3))⟩
    (.one ⟨some s53, some (s51, true), (.iaddr 1 (.t s52) (.c (.v (.int .i64 1))))⟩
    (.one ⟨some s54, some (s51, true), (.load none (.t s53))⟩
    (.one ⟨some s55, some (s51, true), (.bin false .eql (.t s54) (.c (.v (.int .i64 7))))⟩
    (.one ⟨some s56, none, (.pick (.t s51) (.t s55) (.c (.v (.bool false))))⟩
    (.one ⟨some s57, none, (.mv (.t s56))⟩
    (.one ⟨some s58, some (s57, true), (.mv (.t s4))⟩
    (.one ⟨some s59, some (s57, true), (.bin false .eql (.t s58) (.c (.v (.int .i64 3))))⟩
    (.one ⟨some s60, none, (.pick (.t s57) (.t s59) (.c (.v (.bool false))))⟩
    (.one ⟨some s61, none, (.mv (.t s60))⟩
    (.one ⟨some s62, some (s61, true), (.mv (.t s5))⟩
    (.one ⟨some s63, some (s61, true), (.bin false .eql (.t s62) (.c (.v (.int .i64 0))))⟩
    (.one ⟨some s64, none, (.pick (.t s61) (.t s63) (.c (.v (.bool false))))⟩
    (.one ⟨some s65, none, (.mv (.t s64))⟩
    (.one ⟨some s66, some (s65, true), (.mv (.t s8))⟩
    (.one ⟨some s67, some (s65, true), (.bin false .eql (.t s66) (.c (.v (.int .i64 3))))⟩
    (.one ⟨some s68, none, (.pick (.t s65) (.t s67) (.c (.v (.bool false))))⟩
    (.one ⟨some s69, none, (.mv (.t s68))⟩
    (.one ⟨some s70, some (s69, true), (.mv (.t s10))⟩
    (.one ⟨some s71, some (s69, true), (.bin false .eql (.t s70) (.c (.v (.int .i64 9))))⟩
    (.one ⟨some s72, none, (.pick (.t s69) (.t s71) (.c (.v (.bool false))))⟩
    (.one ⟨some s73, none, (.mv (.t s72))⟩
    (.one ⟨some s74, some (s73, true), (.callq 13 [(.c (.v (.int .i64 3))), (.c (.v (.int .i64 15)))])⟩
    (.one ⟨some s75, some (s73, true), (.bin false .eql (.t s74) (.c (.v (.int .i64 6))))⟩
    (.one ⟨some s76, none, (.pick (.t s73) (.t s75) (.c (.v (.bool false))))⟩
    (.one ⟨some s0, none, (.mv (.t s76))⟩
    .done))))))))))))))))))))))))))))))))))))))))))))))
  .ret))))))⟩
theorem ok9 : compF Try.prog c9 Try.f9 = some ir9 := by kernel_rfl
theorem k_bowlinelaw08_alive {args : List AVal} {σ : AHeap} {Q : AVal → AHeap → Prop} (hl : Nat.ble args.length 77 = true) (h : argsK (Env.full 9) 0 args fun env => evC Try.prog c9 ir9.body env σ (retQ ir9 Q)) : ACalls Try.prog 9 args σ Q :=
  acalls_of Try.func9 ok9 rfl (Nat.le_of_ble_eq_true hl) h
/- bowlinelaw08.same -/
def c12 : Cfg := ⟨qs, false, 26, []⟩
def ir12 : IFun := ⟨2, [.tmp s4],
  (.seq (.reg (.one ⟨some s4, none, (.mv (.c (.v (.bool false))))⟩
    .done))
  (.seq (.seq (.reg (.one ⟨some s6, none, (.mv (.t s0))⟩
    (.one ⟨some s7, none, (.len false (.t s6))⟩
    (.one ⟨some s8, none, (.mv (.t s1))⟩
    (.one ⟨some s9, none, (.len false (.t s8))⟩
    (.one ⟨some s10, none, (.bin false .neq (.t s7) (.t s9))⟩
    .done))))))
  (.cond (.t s10) (.seq (.reg (.one ⟨some s4, none, (.mv (.c (.v (.bool false))))⟩
    .done))
  .ret) .skip))
  (.seq (.seq (.reg (.one ⟨some s5, none, (.mv (.c (.v (.int .i64 0))))⟩
    .done))
  (.block 0 (.loop (.seq (.seq (.reg (.one ⟨some s11, none, (.mv (.t s5))⟩
    (.one ⟨some s12, none, (.mv (.t s0))⟩
    (.one ⟨some s13, none, (.len false (.t s12))⟩
    (.one ⟨some s14, none, (.bin false .lss (.t s11) (.t s13))⟩
    .done)))))
  (.cond (.t s14) .skip (.exit 0)))
  (.seq (.block 1 (.seq (.reg (.one ⟨some s17, none, (.mv (.t s0))⟩
    (.one ⟨some s18, none, (.mv (.t s5))⟩
    (.one ⟨some s19, none, (.iaddr 1 (.t s17) (.t s18))⟩
    (.one ⟨some s20, none, (.load none (.t s19))⟩
    (.one ⟨some s21, none, (.mv (.t s1))⟩
    (.one ⟨some s22, none, (.mv (.t s5))⟩
    (.one ⟨some s23, none, (.iaddr 1 (.t s21) (.t s22))⟩
    (.one ⟨some s24, none, (.load none (.t s23))⟩
    (.one ⟨some s25, none, (.bin false .neq (.t s20) (.t s24))⟩
    .done))))))))))
  (.cond (.t s25) (.seq (.reg (.one ⟨some s4, none, (.mv (.c (.v (.bool false))))⟩
    .done))
  .ret) .skip)))
  (.reg (.one ⟨some s15, none, (.mv (.t s5))⟩
    (.one ⟨some s16, none, (.bin false .add (.t s15) (.c (.v (.int .i64 1))))⟩
    (.one ⟨some s5, none, (.mv (.t s16))⟩
    .done)))))))))
  (.seq (.reg (.one ⟨some s4, none, (.mv (.c (.v (.bool true))))⟩
    .done))
  .ret))))⟩
theorem ok12 : compF Try.prog c12 Try.f12 = some ir12 := by kernel_rfl
theorem k_bowlinelaw08_same {args : List AVal} {σ : AHeap} {Q : AVal → AHeap → Prop} (hl : Nat.ble args.length 26 = true) (h : argsK (Env.full 9) 0 args fun env => evC Try.prog c12 ir12.body env σ (retQ ir12 Q)) : ACalls Try.prog 12 args σ Q :=
  acalls_of Try.func12 ok12 rfl (Nat.le_of_ble_eq_true hl) h
end Go.Proofs.Ytkdbmajkjlnpiac

