/-
  The bodies of one package, compiled to the framework's language (printed by a program of this session).
-/
import Derived.Test.YtmgjkfepcejgnaaIr0
namespace Go.Proofs.Ytmgjkfepcejgnaa
set_option linter.unusedVariables false
set_option linter.unusedSimpArgs false
open Go Go.Am
/- bowlinelaw07.CheckSums -/
def c3 : Cfg := ⟨qs, false, 68⟩
def ir3 : IFun := ⟨3, [.tmp s6],
  (.seq (.reg (.one ⟨some s6, none, (.mv (.c (.v (.bool false))))⟩
    .done))
  (.seq (.seq (.reg (.one ⟨some s11, none, (.mv (.t s1))⟩
    (.one ⟨some s12, none, (.len false (.t s11))⟩
    (.one ⟨some s13, none, (.bin false .gtr (.t s12) (.c (.v (.int .i64 3000))))⟩
    (.one ⟨some s14, none, (.mv (.t s13))⟩
    (.one ⟨some s15, some (s14, false), (.mv (.t s2))⟩
    (.one ⟨some s16, some (s14, false), (.len false (.t s15))⟩
    (.one ⟨some s17, some (s14, false), (.bin false .gtr (.t s16) (.c (.v (.int .i64 3000))))⟩
    (.one ⟨some s18, none, (.pick (.t s14) (.c (.v (.bool true))) (.t s17))⟩
    .done)))))))))
  (.cond (.t s18) (.seq (.reg (.one ⟨some s19, none, (.callq 6 [])⟩
    (.one ⟨some s6, none, (.mv (.t s19))⟩
    .done)))
  .ret) .skip))
  (.seq (.reg (.one ⟨some s21, none, (.mv (.t s2))⟩
    (.one ⟨some s22, none, (.callq 7 [(.t s21)])⟩
    (.one ⟨some s20, none, (.mv (.t s22))⟩
    (.one ⟨some s23, none, (.ext (.t s20) 0)⟩
    (.one ⟨some s24, none, (.ext (.t s20) 1)⟩
    (.one ⟨some s7, none, (.mv (.t s23))⟩
    (.one ⟨some s8, none, (.mv (.t s24))⟩
    .done))))))))
  (.seq (.reg (.one ⟨some s26, none, (.mv (.t s2))⟩
    (.one ⟨some s27, none, (.callq 8 [(.t s26)])⟩
    (.one ⟨some s25, none, (.mv (.t s27))⟩
    (.one ⟨some s28, none, (.ext (.t s25) 0)⟩
    (.one ⟨some s29, none, (.ext (.t s25) 1)⟩
    (.one ⟨some s9, none, (.mv (.t s28))⟩
    (.one ⟨some s10, none, (.mv (.t s29))⟩
    .done))))))))
  (.seq (.reg (.one ⟨some s30, none, (.callq 6 [])⟩
    (.one ⟨some s31, none, (.mv (.t s30))⟩
    (.one ⟨some s32, some (s31, true), (.mv (.t s1))⟩
    (.one ⟨some s34, some (s31, true), (.mv (.t s1))⟩
    (.one ⟨some s33, some (s31, true), (.callq 9 [(.t s32)])⟩
    (.one ⟨some s35, some (s31, true), (.callq 10 [(.c (.v (.int .u16 65535))), (.t s34)])⟩
    (.one ⟨some s36, some (s31, true), (.bin false .eql (.t s33) (.t s35))⟩
    (.one ⟨some s37, none, (.pick (.t s31) (.t s36) (.c (.v (.bool false))))⟩
    (.one ⟨some s38, none, (.mv (.t s37))⟩
    (.one ⟨some s39, some (s38, true), (.mv (.t s0))⟩
    (.one ⟨some s40, some (s38, true), (.mv (.t s1))⟩
    (.one ⟨some s42, some (s38, true), (.mv (.t s0))⟩
    (.one ⟨some s43, some (s38, true), (.mv (.t s1))⟩
    (.one ⟨some s41, some (s38, true), (.callq 11 [(.t s39), (.t s40)])⟩
    (.one ⟨some s44, some (s38, true), (.callq 10 [(.t s42), (.t s43)])⟩
    (.one ⟨some s45, some (s38, true), (.bin false .eql (.t s41) (.t s44))⟩
    (.one ⟨some s46, none, (.pick (.t s38) (.t s45) (.c (.v (.bool false))))⟩
    (.one ⟨some s47, none, (.mv (.t s46))⟩
    (.one ⟨some s48, some (s47, true), (.mv (.t s1))⟩
    (.one ⟨some s51, some (s47, true), (.mv (.t s1))⟩
    (.one ⟨some s49, some (s47, true), (.callq 12 [(.t s48)])⟩
    (.one ⟨some s50, some (s47, true), (.b2s (.t s49))⟩
    (.one ⟨some s52, some (s47, true), (.callq 13 [(.t s51)])⟩
    (.one ⟨some s53, some (s47, true), (.b2s (.t s52))⟩
    (.one ⟨some s54, some (s47, true), (.bin false .eql (.t s50) (.t s53))⟩
    (.one ⟨some s55, none, (.pick (.t s47) (.t s54) (.c (.v (.bool false))))⟩
    (.one ⟨some s56, none, (.mv (.t s55))⟩
    (.one ⟨some s57, some (s56, true), (.mv (.t s7))⟩
    (.one ⟨some s58, some (s56, true), (.b2s (.t s57))⟩
    (.one ⟨some s59, some (s56, true), (.mv (.t s9))⟩
    (.one ⟨some s60, some (s56, true), (.b2s (.t s59))⟩
    (.one ⟨some s61, some (s56, true), (.bin false .eql (.t s58) (.t s60))⟩
    (.one ⟨some s62, none, (.pick (.t s56) (.t s61) (.c (.v (.bool false))))⟩
    (.one ⟨some s63, none, (.mv (.t s62))⟩
    (.one ⟨some s64, some (s63, true), (.mv (.t s8))⟩
    (.one ⟨some s65, some (s63, true), (.mv (.t s10))⟩
    (.one ⟨some s66, some (s63, true), (.bin false .eql (.t s64) (.t s65))⟩
    (.one ⟨some s67, none, (.pick (.t s63) (.t s66) (.c (.v (.bool false))))⟩
    (.one ⟨some s6, none, (.mv (.t s67))⟩
    .done))))))))))))))))))))))))))))))))))))))))
  .ret)))))⟩
theorem ok3 : compF Try.prog c3 Try.f3 = some ir3 := by kernel_rfl
theorem k_bowlinelaw07_CheckSums {args : List AVal} {σ : AHeap} {Q : AVal → AHeap → Prop} (hl : Nat.ble args.length 68 = true) (h : argsK (Env.full 9) 0 args fun env => evC Try.prog c3 ir3.body env σ (retQ ir3 Q)) : ACalls Try.prog 3 args σ Q :=
  acalls_of Try.func3 ok3 rfl (Nat.le_of_ble_eq_true hl) h
/- bowlinelaw07.CheckParts -/
def c4 : Cfg := ⟨qs, false, 59⟩
def ir4 : IFun := ⟨2, [.tmp s4],
  (.seq (.reg (.one ⟨some s4, none, (.mv (.c (.v (.bool false))))⟩
    .done))
  (.seq (.seq (.reg (.one ⟨some s8, none, (.mv (.t s0))⟩
    (.one ⟨some s9, none, (.len false (.t s8))⟩
    (.one ⟨some s10, none, (.bin false .gtr (.t s9) (.c (.v (.int .i64 3000))))⟩
    (.one ⟨some s11, none, (.mv (.t s10))⟩
    (.one ⟨some s12, some (s11, false), (.mv (.t s1))⟩
    (.one ⟨some s13, some (s11, false), (.bin false .lss (.t s12) (.c (.v (.int .i64 0))))⟩
    (.one ⟨some s14, none, (.pick (.t s11) (.c (.v (.bool true))) (.t s13))⟩
    (.one ⟨some s15, none, (.mv (.t s14))⟩
    (.one ⟨some s16, some (s15, false), (.mv (.t s1))⟩
    (.one ⟨some s17, some (s15, false), (.mv (.t s0))⟩
    (.one ⟨some s18, some (s15, false), (.len false (.t s17))⟩
    (.one ⟨some s19, some (s15, false), (.bin false .gtr (.t s16) (.t s18))⟩
    (.one ⟨some s20, none, (.pick (.t s15) (.c (.v (.bool true))) (.t s19))⟩
    .done))))))))))))))
  (.cond (.t s20) (.seq (.reg (.one ⟨some s21, none, (.callq 6 [])⟩
    (.one ⟨some s4, none, (.mv (.t s21))⟩
    .done)))
  .ret) .skip))
  (.seq (.reg (.one ⟨some s22, none, (.mv (.t s0))⟩
    (.one ⟨some s23, none, (.callq 12 [(.t s22)])⟩
    (.one ⟨some s5, none, (.mv (.t s23))⟩
    .done))))
  (.seq (.reg (.one ⟨some s25, none, (.mv (.t s5))⟩
    (.one ⟨some s26, none, (.callq 7 [(.t s25)])⟩
    (.one ⟨some s24, none, (.mv (.t s26))⟩
    (.one ⟨some s27, none, (.ext (.t s24) 0)⟩
    (.one ⟨some s28, none, (.ext (.t s24) 1)⟩
    (.one ⟨some s6, none, (.mv (.t s27))⟩
    (.one ⟨some s7, none, (.mv (.t s28))⟩
    .done))))))))
  (.seq (.reg (.one ⟨some s29, none, (.callq 6 [])⟩
    (.one ⟨some s30, none, (.mv (.t s29))⟩
    (.one ⟨some s31, some (s30, true), (.mv (.t s0))⟩
    (.one ⟨some s32, some (s30, true), (.mv (.t s1))⟩
    (.one ⟨some s33, some (s30, true), (.cut 1 (.t s31) none (some (.t s32)) none)⟩
    (.one ⟨some s35, some (s30, true), (.mv (.t s0))⟩
    (.one ⟨some s36, some (s30, true), (.mv (.t s1))⟩
    (.one ⟨some s37, some (s30, true), (.cut 1 (.t s35) (some (.t s36)) none none)⟩
    (.one ⟨some s39, some (s30, true), (.mv (.t s0))⟩
    (.one ⟨some s34, some (s30, true), (.callq 9 [(.t s33)])⟩
    (.one ⟨some s38, some (s30, true), (.callq 11 [(.t s34), (.t s37)])⟩
    (.one ⟨some s40, some (s30, true), (.callq 9 [(.t s39)])⟩
    (.one ⟨some s41, some (s30, true), (.bin false .eql (.t s38) (.t s40))⟩
    (.one ⟨some s42, none, (.pick (.t s30) (.t s41) (.c (.v (.bool false))))⟩
    (.one ⟨some s43, none, (.mv (.t s42))⟩
    (.one ⟨some s44, some (s43, true), (.mv (.t s7))⟩
    (.one ⟨some s45, some (s43, true), (.bin false .eql (.t s44) (.c (.v (.int .i64 0))))⟩
    (.one ⟨some s46, none, (.pick (.t s43) (.t s45) (.c (.v (.bool false))))⟩
    (.one ⟨some s47, none, (.mv (.t s46))⟩
    (.one ⟨some s48, some (s47, true), (.mv (.t s6))⟩
    (.one ⟨some s49, some (s47, true), (.b2s (.t s48))⟩
    (.one ⟨some s50, some (s47, true), (.mv (.t s0))⟩
    (.one ⟨some s51, some (s47, true), (.b2s (.t s50))⟩
    (.one ⟨some s52, some (s47, true), (.bin false .eql (.t s49) (.t s51))⟩
    (.one ⟨some s53, none, (.pick (.t s47) (.t s52) (.c (.v (.bool false))))⟩
    (.one ⟨some s54, none, (.mv (.t s53))⟩
    (.one ⟨some s55, some (s54, true), (.mv (.t s5))⟩
    (.one ⟨some s56, some (s54, true), (.callq 9 [(.t s55)])⟩
    (.one ⟨some s57, some (s54, true), (.bin false .eql (.t s56) (.c (.v (.int .u16 0))))⟩
    (.one ⟨some s58, none, (.pick (.t s54) (.t s57) (.c (.v (.bool false))))⟩
    (.one ⟨some s4, none, (.mv (.t s58))⟩
    .done))))))))))))))))))))))))))))))))
  .ret)))))⟩
theorem ok4 : compF Try.prog c4 Try.f4 = some ir4 := by kernel_rfl
theorem k_bowlinelaw07_CheckParts {args : List AVal} {σ : AHeap} {Q : AVal → AHeap → Prop} (hl : Nat.ble args.length 59 = true) (h : argsK (Env.full 9) 0 args fun env => evC Try.prog c4 ir4.body env σ (retQ ir4 Q)) : ACalls Try.prog 4 args σ Q :=
  acalls_of Try.func4 ok4 rfl (Nat.le_of_ble_eq_true hl) h
/- bowlinelaw07.CheckBursts -/
def c5 : Cfg := ⟨[], false, 92⟩
def ir5 : IFun := ⟨3, [.tmp s6],
  (.seq (.reg (.one ⟨some s6, none, (.mv (.c (.v (.bool false))))⟩
    .done))
  (.seq (.reg (.one ⟨some s11, none, (.mv (.t s0))⟩
    (.one ⟨some s12, none, (.call 12 [(.t s11)])⟩
    (.one ⟨some s7, none, (.mv (.t s12))⟩
    .done))))
  (.seq (.seq (.reg (.one ⟨some s13, none, (.mv (.t s0))⟩
    (.one ⟨some s14, none, (.len false (.t s13))⟩
    (.one ⟨some s15, none, (.bin false .gtr (.t s14) (.c (.v (.int .i64 3000))))⟩
    (.one ⟨some s16, none, (.mv (.t s15))⟩
    (.one ⟨some s17, some (s16, false), (.mv (.t s7))⟩
    (.one ⟨some s18, some (s16, false), (.len false (.t s17))⟩
    (.one ⟨some s19, some (s16, false), (.mv (.t s0))⟩
    (.one ⟨some s20, some (s16, false), (.len false (.t s19))⟩
    (.one ⟨some s21, some (s16, false), (.bin false .add (.t s20) (.c (.v (.int .i64 2))))⟩
    (.one ⟨some s22, some (s16, false), (.bin false .neq (.t s18) (.t s21))⟩
    (.one ⟨some s23, none, (.pick (.t s16) (.c (.v (.bool true))) (.t s22))⟩
    (.one ⟨some s24, none, (.mv (.t s23))⟩
    (.one ⟨some s25, some (s24, false), (.mv (.t s2))⟩
    (.one ⟨some s26, some (s24, false), (.bin false .eql (.t s25) (.c (.v (.int .u16 0))))⟩
    (.one ⟨some s27, none, (.pick (.t s24) (.c (.v (.bool true))) (.t s26))⟩
    (.one ⟨some s28, none, (.mv (.t s27))⟩
    (.one ⟨some s29, some (s28, false), (.mv (.t s1))⟩
    (.one ⟨some s30, some (s28, false), (.bin false .lss (.t s29) (.c (.v (.int .i64 0))))⟩
    (.one ⟨some s31, none, (.pick (.t s28) (.c (.v (.bool true))) (.t s30))⟩
    (.one ⟨some s32, none, (.mv (.t s31))⟩
    (.one ⟨some s33, some (s32, false), (.mv (.t s1))⟩
    (.one ⟨some s34, some (s32, false), (.mv (.t s7))⟩
    (.one ⟨some s35, some (s32, false), (.len false (.t s34))⟩
    (.one ⟨some s36, some (s32, false), (.bin false .mul (.c (.v (.int .i64 8))) (.t s35))⟩
    (.one ⟨some s37, some (s32, false), (.bin false .sub (.t s36) (.c (.v (.int .i64 16))))⟩
    (.one ⟨some s38, some (s32, false), (.bin false .gtr (.t s33) (.t s37))⟩
    (.one ⟨some s39, none, (.pick (.t s32) (.c (.v (.bool true))) (.t s38))⟩
    .done))))))))))))))))))))))))))))
  (.cond (.t s39) (.seq (.reg (.one ⟨some s40, none, (.call 6 [])⟩
    (.one ⟨some s41, none, (.mv (.t s40))⟩
    (.one ⟨some s42, some (s41, true), (.mv (.t s7))⟩
    (.one ⟨some s43, some (s41, true), (.len false (.t s42))⟩
    (.one ⟨some s44, some (s41, true), (.mv (.t s0))⟩
    (.one ⟨some s45, some (s41, true), (.len false (.t s44))⟩
    (.one ⟨some s46, some (s41, true), (.bin false .add (.t s45) (.c (.v (.int .i64 2))))⟩
    (.one ⟨some s47, some (s41, true), (.bin false .eql (.t s43) (.t s46))⟩
    (.one ⟨some s48, none, (.pick (.t s41) (.t s47) (.c (.v (.bool false))))⟩
    (.one ⟨some s6, none, (.mv (.t s48))⟩
    .done)))))))))))
  .ret) .skip))
  (.seq (.seq (.reg (.one ⟨some s8, none, (.mv (.c (.v (.int .i64 0))))⟩
    .done))
  (.block 0 (.loop (.seq (.seq (.reg (.one ⟨some s49, none, (.mv (.t s8))⟩
    (.one ⟨some s50, none, (.bin false .lss (.t s49) (.c (.v (.int .i64 16))))⟩
    .done)))
  (.cond (.t s50) .skip (.exit 0)))
  (.seq (.block 1 (.seq (.reg (.one ⟨some s53, none, (.mv (.t s2))⟩
    (.one ⟨some s54, none, (.mv (.t s8))⟩
    (.one ⟨some s55, none, (.bin false .shr (.t s53) (.t s54))⟩
    (.one ⟨some s56, none, (.bin false .and (.t s55) (.c (.v (.int .u16 1))))⟩
    (.one ⟨some s57, none, (.bin false .eql (.t s56) (.c (.v (.int .u16 1))))⟩
    .done))))))
  (.cond (.t s57) (.reg (.one ⟨some s58, none, (.mv (.t s7))⟩
    (.one ⟨some s59, none, (.mv (.t s1))⟩
    (.one ⟨some s60, none, (.mv (.t s8))⟩
    (.one ⟨some s61, none, (.bin false .add (.t s59) (.t s60))⟩
    (.one ⟨some s62, none, (.bin false .quo (.t s61) (.c (.v (.int .i64 8))))⟩
    (.one ⟨some s63, none, (.mv (.t s7))⟩
    (.one ⟨some s64, none, (.mv (.t s1))⟩
    (.one ⟨some s65, none, (.mv (.t s8))⟩
    (.one ⟨some s66, none, (.bin false .add (.t s64) (.t s65))⟩
    (.one ⟨some s67, none, (.bin false .quo (.t s66) (.c (.v (.int .i64 8))))⟩
    (.one ⟨some s68, none, (.iaddr 1 (.t s63) (.t s67))⟩
    (.one ⟨some s69, none, (.load none (.t s68))⟩
    (.one ⟨some s70, none, (.mv (.t s1))⟩
    (.one ⟨some s71, none, (.mv (.t s8))⟩
    (.one ⟨some s72, none, (.bin false .add (.t s70) (.t s71))⟩
    (.one ⟨some s73, none, (.bin false .rem (.t s72) (.c (.v (.int .i64 8))))⟩
    (.one ⟨some s74, none, (.bin false .shr (.c (.v (.int .u8 128))) (.t s73))⟩
    (.one ⟨some s75, none, (.bin false .xor (.t s69) (.t s74))⟩
    (.one ⟨some s76, none, (.iaddr 1 (.t s58) (.t s62))⟩
    (.one ⟨none, none, (.store 1 (.t s76) (.t s75))⟩
    .done))))))))))))))))))))) .skip)))
  (.reg (.one ⟨some s51, none, (.mv (.t s8))⟩
    (.one ⟨some s52, none, (.bin false .add (.t s51) (.c (.v (.int .i64 1))))⟩
    (.one ⟨some s8, none, (.mv (.t s52))⟩
    .done)))))))))
  (.seq (.reg (.one ⟨some s78, none, (.mv (.t s7))⟩
    (.one ⟨some s79, none, (.call 7 [(.t s78)])⟩
    (.one ⟨some s77, none, (.mv (.t s79))⟩
    (.one ⟨some s80, none, (.ext (.t s77) 0)⟩
    (.one ⟨some s81, none, (.ext (.t s77) 1)⟩
    (.one ⟨some s9, none, (.mv (.t s80))⟩
    (.one ⟨some s10, none, (.mv (.t s81))⟩
    .done))))))))
  (.seq (.reg (.one ⟨some s82, none, (.call 6 [])⟩
    (.one ⟨some s83, none, (.mv (.t s82))⟩
    (.one ⟨some s84, some (s83, true), (.mv (.t s10))⟩
    (.one ⟨some s85, some (s83, true), (.bin false .eql (.t s84) (.c (.v (.int .i64 13))))⟩
    (.one ⟨some s86, none, (.pick (.t s83) (.t s85) (.c (.v (.bool false))))⟩
    (.one ⟨some s87, none, (.mv (.t s86))⟩
    (.one ⟨some s88, some (s87, true), (.mv (.t s9))⟩
    (.one ⟨some s89, some (s87, true), (.len false (.t s88))⟩
    (.one ⟨some s90, some (s87, true), (.bin false .eql (.t s89) (.c (.v (.int .i64 0))))⟩
    (.one ⟨some s91, none, (.pick (.t s87) (.t s90) (.c (.v (.bool false))))⟩
    (.one ⟨some s6, none, (.mv (.t s91))⟩
    .done))))))))))))
  .ret))))))⟩
theorem ok5 : compF Try.prog c5 Try.f5 = some ir5 := by kernel_rfl
theorem k_bowlinelaw07_CheckBursts {args : List AVal} {σ : AHeap} {Q : AVal → AHeap → Prop} (hl : Nat.ble args.length 92 = true) (h : argsK (Env.full 9) 0 args fun env => evC Try.prog c5 ir5.body env σ (retQ ir5 Q)) : ACalls Try.prog 5 args σ Q :=
  acalls_of Try.func5 ok5 rfl (Nat.le_of_ble_eq_true hl) h
/- bowlinelaw07.alive -/
def c6 : Cfg := ⟨qs, false, 43⟩
def ir6 : IFun := ⟨0, [.tmp s0],
  (.seq (.reg (.one ⟨some s0, none, (.mv (.c (.v (.bool false))))⟩
    .done))
  (.seq (.reg (.one ⟨some s8, none, (.rowT 1 [(.c (.v (.int .u8 97))), (.c (.v (.int .u8 98))), (.c (.v (.int .u8 99))), (.c (.v (.int .u8 81))), (.c (.v (.int .u8 74)))])⟩
    (.one ⟨some s9, none, (.callq 7 [(.t s8)])⟩
    (.one ⟨some s7, none, (.mv (.t s9))⟩
    (.one ⟨some s10, none, (.ext (.t s7) 0)⟩
    (.one ⟨some s11, none, (.ext (.t s7) 1)⟩
    (.one ⟨some s1, none, (.mv (.t s10))⟩
    (.one ⟨some s2, none, (.mv (.t s11))⟩
    .done))))))))
  (.seq (.reg (.one ⟨some s13, none, (.rowT 1 [(.c (.v (.int .u8 1)))])⟩
    (.one ⟨some s14, none, (.callq 7 [(.t s13)])⟩
    (.one ⟨some s12, none, (.mv (.t s14))⟩
    (.one ⟨some s15, none, (.ext (.t s12) 0)⟩
    (.one ⟨some s16, none, (.ext (.t s12) 1)⟩
    (.one ⟨some s3, none, (.mv (.t s15))⟩
    (.one ⟨some s4, none, (.mv (.t s16))⟩
    .done))))))))
  (.seq (.reg (.one ⟨some s18, none, (.rowT 1 [(.c (.v (.int .u8 1))), (.c (.v (.int .u8 2))), (.c (.v (.int .u8 3)))])⟩
    (.one ⟨some s19, none, (.callq 7 [(.t s18)])⟩
    (.one ⟨some s17, none, (.mv (.t s19))⟩
    (.one ⟨some s20, none, (.ext (.t s17) 0)⟩
    (.one ⟨some s21, none, (.ext (.t s17) 1)⟩
    (.one ⟨some s5, none, (.mv (.t s20))⟩
    (.one ⟨some s6, none, (.mv (.t s21))⟩
    .done))))))))
  (.seq (.reg (.one ⟨some s22, none, (.rowT 1 [(.c (.v (.int .u8 49))), (.c (.v (.int .u8 50))), (.c (.v (.int .u8 51))), (.c (.v (.int .u8 52))), (.c (.v (.int .u8 53))), (.c (.v (.int .u8 54))), (.c (.v (.int .u8 55))), (.c (.v (.int .u8 56))), (.c (.v (.int .u8 57)))])⟩
    (.one ⟨some s23, none, (.mark (.t s22))⟩
    (.one ⟨some s24, none, (.callq 9 [(.t s23)])⟩
    (.one ⟨some s25, none, (.bin false .eql (.t s24) (.c (.v (.int .u16 10673))))⟩
    (.one ⟨some s26, none, (.mv (.t s25))⟩
    (.one ⟨some s27, some (s26, true), (.mv (.t s1))⟩
    (.one ⟨some s28, some (s26, true), (.b2s (.t s27))⟩
    (.one ⟨some s29, some (s26, true), (.bin false .eql (.t s28) (.c (.v (.string ⟨#[97, 98, 99]⟩))))⟩
    (.one ⟨some s30, none, (.pick (.t s26) (.t s29) (.c (.v (.bool false))))⟩
    (.one ⟨some s31, none, (.mv (.t s30))⟩
    (.one ⟨some s32, some (s31, true), (.mv (.t s2))⟩
    (.one ⟨some s33, some (s31, true), (.bin false .eql (.t s32) (.c (.v (.int .i64 0))))⟩
    (.one ⟨some s34, none, (.pick (.t s31) (.t s33) (.c (.v (.bool false))))⟩
    (.one ⟨some s35, none, (.mv (.t s34))⟩
    (.one ⟨some s36, some (s35, true), (.mv (.t s4))⟩
    (.one ⟨some s37, some (s35, true), (.bin false .eql (.t s36) (.c (.v (.int .i64 8))))⟩
    (.one ⟨some s38, none, (.pick (.t s35) (.t s37) (.c (.v (.bool false))))⟩
    (.one ⟨some s39, none, (.mv (.t s38))⟩
    (.one ⟨some s40, some (s39, true), (.mv (.t s6))⟩
    (.one ⟨some s41, some (s39, true), (.bin false .eql (.t s40) (.c (.v (.int .i64 13))))⟩
    (.one ⟨some s42, none, (.pick (.t s39) (.t s41) (.c (.v (.bool false))))⟩
    (.one ⟨some s0, none, (.mv (.t s42))⟩
    .done)))))))))))))))))))))))
  .ret)))))⟩
theorem ok6 : compF Try.prog c6 Try.f6 = some ir6 := by kernel_rfl
theorem k_bowlinelaw07_alive {args : List AVal} {σ : AHeap} {Q : AVal → AHeap → Prop} (hl : Nat.ble args.length 43 = true) (h : argsK (Env.full 9) 0 args fun env => evC Try.prog c6 ir6.body env σ (retQ ir6 Q)) : ACalls Try.prog 6 args σ Q :=
  acalls_of Try.func6 ok6 rfl (Nat.le_of_ble_eq_true hl) h
end Go.Proofs.Ytmgjkfepcejgnaa
