/-
  The bodies of one package, compiled to the framework's language (printed by a program of this session).
-/
import Derived.Test.YtkdbmajkjlnpiabIr0
namespace Go.Proofs.Ytkdbmajkjlnpiab
set_option linter.unusedVariables false
set_option linter.unusedSimpArgs false
open Go Go.Am
/- bowlinelaw38.BsrBytes -/
def c8 : Cfg := ⟨qs, false, 64, []⟩
def ir8 : IFun := ⟨2, [.tmp s4],
  (.seq (.reg (.one ⟨some s2, none, (.box 4 (.t s0))⟩
    (.one ⟨some s4, none, (.mv (.c (.v (.bool false))))⟩
    .done)))
  (.seq (.seq (.reg (.one ⟨some s11, none, (.mv (.t s1))⟩
    (.one ⟨some s12, none, (.len false (.t s11))⟩
    (.one ⟨some s13, none, (.bin false .gtr (.t s12) (.c (.v (.int .i64 100))))⟩
    .done))))
  (.cond (.t s13) (.seq (.reg (.one ⟨some s14, none, (.callq 44 [])⟩
    (.one ⟨some s4, none, (.mv (.t s14))⟩
    .done)))
  .ret) .skip))
  (.seq (.reg (.one ⟨some s16, none, (.load (some 4) (.t s2))⟩
    (.one ⟨some s17, none, (.callq 45 [(.t s16)])⟩
    (.one ⟨some s15, none, (.mv (.t s17))⟩
    (.one ⟨some s18, none, (.ext (.t s15) 0)⟩
    (.one ⟨some s19, none, (.ext (.t s15) 1)⟩
    (.one ⟨some s5, none, (.mv (.t s18))⟩
    (.one ⟨some s6, none, (.mv (.t s19))⟩
    .done))))))))
  (.seq (.reg (.one ⟨some s21, none, (.mv (.t s1))⟩
    (.one ⟨some s22, none, (.callq 46 [(.t s21)])⟩
    (.one ⟨some s20, none, (.mv (.t s22))⟩
    (.one ⟨some s23, none, (.ext (.t s20) 0)⟩
    (.one ⟨some s24, none, (.ext (.t s20) 1)⟩
    (.one ⟨some s7, none, (.new [(.v (.int .i64 0)), (.v (.int .i64 0)), (.v (.int .i64 0)), (.v (.int .i64 0))])⟩
    (.one ⟨none, none, (.store 4 (.t s7) (.t s23))⟩
    (.one ⟨some s8, none, (.mv (.t s24))⟩
    .done)))))))))
  (.seq (.reg (.one ⟨some s26, none, (.mv (.t s1))⟩
    (.one ⟨some s27, none, (.callq 47 [(.t s26)])⟩
    (.one ⟨some s25, none, (.mv (.t s27))⟩
    (.one ⟨some s28, none, (.ext (.t s25) 0)⟩
    (.one ⟨some s29, none, (.ext (.t s25) 1)⟩
    (.one ⟨some s9, none, (.new [(.v (.int .i64 0)), (.v (.int .i64 0)), (.v (.int .i64 0)), (.v (.int .i64 0))])⟩
    (.one ⟨none, none, (.store 4 (.t s9) (.t s28))⟩
    (.one ⟨some s10, none, (.mv (.t s29))⟩
    .done)))))))))
  (.seq (.seq (.reg (.one ⟨some s30, none, (.load (some 4) (.t s7))⟩
    (.one ⟨some s31, none, (.load (some 4) (.t s9))⟩
    (.one ⟨some s32, none, (.eqAgg true 4 (.t s30) (.t s31))⟩
    (.one ⟨some s33, none, (.mv (.t s32))⟩
    (.one ⟨some s34, some (s33, false), (.mv (.t s8))⟩
    (.one ⟨some s35, some (s33, false), (.mv (.t s10))⟩
    (.one ⟨some s36, some (s33, false), (.bin false .neq (.t s34) (.t s35))⟩
    (.one ⟨some s37, none, (.pick (.t s33) (.c (.v (.bool true))) (.t s36))⟩
    .done)))))))))
  (.cond (.t s37) (.seq (.reg (.one ⟨some s4, none, (.mv (.c (.v (.bool false))))⟩
    .done))
  .ret) .skip))
  (.seq (.seq (.reg (.one ⟨some s38, none, (.load (some 4) (.t s2))⟩
    (.one ⟨some s39, none, (.callq 48 [(.t s38)])⟩
    (.one ⟨some s40, none, (.not (.t s39))⟩
    .done))))
  (.cond (.t s40) (.seq (.reg (.one ⟨some s41, none, (.callq 44 [])⟩
    (.one ⟨some s42, none, (.mv (.t s41))⟩
    (.one ⟨some s43, some (s42, true), (.mv (.t s6))⟩
    (.one ⟨some s44, some (s42, true), (.bin false .eql (.t s43) (.c (.v (.int .i64 3))))⟩
    (.one ⟨some s45, none, (.pick (.t s42) (.t s44) (.c (.v (.bool false))))⟩
    (.one ⟨some s46, none, (.mv (.t s45))⟩
    (.one ⟨some s47, some (s46, true), (.mv (.t s5))⟩
    (.one ⟨some s48, some (s46, true), (.len false (.t s47))⟩
    (.one ⟨some s49, some (s46, true), (.bin false .eql (.t s48) (.c (.v (.int .i64 0))))⟩
    (.one ⟨some s50, none, (.pick (.t s46) (.t s49) (.c (.v (.bool false))))⟩
    (.one ⟨some s4, none, (.mv (.t s50))⟩
    .done))))))))))))
  .ret) .skip))
  (.seq (.reg (.one ⟨some s51, none, (.callq 44 [])⟩
    (.one ⟨some s52, none, (.mv (.t s51))⟩
    (.one ⟨some s53, some (s52, true), (.mv (.t s6))⟩
    (.one ⟨some s54, some (s52, true), (.bin false .eql (.t s53) (.c (.v (.int .i64 0))))⟩
    (.one ⟨some s55, none, (.pick (.t s52) (.t s54) (.c (.v (.bool false))))⟩
    (.one ⟨some s56, none, (.mv (.t s55))⟩
    (.one ⟨some s57, some (s56, true), (.mv (.t s5))⟩
    (.one ⟨some s58, some (s56, true), (.b2s (.t s57))⟩
    (.one ⟨some s59, some (s56, true), (.load (some 4) (.t s2))⟩
    (.one ⟨some s60, some (s56, true), (.callq 49 [(.t s59)])⟩
    (.one ⟨some s61, some (s56, true), (.b2s (.t s60))⟩
    (.one ⟨some s62, some (s56, true), (.bin false .eql (.t s58) (.t s61))⟩
    (.one ⟨some s63, none, (.pick (.t s56) (.t s62) (.c (.v (.bool false))))⟩
    (.one ⟨some s4, none, (.mv (.t s63))⟩
    .done)))))))))))))))
  .ret))))))))⟩
theorem ok8 : compF Try.prog c8 Try.f8 = some ir8 := by kernel_rfl
theorem k_bowlinelaw38_BsrBytes {args : List AVal} {σ : AHeap} {Q : AVal → AHeap → Prop} (hl : Nat.ble args.length 64 = true) (h : argsK (Env.full 9) 0 args fun env => evC Try.prog c8 ir8.body env σ (retQ ir8 Q)) : ACalls Try.prog 8 args σ Q :=
  acalls_of Try.func8 ok8 rfl (Nat.le_of_ble_eq_true hl) h
/- bowlinelaw38.BsrRough -/
def c9 : Cfg := ⟨qs, false, 123, []⟩
def ir9 : IFun := ⟨3, [.tmp s6],
  (.seq (.reg (.one ⟨some s6, none, (.mv (.c (.v (.bool false))))⟩
    .done))
  (.seq (.reg (.one ⟨some s18, none, (.mv (.t s0))⟩
    (.one ⟨some s19, none, (.callq 50 [(.t s18)])⟩
    (.one ⟨some s17, none, (.mv (.t s19))⟩
    (.one ⟨some s20, none, (.ext (.t s17) 0)⟩
    (.one ⟨some s21, none, (.ext (.t s17) 1)⟩
    (.one ⟨some s7, none, (.mv (.t s20))⟩
    (.one ⟨some s8, none, (.mv (.t s21))⟩
    .done))))))))
  (.seq (.reg (.one ⟨some s23, none, (.mv (.t s1))⟩
    (.one ⟨some s24, none, (.callq 50 [(.t s23)])⟩
    (.one ⟨some s22, none, (.mv (.t s24))⟩
    (.one ⟨some s25, none, (.ext (.t s22) 0)⟩
    (.one ⟨some s26, none, (.ext (.t s22) 1)⟩
    (.one ⟨some s9, none, (.mv (.t s25))⟩
    (.one ⟨some s10, none, (.mv (.t s26))⟩
    .done))))))))
  (.seq (.reg (.one ⟨some s28, none, (.mv (.t s7))⟩
    (.one ⟨some s29, none, (.callq 51 [(.t s28)])⟩
    (.one ⟨some s27, none, (.mv (.t s29))⟩
    (.one ⟨some s30, none, (.ext (.t s27) 0)⟩
    (.one ⟨some s31, none, (.ext (.t s27) 1)⟩
    (.one ⟨some s11, none, (.mv (.t s30))⟩
    (.one ⟨some s12, none, (.mv (.t s31))⟩
    .done))))))))
  (.seq (.seq (.reg (.one ⟨some s32, none, (.mv (.t s0))⟩
    (.one ⟨some s33, none, (.bin false .lss (.t s32) (.c (.v (.int .i64 0))))⟩
    (.one ⟨some s34, none, (.mv (.t s33))⟩
    (.one ⟨some s35, some (s34, false), (.mv (.t s1))⟩
    (.one ⟨some s36, some (s34, false), (.bin false .lss (.t s35) (.c (.v (.int .i64 0))))⟩
    (.one ⟨some s37, none, (.pick (.t s34) (.c (.v (.bool true))) (.t s36))⟩
    .done)))))))
  (.cond (.t s37) (.seq (.reg (.one ⟨some s38, none, (.callq 44 [])⟩
    (.one ⟨some s39, none, (.mv (.t s38))⟩
    (.one ⟨some s40, some (s39, true), (.mv (.t s8))⟩
    (.one ⟨some s41, some (s39, true), (.bin false .eql (.t s40) (.c (.v (.int .i64 0))))⟩
    (.one ⟨some s42, some (s39, true), (.mv (.t s0))⟩
    (.one ⟨some s43, some (s39, true), (.bin false .geq (.t s42) (.c (.v (.int .i64 0))))⟩
    (.one ⟨some s44, some (s39, true), (.bin true .eql (.t s41) (.t s43))⟩
    (.one ⟨some s45, none, (.pick (.t s39) (.t s44) (.c (.v (.bool false))))⟩
    (.one ⟨some s46, none, (.mv (.t s45))⟩
    (.one ⟨some s47, some (s46, true), (.mv (.t s10))⟩
    (.one ⟨some s48, some (s46, true), (.bin false .eql (.t s47) (.c (.v (.int .i64 0))))⟩
    (.one ⟨some s49, some (s46, true), (.mv (.t s1))⟩
    (.one ⟨some s50, some (s46, true), (.bin false .geq (.t s49) (.c (.v (.int .i64 0))))⟩
    (.one ⟨some s51, some (s46, true), (.bin true .eql (.t s48) (.t s50))⟩
    (.one ⟨some s52, none, (.pick (.t s46) (.t s51) (.c (.v (.bool false))))⟩
    (.one ⟨some s6, none, (.mv (.t s52))⟩
    .done)))))))))))))))))
  .ret) .skip))
  (.seq (.seq (.reg (.one ⟨some s53, none, (.mv (.t s8))⟩
    (.one ⟨some s54, none, (.bin false .neq (.t s53) (.c (.v (.int .i64 0))))⟩
    (.one ⟨some s55, none, (.mv (.t s54))⟩
    (.one ⟨some s56, some (s55, false), (.mv (.t s10))⟩
    (.one ⟨some s57, some (s55, false), (.bin false .neq (.t s56) (.c (.v (.int .i64 0))))⟩
    (.one ⟨some s58, none, (.pick (.t s55) (.c (.v (.bool true))) (.t s57))⟩
    (.one ⟨some s59, none, (.mv (.t s58))⟩
    (.one ⟨some s60, some (s59, false), (.mv (.t s12))⟩
    (.one ⟨some s61, some (s59, false), (.bin false .neq (.t s60) (.c (.v (.int .i64 0))))⟩
    (.one ⟨some s62, none, (.pick (.t s59) (.c (.v (.bool true))) (.t s61))⟩
    (.one ⟨some s63, none, (.mv (.t s62))⟩
    (.one ⟨some s64, some (s63, false), (.mv (.t s11))⟩
    (.one ⟨some s65, some (s63, false), (.mv (.t s0))⟩
    (.one ⟨some s66, some (s63, false), (.bin false .gtr (.t s64) (.t s65))⟩
    (.one ⟨some s67, none, (.pick (.t s63) (.c (.v (.bool true))) (.t s66))⟩
    (.one ⟨some s68, none, (.mv (.t s67))⟩
    (.one ⟨some s69, some (s68, false), (.mv (.t s0))⟩
    (.one ⟨some s70, some (s68, false), (.mv (.t s1))⟩
    (.one ⟨some s71, some (s68, false), (.bin false .leq (.t s69) (.t s70))⟩
    (.one ⟨some s72, some (s68, false), (.mv (.t s71))⟩
    (.one ⟨some s73, some (s72, true), (.mv (.t s7))⟩
    (.one ⟨some s74, some (s72, true), (.mv (.t s9))⟩
    (.one ⟨some s75, some (s72, true), (.bin false .gtr (.t s73) (.t s74))⟩
    (.one ⟨some s76, some (s68, false), (.pick (.t s72) (.t s75) (.c (.v (.bool false))))⟩
    (.one ⟨some s77, none, (.pick (.t s68) (.c (.v (.bool true))) (.t s76))⟩
    .done))))))))))))))))))))))))))
  (.cond (.t s77) (.seq (.reg (.one ⟨some s6, none, (.mv (.c (.v (.bool false))))⟩
    .done))
  .ret) .skip))
  (.seq (.seq (.reg (.one ⟨some s78, none, (.mv (.t s7))⟩
    (.one ⟨some s79, none, (.bin false .lss (.t s78) (.c (.v (.int .i64 63))))⟩
    (.one ⟨some s80, none, (.mv (.t s79))⟩
    (.one ⟨some s81, some (s80, true), (.mv (.t s0))⟩
    (.one ⟨some s82, some (s80, true), (.bin false .leq (.t s81) (.c (.v (.int .i64 1099511627776))))⟩
    (.one ⟨some s83, none, (.pick (.t s80) (.t s82) (.c (.v (.bool false))))⟩
    (.one ⟨some s84, none, (.mv (.t s83))⟩
    (.one ⟨some s85, some (s84, true), (.mv (.t s11))⟩
    (.one ⟨some s86, some (s84, true), (.bin false .mul (.c (.v (.int .i64 7))) (.t s85))⟩
    (.one ⟨some s87, some (s84, true), (.bin false .add (.t s86) (.c (.v (.int .i64 7))))⟩
    (.one ⟨some s88, some (s84, true), (.mv (.t s0))⟩
    (.one ⟨some s89, some (s84, true), (.bin false .mul (.c (.v (.int .i64 6))) (.t s88))⟩
    (.one ⟨some s90, some (s84, true), (.bin false .lss (.t s87) (.t s89))⟩
    (.one ⟨some s91, none, (.pick (.t s84) (.t s90) (.c (.v (.bool false))))⟩
    .done)))))))))))))))
  (.cond (.t s91) (.seq (.reg (.one ⟨some s6, none, (.mv (.c (.v (.bool false))))⟩
    .done))
  .ret) .skip))
  (.seq (.reg (.one ⟨some s93, none, (.mv (.t s2))⟩
    (.one ⟨some s94, none, (.callq 51 [(.t s93)])⟩
    (.one ⟨some s92, none, (.mv (.t s94))⟩
    (.one ⟨some s95, none, (.ext (.t s92) 0)⟩
    (.one ⟨some s96, none, (.ext (.t s92) 1)⟩
    (.one ⟨some s13, none, (.mv (.t s95))⟩
    (.one ⟨some s14, none, (.mv (.t s96))⟩
    .done))))))))
  (.seq (.seq (.reg (.one ⟨some s97, none, (.mv (.t s14))⟩
    (.one ⟨some s98, none, (.bin false .neq (.t s97) (.c (.v (.int .i64 0))))⟩
    .done)))
  (.cond (.t s98) (.seq (.reg (.one ⟨some s99, none, (.callq 44 [])⟩
    (.one ⟨some s100, none, (.mv (.t s99))⟩
    (.one ⟨some s101, some (s100, true), (.mv (.t s2))⟩
    (.one ⟨some s102, some (s100, true), (.bin false .lss (.t s101) (.c (.v (.int .i64 0))))⟩
    (.one ⟨some s103, some (s100, true), (.mv (.t s102))⟩
    (.one ⟨some s104, some (s103, false), (.mv (.t s2))⟩
    (.one ⟨some s105, some (s103, false), (.bin false .gtr (.t s104) (.c (.v (.int .i64 63))))⟩
    (.one ⟨some s106, some (s100, true), (.pick (.t s103) (.c (.v (.bool true))) (.t s105))⟩
    (.one ⟨some s107, none, (.pick (.t s100) (.t s106) (.c (.v (.bool false))))⟩
    (.one ⟨some s6, none, (.mv (.t s107))⟩
    .done)))))))))))
  .ret) .skip))
  (.seq (.reg (.one ⟨some s109, none, (.mv (.t s13))⟩
    (.one ⟨some s110, none, (.callq 50 [(.t s109)])⟩
    (.one ⟨some s108, none, (.mv (.t s110))⟩
    (.one ⟨some s111, none, (.ext (.t s108) 0)⟩
    (.one ⟨some s112, none, (.ext (.t s108) 1)⟩
    (.one ⟨some s15, none, (.mv (.t s111))⟩
    (.one ⟨some s16, none, (.mv (.t s112))⟩
    .done))))))))
  (.seq (.reg (.one ⟨some s113, none, (.callq 44 [])⟩
    (.one ⟨some s114, none, (.mv (.t s113))⟩
    (.one ⟨some s115, some (s114, true), (.mv (.t s16))⟩
    (.one ⟨some s116, some (s114, true), (.bin false .eql (.t s115) (.c (.v (.int .i64 0))))⟩
    (.one ⟨some s117, none, (.pick (.t s114) (.t s116) (.c (.v (.bool false))))⟩
    (.one ⟨some s118, none, (.mv (.t s117))⟩
    (.one ⟨some s119, some (s118, true), (.mv (.t s15))⟩
    (.one ⟨some s120, some (s118, true), (.mv (.t s2))⟩
    (.one ⟨some s121, some (s118, true), (.bin false .eql (.t s119) (.t s120))⟩
    (.one ⟨some s122, none, (.pick (.t s118) (.t s121) (.c (.v (.bool false))))⟩
    (.one ⟨some s6, none, (.mv (.t s122))⟩
    .done))))))))))))
  .ret)))))))))))⟩
theorem ok9 : compF Try.prog c9 Try.f9 = some ir9 := by kernel_rfl
theorem k_bowlinelaw38_BsrRough {args : List AVal} {σ : AHeap} {Q : AVal → AHeap → Prop} (hl : Nat.ble args.length 123 = true) (h : argsK (Env.full 9) 0 args fun env => evC Try.prog c9 ir9.body env σ (retQ ir9 Q)) : ACalls Try.prog 9 args σ Q :=
  acalls_of Try.func9 ok9 rfl (Nat.le_of_ble_eq_true hl) h
/- bowlinelaw38.BsrBack -/
def c10 : Cfg := ⟨qs, false, 73, []⟩
def ir10 : IFun := ⟨4, [.tmp s8],
  (.seq (.reg (.one ⟨some s4, none, (.box 4 (.t s0))⟩
    (.one ⟨some s8, none, (.mv (.c (.v (.bool false))))⟩
    .done)))
  (.seq (.reg (.one ⟨some s18, none, (.load (some 4) (.t s4))⟩
    (.one ⟨some s19, none, (.callq 45 [(.t s18)])⟩
    (.one ⟨some s17, none, (.mv (.t s19))⟩
    (.one ⟨some s20, none, (.ext (.t s17) 0)⟩
    (.one ⟨some s21, none, (.ext (.t s17) 1)⟩
    (.one ⟨some s9, none, (.mv (.t s20))⟩
    (.one ⟨some s10, none, (.mv (.t s21))⟩
    .done))))))))
  (.seq (.seq (.reg (.one ⟨some s22, none, (.mv (.t s10))⟩
    (.one ⟨some s23, none, (.bin false .eql (.t s22) (.c (.v (.int .i64 0))))⟩
    .done)))
  (.cond (.t s23) (.seq (.reg (.one ⟨some s25, none, (.mv (.t s9))⟩
    (.one ⟨some s26, none, (.callq 46 [(.t s25)])⟩
    (.one ⟨some s24, none, (.mv (.t s26))⟩
    (.one ⟨some s27, none, (.ext (.t s24) 0)⟩
    (.one ⟨some s28, none, (.ext (.t s24) 1)⟩
    (.one ⟨some s11, none, (.new [(.v (.int .i64 0)), (.v (.int .i64 0)), (.v (.int .i64 0)), (.v (.int .i64 0))])⟩
    (.one ⟨none, none, (.store 4 (.t s11) (.t s27))⟩
    (.one ⟨some s12, none, (.mv (.t s28))⟩
    .done)))))))))
  (.seq (.reg (.one ⟨some s29, none, (.mv (.t s12))⟩
    (.one ⟨some s30, none, (.bin false .neq (.t s29) (.c (.v (.int .i64 0))))⟩
    (.one ⟨some s31, none, (.mv (.t s30))⟩
    (.one ⟨some s32, some (s31, false), (.load (some 4) (.t s11))⟩
    (.one ⟨some s33, some (s31, false), (.load (some 4) (.t s4))⟩
    (.one ⟨some s34, some (s31, false), (.eqAgg true 4 (.t s32) (.t s33))⟩
    (.one ⟨some s35, none, (.pick (.t s31) (.c (.v (.bool true))) (.t s34))⟩
    (.one ⟨some s36, none, (.mv (.t s35))⟩
    (.one ⟨some s37, some (s36, false), (.mv (.t s9))⟩
    (.one ⟨some s38, some (s36, false), (.len false (.t s37))⟩
    (.one ⟨some s39, some (s36, false), (.bin false .neq (.t s38) (.c (.v (.int .i64 3))))⟩
    (.one ⟨some s40, none, (.pick (.t s36) (.c (.v (.bool true))) (.t s39))⟩
    .done)))))))))))))
  (.cond (.t s40) (.seq (.reg (.one ⟨some s8, none, (.mv (.c (.v (.bool false))))⟩
    .done))
  .ret) .skip))) .skip))
  (.seq (.reg (.one ⟨some s42, none, (.mv (.t s1))⟩
    (.one ⟨some s43, none, (.mv (.t s2))⟩
    (.one ⟨some s44, none, (.mv (.t s3))⟩
    (.one ⟨some s45, none, (.row 1 [(.t s42), (.t s43), (.t s44)])⟩
    (.one ⟨some s46, none, (.callq 46 [(.t s45)])⟩
    (.one ⟨some s41, none, (.mv (.t s46))⟩
    (.one ⟨some s47, none, (.ext (.t s41) 0)⟩
    (.one ⟨some s48, none, (.ext (.t s41) 1)⟩
    (.one ⟨some s13, none, (.new [(.v (.int .i64 0)), (.v (.int .i64 0)), (.v (.int .i64 0)), (.v (.int .i64 0))])⟩
    (.one ⟨none, none, (.store 4 (.t s13) (.t s47))⟩
    (.one ⟨some s14, none, (.mv (.t s48))⟩
    .done))))))))))))
  (.seq (.reg (.one ⟨some s50, none, (.load (some 4) (.t s13))⟩
    (.one ⟨some s51, none, (.callq 45 [(.t s50)])⟩
    (.one ⟨some s49, none, (.mv (.t s51))⟩
    (.one ⟨some s52, none, (.ext (.t s49) 0)⟩
    (.one ⟨some s53, none, (.ext (.t s49) 1)⟩
    (.one ⟨some s15, none, (.mv (.t s52))⟩
    (.one ⟨some s16, none, (.mv (.t s53))⟩
    .done))))))))
  (.seq (.reg (.one ⟨some s54, none, (.callq 44 [])⟩
    (.one ⟨some s55, none, (.mv (.t s54))⟩
    (.one ⟨some s56, some (s55, true), (.mv (.t s14))⟩
    (.one ⟨some s57, some (s55, true), (.bin false .eql (.t s56) (.c (.v (.int .i64 0))))⟩
    (.one ⟨some s58, none, (.pick (.t s55) (.t s57) (.c (.v (.bool false))))⟩
    (.one ⟨some s59, none, (.mv (.t s58))⟩
    (.one ⟨some s60, some (s59, true), (.mv (.t s16))⟩
    (.one ⟨some s61, some (s59, true), (.bin false .eql (.t s60) (.c (.v (.int .i64 0))))⟩
    (.one ⟨some s62, none, (.pick (.t s59) (.t s61) (.c (.v (.bool false))))⟩
    (.one ⟨some s63, none, (.mv (.t s62))⟩
    (.one ⟨some s64, some (s63, true), (.mv (.t s15))⟩
    (.one ⟨some s65, some (s63, true), (.b2s (.t s64))⟩
    (.one ⟨some s66, some (s63, true), (.mv (.t s1))⟩
    (.one ⟨some s67, some (s63, true), (.mv (.t s2))⟩
    (.one ⟨some s68, some (s63, true), (.mv (.t s3))⟩
    (.one ⟨some s69, some (s63, true), (.row 1 [(.t s66), (.t s67), (.t s68)])⟩
    (.one ⟨some s70, some (s63, true), (.b2s (.t s69))⟩
    (.one ⟨some s71, some (s63, true), (.bin false .eql (.t s65) (.t s70))⟩
    (.one ⟨some s72, none, (.pick (.t s63) (.t s71) (.c (.v (.bool false))))⟩
    (.one ⟨some s8, none, (.mv (.t s72))⟩
    .done)))))))))))))))))))))
  .ret))))))⟩
theorem ok10 : compF Try.prog c10 Try.f10 = some ir10 := by kernel_rfl
theorem k_bowlinelaw38_BsrBack {args : List AVal} {σ : AHeap} {Q : AVal → AHeap → Prop} (hl : Nat.ble args.length 73 = true) (h : argsK (Env.full 9) 0 args fun env => evC Try.prog c10 ir10.body env σ (retQ ir10 Q)) : ACalls Try.prog 10 args σ Q :=
  acalls_of Try.func10 ok10 rfl (Nat.le_of_ble_eq_true hl) h
/- bowlinelaw38.alive -/
def c44 : Cfg := ⟨qs, false, 69, []⟩
def ir44 : IFun := ⟨0, [.tmp s0],
  (.seq (.reg (.one ⟨some s0, none, (.mv (.c (.v (.bool false))))⟩
    .done))
  (.seq (.reg (.one ⟨some s12, none, (.callq 50 [(.c (.v (.int .i64 7)))])⟩
    (.one ⟨some s11, none, (.mv (.t s12))⟩
    (.one ⟨some s13, none, (.ext (.t s11) 0)⟩
    (.one ⟨some s14, none, (.ext (.t s11) 1)⟩
    (.one ⟨some s1, none, (.mv (.t s13))⟩
    (.one ⟨some s2, none, (.mv (.t s14))⟩
    .done)))))))
  (.seq (.reg (.one ⟨some s16, none, (.callq 51 [(.c (.v (.int .i64 7)))])⟩
    (.one ⟨some s15, none, (.mv (.t s16))⟩
    (.one ⟨some s17, none, (.ext (.t s15) 0)⟩
    (.one ⟨some s18, none, (.ext (.t s15) 1)⟩
    (.one ⟨some s3, none, (.mv (.t s17))⟩
    (.one ⟨some s4, none, (.mv (.t s18))⟩
    .done)))))))
  (.seq (.reg (.one ⟨some s20, none, (.build [(.v (.int .i64 0)), (.v (.int .i64 0)), (.v (.int .i64 0)), (.v (.int .i64 0))] [(0, 1, (.c (.v (.int .i64 1)))), (1, 1, (.c (.v (.int .i64 2)))), (2, 1, (.c (.v (.int .i64 3)))), (3, 1, (.c (.v (.int .i64 4))))])⟩
    (.one ⟨some s21, none, (.callq 45 [(.t s20)])⟩
    (.one ⟨some s19, none, (.mv (.t s21))⟩
    (.one ⟨some s22, none, (.ext (.t s19) 0)⟩
    (.one ⟨some s23, none, (.ext (.t s19) 1)⟩
    (.one ⟨some s5, none, (.mv (.t s22))⟩
    (.one ⟨some s6, none, (.mv (.t s23))⟩
    .done))))))))
  (.seq (.reg (.one ⟨some s25, none, (.mv (.t s5))⟩
    (.one ⟨some s26, none, (.callq 46 [(.t s25)])⟩
    (.one ⟨some s24, none, (.mv (.t s26))⟩
    (.one ⟨some s27, none, (.ext (.t s24) 0)⟩
    (.one ⟨some s28, none, (.ext (.t s24) 1)⟩
    (.one ⟨some s7, none, (.new [(.v (.int .i64 0)), (.v (.int .i64 0)), (.v (.int .i64 0)), (.v (.int .i64 0))])⟩
    (.one ⟨none, none, (.store 4 (.t s7) (.t s27))⟩
    (.one ⟨some s8, none, (.mv (.t s28))⟩
    .done)))))))))
  (.seq (.reg (.one ⟨some s30, none, (.callq 50 [(.c (.v (.int .i64 (-1))))])⟩
    (.one ⟨some s29, none, (.mv (.t s30))⟩
    (.one ⟨some s31, none, (.ext (.t s29) 0)⟩
    (.one ⟨some s32, none, (.ext (.t s29) 1)⟩
    (.one ⟨some s9, none, (.mv (.t s31))⟩
    (.one ⟨some s10, none, (.mv (.t s32))⟩
    .done)))))))
  (.seq (.reg (.one ⟨some s33, none, (.mv (.t s1))⟩
    (.one ⟨some s34, none, (.bin false .eql (.t s33) (.c (.v (.int .i64 6))))⟩
    (.one ⟨some s35, none, (.mv (.t s34))⟩
    (.one ⟨some s36, some (s35, true), (.mv (.t s2))⟩
    (.one ⟨some s37, some (s35, true), (.bin false .eql (.t s36) (.c (.v (.int .i64 0))))⟩
    (.one ⟨some s38, none, (.pick (.t s35) (.t s37) (.c (.v (.bool false))))⟩
    (.one ⟨some s39, none, (.mv (.t s38))⟩
    (.one ⟨some s40, some (s39, true), (.mv (.t s3))⟩
    (.one ⟨some s41, some (s39, true), (.bin false .eql (.t s40) (.c (.v (.int .i64 8))))⟩
    (.one ⟨some s42, none, (.pick (.t s39) (.t s41) (.c (.v (.bool false))))⟩
    (.one ⟨some s43, none, (.mv (.t s42))⟩
    (.one ⟨some s44, some (s43, true), (.mv (.t s4))⟩
    (.one ⟨some s45, some (s43, true), (.bin false .eql (.t s44) (.c (.v (.int .i64 0))))⟩
    (.one ⟨some s46, none, (.pick (.t s43) (.t s45) (.c (.v (.bool false))))⟩
    (.one ⟨some s47, none, (.mv (.t s46))⟩
    (.one ⟨some s48, some (s47, true), (.mv (.t s5))⟩
    (.one ⟨some s49, some (s47, true), (.b2s (.t s48))⟩
    (.one ⟨some s50, some (s47, true), (.bin false .eql (.t s49) (.c (.v (.string ⟨#[4, 32, 196]⟩))))⟩
    (.one ⟨some s51, none, (.pick (.t s47) (.t s50) (.c (.v (.bool false))))⟩
    (.one ⟨some s52, none, (.mv (.t s51))⟩
    (.one ⟨some s53, some (s52, true), (.mv (.t s6))⟩
    (.one ⟨some s54, some (s52, true), (.bin false .eql (.t s53) (.c (.v (.int .i64 0))))⟩
    (.one ⟨some s55, none, (.pick (.t s52) (.t s54) (.c (.v (.bool false))))⟩
    (.one ⟨some s56, none, (.mv (.t s55))⟩
    (.one ⟨some s57, some (s56, true), (.load (some 4) (.t s7))⟩
    (.one ⟨some s58, some (s56, true), (.build [(.v (.int .i64 0)), (.v (.int .i64 0)), (.v (.int .i64 0)), (.v (.int .i64 0))] [(0, 1, (.c (.v (.int .i64 1)))), (1, 1, (.c (.v (.int .i64 2)))), (2, 1, (.c (.v (.int .i64 3)))), (3, 1, (.c (.v (.int .i64 4))))])⟩
    (.one ⟨some s59, some (s56, true), (.eqAgg false 4 (.t s57) (.t s58))⟩
    (.one ⟨some s60, none, (.pick (.t s56) (.t s59) (.c (.v (.bool false))))⟩
    (.one ⟨some s61, none, (.mv (.t s60))⟩
    (.one ⟨some s62, some (s61, true), (.mv (.t s8))⟩
    (.one ⟨some s63, some (s61, true), (.bin false .eql (.t s62) (.c (.v (.int .i64 0))))⟩
    (.one ⟨some s64, none, (.pick (.t s61) (.t s63) (.c (.v (.bool false))))⟩
    (.one ⟨some s65, none, (.mv (.t s64))⟩
    (.one ⟨some s66, some (s65, true), (.mv (.t s10))⟩
    (.one ⟨some s67, some (s65, true), (.bin false .eql (.t s66) (.c (.v (.int .i64 1))))⟩
    (.one ⟨some s68, none, (.pick (.t s65) (.t s67) (.c (.v (.bool false))))⟩
    (.one ⟨some s0, none, (.mv (.t s68))⟩
    .done))))))))))))))))))))))))))))))))))))))
  .ret)))))))⟩
theorem ok44 : compF Try.prog c44 Try.f44 = some ir44 := by kernel_rfl
theorem k_bowlinelaw38_alive {args : List AVal} {σ : AHeap} {Q : AVal → AHeap → Prop} (hl : Nat.ble args.length 69 = true) (h : argsK (Env.full 9) 0 args fun env => evC Try.prog c44 ir44.body env σ (retQ ir44 Q)) : ACalls Try.prog 44 args σ Q :=
  acalls_of Try.func44 ok44 rfl (Nat.le_of_ble_eq_true hl) h
end Go.Proofs.Ytkdbmajkjlnpiab

