/-
  The bodies of one package, compiled to the framework's language (printed by a program of this session).
-/
import Derived.Test.YtiohpnkfcaahbaaIr0
namespace Go.Proofs.Ytiohpnkfcaahbaa
set_option linter.unusedVariables false
set_option linter.unusedSimpArgs false
open Go Go.Am
/- bowlinelaw14.GluePlain -/
def c3 : Cfg := ⟨qs, false, 108, []⟩
def ir3 : IFun := ⟨2, [.tmp s4],
  (.seq (.reg (.one ⟨some s4, none, (.mv (.c (.v (.bool false))))⟩
    .done))
  (.seq (.reg (.one ⟨some s14, none, (.callq 13 [])⟩
    (.one ⟨some s5, none, (.mv (.t s14))⟩
    .done)))
  (.seq (.seq (.reg (.one ⟨some s15, none, (.mv (.t s0))⟩
    (.one ⟨some s16, none, (.len false (.t s15))⟩
    (.one ⟨some s17, none, (.bin false .gtr (.t s16) (.c (.v (.int .i64 900))))⟩
    (.one ⟨some s18, none, (.mv (.t s17))⟩
    (.one ⟨some s19, some (s18, false), (.mv (.t s1))⟩
    (.one ⟨some s20, some (s18, false), (.len false (.t s19))⟩
    (.one ⟨some s21, some (s18, false), (.bin false .gtr (.t s20) (.c (.v (.int .i64 40))))⟩
    (.one ⟨some s22, none, (.pick (.t s18) (.c (.v (.bool true))) (.t s21))⟩
    .done)))))))))
  (.cond (.t s22) (.seq (.reg (.one ⟨some s23, none, (.callq 14 [])⟩
    (.one ⟨some s4, none, (.mv (.t s23))⟩
    .done)))
  .ret) .skip))
  (.seq (.reg (.one ⟨some s6, none, (.mv (.c (.v (.int .i64 0))))⟩
    .done))
  (.seq (.seq (.reg (.one ⟨some s25, none, (.mv (.t s5))⟩
    (.one ⟨some s26, none, (.mv (.t s0))⟩
    (.one ⟨some s27, none, (.row 1 [(.t s26)])⟩
    (.one ⟨some s28, none, (.call 15 [(.t s25), (.c (.v (.int .i64 1))), (.t s27), (.c (.v (.bool false)))])⟩
    (.one ⟨some s24, none, (.mv (.t s28))⟩
    (.one ⟨some s29, none, (.ext (.t s24) 0)⟩
    (.one ⟨some s30, none, (.ext (.t s24) 1)⟩
    (.one ⟨some s7, none, (.mv (.t s29))⟩
    (.one ⟨some s8, none, (.mv (.t s30))⟩
    .done))))))))))
  (.seq (.reg (.one ⟨some s31, none, (.mv (.t s8))⟩
    (.one ⟨some s32, none, (.bin false .eql (.t s31) (.c (.v (.int .i64 0))))⟩
    .done)))
  (.cond (.t s32) (.reg (.one ⟨some s6, none, (.mv (.c (.v (.int .i64 1))))⟩
    .done)) .skip)))
  (.seq (.reg (.one ⟨some s34, none, (.mv (.t s5))⟩
    (.one ⟨some s35, none, (.mv (.t s1))⟩
    (.one ⟨some s36, none, (.call 15 [(.t s34), (.c (.v (.int .i64 0))), (.t s35), (.c (.v (.bool false)))])⟩
    (.one ⟨some s33, none, (.mv (.t s36))⟩
    (.one ⟨some s37, none, (.ext (.t s33) 0)⟩
    (.one ⟨some s38, none, (.ext (.t s33) 1)⟩
    (.one ⟨some s9, none, (.mv (.t s37))⟩
    (.one ⟨some s10, none, (.mv (.t s38))⟩
    .done)))))))))
  (.seq (.seq (.reg (.one ⟨some s39, none, (.mv (.t s10))⟩
    (.one ⟨some s40, none, (.bin false .neq (.t s39) (.c (.v (.int .i64 0))))⟩
    .done)))
  (.cond (.t s40) (.seq (.reg (.one ⟨some s41, none, (.callq 14 [])⟩
    (.one ⟨some s42, none, (.mv (.t s41))⟩
    (.one ⟨some s43, some (s42, true), (.mv (.t s5))⟩
    (.one ⟨some s44, some (s42, true), (.callq 16 [(.t s43)])⟩
    (.one ⟨some s45, some (s42, true), (.mv (.t s6))⟩
    (.one ⟨some s46, some (s42, true), (.mv (.t s0))⟩
    (.one ⟨some s47, some (s42, true), (.len false (.t s46))⟩
    (.one ⟨some s48, some (s42, true), (.bin false .mul (.t s45) (.t s47))⟩
    (.one ⟨some s49, some (s42, true), (.bin false .eql (.t s44) (.t s48))⟩
    (.one ⟨some s50, none, (.pick (.t s42) (.t s49) (.c (.v (.bool false))))⟩
    (.one ⟨some s51, none, (.mv (.t s50))⟩
    (.one ⟨some s52, some (s51, true), (.mv (.t s5))⟩
    (.one ⟨some s53, some (s51, true), (.callq 17 [(.t s52)])⟩
    (.one ⟨some s54, some (s51, true), (.bin false .eql (.t s53) (.c (.v (.int .i64 0))))⟩
    (.one ⟨some s55, none, (.pick (.t s51) (.t s54) (.c (.v (.bool false))))⟩
    (.one ⟨some s4, none, (.mv (.t s55))⟩
    .done)))))))))))))))))
  .ret) .skip))
  (.seq (.reg (.one ⟨some s56, none, (.mv (.t s6))⟩
    (.one ⟨some s11, none, (.mv (.c (.v (.int .i64 0))))⟩
    (.one ⟨some s12, none, (.mv (.t s56))⟩
    .done))))
  (.seq (.seq (.reg (.one ⟨some s13, none, (.mv (.c (.v (.int .i64 0))))⟩
    .done))
  (.block 0 (.loop (.seq (.seq (.reg (.one ⟨some s57, none, (.mv (.t s13))⟩
    (.one ⟨some s58, none, (.mv (.t s1))⟩
    (.one ⟨some s59, none, (.len false (.t s58))⟩
    (.one ⟨some s60, none, (.bin false .lss (.t s57) (.t s59))⟩
    .done)))))
  (.cond (.t s60) .skip (.exit 0)))
  (.seq (.block 1 (.seq (.seq (.reg (.one ⟨some s63, none, (.mv (.t s1))⟩
    (.one ⟨some s64, none, (.mv (.t s13))⟩
    (.one ⟨some s65, none, (.iaddr 1 (.t s63) (.t s64))⟩
    (.one ⟨some s66, none, (.load none (.t s65))⟩
    (.one ⟨some s67, none, (.len false (.t s66))⟩
    (.one ⟨some s68, none, (.bin false .gtr (.t s67) (.c (.v (.int .i64 1000))))⟩
    .done)))))))
  (.cond (.t s68) (.seq (.reg (.one ⟨some s69, none, (.mv (.t s12))⟩
    (.one ⟨some s70, none, (.bin false .add (.t s69) (.c (.v (.int .i64 1))))⟩
    (.one ⟨some s12, none, (.mv (.t s70))⟩
    .done))))
  (.exit 1)) .skip))
  (.seq (.seq (.reg (.one ⟨some s71, none, (.mv (.t s11))⟩
    (.one ⟨some s72, none, (.mv (.t s9))⟩
    (.one ⟨some s73, none, (.len false (.t s72))⟩
    (.one ⟨some s74, none, (.bin false .geq (.t s71) (.t s73))⟩
    (.one ⟨some s75, none, (.mv (.t s74))⟩
    (.one ⟨some s76, some (s75, false), (.mv (.t s9))⟩
    (.one ⟨some s77, some (s75, false), (.mv (.t s11))⟩
    (.one ⟨some s78, some (s75, false), (.iaddr 1 (.t s76) (.t s77))⟩
    (.one ⟨some s79, some (s75, false), (.load none (.t s78))⟩
    (.one ⟨some s80, some (s75, false), (.b2s (.t s79))⟩
    (.one ⟨some s81, some (s75, false), (.mv (.t s1))⟩
    (.one ⟨some s82, some (s75, false), (.mv (.t s13))⟩
    (.one ⟨some s83, some (s75, false), (.iaddr 1 (.t s81) (.t s82))⟩
    (.one ⟨some s84, some (s75, false), (.load none (.t s83))⟩
    (.one ⟨some s85, some (s75, false), (.b2s (.t s84))⟩
    (.one ⟨some s86, some (s75, false), (.bin false .neq (.t s80) (.t s85))⟩
    (.one ⟨some s87, none, (.pick (.t s75) (.c (.v (.bool true))) (.t s86))⟩
    .done))))))))))))))))))
  (.cond (.t s87) (.seq (.reg (.one ⟨some s4, none, (.mv (.c (.v (.bool false))))⟩
    .done))
  .ret) .skip))
  (.reg (.one ⟨some s88, none, (.mv (.t s11))⟩
    (.one ⟨some s89, none, (.bin false .add (.t s88) (.c (.v (.int .i64 1))))⟩
    (.one ⟨some s11, none, (.mv (.t s89))⟩
    .done)))))))
  (.reg (.one ⟨some s61, none, (.mv (.t s13))⟩
    (.one ⟨some s62, none, (.bin false .add (.t s61) (.c (.v (.int .i64 1))))⟩
    (.one ⟨some s13, none, (.mv (.t s62))⟩
    .done)))))))))
  (.seq (.reg (.one ⟨some s90, none, (.callq 14 [])⟩
    (.one ⟨some s91, none, (.mv (.t s90))⟩
    (.one ⟨some s92, some (s91, true), (.mv (.t s11))⟩
    (.one ⟨some s93, some (s91, true), (.mv (.t s9))⟩
    (.one ⟨some s94, some (s91, true), (.len false (.t s93))⟩
    (.one ⟨some s95, some (s91, true), (.bin false .eql (.t s92) (.t s94))⟩
    (.one ⟨some s96, none, (.pick (.t s91) (.t s95) (.c (.v (.bool false))))⟩
    (.one ⟨some s97, none, (.mv (.t s96))⟩
    (.one ⟨some s98, some (s97, true), (.mv (.t s5))⟩
    (.one ⟨some s99, some (s97, true), (.callq 16 [(.t s98)])⟩
    (.one ⟨some s100, some (s97, true), (.bin false .eql (.t s99) (.c (.v (.int .i64 0))))⟩
    (.one ⟨some s101, none, (.pick (.t s97) (.t s100) (.c (.v (.bool false))))⟩
    (.one ⟨some s102, none, (.mv (.t s101))⟩
    (.one ⟨some s103, some (s102, true), (.mv (.t s5))⟩
    (.one ⟨some s104, some (s102, true), (.callq 17 [(.t s103)])⟩
    (.one ⟨some s105, some (s102, true), (.mv (.t s12))⟩
    (.one ⟨some s106, some (s102, true), (.bin false .eql (.t s104) (.t s105))⟩
    (.one ⟨some s107, none, (.pick (.t s102) (.t s106) (.c (.v (.bool false))))⟩
    (.one ⟨some s4, none, (.mv (.t s107))⟩
    .done))))))))))))))))))))
  .ret))))))))))⟩
theorem ok3 : compF Try.prog c3 Try.f3 = some ir3 := by kernel_rfl
theorem k_bowlinelaw14_GluePlain {args : List AVal} {σ : AHeap} {Q : AVal → AHeap → Prop} (hl : Nat.ble args.length 108 = true) (h : argsK (Env.full 9) 0 args fun env => evC Try.prog c3 ir3.body env σ (retQ ir3 Q)) : ACalls Try.prog 3 args σ Q :=
  acalls_of Try.func3 ok3 rfl (Nat.le_of_ble_eq_true hl) h
/- bowlinelaw14.GlueJoins -/
def c11 : Cfg := ⟨qs, false, 101, []⟩
def ir11 : IFun := ⟨2, [.tmp s4],
  (.seq (.reg (.one ⟨some s4, none, (.mv (.c (.v (.bool false))))⟩
    .done))
  (.seq (.reg (.one ⟨some s15, none, (.mv (.t s0))⟩
    (.one ⟨some s16, none, (.mv (.t s1))⟩
    (.one ⟨some s17, none, (.callq 52 [(.t s15), (.t s16)])⟩
    (.one ⟨some s14, none, (.mv (.t s17))⟩
    (.one ⟨some s18, none, (.ext (.t s14) 0)⟩
    (.one ⟨some s19, none, (.ext (.t s14) 1)⟩
    (.one ⟨some s20, none, (.ext (.t s14) 2)⟩
    (.one ⟨some s5, none, (.mv (.t s18))⟩
    (.one ⟨some s6, none, (.mv (.t s19))⟩
    (.one ⟨some s7, none, (.mv (.t s20))⟩
    .done)))))))))))
  (.seq (.seq (.reg (.one ⟨some s21, none, (.mv (.t s7))⟩
    (.one ⟨some s22, none, (.not (.t s21))⟩
    .done)))
  (.cond (.t s22) (.seq (.reg (.one ⟨some s23, none, (.callq 14 [])⟩
    (.one ⟨some s4, none, (.mv (.t s23))⟩
    .done)))
  .ret) .skip))
  (.seq (.reg (.one ⟨some s24, none, (.callq 13 [])⟩
    (.one ⟨some s8, none, (.mv (.t s24))⟩
    .done)))
  (.seq (.reg (.one ⟨some s9, none, (.mv (.c (.v (.int .i64 0))))⟩
    .done))
  (.seq (.seq (.reg (.one ⟨some s10, none, (.mv (.c (.v (.int .i64 0))))⟩
    .done))
  (.block 0 (.loop (.seq (.seq (.reg (.one ⟨some s25, none, (.mv (.t s10))⟩
    (.one ⟨some s26, none, (.mv (.t s5))⟩
    (.one ⟨some s27, none, (.len false (.t s26))⟩
    (.one ⟨some s28, none, (.bin false .lss (.t s25) (.t s27))⟩
    .done)))))
  (.cond (.t s28) .skip (.exit 0)))
  (.seq (.block 1 (.seq (.reg (.one ⟨some s32, none, (.mv (.t s8))⟩
    (.one ⟨some s33, none, (.mv (.t s5))⟩
    (.one ⟨some s34, none, (.mv (.t s10))⟩
    (.one ⟨some s35, none, (.iaddr 3 (.t s33) (.t s34))⟩
    (.one ⟨some s36, none, (.faddr 0 (.t s35))⟩
    (.one ⟨some s37, none, (.load none (.t s36))⟩
    (.one ⟨some s38, none, (.mv (.t s5))⟩
    (.one ⟨some s39, none, (.mv (.t s10))⟩
    (.one ⟨some s40, none, (.iaddr 3 (.t s38) (.t s39))⟩
    (.one ⟨some s41, none, (.faddr 1 (.t s40))⟩
    (.one ⟨some s42, none, (.load none (.t s41))⟩
    (.one ⟨some s43, none, (.call 15 [(.t s32), (.t s37), (.t s42), (.c (.v (.bool false)))])⟩
    (.one ⟨some s31, none, (.mv (.t s43))⟩
    (.one ⟨some s44, none, (.ext (.t s31) 0)⟩
    (.one ⟨some s45, none, (.ext (.t s31) 1)⟩
    (.one ⟨some s11, none, (.mv (.t s44))⟩
    (.one ⟨some s12, none, (.mv (.t s45))⟩
    .done))))))))))))))))))
  (.seq (.seq (.reg (.one ⟨some s46, none, (.mv (.t s12))⟩
    (.one ⟨some s47, none, (.bin false .neq (.t s46) (.c (.v (.int .i64 0))))⟩
    (.one ⟨some s48, none, (.mv (.t s47))⟩
    (.one ⟨some s49, some (s48, false), (.mv (.t s11))⟩
    (.one ⟨some s50, some (s48, false), (.len false (.t s49))⟩
    (.one ⟨some s51, some (s48, false), (.mv (.t s5))⟩
    (.one ⟨some s52, some (s48, false), (.mv (.t s10))⟩
    (.one ⟨some s53, some (s48, false), (.iaddr 3 (.t s51) (.t s52))⟩
    (.one ⟨some s54, some (s48, false), (.faddr 2 (.t s53))⟩
    (.one ⟨some s55, some (s48, false), (.load none (.t s54))⟩
    (.one ⟨some s56, some (s48, false), (.len false (.t s55))⟩
    (.one ⟨some s57, some (s48, false), (.bin false .neq (.t s50) (.t s56))⟩
    (.one ⟨some s58, none, (.pick (.t s48) (.c (.v (.bool true))) (.t s57))⟩
    .done))))))))))))))
  (.cond (.t s58) (.seq (.reg (.one ⟨some s4, none, (.mv (.c (.v (.bool false))))⟩
    .done))
  .ret) .skip))
  (.seq (.reg (.one ⟨some s13, none, (.mv (.c (.v (.int .i64 0))))⟩
    .done))
  (.block 2 (.loop (.seq (.seq (.reg (.one ⟨some s59, none, (.mv (.t s13))⟩
    (.one ⟨some s60, none, (.mv (.t s11))⟩
    (.one ⟨some s61, none, (.len false (.t s60))⟩
    (.one ⟨some s62, none, (.bin false .lss (.t s59) (.t s61))⟩
    .done)))))
  (.cond (.t s62) .skip (.exit 2)))
  (.seq (.block 3 (.seq (.seq (.reg (.one ⟨some s65, none, (.mv (.t s9))⟩
    (.one ⟨some s66, none, (.mv (.t s6))⟩
    (.one ⟨some s67, none, (.len false (.t s66))⟩
    (.one ⟨some s68, none, (.bin false .geq (.t s65) (.t s67))⟩
    (.one ⟨some s69, none, (.mv (.t s68))⟩
    (.one ⟨some s70, some (s69, false), (.mv (.t s11))⟩
    (.one ⟨some s71, some (s69, false), (.mv (.t s13))⟩
    (.one ⟨some s72, some (s69, false), (.iaddr 1 (.t s70) (.t s71))⟩
    (.one ⟨some s73, some (s69, false), (.load none (.t s72))⟩
    (.one ⟨some s74, some (s69, false), (.b2s (.t s73))⟩
    (.one ⟨some s75, some (s69, false), (.mv (.t s6))⟩
    (.one ⟨some s76, some (s69, false), (.mv (.t s9))⟩
    (.one ⟨some s77, some (s69, false), (.iaddr 1 (.t s75) (.t s76))⟩
    (.one ⟨some s78, some (s69, false), (.load none (.t s77))⟩
    (.one ⟨some s79, some (s69, false), (.b2s (.t s78))⟩
    (.one ⟨some s80, some (s69, false), (.bin false .neq (.t s74) (.t s79))⟩
    (.one ⟨some s81, none, (.pick (.t s69) (.c (.v (.bool true))) (.t s80))⟩
    .done))))))))))))))))))
  (.cond (.t s81) (.seq (.reg (.one ⟨some s4, none, (.mv (.c (.v (.bool false))))⟩
    .done))
  .ret) .skip))
  (.reg (.one ⟨some s82, none, (.mv (.t s9))⟩
    (.one ⟨some s83, none, (.bin false .add (.t s82) (.c (.v (.int .i64 1))))⟩
    (.one ⟨some s9, none, (.mv (.t s83))⟩
    .done))))))
  (.reg (.one ⟨some s63, none, (.mv (.t s13))⟩
    (.one ⟨some s64, none, (.bin false .add (.t s63) (.c (.v (.int .i64 1))))⟩
    (.one ⟨some s13, none, (.mv (.t s64))⟩
    .done))))))))))))
  (.reg (.one ⟨some s29, none, (.mv (.t s10))⟩
    (.one ⟨some s30, none, (.bin false .add (.t s29) (.c (.v (.int .i64 1))))⟩
    (.one ⟨some s10, none, (.mv (.t s30))⟩
    .done)))))))))
  (.seq (.reg (.one ⟨some s84, none, (.callq 14 [])⟩
    (.one ⟨some s85, none, (.mv (.t s84))⟩
    (.one ⟨some s86, some (s85, true), (.mv (.t s9))⟩
    (.one ⟨some s87, some (s85, true), (.mv (.t s6))⟩
    (.one ⟨some s88, some (s85, true), (.len false (.t s87))⟩
    (.one ⟨some s89, some (s85, true), (.bin false .eql (.t s86) (.t s88))⟩
    (.one ⟨some s90, none, (.pick (.t s85) (.t s89) (.c (.v (.bool false))))⟩
    (.one ⟨some s91, none, (.mv (.t s90))⟩
    (.one ⟨some s92, some (s91, true), (.mv (.t s8))⟩
    (.one ⟨some s93, some (s91, true), (.callq 16 [(.t s92)])⟩
    (.one ⟨some s94, some (s91, true), (.bin false .eql (.t s93) (.c (.v (.int .i64 0))))⟩
    (.one ⟨some s95, none, (.pick (.t s91) (.t s94) (.c (.v (.bool false))))⟩
    (.one ⟨some s96, none, (.mv (.t s95))⟩
    (.one ⟨some s97, some (s96, true), (.mv (.t s8))⟩
    (.one ⟨some s98, some (s96, true), (.callq 17 [(.t s97)])⟩
    (.one ⟨some s99, some (s96, true), (.bin false .eql (.t s98) (.c (.v (.int .i64 0))))⟩
    (.one ⟨some s100, none, (.pick (.t s96) (.t s99) (.c (.v (.bool false))))⟩
    (.one ⟨some s4, none, (.mv (.t s100))⟩
    .done)))))))))))))))))))
  .ret)))))))⟩
theorem ok11 : compF Try.prog c11 Try.f11 = some ir11 := by kernel_rfl
theorem k_bowlinelaw14_GlueJoins {args : List AVal} {σ : AHeap} {Q : AVal → AHeap → Prop} (hl : Nat.ble args.length 101 = true) (h : argsK (Env.full 9) 0 args fun env => evC Try.prog c11 ir11.body env σ (retQ ir11 Q)) : ACalls Try.prog 11 args σ Q :=
  acalls_of Try.func11 ok11 rfl (Nat.le_of_ble_eq_true hl) h
/- bowlinelaw14.GlueLoses -/
def c12 : Cfg := ⟨qs, false, 171, []⟩
def ir12 : IFun := ⟨3, [.tmp s6],
  (.seq (.reg (.one ⟨some s6, none, (.mv (.c (.v (.bool false))))⟩
    .done))
  (.seq (.reg (.one ⟨some s22, none, (.mv (.t s0))⟩
    (.one ⟨some s23, none, (.mv (.t s1))⟩
    (.one ⟨some s24, none, (.callq 52 [(.t s22), (.t s23)])⟩
    (.one ⟨some s21, none, (.mv (.t s24))⟩
    (.one ⟨some s25, none, (.ext (.t s21) 0)⟩
    (.one ⟨some s26, none, (.ext (.t s21) 1)⟩
    (.one ⟨some s27, none, (.ext (.t s21) 2)⟩
    (.one ⟨some s7, none, (.mv (.t s25))⟩
    (.one ⟨some s8, none, (.mv (.t s26))⟩
    (.one ⟨some s9, none, (.mv (.t s27))⟩
    .done)))))))))))
  (.seq (.seq (.reg (.one ⟨some s28, none, (.mv (.t s9))⟩
    (.one ⟨some s29, none, (.not (.t s28))⟩
    .done)))
  (.cond (.t s29) (.seq (.reg (.one ⟨some s30, none, (.callq 14 [])⟩
    (.one ⟨some s6, none, (.mv (.t s30))⟩
    .done)))
  .ret) .skip))
  (.seq (.reg (.one ⟨some s31, none, (.callq 13 [])⟩
    (.one ⟨some s10, none, (.mv (.t s31))⟩
    .done)))
  (.seq (.reg (.one ⟨some s11, none, (.mv (.c (.v (.int .i64 0))))⟩
    (.one ⟨some s12, none, (.mv (.c (.v (.int .i64 0))))⟩
    (.one ⟨some s13, none, (.mv (.c (.v (.bool false))))⟩
    (.one ⟨some s14, none, (.mv (.c (.v (.bool true))))⟩
    .done)))))
  (.seq (.seq (.reg (.one ⟨some s15, none, (.mv (.c (.v (.int .i64 0))))⟩
    .done))
  (.block 0 (.loop (.seq (.seq (.reg (.one ⟨some s32, none, (.mv (.t s15))⟩
    (.one ⟨some s33, none, (.mv (.t s7))⟩
    (.one ⟨some s34, none, (.len false (.t s33))⟩
    (.one ⟨some s35, none, (.bin false .lss (.t s32) (.t s34))⟩
    .done)))))
  (.cond (.t s35) .skip (.exit 0)))
  (.seq (.block 1 (.seq (.seq (.reg (.one ⟨some s38, none, (.mv (.t s15))⟩
    (.one ⟨some s39, none, (.mv (.t s2))⟩
    (.one ⟨some s40, none, (.len false (.t s39))⟩
    (.one ⟨some s41, none, (.bin false .lss (.t s38) (.t s40))⟩
    (.one ⟨some s42, none, (.mv (.t s41))⟩
    (.one ⟨some s43, some (s42, true), (.mv (.t s2))⟩
    (.one ⟨some s44, some (s42, true), (.mv (.t s15))⟩
    (.one ⟨some s45, some (s42, true), (.iaddr 1 (.t s43) (.t s44))⟩
    (.one ⟨some s46, some (s42, true), (.load none (.t s45))⟩
    (.one ⟨some s47, some (s42, true), (.bin false .and (.t s46) (.c (.v (.int .u8 1))))⟩
    (.one ⟨some s48, some (s42, true), (.bin false .eql (.t s47) (.c (.v (.int .u8 1))))⟩
    (.one ⟨some s49, none, (.pick (.t s42) (.t s48) (.c (.v (.bool false))))⟩
    .done)))))))))))))
  (.cond (.t s49) (.seq (.reg (.one ⟨some s13, none, (.mv (.c (.v (.bool true))))⟩
    (.one ⟨some s14, none, (.mv (.c (.v (.bool false))))⟩
    .done)))
  (.seq (.reg (.one ⟨some s50, none, (.mv (.t s12))⟩
    (.one ⟨some s51, none, (.mv (.t s7))⟩
    (.one ⟨some s52, none, (.mv (.t s15))⟩
    (.one ⟨some s53, none, (.iaddr 3 (.t s51) (.t s52))⟩
    (.one ⟨some s54, none, (.faddr 2 (.t s53))⟩
    (.one ⟨some s55, none, (.load none (.t s54))⟩
    (.one ⟨some s56, none, (.len false (.t s55))⟩
    (.one ⟨some s57, none, (.bin false .add (.t s50) (.t s56))⟩
    (.one ⟨some s12, none, (.mv (.t s57))⟩
    .done))))))))))
  (.exit 1))) .skip))
  (.seq (.reg (.one ⟨some s59, none, (.mv (.t s10))⟩
    (.one ⟨some s60, none, (.mv (.t s7))⟩
    (.one ⟨some s61, none, (.mv (.t s15))⟩
    (.one ⟨some s62, none, (.iaddr 3 (.t s60) (.t s61))⟩
    (.one ⟨some s63, none, (.faddr 0 (.t s62))⟩
    (.one ⟨some s64, none, (.load none (.t s63))⟩
    (.one ⟨some s65, none, (.mv (.t s7))⟩
    (.one ⟨some s66, none, (.mv (.t s15))⟩
    (.one ⟨some s67, none, (.iaddr 3 (.t s65) (.t s66))⟩
    (.one ⟨some s68, none, (.faddr 1 (.t s67))⟩
    (.one ⟨some s69, none, (.load none (.t s68))⟩
    (.one ⟨some s70, none, (.mv (.t s13))⟩
    (.one ⟨some s71, none, (.call 15 [(.t s59), (.t s64), (.t s69), (.t s70)])⟩
    (.one ⟨some s58, none, (.mv (.t s71))⟩
    (.one ⟨some s72, none, (.ext (.t s58) 0)⟩
    (.one ⟨some s73, none, (.ext (.t s58) 1)⟩
    (.one ⟨some s16, none, (.mv (.t s72))⟩
    (.one ⟨some s17, none, (.mv (.t s73))⟩
    .done)))))))))))))))))))
  (.seq (.seq (.reg (.one ⟨some s74, none, (.mv (.t s17))⟩
    (.one ⟨some s75, none, (.bin false .neq (.t s74) (.c (.v (.int .i64 0))))⟩
    (.one ⟨some s76, none, (.mv (.t s75))⟩
    (.one ⟨some s77, some (s76, false), (.mv (.t s16))⟩
    (.one ⟨some s78, some (s76, false), (.len false (.t s77))⟩
    (.one ⟨some s79, some (s76, false), (.mv (.t s7))⟩
    (.one ⟨some s80, some (s76, false), (.mv (.t s15))⟩
    (.one ⟨some s81, some (s76, false), (.iaddr 3 (.t s79) (.t s80))⟩
    (.one ⟨some s82, some (s76, false), (.faddr 2 (.t s81))⟩
    (.one ⟨some s83, some (s76, false), (.load none (.t s82))⟩
    (.one ⟨some s84, some (s76, false), (.len false (.t s83))⟩
    (.one ⟨some s85, some (s76, false), (.bin false .gtr (.t s78) (.t s84))⟩
    (.one ⟨some s86, none, (.pick (.t s76) (.c (.v (.bool true))) (.t s85))⟩
    .done))))))))))))))
  (.cond (.t s86) (.seq (.reg (.one ⟨some s6, none, (.mv (.c (.v (.bool false))))⟩
    .done))
  .ret) .skip))
  (.seq (.reg (.one ⟨some s87, none, (.mv (.t s7))⟩
    (.one ⟨some s88, none, (.mv (.t s15))⟩
    (.one ⟨some s89, none, (.iaddr 3 (.t s87) (.t s88))⟩
    (.one ⟨some s90, none, (.faddr 2 (.t s89))⟩
    (.one ⟨some s91, none, (.load none (.t s90))⟩
    (.one ⟨some s92, none, (.len false (.t s91))⟩
    (.one ⟨some s18, none, (.mv (.t s92))⟩
    .done))))))))
  (.seq (.seq (.reg (.one ⟨some s93, none, (.mv (.t s14))⟩
    (.one ⟨some s94, none, (.not (.t s93))⟩
    (.one ⟨some s95, none, (.mv (.t s94))⟩
    (.one ⟨some s96, some (s95, true), (.mv (.t s7))⟩
    (.one ⟨some s97, some (s95, true), (.mv (.t s15))⟩
    (.one ⟨some s98, some (s95, true), (.iaddr 3 (.t s96) (.t s97))⟩
    (.one ⟨some s99, some (s95, true), (.faddr 0 (.t s98))⟩
    (.one ⟨some s100, some (s95, true), (.load none (.t s99))⟩
    (.one ⟨some s101, some (s95, true), (.bin false .geq (.t s100) (.c (.v (.int .i64 2))))⟩
    (.one ⟨some s102, none, (.pick (.t s95) (.t s101) (.c (.v (.bool false))))⟩
    (.one ⟨some s103, none, (.mv (.t s102))⟩
    (.one ⟨some s104, some (s103, true), (.mv (.t s18))⟩
    (.one ⟨some s105, some (s103, true), (.bin false .gtr (.t s104) (.c (.v (.int .i64 0))))⟩
    (.one ⟨some s106, none, (.pick (.t s103) (.t s105) (.c (.v (.bool false))))⟩
    .done)))))))))))))))
  (.cond (.t s106) (.reg (.one ⟨some s107, none, (.mv (.t s18))⟩
    (.one ⟨some s108, none, (.bin false .sub (.t s107) (.c (.v (.int .i64 1))))⟩
    (.one ⟨some s18, none, (.mv (.t s108))⟩
    .done)))) .skip))
  (.seq (.seq (.reg (.one ⟨some s109, none, (.mv (.t s16))⟩
    (.one ⟨some s110, none, (.len false (.t s109))⟩
    (.one ⟨some s111, none, (.mv (.t s18))⟩
    (.one ⟨some s112, none, (.bin false .lss (.t s110) (.t s111))⟩
    .done)))))
  (.cond (.t s112) (.seq (.reg (.one ⟨some s6, none, (.mv (.c (.v (.bool false))))⟩
    .done))
  .ret) .skip))
  (.seq (.reg (.one ⟨some s113, none, (.mv (.t s12))⟩
    (.one ⟨some s114, none, (.mv (.t s7))⟩
    (.one ⟨some s115, none, (.mv (.t s15))⟩
    (.one ⟨some s116, none, (.iaddr 3 (.t s114) (.t s115))⟩
    (.one ⟨some s117, none, (.faddr 2 (.t s116))⟩
    (.one ⟨some s118, none, (.load none (.t s117))⟩
    (.one ⟨some s119, none, (.len false (.t s118))⟩
    (.one ⟨some s120, none, (.bin false .add (.t s113) (.t s119))⟩
    (.one ⟨some s121, none, (.mv (.t s16))⟩
    (.one ⟨some s122, none, (.len false (.t s121))⟩
    (.one ⟨some s123, none, (.bin false .sub (.t s120) (.t s122))⟩
    (.one ⟨some s19, none, (.mv (.t s123))⟩
    .done)))))))))))))
  (.seq (.seq (.reg (.one ⟨some s20, none, (.mv (.c (.v (.int .i64 0))))⟩
    .done))
  (.block 2 (.loop (.seq (.seq (.reg (.one ⟨some s124, none, (.mv (.t s20))⟩
    (.one ⟨some s125, none, (.mv (.t s16))⟩
    (.one ⟨some s126, none, (.len false (.t s125))⟩
    (.one ⟨some s127, none, (.bin false .lss (.t s124) (.t s126))⟩
    .done)))))
  (.cond (.t s127) .skip (.exit 2)))
  (.seq (.block 3 (.seq (.seq (.reg (.one ⟨some s130, none, (.mv (.t s19))⟩
    (.one ⟨some s131, none, (.mv (.t s20))⟩
    (.one ⟨some s132, none, (.bin false .add (.t s130) (.t s131))⟩
    (.one ⟨some s133, none, (.mv (.t s11))⟩
    (.one ⟨some s134, none, (.bin false .lss (.t s132) (.t s133))⟩
    (.one ⟨some s135, none, (.mv (.t s134))⟩
    (.one ⟨some s136, some (s135, false), (.mv (.t s19))⟩
    (.one ⟨some s137, some (s135, false), (.mv (.t s20))⟩
    (.one ⟨some s138, some (s135, false), (.bin false .add (.t s136) (.t s137))⟩
    (.one ⟨some s139, some (s135, false), (.mv (.t s8))⟩
    (.one ⟨some s140, some (s135, false), (.len false (.t s139))⟩
    (.one ⟨some s141, some (s135, false), (.bin false .geq (.t s138) (.t s140))⟩
    (.one ⟨some s142, none, (.pick (.t s135) (.c (.v (.bool true))) (.t s141))⟩
    (.one ⟨some s143, none, (.mv (.t s142))⟩
    (.one ⟨some s144, some (s143, false), (.mv (.t s16))⟩
    (.one ⟨some s145, some (s143, false), (.mv (.t s20))⟩
    (.one ⟨some s146, some (s143, false), (.iaddr 1 (.t s144) (.t s145))⟩
    (.one ⟨some s147, some (s143, false), (.load none (.t s146))⟩
    (.one ⟨some s148, some (s143, false), (.b2s (.t s147))⟩
    (.one ⟨some s149, some (s143, false), (.mv (.t s8))⟩
    (.one ⟨some s150, some (s143, false), (.mv (.t s19))⟩
    (.one ⟨some s151, some (s143, false), (.mv (.t s20))⟩
    (.one ⟨some s152, some (s143, false), (.bin false .add (.t s150) (.t s151))⟩
    (.one ⟨some s153, some (s143, false), (.iaddr 1 (.t s149) (.t s152))⟩
    (.one ⟨some s154, some (s143, false), (.load none (.t s153))⟩
    (.one ⟨some s155, some (s143, false), (.b2s (.t s154))⟩
    (.one ⟨some s156, some (s143, false), (.bin false .neq (.t s148) (.t s155))⟩
    (.one ⟨some s157, none, (.pick (.t s143) (.c (.v (.bool true))) (.t s156))⟩
    .done)))))))))))))))))))))))))))))
  (.cond (.t s157) (.seq (.reg (.one ⟨some s6, none, (.mv (.c (.v (.bool false))))⟩
    .done))
  .ret) .skip))
  (.reg (.one ⟨some s158, none, (.mv (.t s19))⟩
    (.one ⟨some s159, none, (.mv (.t s20))⟩
    (.one ⟨some s160, none, (.bin false .add (.t s158) (.t s159))⟩
    (.one ⟨some s161, none, (.bin false .add (.t s160) (.c (.v (.int .i64 1))))⟩
    (.one ⟨some s11, none, (.mv (.t s161))⟩
    .done))))))))
  (.reg (.one ⟨some s128, none, (.mv (.t s20))⟩
    (.one ⟨some s129, none, (.bin false .add (.t s128) (.c (.v (.int .i64 1))))⟩
    (.one ⟨some s20, none, (.mv (.t s129))⟩
    .done)))))))))
  (.seq (.reg (.one ⟨some s162, none, (.mv (.t s12))⟩
    (.one ⟨some s163, none, (.mv (.t s7))⟩
    (.one ⟨some s164, none, (.mv (.t s15))⟩
    (.one ⟨some s165, none, (.iaddr 3 (.t s163) (.t s164))⟩
    (.one ⟨some s166, none, (.faddr 2 (.t s165))⟩
    (.one ⟨some s167, none, (.load none (.t s166))⟩
    (.one ⟨some s168, none, (.len false (.t s167))⟩
    (.one ⟨some s169, none, (.bin false .add (.t s162) (.t s168))⟩
    (.one ⟨some s12, none, (.mv (.t s169))⟩
    .done))))))))))
  (.reg (.one ⟨some s13, none, (.mv (.c (.v (.bool false))))⟩
    .done))))))))))))
  (.reg (.one ⟨some s36, none, (.mv (.t s15))⟩
    (.one ⟨some s37, none, (.bin false .add (.t s36) (.c (.v (.int .i64 1))))⟩
    (.one ⟨some s15, none, (.mv (.t s37))⟩
    .done)))))))))
  (.seq (.reg (.one ⟨some s170, none, (.callq 14 [])⟩
    (.one ⟨some s6, none, (.mv (.t s170))⟩
    .done)))
  .ret)))))))⟩
theorem ok12 : compF Try.prog c12 Try.f12 = some ir12 := by kernel_rfl
theorem k_bowlinelaw14_GlueLoses {args : List AVal} {σ : AHeap} {Q : AVal → AHeap → Prop} (hl : Nat.ble args.length 171 = true) (h : argsK (Env.full 9) 0 args fun env => evC Try.prog c12 ir12.body env σ (retQ ir12 Q)) : ACalls Try.prog 12 args σ Q :=
  acalls_of Try.func12 ok12 rfl (Nat.le_of_ble_eq_true hl) h
/- bowlinelaw14.alive -/
def c14 : Cfg := ⟨qs, false, 100, [14, 16, 26, 34, 42]⟩
def ir14 : IFun := ⟨0, [.tmp s0],
  (.seq (.reg (.one ⟨some s0, none, (.mv (.c (.v (.bool false))))⟩
    .done))
  (.seq (.reg (.one ⟨some s11, none, (.callq 13 [])⟩
    (.one ⟨some s1, none, (.mv (.t s11))⟩
    .done)))
  (.seq (.reg (.one ⟨some s13, none, (.mv (.t s1))⟩
    (.one ⟨some s14, none, (.rowT 1 [(.c (.v (.int .u8 120)))])⟩
    (.one ⟨some s15, none, (.mark (.t s14))⟩
    (.one ⟨some s16, none, (.rowT 1 [(.c (.v (.int .u8 97))), (.c (.v (.int .u8 98)))])⟩
    (.one ⟨some s17, none, (.mark (.t s16))⟩
    (.one ⟨some s18, none, (.row 1 [(.t s15), (.t s17)])⟩
    (.one ⟨some s19, none, (.call 15 [(.t s13), (.c (.v (.int .i64 1))), (.t s18), (.c (.v (.bool false)))])⟩
    (.one ⟨some s12, none, (.mv (.t s19))⟩
    (.one ⟨some s20, none, (.ext (.t s12) 0)⟩
    (.one ⟨some s21, none, (.ext (.t s12) 1)⟩
    (.one ⟨some s2, none, (.mv (.t s20))⟩
    (.one ⟨some s3, none, (.mv (.t s21))⟩
    .done)))))))))))))
  (.seq (.reg (.one ⟨some s22, none, (.mv (.t s1))⟩
    (.one ⟨some s23, none, (.callq 16 [(.t s22)])⟩
    (.one ⟨some s4, none, (.mv (.t s23))⟩
    .done))))
  (.seq (.reg (.one ⟨some s25, none, (.mv (.t s1))⟩
    (.one ⟨some s26, none, (.rowT 1 [(.c (.v (.int .u8 99)))])⟩
    (.one ⟨some s27, none, (.mark (.t s26))⟩
    (.one ⟨some s28, none, (.row 1 [(.t s27)])⟩
    (.one ⟨some s29, none, (.call 15 [(.t s25), (.c (.v (.int .i64 2))), (.t s28), (.c (.v (.bool false)))])⟩
    (.one ⟨some s24, none, (.mv (.t s29))⟩
    (.one ⟨some s30, none, (.ext (.t s24) 0)⟩
    (.one ⟨some s31, none, (.ext (.t s24) 1)⟩
    (.one ⟨some s5, none, (.mv (.t s30))⟩
    (.one ⟨some s6, none, (.mv (.t s31))⟩
    .done)))))))))))
  (.seq (.reg (.one ⟨some s33, none, (.mv (.t s1))⟩
    (.one ⟨some s34, none, (.rowT 1 [(.c (.v (.int .u8 100)))])⟩
    (.one ⟨some s35, none, (.mark (.t s34))⟩
    (.one ⟨some s36, none, (.row 1 [(.t s35)])⟩
    (.one ⟨some s37, none, (.call 15 [(.t s33), (.c (.v (.int .i64 2))), (.t s36), (.c (.v (.bool false)))])⟩
    (.one ⟨some s32, none, (.mv (.t s37))⟩
    (.one ⟨some s38, none, (.ext (.t s32) 0)⟩
    (.one ⟨some s39, none, (.ext (.t s32) 1)⟩
    (.one ⟨some s7, none, (.mv (.t s38))⟩
    (.one ⟨some s8, none, (.mv (.t s39))⟩
    .done)))))))))))
  (.seq (.reg (.one ⟨some s41, none, (.mv (.t s1))⟩
    (.one ⟨some s42, none, (.rowT 1 [(.c (.v (.int .u8 100)))])⟩
    (.one ⟨some s43, none, (.mark (.t s42))⟩
    (.one ⟨some s44, none, (.row 1 [(.t s43)])⟩
    (.one ⟨some s45, none, (.call 15 [(.t s41), (.c (.v (.int .i64 4))), (.t s44), (.c (.v (.bool false)))])⟩
    (.one ⟨some s40, none, (.mv (.t s45))⟩
    (.one ⟨some s46, none, (.ext (.t s40) 0)⟩
    (.one ⟨some s47, none, (.ext (.t s40) 1)⟩
    (.one ⟨some s9, none, (.mv (.t s46))⟩
    (.one ⟨some s10, none, (.mv (.t s47))⟩
    .done)))))))))))
  (.seq (.reg (.one ⟨some s48, none, (.mv (.t s2))⟩
    (.one ⟨some s49, none, (.len false (.t s48))⟩
    (.one ⟨some s50, none, (.bin false .eql (.t s49) (.c (.v (.int .i64 1))))⟩
    (.one ⟨some s51, none, (.mv (.t s50))⟩
    (.one ⟨some s52, some (s51, true), (.mv (.t s2))⟩
    (.one ⟨some s53, some (s51, true), (.iaddr 1 (.t s52) (.c (.v (.int .i64 0))))⟩
    (.one ⟨some s54, some (s51, true), (.load none (.t s53))⟩
    (.one ⟨some s55, some (s51, true), (.b2s (.t s54))⟩
    (.one ⟨some s56, some (s51, true), (.bin false .eql (.t s55) (.c (.v (.string ⟨#[120]⟩))))⟩
    (.one ⟨some s57, none, (.pick (.t s51) (.t s56) (.c (.v (.bool false))))⟩
    (.one ⟨some s58, none, (.mv (.t s57))⟩
    (.one ⟨some s59, some (s58, true), (.mv (.t s3))⟩
    (.one ⟨some s60, some (s58, true), (.bin false .eql (.t s59) (.c (.v (.int .i64 0))))⟩
    (.one ⟨some s61, none, (.pick (.t s58) (.t s60) (.c (.v (.bool false))))⟩
    (.one ⟨some s62, none, (.mv (.t s61))⟩
    (.one ⟨some s63, some (s62, true), (.mv (.t s4))⟩
    (.one ⟨some s64, some (s62, true), (.bin false .eql (.t s63) (.c (.v (.int .i64 2))))⟩
    (.one ⟨some s65, none, (.pick (.t s62) (.t s64) (.c (.v (.bool false))))⟩
    (.one ⟨some s66, none, (.mv (.t s65))⟩
    (.one ⟨some s67, some (s66, true), (.mv (.t s5))⟩
    (.one ⟨some s68, some (s66, true), (.len false (.t s67))⟩
    (.one ⟨some s69, some (s66, true), (.bin false .eql (.t s68) (.c (.v (.int .i64 1))))⟩
    (.one ⟨some s70, none, (.pick (.t s66) (.t s69) (.c (.v (.bool false))))⟩
    (.one ⟨some s71, none, (.mv (.t s70))⟩
    (.one ⟨some s72, some (s71, true), (.mv (.t s5))⟩
    (.one ⟨some s73, some (s71, true), (.iaddr 1 (.t s72) (.c (.v (.int .i64 0))))⟩
    (.one ⟨some s74, some (s71, true), (.load none (.t s73))⟩
    (.one ⟨some s75, some (s71, true), (.b2s (.t s74))⟩
    (.one ⟨some s76, some (s71, true), (.bin false .eql (.t s75) (.c (.v (.string ⟨#[97, 98, 99]⟩))))⟩
    (.one ⟨some s77, none, (.pick (.t s71) (.t s76) (.c (.v (.bool false))))⟩
    (.one ⟨some s78, none, (.mv (.t s77))⟩
    (.one ⟨some s79, some (s78, true), (.mv (.t s6))⟩
    (.one ⟨some s80, some (s78, true), (.bin false .eql (.t s79) (.c (.v (.int .i64 0))))⟩
    (.one ⟨some s81, none, (.pick (.t s78) (.t s80) (.c (.v (.bool false))))⟩
    (.one ⟨some s82, none, (.mv (.t s81))⟩
    (.one ⟨some s83, some (s82, true), (.mv (.t s7))⟩
    (.one ⟨some s84, some (s82, true), (.len false (.t s83))⟩
    (.one ⟨some s85, some (s82, true), (.bin false .eql (.t s84) (.c (.v (.int .i64 0))))⟩
    (.one ⟨some s86, none, (.pick (.t s82) (.t s85) (.c (.v (.bool false))))⟩
    (.one ⟨some s87, none, (.mv (.t s86))⟩
    (.one ⟨some s88, some (s87, true), (.mv (.t s8))⟩
    (.one ⟨some s89, some (s87, true), (.bin false .eql (.t s88) (.c (.v (.int .i64 0))))⟩
    (.one ⟨some s90, none, (.pick (.t s87) (.t s89) (.c (.v (.bool false))))⟩
    (.one ⟨some s91, none, (.mv (.t s90))⟩
    (.one ⟨some s92, some (s91, true), (.mv (.t s10))⟩
    (.one ⟨some s93, some (s91, true), (.bin false .eql (.t s92) (.c (.v (.int .i64 1))))⟩
    (.one ⟨some s94, none, (.pick (.t s91) (.t s93) (.c (.v (.bool false))))⟩
    (.one ⟨some s95, none, (.mv (.t s94))⟩
    (.one ⟨some s96, some (s95, true), (.mv (.t s1))⟩
    (.one ⟨some s97, some (s95, true), (.callq 17 [(.t s96)])⟩
    (.one ⟨some s98, some (s95, true), (.bin false .eql (.t s97) (.c (.v (.int .i64 1))))⟩
    (.one ⟨some s99, none, (.pick (.t s95) (.t s98) (.c (.v (.bool false))))⟩
    (.one ⟨some s0, none, (.mv (.t s99))⟩
    .done))))))))))))))))))))))))))))))))))))))))))))))))))))))
  .ret))))))))⟩
theorem ok14 : compF Try.prog c14 Try.f14 = some ir14 := by kernel_rfl
theorem k_bowlinelaw14_alive {args : List AVal} {σ : AHeap} {Q : AVal → AHeap → Prop} (hl : Nat.ble args.length 100 = true) (h : argsK (Env.full 9) 0 args fun env => evC Try.prog c14 ir14.body env σ (retQ ir14 Q)) : ACalls Try.prog 14 args σ Q :=
  acalls_of Try.func14 ok14 rfl (Nat.le_of_ble_eq_true hl) h
/- bowlinelaw14.pieces -/
def c52 : Cfg := ⟨qs, false, 101, []⟩
def ir52 : IFun := ⟨2, [.tmp s4, .tmp s5, .tmp s6],
  (.seq (.reg (.one ⟨some s4, none, (.mv (.c (.slice 3 [] .full)))⟩
    (.one ⟨some s5, none, (.mv (.c (.slice 1 [] .full)))⟩
    (.one ⟨some s6, none, (.mv (.c (.v (.bool false))))⟩
    .done))))
  (.seq (.reg (.one ⟨some s18, none, (.callq 24 [(.c (.v (.int .i64 20000)))])⟩
    (.one ⟨some s17, none, (.mv (.t s18))⟩
    (.one ⟨some s19, none, (.ext (.t s17) 0)⟩
    (.one ⟨some s20, none, (.ext (.t s17) 1)⟩
    (.one ⟨some s7, none, (.mv (.t s19))⟩
    (.one ⟨some s8, none, (.mv (.t s20))⟩
    .done)))))))
  (.seq (.seq (.reg (.one ⟨some s21, none, (.mv (.t s8))⟩
    (.one ⟨some s22, none, (.bin false .neq (.t s21) (.c (.v (.int .i64 0))))⟩
    (.one ⟨some s23, none, (.mv (.t s22))⟩
    (.one ⟨some s24, some (s23, false), (.mv (.t s7))⟩
    (.one ⟨some s25, some (s23, false), (.eqNil 1 false (.t s24))⟩
    (.one ⟨some s26, none, (.pick (.t s23) (.c (.v (.bool true))) (.t s25))⟩
    (.one ⟨some s27, none, (.mv (.t s26))⟩
    (.one ⟨some s28, some (s27, false), (.mv (.t s1))⟩
    (.one ⟨some s29, some (s27, false), (.len false (.t s28))⟩
    (.one ⟨some s30, some (s27, false), (.bin false .eql (.t s29) (.c (.v (.int .i64 0))))⟩
    (.one ⟨some s31, none, (.pick (.t s27) (.c (.v (.bool true))) (.t s30))⟩
    .done))))))))))))
  (.cond (.t s31) (.seq (.reg (.one ⟨some s4, none, (.mv (.c (.slice 3 [] .full)))⟩
    (.one ⟨some s5, none, (.mv (.c (.slice 1 [] .full)))⟩
    (.one ⟨some s6, none, (.mv (.c (.v (.bool false))))⟩
    .done))))
  .ret) .skip))
  (.seq (.reg (.one ⟨some s9, none, (.mv (.c (.slice 3 [] .full)))⟩
    .done))
  (.seq (.reg (.one ⟨some s10, none, (.mv (.c (.slice 1 [] .full)))⟩
    .done))
  (.seq (.seq (.reg (.one ⟨some s11, none, (.mv (.c (.v (.int .i64 0))))⟩
    .done))
  (.block 0 (.loop (.seq (.seq (.reg (.one ⟨some s32, none, (.mv (.t s11))⟩
    (.one ⟨some s33, none, (.mv (.t s0))⟩
    (.one ⟨some s34, none, (.len false (.t s33))⟩
    (.one ⟨some s35, none, (.bin false .lss (.t s32) (.t s34))⟩
    (.one ⟨some s36, none, (.mv (.t s35))⟩
    (.one ⟨some s37, some (s36, true), (.mv (.t s11))⟩
    (.one ⟨some s38, some (s36, true), (.bin false .lss (.t s37) (.c (.v (.int .i64 20))))⟩
    (.one ⟨some s39, none, (.pick (.t s36) (.t s38) (.c (.v (.bool false))))⟩
    .done)))))))))
  (.cond (.t s39) .skip (.exit 0)))
  (.seq (.block 1 (.seq (.seq (.reg (.one ⟨some s42, none, (.mv (.t s0))⟩
    (.one ⟨some s43, none, (.mv (.t s11))⟩
    (.one ⟨some s44, none, (.iaddr 1 (.t s42) (.t s43))⟩
    (.one ⟨some s45, none, (.load none (.t s44))⟩
    (.one ⟨some s46, none, (.len false (.t s45))⟩
    (.one ⟨some s47, none, (.bin false .gtr (.t s46) (.c (.v (.int .i64 1100))))⟩
    .done)))))))
  (.cond (.t s47) (.seq (.reg (.one ⟨some s4, none, (.mv (.c (.slice 3 [] .full)))⟩
    (.one ⟨some s5, none, (.mv (.c (.slice 1 [] .full)))⟩
    (.one ⟨some s6, none, (.mv (.c (.v (.bool false))))⟩
    .done))))
  .ret) .skip))
  (.seq (.reg (.one ⟨some s49, none, (.mv (.t s7))⟩
    (.one ⟨some s50, none, (.mv (.t s0))⟩
    (.one ⟨some s51, none, (.mv (.t s11))⟩
    (.one ⟨some s52, none, (.iaddr 1 (.t s50) (.t s51))⟩
    (.one ⟨some s53, none, (.load none (.t s52))⟩
    (.one ⟨some s54, none, (.call 26 [(.t s49), (.t s53)])⟩
    (.one ⟨some s48, none, (.mv (.t s54))⟩
    (.one ⟨some s55, none, (.ext (.t s48) 0)⟩
    (.one ⟨some s56, none, (.ext (.t s48) 1)⟩
    (.one ⟨some s12, none, (.mv (.t s55))⟩
    (.one ⟨some s13, none, (.mv (.t s56))⟩
    .done))))))))))))
  (.seq (.reg (.one ⟨some s57, none, (.mv (.t s13))⟩
    (.one ⟨some s58, none, (.bin false .eql (.t s57) (.c (.v (.int .i64 0))))⟩
    .done)))
  (.cond (.t s58) (.reg (.one ⟨some s59, none, (.mv (.t s10))⟩
    (.one ⟨some s60, none, (.mv (.t s0))⟩
    (.one ⟨some s61, none, (.mv (.t s11))⟩
    (.one ⟨some s62, none, (.iaddr 1 (.t s60) (.t s61))⟩
    (.one ⟨some s63, none, (.load none (.t s62))⟩
    (.one ⟨some s64, none, (.row 1 [(.t s63)])⟩
    (.one ⟨some s65, none, (.app 1 24 (.t s59) (.t s64))⟩
    (.one ⟨some s10, none, (.mv (.t s65))⟩
    .done))))))))) .skip)))))
  (.reg (.one ⟨some s40, none, (.mv (.t s11))⟩
    (.one ⟨some s41, none, (.bin false .add (.t s40) (.c (.v (.int .i64 1))))⟩
    (.one ⟨some s11, none, (.mv (.t s41))⟩
    .done)))))))))
  (.seq (.seq (.reg (.one ⟨some s14, none, (.mv (.c (.v (.int .i64 0))))⟩
    .done))
  (.block 2 (.loop (.seq (.seq (.reg (.one ⟨some s66, none, (.mv (.t s7))⟩
    (.one ⟨some s67, none, (.callq 28 [(.t s66)])⟩
    (.one ⟨some s68, none, (.bin false .gtr (.t s67) (.c (.v (.int .i64 0))))⟩
    (.one ⟨some s69, none, (.mv (.t s68))⟩
    (.one ⟨some s70, some (s69, true), (.mv (.t s14))⟩
    (.one ⟨some s71, some (s69, true), (.bin false .lss (.t s70) (.c (.v (.int .i64 3000))))⟩
    (.one ⟨some s72, none, (.pick (.t s69) (.t s71) (.c (.v (.bool false))))⟩
    .done))))))))
  (.cond (.t s72) .skip (.exit 2)))
  (.seq (.block 3 (.seq (.reg (.one ⟨some s76, none, (.mv (.t s7))⟩
    (.one ⟨some s77, none, (.mv (.t s1))⟩
    (.one ⟨some s78, none, (.mv (.t s14))⟩
    (.one ⟨some s79, none, (.mv (.t s1))⟩
    (.one ⟨some s80, none, (.len false (.t s79))⟩
    (.one ⟨some s81, none, (.bin false .rem (.t s78) (.t s80))⟩
    (.one ⟨some s82, none, (.iaddr 1 (.t s77) (.t s81))⟩
    (.one ⟨some s83, none, (.load none (.t s82))⟩
    (.one ⟨some s84, none, (.conv .i64 (.t s83))⟩
    (.one ⟨some s85, none, (.bin false .rem (.t s84) (.c (.v (.int .i64 400))))⟩
    (.one ⟨some s86, none, (.bin false .add (.c (.v (.int .i64 20))) (.t s85))⟩
    (.one ⟨some s87, none, (.call 71 [(.t s76), (.t s86), (.c (.v (.int .i64 11)))])⟩
    (.one ⟨some s75, none, (.mv (.t s87))⟩
    (.one ⟨some s88, none, (.ext (.t s75) 0)⟩
    (.one ⟨some s89, none, (.ext (.t s75) 1)⟩
    (.one ⟨some s15, none, (.new [(.v (.int .i64 0)), (.slice 1 [] .full), (.slice 1 [] .full)])⟩
    (.one ⟨none, none, (.store 3 (.t s15) (.t s88))⟩
    (.one ⟨some s16, none, (.mv (.t s89))⟩
    .done)))))))))))))))))))
  (.seq (.seq (.reg (.one ⟨some s90, none, (.mv (.t s16))⟩
    (.one ⟨some s91, none, (.bin false .neq (.t s90) (.c (.v (.int .i64 0))))⟩
    .done)))
  (.cond (.t s91) (.seq (.reg (.one ⟨some s4, none, (.mv (.c (.slice 3 [] .full)))⟩
    (.one ⟨some s5, none, (.mv (.c (.slice 1 [] .full)))⟩
    (.one ⟨some s6, none, (.mv (.c (.v (.bool false))))⟩
    .done))))
  .ret) .skip))
  (.reg (.one ⟨some s92, none, (.mv (.t s9))⟩
    (.one ⟨some s93, none, (.load (some 3) (.t s15))⟩
    (.one ⟨some s94, none, (.row 3 [(.t s93)])⟩
    (.one ⟨some s95, none, (.app 3 56 (.t s92) (.t s94))⟩
    (.one ⟨some s9, none, (.mv (.t s95))⟩
    .done)))))))))
  (.reg (.one ⟨some s73, none, (.mv (.t s14))⟩
    (.one ⟨some s74, none, (.bin false .add (.t s73) (.c (.v (.int .i64 1))))⟩
    (.one ⟨some s14, none, (.mv (.t s74))⟩
    .done)))))))))
  (.seq (.reg (.one ⟨some s96, none, (.mv (.t s9))⟩
    (.one ⟨some s97, none, (.mv (.t s10))⟩
    (.one ⟨some s98, none, (.mv (.t s7))⟩
    (.one ⟨some s99, none, (.callq 28 [(.t s98)])⟩
    (.one ⟨some s100, none, (.bin false .eql (.t s99) (.c (.v (.int .i64 0))))⟩
    (.one ⟨some s4, none, (.mv (.t s96))⟩
    (.one ⟨some s5, none, (.mv (.t s97))⟩
    (.one ⟨some s6, none, (.mv (.t s100))⟩
    .done)))))))))
  .ret))))))))⟩
theorem ok52 : compF Try.prog c52 Try.f52 = some ir52 := by kernel_rfl
theorem k_bowlinelaw14_pieces {args : List AVal} {σ : AHeap} {Q : AVal → AHeap → Prop} (hl : Nat.ble args.length 101 = true) (h : argsK (Env.full 9) 0 args fun env => evC Try.prog c52 ir52.body env σ (retQ ir52 Q)) : ACalls Try.prog 52 args σ Q :=
  acalls_of Try.func52 ok52 rfl (Nat.le_of_ble_eq_true hl) h
end Go.Proofs.Ytiohpnkfcaahbaa

