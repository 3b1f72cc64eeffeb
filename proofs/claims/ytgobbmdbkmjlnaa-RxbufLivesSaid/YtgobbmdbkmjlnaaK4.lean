/-
  Texts of this claim, pack 4: Irlaw24.
-/
import Derived.Test.YtgobbmdbkmjlnaaK2
/-
  The bodies of one package, compiled to the framework's language (printed by a program of this session).
-/
namespace Go.Proofs.Ytgobbmdbkmjlnaa
set_option linter.unusedVariables false
set_option linter.unusedSimpArgs false
open Go Go.Am
/- bowlinelaw24.RxbufTwice -/
def c3 : Cfg := ⟨qs, [], 120, [], ps⟩
def ir3 : IFun := ⟨1, [.tmp s2],
  (.seq (.reg (.one ⟨some s2, none, (.mv (.c (.v (.bool false))))⟩
    .done))
  (.seq (.reg (.one ⟨some s11, none, (.callq 9 [])⟩
    (.one ⟨some s3, none, (.mv (.t s11))⟩
    .done)))
  (.seq (.seq (.reg (.one ⟨some s4, none, (.mv (.c (.v (.int .i64 0))))⟩
    .done))
  (.block 0 (.loop (.seq (.seq (.reg (.one ⟨some s12, none, (.mv (.t s4))⟩
    (.one ⟨some s13, none, (.mv (.t s0))⟩
    (.one ⟨some s14, none, (.len false (.t s13))⟩
    (.one ⟨some s15, none, (.bin false .lss (.t s12) (.t s14))⟩
    (.one ⟨some s16, none, (.mv (.t s15))⟩
    (.one ⟨some s17, some (s16, true), (.mv (.t s4))⟩
    (.one ⟨some s18, some (s16, true), (.bin false .lss (.t s17) (.c (.v (.int .i64 60))))⟩
    (.one ⟨some s19, none, (.pick (.t s16) (.t s18) (.c (.v (.bool false))))⟩
    .done)))))))))
  (.cond (.t s19) .skip (.exit 0)))
  (.seq (.block 1 (.seq (.reg (.one ⟨some s22, none, (.mv (.t s0))⟩
    (.one ⟨some s23, none, (.mv (.t s4))⟩
    (.one ⟨some s24, none, (.iaddr 9 (.t s22) (.t s23))⟩
    (.one ⟨some s25, none, (.load (some 9) (.t s24))⟩
    (.one ⟨some s5, none, (.new [(.v (.int .i64 0)), (.v (.int .i64 0)), (.v (.bool false)), (.v (.int .i64 0)), (.v (.int .i64 0)), (.v (.bool false)), (.v (.bool false)), (.v (.int .i64 0)), (.slice 1 [] .full)])⟩
    (.one ⟨none, none, (.store 9 (.t s5) (.t s25))⟩
    .done)))))))
  (.seq (.seq (.reg (.one ⟨some s26, none, (.faddr 2 (.t s5))⟩
    (.one ⟨some s27, none, (.faddr 6 (.t s26))⟩
    (.one ⟨some s28, none, (.load none (.t s27))⟩
    (.one ⟨some s29, none, (.callq 10 [(.t s28)])⟩
    .done)))))
  (.cond (.t s29) (.seq (.reg (.one ⟨some s30, none, (.callq 11 [])⟩
    (.one ⟨some s2, none, (.mv (.t s30))⟩
    .done)))
  .ret) .skip))
  (.seq (.seq (.reg (.one ⟨some s31, none, (.faddr 0 (.t s5))⟩
    (.one ⟨some s32, none, (.load none (.t s31))⟩
    (.one ⟨some s33, none, (.bin false .neq (.t s32) (.c (.v (.int .i64 0))))⟩
    .done))))
  (.cond (.t s33) (.seq (.reg (.one ⟨some s34, none, (.mv (.t s3))⟩
    (.one ⟨some s35, none, (.faddr 1 (.t s5))⟩
    (.one ⟨some s36, none, (.load none (.t s35))⟩
    (.one ⟨some s37, none, (.call 12 [(.t s34), (.t s36)])⟩
    .done)))))
  (.exit 1)) .skip))
  (.seq (.reg (.one ⟨some s38, none, (.mv (.t s3))⟩
    (.one ⟨some s40, none, (.mv (.t s3))⟩
    (.one ⟨some s41, none, (.faddr 2 (.t s5))⟩
    (.one ⟨some s42, none, (.faddr 2 (.t s41))⟩
    (.one ⟨some s43, none, (.load none (.t s42))⟩
    (.one ⟨some s46, none, (.mv (.t s3))⟩
    (.one ⟨some s47, none, (.faddr 2 (.t s5))⟩
    (.one ⟨some s48, none, (.faddr 2 (.t s47))⟩
    (.one ⟨some s49, none, (.load none (.t s48))⟩
    (.one ⟨some s39, none, (.callq 13 [(.t s38)])⟩
    (.one ⟨some s44, none, (.callq 14 [(.t s40), (.t s43)])⟩
    (.one ⟨some s45, none, (.len false (.t s44))⟩
    (.one ⟨some s50, none, (.callq 15 [(.t s46), (.t s49)])⟩
    (.one ⟨some s6, none, (.mv (.t s39))⟩
    (.one ⟨some s7, none, (.mv (.t s45))⟩
    (.one ⟨some s8, none, (.mv (.t s50))⟩
    .done)))))))))))))))))
  (.seq (.reg (.one ⟨some s51, none, (.mv (.t s3))⟩
    (.one ⟨some s52, none, (.faddr 2 (.t s5))⟩
    (.one ⟨some s53, none, (.load (some 7) (.t s52))⟩
    (.one ⟨some s54, none, (.call 16 [(.t s51), (.t s53)])⟩
    (.one ⟨some s9, none, (.mv (.t s54))⟩
    .done))))))
  (.seq (.seq (.reg (.one ⟨some s55, none, (.mv (.t s9))⟩
    (.one ⟨some s56, none, (.bin false .neq (.t s55) (.c (.v (.int .i64 0))))⟩
    (.one ⟨some s57, none, (.mv (.t s56))⟩
    (.one ⟨some s58, some (s57, true), (.mv (.t s3))⟩
    (.one ⟨some s59, some (s57, true), (.callq 13 [(.t s58)])⟩
    (.one ⟨some s60, some (s57, true), (.mv (.t s6))⟩
    (.one ⟨some s61, some (s57, true), (.bin false .neq (.t s59) (.t s60))⟩
    (.one ⟨some s62, some (s57, true), (.mv (.t s61))⟩
    (.one ⟨some s63, some (s62, false), (.mv (.t s3))⟩
    (.one ⟨some s64, some (s62, false), (.faddr 2 (.t s5))⟩
    (.one ⟨some s65, some (s62, false), (.faddr 2 (.t s64))⟩
    (.one ⟨some s66, some (s62, false), (.load none (.t s65))⟩
    (.one ⟨some s67, some (s62, false), (.callq 14 [(.t s63), (.t s66)])⟩
    (.one ⟨some s68, some (s62, false), (.len false (.t s67))⟩
    (.one ⟨some s69, some (s62, false), (.mv (.t s7))⟩
    (.one ⟨some s70, some (s62, false), (.bin false .neq (.t s68) (.t s69))⟩
    (.one ⟨some s71, some (s57, true), (.pick (.t s62) (.c (.v (.bool true))) (.t s70))⟩
    (.one ⟨some s72, some (s57, true), (.mv (.t s71))⟩
    (.one ⟨some s73, some (s72, false), (.mv (.t s3))⟩
    (.one ⟨some s74, some (s72, false), (.faddr 2 (.t s5))⟩
    (.one ⟨some s75, some (s72, false), (.faddr 2 (.t s74))⟩
    (.one ⟨some s76, some (s72, false), (.load none (.t s75))⟩
    (.one ⟨some s77, some (s72, false), (.callq 15 [(.t s73), (.t s76)])⟩
    (.one ⟨some s78, some (s72, false), (.mv (.t s8))⟩
    (.one ⟨some s79, some (s72, false), (.bin true .neq (.t s77) (.t s78))⟩
    (.one ⟨some s80, some (s57, true), (.pick (.t s72) (.c (.v (.bool true))) (.t s79))⟩
    (.one ⟨some s81, none, (.pick (.t s57) (.t s80) (.c (.v (.bool false))))⟩
    (.one ⟨some s82, none, (.mv (.t s81))⟩
    (.one ⟨some s83, some (s82, false), (.mv (.t s9))⟩
    (.one ⟨some s84, some (s82, false), (.bin false .eql (.t s83) (.c (.v (.int .i64 0))))⟩
    (.one ⟨some s85, some (s82, false), (.mv (.t s84))⟩
    (.one ⟨some s86, some (s85, true), (.mv (.t s3))⟩
    (.one ⟨some s87, some (s85, true), (.callq 13 [(.t s86)])⟩
    (.one ⟨some s88, some (s85, true), (.mv (.t s6))⟩
    (.one ⟨some s89, some (s85, true), (.bin false .leq (.t s87) (.t s88))⟩
    (.one ⟨some s90, some (s82, false), (.pick (.t s85) (.t s89) (.c (.v (.bool false))))⟩
    (.one ⟨some s91, none, (.pick (.t s82) (.c (.v (.bool true))) (.t s90))⟩
    .done))))))))))))))))))))))))))))))))))))))
  (.cond (.t s91) (.seq (.reg (.one ⟨some s2, none, (.mv (.c (.v (.bool false))))⟩
    .done))
  .ret) .skip))
  (.seq (.reg (.one ⟨some s92, none, (.mv (.t s3))⟩
    (.one ⟨some s93, none, (.callq 13 [(.t s92)])⟩
    (.one ⟨some s6, none, (.mv (.t s93))⟩
    .done))))
  (.seq (.reg (.one ⟨some s94, none, (.mv (.t s3))⟩
    (.one ⟨some s95, none, (.faddr 2 (.t s5))⟩
    (.one ⟨some s96, none, (.load (some 7) (.t s95))⟩
    (.one ⟨some s97, none, (.call 16 [(.t s94), (.t s96)])⟩
    (.one ⟨some s10, none, (.mv (.t s97))⟩
    .done))))))
  (.seq (.reg (.one ⟨some s98, none, (.mv (.t s9))⟩
    (.one ⟨some s99, none, (.bin false .eql (.t s98) (.c (.v (.int .i64 0))))⟩
    (.one ⟨some s100, none, (.mv (.t s99))⟩
    (.one ⟨some s101, some (s100, true), (.mv (.t s10))⟩
    (.one ⟨some s102, some (s100, true), (.bin false .neq (.t s101) (.c (.v (.int .i64 12))))⟩
    (.one ⟨some s103, none, (.pick (.t s100) (.t s102) (.c (.v (.bool false))))⟩
    (.one ⟨some s104, none, (.mv (.t s103))⟩
    (.one ⟨some s105, some (s104, false), (.mv (.t s9))⟩
    (.one ⟨some s106, some (s104, false), (.bin false .neq (.t s105) (.c (.v (.int .i64 0))))⟩
    (.one ⟨some s107, some (s104, false), (.mv (.t s106))⟩
    (.one ⟨some s108, some (s107, true), (.mv (.t s10))⟩
    (.one ⟨some s109, some (s107, true), (.mv (.t s9))⟩
    (.one ⟨some s110, some (s107, true), (.bin false .neq (.t s108) (.t s109))⟩
    (.one ⟨some s111, some (s104, false), (.pick (.t s107) (.t s110) (.c (.v (.bool false))))⟩
    (.one ⟨some s112, none, (.pick (.t s104) (.c (.v (.bool true))) (.t s111))⟩
    (.one ⟨some s113, none, (.mv (.t s112))⟩
    (.one ⟨some s114, some (s113, false), (.mv (.t s3))⟩
    (.one ⟨some s115, some (s113, false), (.callq 13 [(.t s114)])⟩
    (.one ⟨some s116, some (s113, false), (.mv (.t s6))⟩
    (.one ⟨some s117, some (s113, false), (.bin false .neq (.t s115) (.t s116))⟩
    (.one ⟨some s118, none, (.pick (.t s113) (.c (.v (.bool true))) (.t s117))⟩
    .done))))))))))))))))))))))
  (.cond (.t s118) (.seq (.reg (.one ⟨some s2, none, (.mv (.c (.v (.bool false))))⟩
    .done))
  .ret) .skip)))))))))))
  (.reg (.one ⟨some s20, none, (.mv (.t s4))⟩
    (.one ⟨some s21, none, (.bin false .add (.t s20) (.c (.v (.int .i64 1))))⟩
    (.one ⟨some s4, none, (.mv (.t s21))⟩
    .done)))))))))
  (.seq (.reg (.one ⟨some s119, none, (.callq 11 [])⟩
    (.one ⟨some s2, none, (.mv (.t s119))⟩
    .done)))
  .ret))))⟩
theorem ok3 : compF Try.prog c3 Try.f3 = some ir3 := by kernel_rfl
/- bowlinelaw24.RxbufLives -/
def c4 : Cfg := ⟨qs, [], 221, [], ps⟩
def ir4 : IFun := ⟨1, [.tmp s2],
  (.seq (.reg (.one ⟨some s2, none, (.mv (.c (.v (.bool false))))⟩
    .done))
  (.seq (.reg (.one ⟨some s23, none, (.callq 9 [])⟩
    (.one ⟨some s24, none, (.build [(.slice 6 [] .full)] [])⟩
    (.one ⟨some s25, none, (.box 1 (.t s24))⟩
    (.one ⟨some s3, none, (.mv (.t s23))⟩
    (.one ⟨some s4, none, (.mv (.t s25))⟩
    .done))))))
  (.seq (.seq (.reg (.one ⟨some s5, none, (.mv (.c (.v (.int .i64 0))))⟩
    .done))
  (.block 0 (.loop (.seq (.seq (.reg (.one ⟨some s26, none, (.mv (.t s5))⟩
    (.one ⟨some s27, none, (.mv (.t s0))⟩
    (.one ⟨some s28, none, (.len false (.t s27))⟩
    (.one ⟨some s29, none, (.bin false .lss (.t s26) (.t s28))⟩
    (.one ⟨some s30, none, (.mv (.t s29))⟩
    (.one ⟨some s31, some (s30, true), (.mv (.t s5))⟩
    (.one ⟨some s32, some (s30, true), (.bin false .lss (.t s31) (.c (.v (.int .i64 60))))⟩
    (.one ⟨some s33, none, (.pick (.t s30) (.t s32) (.c (.v (.bool false))))⟩
    .done)))))))))
  (.cond (.t s33) .skip (.exit 0)))
  (.seq (.block 1 (.seq (.reg (.one ⟨some s36, none, (.mv (.t s0))⟩
    (.one ⟨some s37, none, (.mv (.t s5))⟩
    (.one ⟨some s38, none, (.iaddr 9 (.t s36) (.t s37))⟩
    (.one ⟨some s39, none, (.load (some 9) (.t s38))⟩
    (.one ⟨some s6, none, (.new [(.v (.int .i64 0)), (.v (.int .i64 0)), (.v (.bool false)), (.v (.int .i64 0)), (.v (.int .i64 0)), (.v (.bool false)), (.v (.bool false)), (.v (.int .i64 0)), (.slice 1 [] .full)])⟩
    (.one ⟨none, none, (.store 9 (.t s6) (.t s39))⟩
    .done)))))))
  (.seq (.seq (.reg (.one ⟨some s40, none, (.faddr 2 (.t s6))⟩
    (.one ⟨some s41, none, (.faddr 6 (.t s40))⟩
    (.one ⟨some s42, none, (.load none (.t s41))⟩
    (.one ⟨some s43, none, (.callq 10 [(.t s42)])⟩
    .done)))))
  (.cond (.t s43) (.seq (.reg (.one ⟨some s44, none, (.callq 11 [])⟩
    (.one ⟨some s2, none, (.mv (.t s44))⟩
    .done)))
  .ret) .skip))
  (.seq (.reg (.one ⟨some s45, none, (.faddr 1 (.t s6))⟩
    (.one ⟨some s46, none, (.load none (.t s45))⟩
    (.one ⟨some s7, none, (.mv (.t s46))⟩
    (.one ⟨some s8, none, (.mv (.c (.v (.bool true))))⟩
    .done)))))
  (.seq (.seq (.reg (.one ⟨some s47, none, (.faddr 0 (.t s6))⟩
    (.one ⟨some s48, none, (.load none (.t s47))⟩
    .done)))
  (.block 2 (.seq (.reg (.one ⟨some s50, none, (.bin false .eql (.t s48) (.c (.v (.int .i64 0))))⟩
    (.one ⟨some s49, none, (.mv (.t s50))⟩
    .done)))
  (.cond (.t s49) (.seq (.reg (.one ⟨some s51, none, (.faddr 2 (.t s6))⟩
    (.one ⟨some s52, none, (.faddr 2 (.t s51))⟩
    (.one ⟨some s53, none, (.load none (.t s52))⟩
    (.one ⟨some s7, none, (.mv (.t s53))⟩
    .done)))))
  (.reg (.one ⟨some s54, none, (.mv (.t s3))⟩
    (.one ⟨some s55, none, (.faddr 2 (.t s6))⟩
    (.one ⟨some s56, none, (.load (some 7) (.t s55))⟩
    (.one ⟨some s58, none, (.mv (.t s4))⟩
    (.one ⟨some s59, none, (.faddr 2 (.t s6))⟩
    (.both (.one ⟨some s57, none, (.call 16 [(.t s54), (.t s56)])⟩
    (.one ⟨some s60, none, (.load (some 7) (.t s59))⟩
    (.one ⟨some s61, none, (.callq 18 [(.t s60)])⟩
    (.one ⟨some s62, none, (.call 17 [(.t s58), (.t s61)])⟩
    (.one ⟨some s63, none, (.bin false .eql (.t s57) (.t s62))⟩
    (.one ⟨some s8, none, (.mv (.t s63))⟩
    .done)))))) (.one ⟨some s60, none, (.load (some 7) (.t s59))⟩
    (.one ⟨some s57, none, (.call 16 [(.t s54), (.t s56)])⟩
    (.one ⟨some s61, none, (.callq 18 [(.t s60)])⟩
    (.one ⟨some s62, none, (.call 17 [(.t s58), (.t s61)])⟩
    (.one ⟨some s63, none, (.bin false .eql (.t s57) (.t s62))⟩
    (.one ⟨some s8, none, (.mv (.t s63))⟩
    .done)))))))))))))) (.seq (.reg (.one ⟨some s65, none, (.bin false .eql (.t s48) (.c (.v (.int .i64 1))))⟩
    (.one ⟨some s64, none, (.mv (.t s65))⟩
    .done)))
  (.cond (.t s64) (.seq (.reg (.one ⟨some s67, none, (.mv (.t s3))⟩
    (.one ⟨some s68, none, (.mv (.t s7))⟩
    (.one ⟨some s69, none, (.call 12 [(.t s67), (.t s68)])⟩
    (.one ⟨some s66, none, (.mv (.t s69))⟩
    (.one ⟨some s70, none, (.ext (.t s66) 0)⟩
    (.one ⟨some s71, none, (.ext (.t s66) 1)⟩
    (.one ⟨some s72, none, (.ext (.t s66) 2)⟩
    (.one ⟨some s9, none, (.mv (.t s70))⟩
    (.one ⟨some s10, none, (.mv (.t s71))⟩
    (.one ⟨some s11, none, (.mv (.t s72))⟩
    .done)))))))))))
  (.seq (.reg (.one ⟨some s74, none, (.mv (.t s4))⟩
    (.one ⟨some s75, none, (.mv (.t s7))⟩
    (.one ⟨some s76, none, (.call 19 [(.t s74), (.t s75)])⟩
    (.one ⟨some s73, none, (.mv (.t s76))⟩
    (.one ⟨some s77, none, (.ext (.t s73) 0)⟩
    (.one ⟨some s78, none, (.ext (.t s73) 1)⟩
    (.one ⟨some s79, none, (.ext (.t s73) 2)⟩
    (.one ⟨some s12, none, (.mv (.t s77))⟩
    (.one ⟨some s13, none, (.mv (.t s78))⟩
    (.one ⟨some s14, none, (.mv (.t s79))⟩
    .done)))))))))))
  (.reg (.one ⟨some s80, none, (.mv (.t s9))⟩
    (.one ⟨some s81, none, (.mv (.t s12))⟩
    (.one ⟨some s82, none, (.bin false .eql (.t s80) (.t s81))⟩
    (.one ⟨some s83, none, (.mv (.t s82))⟩
    (.one ⟨some s84, some (s83, true), (.mv (.t s10))⟩
    (.one ⟨some s85, some (s83, true), (.mv (.t s13))⟩
    (.one ⟨some s86, some (s83, true), (.callq 20 [(.t s84), (.t s85)])⟩
    (.one ⟨some s87, none, (.pick (.t s83) (.t s86) (.c (.v (.bool false))))⟩
    (.one ⟨some s88, none, (.mv (.t s87))⟩
    (.one ⟨some s89, some (s88, true), (.mv (.t s11))⟩
    (.one ⟨some s90, some (s88, true), (.mv (.t s14))⟩
    (.one ⟨some s91, some (s88, true), (.bin false .eql (.t s89) (.t s90))⟩
    (.one ⟨some s92, none, (.pick (.t s88) (.t s91) (.c (.v (.bool false))))⟩
    (.one ⟨some s8, none, (.mv (.t s92))⟩
    .done))))))))))))))))) (.seq (.reg (.one ⟨some s94, none, (.bin false .eql (.t s48) (.c (.v (.int .i64 2))))⟩
    (.one ⟨some s93, none, (.mv (.t s94))⟩
    .done)))
  (.cond (.t s93) (.reg (.one ⟨some s95, none, (.mv (.t s3))⟩
    (.one ⟨some s96, none, (.mv (.t s7))⟩
    (.one ⟨some s97, none, (.call 21 [(.t s95), (.t s96)])⟩
    (.one ⟨some s98, none, (.mv (.t s4))⟩
    (.one ⟨some s99, none, (.mv (.t s7))⟩
    (.one ⟨some s100, none, (.call 22 [(.t s98), (.t s99)])⟩
    (.one ⟨some s101, none, (.bin false .eql (.t s97) (.t s100))⟩
    (.one ⟨some s8, none, (.mv (.t s101))⟩
    .done))))))))) .skip))))))))
  (.seq (.reg (.one ⟨some s102, none, (.mv (.t s4))⟩
    (.one ⟨some s103, none, (.mv (.t s7))⟩
    (.one ⟨some s104, none, (.callq 23 [(.t s102), (.t s103)])⟩
    (.one ⟨some s15, none, (.mv (.t s104))⟩
    .done)))))
  (.seq (.reg (.one ⟨some s105, none, (.mv (.t s3))⟩
    (.one ⟨some s106, none, (.callq 24 [(.t s105)])⟩
    (.one ⟨some s16, none, (.mv (.t s106))⟩
    .done))))
  (.seq (.seq (.reg (.one ⟨some s107, none, (.mv (.t s8))⟩
    (.one ⟨some s108, none, (.not (.t s107))⟩
    (.one ⟨some s109, none, (.mv (.t s108))⟩
    (.one ⟨some s110, some (s109, false), (.mv (.t s3))⟩
    (.one ⟨some s111, some (s109, false), (.callq 13 [(.t s110)])⟩
    (.one ⟨some s112, some (s109, false), (.mv (.t s4))⟩
    (.one ⟨some s113, some (s109, false), (.callq 25 [(.t s112)])⟩
    (.one ⟨some s114, some (s109, false), (.bin false .neq (.t s111) (.t s113))⟩
    (.one ⟨some s115, none, (.pick (.t s109) (.c (.v (.bool true))) (.t s114))⟩
    (.one ⟨some s116, none, (.mv (.t s115))⟩
    (.one ⟨some s117, some (s116, false), (.mv (.t s16))⟩
    (.one ⟨some s118, some (s116, false), (.len false (.t s117))⟩
    (.one ⟨some s119, some (s116, false), (.mv (.t s4))⟩
    (.one ⟨some s120, some (s116, false), (.nilchk (.t s119))⟩
    (.one ⟨some s121, some (s116, false), (.faddr 0 (.t s120))⟩
    (.one ⟨some s122, some (s116, false), (.load none (.t s121))⟩
    (.one ⟨some s123, some (s116, false), (.len false (.t s122))⟩
    (.one ⟨some s124, some (s116, false), (.bin false .neq (.t s118) (.t s123))⟩
    (.one ⟨some s125, none, (.pick (.t s116) (.c (.v (.bool true))) (.t s124))⟩
    (.one ⟨some s126, none, (.mv (.t s125))⟩
    (.one ⟨some s127, some (s126, false), (.mv (.t s3))⟩
    (.one ⟨some s128, some (s126, false), (.mv (.t s7))⟩
    (.one ⟨some s129, some (s126, false), (.callq 15 [(.t s127), (.t s128)])⟩
    (.one ⟨some s130, some (s126, false), (.mv (.t s15))⟩
    (.one ⟨some s131, some (s126, false), (.bin false .geq (.t s130) (.c (.v (.int .i64 0))))⟩
    (.one ⟨some s132, some (s126, false), (.mv (.t s131))⟩
    (.one ⟨some s133, some (s132, true), (.mv (.t s4))⟩
    (.one ⟨some s134, some (s132, true), (.nilchk (.t s133))⟩
    (.one ⟨some s135, some (s132, true), (.faddr 0 (.t s134))⟩
    (.one ⟨some s136, some (s132, true), (.load none (.t s135))⟩
    (.one ⟨some s137, some (s132, true), (.mv (.t s15))⟩
    (.one ⟨some s138, some (s132, true), (.iaddr 6 (.t s136) (.t s137))⟩
    (.one ⟨some s139, some (s132, true), (.load (some 6) (.t s138))⟩
    (.one ⟨some s140, some (s132, true), (.callq 26 [(.t s139)])⟩
    (.one ⟨some s141, some (s126, false), (.pick (.t s132) (.t s140) (.c (.v (.bool false))))⟩
    (.one ⟨some s142, some (s126, false), (.bin true .neq (.t s129) (.t s141))⟩
    (.one ⟨some s143, none, (.pick (.t s126) (.c (.v (.bool true))) (.t s142))⟩
    (.one ⟨some s144, none, (.mv (.t s143))⟩
    (.one ⟨some s145, some (s144, false), (.mv (.t s3))⟩
    (.one ⟨some s146, some (s144, false), (.mv (.t s7))⟩
    (.one ⟨some s147, some (s144, false), (.callq 14 [(.t s145), (.t s146)])⟩
    (.one ⟨some s148, some (s144, false), (.callq 28 [(.t s147)])⟩
    (.one ⟨some s149, some (s144, false), (.mv (.t s4))⟩
    (.one ⟨some s150, some (s144, false), (.mv (.t s7))⟩
    (.one ⟨some s151, some (s144, false), (.callq 29 [(.t s149), (.t s150)])⟩
    (.one ⟨some s152, some (s144, false), (.callq 27 [(.t s148), (.t s151)])⟩
    (.one ⟨some s153, some (s144, false), (.not (.t s152))⟩
    (.one ⟨some s154, none, (.pick (.t s144) (.c (.v (.bool true))) (.t s153))⟩
    .done)))))))))))))))))))))))))))))))))))))))))))))))))
  (.cond (.t s154) (.seq (.reg (.one ⟨some s2, none, (.mv (.c (.v (.bool false))))⟩
    .done))
  .ret) .skip))
  (.seq (.reg (.one ⟨some s17, none, (.mv (.c (.v (.int .i64 0))))⟩
    .done))
  (.block 3 (.loop (.seq (.seq (.reg (.one ⟨some s155, none, (.mv (.t s17))⟩
    (.one ⟨some s156, none, (.mv (.t s16))⟩
    (.one ⟨some s157, none, (.len false (.t s156))⟩
    (.one ⟨some s158, none, (.bin false .lss (.t s155) (.t s157))⟩
    .done)))))
  (.cond (.t s158) .skip (.exit 3)))
  (.seq (.block 4 (.seq (.reg (.one ⟨some s161, none, (.mv (.t s16))⟩
    (.one ⟨some s162, none, (.mv (.t s17))⟩
    (.one ⟨some s163, none, (.iaddr 1 (.t s161) (.t s162))⟩
    (.one ⟨some s164, none, (.load none (.t s163))⟩
    (.one ⟨some s165, none, (.mv (.t s4))⟩
    (.one ⟨some s166, none, (.nilchk (.t s165))⟩
    (.one ⟨some s167, none, (.faddr 0 (.t s166))⟩
    (.one ⟨some s168, none, (.load none (.t s167))⟩
    (.one ⟨some s169, none, (.mv (.t s17))⟩
    (.one ⟨some s170, none, (.iaddr 6 (.t s168) (.t s169))⟩
    (.one ⟨some s171, none, (.faddr 0 (.t s170))⟩
    (.one ⟨some s172, none, (.load none (.t s171))⟩
    (.one ⟨some s173, none, (.bin false .neq (.t s164) (.t s172))⟩
    .done))))))))))))))
  (.cond (.t s173) (.seq (.reg (.one ⟨some s2, none, (.mv (.c (.v (.bool false))))⟩
    .done))
  .ret) .skip)))
  (.reg (.one ⟨some s159, none, (.mv (.t s17))⟩
    (.one ⟨some s160, none, (.bin false .add (.t s159) (.c (.v (.int .i64 1))))⟩
    (.one ⟨some s17, none, (.mv (.t s160))⟩
    .done)))))))))))))))))
  (.reg (.one ⟨some s34, none, (.mv (.t s5))⟩
    (.one ⟨some s35, none, (.bin false .add (.t s34) (.c (.v (.int .i64 1))))⟩
    (.one ⟨some s5, none, (.mv (.t s35))⟩
    .done)))))))))
  (.seq (.reg (.one ⟨some s18, none, (.mv (.c (.v (.pointer none))))⟩
    .done))
  (.seq (.reg (.one ⟨some s19, none, (.new [(.v (.map none))])⟩
    .done))
  (.seq (.reg (.one ⟨some s175, none, (.mv (.t s18))⟩
    (.one ⟨some s176, none, (.call 12 [(.t s175), (.c (.v (.int .i64 1)))])⟩
    (.one ⟨some s174, none, (.mv (.t s176))⟩
    (.one ⟨some s177, none, (.ext (.t s174) 0)⟩
    (.one ⟨some s178, none, (.ext (.t s174) 1)⟩
    (.one ⟨some s179, none, (.ext (.t s174) 2)⟩
    (.one ⟨some s20, none, (.mv (.t s177))⟩
    (.one ⟨some s21, none, (.mv (.t s178))⟩
    (.one ⟨some s22, none, (.mv (.t s179))⟩
    .done))))))))))
  (.seq (.reg (.one ⟨some s180, none, (.callq 11 [])⟩
    (.one ⟨some s181, none, (.mv (.t s180))⟩
    (.one ⟨some s182, some (s181, true), (.mv (.t s22))⟩
    (.one ⟨some s183, some (s181, true), (.bin false .eql (.t s182) (.c (.v (.int .i64 6))))⟩
    (.one ⟨some s184, none, (.pick (.t s181) (.t s183) (.c (.v (.bool false))))⟩
    (.one ⟨some s185, none, (.mv (.t s184))⟩
    (.one ⟨some s186, some (s185, true), (.mv (.t s18))⟩
    (.one ⟨some s187, some (s185, true), (.row 1 [(.c (.v (.int .u8 1)))])⟩
    (.one ⟨some s188, some (s185, true), (.row 1 [(.t s187)])⟩
    (.one ⟨some s189, some (s185, true), (.build [(.v (.bool false)), (.v (.int .i64 0)), (.v (.int .i64 0)), (.v (.bool false)), (.v (.bool false)), (.v (.int .i64 0)), (.slice 1 [] .full)] [(6, 1, (.t s188))])⟩
    (.one ⟨some s190, some (s185, true), (.call 16 [(.t s186), (.t s189)])⟩
    (.one ⟨some s191, some (s185, true), (.bin false .eql (.t s190) (.c (.v (.int .i64 6))))⟩
    (.one ⟨some s192, none, (.pick (.t s185) (.t s191) (.c (.v (.bool false))))⟩
    (.one ⟨some s193, none, (.mv (.t s192))⟩
    (.one ⟨some s194, some (s193, true), (.row 1 [(.c (.v (.int .u8 1)))])⟩
    (.one ⟨some s195, some (s193, true), (.row 1 [(.t s194)])⟩
    (.one ⟨some s196, some (s193, true), (.build [(.v (.bool false)), (.v (.int .i64 0)), (.v (.int .i64 0)), (.v (.bool false)), (.v (.bool false)), (.v (.int .i64 0)), (.slice 1 [] .full)] [(6, 1, (.t s195))])⟩
    (.one ⟨some s197, some (s193, true), (.call 16 [(.t s19), (.t s196)])⟩
    (.one ⟨some s198, some (s193, true), (.bin false .eql (.t s197) (.c (.v (.int .i64 6))))⟩
    (.one ⟨some s199, none, (.pick (.t s193) (.t s198) (.c (.v (.bool false))))⟩
    (.one ⟨some s200, none, (.mv (.t s199))⟩
    (.one ⟨some s201, some (s200, true), (.call 21 [(.t s19), (.c (.v (.int .i64 1)))])⟩
    (.one ⟨some s202, some (s200, true), (.bin false .eql (.t s201) (.c (.v (.int .i64 6))))⟩
    (.one ⟨some s203, none, (.pick (.t s200) (.t s202) (.c (.v (.bool false))))⟩
    (.one ⟨some s204, none, (.mv (.t s203))⟩
    (.one ⟨some s205, some (s204, true), (.mv (.t s18))⟩
    (.one ⟨some s206, some (s204, true), (.callq 15 [(.t s205), (.c (.v (.int .i64 1)))])⟩
    (.one ⟨some s207, some (s204, true), (.not (.t s206))⟩
    (.one ⟨some s208, none, (.pick (.t s204) (.t s207) (.c (.v (.bool false))))⟩
    (.one ⟨some s209, none, (.mv (.t s208))⟩
    (.one ⟨some s210, some (s209, true), (.mv (.t s18))⟩
    (.one ⟨some s211, some (s209, true), (.callq 13 [(.t s210)])⟩
    (.one ⟨some s212, some (s209, true), (.callq 24 [(.t s19)])⟩
    (.one ⟨some s213, some (s209, true), (.len false (.t s212))⟩
    (.one ⟨some s214, some (s209, true), (.bin false .add (.t s211) (.t s213))⟩
    (.one ⟨some s215, some (s209, true), (.mv (.t s18))⟩
    (.one ⟨some s216, some (s209, true), (.callq 14 [(.t s215), (.c (.v (.int .i64 1)))])⟩
    (.one ⟨some s217, some (s209, true), (.len false (.t s216))⟩
    (.one ⟨some s218, some (s209, true), (.bin false .add (.t s214) (.t s217))⟩
    (.one ⟨some s219, some (s209, true), (.bin false .eql (.t s218) (.c (.v (.int .i64 0))))⟩
    (.one ⟨some s220, none, (.pick (.t s209) (.t s219) (.c (.v (.bool false))))⟩
    (.one ⟨some s2, none, (.mv (.t s220))⟩
    .done)))))))))))))))))))))))))))))))))))))))))))
  .ret)))))))⟩
theorem ok4 : compF Try.prog c4 Try.f4 = some ir4 := by kernel_rfl
theorem k_bowlinelaw24_RxbufLives {args : List AVal} {σ : AHeap} {Q : AVal → AHeap → Prop} (hl : Nat.ble args.length 221 = true) (h : argsK (Env.full 9) 0 args fun env => evC Try.prog c4 ir4.body env σ (retQ ir4 Q)) : ACalls Try.prog 4 args σ Q :=
  acalls_of Try.func4 ok4 rfl (Nat.le_of_ble_eq_true hl) h
/- bowlinelaw24.alive -/
def c11 : Cfg := ⟨qs, [], 104, [14, 22, 28], ps⟩
def ir11 : IFun := ⟨0, [.tmp s0],
  (.seq (.reg (.one ⟨some s0, none, (.mv (.c (.v (.bool false))))⟩
    .done))
  (.seq (.reg (.one ⟨some s12, none, (.callq 9 [])⟩
    (.one ⟨some s1, none, (.mv (.t s12))⟩
    .done)))
  (.seq (.reg (.one ⟨some s13, none, (.mv (.t s1))⟩
    (.one ⟨some s14, none, (.rowT 1 [(.c (.v (.int .u8 99))), (.c (.v (.int .u8 100)))])⟩
    (.one ⟨some s15, none, (.mark (.t s14))⟩
    (.one ⟨some s16, none, (.row 1 [(.t s15)])⟩
    (.one ⟨some s17, none, (.build [(.v (.bool false)), (.v (.int .i64 0)), (.v (.int .i64 0)), (.v (.bool false)), (.v (.bool false)), (.v (.int .i64 0)), (.slice 1 [] .full)] [(2, 1, (.c (.v (.int .i64 3)))), (3, 1, (.c (.v (.bool true)))), (4, 1, (.c (.v (.bool true)))), (5, 1, (.c (.v (.int .i64 2)))), (1, 1, (.c (.v (.int .i64 1)))), (6, 1, (.t s16))])⟩
    (.one ⟨some s18, none, (.call 16 [(.t s13), (.t s17)])⟩
    (.one ⟨some s2, none, (.mv (.t s18))⟩
    .done))))))))
  (.seq (.reg (.one ⟨some s19, none, (.mv (.t s1))⟩
    (.one ⟨some s20, none, (.callq 14 [(.t s19), (.c (.v (.int .i64 3)))])⟩
    (.one ⟨some s3, none, (.mv (.t s20))⟩
    .done))))
  (.seq (.reg (.one ⟨some s21, none, (.mv (.t s1))⟩
    (.one ⟨some s22, none, (.rowT 1 [(.c (.v (.int .u8 97))), (.c (.v (.int .u8 98)))])⟩
    (.one ⟨some s23, none, (.mark (.t s22))⟩
    (.one ⟨some s24, none, (.row 1 [(.t s23)])⟩
    (.one ⟨some s25, none, (.build [(.v (.bool false)), (.v (.int .i64 0)), (.v (.int .i64 0)), (.v (.bool false)), (.v (.bool false)), (.v (.int .i64 0)), (.slice 1 [] .full)] [(2, 1, (.c (.v (.int .i64 3)))), (3, 1, (.c (.v (.bool true)))), (1, 1, (.c (.v (.int .i64 2)))), (6, 1, (.t s24))])⟩
    (.one ⟨some s26, none, (.call 16 [(.t s21), (.t s25)])⟩
    (.one ⟨some s4, none, (.mv (.t s26))⟩
    .done))))))))
  (.seq (.reg (.one ⟨some s27, none, (.mv (.t s1))⟩
    (.one ⟨some s28, none, (.rowT 1 [(.c (.v (.int .u8 97))), (.c (.v (.int .u8 98)))])⟩
    (.one ⟨some s29, none, (.mark (.t s28))⟩
    (.one ⟨some s30, none, (.row 1 [(.t s29)])⟩
    (.one ⟨some s31, none, (.build [(.v (.bool false)), (.v (.int .i64 0)), (.v (.int .i64 0)), (.v (.bool false)), (.v (.bool false)), (.v (.int .i64 0)), (.slice 1 [] .full)] [(2, 1, (.c (.v (.int .i64 3)))), (3, 1, (.c (.v (.bool true)))), (6, 1, (.t s30))])⟩
    (.one ⟨some s32, none, (.call 16 [(.t s27), (.t s31)])⟩
    (.one ⟨some s5, none, (.mv (.t s32))⟩
    .done))))))))
  (.seq (.reg (.one ⟨some s34, none, (.mv (.t s1))⟩
    (.one ⟨some s35, none, (.call 12 [(.t s34), (.c (.v (.int .i64 3)))])⟩
    (.one ⟨some s33, none, (.mv (.t s35))⟩
    (.one ⟨some s36, none, (.ext (.t s33) 0)⟩
    (.one ⟨some s37, none, (.ext (.t s33) 1)⟩
    (.one ⟨some s38, none, (.ext (.t s33) 2)⟩
    (.one ⟨some s6, none, (.mv (.t s36))⟩
    (.one ⟨some s7, none, (.mv (.t s37))⟩
    (.one ⟨some s8, none, (.mv (.t s38))⟩
    .done))))))))))
  (.seq (.reg (.one ⟨some s40, none, (.mv (.t s1))⟩
    (.one ⟨some s41, none, (.call 12 [(.t s40), (.c (.v (.int .i64 3)))])⟩
    (.one ⟨some s39, none, (.mv (.t s41))⟩
    (.one ⟨some s42, none, (.ext (.t s39) 0)⟩
    (.one ⟨some s43, none, (.ext (.t s39) 1)⟩
    (.one ⟨some s44, none, (.ext (.t s39) 2)⟩
    (.one ⟨some s9, none, (.mv (.t s42))⟩
    (.one ⟨some s10, none, (.mv (.t s43))⟩
    (.one ⟨some s11, none, (.mv (.t s44))⟩
    .done))))))))))
  (.seq (.reg (.one ⟨some s45, none, (.mv (.t s2))⟩
    (.one ⟨some s46, none, (.bin false .eql (.t s45) (.c (.v (.int .i64 0))))⟩
    (.one ⟨some s47, none, (.mv (.t s46))⟩
    (.one ⟨some s48, some (s47, true), (.mv (.t s3))⟩
    (.one ⟨some s49, some (s47, true), (.len false (.t s48))⟩
    (.one ⟨some s50, some (s47, true), (.bin false .eql (.t s49) (.c (.v (.int .i64 1))))⟩
    (.one ⟨some s51, none, (.pick (.t s47) (.t s50) (.c (.v (.bool false))))⟩
    (.one ⟨some s52, none, (.mv (.t s51))⟩
    (.one ⟨some s53, some (s52, true), (.mv (.t s3))⟩
    (.one ⟨some s54, some (s52, true), (.iaddr 2 (.t s53) (.c (.v (.int .i64 0))))⟩
    (.one ⟨some s55, some (s52, true), (.faddr 1 (.t s54))⟩
    (.one ⟨some s56, some (s52, true), (.load none (.t s55))⟩
    (.one ⟨some s57, some (s52, true), (.bin false .eql (.t s56) (.c (.v (.int .i64 2))))⟩
    (.one ⟨some s58, none, (.pick (.t s52) (.t s57) (.c (.v (.bool false))))⟩
    (.one ⟨some s59, none, (.mv (.t s58))⟩
    (.one ⟨some s60, some (s59, true), (.mv (.t s4))⟩
    (.one ⟨some s61, some (s59, true), (.bin false .eql (.t s60) (.c (.v (.int .i64 0))))⟩
    (.one ⟨some s62, none, (.pick (.t s59) (.t s61) (.c (.v (.bool false))))⟩
    (.one ⟨some s63, none, (.mv (.t s62))⟩
    (.one ⟨some s64, some (s63, true), (.mv (.t s5))⟩
    (.one ⟨some s65, some (s63, true), (.bin false .eql (.t s64) (.c (.v (.int .i64 12))))⟩
    (.one ⟨some s66, none, (.pick (.t s63) (.t s65) (.c (.v (.bool false))))⟩
    (.one ⟨some s67, none, (.mv (.t s66))⟩
    (.one ⟨some s68, some (s67, true), (.mv (.t s6))⟩
    (.one ⟨some s69, some (s67, true), (.bin false .eql (.t s68) (.c (.v (.int .i64 3))))⟩
    (.one ⟨some s70, none, (.pick (.t s67) (.t s69) (.c (.v (.bool false))))⟩
    (.one ⟨some s71, none, (.mv (.t s70))⟩
    (.one ⟨some s72, some (s71, true), (.mv (.t s7))⟩
    (.one ⟨some s73, some (s71, true), (.len false (.t s72))⟩
    (.one ⟨some s74, some (s71, true), (.bin false .eql (.t s73) (.c (.v (.int .i64 2))))⟩
    (.one ⟨some s75, none, (.pick (.t s71) (.t s74) (.c (.v (.bool false))))⟩
    (.one ⟨some s76, none, (.mv (.t s75))⟩
    (.one ⟨some s77, some (s76, true), (.mv (.t s7))⟩
    (.one ⟨some s78, some (s76, true), (.iaddr 1 (.t s77) (.c (.v (.int .i64 0))))⟩
    (.one ⟨some s79, some (s76, true), (.load none (.t s78))⟩
    (.one ⟨some s80, some (s76, true), (.b2s (.t s79))⟩
    (.one ⟨some s81, some (s76, true), (.bin false .eql (.t s80) (.c (.v (.string ⟨#[97, 98]⟩))))⟩
    (.one ⟨some s82, none, (.pick (.t s76) (.t s81) (.c (.v (.bool false))))⟩
    (.one ⟨some s83, none, (.mv (.t s82))⟩
    (.one ⟨some s84, some (s83, true), (.mv (.t s7))⟩
    (.one ⟨some s85, some (s83, true), (.iaddr 1 (.t s84) (.c (.v (.int .i64 1))))⟩
    (.one ⟨some s86, some (s83, true), (.load none (.t s85))⟩
    (.one ⟨some s87, some (s83, true), (.b2s (.t s86))⟩
    (.one ⟨some s88, some (s83, true), (.bin false .eql (.t s87) (.c (.v (.string ⟨#[99, 100]⟩))))⟩
    (.one ⟨some s89, none, (.pick (.t s83) (.t s88) (.c (.v (.bool false))))⟩
    (.one ⟨some s90, none, (.mv (.t s89))⟩
    (.one ⟨some s91, some (s90, true), (.mv (.t s8))⟩
    (.one ⟨some s92, some (s90, true), (.bin false .eql (.t s91) (.c (.v (.int .i64 0))))⟩
    (.one ⟨some s93, none, (.pick (.t s90) (.t s92) (.c (.v (.bool false))))⟩
    (.one ⟨some s94, none, (.mv (.t s93))⟩
    (.one ⟨some s95, some (s94, true), (.mv (.t s11))⟩
    (.one ⟨some s96, some (s94, true), (.bin false .eql (.t s95) (.c (.v (.int .i64 4))))⟩
    (.one ⟨some s97, none, (.pick (.t s94) (.t s96) (.c (.v (.bool false))))⟩
    (.one ⟨some s98, none, (.mv (.t s97))⟩
    (.one ⟨some s99, some (s98, true), (.mv (.t s1))⟩
    (.one ⟨some s100, some (s98, true), (.build [(.v (.bool false)), (.v (.int .i64 0)), (.v (.int .i64 0)), (.v (.bool false)), (.v (.bool false)), (.v (.int .i64 0)), (.slice 1 [] .full)] [])⟩
    (.one ⟨some s101, some (s98, true), (.call 16 [(.t s99), (.t s100)])⟩
    (.one ⟨some s102, some (s98, true), (.bin false .eql (.t s101) (.c (.v (.int .i64 1))))⟩
    (.one ⟨some s103, none, (.pick (.t s98) (.t s102) (.c (.v (.bool false))))⟩
    (.one ⟨some s0, none, (.mv (.t s103))⟩
    .done)))))))))))))))))))))))))))))))))))))))))))))))))))))))))))))
  .ret)))))))))⟩
theorem ok11 : compF Try.prog c11 Try.f11 = some ir11 := by kernel_rfl
theorem k_bowlinelaw24_alive {args : List AVal} {σ : AHeap} {Q : AVal → AHeap → Prop} (hl : Nat.ble args.length 104 = true) (h : argsK (Env.full 9) 0 args fun env => evC Try.prog c11 ir11.body env σ (retQ ir11 Q)) : ACalls Try.prog 11 args σ Q :=
  acalls_of Try.func11 ok11 rfl (Nat.le_of_ble_eq_true hl) h
end Go.Proofs.Ytgobbmdbkmjlnaa
