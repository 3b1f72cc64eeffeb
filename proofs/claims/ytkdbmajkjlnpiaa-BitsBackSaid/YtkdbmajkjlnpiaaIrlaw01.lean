/-
  The bodies of one package, compiled to the framework's language (printed by a program of this session).
-/
import Derived.Test.YtkdbmajkjlnpiaaIr0
namespace Go.Proofs.Ytkdbmajkjlnpiaa
set_option linter.unusedVariables false
set_option linter.unusedSimpArgs false
open Go Go.Am
/- bowlinelaw01.BitsPuts -/
def c3 : Cfg := ⟨qs, false, 85, []⟩
def ir3 : IFun := ⟨1, [.tmp s2],
  (.seq (.reg (.one ⟨some s2, none, (.mv (.c (.v (.bool false))))⟩
    .done))
  (.seq (.reg (.one ⟨some s10, none, (.callq 15 [])⟩
    (.one ⟨some s3, none, (.mv (.t s10))⟩
    .done)))
  (.seq (.reg (.one ⟨some s4, none, (.mv (.c (.slice 1 [] .full)))⟩
    .done))
  (.seq (.seq (.reg (.one ⟨some s5, none, (.mv (.c (.v (.int .i64 0))))⟩
    .done))
  (.block 0 (.loop (.seq (.seq (.reg (.one ⟨some s11, none, (.mv (.t s5))⟩
    (.one ⟨some s12, none, (.mv (.t s0))⟩
    (.one ⟨some s13, none, (.len false (.t s12))⟩
    (.one ⟨some s14, none, (.bin false .lss (.t s11) (.t s13))⟩
    (.one ⟨some s15, none, (.mv (.t s14))⟩
    (.one ⟨some s16, some (s15, true), (.mv (.t s5))⟩
    (.one ⟨some s17, some (s15, true), (.bin false .lss (.t s16) (.c (.v (.int .i64 200))))⟩
    (.one ⟨some s18, none, (.pick (.t s15) (.t s17) (.c (.v (.bool false))))⟩
    .done)))))))))
  (.cond (.t s18) .skip (.exit 0)))
  (.seq (.block 1 (.seq (.reg (.one ⟨some s21, none, (.mv (.t s3))⟩
    (.one ⟨some s22, none, (.mv (.t s0))⟩
    (.one ⟨some s23, none, (.mv (.t s5))⟩
    (.one ⟨some s24, none, (.iaddr 2 (.t s22) (.t s23))⟩
    (.one ⟨some s25, none, (.faddr 0 (.t s24))⟩
    (.one ⟨some s26, none, (.load none (.t s25))⟩
    (.one ⟨some s27, none, (.mv (.t s0))⟩
    (.one ⟨some s28, none, (.mv (.t s5))⟩
    (.one ⟨some s29, none, (.iaddr 2 (.t s27) (.t s28))⟩
    (.one ⟨some s30, none, (.faddr 1 (.t s29))⟩
    (.one ⟨some s31, none, (.load none (.t s30))⟩
    (.one ⟨some s32, none, (.call 16 [(.t s21), (.t s26), (.t s31)])⟩
    (.one ⟨some s6, none, (.mv (.t s32))⟩
    .done))))))))))))))
  (.seq (.reg (.one ⟨some s34, none, (.mv (.t s4))⟩
    (.one ⟨some s35, none, (.mv (.t s0))⟩
    (.one ⟨some s36, none, (.mv (.t s5))⟩
    (.one ⟨some s37, none, (.iaddr 2 (.t s35) (.t s36))⟩
    (.one ⟨some s38, none, (.faddr 0 (.t s37))⟩
    (.one ⟨some s39, none, (.load none (.t s38))⟩
    (.one ⟨some s40, none, (.mv (.t s0))⟩
    (.one ⟨some s41, none, (.mv (.t s5))⟩
    (.one ⟨some s42, none, (.iaddr 2 (.t s40) (.t s41))⟩
    (.one ⟨some s43, none, (.faddr 1 (.t s42))⟩
    (.one ⟨some s44, none, (.load none (.t s43))⟩
    (.one ⟨some s45, none, (.callq 17 [(.t s34), (.t s39), (.t s44)])⟩
    (.one ⟨some s33, none, (.mv (.t s45))⟩
    (.one ⟨some s46, none, (.ext (.t s33) 0)⟩
    (.one ⟨some s47, none, (.ext (.t s33) 1)⟩
    (.one ⟨some s7, none, (.mv (.t s46))⟩
    (.one ⟨some s8, none, (.mv (.t s47))⟩
    .done))))))))))))))))))
  (.seq (.reg (.one ⟨some s48, none, (.mv (.t s7))⟩
    (.one ⟨some s4, none, (.mv (.t s48))⟩
    .done)))
  (.seq (.reg (.one ⟨some s49, none, (.mv (.t s6))⟩
    (.one ⟨some s50, none, (.mv (.t s8))⟩
    (.one ⟨some s51, none, (.bin false .neq (.t s49) (.t s50))⟩
    (.one ⟨some s52, none, (.mv (.t s51))⟩
    (.one ⟨some s53, some (s52, false), (.mv (.t s3))⟩
    (.one ⟨some s54, some (s52, false), (.callq 18 [(.t s53)])⟩
    (.one ⟨some s55, some (s52, false), (.mv (.t s4))⟩
    (.one ⟨some s56, some (s52, false), (.len false (.t s55))⟩
    (.one ⟨some s57, some (s52, false), (.bin false .neq (.t s54) (.t s56))⟩
    (.one ⟨some s58, none, (.pick (.t s52) (.c (.v (.bool true))) (.t s57))⟩
    .done)))))))))))
  (.cond (.t s58) (.seq (.reg (.one ⟨some s2, none, (.mv (.c (.v (.bool false))))⟩
    .done))
  .ret) .skip))))))
  (.reg (.one ⟨some s19, none, (.mv (.t s5))⟩
    (.one ⟨some s20, none, (.bin false .add (.t s19) (.c (.v (.int .i64 1))))⟩
    (.one ⟨some s5, none, (.mv (.t s20))⟩
    .done)))))))))
  (.seq (.reg (.one ⟨some s9, none, (.mv (.c (.v (.pointer none))))⟩
    .done))
  (.seq (.reg (.one ⟨some s59, none, (.callq 19 [])⟩
    (.one ⟨some s60, none, (.mv (.t s59))⟩
    (.one ⟨some s61, some (s60, true), (.mv (.t s3))⟩
    (.one ⟨some s64, some (s60, true), (.mv (.t s4))⟩
    (.one ⟨some s62, some (s60, true), (.callq 20 [(.t s61)])⟩
    (.one ⟨some s63, some (s60, true), (.b2s (.t s62))⟩
    (.one ⟨some s65, some (s60, true), (.callq 21 [(.t s64)])⟩
    (.one ⟨some s66, some (s60, true), (.b2s (.t s65))⟩
    (.one ⟨some s67, some (s60, true), (.bin false .eql (.t s63) (.t s66))⟩
    (.one ⟨some s68, none, (.pick (.t s60) (.t s67) (.c (.v (.bool false))))⟩
    (.one ⟨some s69, none, (.mv (.t s68))⟩
    (.one ⟨some s70, some (s69, true), (.mv (.t s9))⟩
    (.one ⟨some s71, some (s69, true), (.call 16 [(.t s70), (.c (.v (.int .u64 0))), (.c (.v (.int .i64 1)))])⟩
    (.one ⟨some s72, some (s69, true), (.bin false .eql (.t s71) (.c (.v (.int .i64 6))))⟩
    (.one ⟨some s73, none, (.pick (.t s69) (.t s72) (.c (.v (.bool false))))⟩
    (.one ⟨some s74, none, (.mv (.t s73))⟩
    (.one ⟨some s75, some (s74, true), (.mv (.t s9))⟩
    (.one ⟨some s76, some (s74, true), (.callq 18 [(.t s75)])⟩
    (.one ⟨some s77, some (s74, true), (.bin false .eql (.t s76) (.c (.v (.int .i64 0))))⟩
    (.one ⟨some s78, none, (.pick (.t s74) (.t s77) (.c (.v (.bool false))))⟩
    (.one ⟨some s79, none, (.mv (.t s78))⟩
    (.one ⟨some s80, some (s79, true), (.mv (.t s9))⟩
    (.one ⟨some s81, some (s79, true), (.callq 20 [(.t s80)])⟩
    (.one ⟨some s82, some (s79, true), (.len false (.t s81))⟩
    (.one ⟨some s83, some (s79, true), (.bin false .eql (.t s82) (.c (.v (.int .i64 0))))⟩
    (.one ⟨some s84, none, (.pick (.t s79) (.t s83) (.c (.v (.bool false))))⟩
    (.one ⟨some s2, none, (.mv (.t s84))⟩
    .done))))))))))))))))))))))))))))
  .ret))))))⟩
theorem ok3 : compF Try.prog c3 Try.f3 = some ir3 := by kernel_rfl
theorem k_bowlinelaw01_BitsPuts {args : List AVal} {σ : AHeap} {Q : AVal → AHeap → Prop} (hl : Nat.ble args.length 85 = true) (h : argsK (Env.full 9) 0 args fun env => evC Try.prog c3 ir3.body env σ (retQ ir3 Q)) : ACalls Try.prog 3 args σ Q :=
  acalls_of Try.func3 ok3 rfl (Nat.le_of_ble_eq_true hl) h
/- bowlinelaw01.BitsParts -/
def c4 : Cfg := ⟨qs, false, 160, []⟩
def ir4 : IFun := ⟨4, [.tmp s8],
  (.seq (.reg (.one ⟨some s8, none, (.mv (.c (.v (.bool false))))⟩
    .done))
  (.seq (.seq (.reg (.one ⟨some s24, none, (.mv (.t s1))⟩
    (.one ⟨some s25, none, (.bin false .lss (.t s24) (.c (.v (.int .i64 0))))⟩
    (.one ⟨some s26, none, (.mv (.t s25))⟩
    (.one ⟨some s27, some (s26, false), (.mv (.t s2))⟩
    (.one ⟨some s28, some (s26, false), (.bin false .lss (.t s27) (.c (.v (.int .i64 0))))⟩
    (.one ⟨some s29, none, (.pick (.t s26) (.c (.v (.bool true))) (.t s28))⟩
    (.one ⟨some s30, none, (.mv (.t s29))⟩
    (.one ⟨some s31, some (s30, false), (.mv (.t s1))⟩
    (.one ⟨some s32, some (s30, false), (.bin false .gtr (.t s31) (.c (.v (.int .i64 32))))⟩
    (.one ⟨some s33, none, (.pick (.t s30) (.c (.v (.bool true))) (.t s32))⟩
    (.one ⟨some s34, none, (.mv (.t s33))⟩
    (.one ⟨some s35, some (s34, false), (.mv (.t s2))⟩
    (.one ⟨some s36, some (s34, false), (.bin false .gtr (.t s35) (.c (.v (.int .i64 32))))⟩
    (.one ⟨some s37, none, (.pick (.t s34) (.c (.v (.bool true))) (.t s36))⟩
    (.one ⟨some s38, none, (.mv (.t s37))⟩
    (.one ⟨some s39, some (s38, false), (.mv (.t s3))⟩
    (.one ⟨some s40, some (s38, false), (.len false (.t s39))⟩
    (.one ⟨some s41, some (s38, false), (.bin false .gtr (.t s40) (.c (.v (.int .i64 2000))))⟩
    (.one ⟨some s42, none, (.pick (.t s38) (.c (.v (.bool true))) (.t s41))⟩
    .done))))))))))))))))))))
  (.cond (.t s42) (.seq (.reg (.one ⟨some s43, none, (.callq 19 [])⟩
    (.one ⟨some s8, none, (.mv (.t s43))⟩
    .done)))
  .ret) .skip))
  (.seq (.reg (.one ⟨some s44, none, (.mv (.t s0))⟩
    (.one ⟨some s45, none, (.mv (.t s2))⟩
    (.one ⟨some s46, none, (.bin false .shr (.t s44) (.t s45))⟩
    (.one ⟨some s47, none, (.mv (.t s0))⟩
    (.one ⟨some s9, none, (.mv (.t s46))⟩
    (.one ⟨some s10, none, (.mv (.t s47))⟩
    .done)))))))
  (.seq (.seq (.reg (.one ⟨some s48, none, (.mv (.t s2))⟩
    (.one ⟨some s49, none, (.bin false .lss (.t s48) (.c (.v (.int .i64 64))))⟩
    .done)))
  (.cond (.t s49) (.reg (.one ⟨some s50, none, (.mv (.t s0))⟩
    (.one ⟨some s51, none, (.mv (.t s2))⟩
    (.one ⟨some s52, none, (.bin false .shl (.c (.v (.int .u64 1))) (.t s51))⟩
    (.one ⟨some s53, none, (.bin false .rem (.t s50) (.t s52))⟩
    (.one ⟨some s10, none, (.mv (.t s53))⟩
    .done)))))) .skip))
  (.seq (.reg (.one ⟨some s54, none, (.callq 15 [])⟩
    (.one ⟨some s55, none, (.callq 15 [])⟩
    (.one ⟨some s11, none, (.mv (.t s54))⟩
    (.one ⟨some s12, none, (.mv (.t s55))⟩
    .done)))))
  (.seq (.reg (.one ⟨some s56, none, (.mv (.t s11))⟩
    (.one ⟨some s57, none, (.mv (.t s0))⟩
    (.one ⟨some s58, none, (.mv (.t s1))⟩
    (.one ⟨some s59, none, (.mv (.t s2))⟩
    (.one ⟨some s60, none, (.bin false .add (.t s58) (.t s59))⟩
    (.one ⟨some s61, none, (.call 16 [(.t s56), (.t s57), (.t s60)])⟩
    (.one ⟨some s13, none, (.mv (.t s61))⟩
    .done))))))))
  (.seq (.seq (.reg (.one ⟨some s62, none, (.mv (.t s13))⟩
    (.one ⟨some s63, none, (.bin false .neq (.t s62) (.c (.v (.int .i64 0))))⟩
    .done)))
  (.cond (.t s63) (.seq (.reg (.one ⟨some s64, none, (.callq 19 [])⟩
    (.one ⟨some s65, none, (.mv (.t s64))⟩
    (.one ⟨some s66, some (s65, true), (.mv (.t s13))⟩
    (.one ⟨some s67, some (s65, true), (.bin false .eql (.t s66) (.c (.v (.int .i64 1))))⟩
    (.one ⟨some s68, none, (.pick (.t s65) (.t s67) (.c (.v (.bool false))))⟩
    (.one ⟨some s69, none, (.mv (.t s68))⟩
    (.one ⟨some s70, some (s69, true), (.mv (.t s11))⟩
    (.one ⟨some s71, some (s69, true), (.callq 18 [(.t s70)])⟩
    (.one ⟨some s72, some (s69, true), (.bin false .eql (.t s71) (.c (.v (.int .i64 0))))⟩
    (.one ⟨some s73, none, (.pick (.t s69) (.t s72) (.c (.v (.bool false))))⟩
    (.one ⟨some s8, none, (.mv (.t s73))⟩
    .done))))))))))))
  .ret) .skip))
  (.seq (.reg (.one ⟨some s74, none, (.mv (.t s12))⟩
    (.one ⟨some s75, none, (.mv (.t s9))⟩
    (.one ⟨some s76, none, (.mv (.t s1))⟩
    (.one ⟨some s77, none, (.call 16 [(.t s74), (.t s75), (.t s76)])⟩
    (.one ⟨some s78, none, (.mv (.t s12))⟩
    (.one ⟨some s79, none, (.mv (.t s10))⟩
    (.one ⟨some s80, none, (.mv (.t s2))⟩
    (.one ⟨some s81, none, (.call 16 [(.t s78), (.t s79), (.t s80)])⟩
    (.one ⟨some s14, none, (.mv (.t s77))⟩
    (.one ⟨some s15, none, (.mv (.t s81))⟩
    .done)))))))))))
  (.seq (.reg (.one ⟨some s82, none, (.mv (.t s3))⟩
    (.one ⟨some s83, none, (.callq 22 [(.t s82)])⟩
    (.one ⟨some s84, none, (.mv (.t s3))⟩
    (.one ⟨some s85, none, (.callq 22 [(.t s84)])⟩
    (.one ⟨some s16, none, (.mv (.t s83))⟩
    (.one ⟨some s17, none, (.mv (.t s85))⟩
    .done)))))))
  (.seq (.reg (.one ⟨some s87, none, (.mv (.t s16))⟩
    (.one ⟨some s88, none, (.mv (.t s1))⟩
    (.one ⟨some s89, none, (.mv (.t s2))⟩
    (.one ⟨some s90, none, (.bin false .add (.t s88) (.t s89))⟩
    (.one ⟨some s91, none, (.call 23 [(.t s87), (.t s90)])⟩
    (.one ⟨some s86, none, (.mv (.t s91))⟩
    (.one ⟨some s92, none, (.ext (.t s86) 0)⟩
    (.one ⟨some s93, none, (.ext (.t s86) 1)⟩
    (.one ⟨some s18, none, (.mv (.t s92))⟩
    (.one ⟨some s19, none, (.mv (.t s93))⟩
    .done)))))))))))
  (.seq (.reg (.one ⟨some s95, none, (.mv (.t s17))⟩
    (.one ⟨some s96, none, (.mv (.t s1))⟩
    (.one ⟨some s97, none, (.call 23 [(.t s95), (.t s96)])⟩
    (.one ⟨some s94, none, (.mv (.t s97))⟩
    (.one ⟨some s98, none, (.ext (.t s94) 0)⟩
    (.one ⟨some s99, none, (.ext (.t s94) 1)⟩
    (.one ⟨some s20, none, (.mv (.t s98))⟩
    (.one ⟨some s21, none, (.mv (.t s99))⟩
    .done)))))))))
  (.seq (.reg (.one ⟨some s101, none, (.mv (.t s17))⟩
    (.one ⟨some s102, none, (.mv (.t s2))⟩
    (.one ⟨some s103, none, (.call 23 [(.t s101), (.t s102)])⟩
    (.one ⟨some s100, none, (.mv (.t s103))⟩
    (.one ⟨some s104, none, (.ext (.t s100) 0)⟩
    (.one ⟨some s105, none, (.ext (.t s100) 1)⟩
    (.one ⟨some s22, none, (.mv (.t s104))⟩
    (.one ⟨some s23, none, (.mv (.t s105))⟩
    .done)))))))))
  (.seq (.seq (.reg (.one ⟨some s106, none, (.mv (.t s19))⟩
    (.one ⟨some s107, none, (.bin false .neq (.t s106) (.c (.v (.int .i64 0))))⟩
    .done)))
  (.cond (.t s107) (.seq (.reg (.one ⟨some s108, none, (.callq 19 [])⟩
    (.one ⟨some s109, none, (.mv (.t s108))⟩
    (.one ⟨some s110, some (s109, true), (.mv (.t s14))⟩
    (.one ⟨some s111, some (s109, true), (.bin false .eql (.t s110) (.c (.v (.int .i64 0))))⟩
    (.one ⟨some s112, none, (.pick (.t s109) (.t s111) (.c (.v (.bool false))))⟩
    (.one ⟨some s113, none, (.mv (.t s112))⟩
    (.one ⟨some s114, some (s113, true), (.mv (.t s15))⟩
    (.one ⟨some s115, some (s113, true), (.bin false .eql (.t s114) (.c (.v (.int .i64 0))))⟩
    (.one ⟨some s116, none, (.pick (.t s113) (.t s115) (.c (.v (.bool false))))⟩
    (.one ⟨some s117, none, (.mv (.t s116))⟩
    (.one ⟨some s118, some (s117, true), (.mv (.t s21))⟩
    (.one ⟨some s119, some (s117, true), (.bin false .neq (.t s118) (.c (.v (.int .i64 0))))⟩
    (.one ⟨some s120, some (s117, true), (.mv (.t s119))⟩
    (.one ⟨some s121, some (s120, false), (.mv (.t s23))⟩
    (.one ⟨some s122, some (s120, false), (.bin false .neq (.t s121) (.c (.v (.int .i64 0))))⟩
    (.one ⟨some s123, some (s117, true), (.pick (.t s120) (.c (.v (.bool true))) (.t s122))⟩
    (.one ⟨some s124, none, (.pick (.t s117) (.t s123) (.c (.v (.bool false))))⟩
    (.one ⟨some s8, none, (.mv (.t s124))⟩
    .done)))))))))))))))))))
  .ret) .skip))
  (.seq (.reg (.one ⟨some s125, none, (.callq 19 [])⟩
    (.one ⟨some s126, none, (.mv (.t s125))⟩
    (.one ⟨some s127, some (s126, true), (.mv (.t s14))⟩
    (.one ⟨some s128, some (s126, true), (.bin false .eql (.t s127) (.c (.v (.int .i64 0))))⟩
    (.one ⟨some s129, none, (.pick (.t s126) (.t s128) (.c (.v (.bool false))))⟩
    (.one ⟨some s130, none, (.mv (.t s129))⟩
    (.one ⟨some s131, some (s130, true), (.mv (.t s15))⟩
    (.one ⟨some s132, some (s130, true), (.bin false .eql (.t s131) (.c (.v (.int .i64 0))))⟩
    (.one ⟨some s133, none, (.pick (.t s130) (.t s132) (.c (.v (.bool false))))⟩
    (.one ⟨some s134, none, (.mv (.t s133))⟩
    (.one ⟨some s135, some (s134, true), (.mv (.t s11))⟩
    (.one ⟨some s138, some (s134, true), (.mv (.t s12))⟩
    (.one ⟨some s136, some (s134, true), (.callq 20 [(.t s135)])⟩
    (.one ⟨some s137, some (s134, true), (.b2s (.t s136))⟩
    (.one ⟨some s139, some (s134, true), (.callq 20 [(.t s138)])⟩
    (.one ⟨some s140, some (s134, true), (.b2s (.t s139))⟩
    (.one ⟨some s141, some (s134, true), (.bin false .eql (.t s137) (.t s140))⟩
    (.one ⟨some s142, none, (.pick (.t s134) (.t s141) (.c (.v (.bool false))))⟩
    (.one ⟨some s143, none, (.mv (.t s142))⟩
    (.one ⟨some s144, some (s143, true), (.mv (.t s21))⟩
    (.one ⟨some s145, some (s143, true), (.bin false .eql (.t s144) (.c (.v (.int .i64 0))))⟩
    (.one ⟨some s146, none, (.pick (.t s143) (.t s145) (.c (.v (.bool false))))⟩
    (.one ⟨some s147, none, (.mv (.t s146))⟩
    (.one ⟨some s148, some (s147, true), (.mv (.t s23))⟩
    (.one ⟨some s149, some (s147, true), (.bin false .eql (.t s148) (.c (.v (.int .i64 0))))⟩
    (.one ⟨some s150, none, (.pick (.t s147) (.t s149) (.c (.v (.bool false))))⟩
    (.one ⟨some s151, none, (.mv (.t s150))⟩
    (.one ⟨some s152, some (s151, true), (.mv (.t s18))⟩
    (.one ⟨some s153, some (s151, true), (.mv (.t s20))⟩
    (.one ⟨some s154, some (s151, true), (.mv (.t s2))⟩
    (.one ⟨some s155, some (s151, true), (.bin false .shl (.t s153) (.t s154))⟩
    (.one ⟨some s156, some (s151, true), (.mv (.t s22))⟩
    (.one ⟨some s157, some (s151, true), (.bin false .or (.t s155) (.t s156))⟩
    (.one ⟨some s158, some (s151, true), (.bin false .eql (.t s152) (.t s157))⟩
    (.one ⟨some s159, none, (.pick (.t s151) (.t s158) (.c (.v (.bool false))))⟩
    (.one ⟨some s8, none, (.mv (.t s159))⟩
    .done)))))))))))))))))))))))))))))))))))))
  .ret))))))))))))))⟩
theorem ok4 : compF Try.prog c4 Try.f4 = some ir4 := by kernel_rfl
theorem k_bowlinelaw01_BitsParts {args : List AVal} {σ : AHeap} {Q : AVal → AHeap → Prop} (hl : Nat.ble args.length 160 = true) (h : argsK (Env.full 9) 0 args fun env => evC Try.prog c4 ir4.body env σ (retQ ir4 Q)) : ACalls Try.prog 4 args σ Q :=
  acalls_of Try.func4 ok4 rfl (Nat.le_of_ble_eq_true hl) h
/- bowlinelaw01.BitsSizes -/
def c5 : Cfg := ⟨qs, false, 110, []⟩
def ir5 : IFun := ⟨2, [.tmp s4],
  (.seq (.reg (.one ⟨some s4, none, (.mv (.c (.v (.bool false))))⟩
    .done))
  (.seq (.reg (.one ⟨some s13, none, (.callq 15 [])⟩
    (.one ⟨some s5, none, (.mv (.t s13))⟩
    .done)))
  (.seq (.seq (.reg (.one ⟨some s6, none, (.mv (.c (.v (.int .i64 0))))⟩
    .done))
  (.block 0 (.loop (.seq (.seq (.reg (.one ⟨some s14, none, (.mv (.t s6))⟩
    (.one ⟨some s15, none, (.mv (.t s0))⟩
    (.one ⟨some s16, none, (.len false (.t s15))⟩
    (.one ⟨some s17, none, (.bin false .lss (.t s14) (.t s16))⟩
    (.one ⟨some s18, none, (.mv (.t s17))⟩
    (.one ⟨some s19, some (s18, true), (.mv (.t s6))⟩
    (.one ⟨some s20, some (s18, true), (.bin false .lss (.t s19) (.c (.v (.int .i64 200))))⟩
    (.one ⟨some s21, none, (.pick (.t s18) (.t s20) (.c (.v (.bool false))))⟩
    .done)))))))))
  (.cond (.t s21) .skip (.exit 0)))
  (.seq (.block 1 (.seq (.reg (.one ⟨some s24, none, (.mv (.t s5))⟩
    (.one ⟨some s26, none, (.mv (.t s5))⟩
    (.one ⟨some s25, none, (.callq 18 [(.t s24)])⟩
    (.one ⟨some s27, none, (.callq 20 [(.t s26)])⟩
    (.one ⟨some s28, none, (.b2s (.t s27))⟩
    (.one ⟨some s7, none, (.mv (.t s25))⟩
    (.one ⟨some s8, none, (.mv (.t s28))⟩
    .done))))))))
  (.seq (.reg (.one ⟨some s29, none, (.mv (.t s5))⟩
    (.one ⟨some s30, none, (.mv (.t s0))⟩
    (.one ⟨some s31, none, (.mv (.t s6))⟩
    (.one ⟨some s32, none, (.iaddr 2 (.t s30) (.t s31))⟩
    (.one ⟨some s33, none, (.faddr 0 (.t s32))⟩
    (.one ⟨some s34, none, (.load none (.t s33))⟩
    (.one ⟨some s35, none, (.mv (.t s0))⟩
    (.one ⟨some s36, none, (.mv (.t s6))⟩
    (.one ⟨some s37, none, (.iaddr 2 (.t s35) (.t s36))⟩
    (.one ⟨some s38, none, (.faddr 1 (.t s37))⟩
    (.one ⟨some s39, none, (.load none (.t s38))⟩
    (.one ⟨some s40, none, (.call 16 [(.t s29), (.t s34), (.t s39)])⟩
    (.one ⟨some s9, none, (.mv (.t s40))⟩
    .done))))))))))))))
  (.seq (.reg (.one ⟨some s41, none, (.mv (.t s9))⟩
    (.one ⟨some s42, none, (.bin false .neq (.t s41) (.c (.v (.int .i64 0))))⟩
    (.one ⟨some s43, none, (.mv (.t s42))⟩
    (.one ⟨some s44, some (s43, true), (.mv (.t s5))⟩
    (.one ⟨some s46, some (s43, true), (.mv (.t s7))⟩
    (.one ⟨some s45, some (s43, true), (.callq 18 [(.t s44)])⟩
    (.one ⟨some s47, some (s43, true), (.bin false .neq (.t s45) (.t s46))⟩
    (.one ⟨some s48, some (s43, true), (.mv (.t s47))⟩
    (.one ⟨some s49, some (s48, false), (.mv (.t s5))⟩
    (.one ⟨some s52, some (s48, false), (.mv (.t s8))⟩
    (.one ⟨some s50, some (s48, false), (.callq 20 [(.t s49)])⟩
    (.one ⟨some s51, some (s48, false), (.b2s (.t s50))⟩
    (.one ⟨some s53, some (s48, false), (.bin false .neq (.t s51) (.t s52))⟩
    (.one ⟨some s54, some (s43, true), (.pick (.t s48) (.c (.v (.bool true))) (.t s53))⟩
    (.one ⟨some s55, none, (.pick (.t s43) (.t s54) (.c (.v (.bool false))))⟩
    (.one ⟨some s56, none, (.mv (.t s55))⟩
    (.one ⟨some s57, some (s56, false), (.mv (.t s9))⟩
    (.one ⟨some s58, some (s56, false), (.bin false .eql (.t s57) (.c (.v (.int .i64 0))))⟩
    (.one ⟨some s59, some (s56, false), (.mv (.t s58))⟩
    (.one ⟨some s60, some (s59, true), (.mv (.t s5))⟩
    (.one ⟨some s62, some (s59, true), (.mv (.t s7))⟩
    (.one ⟨some s64, some (s59, true), (.mv (.t s0))⟩
    (.one ⟨some s65, some (s59, true), (.mv (.t s6))⟩
    (.one ⟨some s66, some (s59, true), (.iaddr 2 (.t s64) (.t s65))⟩
    (.one ⟨some s67, some (s59, true), (.faddr 1 (.t s66))⟩
    (.one ⟨some s68, some (s59, true), (.load none (.t s67))⟩
    (.one ⟨some s61, some (s59, true), (.callq 18 [(.t s60)])⟩
    (.one ⟨some s63, some (s59, true), (.bin false .sub (.t s61) (.t s62))⟩
    (.one ⟨some s69, some (s59, true), (.bin false .neq (.t s63) (.t s68))⟩
    (.one ⟨some s70, some (s56, false), (.pick (.t s59) (.t s69) (.c (.v (.bool false))))⟩
    (.one ⟨some s71, none, (.pick (.t s56) (.c (.v (.bool true))) (.t s70))⟩
    (.one ⟨some s72, none, (.mv (.t s71))⟩
    (.one ⟨some s73, some (s72, false), (.mv (.t s5))⟩
    (.one ⟨some s76, some (s72, false), (.mv (.t s5))⟩
    (.one ⟨some s74, some (s72, false), (.callq 20 [(.t s73)])⟩
    (.one ⟨some s75, some (s72, false), (.len false (.t s74))⟩
    (.one ⟨some s77, some (s72, false), (.callq 18 [(.t s76)])⟩
    (.one ⟨some s78, some (s72, false), (.bin false .add (.t s77) (.c (.v (.int .i64 7))))⟩
    (.one ⟨some s79, some (s72, false), (.bin false .quo (.t s78) (.c (.v (.int .i64 8))))⟩
    (.one ⟨some s80, some (s72, false), (.bin false .neq (.t s75) (.t s79))⟩
    (.one ⟨some s81, none, (.pick (.t s72) (.c (.v (.bool true))) (.t s80))⟩
    .done))))))))))))))))))))))))))))))))))))))))))
  (.cond (.t s81) (.seq (.reg (.one ⟨some s4, none, (.mv (.c (.v (.bool false))))⟩
    .done))
  .ret) .skip)))))
  (.reg (.one ⟨some s22, none, (.mv (.t s6))⟩
    (.one ⟨some s23, none, (.bin false .add (.t s22) (.c (.v (.int .i64 1))))⟩
    (.one ⟨some s6, none, (.mv (.t s23))⟩
    .done)))))))))
  (.seq (.seq (.reg (.one ⟨some s82, none, (.mv (.t s1))⟩
    (.one ⟨some s83, none, (.len false (.t s82))⟩
    (.one ⟨some s84, none, (.bin false .gtr (.t s83) (.c (.v (.int .i64 500))))⟩
    .done))))
  (.cond (.t s84) (.seq (.reg (.one ⟨some s85, none, (.callq 19 [])⟩
    (.one ⟨some s4, none, (.mv (.t s85))⟩
    .done)))
  .ret) .skip))
  (.seq (.reg (.one ⟨some s86, none, (.mv (.t s1))⟩
    (.one ⟨some s87, none, (.callq 22 [(.t s86)])⟩
    (.one ⟨some s10, none, (.mv (.t s87))⟩
    .done))))
  (.seq (.reg (.one ⟨some s89, none, (.mv (.t s10))⟩
    (.one ⟨some s90, none, (.call 23 [(.t s89), (.c (.v (.int .i64 0)))])⟩
    (.one ⟨some s88, none, (.mv (.t s90))⟩
    (.one ⟨some s91, none, (.ext (.t s88) 0)⟩
    (.one ⟨some s92, none, (.ext (.t s88) 1)⟩
    (.one ⟨some s11, none, (.mv (.t s91))⟩
    (.one ⟨some s12, none, (.mv (.t s92))⟩
    .done))))))))
  (.seq (.reg (.one ⟨some s93, none, (.callq 19 [])⟩
    (.one ⟨some s94, none, (.mv (.t s93))⟩
    (.one ⟨some s95, some (s94, true), (.mv (.t s11))⟩
    (.one ⟨some s96, some (s94, true), (.bin false .eql (.t s95) (.c (.v (.int .u64 0))))⟩
    (.one ⟨some s97, none, (.pick (.t s94) (.t s96) (.c (.v (.bool false))))⟩
    (.one ⟨some s98, none, (.mv (.t s97))⟩
    (.one ⟨some s99, some (s98, true), (.mv (.t s12))⟩
    (.one ⟨some s100, some (s98, true), (.bin false .eql (.t s99) (.c (.v (.int .i64 0))))⟩
    (.one ⟨some s101, none, (.pick (.t s98) (.t s100) (.c (.v (.bool false))))⟩
    (.one ⟨some s102, none, (.mv (.t s101))⟩
    (.one ⟨some s103, some (s102, true), (.mv (.t s10))⟩
    (.one ⟨some s104, some (s102, true), (.callq 24 [(.t s103)])⟩
    (.one ⟨some s105, some (s102, true), (.mv (.t s1))⟩
    (.one ⟨some s106, some (s102, true), (.len false (.t s105))⟩
    (.one ⟨some s107, some (s102, true), (.bin false .mul (.c (.v (.int .i64 8))) (.t s106))⟩
    (.one ⟨some s108, some (s102, true), (.bin false .eql (.t s104) (.t s107))⟩
    (.one ⟨some s109, none, (.pick (.t s102) (.t s108) (.c (.v (.bool false))))⟩
    (.one ⟨some s4, none, (.mv (.t s109))⟩
    .done)))))))))))))))))))
  .ret)))))))⟩
theorem ok5 : compF Try.prog c5 Try.f5 = some ir5 := by kernel_rfl
theorem k_bowlinelaw01_BitsSizes {args : List AVal} {σ : AHeap} {Q : AVal → AHeap → Prop} (hl : Nat.ble args.length 110 = true) (h : argsK (Env.full 9) 0 args fun env => evC Try.prog c5 ir5.body env σ (retQ ir5 Q)) : ACalls Try.prog 5 args σ Q :=
  acalls_of Try.func5 ok5 rfl (Nat.le_of_ble_eq_true hl) h
/- bowlinelaw01.BitsGets -/
def c7 : Cfg := ⟨qs, false, 137, []⟩
def ir7 : IFun := ⟨2, [.tmp s4],
  (.seq (.reg (.one ⟨some s4, none, (.mv (.c (.v (.bool false))))⟩
    .done))
  (.seq (.seq (.reg (.one ⟨some s24, none, (.mv (.t s0))⟩
    (.one ⟨some s25, none, (.len false (.t s24))⟩
    (.one ⟨some s26, none, (.bin false .gtr (.t s25) (.c (.v (.int .i64 3000))))⟩
    .done))))
  (.cond (.t s26) (.seq (.reg (.one ⟨some s27, none, (.callq 19 [])⟩
    (.one ⟨some s4, none, (.mv (.t s27))⟩
    .done)))
  .ret) .skip))
  (.seq (.reg (.one ⟨some s28, none, (.mv (.t s0))⟩
    (.one ⟨some s29, none, (.callq 22 [(.t s28)])⟩
    (.one ⟨some s5, none, (.mv (.t s29))⟩
    .done))))
  (.seq (.reg (.one ⟨some s30, none, (.mv (.t s0))⟩
    (.one ⟨some s31, none, (.callq 30 [(.t s30)])⟩
    (.one ⟨some s6, none, (.mv (.t s31))⟩
    .done))))
  (.seq (.reg (.one ⟨some s7, none, (.mv (.c (.v (.int .i64 0))))⟩
    .done))
  (.seq (.seq (.reg (.one ⟨some s8, none, (.mv (.c (.v (.int .i64 0))))⟩
    .done))
  (.block 0 (.loop (.seq (.seq (.reg (.one ⟨some s32, none, (.mv (.t s8))⟩
    (.one ⟨some s33, none, (.mv (.t s1))⟩
    (.one ⟨some s34, none, (.len false (.t s33))⟩
    (.one ⟨some s35, none, (.bin false .lss (.t s32) (.t s34))⟩
    (.one ⟨some s36, none, (.mv (.t s35))⟩
    (.one ⟨some s37, some (s36, true), (.mv (.t s8))⟩
    (.one ⟨some s38, some (s36, true), (.bin false .lss (.t s37) (.c (.v (.int .i64 200))))⟩
    (.one ⟨some s39, none, (.pick (.t s36) (.t s38) (.c (.v (.bool false))))⟩
    .done)))))))))
  (.cond (.t s39) .skip (.exit 0)))
  (.seq (.block 1 (.seq (.reg (.one ⟨some s43, none, (.mv (.t s5))⟩
    (.one ⟨some s44, none, (.mv (.t s1))⟩
    (.one ⟨some s45, none, (.mv (.t s8))⟩
    (.one ⟨some s46, none, (.iaddr 1 (.t s44) (.t s45))⟩
    (.one ⟨some s47, none, (.load none (.t s46))⟩
    (.one ⟨some s48, none, (.call 23 [(.t s43), (.t s47)])⟩
    (.one ⟨some s42, none, (.mv (.t s48))⟩
    (.one ⟨some s49, none, (.ext (.t s42) 0)⟩
    (.one ⟨some s50, none, (.ext (.t s42) 1)⟩
    (.one ⟨some s9, none, (.mv (.t s49))⟩
    (.one ⟨some s10, none, (.mv (.t s50))⟩
    .done))))))))))))
  (.seq (.reg (.one ⟨some s52, none, (.mv (.t s6))⟩
    (.one ⟨some s53, none, (.mv (.t s7))⟩
    (.one ⟨some s54, none, (.mv (.t s1))⟩
    (.one ⟨some s55, none, (.mv (.t s8))⟩
    (.one ⟨some s56, none, (.iaddr 1 (.t s54) (.t s55))⟩
    (.one ⟨some s57, none, (.load none (.t s56))⟩
    (.one ⟨some s58, none, (.callq 31 [(.t s52), (.t s53), (.t s57)])⟩
    (.one ⟨some s51, none, (.mv (.t s58))⟩
    (.one ⟨some s59, none, (.ext (.t s51) 0)⟩
    (.one ⟨some s60, none, (.ext (.t s51) 1)⟩
    (.one ⟨some s61, none, (.ext (.t s51) 2)⟩
    (.one ⟨some s11, none, (.mv (.t s59))⟩
    (.one ⟨some s12, none, (.mv (.t s60))⟩
    (.one ⟨some s13, none, (.mv (.t s61))⟩
    .done)))))))))))))))
  (.seq (.reg (.one ⟨some s62, none, (.mv (.t s12))⟩
    (.one ⟨some s7, none, (.mv (.t s62))⟩
    .done)))
  (.seq (.reg (.one ⟨some s63, none, (.mv (.t s9))⟩
    (.one ⟨some s64, none, (.mv (.t s11))⟩
    (.one ⟨some s65, none, (.bin false .neq (.t s63) (.t s64))⟩
    (.one ⟨some s66, none, (.mv (.t s65))⟩
    (.one ⟨some s67, some (s66, false), (.mv (.t s10))⟩
    (.one ⟨some s68, some (s66, false), (.mv (.t s13))⟩
    (.one ⟨some s69, some (s66, false), (.bin false .neq (.t s67) (.t s68))⟩
    (.one ⟨some s70, none, (.pick (.t s66) (.c (.v (.bool true))) (.t s69))⟩
    (.one ⟨some s71, none, (.mv (.t s70))⟩
    (.one ⟨some s72, some (s71, false), (.mv (.t s5))⟩
    (.one ⟨some s73, some (s71, false), (.callq 24 [(.t s72)])⟩
    (.one ⟨some s74, some (s71, false), (.mv (.t s6))⟩
    (.one ⟨some s75, some (s71, false), (.len false (.t s74))⟩
    (.one ⟨some s76, some (s71, false), (.mv (.t s7))⟩
    (.one ⟨some s77, some (s71, false), (.bin false .sub (.t s75) (.t s76))⟩
    (.one ⟨some s78, some (s71, false), (.bin false .neq (.t s73) (.t s77))⟩
    (.one ⟨some s79, none, (.pick (.t s71) (.c (.v (.bool true))) (.t s78))⟩
    .done))))))))))))))))))
  (.cond (.t s79) (.seq (.reg (.one ⟨some s4, none, (.mv (.c (.v (.bool false))))⟩
    .done))
  .ret) .skip))))))
  (.reg (.one ⟨some s40, none, (.mv (.t s8))⟩
    (.one ⟨some s41, none, (.bin false .add (.t s40) (.c (.v (.int .i64 1))))⟩
    (.one ⟨some s8, none, (.mv (.t s41))⟩
    .done)))))))))
  (.seq (.reg (.one ⟨some s81, none, (.mv (.t s5))⟩
    (.one ⟨some s82, none, (.call 32 [(.t s81)])⟩
    (.one ⟨some s80, none, (.mv (.t s82))⟩
    (.one ⟨some s83, none, (.ext (.t s80) 0)⟩
    (.one ⟨some s84, none, (.ext (.t s80) 1)⟩
    (.one ⟨some s14, none, (.mv (.t s83))⟩
    (.one ⟨some s15, none, (.mv (.t s84))⟩
    .done))))))))
  (.seq (.reg (.one ⟨some s86, none, (.mv (.t s6))⟩
    (.one ⟨some s87, none, (.mv (.t s7))⟩
    (.one ⟨some s88, none, (.callq 33 [(.t s86), (.t s87)])⟩
    (.one ⟨some s85, none, (.mv (.t s88))⟩
    (.one ⟨some s89, none, (.ext (.t s85) 0)⟩
    (.one ⟨some s90, none, (.ext (.t s85) 1)⟩
    (.one ⟨some s91, none, (.ext (.t s85) 2)⟩
    (.one ⟨some s16, none, (.mv (.t s89))⟩
    (.one ⟨some s17, none, (.mv (.t s90))⟩
    (.one ⟨some s18, none, (.mv (.t s91))⟩
    .done)))))))))))
  (.seq (.reg (.one ⟨some s19, none, (.mv (.c (.v (.pointer none))))⟩
    .done))
  (.seq (.reg (.one ⟨some s93, none, (.mv (.t s19))⟩
    (.one ⟨some s94, none, (.call 23 [(.t s93), (.c (.v (.int .i64 1)))])⟩
    (.one ⟨some s92, none, (.mv (.t s94))⟩
    (.one ⟨some s95, none, (.ext (.t s92) 0)⟩
    (.one ⟨some s96, none, (.ext (.t s92) 1)⟩
    (.one ⟨some s20, none, (.mv (.t s95))⟩
    (.one ⟨some s21, none, (.mv (.t s96))⟩
    .done))))))))
  (.seq (.reg (.one ⟨some s98, none, (.mv (.t s19))⟩
    (.one ⟨some s99, none, (.call 32 [(.t s98)])⟩
    (.one ⟨some s97, none, (.mv (.t s99))⟩
    (.one ⟨some s100, none, (.ext (.t s97) 0)⟩
    (.one ⟨some s101, none, (.ext (.t s97) 1)⟩
    (.one ⟨some s22, none, (.mv (.t s100))⟩
    (.one ⟨some s23, none, (.mv (.t s101))⟩
    .done))))))))
  (.seq (.reg (.one ⟨some s102, none, (.callq 19 [])⟩
    (.one ⟨some s103, none, (.mv (.t s102))⟩
    (.one ⟨some s104, some (s103, true), (.mv (.t s14))⟩
    (.one ⟨some s105, some (s103, true), (.b2s (.t s104))⟩
    (.one ⟨some s106, some (s103, true), (.mv (.t s16))⟩
    (.one ⟨some s107, some (s103, true), (.b2s (.t s106))⟩
    (.one ⟨some s108, some (s103, true), (.bin false .eql (.t s105) (.t s107))⟩
    (.one ⟨some s109, none, (.pick (.t s103) (.t s108) (.c (.v (.bool false))))⟩
    (.one ⟨some s110, none, (.mv (.t s109))⟩
    (.one ⟨some s111, some (s110, true), (.mv (.t s15))⟩
    (.one ⟨some s112, some (s110, true), (.mv (.t s18))⟩
    (.one ⟨some s113, some (s110, true), (.bin false .eql (.t s111) (.t s112))⟩
    (.one ⟨some s114, none, (.pick (.t s110) (.t s113) (.c (.v (.bool false))))⟩
    (.one ⟨some s115, none, (.mv (.t s114))⟩
    (.one ⟨some s116, some (s115, true), (.mv (.t s5))⟩
    (.one ⟨some s117, some (s115, true), (.callq 24 [(.t s116)])⟩
    (.one ⟨some s118, some (s115, true), (.mv (.t s6))⟩
    (.one ⟨some s119, some (s115, true), (.len false (.t s118))⟩
    (.one ⟨some s120, some (s115, true), (.mv (.t s17))⟩
    (.one ⟨some s121, some (s115, true), (.bin false .sub (.t s119) (.t s120))⟩
    (.one ⟨some s122, some (s115, true), (.bin false .eql (.t s117) (.t s121))⟩
    (.one ⟨some s123, none, (.pick (.t s115) (.t s122) (.c (.v (.bool false))))⟩
    (.one ⟨some s124, none, (.mv (.t s123))⟩
    (.one ⟨some s125, some (s124, true), (.mv (.t s21))⟩
    (.one ⟨some s126, some (s124, true), (.bin false .eql (.t s125) (.c (.v (.int .i64 6))))⟩
    (.one ⟨some s127, none, (.pick (.t s124) (.t s126) (.c (.v (.bool false))))⟩
    (.one ⟨some s128, none, (.mv (.t s127))⟩
    (.one ⟨some s129, some (s128, true), (.mv (.t s23))⟩
    (.one ⟨some s130, some (s128, true), (.bin false .eql (.t s129) (.c (.v (.int .i64 6))))⟩
    (.one ⟨some s131, none, (.pick (.t s128) (.t s130) (.c (.v (.bool false))))⟩
    (.one ⟨some s132, none, (.mv (.t s131))⟩
    (.one ⟨some s133, some (s132, true), (.mv (.t s19))⟩
    (.one ⟨some s134, some (s132, true), (.callq 24 [(.t s133)])⟩
    (.one ⟨some s135, some (s132, true), (.bin false .eql (.t s134) (.c (.v (.int .i64 0))))⟩
    (.one ⟨some s136, none, (.pick (.t s132) (.t s135) (.c (.v (.bool false))))⟩
    (.one ⟨some s4, none, (.mv (.t s136))⟩
    .done)))))))))))))))))))))))))))))))))))))
  .ret))))))))))))⟩
theorem ok7 : compF Try.prog c7 Try.f7 = some ir7 := by kernel_rfl
theorem k_bowlinelaw01_BitsGets {args : List AVal} {σ : AHeap} {Q : AVal → AHeap → Prop} (hl : Nat.ble args.length 137 = true) (h : argsK (Env.full 9) 0 args fun env => evC Try.prog c7 ir7.body env σ (retQ ir7 Q)) : ACalls Try.prog 7 args σ Q :=
  acalls_of Try.func7 ok7 rfl (Nat.le_of_ble_eq_true hl) h
/- bowlinelaw01.BitsBack -/
def c8 : Cfg := ⟨qs, false, 103, []⟩
def ir8 : IFun := ⟨1, [.tmp s2],
  (.seq (.reg (.one ⟨some s2, none, (.mv (.c (.v (.bool false))))⟩
    .done))
  (.seq (.reg (.one ⟨some s13, none, (.callq 15 [])⟩
    (.one ⟨some s3, none, (.mv (.t s13))⟩
    .done)))
  (.seq (.reg (.one ⟨some s4, none, (.mv (.c (.slice 2 [] .full)))⟩
    .done))
  (.seq (.seq (.reg (.one ⟨some s5, none, (.mv (.c (.v (.int .i64 0))))⟩
    .done))
  (.block 0 (.loop (.seq (.seq (.reg (.one ⟨some s14, none, (.mv (.t s5))⟩
    (.one ⟨some s15, none, (.mv (.t s0))⟩
    (.one ⟨some s16, none, (.len false (.t s15))⟩
    (.one ⟨some s17, none, (.bin false .lss (.t s14) (.t s16))⟩
    (.one ⟨some s18, none, (.mv (.t s17))⟩
    (.one ⟨some s19, some (s18, true), (.mv (.t s5))⟩
    (.one ⟨some s20, some (s18, true), (.bin false .lss (.t s19) (.c (.v (.int .i64 200))))⟩
    (.one ⟨some s21, none, (.pick (.t s18) (.t s20) (.c (.v (.bool false))))⟩
    .done)))))))))
  (.cond (.t s21) .skip (.exit 0)))
  (.seq (.block 1 (.seq (.reg (.one ⟨some s24, none, (.mv (.t s3))⟩
    (.one ⟨some s25, none, (.mv (.t s0))⟩
    (.one ⟨some s26, none, (.mv (.t s5))⟩
    (.one ⟨some s27, none, (.iaddr 2 (.t s25) (.t s26))⟩
    (.one ⟨some s28, none, (.faddr 0 (.t s27))⟩
    (.one ⟨some s29, none, (.load none (.t s28))⟩
    (.one ⟨some s30, none, (.mv (.t s0))⟩
    (.one ⟨some s31, none, (.mv (.t s5))⟩
    (.one ⟨some s32, none, (.iaddr 2 (.t s30) (.t s31))⟩
    (.one ⟨some s33, none, (.faddr 1 (.t s32))⟩
    (.one ⟨some s34, none, (.load none (.t s33))⟩
    (.one ⟨some s35, none, (.call 16 [(.t s24), (.t s29), (.t s34)])⟩
    (.one ⟨some s36, none, (.bin false .eql (.t s35) (.c (.v (.int .i64 0))))⟩
    .done))))))))))))))
  (.cond (.t s36) (.reg (.one ⟨some s37, none, (.mv (.t s4))⟩
    (.one ⟨some s38, none, (.mv (.t s0))⟩
    (.one ⟨some s39, none, (.mv (.t s5))⟩
    (.one ⟨some s40, none, (.iaddr 2 (.t s38) (.t s39))⟩
    (.one ⟨some s41, none, (.load (some 2) (.t s40))⟩
    (.one ⟨some s42, none, (.row 2 [(.t s41)])⟩
    (.one ⟨some s43, none, (.app 2 16 (.t s37) (.t s42))⟩
    (.one ⟨some s4, none, (.mv (.t s43))⟩
    .done))))))))) .skip)))
  (.reg (.one ⟨some s22, none, (.mv (.t s5))⟩
    (.one ⟨some s23, none, (.bin false .add (.t s22) (.c (.v (.int .i64 1))))⟩
    (.one ⟨some s5, none, (.mv (.t s23))⟩
    .done)))))))))
  (.seq (.reg (.one ⟨some s44, none, (.mv (.t s3))⟩
    (.one ⟨some s45, none, (.callq 20 [(.t s44)])⟩
    (.one ⟨some s46, none, (.callq 22 [(.t s45)])⟩
    (.one ⟨some s6, none, (.mv (.t s46))⟩
    .done)))))
  (.seq (.seq (.reg (.one ⟨some s7, none, (.mv (.c (.v (.int .i64 0))))⟩
    .done))
  (.block 2 (.loop (.seq (.seq (.reg (.one ⟨some s47, none, (.mv (.t s7))⟩
    (.one ⟨some s48, none, (.mv (.t s4))⟩
    (.one ⟨some s49, none, (.len false (.t s48))⟩
    (.one ⟨some s50, none, (.bin false .lss (.t s47) (.t s49))⟩
    .done)))))
  (.cond (.t s50) .skip (.exit 2)))
  (.seq (.block 3 (.seq (.reg (.one ⟨some s54, none, (.mv (.t s6))⟩
    (.one ⟨some s55, none, (.mv (.t s4))⟩
    (.one ⟨some s56, none, (.mv (.t s7))⟩
    (.one ⟨some s57, none, (.iaddr 2 (.t s55) (.t s56))⟩
    (.one ⟨some s58, none, (.faddr 1 (.t s57))⟩
    (.one ⟨some s59, none, (.load none (.t s58))⟩
    (.one ⟨some s60, none, (.call 23 [(.t s54), (.t s59)])⟩
    (.one ⟨some s53, none, (.mv (.t s60))⟩
    (.one ⟨some s61, none, (.ext (.t s53) 0)⟩
    (.one ⟨some s62, none, (.ext (.t s53) 1)⟩
    (.one ⟨some s8, none, (.mv (.t s61))⟩
    (.one ⟨some s9, none, (.mv (.t s62))⟩
    .done)))))))))))))
  (.seq (.reg (.one ⟨some s63, none, (.mv (.t s9))⟩
    (.one ⟨some s64, none, (.bin false .neq (.t s63) (.c (.v (.int .i64 0))))⟩
    (.one ⟨some s65, none, (.mv (.t s64))⟩
    (.one ⟨some s66, some (s65, false), (.mv (.t s8))⟩
    (.one ⟨some s67, some (s65, false), (.mv (.t s4))⟩
    (.one ⟨some s68, some (s65, false), (.mv (.t s7))⟩
    (.one ⟨some s69, some (s65, false), (.iaddr 2 (.t s67) (.t s68))⟩
    (.one ⟨some s70, some (s65, false), (.faddr 0 (.t s69))⟩
    (.one ⟨some s71, some (s65, false), (.load none (.t s70))⟩
    (.one ⟨some s72, some (s65, false), (.bin false .neq (.t s66) (.t s71))⟩
    (.one ⟨some s73, none, (.pick (.t s65) (.c (.v (.bool true))) (.t s72))⟩
    .done))))))))))))
  (.cond (.t s73) (.seq (.reg (.one ⟨some s2, none, (.mv (.c (.v (.bool false))))⟩
    .done))
  .ret) .skip))))
  (.reg (.one ⟨some s51, none, (.mv (.t s7))⟩
    (.one ⟨some s52, none, (.bin false .add (.t s51) (.c (.v (.int .i64 1))))⟩
    (.one ⟨some s7, none, (.mv (.t s52))⟩
    .done)))))))))
  (.seq (.reg (.one ⟨some s74, none, (.mv (.t s6))⟩
    (.one ⟨some s75, none, (.callq 24 [(.t s74)])⟩
    (.one ⟨some s10, none, (.mv (.t s75))⟩
    .done))))
  (.seq (.reg (.one ⟨some s77, none, (.mv (.t s6))⟩
    (.one ⟨some s78, none, (.call 32 [(.t s77)])⟩
    (.one ⟨some s76, none, (.mv (.t s78))⟩
    (.one ⟨some s79, none, (.ext (.t s76) 0)⟩
    (.one ⟨some s80, none, (.ext (.t s76) 1)⟩
    (.one ⟨some s11, none, (.mv (.t s79))⟩
    (.one ⟨some s12, none, (.mv (.t s80))⟩
    .done))))))))
  (.seq (.reg (.one ⟨some s81, none, (.callq 19 [])⟩
    (.one ⟨some s82, none, (.mv (.t s81))⟩
    (.one ⟨some s83, some (s82, true), (.mv (.t s10))⟩
    (.one ⟨some s84, some (s82, true), (.bin false .lss (.t s83) (.c (.v (.int .i64 8))))⟩
    (.one ⟨some s85, none, (.pick (.t s82) (.t s84) (.c (.v (.bool false))))⟩
    (.one ⟨some s86, none, (.mv (.t s85))⟩
    (.one ⟨some s87, some (s86, true), (.mv (.t s12))⟩
    (.one ⟨some s88, some (s86, true), (.bin false .eql (.t s87) (.c (.v (.int .i64 0))))⟩
    (.one ⟨some s89, none, (.pick (.t s86) (.t s88) (.c (.v (.bool false))))⟩
    (.one ⟨some s90, none, (.mv (.t s89))⟩
    (.one ⟨some s91, some (s90, true), (.mv (.t s11))⟩
    (.one ⟨some s92, some (s90, true), (.len false (.t s91))⟩
    (.one ⟨some s93, some (s90, true), (.bin false .eql (.t s92) (.c (.v (.int .i64 0))))⟩
    (.one ⟨some s94, none, (.pick (.t s90) (.t s93) (.c (.v (.bool false))))⟩
    (.one ⟨some s95, none, (.mv (.t s94))⟩
    (.one ⟨some s96, some (s95, true), (.mv (.t s3))⟩
    (.one ⟨some s97, some (s95, true), (.callq 18 [(.t s96)])⟩
    (.one ⟨some s98, some (s95, true), (.mv (.t s10))⟩
    (.one ⟨some s99, some (s95, true), (.bin false .add (.t s97) (.t s98))⟩
    (.one ⟨some s100, some (s95, true), (.bin false .rem (.t s99) (.c (.v (.int .i64 8))))⟩
    (.one ⟨some s101, some (s95, true), (.bin false .eql (.t s100) (.c (.v (.int .i64 0))))⟩
    (.one ⟨some s102, none, (.pick (.t s95) (.t s101) (.c (.v (.bool false))))⟩
    (.one ⟨some s2, none, (.mv (.t s102))⟩
    .done))))))))))))))))))))))))
  .ret)))))))))⟩
theorem ok8 : compF Try.prog c8 Try.f8 = some ir8 := by kernel_rfl
theorem k_bowlinelaw01_BitsBack {args : List AVal} {σ : AHeap} {Q : AVal → AHeap → Prop} (hl : Nat.ble args.length 103 = true) (h : argsK (Env.full 9) 0 args fun env => evC Try.prog c8 ir8.body env σ (retQ ir8 Q)) : ACalls Try.prog 8 args σ Q :=
  acalls_of Try.func8 ok8 rfl (Nat.le_of_ble_eq_true hl) h
/- bowlinelaw01.alive -/
def c19 : Cfg := ⟨qs, false, 70, []⟩
def ir19 : IFun := ⟨0, [.tmp s0],
  (.seq (.reg (.one ⟨some s0, none, (.mv (.c (.v (.bool false))))⟩
    .done))
  (.seq (.reg (.one ⟨some s9, none, (.callq 15 [])⟩
    (.one ⟨some s1, none, (.mv (.t s9))⟩
    .done)))
  (.seq (.reg (.one ⟨some s10, none, (.mv (.t s1))⟩
    (.one ⟨some s11, none, (.call 16 [(.t s10), (.c (.v (.int .u64 5))), (.c (.v (.int .i64 3)))])⟩
    (.one ⟨some s12, none, (.mv (.t s1))⟩
    (.one ⟨some s13, none, (.call 16 [(.t s12), (.c (.v (.int .u64 1))), (.c (.v (.int .i64 2)))])⟩
    (.one ⟨some s2, none, (.mv (.t s11))⟩
    (.one ⟨some s3, none, (.mv (.t s13))⟩
    .done)))))))
  (.seq (.reg (.one ⟨some s14, none, (.mv (.t s1))⟩
    (.one ⟨some s15, none, (.callq 20 [(.t s14)])⟩
    (.one ⟨some s16, none, (.callq 22 [(.t s15)])⟩
    (.one ⟨some s4, none, (.mv (.t s16))⟩
    .done)))))
  (.seq (.reg (.one ⟨some s18, none, (.mv (.t s4))⟩
    (.one ⟨some s19, none, (.call 23 [(.t s18), (.c (.v (.int .i64 3)))])⟩
    (.one ⟨some s17, none, (.mv (.t s19))⟩
    (.one ⟨some s20, none, (.ext (.t s17) 0)⟩
    (.one ⟨some s21, none, (.ext (.t s17) 1)⟩
    (.one ⟨some s5, none, (.mv (.t s20))⟩
    (.one ⟨some s6, none, (.mv (.t s21))⟩
    .done))))))))
  (.seq (.reg (.one ⟨some s23, none, (.mv (.t s4))⟩
    (.one ⟨some s24, none, (.call 23 [(.t s23), (.c (.v (.int .i64 2)))])⟩
    (.one ⟨some s22, none, (.mv (.t s24))⟩
    (.one ⟨some s25, none, (.ext (.t s22) 0)⟩
    (.one ⟨some s26, none, (.ext (.t s22) 1)⟩
    (.one ⟨some s7, none, (.mv (.t s25))⟩
    (.one ⟨some s8, none, (.mv (.t s26))⟩
    .done))))))))
  (.seq (.reg (.one ⟨some s27, none, (.mv (.t s2))⟩
    (.one ⟨some s28, none, (.bin false .eql (.t s27) (.c (.v (.int .i64 0))))⟩
    (.one ⟨some s29, none, (.mv (.t s28))⟩
    (.one ⟨some s30, some (s29, true), (.mv (.t s3))⟩
    (.one ⟨some s31, some (s29, true), (.bin false .eql (.t s30) (.c (.v (.int .i64 0))))⟩
    (.one ⟨some s32, none, (.pick (.t s29) (.t s31) (.c (.v (.bool false))))⟩
    (.one ⟨some s33, none, (.mv (.t s32))⟩
    (.one ⟨some s34, some (s33, true), (.mv (.t s1))⟩
    (.one ⟨some s35, some (s33, true), (.callq 18 [(.t s34)])⟩
    (.one ⟨some s36, some (s33, true), (.bin false .eql (.t s35) (.c (.v (.int .i64 5))))⟩
    (.one ⟨some s37, none, (.pick (.t s33) (.t s36) (.c (.v (.bool false))))⟩
    (.one ⟨some s38, none, (.mv (.t s37))⟩
    (.one ⟨some s39, some (s38, true), (.mv (.t s1))⟩
    (.one ⟨some s40, some (s38, true), (.callq 20 [(.t s39)])⟩
    (.one ⟨some s41, some (s38, true), (.b2s (.t s40))⟩
    (.one ⟨some s42, some (s38, true), (.bin false .eql (.t s41) (.c (.v (.string ⟨#[168]⟩))))⟩
    (.one ⟨some s43, none, (.pick (.t s38) (.t s42) (.c (.v (.bool false))))⟩
    (.one ⟨some s44, none, (.mv (.t s43))⟩
    (.one ⟨some s45, some (s44, true), (.mv (.t s5))⟩
    (.one ⟨some s46, some (s44, true), (.bin false .eql (.t s45) (.c (.v (.int .u64 5))))⟩
    (.one ⟨some s47, none, (.pick (.t s44) (.t s46) (.c (.v (.bool false))))⟩
    (.one ⟨some s48, none, (.mv (.t s47))⟩
    (.one ⟨some s49, some (s48, true), (.mv (.t s6))⟩
    (.one ⟨some s50, some (s48, true), (.bin false .eql (.t s49) (.c (.v (.int .i64 0))))⟩
    (.one ⟨some s51, none, (.pick (.t s48) (.t s50) (.c (.v (.bool false))))⟩
    (.one ⟨some s52, none, (.mv (.t s51))⟩
    (.one ⟨some s53, some (s52, true), (.mv (.t s7))⟩
    (.one ⟨some s54, some (s52, true), (.bin false .eql (.t s53) (.c (.v (.int .u64 1))))⟩
    (.one ⟨some s55, none, (.pick (.t s52) (.t s54) (.c (.v (.bool false))))⟩
    (.one ⟨some s56, none, (.mv (.t s55))⟩
    (.one ⟨some s57, some (s56, true), (.mv (.t s8))⟩
    (.one ⟨some s58, some (s56, true), (.bin false .eql (.t s57) (.c (.v (.int .i64 0))))⟩
    (.one ⟨some s59, none, (.pick (.t s56) (.t s58) (.c (.v (.bool false))))⟩
    (.one ⟨some s60, none, (.mv (.t s59))⟩
    (.one ⟨some s61, some (s60, true), (.mv (.t s4))⟩
    (.one ⟨some s62, some (s60, true), (.callq 24 [(.t s61)])⟩
    (.one ⟨some s63, some (s60, true), (.bin false .eql (.t s62) (.c (.v (.int .i64 3))))⟩
    (.one ⟨some s64, none, (.pick (.t s60) (.t s63) (.c (.v (.bool false))))⟩
    (.one ⟨some s65, none, (.mv (.t s64))⟩
    (.one ⟨some s66, some (s65, true), (.mv (.t s1))⟩
    (.one ⟨some s67, some (s65, true), (.call 16 [(.t s66), (.c (.v (.int .u64 4))), (.c (.v (.int .i64 2)))])⟩
    (.one ⟨some s68, some (s65, true), (.bin false .eql (.t s67) (.c (.v (.int .i64 1))))⟩
    (.one ⟨some s69, none, (.pick (.t s65) (.t s68) (.c (.v (.bool false))))⟩
    (.one ⟨some s0, none, (.mv (.t s69))⟩
    .done)))))))))))))))))))))))))))))))))))))))))))))
  .ret)))))))⟩
theorem ok19 : compF Try.prog c19 Try.f19 = some ir19 := by kernel_rfl
theorem k_bowlinelaw01_alive {args : List AVal} {σ : AHeap} {Q : AVal → AHeap → Prop} (hl : Nat.ble args.length 70 = true) (h : argsK (Env.full 9) 0 args fun env => evC Try.prog c19 ir19.body env σ (retQ ir19 Q)) : ACalls Try.prog 19 args σ Q :=
  acalls_of Try.func19 ok19 rfl (Nat.le_of_ble_eq_true hl) h
end Go.Proofs.Ytkdbmajkjlnpiaa

