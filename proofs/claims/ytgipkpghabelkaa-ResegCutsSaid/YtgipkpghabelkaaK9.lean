/-
  Texts of this claim, pack 9: Irref20.
-/
import Derived.Test.YtgipkpghabelkaaK2
/-
  The bodies of one package, compiled to the framework's language (printed by a program of this session).
-/
namespace Go.Proofs.Ytgipkpghabelkaa
set_option linter.unusedVariables false
set_option linter.unusedSimpArgs false
open Go Go.Am
/- bowlineref20.Cut -/
def c11 : Cfg := ⟨qs, [], 191, [], ps⟩
def ir11 : IFun := ⟨5, [.cell s10 (some 7), .tmp s11, .tmp s12],
  (.seq (.reg (.one ⟨some s5, none, (.box 7 (.t s0))⟩
    (.one ⟨some s10, none, (.new [(.v (.bool false)), (.v (.int .i64 0)), (.v (.int .i64 0)), (.v (.bool false)), (.v (.bool false)), (.v (.int .i64 0)), (.slice 1 [] .full)])⟩
    (.one ⟨some s11, none, (.mv (.c (.v (.int .i64 0))))⟩
    (.one ⟨some s12, none, (.mv (.c (.v (.int .i64 0))))⟩
    .done)))))
  (.seq (.reg (.one ⟨some s24, none, (.build [(.v (.bool false)), (.v (.int .i64 0)), (.v (.int .i64 0)), (.v (.bool false)), (.v (.bool false)), (.v (.int .i64 0)), (.slice 1 [] .full)] [])⟩
    (.one ⟨some s13, none, (.new [(.v (.bool false)), (.v (.int .i64 0)), (.v (.int .i64 0)), (.v (.bool false)), (.v (.bool false)), (.v (.int .i64 0)), (.slice 1 [] .full)])⟩
    (.one ⟨none, none, (.store 7 (.t s13) (.t s24))⟩
    .done))))
  (.seq (.reg (.one ⟨some s25, none, (.load (some 7) (.t s5))⟩
    (.one ⟨some s26, none, (.mv (.t s4))⟩
    (.one ⟨some s27, none, (.callq 33 [(.t s25), (.t s26)])⟩
    (.one ⟨some s14, none, (.mv (.t s27))⟩
    .done)))))
  (.seq (.seq (.reg (.one ⟨some s28, none, (.faddr 3 (.t s5))⟩
    (.one ⟨some s29, none, (.load none (.t s28))⟩
    (.one ⟨some s30, none, (.mv (.t s29))⟩
    (.one ⟨some s31, some (s30, false), (.mv (.t s14))⟩
    (.one ⟨some s32, some (s30, false), (.bin false .eql (.t s31) (.c (.v (.int .i64 0))))⟩
    (.one ⟨some s33, none, (.pick (.t s30) (.c (.v (.bool true))) (.t s32))⟩
    .done)))))))
  (.cond (.t s33) (.seq (.reg (.one ⟨some s34, none, (.load (some 7) (.t s13))⟩
    (.one ⟨none, none, (.store 7 (.t s10) (.t s34))⟩
    (.one ⟨some s11, none, (.mv (.c (.v (.int .i64 0))))⟩
    (.one ⟨some s12, none, (.mv (.c (.v (.int .i64 3))))⟩
    .done)))))
  .ret) .skip))
  (.seq (.reg (.one ⟨some s35, none, (.load (some 7) (.t s5))⟩
    (.one ⟨some s36, none, (.callq 34 [(.t s35)])⟩
    (.one ⟨some s15, none, (.mv (.t s36))⟩
    .done))))
  (.seq (.seq (.reg (.one ⟨some s37, none, (.mv (.t s3))⟩
    (.one ⟨some s38, none, (.bin false .lss (.t s37) (.c (.v (.int .i64 0))))⟩
    (.one ⟨some s39, none, (.mv (.t s38))⟩
    (.one ⟨some s40, some (s39, false), (.mv (.t s3))⟩
    (.one ⟨some s41, some (s39, false), (.bin false .gtr (.t s40) (.c (.v (.int .i64 4096))))⟩
    (.one ⟨some s42, none, (.pick (.t s39) (.c (.v (.bool true))) (.t s41))⟩
    (.one ⟨some s43, none, (.mv (.t s42))⟩
    (.one ⟨some s44, some (s43, false), (.mv (.t s1))⟩
    (.one ⟨some s45, some (s43, false), (.bin false .lss (.t s44) (.c (.v (.int .i64 0))))⟩
    (.one ⟨some s46, none, (.pick (.t s43) (.c (.v (.bool true))) (.t s45))⟩
    (.one ⟨some s47, none, (.mv (.t s46))⟩
    (.one ⟨some s48, some (s47, false), (.mv (.t s1))⟩
    (.one ⟨some s49, some (s47, false), (.mv (.t s2))⟩
    (.one ⟨some s50, some (s47, false), (.bin false .geq (.t s48) (.t s49))⟩
    (.one ⟨some s51, none, (.pick (.t s47) (.c (.v (.bool true))) (.t s50))⟩
    (.one ⟨some s52, none, (.mv (.t s51))⟩
    (.one ⟨some s53, some (s52, false), (.mv (.t s2))⟩
    (.one ⟨some s54, some (s52, false), (.mv (.t s15))⟩
    (.one ⟨some s55, some (s52, false), (.len false (.t s54))⟩
    (.one ⟨some s56, some (s52, false), (.bin false .gtr (.t s53) (.t s55))⟩
    (.one ⟨some s57, none, (.pick (.t s52) (.c (.v (.bool true))) (.t s56))⟩
    .done))))))))))))))))))))))
  (.cond (.t s57) (.seq (.reg (.one ⟨some s58, none, (.load (some 7) (.t s13))⟩
    (.one ⟨none, none, (.store 7 (.t s10) (.t s58))⟩
    (.one ⟨some s11, none, (.mv (.c (.v (.int .i64 0))))⟩
    (.one ⟨some s12, none, (.mv (.c (.v (.int .i64 1))))⟩
    .done)))))
  .ret) .skip))
  (.seq (.seq (.reg (.one ⟨some s59, none, (.mv (.t s1))⟩
    (.one ⟨some s60, none, (.bin false .eql (.t s59) (.c (.v (.int .i64 0))))⟩
    (.one ⟨some s61, none, (.mv (.t s60))⟩
    (.one ⟨some s62, some (s61, true), (.mv (.t s2))⟩
    (.one ⟨some s63, some (s61, true), (.mv (.t s15))⟩
    (.one ⟨some s64, some (s61, true), (.len false (.t s63))⟩
    (.one ⟨some s65, some (s61, true), (.bin false .eql (.t s62) (.t s64))⟩
    (.one ⟨some s66, none, (.pick (.t s61) (.t s65) (.c (.v (.bool false))))⟩
    (.one ⟨some s67, none, (.mv (.t s66))⟩
    (.one ⟨some s68, some (s67, true), (.mv (.t s14))⟩
    (.one ⟨some s69, some (s67, true), (.mv (.t s3))⟩
    (.one ⟨some s70, some (s67, true), (.bin false .leq (.t s68) (.t s69))⟩
    (.one ⟨some s71, none, (.pick (.t s67) (.t s70) (.c (.v (.bool false))))⟩
    .done))))))))))))))
  (.cond (.t s71) (.seq (.reg (.one ⟨some s72, none, (.faddr 0 (.t s5))⟩
    (.one ⟨none, none, (.store 1 (.t s72) (.c (.v (.bool false))))⟩
    .done)))
  (.seq (.reg (.one ⟨some s73, none, (.load (some 7) (.t s5))⟩
    (.one ⟨some s74, none, (.mv (.t s2))⟩
    (.one ⟨none, none, (.store 7 (.t s10) (.t s73))⟩
    (.one ⟨some s11, none, (.mv (.t s74))⟩
    (.one ⟨some s12, none, (.mv (.c (.v (.int .i64 0))))⟩
    .done))))))
  .ret)) .skip))
  (.seq (.seq (.reg (.one ⟨some s75, none, (.mv (.t s3))⟩
    (.one ⟨some s76, none, (.bin false .gtr (.t s75) (.c (.v (.int .i64 4000))))⟩
    .done)))
  (.cond (.t s76) (.reg (.one ⟨some s3, none, (.mv (.c (.v (.int .i64 4000))))⟩
    .done)) .skip))
  (.seq (.reg (.one ⟨some s16, none, (.mv (.c (.v (.int .i64 15))))⟩
    .done))
  (.seq (.seq (.reg (.one ⟨some s77, none, (.mv (.t s4))⟩
    (.one ⟨some s78, none, (.bin false .eql (.t s77) (.c (.v (.int .i64 10))))⟩
    .done)))
  (.cond (.t s78) (.reg (.one ⟨some s16, none, (.mv (.c (.v (.int .i64 11))))⟩
    .done)) .skip))
  (.seq (.reg (.one ⟨some s79, none, (.faddr 2 (.t s5))⟩
    (.one ⟨some s80, none, (.load none (.t s79))⟩
    (.one ⟨some s81, none, (.mv (.t s1))⟩
    (.one ⟨some s82, none, (.build [(.v (.bool false)), (.v (.int .i64 0)), (.v (.int .i64 0)), (.v (.bool false)), (.v (.bool false)), (.v (.int .i64 0)), (.slice 1 [] .full)] [(2, 1, (.t s80)), (3, 1, (.c (.v (.bool true)))), (5, 1, (.t s81))])⟩
    (.one ⟨some s17, none, (.new [(.v (.bool false)), (.v (.int .i64 0)), (.v (.int .i64 0)), (.v (.bool false)), (.v (.bool false)), (.v (.int .i64 0)), (.slice 1 [] .full)])⟩
    (.one ⟨none, none, (.store 7 (.t s17) (.t s82))⟩
    .done)))))))
  (.seq (.reg (.one ⟨some s83, none, (.mv (.t s1))⟩
    (.one ⟨some s18, none, (.mv (.t s83))⟩
    .done)))
  (.seq (.block 0 (.loop (.seq (.seq (.reg (.one ⟨some s84, none, (.mv (.t s18))⟩
    (.one ⟨some s85, none, (.mv (.t s2))⟩
    (.one ⟨some s86, none, (.bin false .lss (.t s84) (.t s85))⟩
    .done))))
  (.cond (.t s86) .skip (.exit 0)))
  (.block 1 (.seq (.reg (.one ⟨some s87, none, (.faddr 6 (.t s17))⟩
    (.one ⟨some s88, none, (.load none (.t s87))⟩
    (.one ⟨some s89, none, (.len false (.t s88))⟩
    (.one ⟨some s19, none, (.mv (.t s89))⟩
    .done)))))
  (.seq (.reg (.one ⟨some s90, none, (.mv (.t s19))⟩
    (.one ⟨some s91, none, (.bin false .eql (.t s90) (.c (.v (.int .i64 0))))⟩
    (.one ⟨some s92, none, (.mv (.t s91))⟩
    (.one ⟨some s93, some (s92, false), (.load (some 7) (.t s5))⟩
    (.one ⟨some s94, some (s92, false), (.mv (.t s18))⟩
    (.one ⟨some s95, some (s92, false), (.callq 35 [(.t s93), (.t s94)])⟩
    (.one ⟨some s96, none, (.pick (.t s92) (.c (.v (.bool true))) (.t s95))⟩
    (.one ⟨some s20, none, (.mv (.t s96))⟩
    .done)))))))))
  (.seq (.seq (.reg (.one ⟨some s97, none, (.mv (.t s20))⟩
    (.one ⟨some s98, none, (.not (.t s97))⟩
    .done)))
  (.cond (.t s98) (.reg (.one ⟨some s99, none, (.mv (.t s19))⟩
    (.one ⟨some s100, none, (.bin false .sub (.t s99) (.c (.v (.int .i64 1))))⟩
    (.one ⟨some s19, none, (.mv (.t s100))⟩
    .done)))) .skip))
  (.seq (.reg (.one ⟨some s101, none, (.mv (.t s3))⟩
    (.one ⟨some s102, none, (.mv (.t s4))⟩
    (.one ⟨some s103, none, (.callq 13 [(.c (.v (.bool true))), (.t s102)])⟩
    (.one ⟨some s104, none, (.bin false .sub (.t s101) (.t s103))⟩
    (.one ⟨some s105, none, (.mv (.t s18))⟩
    (.one ⟨some s106, none, (.mv (.t s1))⟩
    (.one ⟨some s107, none, (.bin false .sub (.t s105) (.t s106))⟩
    (.one ⟨some s108, none, (.bin false .sub (.t s104) (.t s107))⟩
    (.one ⟨some s109, none, (.mv (.t s19))⟩
    (.one ⟨some s110, none, (.mv (.t s16))⟩
    (.one ⟨some s111, none, (.callq 36 [(.t s109), (.t s110)])⟩
    (.one ⟨some s112, none, (.bin false .sub (.t s108) (.t s111))⟩
    (.one ⟨some s21, none, (.mv (.t s112))⟩
    .done))))))))))))))
  (.seq (.seq (.reg (.one ⟨some s113, none, (.mv (.t s21))⟩
    (.one ⟨some s114, none, (.bin false .lss (.t s113) (.c (.v (.int .i64 1))))⟩
    .done)))
  (.cond (.t s114) (.exit 0) .skip))
  (.seq (.seq (.reg (.one ⟨some s115, none, (.mv (.t s20))⟩
    .done))
  (.cond (.t s115) (.reg (.one ⟨some s116, none, (.faddr 6 (.t s17))⟩
    (.one ⟨some s117, none, (.load none (.t s116))⟩
    (.one ⟨some s118, none, (.row 1 [(.c (.slice 1 [] .full))])⟩
    (.one ⟨some s119, none, (.app 1 24 (.t s117) (.t s118))⟩
    (.one ⟨some s120, none, (.faddr 6 (.t s17))⟩
    (.one ⟨none, none, (.store 1 (.t s120) (.t s119))⟩
    .done))))))) .skip))
  (.seq (.reg (.one ⟨some s121, none, (.faddr 6 (.t s17))⟩
    (.one ⟨some s122, none, (.load none (.t s121))⟩
    (.one ⟨some s123, none, (.len false (.t s122))⟩
    (.one ⟨some s124, none, (.bin false .sub (.t s123) (.c (.v (.int .i64 1))))⟩
    (.one ⟨some s22, none, (.mv (.t s124))⟩
    .done))))))
  (.seq (.reg (.one ⟨some s23, none, (.mv (.c (.slice 1 [] .full)))⟩
    .done))
  (.seq (.reg (.one ⟨some s125, none, (.mv (.t s23))⟩
    (.one ⟨some s126, none, (.faddr 6 (.t s17))⟩
    (.one ⟨some s127, none, (.load none (.t s126))⟩
    (.one ⟨some s128, none, (.mv (.t s22))⟩
    (.one ⟨some s129, none, (.iaddr 1 (.t s127) (.t s128))⟩
    (.one ⟨some s130, none, (.load none (.t s129))⟩
    (.one ⟨some s131, none, (.app 1 1 (.t s125) (.t s130))⟩
    (.one ⟨some s23, none, (.mv (.t s131))⟩
    .done)))))))))
  (.seq (.reg (.one ⟨some s132, none, (.faddr 6 (.t s17))⟩
    (.one ⟨some s133, none, (.load none (.t s132))⟩
    (.one ⟨some s134, none, (.mv (.t s22))⟩
    (.one ⟨some s135, none, (.mv (.t s23))⟩
    (.one ⟨some s136, none, (.mv (.t s15))⟩
    (.one ⟨some s137, none, (.mv (.t s18))⟩
    (.one ⟨some s138, none, (.iaddr 1 (.t s136) (.t s137))⟩
    (.one ⟨some s139, none, (.load none (.t s138))⟩
    (.one ⟨some s140, none, (.row 1 [(.t s139)])⟩
    (.one ⟨some s141, none, (.app 1 1 (.t s135) (.t s140))⟩
    (.one ⟨some s142, none, (.iaddr 1 (.t s133) (.t s134))⟩
    (.one ⟨none, none, (.store 1 (.t s142) (.t s141))⟩
    .done)))))))))))))
  (.reg (.one ⟨some s143, none, (.mv (.t s18))⟩
    (.one ⟨some s144, none, (.bin false .add (.t s143) (.c (.v (.int .i64 1))))⟩
    (.one ⟨some s18, none, (.mv (.t s144))⟩
    .done))))))))))))))))))
  (.seq (.seq (.reg (.one ⟨some s145, none, (.faddr 6 (.t s17))⟩
    (.one ⟨some s146, none, (.load none (.t s145))⟩
    (.one ⟨some s147, none, (.len false (.t s146))⟩
    (.one ⟨some s148, none, (.bin false .eql (.t s147) (.c (.v (.int .i64 0))))⟩
    .done)))))
  (.cond (.t s148) (.seq (.reg (.one ⟨some s149, none, (.load (some 7) (.t s13))⟩
    (.one ⟨none, none, (.store 7 (.t s10) (.t s149))⟩
    (.one ⟨some s11, none, (.mv (.c (.v (.int .i64 0))))⟩
    (.one ⟨some s12, none, (.mv (.c (.v (.int .i64 16))))⟩
    .done)))))
  .ret) .skip))
  (.seq (.seq (.reg (.one ⟨some s150, none, (.load (some 7) (.t s5))⟩
    (.one ⟨some s151, none, (.mv (.t s1))⟩
    (.one ⟨some s152, none, (.callq 35 [(.t s150), (.t s151)])⟩
    (.one ⟨some s153, none, (.not (.t s152))⟩
    (.one ⟨some s154, none, (.mv (.t s153))⟩
    (.one ⟨some s155, some (s154, false), (.mv (.t s1))⟩
    (.one ⟨some s156, some (s154, false), (.bin false .eql (.t s155) (.c (.v (.int .i64 0))))⟩
    (.one ⟨some s157, some (s154, false), (.mv (.t s156))⟩
    (.one ⟨some s158, some (s157, true), (.faddr 1 (.t s5))⟩
    (.one ⟨some s159, some (s157, true), (.load none (.t s158))⟩
    (.one ⟨some s160, some (s157, true), (.bin false .geq (.t s159) (.c (.v (.int .i64 2))))⟩
    (.one ⟨some s161, some (s154, false), (.pick (.t s157) (.t s160) (.c (.v (.bool false))))⟩
    (.one ⟨some s162, none, (.pick (.t s154) (.c (.v (.bool true))) (.t s161))⟩
    .done))))))))))))))
  (.cond (.t s162) (.reg (.one ⟨some s163, none, (.faddr 1 (.t s17))⟩
    (.one ⟨none, none, (.store 1 (.t s163) (.c (.v (.int .i64 2))))⟩
    .done))) .skip))
  (.seq (.seq (.reg (.one ⟨some s164, none, (.load (some 7) (.t s5))⟩
    (.one ⟨some s165, none, (.mv (.t s18))⟩
    (.one ⟨some s166, none, (.callq 35 [(.t s164), (.t s165)])⟩
    (.one ⟨some s167, none, (.not (.t s166))⟩
    (.one ⟨some s168, none, (.mv (.t s167))⟩
    (.one ⟨some s169, some (s168, false), (.mv (.t s18))⟩
    (.one ⟨some s170, some (s168, false), (.mv (.t s15))⟩
    (.one ⟨some s171, some (s168, false), (.len false (.t s170))⟩
    (.one ⟨some s172, some (s168, false), (.bin false .eql (.t s169) (.t s171))⟩
    (.one ⟨some s173, some (s168, false), (.mv (.t s172))⟩
    (.one ⟨some s174, some (s173, true), (.faddr 1 (.t s5))⟩
    (.one ⟨some s175, some (s173, true), (.load none (.t s174))⟩
    (.one ⟨some s176, some (s173, true), (.bin false .rem (.t s175) (.c (.v (.int .i64 2))))⟩
    (.one ⟨some s177, some (s173, true), (.bin false .eql (.t s176) (.c (.v (.int .i64 1))))⟩
    (.one ⟨some s178, some (s168, false), (.pick (.t s173) (.t s177) (.c (.v (.bool false))))⟩
    (.one ⟨some s179, none, (.pick (.t s168) (.c (.v (.bool true))) (.t s178))⟩
    .done)))))))))))))))))
  (.cond (.t s179) (.reg (.one ⟨some s180, none, (.faddr 1 (.t s17))⟩
    (.one ⟨some s181, none, (.load none (.t s180))⟩
    (.one ⟨some s182, none, (.bin false .add (.t s181) (.c (.v (.int .i64 1))))⟩
    (.one ⟨some s183, none, (.faddr 1 (.t s17))⟩
    (.one ⟨none, none, (.store 1 (.t s183) (.t s182))⟩
    .done)))))) .skip))
  (.seq (.reg (.one ⟨some s184, none, (.mv (.t s18))⟩
    (.one ⟨some s185, none, (.mv (.t s15))⟩
    (.one ⟨some s186, none, (.len false (.t s185))⟩
    (.one ⟨some s187, none, (.bin false .eql (.t s184) (.t s186))⟩
    (.one ⟨some s188, none, (.faddr 4 (.t s17))⟩
    (.one ⟨none, none, (.store 1 (.t s188) (.t s187))⟩
    .done)))))))
  (.seq (.reg (.one ⟨some s189, none, (.load (some 7) (.t s17))⟩
    (.one ⟨some s190, none, (.mv (.t s18))⟩
    (.one ⟨none, none, (.store 7 (.t s10) (.t s189))⟩
    (.one ⟨some s11, none, (.mv (.t s190))⟩
    (.one ⟨some s12, none, (.mv (.c (.v (.int .i64 0))))⟩
    .done))))))
  .ret))))))))))))))))))⟩
theorem ok11 : compF Try.prog c11 Try.f11 = some ir11 := by kernel_rfl
theorem k_bowlineref20_Cut {args : List AVal} {σ : AHeap} {Q : AVal → AHeap → Prop} (hl : Nat.ble args.length 191 = true) (h : argsK (Env.full 9) 0 args fun env => evC Try.prog c11 ir11.body env σ (retQ ir11 Q)) : ACalls Try.prog 11 args σ Q :=
  acalls_of Try.func11 ok11 rfl (Nat.le_of_ble_eq_true hl) h
/- bowlineref20.Cut -/
def c11m : Cfg := ⟨qs, [22], 191, [], ps⟩
def ir11m : IFun := ⟨5, [.cell s10 (some 7), .tmp s11, .tmp s12],
  (.seq (.reg (.one ⟨some s5, none, (.box 7 (.t s0))⟩
    (.one ⟨some s10, none, (.new [(.v (.bool false)), (.v (.int .i64 0)), (.v (.int .i64 0)), (.v (.bool false)), (.v (.bool false)), (.v (.int .i64 0)), (.slice 1 [] .full)])⟩
    (.one ⟨some s11, none, (.mv (.c (.v (.int .i64 0))))⟩
    (.one ⟨some s12, none, (.mv (.c (.v (.int .i64 0))))⟩
    .done)))))
  (.seq (.reg (.one ⟨some s24, none, (.build [(.v (.bool false)), (.v (.int .i64 0)), (.v (.int .i64 0)), (.v (.bool false)), (.v (.bool false)), (.v (.int .i64 0)), (.slice 1 [] .full)] [])⟩
    (.one ⟨some s13, none, (.new [(.v (.bool false)), (.v (.int .i64 0)), (.v (.int .i64 0)), (.v (.bool false)), (.v (.bool false)), (.v (.int .i64 0)), (.slice 1 [] .full)])⟩
    (.one ⟨none, none, (.store 7 (.t s13) (.t s24))⟩
    .done))))
  (.seq (.reg (.one ⟨some s25, none, (.load (some 7) (.t s5))⟩
    (.one ⟨some s26, none, (.mv (.t s4))⟩
    (.one ⟨some s27, none, (.callq 33 [(.t s25), (.t s26)])⟩
    (.one ⟨some s14, none, (.mv (.t s27))⟩
    .done)))))
  (.seq (.seq (.reg (.one ⟨some s28, none, (.faddr 3 (.t s5))⟩
    (.one ⟨some s29, none, (.load none (.t s28))⟩
    (.one ⟨some s30, none, (.mv (.t s29))⟩
    (.one ⟨some s31, some (s30, false), (.mv (.t s14))⟩
    (.one ⟨some s32, some (s30, false), (.bin false .eql (.t s31) (.c (.v (.int .i64 0))))⟩
    (.one ⟨some s33, none, (.pick (.t s30) (.c (.v (.bool true))) (.t s32))⟩
    .done)))))))
  (.cond (.t s33) (.seq (.reg (.one ⟨some s34, none, (.load (some 7) (.t s13))⟩
    (.one ⟨none, none, (.store 7 (.t s10) (.t s34))⟩
    (.one ⟨some s11, none, (.mv (.c (.v (.int .i64 0))))⟩
    (.one ⟨some s12, none, (.mv (.c (.v (.int .i64 3))))⟩
    .done)))))
  .ret) .skip))
  (.seq (.reg (.one ⟨some s35, none, (.load (some 7) (.t s5))⟩
    (.one ⟨some s36, none, (.callq 34 [(.t s35)])⟩
    (.one ⟨some s15, none, (.mv (.t s36))⟩
    .done))))
  (.seq (.seq (.reg (.one ⟨some s37, none, (.mv (.t s3))⟩
    (.one ⟨some s38, none, (.bin false .lss (.t s37) (.c (.v (.int .i64 0))))⟩
    (.one ⟨some s39, none, (.mv (.t s38))⟩
    (.one ⟨some s40, some (s39, false), (.mv (.t s3))⟩
    (.one ⟨some s41, some (s39, false), (.bin false .gtr (.t s40) (.c (.v (.int .i64 4096))))⟩
    (.one ⟨some s42, none, (.pick (.t s39) (.c (.v (.bool true))) (.t s41))⟩
    (.one ⟨some s43, none, (.mv (.t s42))⟩
    (.one ⟨some s44, some (s43, false), (.mv (.t s1))⟩
    (.one ⟨some s45, some (s43, false), (.bin false .lss (.t s44) (.c (.v (.int .i64 0))))⟩
    (.one ⟨some s46, none, (.pick (.t s43) (.c (.v (.bool true))) (.t s45))⟩
    (.one ⟨some s47, none, (.mv (.t s46))⟩
    (.one ⟨some s48, some (s47, false), (.mv (.t s1))⟩
    (.one ⟨some s49, some (s47, false), (.mv (.t s2))⟩
    (.one ⟨some s50, some (s47, false), (.bin false .geq (.t s48) (.t s49))⟩
    (.one ⟨some s51, none, (.pick (.t s47) (.c (.v (.bool true))) (.t s50))⟩
    (.one ⟨some s52, none, (.mv (.t s51))⟩
    (.one ⟨some s53, some (s52, false), (.mv (.t s2))⟩
    (.one ⟨some s54, some (s52, false), (.mv (.t s15))⟩
    (.one ⟨some s55, some (s52, false), (.len false (.t s54))⟩
    (.one ⟨some s56, some (s52, false), (.bin false .gtr (.t s53) (.t s55))⟩
    (.one ⟨some s57, none, (.pick (.t s52) (.c (.v (.bool true))) (.t s56))⟩
    .done))))))))))))))))))))))
  (.cond (.t s57) (.seq (.reg (.one ⟨some s58, none, (.load (some 7) (.t s13))⟩
    (.one ⟨none, none, (.store 7 (.t s10) (.t s58))⟩
    (.one ⟨some s11, none, (.mv (.c (.v (.int .i64 0))))⟩
    (.one ⟨some s12, none, (.mv (.c (.v (.int .i64 1))))⟩
    .done)))))
  .ret) .skip))
  (.seq (.seq (.reg (.one ⟨some s59, none, (.mv (.t s1))⟩
    (.one ⟨some s60, none, (.bin false .eql (.t s59) (.c (.v (.int .i64 0))))⟩
    (.one ⟨some s61, none, (.mv (.t s60))⟩
    (.one ⟨some s62, some (s61, true), (.mv (.t s2))⟩
    (.one ⟨some s63, some (s61, true), (.mv (.t s15))⟩
    (.one ⟨some s64, some (s61, true), (.len false (.t s63))⟩
    (.one ⟨some s65, some (s61, true), (.bin false .eql (.t s62) (.t s64))⟩
    (.one ⟨some s66, none, (.pick (.t s61) (.t s65) (.c (.v (.bool false))))⟩
    (.one ⟨some s67, none, (.mv (.t s66))⟩
    (.one ⟨some s68, some (s67, true), (.mv (.t s14))⟩
    (.one ⟨some s69, some (s67, true), (.mv (.t s3))⟩
    (.one ⟨some s70, some (s67, true), (.bin false .leq (.t s68) (.t s69))⟩
    (.one ⟨some s71, none, (.pick (.t s67) (.t s70) (.c (.v (.bool false))))⟩
    .done))))))))))))))
  (.cond (.t s71) (.seq (.reg (.one ⟨some s72, none, (.faddr 0 (.t s5))⟩
    (.one ⟨none, none, (.store 1 (.t s72) (.c (.v (.bool false))))⟩
    .done)))
  (.seq (.reg (.one ⟨some s73, none, (.load (some 7) (.t s5))⟩
    (.one ⟨some s74, none, (.mv (.t s2))⟩
    (.one ⟨none, none, (.store 7 (.t s10) (.t s73))⟩
    (.one ⟨some s11, none, (.mv (.t s74))⟩
    (.one ⟨some s12, none, (.mv (.c (.v (.int .i64 0))))⟩
    .done))))))
  .ret)) .skip))
  (.seq (.seq (.reg (.one ⟨some s75, none, (.mv (.t s3))⟩
    (.one ⟨some s76, none, (.bin false .gtr (.t s75) (.c (.v (.int .i64 4000))))⟩
    .done)))
  (.cond (.t s76) (.reg (.one ⟨some s3, none, (.mv (.c (.v (.int .i64 4000))))⟩
    .done)) .skip))
  (.seq (.reg (.one ⟨some s16, none, (.mv (.c (.v (.int .i64 15))))⟩
    .done))
  (.seq (.seq (.reg (.one ⟨some s77, none, (.mv (.t s4))⟩
    (.one ⟨some s78, none, (.bin false .eql (.t s77) (.c (.v (.int .i64 10))))⟩
    .done)))
  (.cond (.t s78) (.reg (.one ⟨some s16, none, (.mv (.c (.v (.int .i64 11))))⟩
    .done)) .skip))
  (.seq (.reg (.one ⟨some s79, none, (.faddr 2 (.t s5))⟩
    (.one ⟨some s80, none, (.load none (.t s79))⟩
    (.one ⟨some s81, none, (.mv (.t s1))⟩
    (.one ⟨some s82, none, (.build [(.v (.bool false)), (.v (.int .i64 0)), (.v (.int .i64 0)), (.v (.bool false)), (.v (.bool false)), (.v (.int .i64 0)), (.slice 1 [] .full)] [(2, 1, (.t s80)), (3, 1, (.c (.v (.bool true)))), (5, 1, (.t s81))])⟩
    (.one ⟨some s17, none, (.new [(.v (.bool false)), (.v (.int .i64 0)), (.v (.int .i64 0)), (.v (.bool false)), (.v (.bool false)), (.v (.int .i64 0)), (.slice 1 [] .full)])⟩
    (.one ⟨none, none, (.store 7 (.t s17) (.t s82))⟩
    .done)))))))
  (.seq (.reg (.one ⟨some s83, none, (.mv (.t s1))⟩
    (.one ⟨some s18, none, (.mv (.t s83))⟩
    .done)))
  (.seq (.block 0 (.loop (.seq (.seq (.reg (.one ⟨some s84, none, (.mv (.t s18))⟩
    (.one ⟨some s85, none, (.mv (.t s2))⟩
    (.one ⟨some s86, none, (.bin false .lss (.t s84) (.t s85))⟩
    .done))))
  (.cond (.t s86) .skip (.exit 0)))
  (.block 1 (.seq (.reg (.one ⟨some s87, none, (.faddr 6 (.t s17))⟩
    (.one ⟨some s88, none, (.load none (.t s87))⟩
    (.one ⟨some s89, none, (.len false (.t s88))⟩
    (.one ⟨some s19, none, (.mv (.t s89))⟩
    .done)))))
  (.seq (.reg (.one ⟨some s90, none, (.mv (.t s19))⟩
    (.one ⟨some s91, none, (.bin false .eql (.t s90) (.c (.v (.int .i64 0))))⟩
    (.one ⟨some s92, none, (.mv (.t s91))⟩
    (.one ⟨some s93, some (s92, false), (.load (some 7) (.t s5))⟩
    (.one ⟨some s94, some (s92, false), (.mv (.t s18))⟩
    (.one ⟨some s95, some (s92, false), (.callq 35 [(.t s93), (.t s94)])⟩
    (.one ⟨some s96, none, (.pick (.t s92) (.c (.v (.bool true))) (.t s95))⟩
    (.one ⟨some s20, none, (.mv (.t s96))⟩
    .done)))))))))
  (.seq (.seq (.reg (.one ⟨some s97, none, (.mv (.t s20))⟩
    (.one ⟨some s98, none, (.not (.t s97))⟩
    .done)))
  (.cond (.t s98) (.reg (.one ⟨some s99, none, (.mv (.t s19))⟩
    (.one ⟨some s100, none, (.bin false .sub (.t s99) (.c (.v (.int .i64 1))))⟩
    (.one ⟨some s19, none, (.mv (.t s100))⟩
    .done)))) .skip))
  (.seq (.reg (.one ⟨some s101, none, (.mv (.t s3))⟩
    (.one ⟨some s102, none, (.mv (.t s4))⟩
    (.one ⟨some s103, none, (.callq 13 [(.c (.v (.bool true))), (.t s102)])⟩
    (.one ⟨some s104, none, (.bin false .sub (.t s101) (.t s103))⟩
    (.one ⟨some s105, none, (.mv (.t s18))⟩
    (.one ⟨some s106, none, (.mv (.t s1))⟩
    (.one ⟨some s107, none, (.bin false .sub (.t s105) (.t s106))⟩
    (.one ⟨some s108, none, (.bin false .sub (.t s104) (.t s107))⟩
    (.one ⟨some s109, none, (.mv (.t s19))⟩
    (.one ⟨some s110, none, (.mv (.t s16))⟩
    (.one ⟨some s111, none, (.callq 36 [(.t s109), (.t s110)])⟩
    (.one ⟨some s112, none, (.bin false .sub (.t s108) (.t s111))⟩
    (.one ⟨some s21, none, (.mv (.t s112))⟩
    .done))))))))))))))
  (.seq (.seq (.reg (.one ⟨some s113, none, (.mv (.t s21))⟩
    (.one ⟨some s114, none, (.bin false .lss (.t s113) (.c (.v (.int .i64 1))))⟩
    .done)))
  (.cond (.t s114) (.exit 0) .skip))
  (.seq (.seq (.reg (.one ⟨some s115, none, (.mv (.t s20))⟩
    .done))
  (.cond (.t s115) (.reg (.one ⟨some s116, none, (.faddr 6 (.t s17))⟩
    (.one ⟨some s117, none, (.load none (.t s116))⟩
    (.one ⟨some s118, none, (.row 1 [(.c (.slice 1 [] .full))])⟩
    (.one ⟨some s119, none, (.appm 1 24 (.t s117) (.t s118))⟩
    (.one ⟨some s120, none, (.faddr 6 (.t s17))⟩
    (.one ⟨none, none, (.store 1 (.t s120) (.t s119))⟩
    .done))))))) .skip))
  (.seq (.reg (.one ⟨some s121, none, (.faddr 6 (.t s17))⟩
    (.one ⟨some s122, none, (.load none (.t s121))⟩
    (.one ⟨some s123, none, (.len false (.t s122))⟩
    (.one ⟨some s124, none, (.bin false .sub (.t s123) (.c (.v (.int .i64 1))))⟩
    (.one ⟨some s22, none, (.mv (.t s124))⟩
    .done))))))
  (.seq (.reg (.one ⟨some s23, none, (.mv (.c (.slice 1 [] .full)))⟩
    .done))
  (.seq (.reg (.one ⟨some s125, none, (.mv (.t s23))⟩
    (.one ⟨some s126, none, (.faddr 6 (.t s17))⟩
    (.one ⟨some s127, none, (.load none (.t s126))⟩
    (.one ⟨some s128, none, (.mv (.t s22))⟩
    (.one ⟨some s129, none, (.iaddr 1 (.t s127) (.t s128))⟩
    (.one ⟨some s130, none, (.load none (.t s129))⟩
    (.one ⟨some s131, none, (.app 1 1 (.t s125) (.t s130))⟩
    (.one ⟨some s23, none, (.mv (.t s131))⟩
    .done)))))))))
  (.seq (.reg (.one ⟨some s132, none, (.faddr 6 (.t s17))⟩
    (.one ⟨some s133, none, (.load none (.t s132))⟩
    (.one ⟨some s134, none, (.mv (.t s22))⟩
    (.one ⟨some s135, none, (.mv (.t s23))⟩
    (.one ⟨some s136, none, (.mv (.t s15))⟩
    (.one ⟨some s137, none, (.mv (.t s18))⟩
    (.one ⟨some s138, none, (.iaddr 1 (.t s136) (.t s137))⟩
    (.one ⟨some s139, none, (.load none (.t s138))⟩
    (.one ⟨some s140, none, (.row 1 [(.t s139)])⟩
    (.one ⟨some s141, none, (.app 1 1 (.t s135) (.t s140))⟩
    (.one ⟨some s142, none, (.iaddr 1 (.t s133) (.t s134))⟩
    (.one ⟨none, none, (.store 1 (.t s142) (.t s141))⟩
    .done)))))))))))))
  (.reg (.one ⟨some s143, none, (.mv (.t s18))⟩
    (.one ⟨some s144, none, (.bin false .add (.t s143) (.c (.v (.int .i64 1))))⟩
    (.one ⟨some s18, none, (.mv (.t s144))⟩
    .done))))))))))))))))))
  (.seq (.seq (.reg (.one ⟨some s145, none, (.faddr 6 (.t s17))⟩
    (.one ⟨some s146, none, (.load none (.t s145))⟩
    (.one ⟨some s147, none, (.len false (.t s146))⟩
    (.one ⟨some s148, none, (.bin false .eql (.t s147) (.c (.v (.int .i64 0))))⟩
    .done)))))
  (.cond (.t s148) (.seq (.reg (.one ⟨some s149, none, (.load (some 7) (.t s13))⟩
    (.one ⟨none, none, (.store 7 (.t s10) (.t s149))⟩
    (.one ⟨some s11, none, (.mv (.c (.v (.int .i64 0))))⟩
    (.one ⟨some s12, none, (.mv (.c (.v (.int .i64 16))))⟩
    .done)))))
  .ret) .skip))
  (.seq (.seq (.reg (.one ⟨some s150, none, (.load (some 7) (.t s5))⟩
    (.one ⟨some s151, none, (.mv (.t s1))⟩
    (.one ⟨some s152, none, (.callq 35 [(.t s150), (.t s151)])⟩
    (.one ⟨some s153, none, (.not (.t s152))⟩
    (.one ⟨some s154, none, (.mv (.t s153))⟩
    (.one ⟨some s155, some (s154, false), (.mv (.t s1))⟩
    (.one ⟨some s156, some (s154, false), (.bin false .eql (.t s155) (.c (.v (.int .i64 0))))⟩
    (.one ⟨some s157, some (s154, false), (.mv (.t s156))⟩
    (.one ⟨some s158, some (s157, true), (.faddr 1 (.t s5))⟩
    (.one ⟨some s159, some (s157, true), (.load none (.t s158))⟩
    (.one ⟨some s160, some (s157, true), (.bin false .geq (.t s159) (.c (.v (.int .i64 2))))⟩
    (.one ⟨some s161, some (s154, false), (.pick (.t s157) (.t s160) (.c (.v (.bool false))))⟩
    (.one ⟨some s162, none, (.pick (.t s154) (.c (.v (.bool true))) (.t s161))⟩
    .done))))))))))))))
  (.cond (.t s162) (.reg (.one ⟨some s163, none, (.faddr 1 (.t s17))⟩
    (.one ⟨none, none, (.store 1 (.t s163) (.c (.v (.int .i64 2))))⟩
    .done))) .skip))
  (.seq (.seq (.reg (.one ⟨some s164, none, (.load (some 7) (.t s5))⟩
    (.one ⟨some s165, none, (.mv (.t s18))⟩
    (.one ⟨some s166, none, (.callq 35 [(.t s164), (.t s165)])⟩
    (.one ⟨some s167, none, (.not (.t s166))⟩
    (.one ⟨some s168, none, (.mv (.t s167))⟩
    (.one ⟨some s169, some (s168, false), (.mv (.t s18))⟩
    (.one ⟨some s170, some (s168, false), (.mv (.t s15))⟩
    (.one ⟨some s171, some (s168, false), (.len false (.t s170))⟩
    (.one ⟨some s172, some (s168, false), (.bin false .eql (.t s169) (.t s171))⟩
    (.one ⟨some s173, some (s168, false), (.mv (.t s172))⟩
    (.one ⟨some s174, some (s173, true), (.faddr 1 (.t s5))⟩
    (.one ⟨some s175, some (s173, true), (.load none (.t s174))⟩
    (.one ⟨some s176, some (s173, true), (.bin false .rem (.t s175) (.c (.v (.int .i64 2))))⟩
    (.one ⟨some s177, some (s173, true), (.bin false .eql (.t s176) (.c (.v (.int .i64 1))))⟩
    (.one ⟨some s178, some (s168, false), (.pick (.t s173) (.t s177) (.c (.v (.bool false))))⟩
    (.one ⟨some s179, none, (.pick (.t s168) (.c (.v (.bool true))) (.t s178))⟩
    .done)))))))))))))))))
  (.cond (.t s179) (.reg (.one ⟨some s180, none, (.faddr 1 (.t s17))⟩
    (.one ⟨some s181, none, (.load none (.t s180))⟩
    (.one ⟨some s182, none, (.bin false .add (.t s181) (.c (.v (.int .i64 1))))⟩
    (.one ⟨some s183, none, (.faddr 1 (.t s17))⟩
    (.one ⟨none, none, (.store 1 (.t s183) (.t s182))⟩
    .done)))))) .skip))
  (.seq (.reg (.one ⟨some s184, none, (.mv (.t s18))⟩
    (.one ⟨some s185, none, (.mv (.t s15))⟩
    (.one ⟨some s186, none, (.len false (.t s185))⟩
    (.one ⟨some s187, none, (.bin false .eql (.t s184) (.t s186))⟩
    (.one ⟨some s188, none, (.faddr 4 (.t s17))⟩
    (.one ⟨none, none, (.store 1 (.t s188) (.t s187))⟩
    .done)))))))
  (.seq (.reg (.one ⟨some s189, none, (.load (some 7) (.t s17))⟩
    (.one ⟨some s190, none, (.mv (.t s18))⟩
    (.one ⟨none, none, (.store 7 (.t s10) (.t s189))⟩
    (.one ⟨some s11, none, (.mv (.t s190))⟩
    (.one ⟨some s12, none, (.mv (.c (.v (.int .i64 0))))⟩
    .done))))))
  .ret))))))))))))))))))⟩
theorem ok11m : compF Try.prog c11m Try.f11 = some ir11m := by kernel_rfl
theorem km_bowlineref20_Cut {args : List AVal} {σ : AHeap} {Q : AVal → AHeap → Prop} (hl : Nat.ble args.length 191 = true) (h : argsK (Env.full 9) 0 args fun env => evC Try.prog c11m ir11m.body env σ (retQ ir11m Q)) : ACalls Try.prog 11 args σ Q :=
  acalls_of Try.func11 ok11m rfl (Nat.le_of_ble_eq_true hl) h
/- bowlineref20.Edge -/
def c35 : Cfg := ⟨qs, [], 28, [], ps⟩
def ir35 : IFun := ⟨2, [.tmp s4],
  (.seq (.reg (.one ⟨some s2, none, (.box 7 (.t s0))⟩
    (.one ⟨some s4, none, (.mv (.c (.v (.bool false))))⟩
    .done)))
  (.seq (.reg (.one ⟨some s5, none, (.mv (.c (.v (.int .i64 0))))⟩
    .done))
  (.seq (.seq (.reg (.one ⟨some s6, none, (.mv (.c (.v (.int .i64 0))))⟩
    .done))
  (.block 0 (.loop (.seq (.seq (.reg (.one ⟨some s7, none, (.mv (.t s6))⟩
    (.one ⟨some s8, none, (.faddr 6 (.t s2))⟩
    (.one ⟨some s9, none, (.load none (.t s8))⟩
    (.one ⟨some s10, none, (.len false (.t s9))⟩
    (.one ⟨some s11, none, (.bin false .lss (.t s7) (.t s10))⟩
    .done))))))
  (.cond (.t s11) .skip (.exit 0)))
  (.seq (.block 1 (.seq (.seq (.reg (.one ⟨some s14, none, (.mv (.t s5))⟩
    (.one ⟨some s15, none, (.mv (.t s1))⟩
    (.one ⟨some s16, none, (.bin false .eql (.t s14) (.t s15))⟩
    .done))))
  (.cond (.t s16) (.seq (.reg (.one ⟨some s4, none, (.mv (.c (.v (.bool true))))⟩
    .done))
  .ret) .skip))
  (.reg (.one ⟨some s17, none, (.mv (.t s5))⟩
    (.one ⟨some s18, none, (.faddr 6 (.t s2))⟩
    (.one ⟨some s19, none, (.load none (.t s18))⟩
    (.one ⟨some s20, none, (.mv (.t s6))⟩
    (.one ⟨some s21, none, (.iaddr 1 (.t s19) (.t s20))⟩
    (.one ⟨some s22, none, (.load none (.t s21))⟩
    (.one ⟨some s23, none, (.len false (.t s22))⟩
    (.one ⟨some s24, none, (.bin false .add (.t s17) (.t s23))⟩
    (.one ⟨some s5, none, (.mv (.t s24))⟩
    .done))))))))))))
  (.reg (.one ⟨some s12, none, (.mv (.t s6))⟩
    (.one ⟨some s13, none, (.bin false .add (.t s12) (.c (.v (.int .i64 1))))⟩
    (.one ⟨some s6, none, (.mv (.t s13))⟩
    .done)))))))))
  (.seq (.reg (.one ⟨some s25, none, (.mv (.t s5))⟩
    (.one ⟨some s26, none, (.mv (.t s1))⟩
    (.one ⟨some s27, none, (.bin false .eql (.t s25) (.t s26))⟩
    (.one ⟨some s4, none, (.mv (.t s27))⟩
    .done)))))
  .ret))))⟩
theorem ok35 : compF Try.prog c35 Try.f35 = some ir35 := by kernel_rfl
theorem k_bowlineref20_Edge {args : List AVal} {σ : AHeap} {Q : AVal → AHeap → Prop} (hl : Nat.ble args.length 28 = true) (h : argsK (Env.full 9) 0 args fun env => evC Try.prog c35 ir35.body env σ (retQ ir35 Q)) : ACalls Try.prog 35 args σ Q :=
  acalls_of Try.func35 ok35 rfl (Nat.le_of_ble_eq_true hl) h
end Go.Proofs.Ytgipkpghabelkaa
