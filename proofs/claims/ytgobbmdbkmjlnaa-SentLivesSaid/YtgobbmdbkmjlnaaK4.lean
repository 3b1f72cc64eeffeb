/-
  Texts of this claim, pack 4: Irlaw19, Irlaw09.
-/
import Derived.Test.YtgobbmdbkmjlnaaK2
/-
  The bodies of one package, compiled to the framework's language (printed by a program of this session).
-/
namespace Go.Proofs.Ytgobbmdbkmjlnaa
set_option linter.unusedVariables false
set_option linter.unusedSimpArgs false
open Go Go.Am
/- bowlinelaw19.SentLives -/
def c7 : Cfg := ⟨qs, [], 212, [], ps⟩
def ir7 : IFun := ⟨2, [.tmp s4],
  (.seq (.reg (.one ⟨some s4, none, (.mv (.c (.v (.bool false))))⟩
    .done))
  (.seq (.reg (.one ⟨some s22, none, (.mv (.t s0))⟩
    (.one ⟨some s23, none, (.callq 30 [(.t s22)])⟩
    (.one ⟨some s21, none, (.mv (.t s23))⟩
    (.one ⟨some s24, none, (.ext (.t s21) 0)⟩
    (.one ⟨some s25, none, (.ext (.t s21) 1)⟩
    (.one ⟨some s5, none, (.mv (.t s24))⟩
    (.one ⟨some s6, none, (.mv (.t s25))⟩
    .done))))))))
  (.seq (.seq (.reg (.one ⟨some s26, none, (.mv (.t s0))⟩
    (.one ⟨some s27, none, (.bin false .neq (.t s26) (.c (.v (.int .i64 10))))⟩
    (.one ⟨some s28, none, (.mv (.t s27))⟩
    (.one ⟨some s29, some (s28, true), (.mv (.t s0))⟩
    (.one ⟨some s30, some (s28, true), (.bin false .neq (.t s29) (.c (.v (.int .i64 16))))⟩
    (.one ⟨some s31, none, (.pick (.t s28) (.t s30) (.c (.v (.bool false))))⟩
    .done)))))))
  (.cond (.t s31) (.seq (.reg (.one ⟨some s32, none, (.callq 32 [])⟩
    (.one ⟨some s33, none, (.mv (.t s32))⟩
    (.one ⟨some s34, some (s33, true), (.mv (.t s5))⟩
    (.one ⟨some s35, some (s33, true), (.eqNil 1 false (.t s34))⟩
    (.one ⟨some s36, none, (.pick (.t s33) (.t s35) (.c (.v (.bool false))))⟩
    (.one ⟨some s37, none, (.mv (.t s36))⟩
    (.one ⟨some s38, some (s37, true), (.mv (.t s6))⟩
    (.one ⟨some s39, some (s37, true), (.bin false .eql (.t s38) (.c (.v (.int .i64 9))))⟩
    (.one ⟨some s40, none, (.pick (.t s37) (.t s39) (.c (.v (.bool false))))⟩
    (.one ⟨some s4, none, (.mv (.t s40))⟩
    .done)))))))))))
  .ret) .skip))
  (.seq (.seq (.reg (.one ⟨some s41, none, (.mv (.t s6))⟩
    (.one ⟨some s42, none, (.bin false .neq (.t s41) (.c (.v (.int .i64 0))))⟩
    (.one ⟨some s43, none, (.mv (.t s42))⟩
    (.one ⟨some s44, some (s43, false), (.mv (.t s5))⟩
    (.one ⟨some s45, some (s43, false), (.eqNil 1 false (.t s44))⟩
    (.one ⟨some s46, none, (.pick (.t s43) (.c (.v (.bool true))) (.t s45))⟩
    .done)))))))
  (.cond (.t s46) (.seq (.reg (.one ⟨some s4, none, (.mv (.c (.v (.bool false))))⟩
    .done))
  .ret) .skip))
  (.seq (.reg (.one ⟨some s47, none, (.mv (.t s0))⟩
    (.one ⟨some s48, none, (.build [(.v (.int .i64 0)), (.slice 9 [] .full)] [(0, 1, (.t s47))])⟩
    (.one ⟨some s49, none, (.box 2 (.t s48))⟩
    (.one ⟨some s7, none, (.mv (.t s49))⟩
    .done)))))
  (.seq (.seq (.reg (.one ⟨some s8, none, (.mv (.c (.v (.int .i64 0))))⟩
    .done))
  (.block 0 (.loop (.seq (.seq (.reg (.one ⟨some s50, none, (.mv (.t s8))⟩
    (.one ⟨some s51, none, (.mv (.t s1))⟩
    (.one ⟨some s52, none, (.len false (.t s51))⟩
    (.one ⟨some s53, none, (.bin false .lss (.t s50) (.t s52))⟩
    (.one ⟨some s54, none, (.mv (.t s53))⟩
    (.one ⟨some s55, some (s54, true), (.mv (.t s8))⟩
    (.one ⟨some s56, some (s54, true), (.bin false .lss (.t s55) (.c (.v (.int .i64 60))))⟩
    (.one ⟨some s57, none, (.pick (.t s54) (.t s56) (.c (.v (.bool false))))⟩
    .done)))))))))
  (.cond (.t s57) .skip (.exit 0)))
  (.seq (.block 1 (.seq (.reg (.one ⟨some s60, none, (.mv (.t s1))⟩
    (.one ⟨some s61, none, (.mv (.t s8))⟩
    (.one ⟨some s62, none, (.iaddr 11 (.t s60) (.t s61))⟩
    (.one ⟨some s63, none, (.load (some 11) (.t s62))⟩
    (.one ⟨some s9, none, (.new [(.v (.int .i64 0)), (.v (.int .i64 0)), (.v (.int .i64 0)), (.v (.int .i64 0)), (.v (.bool false)), (.v (.int .i64 0)), (.v (.int .i64 0)), (.v (.bool false)), (.v (.bool false)), (.v (.int .i64 0)), (.slice 1 [] .full)])⟩
    (.one ⟨none, none, (.store 11 (.t s9) (.t s63))⟩
    .done)))))))
  (.seq (.seq (.reg (.one ⟨some s64, none, (.faddr 4 (.t s9))⟩
    (.one ⟨some s65, none, (.faddr 6 (.t s64))⟩
    (.one ⟨some s66, none, (.load none (.t s65))⟩
    (.one ⟨some s67, none, (.callq 10 [(.t s66)])⟩
    .done)))))
  (.cond (.t s67) (.seq (.reg (.one ⟨some s68, none, (.callq 32 [])⟩
    (.one ⟨some s4, none, (.mv (.t s68))⟩
    .done)))
  .ret) .skip))
  (.seq (.reg (.one ⟨some s10, none, (.mv (.c (.v (.bool true))))⟩
    .done))
  (.seq (.seq (.reg (.one ⟨some s69, none, (.faddr 0 (.t s9))⟩
    (.one ⟨some s70, none, (.load none (.t s69))⟩
    .done)))
  (.block 2 (.seq (.reg (.one ⟨some s72, none, (.bin false .eql (.t s70) (.c (.v (.int .i64 0))))⟩
    (.one ⟨some s71, none, (.mv (.t s72))⟩
    .done)))
  (.cond (.t s71) (.reg (.one ⟨some s73, none, (.mv (.t s5))⟩
    (.one ⟨some s74, none, (.faddr 4 (.t s9))⟩
    (.one ⟨some s75, none, (.load (some 7) (.t s74))⟩
    (.one ⟨some s77, none, (.mv (.t s7))⟩
    (.one ⟨some s78, none, (.faddr 4 (.t s9))⟩
    (.both (.one ⟨some s76, none, (.call 31 [(.t s73), (.t s75)])⟩
    (.one ⟨some s79, none, (.load (some 7) (.t s78))⟩
    (.one ⟨some s80, none, (.callq 18 [(.t s79)])⟩
    (.one ⟨some s81, none, (.call 42 [(.t s77), (.t s80)])⟩
    (.one ⟨some s82, none, (.bin false .eql (.t s76) (.t s81))⟩
    (.one ⟨some s10, none, (.mv (.t s82))⟩
    .done)))))) (.one ⟨some s79, none, (.load (some 7) (.t s78))⟩
    (.one ⟨some s76, none, (.call 31 [(.t s73), (.t s75)])⟩
    (.one ⟨some s80, none, (.callq 18 [(.t s79)])⟩
    (.one ⟨some s81, none, (.call 42 [(.t s77), (.t s80)])⟩
    (.one ⟨some s82, none, (.bin false .eql (.t s76) (.t s81))⟩
    (.one ⟨some s10, none, (.mv (.t s82))⟩
    .done))))))))))))) (.seq (.reg (.one ⟨some s84, none, (.bin false .eql (.t s70) (.c (.v (.int .i64 1))))⟩
    (.one ⟨some s83, none, (.mv (.t s84))⟩
    .done)))
  (.cond (.t s83) (.seq (.reg (.one ⟨some s86, none, (.mv (.t s5))⟩
    (.one ⟨some s87, none, (.faddr 1 (.t s9))⟩
    (.one ⟨some s88, none, (.load none (.t s87))⟩
    (.one ⟨some s89, none, (.faddr 2 (.t s9))⟩
    (.one ⟨some s90, none, (.load none (.t s89))⟩
    (.one ⟨some s91, none, (.faddr 3 (.t s9))⟩
    (.one ⟨some s92, none, (.load none (.t s91))⟩
    (.one ⟨some s93, none, (.call 34 [(.t s86), (.t s88), (.t s90), (.t s92)])⟩
    (.one ⟨some s85, none, (.mv (.t s93))⟩
    (.one ⟨some s94, none, (.ext (.t s85) 0)⟩
    (.one ⟨some s95, none, (.ext (.t s85) 1)⟩
    (.one ⟨some s11, none, (.mv (.t s94))⟩
    (.one ⟨some s12, none, (.mv (.t s95))⟩
    .done))))))))))))))
  (.seq (.reg (.one ⟨some s97, none, (.mv (.t s7))⟩
    (.one ⟨some s98, none, (.faddr 1 (.t s9))⟩
    (.one ⟨some s99, none, (.load none (.t s98))⟩
    (.one ⟨some s100, none, (.faddr 2 (.t s9))⟩
    (.one ⟨some s101, none, (.load none (.t s100))⟩
    (.one ⟨some s102, none, (.faddr 3 (.t s9))⟩
    (.one ⟨some s103, none, (.load none (.t s102))⟩
    (.one ⟨some s104, none, (.call 43 [(.t s97), (.t s99), (.t s101), (.t s103)])⟩
    (.one ⟨some s96, none, (.mv (.t s104))⟩
    (.one ⟨some s105, none, (.ext (.t s96) 0)⟩
    (.one ⟨some s106, none, (.ext (.t s96) 1)⟩
    (.one ⟨some s13, none, (.mv (.t s105))⟩
    (.one ⟨some s14, none, (.mv (.t s106))⟩
    .done))))))))))))))
  (.reg (.one ⟨some s107, none, (.mv (.t s11))⟩
    (.one ⟨some s108, none, (.mv (.t s13))⟩
    (.one ⟨some s109, none, (.bin false .eql (.t s107) (.t s108))⟩
    (.one ⟨some s110, none, (.mv (.t s109))⟩
    (.one ⟨some s111, some (s110, true), (.mv (.t s12))⟩
    (.one ⟨some s112, some (s110, true), (.mv (.t s14))⟩
    (.one ⟨some s113, some (s110, true), (.bin false .eql (.t s111) (.t s112))⟩
    (.one ⟨some s114, none, (.pick (.t s110) (.t s113) (.c (.v (.bool false))))⟩
    (.one ⟨some s10, none, (.mv (.t s114))⟩
    .done)))))))))))) (.seq (.reg (.one ⟨some s116, none, (.bin false .eql (.t s70) (.c (.v (.int .i64 2))))⟩
    (.one ⟨some s115, none, (.mv (.t s116))⟩
    .done)))
  (.cond (.t s115) (.reg (.one ⟨some s117, none, (.mv (.t s5))⟩
    (.one ⟨some s118, none, (.faddr 1 (.t s9))⟩
    (.one ⟨some s119, none, (.load none (.t s118))⟩
    (.one ⟨some s120, none, (.faddr 2 (.t s9))⟩
    (.one ⟨some s121, none, (.load none (.t s120))⟩
    (.one ⟨some s122, none, (.faddr 3 (.t s9))⟩
    (.one ⟨some s123, none, (.load none (.t s122))⟩
    (.one ⟨some s125, none, (.mv (.t s7))⟩
    (.one ⟨some s126, none, (.faddr 1 (.t s9))⟩
    (.one ⟨some s128, none, (.faddr 2 (.t s9))⟩
    (.one ⟨some s130, none, (.faddr 3 (.t s9))⟩
    (.both (.one ⟨some s124, none, (.call 38 [(.t s117), (.t s119), (.t s121), (.t s123)])⟩
    (.one ⟨some s127, none, (.load none (.t s126))⟩
    (.one ⟨some s129, none, (.load none (.t s128))⟩
    (.one ⟨some s131, none, (.load none (.t s130))⟩
    (.one ⟨some s132, none, (.call 44 [(.t s125), (.t s127), (.t s129), (.t s131)])⟩
    (.one ⟨some s133, none, (.bin false .eql (.t s124) (.t s132))⟩
    (.one ⟨some s10, none, (.mv (.t s133))⟩
    .done))))))) (.both (.one ⟨some s127, none, (.load none (.t s126))⟩
    (.both (.one ⟨some s124, none, (.call 38 [(.t s117), (.t s119), (.t s121), (.t s123)])⟩
    (.one ⟨some s129, none, (.load none (.t s128))⟩
    (.one ⟨some s131, none, (.load none (.t s130))⟩
    (.one ⟨some s132, none, (.call 44 [(.t s125), (.t s127), (.t s129), (.t s131)])⟩
    (.one ⟨some s133, none, (.bin false .eql (.t s124) (.t s132))⟩
    (.one ⟨some s10, none, (.mv (.t s133))⟩
    .done)))))) (.both (.one ⟨some s129, none, (.load none (.t s128))⟩
    (.both (.one ⟨some s124, none, (.call 38 [(.t s117), (.t s119), (.t s121), (.t s123)])⟩
    (.one ⟨some s131, none, (.load none (.t s130))⟩
    (.one ⟨some s132, none, (.call 44 [(.t s125), (.t s127), (.t s129), (.t s131)])⟩
    (.one ⟨some s133, none, (.bin false .eql (.t s124) (.t s132))⟩
    (.one ⟨some s10, none, (.mv (.t s133))⟩
    .done))))) (.one ⟨some s131, none, (.load none (.t s130))⟩
    (.one ⟨some s124, none, (.call 38 [(.t s117), (.t s119), (.t s121), (.t s123)])⟩
    (.one ⟨some s132, none, (.call 44 [(.t s125), (.t s127), (.t s129), (.t s131)])⟩
    (.one ⟨some s133, none, (.bin false .eql (.t s124) (.t s132))⟩
    (.one ⟨some s10, none, (.mv (.t s133))⟩
    .done))))))) (.one ⟨some s131, none, (.load none (.t s130))⟩
    (.both (.one ⟨some s124, none, (.call 38 [(.t s117), (.t s119), (.t s121), (.t s123)])⟩
    (.one ⟨some s129, none, (.load none (.t s128))⟩
    (.one ⟨some s132, none, (.call 44 [(.t s125), (.t s127), (.t s129), (.t s131)])⟩
    (.one ⟨some s133, none, (.bin false .eql (.t s124) (.t s132))⟩
    (.one ⟨some s10, none, (.mv (.t s133))⟩
    .done))))) (.one ⟨some s129, none, (.load none (.t s128))⟩
    (.one ⟨some s124, none, (.call 38 [(.t s117), (.t s119), (.t s121), (.t s123)])⟩
    (.one ⟨some s132, none, (.call 44 [(.t s125), (.t s127), (.t s129), (.t s131)])⟩
    (.one ⟨some s133, none, (.bin false .eql (.t s124) (.t s132))⟩
    (.one ⟨some s10, none, (.mv (.t s133))⟩
    .done)))))))))) (.both (.one ⟨some s129, none, (.load none (.t s128))⟩
    (.both (.one ⟨some s124, none, (.call 38 [(.t s117), (.t s119), (.t s121), (.t s123)])⟩
    (.one ⟨some s127, none, (.load none (.t s126))⟩
    (.one ⟨some s131, none, (.load none (.t s130))⟩
    (.one ⟨some s132, none, (.call 44 [(.t s125), (.t s127), (.t s129), (.t s131)])⟩
    (.one ⟨some s133, none, (.bin false .eql (.t s124) (.t s132))⟩
    (.one ⟨some s10, none, (.mv (.t s133))⟩
    .done)))))) (.both (.one ⟨some s127, none, (.load none (.t s126))⟩
    (.both (.one ⟨some s124, none, (.call 38 [(.t s117), (.t s119), (.t s121), (.t s123)])⟩
    (.one ⟨some s131, none, (.load none (.t s130))⟩
    (.one ⟨some s132, none, (.call 44 [(.t s125), (.t s127), (.t s129), (.t s131)])⟩
    (.one ⟨some s133, none, (.bin false .eql (.t s124) (.t s132))⟩
    (.one ⟨some s10, none, (.mv (.t s133))⟩
    .done))))) (.one ⟨some s131, none, (.load none (.t s130))⟩
    (.one ⟨some s124, none, (.call 38 [(.t s117), (.t s119), (.t s121), (.t s123)])⟩
    (.one ⟨some s132, none, (.call 44 [(.t s125), (.t s127), (.t s129), (.t s131)])⟩
    (.one ⟨some s133, none, (.bin false .eql (.t s124) (.t s132))⟩
    (.one ⟨some s10, none, (.mv (.t s133))⟩
    .done))))))) (.one ⟨some s131, none, (.load none (.t s130))⟩
    (.both (.one ⟨some s124, none, (.call 38 [(.t s117), (.t s119), (.t s121), (.t s123)])⟩
    (.one ⟨some s127, none, (.load none (.t s126))⟩
    (.one ⟨some s132, none, (.call 44 [(.t s125), (.t s127), (.t s129), (.t s131)])⟩
    (.one ⟨some s133, none, (.bin false .eql (.t s124) (.t s132))⟩
    (.one ⟨some s10, none, (.mv (.t s133))⟩
    .done))))) (.one ⟨some s127, none, (.load none (.t s126))⟩
    (.one ⟨some s124, none, (.call 38 [(.t s117), (.t s119), (.t s121), (.t s123)])⟩
    (.one ⟨some s132, none, (.call 44 [(.t s125), (.t s127), (.t s129), (.t s131)])⟩
    (.one ⟨some s133, none, (.bin false .eql (.t s124) (.t s132))⟩
    (.one ⟨some s10, none, (.mv (.t s133))⟩
    .done)))))))))) (.one ⟨some s131, none, (.load none (.t s130))⟩
    (.both (.one ⟨some s124, none, (.call 38 [(.t s117), (.t s119), (.t s121), (.t s123)])⟩
    (.one ⟨some s127, none, (.load none (.t s126))⟩
    (.one ⟨some s129, none, (.load none (.t s128))⟩
    (.one ⟨some s132, none, (.call 44 [(.t s125), (.t s127), (.t s129), (.t s131)])⟩
    (.one ⟨some s133, none, (.bin false .eql (.t s124) (.t s132))⟩
    (.one ⟨some s10, none, (.mv (.t s133))⟩
    .done)))))) (.both (.one ⟨some s127, none, (.load none (.t s126))⟩
    (.both (.one ⟨some s124, none, (.call 38 [(.t s117), (.t s119), (.t s121), (.t s123)])⟩
    (.one ⟨some s129, none, (.load none (.t s128))⟩
    (.one ⟨some s132, none, (.call 44 [(.t s125), (.t s127), (.t s129), (.t s131)])⟩
    (.one ⟨some s133, none, (.bin false .eql (.t s124) (.t s132))⟩
    (.one ⟨some s10, none, (.mv (.t s133))⟩
    .done))))) (.one ⟨some s129, none, (.load none (.t s128))⟩
    (.one ⟨some s124, none, (.call 38 [(.t s117), (.t s119), (.t s121), (.t s123)])⟩
    (.one ⟨some s132, none, (.call 44 [(.t s125), (.t s127), (.t s129), (.t s131)])⟩
    (.one ⟨some s133, none, (.bin false .eql (.t s124) (.t s132))⟩
    (.one ⟨some s10, none, (.mv (.t s133))⟩
    .done))))))) (.one ⟨some s129, none, (.load none (.t s128))⟩
    (.both (.one ⟨some s124, none, (.call 38 [(.t s117), (.t s119), (.t s121), (.t s123)])⟩
    (.one ⟨some s127, none, (.load none (.t s126))⟩
    (.one ⟨some s132, none, (.call 44 [(.t s125), (.t s127), (.t s129), (.t s131)])⟩
    (.one ⟨some s133, none, (.bin false .eql (.t s124) (.t s132))⟩
    (.one ⟨some s10, none, (.mv (.t s133))⟩
    .done))))) (.one ⟨some s127, none, (.load none (.t s126))⟩
    (.one ⟨some s124, none, (.call 38 [(.t s117), (.t s119), (.t s121), (.t s123)])⟩
    (.one ⟨some s132, none, (.call 44 [(.t s125), (.t s127), (.t s129), (.t s131)])⟩
    (.one ⟨some s133, none, (.bin false .eql (.t s124) (.t s132))⟩
    (.one ⟨some s10, none, (.mv (.t s133))⟩
    .done))))))))))))))))))))))))) (.seq (.reg (.one ⟨some s135, none, (.bin false .eql (.t s70) (.c (.v (.int .i64 3))))⟩
    (.one ⟨some s134, none, (.mv (.t s135))⟩
    .done)))
  (.cond (.t s134) (.reg (.one ⟨some s136, none, (.mv (.t s5))⟩
    (.one ⟨some s137, none, (.faddr 1 (.t s9))⟩
    (.one ⟨some s138, none, (.load none (.t s137))⟩
    (.one ⟨some s140, none, (.mv (.t s7))⟩
    (.one ⟨some s141, none, (.faddr 1 (.t s9))⟩
    (.both (.one ⟨some s139, none, (.call 39 [(.t s136), (.t s138)])⟩
    (.one ⟨some s142, none, (.load none (.t s141))⟩
    (.one ⟨some s143, none, (.call 45 [(.t s140), (.t s142)])⟩
    (.one ⟨some s144, none, (.bin false .eql (.t s139) (.t s143))⟩
    (.one ⟨some s10, none, (.mv (.t s144))⟩
    .done))))) (.one ⟨some s142, none, (.load none (.t s141))⟩
    (.one ⟨some s139, none, (.call 39 [(.t s136), (.t s138)])⟩
    (.one ⟨some s143, none, (.call 45 [(.t s140), (.t s142)])⟩
    (.one ⟨some s144, none, (.bin false .eql (.t s139) (.t s143))⟩
    (.one ⟨some s10, none, (.mv (.t s144))⟩
    .done)))))))))))) (.seq (.reg (.one ⟨some s146, none, (.bin false .eql (.t s70) (.c (.v (.int .i64 4))))⟩
    (.one ⟨some s145, none, (.mv (.t s146))⟩
    .done)))
  (.cond (.t s145) (.seq (.reg (.one ⟨some s147, none, (.mv (.t s5))⟩
    (.one ⟨some s148, none, (.call 46 [(.t s147)])⟩
    .done)))
  (.reg (.one ⟨some s149, none, (.mv (.t s7))⟩
    (.one ⟨some s150, none, (.nilchk (.t s149))⟩
    (.one ⟨some s151, none, (.faddr 1 (.t s150))⟩
    (.one ⟨none, none, (.store 1 (.t s151) (.c (.slice 9 [] .full)))⟩
    .done)))))) .skip))))))))))))
  (.seq (.reg (.one ⟨some s152, none, (.mv (.t s10))⟩
    (.one ⟨some s153, none, (.not (.t s152))⟩
    (.one ⟨some s154, none, (.mv (.t s153))⟩
    (.one ⟨some s155, some (s154, false), (.mv (.t s5))⟩
    (.one ⟨some s156, some (s154, false), (.mv (.t s7))⟩
    (.one ⟨some s157, some (s154, false), (.callq 47 [(.t s155), (.t s156)])⟩
    (.one ⟨some s158, some (s154, false), (.not (.t s157))⟩
    (.one ⟨some s159, none, (.pick (.t s154) (.c (.v (.bool true))) (.t s158))⟩
    .done)))))))))
  (.cond (.t s159) (.seq (.reg (.one ⟨some s4, none, (.mv (.c (.v (.bool false))))⟩
    .done))
  .ret) .skip)))))))
  (.reg (.one ⟨some s58, none, (.mv (.t s8))⟩
    (.one ⟨some s59, none, (.bin false .add (.t s58) (.c (.v (.int .i64 1))))⟩
    (.one ⟨some s8, none, (.mv (.t s59))⟩
    .done)))))))))
  (.seq (.reg (.one ⟨some s15, none, (.mv (.c (.v (.pointer none))))⟩
    .done))
  (.seq (.reg (.one ⟨some s16, none, (.new [(.v (.int .i64 0)), (.v (.map none))])⟩
    .done))
  (.seq (.reg (.one ⟨some s160, none, (.mv (.t s15))⟩
    (.one ⟨some s161, none, (.call 46 [(.t s160)])⟩
    .done)))
  (.seq (.reg (.one ⟨some s163, none, (.mv (.t s15))⟩
    (.one ⟨some s164, none, (.call 34 [(.t s163), (.c (.v (.int .i64 1))), (.c (.v (.int .i64 0))), (.c (.v (.int .i64 0)))])⟩
    (.one ⟨some s162, none, (.mv (.t s164))⟩
    (.one ⟨some s165, none, (.ext (.t s162) 0)⟩
    (.one ⟨some s166, none, (.ext (.t s162) 1)⟩
    (.one ⟨some s17, none, (.mv (.t s165))⟩
    (.one ⟨some s18, none, (.mv (.t s166))⟩
    .done))))))))
  (.seq (.reg (.one ⟨some s168, none, (.callq 48 [(.t s16), (.c (.v (.int .i64 1)))])⟩
    (.one ⟨some s167, none, (.mv (.t s168))⟩
    (.one ⟨some s169, none, (.ext (.t s167) 0)⟩
    (.one ⟨some s170, none, (.ext (.t s167) 1)⟩
    (.one ⟨some s19, none, (.new [(.v (.bool false)), (.v (.int .i64 0)), (.v (.int .i64 0)), (.v (.bool false)), (.v (.bool false)), (.v (.int .i64 0)), (.slice 1 [] .full)])⟩
    (.one ⟨none, none, (.store 7 (.t s19) (.t s169))⟩
    (.one ⟨some s20, none, (.mv (.t s170))⟩
    .done))))))))
  (.seq (.reg (.one ⟨some s171, none, (.callq 32 [])⟩
    (.one ⟨some s172, none, (.mv (.t s171))⟩
    (.one ⟨some s173, some (s172, true), (.mv (.t s18))⟩
    (.one ⟨some s174, some (s172, true), (.bin false .eql (.t s173) (.c (.v (.int .i64 6))))⟩
    (.one ⟨some s175, none, (.pick (.t s172) (.t s174) (.c (.v (.bool false))))⟩
    (.one ⟨some s176, none, (.mv (.t s175))⟩
    (.one ⟨some s177, some (s176, true), (.mv (.t s20))⟩
    (.one ⟨some s178, some (s176, true), (.not (.t s177))⟩
    (.one ⟨some s179, none, (.pick (.t s176) (.t s178) (.c (.v (.bool false))))⟩
    (.one ⟨some s180, none, (.mv (.t s179))⟩
    (.one ⟨some s181, some (s180, true), (.mv (.t s15))⟩
    (.one ⟨some s182, some (s180, true), (.build [(.v (.bool false)), (.v (.int .i64 0)), (.v (.int .i64 0)), (.v (.bool false)), (.v (.bool false)), (.v (.int .i64 0)), (.slice 1 [] .full)] [])⟩
    (.one ⟨some s183, some (s180, true), (.call 31 [(.t s181), (.t s182)])⟩
    (.one ⟨some s184, some (s180, true), (.bin false .eql (.t s183) (.c (.v (.int .i64 6))))⟩
    (.one ⟨some s185, none, (.pick (.t s180) (.t s184) (.c (.v (.bool false))))⟩
    (.one ⟨some s186, none, (.mv (.t s185))⟩
    (.one ⟨some s187, some (s186, true), (.call 39 [(.t s16), (.c (.v (.int .i64 1)))])⟩
    (.one ⟨some s188, some (s186, true), (.bin false .eql (.t s187) (.c (.v (.int .i64 6))))⟩
    (.one ⟨some s189, none, (.pick (.t s186) (.t s188) (.c (.v (.bool false))))⟩
    (.one ⟨some s190, none, (.mv (.t s189))⟩
    (.one ⟨some s191, some (s190, true), (.call 38 [(.t s16), (.c (.v (.int .i64 1))), (.c (.v (.int .i64 0))), (.c (.v (.int .i64 0)))])⟩
    (.one ⟨some s192, some (s190, true), (.bin false .eql (.t s191) (.c (.v (.int .i64 6))))⟩
    (.one ⟨some s193, none, (.pick (.t s190) (.t s192) (.c (.v (.bool false))))⟩
    (.one ⟨some s194, none, (.mv (.t s193))⟩
    (.one ⟨some s195, some (s194, true), (.mv (.t s15))⟩
    (.one ⟨some s196, some (s194, true), (.callq 35 [(.t s195)])⟩
    (.one ⟨some s197, some (s194, true), (.mv (.t s15))⟩
    (.one ⟨some s198, some (s194, true), (.callq 36 [(.t s197), (.c (.v (.int .i64 1)))])⟩
    (.one ⟨some s199, some (s194, true), (.bin false .add (.t s196) (.t s198))⟩
    (.one ⟨some s200, some (s194, true), (.mv (.t s15))⟩
    (.one ⟨some s201, some (s194, true), (.callq 41 [(.t s200)])⟩
    (.one ⟨some s202, some (s194, true), (.len false (.t s201))⟩
    (.one ⟨some s203, some (s194, true), (.bin false .add (.t s199) (.t s202))⟩
    (.one ⟨some s204, some (s194, true), (.callq 40 [(.t s16)])⟩
    (.one ⟨some s205, some (s194, true), (.len false (.t s204))⟩
    (.one ⟨some s206, some (s194, true), (.bin false .add (.t s203) (.t s205))⟩
    (.one ⟨some s207, some (s194, true), (.callq 37 [(.t s16), (.c (.v (.int .i64 1)))])⟩
    (.one ⟨some s208, some (s194, true), (.len false (.t s207))⟩
    (.one ⟨some s209, some (s194, true), (.bin false .add (.t s206) (.t s208))⟩
    (.one ⟨some s210, some (s194, true), (.bin false .eql (.t s209) (.c (.v (.int .i64 0))))⟩
    (.one ⟨some s211, none, (.pick (.t s194) (.t s210) (.c (.v (.bool false))))⟩
    (.one ⟨some s4, none, (.mv (.t s211))⟩
    .done)))))))))))))))))))))))))))))))))))))))))))
  .ret))))))))))))⟩
theorem ok7 : compF Try.prog c7 Try.f7 = some ir7 := by kernel_rfl
theorem k_bowlinelaw19_SentLives {args : List AVal} {σ : AHeap} {Q : AVal → AHeap → Prop} (hl : Nat.ble args.length 212 = true) (h : argsK (Env.full 9) 0 args fun env => evC Try.prog c7 ir7.body env σ (retQ ir7 Q)) : ACalls Try.prog 7 args σ Q :=
  acalls_of Try.func7 ok7 rfl (Nat.le_of_ble_eq_true hl) h
/- bowlinelaw19.alive -/
def c32 : Cfg := ⟨qs, [], 99, [], ps⟩
def ir32 : IFun := ⟨0, [.tmp s0],
  (.seq (.reg (.one ⟨some s0, none, (.mv (.c (.v (.bool false))))⟩
    .done))
  (.seq (.reg (.one ⟨some s14, none, (.callq 30 [(.c (.v (.int .i64 10)))])⟩
    (.one ⟨some s13, none, (.mv (.t s14))⟩
    (.one ⟨some s15, none, (.ext (.t s13) 0)⟩
    (.one ⟨some s16, none, (.ext (.t s13) 1)⟩
    (.one ⟨some s1, none, (.mv (.t s15))⟩
    (.one ⟨some s2, none, (.mv (.t s16))⟩
    .done)))))))
  (.seq (.seq (.reg (.one ⟨some s17, none, (.mv (.t s2))⟩
    (.one ⟨some s18, none, (.bin false .neq (.t s17) (.c (.v (.int .i64 0))))⟩
    (.one ⟨some s19, none, (.mv (.t s18))⟩
    (.one ⟨some s20, some (s19, false), (.mv (.t s1))⟩
    (.one ⟨some s21, some (s19, false), (.eqNil 1 false (.t s20))⟩
    (.one ⟨some s22, none, (.pick (.t s19) (.c (.v (.bool true))) (.t s21))⟩
    .done)))))))
  (.cond (.t s22) (.seq (.reg (.one ⟨some s0, none, (.mv (.c (.v (.bool false))))⟩
    .done))
  .ret) .skip))
  (.seq (.reg (.one ⟨some s23, none, (.mv (.t s1))⟩
    (.one ⟨some s24, none, (.row 1 [(.c (.v (.int .u8 1))), (.c (.v (.int .u8 2)))])⟩
    (.one ⟨some s25, none, (.row 1 [(.c (.v (.int .u8 3)))])⟩
    (.one ⟨some s26, none, (.row 1 [(.t s24), (.t s25)])⟩
    (.one ⟨some s27, none, (.build [(.v (.bool false)), (.v (.int .i64 0)), (.v (.int .i64 0)), (.v (.bool false)), (.v (.bool false)), (.v (.int .i64 0)), (.slice 1 [] .full)] [(2, 1, (.c (.v (.int .i64 7)))), (6, 1, (.t s26))])⟩
    (.one ⟨some s28, none, (.call 31 [(.t s23), (.t s27)])⟩
    (.one ⟨some s3, none, (.mv (.t s28))⟩
    .done))))))))
  (.seq (.reg (.one ⟨some s30, none, (.mv (.t s1))⟩
    (.one ⟨some s31, none, (.call 34 [(.t s30), (.c (.v (.int .i64 7))), (.c (.v (.int .i64 0))), (.c (.v (.int .i64 0)))])⟩
    (.one ⟨some s29, none, (.mv (.t s31))⟩
    (.one ⟨some s32, none, (.ext (.t s29) 0)⟩
    (.one ⟨some s33, none, (.ext (.t s29) 1)⟩
    (.one ⟨some s4, none, (.mv (.t s32))⟩
    (.one ⟨some s5, none, (.mv (.t s33))⟩
    .done))))))))
  (.seq (.reg (.one ⟨some s35, none, (.mv (.t s1))⟩
    (.one ⟨some s36, none, (.call 34 [(.t s35), (.c (.v (.int .i64 7))), (.c (.v (.int .i64 1))), (.c (.v (.int .i64 3)))])⟩
    (.one ⟨some s34, none, (.mv (.t s36))⟩
    (.one ⟨some s37, none, (.ext (.t s34) 0)⟩
    (.one ⟨some s38, none, (.ext (.t s34) 1)⟩
    (.one ⟨some s6, none, (.mv (.t s37))⟩
    (.one ⟨some s7, none, (.mv (.t s38))⟩
    .done))))))))
  (.seq (.reg (.one ⟨some s39, none, (.mv (.t s1))⟩
    (.one ⟨some s40, none, (.call 38 [(.t s39), (.c (.v (.int .i64 7))), (.c (.v (.int .i64 1))), (.c (.v (.int .i64 2)))])⟩
    (.one ⟨some s8, none, (.mv (.t s40))⟩
    .done))))
  (.seq (.reg (.one ⟨some s42, none, (.mv (.t s1))⟩
    (.one ⟨some s43, none, (.call 34 [(.t s42), (.c (.v (.int .i64 7))), (.c (.v (.int .i64 1))), (.c (.v (.int .i64 2)))])⟩
    (.one ⟨some s41, none, (.mv (.t s43))⟩
    (.one ⟨some s44, none, (.ext (.t s41) 0)⟩
    (.one ⟨some s45, none, (.ext (.t s41) 1)⟩
    (.one ⟨some s9, none, (.mv (.t s44))⟩
    (.one ⟨some s10, none, (.mv (.t s45))⟩
    .done))))))))
  (.seq (.reg (.one ⟨some s47, none, (.mv (.t s1))⟩
    (.one ⟨some s48, none, (.call 34 [(.t s47), (.c (.v (.int .i64 8))), (.c (.v (.int .i64 0))), (.c (.v (.int .i64 0)))])⟩
    (.one ⟨some s46, none, (.mv (.t s48))⟩
    (.one ⟨some s49, none, (.ext (.t s46) 0)⟩
    (.one ⟨some s50, none, (.ext (.t s46) 1)⟩
    (.one ⟨some s11, none, (.mv (.t s49))⟩
    (.one ⟨some s12, none, (.mv (.t s50))⟩
    .done))))))))
  (.seq (.reg (.one ⟨some s51, none, (.mv (.t s3))⟩
    (.one ⟨some s52, none, (.bin false .eql (.t s51) (.c (.v (.int .i64 0))))⟩
    (.one ⟨some s53, none, (.mv (.t s52))⟩
    (.one ⟨some s54, some (s53, true), (.mv (.t s4))⟩
    (.one ⟨some s55, some (s53, true), (.bin false .eql (.t s54) (.c (.v (.int .i64 1))))⟩
    (.one ⟨some s56, none, (.pick (.t s53) (.t s55) (.c (.v (.bool false))))⟩
    (.one ⟨some s57, none, (.mv (.t s56))⟩
    (.one ⟨some s58, some (s57, true), (.mv (.t s5))⟩
    (.one ⟨some s59, some (s57, true), (.bin false .eql (.t s58) (.c (.v (.int .i64 0))))⟩
    (.one ⟨some s60, none, (.pick (.t s57) (.t s59) (.c (.v (.bool false))))⟩
    (.one ⟨some s61, none, (.mv (.t s60))⟩
    (.one ⟨some s62, some (s61, true), (.mv (.t s6))⟩
    (.one ⟨some s63, some (s61, true), (.bin false .eql (.t s62) (.c (.v (.int .i64 1))))⟩
    (.one ⟨some s64, none, (.pick (.t s61) (.t s63) (.c (.v (.bool false))))⟩
    (.one ⟨some s65, none, (.mv (.t s64))⟩
    (.one ⟨some s66, some (s65, true), (.mv (.t s8))⟩
    (.one ⟨some s67, some (s65, true), (.bin false .eql (.t s66) (.c (.v (.int .i64 0))))⟩
    (.one ⟨some s68, none, (.pick (.t s65) (.t s67) (.c (.v (.bool false))))⟩
    (.one ⟨some s69, none, (.mv (.t s68))⟩
    (.one ⟨some s70, some (s69, true), (.mv (.t s9))⟩
    (.one ⟨some s71, some (s69, true), (.bin false .eql (.t s70) (.c (.v (.int .i64 2))))⟩
    (.one ⟨some s72, none, (.pick (.t s69) (.t s71) (.c (.v (.bool false))))⟩
    (.one ⟨some s73, none, (.mv (.t s72))⟩
    (.one ⟨some s74, some (s73, true), (.mv (.t s10))⟩
    (.one ⟨some s75, some (s73, true), (.bin false .eql (.t s74) (.c (.v (.int .i64 0))))⟩
    (.one ⟨some s76, none, (.pick (.t s73) (.t s75) (.c (.v (.bool false))))⟩
    (.one ⟨some s77, none, (.mv (.t s76))⟩
    (.one ⟨some s78, some (s77, true), (.mv (.t s12))⟩
    (.one ⟨some s79, some (s77, true), (.bin false .eql (.t s78) (.c (.v (.int .i64 4))))⟩
    (.one ⟨some s80, none, (.pick (.t s77) (.t s79) (.c (.v (.bool false))))⟩
    (.one ⟨some s81, none, (.mv (.t s80))⟩
    (.one ⟨some s82, some (s81, true), (.mv (.t s1))⟩
    (.one ⟨some s83, some (s81, true), (.callq 35 [(.t s82)])⟩
    (.one ⟨some s84, some (s81, true), (.bin false .eql (.t s83) (.c (.v (.int .i64 3))))⟩
    (.one ⟨some s85, none, (.pick (.t s81) (.t s84) (.c (.v (.bool false))))⟩
    (.one ⟨some s86, none, (.mv (.t s85))⟩
    (.one ⟨some s87, some (s86, true), (.mv (.t s1))⟩
    (.one ⟨some s88, some (s86, true), (.callq 36 [(.t s87), (.c (.v (.int .i64 7)))])⟩
    (.one ⟨some s89, some (s86, true), (.bin false .eql (.t s88) (.c (.v (.int .i64 2))))⟩
    (.one ⟨some s90, none, (.pick (.t s86) (.t s89) (.c (.v (.bool false))))⟩
    (.one ⟨some s91, none, (.mv (.t s90))⟩
    (.one ⟨some s92, some (s91, true), (.mv (.t s1))⟩
    (.one ⟨some s93, some (s91, true), (.row 1 [(.c (.v (.int .u8 1)))])⟩
    (.one ⟨some s94, some (s91, true), (.row 1 [(.t s93)])⟩
    (.one ⟨some s95, some (s91, true), (.build [(.v (.bool false)), (.v (.int .i64 0)), (.v (.int .i64 0)), (.v (.bool false)), (.v (.bool false)), (.v (.int .i64 0)), (.slice 1 [] .full)] [(2, 1, (.c (.v (.int .i64 7)))), (6, 1, (.t s94))])⟩
    (.one ⟨some s96, some (s91, true), (.call 31 [(.t s92), (.t s95)])⟩
    (.one ⟨some s97, some (s91, true), (.bin false .eql (.t s96) (.c (.v (.int .i64 12))))⟩
    (.one ⟨some s98, none, (.pick (.t s91) (.t s97) (.c (.v (.bool false))))⟩
    (.one ⟨some s0, none, (.mv (.t s98))⟩
    .done))))))))))))))))))))))))))))))))))))))))))))))))))
  .ret))))))))))⟩
theorem ok32 : compF Try.prog c32 Try.f32 = some ir32 := by kernel_rfl
theorem k_bowlinelaw19_alive {args : List AVal} {σ : AHeap} {Q : AVal → AHeap → Prop} (hl : Nat.ble args.length 99 = true) (h : argsK (Env.full 9) 0 args fun env => evC Try.prog c32 ir32.body env σ (retQ ir32 Q)) : ACalls Try.prog 32 args σ Q :=
  acalls_of Try.func32 ok32 rfl (Nat.le_of_ble_eq_true hl) h
/- bowlinelaw19.tells -/
def c47 : Cfg := ⟨qs, [], 116, [], ps⟩
def ir47 : IFun := ⟨2, [.tmp s4],
  (.seq (.reg (.one ⟨some s4, none, (.mv (.c (.v (.bool false))))⟩
    .done))
  (.seq (.reg (.one ⟨some s5, none, (.mv (.c (.slice 1 [] .full)))⟩
    (.one ⟨some s6, none, (.mv (.c (.slice 1 [] .full)))⟩
    .done)))
  (.seq (.reg (.one ⟨some s7, none, (.mv (.c (.v (.int .i64 0))))⟩
    .done))
  (.seq (.seq (.reg (.one ⟨some s8, none, (.mv (.c (.v (.int .i64 0))))⟩
    .done))
  (.block 0 (.loop (.seq (.seq (.reg (.one ⟨some s12, none, (.mv (.t s8))⟩
    (.one ⟨some s13, none, (.mv (.t s1))⟩
    (.one ⟨some s14, none, (.nilchk (.t s13))⟩
    (.one ⟨some s15, none, (.faddr 1 (.t s14))⟩
    (.one ⟨some s16, none, (.load none (.t s15))⟩
    (.one ⟨some s17, none, (.len false (.t s16))⟩
    (.one ⟨some s18, none, (.bin false .lss (.t s12) (.t s17))⟩
    .done))))))))
  (.cond (.t s18) .skip (.exit 0)))
  (.seq (.block 1 (.seq (.reg (.one ⟨some s21, none, (.mv (.t s1))⟩
    (.one ⟨some s22, none, (.nilchk (.t s21))⟩
    (.one ⟨some s23, none, (.faddr 1 (.t s22))⟩
    (.one ⟨some s24, none, (.load none (.t s23))⟩
    (.one ⟨some s25, none, (.mv (.t s8))⟩
    (.one ⟨some s26, none, (.iaddr 9 (.t s24) (.t s25))⟩
    (.one ⟨some s27, none, (.faddr 0 (.t s26))⟩
    (.one ⟨some s28, none, (.faddr 2 (.t s27))⟩
    (.one ⟨some s29, none, (.load none (.t s28))⟩
    (.one ⟨some s9, none, (.mv (.t s29))⟩
    .done)))))))))))
  (.seq (.reg (.one ⟨some s31, none, (.mv (.t s0))⟩
    (.one ⟨some s32, none, (.mv (.t s9))⟩
    (.one ⟨some s33, none, (.callq 48 [(.t s31), (.t s32)])⟩
    (.one ⟨some s30, none, (.mv (.t s33))⟩
    (.one ⟨some s34, none, (.ext (.t s30) 0)⟩
    (.one ⟨some s35, none, (.ext (.t s30) 1)⟩
    (.one ⟨some s10, none, (.new [(.v (.bool false)), (.v (.int .i64 0)), (.v (.int .i64 0)), (.v (.bool false)), (.v (.bool false)), (.v (.int .i64 0)), (.slice 1 [] .full)])⟩
    (.one ⟨none, none, (.store 7 (.t s10) (.t s34))⟩
    (.one ⟨some s11, none, (.mv (.t s35))⟩
    .done))))))))))
  (.seq (.seq (.reg (.one ⟨some s36, none, (.mv (.t s11))⟩
    (.one ⟨some s37, none, (.not (.t s36))⟩
    (.one ⟨some s38, none, (.mv (.t s37))⟩
    (.one ⟨some s39, some (s38, false), (.load (some 7) (.t s10))⟩
    (.one ⟨some s41, some (s38, false), (.mv (.t s1))⟩
    (.one ⟨some s42, some (s38, false), (.nilchk (.t s41))⟩
    (.one ⟨some s43, some (s38, false), (.faddr 1 (.t s42))⟩
    (.one ⟨some s44, some (s38, false), (.load none (.t s43))⟩
    (.one ⟨some s45, some (s38, false), (.mv (.t s8))⟩
    (.one ⟨some s46, some (s38, false), (.iaddr 9 (.t s44) (.t s45))⟩
    (.one ⟨some s47, some (s38, false), (.faddr 0 (.t s46))⟩
    (.one ⟨some s48, some (s38, false), (.load (some 7) (.t s47))⟩
    (.one ⟨some s40, some (s38, false), (.callq 18 [(.t s39)])⟩
    (.one ⟨some s49, some (s38, false), (.callq 88 [(.t s40), (.t s48)])⟩
    (.one ⟨some s50, some (s38, false), (.not (.t s49))⟩
    (.one ⟨some s51, none, (.pick (.t s38) (.c (.v (.bool true))) (.t s50))⟩
    (.one ⟨some s52, none, (.mv (.t s51))⟩
    (.one ⟨some s53, some (s52, false), (.mv (.t s0))⟩
    (.one ⟨some s54, some (s52, false), (.mv (.t s9))⟩
    (.one ⟨some s56, some (s52, false), (.mv (.t s1))⟩
    (.one ⟨some s57, some (s52, false), (.nilchk (.t s56))⟩
    (.one ⟨some s58, some (s52, false), (.faddr 1 (.t s57))⟩
    (.one ⟨some s59, some (s52, false), (.load none (.t s58))⟩
    (.one ⟨some s60, some (s52, false), (.mv (.t s8))⟩
    (.one ⟨some s61, some (s52, false), (.iaddr 9 (.t s59) (.t s60))⟩
    (.one ⟨some s62, some (s52, false), (.faddr 8 (.t s61))⟩
    (.one ⟨some s63, some (s52, false), (.load none (.t s62))⟩
    (.one ⟨some s55, some (s52, false), (.callq 36 [(.t s53), (.t s54)])⟩
    (.one ⟨some s64, some (s52, false), (.bin false .neq (.t s55) (.t s63))⟩
    (.one ⟨some s65, none, (.pick (.t s52) (.c (.v (.bool true))) (.t s64))⟩
    (.one ⟨some s66, none, (.mv (.t s65))⟩
    (.one ⟨some s67, some (s66, false), (.mv (.t s0))⟩
    (.one ⟨some s68, some (s66, false), (.mv (.t s9))⟩
    (.one ⟨some s71, some (s66, false), (.mv (.t s1))⟩
    (.one ⟨some s72, some (s66, false), (.nilchk (.t s71))⟩
    (.one ⟨some s73, some (s66, false), (.faddr 1 (.t s72))⟩
    (.one ⟨some s74, some (s66, false), (.load none (.t s73))⟩
    (.one ⟨some s75, some (s66, false), (.mv (.t s8))⟩
    (.one ⟨some s76, some (s66, false), (.iaddr 9 (.t s74) (.t s75))⟩
    (.one ⟨some s77, some (s66, false), (.faddr 7 (.t s76))⟩
    (.one ⟨some s78, some (s66, false), (.load (some 1) (.t s77))⟩
    (.one ⟨some s69, some (s66, false), (.callq 37 [(.t s67), (.t s68)])⟩
    (.one ⟨some s70, some (s66, false), (.callq 28 [(.t s69)])⟩
    (.one ⟨some s79, some (s66, false), (.callq 71 [(.t s78)])⟩
    (.one ⟨some s80, some (s66, false), (.callq 27 [(.t s70), (.t s79)])⟩
    (.one ⟨some s81, some (s66, false), (.not (.t s80))⟩
    (.one ⟨some s82, none, (.pick (.t s66) (.c (.v (.bool true))) (.t s81))⟩
    .done))))))))))))))))))))))))))))))))))))))))))))))))
  (.cond (.t s82) (.seq (.reg (.one ⟨some s4, none, (.mv (.c (.v (.bool false))))⟩
    .done))
  .ret) .skip))
  (.seq (.reg (.one ⟨some s83, none, (.mv (.t s5))⟩
    (.one ⟨some s84, none, (.mv (.t s9))⟩
    (.one ⟨some s85, none, (.row 1 [(.t s84)])⟩
    (.one ⟨some s86, none, (.app 1 8 (.t s83) (.t s85))⟩
    (.one ⟨some s5, none, (.mv (.t s86))⟩
    .done))))))
  (.seq (.reg (.one ⟨some s87, none, (.mv (.t s1))⟩
    (.one ⟨some s88, none, (.mv (.t s8))⟩
    (.one ⟨some s89, none, (.callq 89 [(.t s87), (.t s88)])⟩
    (.one ⟨some s90, none, (.bin false .gtr (.t s89) (.c (.v (.int .i64 0))))⟩
    .done)))))
  (.cond (.t s90) (.seq (.reg (.one ⟨some s91, none, (.mv (.t s6))⟩
    (.one ⟨some s92, none, (.mv (.t s9))⟩
    (.one ⟨some s93, none, (.row 1 [(.t s92)])⟩
    (.one ⟨some s94, none, (.app 1 8 (.t s91) (.t s93))⟩
    (.one ⟨some s6, none, (.mv (.t s94))⟩
    .done))))))
  (.reg (.one ⟨some s95, none, (.mv (.t s7))⟩
    (.one ⟨some s96, none, (.mv (.t s1))⟩
    (.one ⟨some s97, none, (.mv (.t s8))⟩
    (.one ⟨some s98, none, (.callq 89 [(.t s96), (.t s97)])⟩
    (.one ⟨some s99, none, (.bin false .add (.t s95) (.t s98))⟩
    (.one ⟨some s7, none, (.mv (.t s99))⟩
    .done)))))))) .skip)))))))
  (.reg (.one ⟨some s19, none, (.mv (.t s8))⟩
    (.one ⟨some s20, none, (.bin false .add (.t s19) (.c (.v (.int .i64 1))))⟩
    (.one ⟨some s8, none, (.mv (.t s20))⟩
    .done)))))))))
  (.seq (.reg (.one ⟨some s100, none, (.mv (.t s0))⟩
    (.one ⟨some s101, none, (.callq 41 [(.t s100)])⟩
    (.one ⟨some s102, none, (.mv (.t s5))⟩
    (.one ⟨some s103, none, (.callq 90 [(.t s101), (.t s102)])⟩
    (.one ⟨some s104, none, (.mv (.t s103))⟩
    (.one ⟨some s105, some (s104, true), (.mv (.t s0))⟩
    (.one ⟨some s106, some (s104, true), (.callq 40 [(.t s105)])⟩
    (.one ⟨some s107, some (s104, true), (.mv (.t s6))⟩
    (.one ⟨some s108, some (s104, true), (.callq 90 [(.t s106), (.t s107)])⟩
    (.one ⟨some s109, none, (.pick (.t s104) (.t s108) (.c (.v (.bool false))))⟩
    (.one ⟨some s110, none, (.mv (.t s109))⟩
    (.one ⟨some s111, some (s110, true), (.mv (.t s0))⟩
    (.one ⟨some s112, some (s110, true), (.callq 35 [(.t s111)])⟩
    (.one ⟨some s113, some (s110, true), (.mv (.t s7))⟩
    (.one ⟨some s114, some (s110, true), (.bin false .eql (.t s112) (.t s113))⟩
    (.one ⟨some s115, none, (.pick (.t s110) (.t s114) (.c (.v (.bool false))))⟩
    (.one ⟨some s4, none, (.mv (.t s115))⟩
    .done))))))))))))))))))
  .ret)))))⟩
theorem ok47 : compF Try.prog c47 Try.f47 = some ir47 := by kernel_rfl
theorem k_bowlinelaw19_tells {args : List AVal} {σ : AHeap} {Q : AVal → AHeap → Prop} (hl : Nat.ble args.length 116 = true) (h : argsK (Env.full 9) 0 args fun env => evC Try.prog c47 ir47.body env σ (retQ ir47 Q)) : ACalls Try.prog 47 args σ Q :=
  acalls_of Try.func47 ok47 rfl (Nat.le_of_ble_eq_true hl) h
/- bowlinelaw19.same -/
def c90 : Cfg := ⟨qs, [], 26, [], ps⟩
def ir90 : IFun := ⟨2, [.tmp s4],
  (.seq (.reg (.one ⟨some s4, none, (.mv (.c (.v (.bool false))))⟩
    .done))
  (.seq (.seq (.reg (.one ⟨some s6, none, (.mv (.t s0))⟩
    (.one ⟨some s7, none, (.len false (.t s6))⟩
    (.one ⟨some s8, none, (.mv (.t s1))⟩
    (.one ⟨some s9, none, (.len false (.t s8))⟩
    (.one ⟨some s10, none, (.bin false .neq (.t s7) (.t s9))⟩
    .done))))))
  (.cond (.t s10) (.seq (.reg (.one ⟨some s4, none, (.mv (.c (.v (.bool false))))⟩
    .done))
  .ret) .skip))
  (.seq (.seq (.reg (.one ⟨some s5, none, (.mv (.c (.v (.int .i64 0))))⟩
    .done))
  (.block 0 (.loop (.seq (.seq (.reg (.one ⟨some s11, none, (.mv (.t s5))⟩
    (.one ⟨some s12, none, (.mv (.t s0))⟩
    (.one ⟨some s13, none, (.len false (.t s12))⟩
    (.one ⟨some s14, none, (.bin false .lss (.t s11) (.t s13))⟩
    .done)))))
  (.cond (.t s14) .skip (.exit 0)))
  (.seq (.block 1 (.seq (.reg (.one ⟨some s17, none, (.mv (.t s0))⟩
    (.one ⟨some s18, none, (.mv (.t s5))⟩
    (.one ⟨some s19, none, (.iaddr 1 (.t s17) (.t s18))⟩
    (.one ⟨some s20, none, (.load none (.t s19))⟩
    (.one ⟨some s21, none, (.mv (.t s1))⟩
    (.one ⟨some s22, none, (.mv (.t s5))⟩
    (.one ⟨some s23, none, (.iaddr 1 (.t s21) (.t s22))⟩
    (.one ⟨some s24, none, (.load none (.t s23))⟩
    (.one ⟨some s25, none, (.bin false .neq (.t s20) (.t s24))⟩
    .done))))))))))
  (.cond (.t s25) (.seq (.reg (.one ⟨some s4, none, (.mv (.c (.v (.bool false))))⟩
    .done))
  .ret) .skip)))
  (.reg (.one ⟨some s15, none, (.mv (.t s5))⟩
    (.one ⟨some s16, none, (.bin false .add (.t s15) (.c (.v (.int .i64 1))))⟩
    (.one ⟨some s5, none, (.mv (.t s16))⟩
    .done)))))))))
  (.seq (.reg (.one ⟨some s4, none, (.mv (.c (.v (.bool true))))⟩
    .done))
  .ret))))⟩
theorem ok90 : compF Try.prog c90 Try.f90 = some ir90 := by kernel_rfl
theorem k_bowlinelaw19_same {args : List AVal} {σ : AHeap} {Q : AVal → AHeap → Prop} (hl : Nat.ble args.length 26 = true) (h : argsK (Env.full 9) 0 args fun env => evC Try.prog c90 ir90.body env σ (retQ ir90 Q)) : ACalls Try.prog 90 args σ Q :=
  acalls_of Try.func90 ok90 rfl (Nat.le_of_ble_eq_true hl) h
end Go.Proofs.Ytgobbmdbkmjlnaa
/-
  The bodies of one package, compiled to the framework's language (printed by a program of this session).
-/
namespace Go.Proofs.Ytgobbmdbkmjlnaa
set_option linter.unusedVariables false
set_option linter.unusedSimpArgs false
open Go Go.Am
/- bowlinelaw09.Great -/
def c10 : Cfg := ⟨qs, [], 31, [], ps⟩
def ir10 : IFun := ⟨1, [.tmp s2],
  (.seq (.reg (.one ⟨some s2, none, (.mv (.c (.v (.bool false))))⟩
    .done))
  (.seq (.reg (.one ⟨some s3, none, (.mv (.c (.v (.int .i64 0))))⟩
    .done))
  (.seq (.seq (.reg (.one ⟨some s4, none, (.mv (.c (.v (.int .i64 0))))⟩
    .done))
  (.block 0 (.loop (.seq (.seq (.reg (.one ⟨some s5, none, (.mv (.t s4))⟩
    (.one ⟨some s6, none, (.mv (.t s0))⟩
    (.one ⟨some s7, none, (.len false (.t s6))⟩
    (.one ⟨some s8, none, (.bin false .lss (.t s5) (.t s7))⟩
    .done)))))
  (.cond (.t s8) .skip (.exit 0)))
  (.seq (.block 1 (.seq (.seq (.reg (.one ⟨some s11, none, (.mv (.t s0))⟩
    (.one ⟨some s12, none, (.len false (.t s11))⟩
    (.one ⟨some s13, none, (.bin false .gtr (.t s12) (.c (.v (.int .i64 40))))⟩
    (.one ⟨some s14, none, (.mv (.t s13))⟩
    (.one ⟨some s15, some (s14, false), (.mv (.t s0))⟩
    (.one ⟨some s16, some (s14, false), (.mv (.t s4))⟩
    (.one ⟨some s17, some (s14, false), (.iaddr 1 (.t s15) (.t s16))⟩
    (.one ⟨some s18, some (s14, false), (.load none (.t s17))⟩
    (.one ⟨some s19, some (s14, false), (.len false (.t s18))⟩
    (.one ⟨some s20, some (s14, false), (.bin false .gtr (.t s19) (.c (.v (.int .i64 4200))))⟩
    (.one ⟨some s21, none, (.pick (.t s14) (.c (.v (.bool true))) (.t s20))⟩
    .done))))))))))))
  (.cond (.t s21) (.seq (.reg (.one ⟨some s2, none, (.mv (.c (.v (.bool true))))⟩
    .done))
  .ret) .skip))
  (.reg (.one ⟨some s22, none, (.mv (.t s3))⟩
    (.one ⟨some s23, none, (.mv (.t s0))⟩
    (.one ⟨some s24, none, (.mv (.t s4))⟩
    (.one ⟨some s25, none, (.iaddr 1 (.t s23) (.t s24))⟩
    (.one ⟨some s26, none, (.load none (.t s25))⟩
    (.one ⟨some s27, none, (.len false (.t s26))⟩
    (.one ⟨some s28, none, (.bin false .add (.t s22) (.t s27))⟩
    (.one ⟨some s3, none, (.mv (.t s28))⟩
    .done)))))))))))
  (.reg (.one ⟨some s9, none, (.mv (.t s4))⟩
    (.one ⟨some s10, none, (.bin false .add (.t s9) (.c (.v (.int .i64 1))))⟩
    (.one ⟨some s4, none, (.mv (.t s10))⟩
    .done)))))))))
  (.seq (.reg (.one ⟨some s29, none, (.mv (.t s3))⟩
    (.one ⟨some s30, none, (.bin false .gtr (.t s29) (.c (.v (.int .i64 9000))))⟩
    (.one ⟨some s2, none, (.mv (.t s30))⟩
    .done))))
  .ret))))⟩
theorem ok10 : compF Try.prog c10 Try.f10 = some ir10 := by kernel_rfl
theorem k_bowlinelaw09_Great {args : List AVal} {σ : AHeap} {Q : AVal → AHeap → Prop} (hl : Nat.ble args.length 31 = true) (h : argsK (Env.full 9) 0 args fun env => evC Try.prog c10 ir10.body env σ (retQ ir10 Q)) : ACalls Try.prog 10 args σ Q :=
  acalls_of Try.func10 ok10 rfl (Nat.le_of_ble_eq_true hl) h
end Go.Proofs.Ytgobbmdbkmjlnaa
