/-
  Texts of this claim, part 4: Irref11, Crefst, Ctok2, Irlaw11, Csames, Cas, Irref01, Crefbits, Crefbitsb, Crefstw, Crefsts, Cstatg, Cstatm.
-/
import Derived.Test.YtnfdgccmpglbhaaStatusWritesM2
/-
  The bodies of one package, compiled to the framework's language (printed by a program of this session).
-/
namespace Go.Proofs.Ytnfdgccmpglbhaa
set_option linter.unusedVariables false
set_option linter.unusedSimpArgs false
open Go Go.Am
/- bowlineref11.Read -/
def c49 : Cfg := ⟨qs, [], 120, []⟩
def ir49 : IFun := ⟨2, [.cell s4 (some 2), .tmp s5],
  (.seq (.reg (.one ⟨some s4, none, (.new [(.v (.int .i64 0)), (.slice 4 [] .full)])⟩
    (.one ⟨some s5, none, (.mv (.c (.v (.int .i64 0))))⟩
    .done)))
  (.seq (.seq (.reg (.one ⟨some s17, none, (.mv (.t s1))⟩
    (.one ⟨some s18, none, (.bin false .neq (.t s17) (.c (.v (.int .i64 10))))⟩
    (.one ⟨some s19, none, (.mv (.t s18))⟩
    (.one ⟨some s20, some (s19, true), (.mv (.t s1))⟩
    (.one ⟨some s21, some (s19, true), (.bin false .neq (.t s20) (.c (.v (.int .i64 16))))⟩
    (.one ⟨some s22, none, (.pick (.t s19) (.t s21) (.c (.v (.bool false))))⟩
    .done)))))))
  (.cond (.t s22) (.seq (.reg (.one ⟨some s23, none, (.build [(.v (.int .i64 0)), (.slice 4 [] .full)] [])⟩
    (.one ⟨none, none, (.store 2 (.t s4) (.t s23))⟩
    (.one ⟨some s5, none, (.mv (.c (.v (.int .i64 9))))⟩
    .done))))
  .ret) .skip))
  (.seq (.seq (.reg (.one ⟨some s24, none, (.mv (.t s0))⟩
    (.one ⟨some s25, none, (.len false (.t s24))⟩
    (.one ⟨some s26, none, (.bin false .eql (.t s25) (.c (.v (.int .i64 0))))⟩
    .done))))
  (.cond (.t s26) (.seq (.reg (.one ⟨some s27, none, (.build [(.v (.int .i64 0)), (.slice 4 [] .full)] [])⟩
    (.one ⟨none, none, (.store 2 (.t s4) (.t s27))⟩
    (.one ⟨some s5, none, (.mv (.c (.v (.int .i64 8))))⟩
    .done))))
  .ret) .skip))
  (.seq (.reg (.one ⟨some s28, none, (.mv (.t s0))⟩
    (.one ⟨some s29, none, (.callq 97 [(.t s28)])⟩
    (.one ⟨some s6, none, (.mv (.t s29))⟩
    .done))))
  (.seq (.seq (.reg (.one ⟨some s30, none, (.mv (.t s6))⟩
    (.one ⟨some s31, none, (.iaddr 1 (.t s30) (.c (.v (.int .i64 0))))⟩
    (.one ⟨some s32, none, (.load none (.t s31))⟩
    .done))))
  (.cond (.t s32) (.seq (.reg (.one ⟨some s33, none, (.build [(.v (.int .i64 0)), (.slice 4 [] .full)] [])⟩
    (.one ⟨none, none, (.store 2 (.t s4) (.t s33))⟩
    (.one ⟨some s5, none, (.mv (.c (.v (.int .i64 4))))⟩
    .done))))
  .ret) .skip))
  (.seq (.seq (.reg (.one ⟨some s34, none, (.mv (.t s6))⟩
    (.one ⟨some s35, none, (.iaddr 1 (.t s34) (.c (.v (.int .i64 1))))⟩
    (.one ⟨some s36, none, (.load none (.t s35))⟩
    (.one ⟨some s37, none, (.mv (.t s36))⟩
    (.one ⟨some s38, some (s37, false), (.mv (.t s6))⟩
    (.one ⟨some s39, some (s37, false), (.iaddr 1 (.t s38) (.c (.v (.int .i64 2))))⟩
    (.one ⟨some s40, some (s37, false), (.load none (.t s39))⟩
    (.one ⟨some s41, none, (.pick (.t s37) (.c (.v (.bool true))) (.t s40))⟩
    (.one ⟨some s42, none, (.mv (.t s41))⟩
    (.one ⟨some s43, some (s42, false), (.mv (.t s6))⟩
    (.one ⟨some s44, some (s42, false), (.iaddr 1 (.t s43) (.c (.v (.int .i64 3))))⟩
    (.one ⟨some s45, some (s42, false), (.load none (.t s44))⟩
    (.one ⟨some s46, none, (.pick (.t s42) (.c (.v (.bool true))) (.t s45))⟩
    .done))))))))))))))
  (.cond (.t s46) (.seq (.reg (.one ⟨some s47, none, (.build [(.v (.int .i64 0)), (.slice 4 [] .full)] [])⟩
    (.one ⟨none, none, (.store 2 (.t s4) (.t s47))⟩
    (.one ⟨some s5, none, (.mv (.c (.v (.int .i64 3))))⟩
    .done))))
  .ret) .skip))
  (.seq (.seq (.reg (.one ⟨some s48, none, (.mv (.t s6))⟩
    (.one ⟨some s49, none, (.len false (.t s48))⟩
    (.one ⟨some s50, none, (.mv (.t s1))⟩
    (.one ⟨some s51, none, (.bin false .add (.t s50) (.c (.v (.int .i64 5))))⟩
    (.one ⟨some s52, none, (.bin false .lss (.t s49) (.t s51))⟩
    .done))))))
  (.cond (.t s52) (.seq (.reg (.one ⟨some s53, none, (.build [(.v (.int .i64 0)), (.slice 4 [] .full)] [])⟩
    (.one ⟨none, none, (.store 2 (.t s4) (.t s53))⟩
    (.one ⟨some s5, none, (.mv (.c (.v (.int .i64 8))))⟩
    .done))))
  .ret) .skip))
  (.seq (.reg (.one ⟨some s55, none, (.mv (.t s6))⟩
    (.one ⟨some s56, none, (.mv (.t s1))⟩
    (.one ⟨some s57, none, (.callq 98 [(.t s55), (.c (.v (.int .i64 4))), (.t s56)])⟩
    (.one ⟨some s54, none, (.mv (.t s57))⟩
    (.one ⟨some s58, none, (.ext (.t s54) 0)⟩
    (.one ⟨some s59, none, (.ext (.t s54) 1)⟩
    (.one ⟨some s60, none, (.ext (.t s54) 2)⟩
    (.one ⟨some s7, none, (.mv (.t s58))⟩
    (.one ⟨some s8, none, (.mv (.t s59))⟩
    (.one ⟨some s9, none, (.mv (.t s60))⟩
    .done)))))))))))
  (.seq (.reg (.one ⟨some s61, none, (.mv (.t s7))⟩
    (.one ⟨some s62, none, (.conv .i64 (.t s61))⟩
    (.one ⟨some s63, none, (.build [(.v (.int .i64 0)), (.slice 4 [] .full)] [(0, 1, (.t s62))])⟩
    (.one ⟨some s10, none, (.new [(.v (.int .i64 0)), (.slice 4 [] .full)])⟩
    (.one ⟨none, none, (.store 2 (.t s10) (.t s63))⟩
    .done))))))
  (.seq (.reg (.one ⟨some s64, none, (.mv (.t s6))⟩
    (.one ⟨some s65, none, (.mv (.t s8))⟩
    (.one ⟨some s66, none, (.iaddr 1 (.t s64) (.t s65))⟩
    (.one ⟨some s67, none, (.load none (.t s66))⟩
    (.one ⟨some s11, none, (.mv (.t s67))⟩
    .done))))))
  (.seq (.reg (.one ⟨some s68, none, (.mv (.t s8))⟩
    (.one ⟨some s69, none, (.bin false .add (.t s68) (.c (.v (.int .i64 1))))⟩
    (.one ⟨some s8, none, (.mv (.t s69))⟩
    .done))))
  (.seq (.block 0 (.loop (.seq (.seq (.reg (.one ⟨some s70, none, (.mv (.t s11))⟩
    .done))
  (.cond (.t s70) .skip (.exit 0)))
  (.block 1 (.seq (.seq (.reg (.one ⟨some s71, none, (.faddr 1 (.t s10))⟩
    (.one ⟨some s72, none, (.load none (.t s71))⟩
    (.one ⟨some s73, none, (.len false (.t s72))⟩
    (.one ⟨some s74, none, (.bin false .eql (.t s73) (.c (.v (.int .i64 32))))⟩
    .done)))))
  (.cond (.t s74) (.seq (.reg (.one ⟨some s75, none, (.build [(.v (.int .i64 0)), (.slice 4 [] .full)] [])⟩
    (.one ⟨none, none, (.store 2 (.t s4) (.t s75))⟩
    (.one ⟨some s5, none, (.mv (.c (.v (.int .i64 2))))⟩
    .done))))
  .ret) .skip))
  (.seq (.reg (.one ⟨some s77, none, (.mv (.t s6))⟩
    (.one ⟨some s78, none, (.mv (.t s8))⟩
    (.one ⟨some s79, none, (.mv (.t s1))⟩
    (.one ⟨some s80, none, (.callq 99 [(.t s77), (.t s78), (.t s79)])⟩
    (.one ⟨some s76, none, (.mv (.t s80))⟩
    (.one ⟨some s81, none, (.ext (.t s76) 0)⟩
    (.one ⟨some s82, none, (.ext (.t s76) 1)⟩
    (.one ⟨some s83, none, (.ext (.t s76) 2)⟩
    (.one ⟨some s84, none, (.ext (.t s76) 3)⟩
    (.one ⟨some s12, none, (.new [(.v (.int .i64 0)), (.v (.bool false)), (.v (.int .i64 0)), (.v (.int .i64 0))])⟩
    (.one ⟨none, none, (.store 4 (.t s12) (.t s81))⟩
    (.one ⟨some s13, none, (.mv (.t s82))⟩
    (.one ⟨some s14, none, (.mv (.t s83))⟩
    (.one ⟨some s15, none, (.mv (.t s84))⟩
    .done)))))))))))))))
  (.seq (.seq (.reg (.one ⟨some s85, none, (.mv (.t s15))⟩
    (.one ⟨some s86, none, (.not (.t s85))⟩
    .done)))
  (.cond (.t s86) (.seq (.reg (.one ⟨some s87, none, (.build [(.v (.int .i64 0)), (.slice 4 [] .full)] [])⟩
    (.one ⟨none, none, (.store 2 (.t s4) (.t s87))⟩
    (.one ⟨some s5, none, (.mv (.c (.v (.int .i64 8))))⟩
    .done))))
  .ret) .skip))
  (.seq (.seq (.reg (.one ⟨some s88, none, (.load (some 4) (.t s12))⟩
    (.one ⟨some s89, none, (.mv (.t s1))⟩
    (.one ⟨some s90, none, (.callq 100 [(.t s88), (.t s89)])⟩
    (.one ⟨some s91, none, (.not (.t s90))⟩
    .done)))))
  (.cond (.t s91) (.seq (.reg (.one ⟨some s92, none, (.build [(.v (.int .i64 0)), (.slice 4 [] .full)] [])⟩
    (.one ⟨none, none, (.store 2 (.t s4) (.t s92))⟩
    (.one ⟨some s5, none, (.mv (.c (.v (.int .i64 3))))⟩
    .done))))
  .ret) .skip))
  (.seq (.reg (.one ⟨some s93, none, (.faddr 1 (.t s10))⟩
    (.one ⟨some s94, none, (.load none (.t s93))⟩
    (.one ⟨some s95, none, (.load (some 4) (.t s12))⟩
    (.one ⟨some s96, none, (.row 4 [(.t s95)])⟩
    (.one ⟨some s97, none, (.app 4 32 (.t s94) (.t s96))⟩
    (.one ⟨some s98, none, (.faddr 1 (.t s10))⟩
    (.one ⟨none, none, (.store 1 (.t s98) (.t s97))⟩
    .done))))))))
  (.reg (.one ⟨some s99, none, (.mv (.t s13))⟩
    (.one ⟨some s100, none, (.mv (.t s14))⟩
    (.one ⟨some s11, none, (.mv (.t s99))⟩
    (.one ⟨some s8, none, (.mv (.t s100))⟩
    .done))))))))))))))
  (.seq (.seq (.reg (.one ⟨some s101, none, (.mv (.t s6))⟩
    (.one ⟨some s102, none, (.len false (.t s101))⟩
    (.one ⟨some s103, none, (.mv (.t s8))⟩
    (.one ⟨some s104, none, (.bin false .sub (.t s102) (.t s103))⟩
    (.one ⟨some s105, none, (.bin false .gtr (.t s104) (.c (.v (.int .i64 7))))⟩
    .done))))))
  (.cond (.t s105) (.seq (.reg (.one ⟨some s106, none, (.build [(.v (.int .i64 0)), (.slice 4 [] .full)] [])⟩
    (.one ⟨none, none, (.store 2 (.t s4) (.t s106))⟩
    (.one ⟨some s5, none, (.mv (.c (.v (.int .i64 3))))⟩
    .done))))
  .ret) .skip))
  (.seq (.seq (.reg (.one ⟨some s107, none, (.mv (.t s8))⟩
    (.one ⟨some s16, none, (.mv (.t s107))⟩
    .done)))
  (.block 2 (.loop (.seq (.seq (.reg (.one ⟨some s108, none, (.mv (.t s16))⟩
    (.one ⟨some s109, none, (.mv (.t s6))⟩
    (.one ⟨some s110, none, (.len false (.t s109))⟩
    (.one ⟨some s111, none, (.bin false .lss (.t s108) (.t s110))⟩
    .done)))))
  (.cond (.t s111) .skip (.exit 2)))
  (.seq (.block 3 (.seq (.reg (.one ⟨some s114, none, (.mv (.t s6))⟩
    (.one ⟨some s115, none, (.mv (.t s16))⟩
    (.one ⟨some s116, none, (.iaddr 1 (.t s114) (.t s115))⟩
    (.one ⟨some s117, none, (.load none (.t s116))⟩
    .done)))))
  (.cond (.t s117) (.seq (.reg (.one ⟨some s118, none, (.build [(.v (.int .i64 0)), (.slice 4 [] .full)] [])⟩
    (.one ⟨none, none, (.store 2 (.t s4) (.t s118))⟩
    (.one ⟨some s5, none, (.mv (.c (.v (.int .i64 3))))⟩
    .done))))
  .ret) .skip)))
  (.reg (.one ⟨some s112, none, (.mv (.t s16))⟩
    (.one ⟨some s113, none, (.bin false .add (.t s112) (.c (.v (.int .i64 1))))⟩
    (.one ⟨some s16, none, (.mv (.t s113))⟩
    .done)))))))))
  (.seq (.reg (.one ⟨some s119, none, (.load (some 2) (.t s10))⟩
    (.one ⟨none, none, (.store 2 (.t s4) (.t s119))⟩
    (.one ⟨some s5, none, (.mv (.c (.v (.int .i64 0))))⟩
    .done))))
  .ret)))))))))))))))⟩
theorem ok49 : compF Try.prog c49 Try.f49 = some ir49 := by kernel_rfl
theorem k_bowlineref11_Read {args : List AVal} {σ : AHeap} {Q : AVal → AHeap → Prop} (hl : Nat.ble args.length 120 = true) (h : argsK (Env.full 9) 0 args fun env => evC Try.prog c49 ir49.body env σ (retQ ir49 Q)) : ACalls Try.prog 49 args σ Q :=
  acalls_of Try.func49 ok49 rfl (Nat.le_of_ble_eq_true hl) h
/- bowlineref11.Same -/
def c50 : Cfg := ⟨qs, [], 38, []⟩
def ir50 : IFun := ⟨2, [.tmp s4],
  (.seq (.reg (.one ⟨some s2, none, (.box 2 (.t s0))⟩
    (.one ⟨some s3, none, (.box 2 (.t s1))⟩
    (.one ⟨some s4, none, (.mv (.c (.v (.bool false))))⟩
    .done))))
  (.seq (.seq (.reg (.one ⟨some s6, none, (.faddr 0 (.t s2))⟩
    (.one ⟨some s7, none, (.load none (.t s6))⟩
    (.one ⟨some s8, none, (.faddr 0 (.t s3))⟩
    (.one ⟨some s9, none, (.load none (.t s8))⟩
    (.one ⟨some s10, none, (.bin false .neq (.t s7) (.t s9))⟩
    (.one ⟨some s11, none, (.mv (.t s10))⟩
    (.one ⟨some s12, some (s11, false), (.faddr 1 (.t s2))⟩
    (.one ⟨some s13, some (s11, false), (.load none (.t s12))⟩
    (.one ⟨some s14, some (s11, false), (.len false (.t s13))⟩
    (.one ⟨some s15, some (s11, false), (.faddr 1 (.t s3))⟩
    (.one ⟨some s16, some (s11, false), (.load none (.t s15))⟩
    (.one ⟨some s17, some (s11, false), (.len false (.t s16))⟩
    (.one ⟨some s18, some (s11, false), (.bin false .neq (.t s14) (.t s17))⟩
    (.one ⟨some s19, none, (.pick (.t s11) (.c (.v (.bool true))) (.t s18))⟩
    .done)))))))))))))))
  (.cond (.t s19) (.seq (.reg (.one ⟨some s4, none, (.mv (.c (.v (.bool false))))⟩
    .done))
  .ret) .skip))
  (.seq (.seq (.reg (.one ⟨some s5, none, (.mv (.c (.v (.int .i64 0))))⟩
    .done))
  (.block 0 (.loop (.seq (.seq (.reg (.one ⟨some s20, none, (.mv (.t s5))⟩
    (.one ⟨some s21, none, (.faddr 1 (.t s2))⟩
    (.one ⟨some s22, none, (.load none (.t s21))⟩
    (.one ⟨some s23, none, (.len false (.t s22))⟩
    (.one ⟨some s24, none, (.bin false .lss (.t s20) (.t s23))⟩
    .done))))))
  (.cond (.t s24) .skip (.exit 0)))
  (.seq (.block 1 (.seq (.reg (.one ⟨some s27, none, (.faddr 1 (.t s2))⟩
    (.one ⟨some s28, none, (.load none (.t s27))⟩
    (.one ⟨some s29, none, (.mv (.t s5))⟩
    (.one ⟨some s30, none, (.iaddr 4 (.t s28) (.t s29))⟩
    (.one ⟨some s31, none, (.load (some 4) (.t s30))⟩
    (.one ⟨some s32, none, (.faddr 1 (.t s3))⟩
    (.one ⟨some s33, none, (.load none (.t s32))⟩
    (.one ⟨some s34, none, (.mv (.t s5))⟩
    (.one ⟨some s35, none, (.iaddr 4 (.t s33) (.t s34))⟩
    (.one ⟨some s36, none, (.load (some 4) (.t s35))⟩
    (.one ⟨some s37, none, (.eqAgg true [false, true, false, false] (.t s31) (.t s36))⟩
    .done))))))))))))
  (.cond (.t s37) (.seq (.reg (.one ⟨some s4, none, (.mv (.c (.v (.bool false))))⟩
    .done))
  .ret) .skip)))
  (.reg (.one ⟨some s25, none, (.mv (.t s5))⟩
    (.one ⟨some s26, none, (.bin false .add (.t s25) (.c (.v (.int .i64 1))))⟩
    (.one ⟨some s5, none, (.mv (.t s26))⟩
    .done)))))))))
  (.seq (.reg (.one ⟨some s4, none, (.mv (.c (.v (.bool true))))⟩
    .done))
  .ret))))⟩
theorem ok50 : compF Try.prog c50 Try.f50 = some ir50 := by kernel_rfl
theorem k_bowlineref11_Same {args : List AVal} {σ : AHeap} {Q : AVal → AHeap → Prop} (hl : Nat.ble args.length 38 = true) (h : argsK (Env.full 9) 0 args fun env => evC Try.prog c50 ir50.body env σ (retQ ir50 Q)) : ACalls Try.prog 50 args σ Q :=
  acalls_of Try.func50 ok50 rfl (Nat.le_of_ble_eq_true hl) h
/- bowlineref11.Right -/
def c55 : Cfg := ⟨qs, [], 40, []⟩
def ir55 : IFun := ⟨2, [.tmp s4],
  (.seq (.reg (.one ⟨some s2, none, (.box 2 (.t s0))⟩
    (.one ⟨some s4, none, (.mv (.c (.v (.bool false))))⟩
    .done)))
  (.seq (.seq (.reg (.one ⟨some s6, none, (.mv (.t s1))⟩
    (.one ⟨some s7, none, (.bin false .neq (.t s6) (.c (.v (.int .i64 10))))⟩
    (.one ⟨some s8, none, (.mv (.t s7))⟩
    (.one ⟨some s9, some (s8, true), (.mv (.t s1))⟩
    (.one ⟨some s10, some (s8, true), (.bin false .neq (.t s9) (.c (.v (.int .i64 16))))⟩
    (.one ⟨some s11, none, (.pick (.t s8) (.t s10) (.c (.v (.bool false))))⟩
    (.one ⟨some s12, none, (.mv (.t s11))⟩
    (.one ⟨some s13, some (s12, false), (.mv (.t s1))⟩
    (.one ⟨some s14, some (s12, false), (.faddr 0 (.t s2))⟩
    (.one ⟨some s15, some (s12, false), (.load none (.t s14))⟩
    (.one ⟨some s16, some (s12, false), (.callq 89 [(.t s13), (.t s15)])⟩
    (.one ⟨some s17, some (s12, false), (.not (.t s16))⟩
    (.one ⟨some s18, none, (.pick (.t s12) (.c (.v (.bool true))) (.t s17))⟩
    (.one ⟨some s19, none, (.mv (.t s18))⟩
    (.one ⟨some s20, some (s19, false), (.faddr 1 (.t s2))⟩
    (.one ⟨some s21, some (s19, false), (.load none (.t s20))⟩
    (.one ⟨some s22, some (s19, false), (.len false (.t s21))⟩
    (.one ⟨some s23, some (s19, false), (.bin false .gtr (.t s22) (.c (.v (.int .i64 32))))⟩
    (.one ⟨some s24, none, (.pick (.t s19) (.c (.v (.bool true))) (.t s23))⟩
    .done))))))))))))))))))))
  (.cond (.t s24) (.seq (.reg (.one ⟨some s4, none, (.mv (.c (.v (.bool false))))⟩
    .done))
  .ret) .skip))
  (.seq (.seq (.reg (.one ⟨some s5, none, (.mv (.c (.v (.int .i64 0))))⟩
    .done))
  (.block 0 (.loop (.seq (.seq (.reg (.one ⟨some s25, none, (.mv (.t s5))⟩
    (.one ⟨some s26, none, (.faddr 1 (.t s2))⟩
    (.one ⟨some s27, none, (.load none (.t s26))⟩
    (.one ⟨some s28, none, (.len false (.t s27))⟩
    (.one ⟨some s29, none, (.bin false .lss (.t s25) (.t s28))⟩
    .done))))))
  (.cond (.t s29) .skip (.exit 0)))
  (.seq (.block 1 (.seq (.reg (.one ⟨some s32, none, (.faddr 1 (.t s2))⟩
    (.one ⟨some s33, none, (.load none (.t s32))⟩
    (.one ⟨some s34, none, (.mv (.t s5))⟩
    (.one ⟨some s35, none, (.iaddr 4 (.t s33) (.t s34))⟩
    (.one ⟨some s36, none, (.load (some 4) (.t s35))⟩
    (.one ⟨some s37, none, (.mv (.t s1))⟩
    (.one ⟨some s38, none, (.callq 100 [(.t s36), (.t s37)])⟩
    (.one ⟨some s39, none, (.not (.t s38))⟩
    .done)))))))))
  (.cond (.t s39) (.seq (.reg (.one ⟨some s4, none, (.mv (.c (.v (.bool false))))⟩
    .done))
  .ret) .skip)))
  (.reg (.one ⟨some s30, none, (.mv (.t s5))⟩
    (.one ⟨some s31, none, (.bin false .add (.t s30) (.c (.v (.int .i64 1))))⟩
    (.one ⟨some s5, none, (.mv (.t s31))⟩
    .done)))))))))
  (.seq (.reg (.one ⟨some s4, none, (.mv (.c (.v (.bool true))))⟩
    .done))
  .ret))))⟩
theorem ok55 : compF Try.prog c55 Try.f55 = some ir55 := by kernel_rfl
theorem k_bowlineref11_Right {args : List AVal} {σ : AHeap} {Q : AVal → AHeap → Prop} (hl : Nat.ble args.length 40 = true) (h : argsK (Env.full 9) 0 args fun env => evC Try.prog c55 ir55.body env σ (retQ ir55 Q)) : ACalls Try.prog 55 args σ Q :=
  acalls_of Try.func55 ok55 rfl (Nat.le_of_ble_eq_true hl) h
/- bowlineref11.Size -/
def c56 : Cfg := ⟨qs, [], 13, []⟩
def ir56 : IFun := ⟨2, [.tmp s4],
  (.seq (.reg (.one ⟨some s2, none, (.box 2 (.t s0))⟩
    (.one ⟨some s4, none, (.mv (.c (.v (.int .i64 0))))⟩
    .done)))
  (.seq (.seq (.reg (.one ⟨some s5, none, (.load (some 2) (.t s2))⟩
    (.one ⟨some s6, none, (.mv (.t s1))⟩
    (.one ⟨some s7, none, (.callq 55 [(.t s5), (.t s6)])⟩
    (.one ⟨some s8, none, (.not (.t s7))⟩
    .done)))))
  (.cond (.t s8) (.seq (.reg (.one ⟨some s4, none, (.mv (.c (.v (.int .i64 0))))⟩
    .done))
  .ret) .skip))
  (.seq (.reg (.one ⟨some s9, none, (.load (some 2) (.t s2))⟩
    (.one ⟨some s10, none, (.mv (.t s1))⟩
    (.one ⟨some s11, none, (.callq 58 [(.t s9), (.t s10)])⟩
    (.one ⟨some s12, none, (.len false (.t s11))⟩
    (.one ⟨some s4, none, (.mv (.t s12))⟩
    .done))))))
  .ret)))⟩
theorem ok56 : compF Try.prog c56 Try.f56 = some ir56 := by kernel_rfl
theorem k_bowlineref11_Size {args : List AVal} {σ : AHeap} {Q : AVal → AHeap → Prop} (hl : Nat.ble args.length 13 = true) (h : argsK (Env.full 9) 0 args fun env => evC Try.prog c56 ir56.body env σ (retQ ir56 Q)) : ACalls Try.prog 56 args σ Q :=
  acalls_of Try.func56 ok56 rfl (Nat.le_of_ble_eq_true hl) h
/- bowlineref11.Write -/
def c58 : Cfg := ⟨qs, [], 90, []⟩
def ir58 : IFun := ⟨2, [.tmp s4],
  (.seq (.reg (.one ⟨some s2, none, (.box 2 (.t s0))⟩
    (.one ⟨some s4, none, (.mv (.c (.slice 1 [] .full)))⟩
    .done)))
  (.seq (.reg (.one ⟨some s9, none, (.row 1 [(.c (.v (.bool false))), (.c (.v (.bool false))), (.c (.v (.bool false))), (.c (.v (.bool false)))])⟩
    (.one ⟨some s5, none, (.mv (.t s9))⟩
    .done)))
  (.seq (.reg (.one ⟨some s11, none, (.mv (.t s5))⟩
    (.one ⟨some s12, none, (.faddr 0 (.t s2))⟩
    (.one ⟨some s13, none, (.load none (.t s12))⟩
    (.one ⟨some s14, none, (.conv .u64 (.t s13))⟩
    (.one ⟨some s15, none, (.mv (.t s1))⟩
    (.one ⟨some s16, none, (.callq 110 [(.t s11), (.t s14), (.t s15)])⟩
    (.one ⟨some s10, none, (.mv (.t s16))⟩
    (.one ⟨some s17, none, (.ext (.t s10) 0)⟩
    (.one ⟨some s18, none, (.ext (.t s10) 1)⟩
    (.one ⟨some s5, none, (.mv (.t s17))⟩
    .done)))))))))))
  (.seq (.reg (.one ⟨some s19, none, (.mv (.t s5))⟩
    (.one ⟨some s20, none, (.faddr 1 (.t s2))⟩
    (.one ⟨some s21, none, (.load none (.t s20))⟩
    (.one ⟨some s22, none, (.len false (.t s21))⟩
    (.one ⟨some s23, none, (.bin false .gtr (.t s22) (.c (.v (.int .i64 0))))⟩
    (.one ⟨some s24, none, (.row 1 [(.t s23)])⟩
    (.one ⟨some s25, none, (.app 1 1 (.t s19) (.t s24))⟩
    (.one ⟨some s5, none, (.mv (.t s25))⟩
    .done)))))))))
  (.seq (.seq (.reg (.one ⟨some s6, none, (.mv (.c (.v (.int .i64 0))))⟩
    .done))
  (.block 0 (.loop (.seq (.seq (.reg (.one ⟨some s26, none, (.mv (.t s6))⟩
    (.one ⟨some s27, none, (.faddr 1 (.t s2))⟩
    (.one ⟨some s28, none, (.load none (.t s27))⟩
    (.one ⟨some s29, none, (.len false (.t s28))⟩
    (.one ⟨some s30, none, (.bin false .lss (.t s26) (.t s29))⟩
    .done))))))
  (.cond (.t s30) .skip (.exit 0)))
  (.seq (.block 1 (.seq (.reg (.one ⟨some s33, none, (.faddr 1 (.t s2))⟩
    (.one ⟨some s34, none, (.load none (.t s33))⟩
    (.one ⟨some s35, none, (.mv (.t s6))⟩
    (.one ⟨some s36, none, (.iaddr 4 (.t s34) (.t s35))⟩
    (.one ⟨some s37, none, (.load (some 4) (.t s36))⟩
    (.one ⟨some s7, none, (.new [(.v (.int .i64 0)), (.v (.bool false)), (.v (.int .i64 0)), (.v (.int .i64 0))])⟩
    (.one ⟨none, none, (.store 4 (.t s7) (.t s37))⟩
    .done))))))))
  (.seq (.reg (.one ⟨some s39, none, (.mv (.t s5))⟩
    (.one ⟨some s40, none, (.faddr 0 (.t s7))⟩
    (.one ⟨some s41, none, (.load none (.t s40))⟩
    (.one ⟨some s42, none, (.conv .u64 (.t s41))⟩
    (.one ⟨some s43, none, (.mv (.t s1))⟩
    (.one ⟨some s44, none, (.callq 110 [(.t s39), (.t s42), (.t s43)])⟩
    (.one ⟨some s38, none, (.mv (.t s44))⟩
    (.one ⟨some s45, none, (.ext (.t s38) 0)⟩
    (.one ⟨some s46, none, (.ext (.t s38) 1)⟩
    (.one ⟨some s5, none, (.mv (.t s45))⟩
    .done)))))))))))
  (.seq (.reg (.one ⟨some s47, none, (.mv (.t s5))⟩
    (.one ⟨some s48, none, (.mv (.t s6))⟩
    (.one ⟨some s49, none, (.bin false .add (.t s48) (.c (.v (.int .i64 1))))⟩
    (.one ⟨some s50, none, (.faddr 1 (.t s2))⟩
    (.one ⟨some s51, none, (.load none (.t s50))⟩
    (.one ⟨some s52, none, (.len false (.t s51))⟩
    (.one ⟨some s53, none, (.bin false .lss (.t s49) (.t s52))⟩
    (.one ⟨some s54, none, (.faddr 1 (.t s7))⟩
    (.one ⟨some s55, none, (.load none (.t s54))⟩
    (.one ⟨some s56, none, (.row 1 [(.t s53), (.t s55)])⟩
    (.one ⟨some s57, none, (.app 1 1 (.t s47) (.t s56))⟩
    (.one ⟨some s5, none, (.mv (.t s57))⟩
    .done)))))))))))))
  (.seq (.reg (.one ⟨some s58, none, (.faddr 1 (.t s7))⟩
    (.one ⟨some s59, none, (.load none (.t s58))⟩
    .done)))
  (.cond (.t s59) (.seq (.reg (.one ⟨some s60, none, (.faddr 3 (.t s7))⟩
    (.one ⟨some s61, none, (.load none (.t s60))⟩
    (.one ⟨some s62, none, (.bin false .sub (.t s61) (.c (.v (.int .i64 1))))⟩
    (.one ⟨some s8, none, (.mv (.t s62))⟩
    .done)))))
  (.seq (.seq (.reg (.one ⟨some s63, none, (.faddr 3 (.t s7))⟩
    (.one ⟨some s64, none, (.load none (.t s63))⟩
    (.one ⟨some s65, none, (.bin false .eql (.t s64) (.c (.v (.int .i64 0))))⟩
    .done))))
  (.cond (.t s65) (.reg (.one ⟨some s66, none, (.mv (.t s1))⟩
    (.one ⟨some s67, none, (.callq 111 [(.t s66)])⟩
    (.one ⟨some s68, none, (.bin false .sub (.t s67) (.c (.v (.int .i64 1))))⟩
    (.one ⟨some s8, none, (.mv (.t s68))⟩
    .done))))) .skip))
  (.seq (.reg (.one ⟨some s70, none, (.mv (.t s5))⟩
    (.one ⟨some s71, none, (.faddr 2 (.t s7))⟩
    (.one ⟨some s72, none, (.load none (.t s71))⟩
    (.one ⟨some s73, none, (.conv .u64 (.t s72))⟩
    (.one ⟨some s74, none, (.mv (.t s1))⟩
    (.one ⟨some s75, none, (.callq 112 [(.t s74)])⟩
    (.one ⟨some s76, none, (.callq 110 [(.t s70), (.t s73), (.t s75)])⟩
    (.one ⟨some s69, none, (.mv (.t s76))⟩
    (.one ⟨some s77, none, (.ext (.t s69) 0)⟩
    (.one ⟨some s78, none, (.ext (.t s69) 1)⟩
    (.one ⟨some s5, none, (.mv (.t s77))⟩
    .done))))))))))))
  (.reg (.one ⟨some s80, none, (.mv (.t s5))⟩
    (.one ⟨some s81, none, (.mv (.t s8))⟩
    (.one ⟨some s82, none, (.conv .u64 (.t s81))⟩
    (.one ⟨some s83, none, (.mv (.t s1))⟩
    (.one ⟨some s84, none, (.callq 112 [(.t s83)])⟩
    (.one ⟨some s85, none, (.callq 110 [(.t s80), (.t s82), (.t s84)])⟩
    (.one ⟨some s79, none, (.mv (.t s85))⟩
    (.one ⟨some s86, none, (.ext (.t s79) 0)⟩
    (.one ⟨some s87, none, (.ext (.t s79) 1)⟩
    (.one ⟨some s5, none, (.mv (.t s86))⟩
    .done)))))))))))))) .skip))))))
  (.reg (.one ⟨some s31, none, (.mv (.t s6))⟩
    (.one ⟨some s32, none, (.bin false .add (.t s31) (.c (.v (.int .i64 1))))⟩
    (.one ⟨some s6, none, (.mv (.t s32))⟩
    .done)))))))))
  (.seq (.reg (.one ⟨some s88, none, (.mv (.t s5))⟩
    (.one ⟨some s89, none, (.callq 113 [(.t s88)])⟩
    (.one ⟨some s4, none, (.mv (.t s89))⟩
    .done))))
  .ret))))))⟩
theorem ok58 : compF Try.prog c58 Try.f58 = some ir58 := by kernel_rfl
theorem k_bowlineref11_Write {args : List AVal} {σ : AHeap} {Q : AVal → AHeap → Prop} (hl : Nat.ble args.length 90 = true) (h : argsK (Env.full 9) 0 args fun env => evC Try.prog c58 ir58.body env σ (retQ ir58 Q)) : ACalls Try.prog 58 args σ Q :=
  acalls_of Try.func58 ok58 rfl (Nat.le_of_ble_eq_true hl) h
/- bowlineref11.miss -/
def c99 : Cfg := ⟨qs, [], 97, []⟩
def ir99 : IFun := ⟨3, [.cell s6 (some 4), .tmp s7, .tmp s8, .tmp s9],
  (.seq (.reg (.one ⟨some s6, none, (.new [(.v (.int .i64 0)), (.v (.bool false)), (.v (.int .i64 0)), (.v (.int .i64 0))])⟩
    (.one ⟨some s7, none, (.mv (.c (.v (.bool false))))⟩
    (.one ⟨some s8, none, (.mv (.c (.v (.int .i64 0))))⟩
    (.one ⟨some s9, none, (.mv (.c (.v (.bool false))))⟩
    .done)))))
  (.seq (.seq (.reg (.one ⟨some s18, none, (.mv (.t s0))⟩
    (.one ⟨some s19, none, (.len false (.t s18))⟩
    (.one ⟨some s20, none, (.mv (.t s1))⟩
    (.one ⟨some s21, none, (.bin false .sub (.t s19) (.t s20))⟩
    (.one ⟨some s22, none, (.mv (.t s2))⟩
    (.one ⟨some s23, none, (.bin false .add (.t s22) (.c (.v (.int .i64 2))))⟩
    (.one ⟨some s24, none, (.bin false .lss (.t s21) (.t s23))⟩
    .done))))))))
  (.cond (.t s24) (.seq (.reg (.one ⟨some s25, none, (.build [(.v (.int .i64 0)), (.v (.bool false)), (.v (.int .i64 0)), (.v (.int .i64 0))] [])⟩
    (.one ⟨none, none, (.store 4 (.t s6) (.t s25))⟩
    (.one ⟨some s7, none, (.mv (.c (.v (.bool false))))⟩
    (.one ⟨some s8, none, (.mv (.c (.v (.int .i64 0))))⟩
    (.one ⟨some s9, none, (.mv (.c (.v (.bool false))))⟩
    .done))))))
  .ret) .skip))
  (.seq (.reg (.one ⟨some s27, none, (.mv (.t s0))⟩
    (.one ⟨some s28, none, (.mv (.t s1))⟩
    (.one ⟨some s29, none, (.mv (.t s2))⟩
    (.one ⟨some s30, none, (.callq 98 [(.t s27), (.t s28), (.t s29)])⟩
    (.one ⟨some s26, none, (.mv (.t s30))⟩
    (.one ⟨some s31, none, (.ext (.t s26) 0)⟩
    (.one ⟨some s32, none, (.ext (.t s26) 1)⟩
    (.one ⟨some s33, none, (.ext (.t s26) 2)⟩
    (.one ⟨some s10, none, (.mv (.t s31))⟩
    (.one ⟨some s1, none, (.mv (.t s32))⟩
    (.one ⟨some s11, none, (.mv (.t s33))⟩
    .done))))))))))))
  (.seq (.reg (.one ⟨some s34, none, (.mv (.t s10))⟩
    (.one ⟨some s35, none, (.conv .i64 (.t s34))⟩
    (.one ⟨some s36, none, (.mv (.t s0))⟩
    (.one ⟨some s37, none, (.mv (.t s1))⟩
    (.one ⟨some s38, none, (.bin false .add (.t s37) (.c (.v (.int .i64 1))))⟩
    (.one ⟨some s39, none, (.iaddr 1 (.t s36) (.t s38))⟩
    (.one ⟨some s40, none, (.load none (.t s39))⟩
    (.one ⟨some s41, none, (.build [(.v (.int .i64 0)), (.v (.bool false)), (.v (.int .i64 0)), (.v (.int .i64 0))] [(0, 1, (.t s35)), (1, 1, (.t s40))])⟩
    (.one ⟨some s12, none, (.new [(.v (.int .i64 0)), (.v (.bool false)), (.v (.int .i64 0)), (.v (.int .i64 0))])⟩
    (.one ⟨none, none, (.store 4 (.t s12) (.t s41))⟩
    .done)))))))))))
  (.seq (.reg (.one ⟨some s42, none, (.mv (.t s0))⟩
    (.one ⟨some s43, none, (.mv (.t s1))⟩
    (.one ⟨some s44, none, (.iaddr 1 (.t s42) (.t s43))⟩
    (.one ⟨some s45, none, (.load none (.t s44))⟩
    (.one ⟨some s13, none, (.mv (.t s45))⟩
    .done))))))
  (.seq (.reg (.one ⟨some s46, none, (.mv (.t s1))⟩
    (.one ⟨some s47, none, (.bin false .add (.t s46) (.c (.v (.int .i64 2))))⟩
    (.one ⟨some s1, none, (.mv (.t s47))⟩
    .done))))
  (.seq (.seq (.reg (.one ⟨some s48, none, (.faddr 1 (.t s12))⟩
    (.one ⟨some s49, none, (.load none (.t s48))⟩
    (.one ⟨some s50, none, (.not (.t s49))⟩
    .done))))
  (.cond (.t s50) (.seq (.reg (.one ⟨some s51, none, (.load (some 4) (.t s12))⟩
    (.one ⟨some s52, none, (.mv (.t s13))⟩
    (.one ⟨some s53, none, (.mv (.t s1))⟩
    (.one ⟨none, none, (.store 4 (.t s6) (.t s51))⟩
    (.one ⟨some s7, none, (.mv (.t s52))⟩
    (.one ⟨some s8, none, (.mv (.t s53))⟩
    (.one ⟨some s9, none, (.mv (.c (.v (.bool true))))⟩
    .done))))))))
  .ret) .skip))
  (.seq (.seq (.reg (.one ⟨some s54, none, (.mv (.t s0))⟩
    (.one ⟨some s55, none, (.len false (.t s54))⟩
    (.one ⟨some s56, none, (.mv (.t s1))⟩
    (.one ⟨some s57, none, (.bin false .sub (.t s55) (.t s56))⟩
    (.one ⟨some s58, none, (.mv (.t s2))⟩
    (.one ⟨some s59, none, (.callq 112 [(.t s58)])⟩
    (.one ⟨some s60, none, (.bin false .mul (.c (.v (.int .i64 2))) (.t s59))⟩
    (.one ⟨some s61, none, (.bin false .lss (.t s57) (.t s60))⟩
    .done)))))))))
  (.cond (.t s61) (.seq (.reg (.one ⟨some s62, none, (.build [(.v (.int .i64 0)), (.v (.bool false)), (.v (.int .i64 0)), (.v (.int .i64 0))] [])⟩
    (.one ⟨none, none, (.store 4 (.t s6) (.t s62))⟩
    (.one ⟨some s7, none, (.mv (.c (.v (.bool false))))⟩
    (.one ⟨some s8, none, (.mv (.c (.v (.int .i64 0))))⟩
    (.one ⟨some s9, none, (.mv (.c (.v (.bool false))))⟩
    .done))))))
  .ret) .skip))
  (.seq (.reg (.one ⟨some s64, none, (.mv (.t s0))⟩
    (.one ⟨some s65, none, (.mv (.t s1))⟩
    (.one ⟨some s66, none, (.mv (.t s2))⟩
    (.one ⟨some s67, none, (.callq 112 [(.t s66)])⟩
    (.one ⟨some s68, none, (.callq 98 [(.t s64), (.t s65), (.t s67)])⟩
    (.one ⟨some s63, none, (.mv (.t s68))⟩
    (.one ⟨some s69, none, (.ext (.t s63) 0)⟩
    (.one ⟨some s70, none, (.ext (.t s63) 1)⟩
    (.one ⟨some s71, none, (.ext (.t s63) 2)⟩
    (.one ⟨some s14, none, (.mv (.t s69))⟩
    (.one ⟨some s1, none, (.mv (.t s70))⟩
    (.one ⟨some s15, none, (.mv (.t s71))⟩
    .done)))))))))))))
  (.seq (.reg (.one ⟨some s73, none, (.mv (.t s0))⟩
    (.one ⟨some s74, none, (.mv (.t s1))⟩
    (.one ⟨some s75, none, (.mv (.t s2))⟩
    (.one ⟨some s76, none, (.callq 112 [(.t s75)])⟩
    (.one ⟨some s77, none, (.callq 98 [(.t s73), (.t s74), (.t s76)])⟩
    (.one ⟨some s72, none, (.mv (.t s77))⟩
    (.one ⟨some s78, none, (.ext (.t s72) 0)⟩
    (.one ⟨some s79, none, (.ext (.t s72) 1)⟩
    (.one ⟨some s80, none, (.ext (.t s72) 2)⟩
    (.one ⟨some s16, none, (.mv (.t s78))⟩
    (.one ⟨some s1, none, (.mv (.t s79))⟩
    (.one ⟨some s17, none, (.mv (.t s80))⟩
    .done)))))))))))))
  (.seq (.reg (.one ⟨some s81, none, (.mv (.t s14))⟩
    (.one ⟨some s82, none, (.conv .i64 (.t s81))⟩
    (.one ⟨some s83, none, (.mv (.t s16))⟩
    (.one ⟨some s84, none, (.conv .i64 (.t s83))⟩
    (.one ⟨some s85, none, (.bin false .add (.t s84) (.c (.v (.int .i64 1))))⟩
    (.one ⟨some s86, none, (.faddr 2 (.t s12))⟩
    (.one ⟨none, none, (.store 1 (.t s86) (.t s82))⟩
    (.one ⟨some s87, none, (.faddr 3 (.t s12))⟩
    (.one ⟨none, none, (.store 1 (.t s87) (.t s85))⟩
    .done))))))))))
  (.seq (.seq (.reg (.one ⟨some s88, none, (.faddr 3 (.t s12))⟩
    (.one ⟨some s89, none, (.load none (.t s88))⟩
    (.one ⟨some s90, none, (.mv (.t s2))⟩
    (.one ⟨some s91, none, (.callq 111 [(.t s90)])⟩
    (.one ⟨some s92, none, (.bin false .eql (.t s89) (.t s91))⟩
    .done))))))
  (.cond (.t s92) (.reg (.one ⟨some s93, none, (.faddr 3 (.t s12))⟩
    (.one ⟨none, none, (.store 1 (.t s93) (.c (.v (.int .i64 0))))⟩
    .done))) .skip))
  (.seq (.reg (.one ⟨some s94, none, (.load (some 4) (.t s12))⟩
    (.one ⟨some s95, none, (.mv (.t s13))⟩
    (.one ⟨some s96, none, (.mv (.t s1))⟩
    (.one ⟨none, none, (.store 4 (.t s6) (.t s94))⟩
    (.one ⟨some s7, none, (.mv (.t s95))⟩
    (.one ⟨some s8, none, (.mv (.t s96))⟩
    (.one ⟨some s9, none, (.mv (.c (.v (.bool true))))⟩
    .done))))))))
  .ret)))))))))))))⟩
theorem ok99 : compF Try.prog c99 Try.f99 = some ir99 := by kernel_rfl
theorem k_bowlineref11_miss {args : List AVal} {σ : AHeap} {Q : AVal → AHeap → Prop} (hl : Nat.ble args.length 97 = true) (h : argsK (Env.full 9) 0 args fun env => evC Try.prog c99 ir99.body env σ (retQ ir99 Q)) : ACalls Try.prog 99 args σ Q :=
  acalls_of Try.func99 ok99 rfl (Nat.le_of_ble_eq_true hl) h
/- bowlineref11.IsMiss -/
def c100 : Cfg := ⟨qs, [], 48, []⟩
def ir100 : IFun := ⟨2, [.tmp s4],
  (.seq (.reg (.one ⟨some s2, none, (.box 4 (.t s0))⟩
    (.one ⟨some s4, none, (.mv (.c (.v (.bool false))))⟩
    .done)))
  (.seq (.seq (.reg (.one ⟨some s5, none, (.mv (.t s1))⟩
    (.one ⟨some s6, none, (.faddr 0 (.t s2))⟩
    (.one ⟨some s7, none, (.load none (.t s6))⟩
    (.one ⟨some s8, none, (.callq 89 [(.t s5), (.t s7)])⟩
    (.one ⟨some s9, none, (.not (.t s8))⟩
    .done))))))
  (.cond (.t s9) (.seq (.reg (.one ⟨some s4, none, (.mv (.c (.v (.bool false))))⟩
    .done))
  .ret) .skip))
  (.seq (.seq (.reg (.one ⟨some s10, none, (.faddr 1 (.t s2))⟩
    (.one ⟨some s11, none, (.load none (.t s10))⟩
    (.one ⟨some s12, none, (.not (.t s11))⟩
    .done))))
  (.cond (.t s12) (.seq (.reg (.one ⟨some s13, none, (.faddr 2 (.t s2))⟩
    (.one ⟨some s14, none, (.load none (.t s13))⟩
    (.one ⟨some s15, none, (.bin false .eql (.t s14) (.c (.v (.int .i64 0))))⟩
    (.one ⟨some s16, none, (.mv (.t s15))⟩
    (.one ⟨some s17, some (s16, true), (.faddr 3 (.t s2))⟩
    (.one ⟨some s18, some (s16, true), (.load none (.t s17))⟩
    (.one ⟨some s19, some (s16, true), (.bin false .eql (.t s18) (.c (.v (.int .i64 0))))⟩
    (.one ⟨some s20, none, (.pick (.t s16) (.t s19) (.c (.v (.bool false))))⟩
    (.one ⟨some s4, none, (.mv (.t s20))⟩
    .done))))))))))
  .ret) .skip))
  (.seq (.seq (.reg (.one ⟨some s21, none, (.faddr 2 (.t s2))⟩
    (.one ⟨some s22, none, (.load none (.t s21))⟩
    (.one ⟨some s23, none, (.bin false .lss (.t s22) (.c (.v (.int .i64 0))))⟩
    (.one ⟨some s24, none, (.mv (.t s23))⟩
    (.one ⟨some s25, some (s24, false), (.faddr 2 (.t s2))⟩
    (.one ⟨some s26, some (s24, false), (.load none (.t s25))⟩
    (.one ⟨some s27, some (s24, false), (.mv (.t s1))⟩
    (.one ⟨some s28, some (s24, false), (.callq 111 [(.t s27)])⟩
    (.one ⟨some s29, some (s24, false), (.bin false .geq (.t s26) (.t s28))⟩
    (.one ⟨some s30, none, (.pick (.t s24) (.c (.v (.bool true))) (.t s29))⟩
    .done)))))))))))
  (.cond (.t s30) (.seq (.reg (.one ⟨some s4, none, (.mv (.c (.v (.bool false))))⟩
    .done))
  .ret) .skip))
  (.seq (.reg (.one ⟨some s31, none, (.faddr 3 (.t s2))⟩
    (.one ⟨some s32, none, (.load none (.t s31))⟩
    (.one ⟨some s33, none, (.bin false .eql (.t s32) (.c (.v (.int .i64 0))))⟩
    (.one ⟨some s34, none, (.mv (.t s33))⟩
    (.one ⟨some s35, some (s34, false), (.faddr 3 (.t s2))⟩
    (.one ⟨some s36, some (s34, false), (.load none (.t s35))⟩
    (.one ⟨some s37, some (s34, false), (.faddr 2 (.t s2))⟩
    (.one ⟨some s38, some (s34, false), (.load none (.t s37))⟩
    (.one ⟨some s39, some (s34, false), (.bin false .gtr (.t s36) (.t s38))⟩
    (.one ⟨some s40, some (s34, false), (.mv (.t s39))⟩
    (.one ⟨some s41, some (s40, true), (.faddr 3 (.t s2))⟩
    (.one ⟨some s42, some (s40, true), (.load none (.t s41))⟩
    (.one ⟨some s43, some (s40, true), (.mv (.t s1))⟩
    (.one ⟨some s44, some (s40, true), (.callq 111 [(.t s43)])⟩
    (.one ⟨some s45, some (s40, true), (.bin false .lss (.t s42) (.t s44))⟩
    (.one ⟨some s46, some (s34, false), (.pick (.t s40) (.t s45) (.c (.v (.bool false))))⟩
    (.one ⟨some s47, none, (.pick (.t s34) (.c (.v (.bool true))) (.t s46))⟩
    (.one ⟨some s4, none, (.mv (.t s47))⟩
    .done)))))))))))))))))))
  .ret)))))⟩
theorem ok100 : compF Try.prog c100 Try.f100 = some ir100 := by kernel_rfl
theorem k_bowlineref11_IsMiss {args : List AVal} {σ : AHeap} {Q : AVal → AHeap → Prop} (hl : Nat.ble args.length 48 = true) (h : argsK (Env.full 9) 0 args fun env => evC Try.prog c100 ir100.body env σ (retQ ir100 Q)) : ACalls Try.prog 100 args σ Q :=
  acalls_of Try.func100 ok100 rfl (Nat.le_of_ble_eq_true hl) h
/- bowlineref11.places -/
def c111 : Cfg := ⟨qs, [], 8, []⟩
def ir111 : IFun := ⟨1, [.tmp s2],
  (.seq (.reg (.one ⟨some s2, none, (.mv (.c (.v (.int .i64 0))))⟩
    .done))
  (.seq (.reg (.one ⟨some s3, none, (.mv (.t s0))⟩
    (.one ⟨some s4, none, (.callq 112 [(.t s3)])⟩
    (.one ⟨some s5, none, (.bin false .sub (.t s4) (.c (.v (.int .i64 1))))⟩
    (.one ⟨some s6, none, (.callq 36 [(.t s5)])⟩
    (.one ⟨some s7, none, (.bin false .mul (.t s6) (.c (.v (.int .i64 2))))⟩
    (.one ⟨some s2, none, (.mv (.t s7))⟩
    .done)))))))
  .ret))⟩
theorem ok111 : compF Try.prog c111 Try.f111 = some ir111 := by kernel_rfl
theorem k_bowlineref11_places {args : List AVal} {σ : AHeap} {Q : AVal → AHeap → Prop} (hl : Nat.ble args.length 8 = true) (h : argsK (Env.full 9) 0 args fun env => evC Try.prog c111 ir111.body env σ (retQ ir111 Q)) : ACalls Try.prog 111 args σ Q :=
  acalls_of Try.func111 ok111 rfl (Nat.le_of_ble_eq_true hl) h
/- bowlineref11.offset -/
def c112 : Cfg := ⟨qs, [], 5, []⟩
def ir112 : IFun := ⟨1, [.tmp s2],
  (.seq (.reg (.one ⟨some s2, none, (.mv (.c (.v (.int .i64 0))))⟩
    .done))
  (.seq (.seq (.reg (.one ⟨some s3, none, (.mv (.t s0))⟩
    (.one ⟨some s4, none, (.bin false .eql (.t s3) (.c (.v (.int .i64 10))))⟩
    .done)))
  (.cond (.t s4) (.seq (.reg (.one ⟨some s2, none, (.mv (.c (.v (.int .i64 15))))⟩
    .done))
  .ret) .skip))
  (.seq (.reg (.one ⟨some s2, none, (.mv (.c (.v (.int .i64 16))))⟩
    .done))
  .ret)))⟩
theorem ok112 : compF Try.prog c112 Try.f112 = some ir112 := by kernel_rfl
theorem k_bowlineref11_offset {args : List AVal} {σ : AHeap} {Q : AVal → AHeap → Prop} (hl : Nat.ble args.length 5 = true) (h : argsK (Env.full 9) 0 args fun env => evC Try.prog c112 ir112.body env σ (retQ ir112 Q)) : ACalls Try.prog 112 args σ Q :=
  acalls_of Try.func112 ok112 rfl (Nat.le_of_ble_eq_true hl) h
end Go.Proofs.Ytnfdgccmpglbhaa
/-
  The document's statuses: which may be, which are equal.
-/
namespace Go.Proofs.Ytnfdgccmpglbhaa
set_option linter.unusedVariables false
set_option linter.unusedSimpArgs false
open Go Go.Am

theorem refOffset (w : Int) (σ : AHeap) : ACalls Try.prog i_bowlineref11_offset [i64v w] σ fun v σ' => v = i64v (offW w) ∧ σ' = σ := by
  refine k_bowlineref11_offset rfl ?_
  ((conv => whnf); (repeat ((first | with_reducible refine abr_true rfl ?_ | with_reducible refine abr_false rfl ?_ | with_reducible refine abr_yes rfl ?_ | refine abr_yes (by decide) ?_ | refine abr_no (by decide) ?_ | with_reducible refine abr_same_ne ?_); (conv => whnf))))
  by_cases h : w = 10
  · (repeat ((first | refine aload (by (repeat (first | with_reducible exact upd_same _ _ _ | assumption | rw [upd_ne _ _ (by first | assumption | (apply Ne.symm; assumption))]))) rfl ?_ | refine afit_i64 (by omega) ?_ | refine arem_nonneg (by omega) (by omega) ?_ | refine adiv_i64 (by omega) (by omega) ?_ | refine abr_yes (by omega) ?_ | refine abr_no (by omega) ?_ | refine amin ?_ | refine amax ?_ | refine afit_u64 (by omega) ?_ | refine afit_u8 (by omega) ?_ | rw [List.length_map]); ((conv => whnf); (repeat ((first | with_reducible refine abr_true rfl ?_ | with_reducible refine abr_false rfl ?_ | with_reducible refine abr_yes rfl ?_ | refine abr_yes (by decide) ?_ | refine abr_no (by decide) ?_ | with_reducible refine abr_same_ne ?_); (conv => whnf))))))
    exact aret_same ⟨by unfold offW; rw [if_pos h]; rfl, rfl⟩
  · (repeat ((first | refine aload (by (repeat (first | with_reducible exact upd_same _ _ _ | assumption | rw [upd_ne _ _ (by first | assumption | (apply Ne.symm; assumption))]))) rfl ?_ | refine afit_i64 (by omega) ?_ | refine arem_nonneg (by omega) (by omega) ?_ | refine adiv_i64 (by omega) (by omega) ?_ | refine abr_yes (by omega) ?_ | refine abr_no (by omega) ?_ | refine amin ?_ | refine amax ?_ | refine afit_u64 (by omega) ?_ | refine afit_u8 (by omega) ?_ | rw [List.length_map]); ((conv => whnf); (repeat ((first | with_reducible refine abr_true rfl ?_ | with_reducible refine abr_false rfl ?_ | with_reducible refine abr_yes rfl ?_ | refine abr_yes (by decide) ?_ | refine abr_no (by decide) ?_ | with_reducible refine abr_same_ne ?_); (conv => whnf))))))
    exact aret_same ⟨by unfold offW; rw [if_neg h]; rfl, rfl⟩
theorem refPlaces (w : Int) (σ : AHeap) : ACalls Try.prog i_bowlineref11_places [i64v w] σ fun v σ' => v = i64v (plcs w) ∧ σ' = σ := by
  refine k_bowlineref11_places rfl ?_
  ((conv => whnf); (repeat ((first | with_reducible refine abr_true rfl ?_ | with_reducible refine abr_false rfl ?_ | with_reducible refine abr_yes rfl ?_ | refine abr_yes (by decide) ?_ | refine abr_no (by decide) ?_ | with_reducible refine abr_same_ne ?_); (conv => whnf))))
  refine acall (refOffset w _) ?_
  rintro _ σ_ ⟨rfl, e_⟩
  obtain rfl := e_.symm
  refine ⟨?_, Ext.refl _⟩
  ((conv => whnf); (repeat ((first | with_reducible refine abr_true rfl ?_ | with_reducible refine abr_false rfl ?_ | with_reducible refine abr_yes rfl ?_ | refine abr_yes (by decide) ?_ | refine abr_no (by decide) ?_ | with_reducible refine abr_same_ne ?_); (conv => whnf))))
  have hoff := offW_le w
  (repeat ((first | refine aload (by (repeat (first | with_reducible exact upd_same _ _ _ | assumption | rw [upd_ne _ _ (by first | assumption | (apply Ne.symm; assumption))]))) rfl ?_ | refine afit_i64 (by omega) ?_ | refine arem_nonneg (by omega) (by omega) ?_ | refine adiv_i64 (by omega) (by omega) ?_ | refine abr_yes (by omega) ?_ | refine abr_no (by omega) ?_ | refine amin ?_ | refine amax ?_ | refine afit_u64 (by omega) ?_ | refine afit_u8 (by omega) ?_ | rw [List.length_map]); ((conv => whnf); (repeat ((first | with_reducible refine abr_true rfl ?_ | with_reducible refine abr_false rfl ?_ | with_reducible refine abr_yes rfl ?_ | refine abr_yes (by decide) ?_ | refine abr_no (by decide) ?_ | with_reducible refine abr_same_ne ?_); (conv => whnf))))))
  refine acall (refSize02 ((offW w : Int) - 1) _) ?_
  rintro _ σ_ ⟨rfl, e_⟩
  obtain rfl := e_.symm
  refine ⟨?_, Ext.refl _⟩
  ((conv => whnf); (repeat ((first | with_reducible refine abr_true rfl ?_ | with_reducible refine abr_false rfl ?_ | with_reducible refine abr_yes rfl ?_ | refine abr_yes (by decide) ?_ | refine abr_no (by decide) ?_ | with_reducible refine abr_same_ne ?_); (conv => whnf))))
  have h2 : spaceSize ((offW w : Int) - 1) * 2 = plcs w := by
    unfold plcs offW
    split <;> decide
  have h3 := spaceSize_le ((offW w : Int) - 1)
  refine afit_i64 (by omega) ?_
  rw [h2]
  ((conv => whnf); (repeat ((first | with_reducible refine abr_true rfl ?_ | with_reducible refine abr_false rfl ?_ | with_reducible refine abr_yes rfl ?_ | refine abr_yes (by decide) ?_ | refine abr_no (by decide) ?_ | with_reducible refine abr_same_ne ?_); (conv => whnf))))
  exact aret_same ⟨rfl, rfl⟩
set_option maxRecDepth 20000 in
theorem refIsMiss (m : Ms) (w : Int) (σ : AHeap) : ACalls Try.prog i_bowlineref11_IsMiss [msV m, i64v w] σ fun v σ' => v = boolv (missOk w m) ∧ σ' = σ := by
  obtain ⟨sn, part, fr, to⟩ := m
  refine k_bowlineref11_IsMiss rfl ?_
  ((conv => whnf); (repeat ((first | with_reducible refine abr_true rfl ?_ | with_reducible refine abr_false rfl ?_ | with_reducible refine abr_yes rfl ?_ | refine abr_yes (by decide) ?_ | refine abr_no (by decide) ?_ | with_reducible refine abr_same_ne ?_); (conv => whnf))))
  refine anew rfl fun i1 h1 => ?_
  have hs : Sub (upd σ i1 (.cells (msV (sn, part, fr, to)).cells)) σ := Sub.upd_fresh _ h1
  have k1 : upd σ i1 (.cells (msV (sn, part, fr, to)).cells) i1 = some (.cells [i64v sn, boolv part, i64v fr, i64v to]) := upd_same _ _ _
  generalize upd σ i1 (.cells (msV (sn, part, fr, to)).cells) = τ at *
  ((conv => whnf); (repeat ((first | with_reducible refine abr_true rfl ?_ | with_reducible refine abr_false rfl ?_ | with_reducible refine abr_yes rfl ?_ | refine abr_yes (by decide) ?_ | refine abr_no (by decide) ?_ | with_reducible refine abr_same_ne ?_); (conv => whnf))))
  refine aload k1 rfl ?_
  ((conv => whnf); (repeat ((first | with_reducible refine abr_true rfl ?_ | with_reducible refine abr_false rfl ?_ | with_reducible refine abr_yes rfl ?_ | refine abr_yes (by decide) ?_ | refine abr_no (by decide) ?_ | with_reducible refine abr_same_ne ?_); (conv => whnf))))
  refine acall (refIs02 w sn _) ?_
  rintro _ σ_ ⟨rfl, e_⟩
  obtain rfl := e_.symm
  refine ⟨?_, Ext.refl _⟩
  ((conv => whnf); (repeat ((first | with_reducible refine abr_true rfl ?_ | with_reducible refine abr_false rfl ?_ | with_reducible refine abr_yes rfl ?_ | refine abr_yes (by decide) ?_ | refine abr_no (by decide) ?_ | with_reducible refine abr_same_ne ?_); (conv => whnf))))
  cases hsn : isNum w sn
  · ((conv => whnf); (repeat ((first | with_reducible refine abr_true rfl ?_ | with_reducible refine abr_false rfl ?_ | with_reducible refine abr_yes rfl ?_ | refine abr_yes (by decide) ?_ | refine abr_no (by decide) ?_ | with_reducible refine abr_same_ne ?_); (conv => whnf))))
    exact aret (VLe.refl _) hs ⟨by unfold missOk; dsimp only; rw [hsn]; rfl, rfl⟩
  have hM : missOk w (sn, part, fr, to) = if part = true then decide (0 ≤ fr ∧ fr < plcs w ∧ (to = 0 ∨ fr < to ∧ to < plcs w)) else decide (fr = 0 ∧ to = 0) := by unfold missOk; dsimp only; rw [hsn]; rfl
  rw [hM]
  ((conv => whnf); (repeat ((first | with_reducible refine abr_true rfl ?_ | with_reducible refine abr_false rfl ?_ | with_reducible refine abr_yes rfl ?_ | refine abr_yes (by decide) ?_ | refine abr_no (by decide) ?_ | with_reducible refine abr_same_ne ?_); (conv => whnf))))
  refine aload k1 rfl ?_
  ((conv => whnf); (repeat ((first | with_reducible refine abr_true rfl ?_ | with_reducible refine abr_false rfl ?_ | with_reducible refine abr_yes rfl ?_ | refine abr_yes (by decide) ?_ | refine abr_no (by decide) ?_ | with_reducible refine abr_same_ne ?_); (conv => whnf))))
  cases part
  · rw [if_neg (by decide)]
    ((conv => whnf); (repeat ((first | with_reducible refine abr_true rfl ?_ | with_reducible refine abr_false rfl ?_ | with_reducible refine abr_yes rfl ?_ | refine abr_yes (by decide) ?_ | refine abr_no (by decide) ?_ | with_reducible refine abr_same_ne ?_); (conv => whnf))))
    refine aload k1 rfl ?_
    ((conv => whnf); (repeat ((first | with_reducible refine abr_true rfl ?_ | with_reducible refine abr_false rfl ?_ | with_reducible refine abr_yes rfl ?_ | refine abr_yes (by decide) ?_ | refine abr_no (by decide) ?_ | with_reducible refine abr_same_ne ?_); (conv => whnf))))
    by_cases c1 : fr = 0
    · (repeat ((first | refine aload (by (repeat (first | with_reducible exact upd_same _ _ _ | assumption | rw [upd_ne _ _ (by first | assumption | (apply Ne.symm; assumption))]))) rfl ?_ | refine afit_i64 (by omega) ?_ | refine arem_nonneg (by omega) (by omega) ?_ | refine adiv_i64 (by omega) (by omega) ?_ | refine abr_yes (by omega) ?_ | refine abr_no (by omega) ?_ | refine amin ?_ | refine amax ?_ | refine afit_u64 (by omega) ?_ | refine afit_u8 (by omega) ?_ | rw [List.length_map]); ((conv => whnf); (repeat ((first | with_reducible refine abr_true rfl ?_ | with_reducible refine abr_false rfl ?_ | with_reducible refine abr_yes rfl ?_ | refine abr_yes (by decide) ?_ | refine abr_no (by decide) ?_ | with_reducible refine abr_same_ne ?_); (conv => whnf))))))
      exact aret (VLe.refl _) hs ⟨congrArg boolv (dec_congr (by omega)), rfl⟩
    · (repeat ((first | refine aload (by (repeat (first | with_reducible exact upd_same _ _ _ | assumption | rw [upd_ne _ _ (by first | assumption | (apply Ne.symm; assumption))]))) rfl ?_ | refine afit_i64 (by omega) ?_ | refine arem_nonneg (by omega) (by omega) ?_ | refine adiv_i64 (by omega) (by omega) ?_ | refine abr_yes (by omega) ?_ | refine abr_no (by omega) ?_ | refine amin ?_ | refine amax ?_ | refine afit_u64 (by omega) ?_ | refine afit_u8 (by omega) ?_ | rw [List.length_map]); ((conv => whnf); (repeat ((first | with_reducible refine abr_true rfl ?_ | with_reducible refine abr_false rfl ?_ | with_reducible refine abr_yes rfl ?_ | refine abr_yes (by decide) ?_ | refine abr_no (by decide) ?_ | with_reducible refine abr_same_ne ?_); (conv => whnf))))))
      exact aret (VLe.refl _) hs ⟨congrArg boolv (decide_eq_false (by omega)).symm, rfl⟩
  · rw [if_pos rfl]
    ((conv => whnf); (repeat ((first | with_reducible refine abr_true rfl ?_ | with_reducible refine abr_false rfl ?_ | with_reducible refine abr_yes rfl ?_ | refine abr_yes (by decide) ?_ | refine abr_no (by decide) ?_ | with_reducible refine abr_same_ne ?_); (conv => whnf))))
    refine aload k1 rfl ?_
    ((conv => whnf); (repeat ((first | with_reducible refine abr_true rfl ?_ | with_reducible refine abr_false rfl ?_ | with_reducible refine abr_yes rfl ?_ | refine abr_yes (by decide) ?_ | refine abr_no (by decide) ?_ | with_reducible refine abr_same_ne ?_); (conv => whnf))))
    by_cases c1 : fr < 0
    · (repeat ((first | refine aload (by (repeat (first | with_reducible exact upd_same _ _ _ | assumption | rw [upd_ne _ _ (by first | assumption | (apply Ne.symm; assumption))]))) rfl ?_ | refine afit_i64 (by omega) ?_ | refine arem_nonneg (by omega) (by omega) ?_ | refine adiv_i64 (by omega) (by omega) ?_ | refine abr_yes (by omega) ?_ | refine abr_no (by omega) ?_ | refine amin ?_ | refine amax ?_ | refine afit_u64 (by omega) ?_ | refine afit_u8 (by omega) ?_ | rw [List.length_map]); ((conv => whnf); (repeat ((first | with_reducible refine abr_true rfl ?_ | with_reducible refine abr_false rfl ?_ | with_reducible refine abr_yes rfl ?_ | refine abr_yes (by decide) ?_ | refine abr_no (by decide) ?_ | with_reducible refine abr_same_ne ?_); (conv => whnf))))))
      exact aret (VLe.refl _) hs ⟨congrArg boolv (decide_eq_false (by omega)).symm, rfl⟩
    (repeat ((first | refine aload (by (repeat (first | with_reducible exact upd_same _ _ _ | assumption | rw [upd_ne _ _ (by first | assumption | (apply Ne.symm; assumption))]))) rfl ?_ | refine afit_i64 (by omega) ?_ | refine arem_nonneg (by omega) (by omega) ?_ | refine adiv_i64 (by omega) (by omega) ?_ | refine abr_yes (by omega) ?_ | refine abr_no (by omega) ?_ | refine amin ?_ | refine amax ?_ | refine afit_u64 (by omega) ?_ | refine afit_u8 (by omega) ?_ | rw [List.length_map]); ((conv => whnf); (repeat ((first | with_reducible refine abr_true rfl ?_ | with_reducible refine abr_false rfl ?_ | with_reducible refine abr_yes rfl ?_ | refine abr_yes (by decide) ?_ | refine abr_no (by decide) ?_ | with_reducible refine abr_same_ne ?_); (conv => whnf))))))
    refine acall (refPlaces w _) ?_
    rintro _ σ_ ⟨rfl, e_⟩
    obtain rfl := e_.symm
    refine ⟨?_, Ext.refl _⟩
    ((conv => whnf); (repeat ((first | with_reducible refine abr_true rfl ?_ | with_reducible refine abr_false rfl ?_ | with_reducible refine abr_yes rfl ?_ | refine abr_yes (by decide) ?_ | refine abr_no (by decide) ?_ | with_reducible refine abr_same_ne ?_); (conv => whnf))))
    by_cases c2 : fr ≥ plcs w
    · (repeat ((first | refine aload (by (repeat (first | with_reducible exact upd_same _ _ _ | assumption | rw [upd_ne _ _ (by first | assumption | (apply Ne.symm; assumption))]))) rfl ?_ | refine afit_i64 (by omega) ?_ | refine arem_nonneg (by omega) (by omega) ?_ | refine adiv_i64 (by omega) (by omega) ?_ | refine abr_yes (by omega) ?_ | refine abr_no (by omega) ?_ | refine amin ?_ | refine amax ?_ | refine afit_u64 (by omega) ?_ | refine afit_u8 (by omega) ?_ | rw [List.length_map]); ((conv => whnf); (repeat ((first | with_reducible refine abr_true rfl ?_ | with_reducible refine abr_false rfl ?_ | with_reducible refine abr_yes rfl ?_ | refine abr_yes (by decide) ?_ | refine abr_no (by decide) ?_ | with_reducible refine abr_same_ne ?_); (conv => whnf))))))
      exact aret (VLe.refl _) hs ⟨congrArg boolv (decide_eq_false (by omega)).symm, rfl⟩
    (repeat ((first | refine aload (by (repeat (first | with_reducible exact upd_same _ _ _ | assumption | rw [upd_ne _ _ (by first | assumption | (apply Ne.symm; assumption))]))) rfl ?_ | refine afit_i64 (by omega) ?_ | refine arem_nonneg (by omega) (by omega) ?_ | refine adiv_i64 (by omega) (by omega) ?_ | refine abr_yes (by omega) ?_ | refine abr_no (by omega) ?_ | refine amin ?_ | refine amax ?_ | refine afit_u64 (by omega) ?_ | refine afit_u8 (by omega) ?_ | rw [List.length_map]); ((conv => whnf); (repeat ((first | with_reducible refine abr_true rfl ?_ | with_reducible refine abr_false rfl ?_ | with_reducible refine abr_yes rfl ?_ | refine abr_yes (by decide) ?_ | refine abr_no (by decide) ?_ | with_reducible refine abr_same_ne ?_); (conv => whnf))))))
    by_cases c3 : to = 0
    · (repeat ((first | refine aload (by (repeat (first | with_reducible exact upd_same _ _ _ | assumption | rw [upd_ne _ _ (by first | assumption | (apply Ne.symm; assumption))]))) rfl ?_ | refine afit_i64 (by omega) ?_ | refine arem_nonneg (by omega) (by omega) ?_ | refine adiv_i64 (by omega) (by omega) ?_ | refine abr_yes (by omega) ?_ | refine abr_no (by omega) ?_ | refine amin ?_ | refine amax ?_ | refine afit_u64 (by omega) ?_ | refine afit_u8 (by omega) ?_ | rw [List.length_map]); ((conv => whnf); (repeat ((first | with_reducible refine abr_true rfl ?_ | with_reducible refine abr_false rfl ?_ | with_reducible refine abr_yes rfl ?_ | refine abr_yes (by decide) ?_ | refine abr_no (by decide) ?_ | with_reducible refine abr_same_ne ?_); (conv => whnf))))))
      exact aret (VLe.refl _) hs ⟨congrArg boolv (decide_eq_true (by omega)).symm, rfl⟩
    (repeat ((first | refine aload (by (repeat (first | with_reducible exact upd_same _ _ _ | assumption | rw [upd_ne _ _ (by first | assumption | (apply Ne.symm; assumption))]))) rfl ?_ | refine afit_i64 (by omega) ?_ | refine arem_nonneg (by omega) (by omega) ?_ | refine adiv_i64 (by omega) (by omega) ?_ | refine abr_yes (by omega) ?_ | refine abr_no (by omega) ?_ | refine amin ?_ | refine amax ?_ | refine afit_u64 (by omega) ?_ | refine afit_u8 (by omega) ?_ | rw [List.length_map]); ((conv => whnf); (repeat ((first | with_reducible refine abr_true rfl ?_ | with_reducible refine abr_false rfl ?_ | with_reducible refine abr_yes rfl ?_ | refine abr_yes (by decide) ?_ | refine abr_no (by decide) ?_ | with_reducible refine abr_same_ne ?_); (conv => whnf))))))
    by_cases c4 : to > fr
    · (repeat ((first | refine aload (by (repeat (first | with_reducible exact upd_same _ _ _ | assumption | rw [upd_ne _ _ (by first | assumption | (apply Ne.symm; assumption))]))) rfl ?_ | refine afit_i64 (by omega) ?_ | refine arem_nonneg (by omega) (by omega) ?_ | refine adiv_i64 (by omega) (by omega) ?_ | refine abr_yes (by omega) ?_ | refine abr_no (by omega) ?_ | refine amin ?_ | refine amax ?_ | refine afit_u64 (by omega) ?_ | refine afit_u8 (by omega) ?_ | rw [List.length_map]); ((conv => whnf); (repeat ((first | with_reducible refine abr_true rfl ?_ | with_reducible refine abr_false rfl ?_ | with_reducible refine abr_yes rfl ?_ | refine abr_yes (by decide) ?_ | refine abr_no (by decide) ?_ | with_reducible refine abr_same_ne ?_); (conv => whnf))))))
      refine acall (refPlaces w _) ?_
      rintro _ σ_ ⟨rfl, e_⟩
      obtain rfl := e_.symm
      refine ⟨?_, Ext.refl _⟩
      ((conv => whnf); (repeat ((first | with_reducible refine abr_true rfl ?_ | with_reducible refine abr_false rfl ?_ | with_reducible refine abr_yes rfl ?_ | refine abr_yes (by decide) ?_ | refine abr_no (by decide) ?_ | with_reducible refine abr_same_ne ?_); (conv => whnf))))
      exact aret (VLe.refl _) hs ⟨congrArg boolv (dec_congr (by omega)), rfl⟩
    · (repeat ((first | refine aload (by (repeat (first | with_reducible exact upd_same _ _ _ | assumption | rw [upd_ne _ _ (by first | assumption | (apply Ne.symm; assumption))]))) rfl ?_ | refine afit_i64 (by omega) ?_ | refine arem_nonneg (by omega) (by omega) ?_ | refine adiv_i64 (by omega) (by omega) ?_ | refine abr_yes (by omega) ?_ | refine abr_no (by omega) ?_ | refine amin ?_ | refine amax ?_ | refine afit_u64 (by omega) ?_ | refine afit_u8 (by omega) ?_ | rw [List.length_map]); ((conv => whnf); (repeat ((first | with_reducible refine abr_true rfl ?_ | with_reducible refine abr_false rfl ?_ | with_reducible refine abr_yes rfl ?_ | refine abr_yes (by decide) ?_ | refine abr_no (by decide) ?_ | with_reducible refine abr_same_ne ?_); (conv => whnf))))))
      exact aret (VLe.refl _) hs ⟨congrArg boolv (decide_eq_false (by omega)).symm, rfl⟩
set_option maxRecDepth 20000 in
theorem refStRight (s : Int × List Ms) (t : Tok) (w : Int) (σ : AHeap) (hl : s.2.length ≤ 9223372036854775807) : ACalls Try.prog i_bowlineref11_Right [stV t s, i64v w] σ fun v σ' => v = boolv (stOk w s) ∧ σ' = σ := by
  obtain ⟨ack, l⟩ := s
  dsimp only at hl
  refine k_bowlineref11_Right rfl ?_
  ((conv => whnf); (repeat ((first | with_reducible refine abr_true rfl ?_ | with_reducible refine abr_false rfl ?_ | with_reducible refine abr_yes rfl ?_ | refine abr_yes (by decide) ?_ | refine abr_no (by decide) ?_ | with_reducible refine abr_same_ne ?_); (conv => whnf))))
  refine anew rfl fun i1 h1 => ?_
  have k1 : upd σ i1 (.cells (stV t (ack, l)).cells) i1 = some (.cells [i64v ack, missV t l]) := upd_same _ _ _
  have hs : Sub (upd σ i1 (.cells (stV t (ack, l)).cells)) σ := Sub.upd_fresh _ h1
  generalize upd σ i1 (.cells (stV t (ack, l)).cells) = τ at *
  ((conv => whnf); (repeat ((first | with_reducible refine abr_true rfl ?_ | with_reducible refine abr_false rfl ?_ | with_reducible refine abr_yes rfl ?_ | refine abr_yes (by decide) ?_ | refine abr_no (by decide) ?_ | with_reducible refine abr_same_ne ?_); (conv => whnf))))
  by_cases hw : w = 10 ∨ w = 16
  case neg =>
    have hno : stOk w (ack, l) = false := by unfold stOk; rw [show stWidth w = false from decide_eq_false hw]; rfl
    have c1 : ¬ w = 10 := fun e => hw (.inl e)
    have c2 : ¬ w = 16 := fun e => hw (.inr e)
    rw [hno]
    (repeat ((first | refine aload (by (repeat (first | with_reducible exact upd_same _ _ _ | assumption | rw [upd_ne _ _ (by first | assumption | (apply Ne.symm; assumption))]))) rfl ?_ | refine afit_i64 (by omega) ?_ | refine arem_nonneg (by omega) (by omega) ?_ | refine adiv_i64 (by omega) (by omega) ?_ | refine abr_yes (by omega) ?_ | refine abr_no (by omega) ?_ | refine amin ?_ | refine amax ?_ | refine afit_u64 (by omega) ?_ | refine afit_u8 (by omega) ?_ | rw [List.length_map]); ((conv => whnf); (repeat ((first | with_reducible refine abr_true rfl ?_ | with_reducible refine abr_false rfl ?_ | with_reducible refine abr_yes rfl ?_ | refine abr_yes (by decide) ?_ | refine abr_no (by decide) ?_ | with_reducible refine abr_same_ne ?_); (conv => whnf))))))
    exact aret (VLe.refl _) hs ⟨rfl, rfl⟩
  have hsw : stWidth w = true := decide_eq_true hw
  apply via_loop (fun b Q => isNum w ack = true → l.length ≤ 32 → setsK (Env.full 9) [(s1, i64v w), (s2, .ptr i1 0), (s5, i64v 0)] fun e => ALoop Try.prog c55 b e τ Q)
  case f =>
    intro hK
    have hno (h : isNum w ack = false ∨ ¬ l.length ≤ 32) : stOk w (ack, l) = false := by
      unfold stOk; dsimp only
      rcases h with h | h
      · rw [h, Bool.and_false]; rfl
      · rw [decide_eq_false h, Bool.and_false]; rfl
    by_cases c1 : w = 10
    all_goals
      (repeat ((first | refine aload (by (repeat (first | with_reducible exact upd_same _ _ _ | assumption | rw [upd_ne _ _ (by first | assumption | (apply Ne.symm; assumption))]))) rfl ?_ | refine afit_i64 (by omega) ?_ | refine arem_nonneg (by omega) (by omega) ?_ | refine adiv_i64 (by omega) (by omega) ?_ | refine abr_yes (by omega) ?_ | refine abr_no (by omega) ?_ | refine amin ?_ | refine amax ?_ | refine afit_u64 (by omega) ?_ | refine afit_u8 (by omega) ?_ | rw [List.length_map]); ((conv => whnf); (repeat ((first | with_reducible refine abr_true rfl ?_ | with_reducible refine abr_false rfl ?_ | with_reducible refine abr_yes rfl ?_ | refine abr_yes (by decide) ?_ | refine abr_no (by decide) ?_ | with_reducible refine abr_same_ne ?_); (conv => whnf))))))
      refine acall (refIs02 w ack _) ?_
      rintro _ σ_ ⟨rfl, e_⟩
      obtain rfl := e_.symm
      refine ⟨?_, Ext.refl _⟩
      ((conv => whnf); (repeat ((first | with_reducible refine abr_true rfl ?_ | with_reducible refine abr_false rfl ?_ | with_reducible refine abr_yes rfl ?_ | refine abr_yes (by decide) ?_ | refine abr_no (by decide) ?_ | with_reducible refine abr_same_ne ?_); (conv => whnf))))
      cases ha : isNum w ack
      · ((conv => whnf); (repeat ((first | with_reducible refine abr_true rfl ?_ | with_reducible refine abr_false rfl ?_ | with_reducible refine abr_yes rfl ?_ | refine abr_yes (by decide) ?_ | refine abr_no (by decide) ?_ | with_reducible refine abr_same_ne ?_); (conv => whnf))))
        exact aret (VLe.refl _) hs ⟨by rw [hno (.inl ha)], rfl⟩
      ((conv => whnf); (repeat ((first | with_reducible refine abr_true rfl ?_ | with_reducible refine abr_false rfl ?_ | with_reducible refine abr_yes rfl ?_ | refine abr_yes (by decide) ?_ | refine abr_no (by decide) ?_ | with_reducible refine abr_same_ne ?_); (conv => whnf))))
      refine aload k1 rfl ?_
      ((conv => whnf); (repeat ((first | with_reducible refine abr_true rfl ?_ | with_reducible refine abr_false rfl ?_ | with_reducible refine abr_yes rfl ?_ | refine abr_yes (by decide) ?_ | refine abr_no (by decide) ?_ | with_reducible refine abr_same_ne ?_); (conv => whnf))))
      rw [List.length_map]
      by_cases c3 : l.length > 32
      · (repeat ((first | refine aload (by (repeat (first | with_reducible exact upd_same _ _ _ | assumption | rw [upd_ne _ _ (by first | assumption | (apply Ne.symm; assumption))]))) rfl ?_ | refine afit_i64 (by omega) ?_ | refine arem_nonneg (by omega) (by omega) ?_ | refine adiv_i64 (by omega) (by omega) ?_ | refine abr_yes (by omega) ?_ | refine abr_no (by omega) ?_ | refine amin ?_ | refine amax ?_ | refine afit_u64 (by omega) ?_ | refine afit_u8 (by omega) ?_ | rw [List.length_map]); ((conv => whnf); (repeat ((first | with_reducible refine abr_true rfl ?_ | with_reducible refine abr_false rfl ?_ | with_reducible refine abr_yes rfl ?_ | refine abr_yes (by decide) ?_ | refine abr_no (by decide) ?_ | with_reducible refine abr_same_ne ?_); (conv => whnf))))))
        exact aret (VLe.refl _) hs ⟨by rw [hno (.inr (by omega))], rfl⟩
      (repeat ((first | refine aload (by (repeat (first | with_reducible exact upd_same _ _ _ | assumption | rw [upd_ne _ _ (by first | assumption | (apply Ne.symm; assumption))]))) rfl ?_ | refine afit_i64 (by omega) ?_ | refine arem_nonneg (by omega) (by omega) ?_ | refine adiv_i64 (by omega) (by omega) ?_ | refine abr_yes (by omega) ?_ | refine abr_no (by omega) ?_ | refine amin ?_ | refine amax ?_ | refine afit_u64 (by omega) ?_ | refine afit_u8 (by omega) ?_ | rw [List.length_map]); ((conv => whnf); (repeat ((first | with_reducible refine abr_true rfl ?_ | with_reducible refine abr_false rfl ?_ | with_reducible refine abr_yes rfl ?_ | refine abr_yes (by decide) ?_ | refine abr_no (by decide) ?_ | with_reducible refine abr_same_ne ?_); (conv => whnf))))))
      refine aloop_from ?_ (hK () ha (by omega))
      (repeat' first | with_reducible exact EnvLe.refl _ | (refine EnvLe.node ?_ (by first | exact Or.inl rfl | exact Or.inr (Or.inl rfl) | exact Or.inr (Or.inr ⟨nofun, VLe.slice _ _ _⟩)) ?_))
  case k =>
    intro ha h32
    have hS : stOk w (ack, l) = l.all (missOk w) := by unfold stOk; dsimp only; rw [hsw, ha, decide_eq_true h32]; rfl
    rw [hS]
    (conv => whnf)
    refine aloop (α := Nat) (fun i => [(s5, i64v i)]) (fun _ => τ) (fun i => i ≤ l.length ∧ (l.take i).all (missOk w) = true) (fun i => l.length - i) 0 ⟨Nat.zero_le _, rfl⟩ (Sub.refl _) ?_ ?_
    · ((conv => whnf); (repeat ((first | with_reducible refine abr_true rfl ?_ | with_reducible refine abr_false rfl ?_ | with_reducible refine abr_yes rfl ?_ | refine abr_yes (by decide) ?_ | refine abr_no (by decide) ?_ | with_reducible refine abr_same_ne ?_); (conv => whnf))))
      (repeat' first | with_reducible exact EnvLe.refl _ | (refine EnvLe.node ?_ (by first | exact Or.inl rfl | exact Or.inr (Or.inl rfl) | exact Or.inr (Or.inr ⟨nofun, VLe.slice _ _ _⟩)) ?_))
    rintro i ⟨hi, hall⟩
    by_cases h : i < l.length
    · ((conv => whnf); (repeat ((first | with_reducible refine abr_true rfl ?_ | with_reducible refine abr_false rfl ?_ | with_reducible refine abr_yes rfl ?_ | refine abr_yes (by decide) ?_ | refine abr_no (by decide) ?_ | with_reducible refine abr_same_ne ?_); (conv => whnf))))
      (repeat ((first | refine aload (by (repeat (first | with_reducible exact upd_same _ _ _ | assumption | rw [upd_ne _ _ (by first | assumption | (apply Ne.symm; assumption))]))) rfl ?_ | refine afit_i64 (by omega) ?_ | refine arem_nonneg (by omega) (by omega) ?_ | refine adiv_i64 (by omega) (by omega) ?_ | refine abr_yes (by omega) ?_ | refine abr_no (by omega) ?_ | refine amin ?_ | refine amax ?_ | refine afit_u64 (by omega) ?_ | refine afit_u8 (by omega) ?_ | rw [List.length_map]); ((conv => whnf); (repeat ((first | with_reducible refine abr_true rfl ?_ | with_reducible refine abr_false rfl ?_ | with_reducible refine abr_yes rfl ?_ | refine abr_yes (by decide) ?_ | refine abr_no (by decide) ?_ | with_reducible refine abr_same_ne ?_); (conv => whnf))))))
      refine aget (by omega) (get_ms h) ?_
      ((conv => whnf); (repeat ((first | with_reducible refine abr_true rfl ?_ | with_reducible refine abr_false rfl ?_ | with_reducible refine abr_yes rfl ?_ | refine abr_yes (by decide) ?_ | refine abr_no (by decide) ?_ | with_reducible refine abr_same_ne ?_); (conv => whnf))))
      refine acells (l := (msV l[i]).cells) (by exact Nat.le_refl 4) rfl ?_
      ((conv => whnf); (repeat ((first | with_reducible refine abr_true rfl ?_ | with_reducible refine abr_false rfl ?_ | with_reducible refine abr_yes rfl ?_ | refine abr_yes (by decide) ?_ | refine abr_no (by decide) ?_ | with_reducible refine abr_same_ne ?_); (conv => whnf))))
      refine acall (refIsMiss l[i] w _) ?_
      rintro _ σ_ ⟨rfl, e_⟩
      obtain rfl := e_.symm
      refine ⟨?_, Ext.refl _⟩
      ((conv => whnf); (repeat ((first | with_reducible refine abr_true rfl ?_ | with_reducible refine abr_false rfl ?_ | with_reducible refine abr_yes rfl ?_ | refine abr_yes (by decide) ?_ | refine abr_no (by decide) ?_ | with_reducible refine abr_same_ne ?_); (conv => whnf))))
      cases hm : missOk w l[i]
      · ((conv => whnf); (repeat ((first | with_reducible refine abr_true rfl ?_ | with_reducible refine abr_false rfl ?_ | with_reducible refine abr_yes rfl ?_ | refine abr_yes (by decide) ?_ | refine abr_no (by decide) ?_ | with_reducible refine abr_same_ne ?_); (conv => whnf))))
        refine aret (VLe.refl _) hs ⟨?_, rfl⟩
        have : l.all (missOk w) = false := Bool.eq_false_iff.2 fun h2 => by rw [List.all_eq_true.1 h2 _ (List.getElem_mem h)] at hm; cases hm
        rw [this]
      · ((conv => whnf); (repeat ((first | with_reducible refine abr_true rfl ?_ | with_reducible refine abr_false rfl ?_ | with_reducible refine abr_yes rfl ?_ | refine abr_yes (by decide) ?_ | refine abr_no (by decide) ?_ | with_reducible refine abr_same_ne ?_); (conv => whnf))))
        (repeat ((first | refine aload (by (repeat (first | with_reducible exact upd_same _ _ _ | assumption | rw [upd_ne _ _ (by first | assumption | (apply Ne.symm; assumption))]))) rfl ?_ | refine afit_i64 (by omega) ?_ | refine arem_nonneg (by omega) (by omega) ?_ | refine adiv_i64 (by omega) (by omega) ?_ | refine abr_yes (by omega) ?_ | refine abr_no (by omega) ?_ | refine amin ?_ | refine amax ?_ | refine afit_u64 (by omega) ?_ | refine afit_u8 (by omega) ?_ | rw [List.length_map]); ((conv => whnf); (repeat ((first | with_reducible refine abr_true rfl ?_ | with_reducible refine abr_false rfl ?_ | with_reducible refine abr_yes rfl ?_ | refine abr_yes (by decide) ?_ | refine abr_no (by decide) ?_ | with_reducible refine abr_same_ne ?_); (conv => whnf))))))
        refine ⟨i + 1, ⟨h, ?_⟩, by omega, Sub.refl _, ?_⟩
        · rw [List.take_add_one, List.getElem?_eq_getElem h, List.all_append, hall]; simp [hm]
        · ((conv => whnf); (repeat ((first | with_reducible refine abr_true rfl ?_ | with_reducible refine abr_false rfl ?_ | with_reducible refine abr_yes rfl ?_ | refine abr_yes (by decide) ?_ | refine abr_no (by decide) ?_ | with_reducible refine abr_same_ne ?_); (conv => whnf))))
          (repeat' first | with_reducible exact EnvLe.refl _ | (refine EnvLe.node ?_ (by first | exact Or.inl rfl | exact Or.inr (Or.inl rfl) | exact Or.inr (Or.inr ⟨nofun, VLe.slice _ _ _⟩)) ?_))
    · rw [List.take_of_length_le (by omega)] at hall
      ((conv => whnf); (repeat ((first | with_reducible refine abr_true rfl ?_ | with_reducible refine abr_false rfl ?_ | with_reducible refine abr_yes rfl ?_ | refine abr_yes (by decide) ?_ | refine abr_no (by decide) ?_ | with_reducible refine abr_same_ne ?_); (conv => whnf))))
      (repeat ((first | refine aload (by (repeat (first | with_reducible exact upd_same _ _ _ | assumption | rw [upd_ne _ _ (by first | assumption | (apply Ne.symm; assumption))]))) rfl ?_ | refine afit_i64 (by omega) ?_ | refine arem_nonneg (by omega) (by omega) ?_ | refine adiv_i64 (by omega) (by omega) ?_ | refine abr_yes (by omega) ?_ | refine abr_no (by omega) ?_ | refine amin ?_ | refine amax ?_ | refine afit_u64 (by omega) ?_ | refine afit_u8 (by omega) ?_ | rw [List.length_map]); ((conv => whnf); (repeat ((first | with_reducible refine abr_true rfl ?_ | with_reducible refine abr_false rfl ?_ | with_reducible refine abr_yes rfl ?_ | refine abr_yes (by decide) ?_ | refine abr_no (by decide) ?_ | with_reducible refine abr_same_ne ?_); (conv => whnf))))))
      exact aret (VLe.refl _) hs ⟨by rw [hall], rfl⟩
end Go.Proofs.Ytnfdgccmpglbhaa
/-
  Two rights to append, apart.
-/
namespace Go.Proofs.Ytnfdgccmpglbhaa
set_option linter.unusedVariables false
set_option linter.unusedSimpArgs false
open Go Go.Am

structure Tok2 (σ σb : AHeap) (a b : Tok) : Prop where
  fa : TokIn σ σb a
  fb : TokIn σ σb b
  ne : ∀ t, a = Tok.tip t → b ≠ Tok.tip t
theorem Tok2.symm {σ σb : AHeap} {a b : Tok} (h : Tok2 σ σb a b) : Tok2 σ σb b a := ⟨h.fb, h.fa, fun t e k => h.ne t k e⟩
theorem Tok2.ext {σ σ' σb : AHeap} {a b : Tok} (h : Tok2 σ σb a b) (k : ∀ t, σ t = some .tip → σ' t = some .tip) : Tok2 σ' σb a b := ⟨h.fa.ext k, h.fb.ext k, h.ne⟩
theorem Tok2.set {σ σb : AHeap} {a b : Tok} {id : Nat} {o : AObj} (x : AObj) (h : Tok2 σ σb a b) (k : σ id = some o) (ho : o.isTip = false) : Tok2 (upd σ id x) σb a b := ⟨h.fa.set x k ho, h.fb.set x k ho, h.ne⟩
theorem Tok2.full (σ σb : AHeap) : Tok2 σ σb .full .full := ⟨.full _ _, .full _ _, nofun⟩
theorem Tok2.fresh {σ σb : AHeap} {a b : Tok} {id : Nat} (x : AObj) (h : Tok2 σ σb a b) (k : σ id = none) : Tok2 (upd σ id x) σb a b :=
  h.ext fun t ht => by rw [upd_ne]; exact ht; intro e; subst e; rw [k] at ht; cases ht
theorem aapp_2 {σ σb : AHeap} {s bytes : Nat} {xs ys : List AVal} {a b : Tok} {K : AVal → AHeap → Prop} (h : Tok2 σ σb a b) (hs : Sub σ σb) (hl : (xs.length + ys.length) * bytes ≤ 140737488355328)
    (k : ∀ t' σ', Ext σ σ' → Sub σ' σb → Tok2 σ' σb (.tip t') b → K (.slice s (xs ++ ys) (.tip t')) σ') : AApp σ s bytes xs a ys K := by
  obtain ⟨ha, hb, hne⟩ := h
  rcases ha with rfl | ⟨t, rfl, h1, h2⟩
  · refine aapp_full hl fun t ht => k t _ (Ext.upd_fresh _ ht) (sub_upd _ hs (sub_none hs ht)) ⟨.inr ⟨t, rfl, upd_same _ _ _, sub_none hs ht⟩, hb.ext fun t2 h2 => ?_, fun t2 e1 e2 => ?_⟩
    · rw [upd_ne]; exact h2; intro e; subst e; rw [ht] at h2; cases h2
    · cases e1
      rcases hb with rfl | ⟨t3, rfl, h3, _⟩
      · cases e2
      · cases e2; rw [ht] at h3; cases h3
  · refine aapp_tip h1 hl fun t' ht' => ?_
    have hb' : σb t' = none := sub_none hs ht'
    refine k t' _ (fun id o ho e => ?_) (sub_upd _ (sub_del hs h2) hb') ⟨.inr ⟨t', rfl, upd_same _ _ _, hb'⟩, ?_, fun t2 e1 e2 => ?_⟩
    · have hne : id ≠ t := fun q => by subst q; rw [h1] at e; cases e; cases ho
      have e2 : del σ t id = some o := by rw [del_ne _ hne]; exact e
      rw [upd_ne]; exact e2
      intro q; subst q; rw [e] at ht'; cases ht'
    · rcases hb with rfl | ⟨t3, rfl, h3, h4⟩
      · exact .inl rfl
      · have n1 : t3 ≠ t := fun e => hne t rfl (by rw [e])
        have n2 : t3 ≠ t' := fun e => by subst e; rw [ht'] at h3; cases h3
        exact .inr ⟨t3, rfl, by rw [upd_ne _ _ n2, del_ne _ n1]; exact h3, h4⟩
    · cases e1
      rcases hb with rfl | ⟨t3, rfl, h3, _⟩
      · cases e2
      · cases e2; rw [ht'] at h3; cases h3
end Go.Proofs.Ytnfdgccmpglbhaa
/-
  The bodies of one package, compiled to the framework's language (printed by a program of this session).
-/
namespace Go.Proofs.Ytnfdgccmpglbhaa
set_option linter.unusedVariables false
set_option linter.unusedSimpArgs false
open Go Go.Am
/- bowlinelaw11.StatusReads -/
def c9 : Cfg := ⟨qs, [], 37, []⟩
def ir9 : IFun := ⟨2, [.tmp s4],
  (.seq (.reg (.one ⟨some s4, none, (.mv (.c (.v (.bool false))))⟩
    .done))
  (.seq (.seq (.reg (.one ⟨some s9, none, (.mv (.t s0))⟩
    (.one ⟨some s10, none, (.len false (.t s9))⟩
    (.one ⟨some s11, none, (.bin false .gtr (.t s10) (.c (.v (.int .i64 400))))⟩
    .done))))
  (.cond (.t s11) (.seq (.reg (.one ⟨some s12, none, (.callq 47 [])⟩
    (.one ⟨some s4, none, (.mv (.t s12))⟩
    .done)))
  .ret) .skip))
  (.seq (.reg (.one ⟨some s14, none, (.mv (.t s0))⟩
    (.one ⟨some s15, none, (.mv (.t s1))⟩
    (.one ⟨some s16, none, (.callq 48 [(.t s14), (.t s15)])⟩
    (.one ⟨some s13, none, (.mv (.t s16))⟩
    (.one ⟨some s17, none, (.ext (.t s13) 0)⟩
    (.one ⟨some s18, none, (.ext (.t s13) 1)⟩
    (.one ⟨some s5, none, (.new [(.v (.int .i64 0)), (.slice 4 [] .full)])⟩
    (.one ⟨none, none, (.store 2 (.t s5) (.t s17))⟩
    (.one ⟨some s6, none, (.mv (.t s18))⟩
    .done))))))))))
  (.seq (.reg (.one ⟨some s20, none, (.mv (.t s0))⟩
    (.one ⟨some s21, none, (.mv (.t s1))⟩
    (.one ⟨some s22, none, (.callq 49 [(.t s20), (.t s21)])⟩
    (.one ⟨some s19, none, (.mv (.t s22))⟩
    (.one ⟨some s23, none, (.ext (.t s19) 0)⟩
    (.one ⟨some s24, none, (.ext (.t s19) 1)⟩
    (.one ⟨some s7, none, (.new [(.v (.int .i64 0)), (.slice 4 [] .full)])⟩
    (.one ⟨none, none, (.store 2 (.t s7) (.t s23))⟩
    (.one ⟨some s8, none, (.mv (.t s24))⟩
    .done))))))))))
  (.seq (.reg (.one ⟨some s25, none, (.callq 47 [])⟩
    (.one ⟨some s26, none, (.mv (.t s25))⟩
    (.one ⟨some s27, some (s26, true), (.mv (.t s6))⟩
    (.one ⟨some s28, some (s26, true), (.mv (.t s8))⟩
    (.one ⟨some s29, some (s26, true), (.bin false .eql (.t s27) (.t s28))⟩
    (.one ⟨some s30, none, (.pick (.t s26) (.t s29) (.c (.v (.bool false))))⟩
    (.one ⟨some s31, none, (.mv (.t s30))⟩
    (.one ⟨some s32, some (s31, true), (.load (some 2) (.t s5))⟩
    (.one ⟨some s34, some (s31, true), (.load (some 2) (.t s7))⟩
    (.one ⟨some s33, some (s31, true), (.callq 51 [(.t s32)])⟩
    (.one ⟨some s35, some (s31, true), (.callq 50 [(.t s33), (.t s34)])⟩
    (.one ⟨some s36, none, (.pick (.t s31) (.t s35) (.c (.v (.bool false))))⟩
    (.one ⟨some s4, none, (.mv (.t s36))⟩
    .done))))))))))))))
  .ret)))))⟩
theorem ok9 : compF Try.prog c9 Try.f9 = some ir9 := by kernel_rfl
theorem k_bowlinelaw11_StatusReads {args : List AVal} {σ : AHeap} {Q : AVal → AHeap → Prop} (hl : Nat.ble args.length 37 = true) (h : argsK (Env.full 9) 0 args fun env => evC Try.prog c9 ir9.body env σ (retQ ir9 Q)) : ACalls Try.prog 9 args σ Q :=
  acalls_of Try.func9 ok9 rfl (Nat.le_of_ble_eq_true hl) h
/- bowlinelaw11.StatusBack -/
def c10 : Cfg := ⟨qs, [], 90, []⟩
def ir10 : IFun := ⟨3, [.tmp s6],
  (.seq (.reg (.one ⟨some s3, none, (.box 2 (.t s0))⟩
    (.one ⟨some s6, none, (.mv (.c (.v (.bool false))))⟩
    .done)))
  (.seq (.seq (.reg (.one ⟨some s15, none, (.faddr 1 (.t s3))⟩
    (.one ⟨some s16, none, (.load none (.t s15))⟩
    (.one ⟨some s17, none, (.len false (.t s16))⟩
    (.one ⟨some s18, none, (.bin false .gtr (.t s17) (.c (.v (.int .i64 60))))⟩
    (.one ⟨some s19, none, (.mv (.t s18))⟩
    (.one ⟨some s20, some (s19, false), (.mv (.t s1))⟩
    (.one ⟨some s21, some (s19, false), (.len false (.t s20))⟩
    (.one ⟨some s22, some (s19, false), (.bin false .gtr (.t s21) (.c (.v (.int .i64 400))))⟩
    (.one ⟨some s23, none, (.pick (.t s19) (.c (.v (.bool true))) (.t s22))⟩
    .done))))))))))
  (.cond (.t s23) (.seq (.reg (.one ⟨some s24, none, (.callq 47 [])⟩
    (.one ⟨some s6, none, (.mv (.t s24))⟩
    .done)))
  .ret) .skip))
  (.seq (.reg (.one ⟨some s26, none, (.load (some 2) (.t s3))⟩
    (.one ⟨some s27, none, (.mv (.t s2))⟩
    (.one ⟨some s28, none, (.callq 52 [(.t s26), (.t s27)])⟩
    (.one ⟨some s25, none, (.mv (.t s28))⟩
    (.one ⟨some s29, none, (.ext (.t s25) 0)⟩
    (.one ⟨some s30, none, (.ext (.t s25) 1)⟩
    (.one ⟨some s7, none, (.mv (.t s29))⟩
    (.one ⟨some s8, none, (.mv (.t s30))⟩
    .done)))))))))
  (.seq (.seq (.reg (.one ⟨some s31, none, (.mv (.t s8))⟩
    (.one ⟨some s32, none, (.bin false .eql (.t s31) (.c (.v (.int .i64 0))))⟩
    .done)))
  (.cond (.t s32) (.seq (.reg (.one ⟨some s34, none, (.mv (.t s7))⟩
    (.one ⟨some s35, none, (.mv (.t s2))⟩
    (.one ⟨some s36, none, (.callq 48 [(.t s34), (.t s35)])⟩
    (.one ⟨some s33, none, (.mv (.t s36))⟩
    (.one ⟨some s37, none, (.ext (.t s33) 0)⟩
    (.one ⟨some s38, none, (.ext (.t s33) 1)⟩
    (.one ⟨some s9, none, (.new [(.v (.int .i64 0)), (.slice 4 [] .full)])⟩
    (.one ⟨none, none, (.store 2 (.t s9) (.t s37))⟩
    (.one ⟨some s10, none, (.mv (.t s38))⟩
    .done))))))))))
  (.seq (.reg (.one ⟨some s39, none, (.mv (.t s10))⟩
    (.one ⟨some s40, none, (.bin false .neq (.t s39) (.c (.v (.int .i64 0))))⟩
    (.one ⟨some s41, none, (.mv (.t s40))⟩
    (.one ⟨some s42, some (s41, false), (.load (some 2) (.t s3))⟩
    (.one ⟨some s44, some (s41, false), (.load (some 2) (.t s9))⟩
    (.one ⟨some s43, some (s41, false), (.callq 51 [(.t s42)])⟩
    (.one ⟨some s45, some (s41, false), (.callq 51 [(.t s44)])⟩
    (.one ⟨some s46, some (s41, false), (.callq 50 [(.t s43), (.t s45)])⟩
    (.one ⟨some s47, some (s41, false), (.not (.t s46))⟩
    (.one ⟨some s48, none, (.pick (.t s41) (.c (.v (.bool true))) (.t s47))⟩
    (.one ⟨some s49, none, (.mv (.t s48))⟩
    (.one ⟨some s50, some (s49, false), (.mv (.t s7))⟩
    (.one ⟨some s51, some (s49, false), (.len false (.t s50))⟩
    (.one ⟨some s52, some (s49, false), (.load (some 2) (.t s3))⟩
    (.one ⟨some s53, some (s49, false), (.mv (.t s2))⟩
    (.one ⟨some s54, some (s49, false), (.callq 53 [(.t s52), (.t s53)])⟩
    (.one ⟨some s55, some (s49, false), (.bin false .neq (.t s51) (.t s54))⟩
    (.one ⟨some s56, none, (.pick (.t s49) (.c (.v (.bool true))) (.t s55))⟩
    .done)))))))))))))))))))
  (.cond (.t s56) (.seq (.reg (.one ⟨some s6, none, (.mv (.c (.v (.bool false))))⟩
    .done))
  .ret) .skip))) .skip))
  (.seq (.reg (.one ⟨some s58, none, (.mv (.t s1))⟩
    (.one ⟨some s59, none, (.mv (.t s2))⟩
    (.one ⟨some s60, none, (.callq 48 [(.t s58), (.t s59)])⟩
    (.one ⟨some s57, none, (.mv (.t s60))⟩
    (.one ⟨some s61, none, (.ext (.t s57) 0)⟩
    (.one ⟨some s62, none, (.ext (.t s57) 1)⟩
    (.one ⟨some s11, none, (.new [(.v (.int .i64 0)), (.slice 4 [] .full)])⟩
    (.one ⟨none, none, (.store 2 (.t s11) (.t s61))⟩
    (.one ⟨some s12, none, (.mv (.t s62))⟩
    .done))))))))))
  (.seq (.reg (.one ⟨some s64, none, (.load (some 2) (.t s11))⟩
    (.one ⟨some s65, none, (.mv (.t s2))⟩
    (.one ⟨some s66, none, (.callq 52 [(.t s64), (.t s65)])⟩
    (.one ⟨some s63, none, (.mv (.t s66))⟩
    (.one ⟨some s67, none, (.ext (.t s63) 0)⟩
    (.one ⟨some s68, none, (.ext (.t s63) 1)⟩
    (.one ⟨some s13, none, (.mv (.t s67))⟩
    (.one ⟨some s14, none, (.mv (.t s68))⟩
    .done)))))))))
  (.seq (.reg (.one ⟨some s69, none, (.callq 47 [])⟩
    (.one ⟨some s70, none, (.mv (.t s69))⟩
    (.one ⟨some s71, some (s70, true), (.mv (.t s12))⟩
    (.one ⟨some s72, some (s70, true), (.bin false .neq (.t s71) (.c (.v (.int .i64 0))))⟩
    (.one ⟨some s73, some (s70, true), (.mv (.t s72))⟩
    (.one ⟨some s74, some (s73, false), (.load (some 2) (.t s11))⟩
    (.one ⟨some s75, some (s73, false), (.mv (.t s2))⟩
    (.one ⟨some s76, some (s73, false), (.callq 54 [(.t s74), (.t s75)])⟩
    (.one ⟨some s77, some (s73, false), (.mv (.t s76))⟩
    (.one ⟨some s78, some (s77, true), (.mv (.t s14))⟩
    (.one ⟨some s79, some (s77, true), (.bin false .eql (.t s78) (.c (.v (.int .i64 0))))⟩
    (.one ⟨some s80, some (s73, false), (.pick (.t s77) (.t s79) (.c (.v (.bool false))))⟩
    (.one ⟨some s81, some (s73, false), (.mv (.t s80))⟩
    (.one ⟨some s82, some (s81, true), (.mv (.t s13))⟩
    (.one ⟨some s83, some (s81, true), (.b2s (.t s82))⟩
    (.one ⟨some s84, some (s81, true), (.mv (.t s1))⟩
    (.one ⟨some s85, some (s81, true), (.b2s (.t s84))⟩
    (.one ⟨some s86, some (s81, true), (.bin false .eql (.t s83) (.t s85))⟩
    (.one ⟨some s87, some (s73, false), (.pick (.t s81) (.t s86) (.c (.v (.bool false))))⟩
    (.one ⟨some s88, some (s70, true), (.pick (.t s73) (.c (.v (.bool true))) (.t s87))⟩
    (.one ⟨some s89, none, (.pick (.t s70) (.t s88) (.c (.v (.bool false))))⟩
    (.one ⟨some s6, none, (.mv (.t s89))⟩
    .done)))))))))))))))))))))))
  .ret)))))))⟩
theorem ok10 : compF Try.prog c10 Try.f10 = some ir10 := by kernel_rfl
theorem k_bowlinelaw11_StatusBack {args : List AVal} {σ : AHeap} {Q : AVal → AHeap → Prop} (hl : Nat.ble args.length 90 = true) (h : argsK (Env.full 9) 0 args fun env => evC Try.prog c10 ir10.body env σ (retQ ir10 Q)) : ACalls Try.prog 10 args σ Q :=
  acalls_of Try.func10 ok10 rfl (Nat.le_of_ble_eq_true hl) h
/- bowlinelaw11.StatusGrows -/
def c11 : Cfg := ⟨qs, [], 99, []⟩
def ir11 : IFun := ⟨3, [.tmp s6],
  (.seq (.reg (.one ⟨some s3, none, (.box 2 (.t s0))⟩
    (.one ⟨some s4, none, (.box 4 (.t s1))⟩
    (.one ⟨some s6, none, (.mv (.c (.v (.bool false))))⟩
    .done))))
  (.seq (.reg (.one ⟨some s12, none, (.load (some 2) (.t s3))⟩
    (.one ⟨some s13, none, (.mv (.t s2))⟩
    (.one ⟨some s14, none, (.callq 53 [(.t s12), (.t s13)])⟩
    (.one ⟨some s7, none, (.mv (.t s14))⟩
    .done)))))
  (.seq (.seq (.reg (.one ⟨some s15, none, (.mv (.t s7))⟩
    (.one ⟨some s16, none, (.bin false .eql (.t s15) (.c (.v (.int .i64 0))))⟩
    (.one ⟨some s17, none, (.mv (.t s16))⟩
    (.one ⟨some s18, some (s17, false), (.faddr 1 (.t s3))⟩
    (.one ⟨some s19, some (s17, false), (.load none (.t s18))⟩
    (.one ⟨some s20, some (s17, false), (.len false (.t s19))⟩
    (.one ⟨some s21, some (s17, false), (.bin false .gtr (.t s20) (.c (.v (.int .i64 60))))⟩
    (.one ⟨some s22, none, (.pick (.t s17) (.c (.v (.bool true))) (.t s21))⟩
    .done)))))))))
  (.cond (.t s22) (.seq (.reg (.one ⟨some s23, none, (.callq 47 [])⟩
    (.one ⟨some s6, none, (.mv (.t s23))⟩
    .done)))
  .ret) .skip))
  (.seq (.reg (.one ⟨some s24, none, (.faddr 0 (.t s3))⟩
    (.one ⟨some s25, none, (.load none (.t s24))⟩
    (.one ⟨some s26, none, (.row 4 [])⟩
    (.one ⟨some s27, none, (.faddr 1 (.t s3))⟩
    (.one ⟨some s28, none, (.load none (.t s27))⟩
    (.one ⟨some s30, none, (.load (some 4) (.t s4))⟩
    (.one ⟨some s31, none, (.row 4 [(.t s30)])⟩
    (.both (.one ⟨some s29, none, (.app 4 32 (.t s26) (.t s28))⟩
    (.both (.one ⟨some s32, none, (.app 4 32 (.t s29) (.t s31))⟩
    (.one ⟨some s33, none, (.build [(.v (.int .i64 0)), (.slice 4 [] .full)] [(0, 1, (.t s25)), (1, 1, (.t s32))])⟩
    (.one ⟨some s8, none, (.new [(.v (.int .i64 0)), (.slice 4 [] .full)])⟩
    (.one ⟨none, none, (.store 2 (.t s8) (.t s33))⟩
    .done)))) (.one ⟨some s8, none, (.new [(.v (.int .i64 0)), (.slice 4 [] .full)])⟩
    (.one ⟨some s32, none, (.app 4 32 (.t s29) (.t s31))⟩
    (.one ⟨some s33, none, (.build [(.v (.int .i64 0)), (.slice 4 [] .full)] [(0, 1, (.t s25)), (1, 1, (.t s32))])⟩
    (.one ⟨none, none, (.store 2 (.t s8) (.t s33))⟩
    .done)))))) (.one ⟨some s8, none, (.new [(.v (.int .i64 0)), (.slice 4 [] .full)])⟩
    (.one ⟨some s29, none, (.app 4 32 (.t s26) (.t s28))⟩
    (.one ⟨some s32, none, (.app 4 32 (.t s29) (.t s31))⟩
    (.one ⟨some s33, none, (.build [(.v (.int .i64 0)), (.slice 4 [] .full)] [(0, 1, (.t s25)), (1, 1, (.t s32))])⟩
    (.one ⟨none, none, (.store 2 (.t s8) (.t s33))⟩
    .done))))))))))))))
  (.seq (.reg (.one ⟨some s34, none, (.load (some 2) (.t s8))⟩
    (.one ⟨some s35, none, (.mv (.t s2))⟩
    (.one ⟨some s36, none, (.callq 53 [(.t s34), (.t s35)])⟩
    (.one ⟨some s9, none, (.mv (.t s36))⟩
    .done)))))
  (.seq (.reg (.one ⟨some s37, none, (.mv (.t s2))⟩
    (.one ⟨some s38, none, (.bin false .add (.c (.v (.int .i64 5))) (.t s37))⟩
    (.one ⟨some s10, none, (.mv (.t s38))⟩
    .done))))
  (.seq (.seq (.reg (.one ⟨some s11, none, (.mv (.c (.v (.int .i64 0))))⟩
    .done))
  (.block 0 (.loop (.seq (.seq (.reg (.one ⟨some s39, none, (.mv (.t s11))⟩
    (.one ⟨some s40, none, (.faddr 1 (.t s3))⟩
    (.one ⟨some s41, none, (.load none (.t s40))⟩
    (.one ⟨some s42, none, (.len false (.t s41))⟩
    (.one ⟨some s43, none, (.bin false .lss (.t s39) (.t s42))⟩
    .done))))))
  (.cond (.t s43) .skip (.exit 0)))
  (.seq (.block 1 (.seq (.reg (.one ⟨some s46, none, (.mv (.t s10))⟩
    (.one ⟨some s47, none, (.mv (.t s2))⟩
    (.one ⟨some s48, none, (.bin false .add (.t s46) (.t s47))⟩
    (.one ⟨some s49, none, (.bin false .add (.t s48) (.c (.v (.int .i64 2))))⟩
    (.one ⟨some s10, none, (.mv (.t s49))⟩
    .done))))))
  (.seq (.seq (.reg (.one ⟨some s50, none, (.faddr 1 (.t s3))⟩
    (.one ⟨some s51, none, (.load none (.t s50))⟩
    (.one ⟨some s52, none, (.mv (.t s11))⟩
    (.one ⟨some s53, none, (.iaddr 4 (.t s51) (.t s52))⟩
    (.one ⟨some s54, none, (.faddr 1 (.t s53))⟩
    (.one ⟨some s55, none, (.load none (.t s54))⟩
    .done)))))))
  (.cond (.t s55) (.reg (.one ⟨some s56, none, (.mv (.t s10))⟩
    (.one ⟨some s57, none, (.bin false .add (.t s56) (.c (.v (.int .i64 30))))⟩
    (.one ⟨some s10, none, (.mv (.t s57))⟩
    .done)))) .skip))
  (.seq (.reg (.one ⟨some s58, none, (.faddr 1 (.t s3))⟩
    (.one ⟨some s59, none, (.load none (.t s58))⟩
    (.one ⟨some s60, none, (.mv (.t s11))⟩
    (.one ⟨some s61, none, (.iaddr 4 (.t s59) (.t s60))⟩
    (.one ⟨some s62, none, (.faddr 1 (.t s61))⟩
    (.one ⟨some s63, none, (.load none (.t s62))⟩
    (.one ⟨some s64, none, (.mv (.t s63))⟩
    (.one ⟨some s65, some (s64, true), (.mv (.t s2))⟩
    (.one ⟨some s66, some (s64, true), (.bin false .eql (.t s65) (.c (.v (.int .i64 16))))⟩
    (.one ⟨some s67, none, (.pick (.t s64) (.t s66) (.c (.v (.bool false))))⟩
    .done)))))))))))
  (.cond (.t s67) (.reg (.one ⟨some s68, none, (.mv (.t s10))⟩
    (.one ⟨some s69, none, (.bin false .add (.t s68) (.c (.v (.int .i64 2))))⟩
    (.one ⟨some s10, none, (.mv (.t s69))⟩
    .done)))) .skip)))))
  (.reg (.one ⟨some s44, none, (.mv (.t s11))⟩
    (.one ⟨some s45, none, (.bin false .add (.t s44) (.c (.v (.int .i64 1))))⟩
    (.one ⟨some s11, none, (.mv (.t s45))⟩
    .done)))))))))
  (.seq (.reg (.one ⟨some s70, none, (.callq 47 [])⟩
    (.one ⟨some s71, none, (.mv (.t s70))⟩
    (.one ⟨some s72, some (s71, true), (.mv (.t s7))⟩
    (.one ⟨some s73, some (s71, true), (.bin false .mul (.c (.v (.int .i64 8))) (.t s72))⟩
    (.one ⟨some s74, some (s71, true), (.mv (.t s10))⟩
    (.one ⟨some s75, some (s71, true), (.bin false .geq (.t s73) (.t s74))⟩
    (.one ⟨some s76, none, (.pick (.t s71) (.t s75) (.c (.v (.bool false))))⟩
    (.one ⟨some s77, none, (.mv (.t s76))⟩
    (.one ⟨some s78, some (s77, true), (.mv (.t s7))⟩
    (.one ⟨some s79, some (s77, true), (.bin false .mul (.c (.v (.int .i64 8))) (.t s78))⟩
    (.one ⟨some s80, some (s77, true), (.mv (.t s10))⟩
    (.one ⟨some s81, some (s77, true), (.bin false .add (.t s80) (.c (.v (.int .i64 8))))⟩
    (.one ⟨some s82, some (s77, true), (.bin false .lss (.t s79) (.t s81))⟩
    (.one ⟨some s83, none, (.pick (.t s77) (.t s82) (.c (.v (.bool false))))⟩
    (.one ⟨some s84, none, (.mv (.t s83))⟩
    (.one ⟨some s85, some (s84, true), (.mv (.t s9))⟩
    (.one ⟨some s86, some (s84, true), (.bin false .eql (.t s85) (.c (.v (.int .i64 0))))⟩
    (.one ⟨some s87, some (s84, true), (.mv (.t s86))⟩
    (.one ⟨some s88, some (s87, false), (.mv (.t s9))⟩
    (.one ⟨some s89, some (s87, false), (.mv (.t s7))⟩
    (.one ⟨some s90, some (s87, false), (.bin false .geq (.t s88) (.t s89))⟩
    (.one ⟨some s91, some (s87, false), (.mv (.t s90))⟩
    (.one ⟨some s92, some (s91, true), (.mv (.t s9))⟩
    (.one ⟨some s93, some (s91, true), (.mv (.t s7))⟩
    (.one ⟨some s94, some (s91, true), (.bin false .sub (.t s92) (.t s93))⟩
    (.one ⟨some s95, some (s91, true), (.bin false .leq (.t s94) (.c (.v (.int .i64 7))))⟩
    (.one ⟨some s96, some (s87, false), (.pick (.t s91) (.t s95) (.c (.v (.bool false))))⟩
    (.one ⟨some s97, some (s84, true), (.pick (.t s87) (.c (.v (.bool true))) (.t s96))⟩
    (.one ⟨some s98, none, (.pick (.t s84) (.t s97) (.c (.v (.bool false))))⟩
    (.one ⟨some s6, none, (.mv (.t s98))⟩
    .done)))))))))))))))))))))))))))))))
  .ret))))))))⟩
theorem ok11 : compF Try.prog c11 Try.f11 = some ir11 := by kernel_rfl
theorem k_bowlinelaw11_StatusGrows {args : List AVal} {σ : AHeap} {Q : AVal → AHeap → Prop} (hl : Nat.ble args.length 99 = true) (h : argsK (Env.full 9) 0 args fun env => evC Try.prog c11 ir11.body env σ (retQ ir11 Q)) : ACalls Try.prog 11 args σ Q :=
  acalls_of Try.func11 ok11 rfl (Nat.le_of_ble_eq_true hl) h
/- bowlinelaw11.StatusWrites -/
def c12 : Cfg := ⟨qs, [], 99, []⟩
def ir12 : IFun := ⟨3, [.tmp s6],
  (.seq (.reg (.one ⟨some s3, none, (.box 2 (.t s0))⟩
    (.one ⟨some s4, none, (.box 2 (.t s1))⟩
    (.one ⟨some s6, none, (.mv (.c (.v (.bool false))))⟩
    .done))))
  (.seq (.seq (.reg (.one ⟨some s10, none, (.faddr 1 (.t s3))⟩
    (.one ⟨some s11, none, (.load none (.t s10))⟩
    (.one ⟨some s12, none, (.len false (.t s11))⟩
    (.one ⟨some s13, none, (.bin false .gtr (.t s12) (.c (.v (.int .i64 60))))⟩
    (.one ⟨some s14, none, (.mv (.t s13))⟩
    (.one ⟨some s15, some (s14, false), (.faddr 1 (.t s4))⟩
    (.one ⟨some s16, some (s14, false), (.load none (.t s15))⟩
    (.one ⟨some s17, some (s14, false), (.len false (.t s16))⟩
    (.one ⟨some s18, some (s14, false), (.bin false .gtr (.t s17) (.c (.v (.int .i64 60))))⟩
    (.one ⟨some s19, none, (.pick (.t s14) (.c (.v (.bool true))) (.t s18))⟩
    .done)))))))))))
  (.cond (.t s19) (.seq (.reg (.one ⟨some s20, none, (.callq 47 [])⟩
    (.one ⟨some s6, none, (.mv (.t s20))⟩
    .done)))
  .ret) .skip))
  (.seq (.reg (.one ⟨some s21, none, (.load (some 2) (.t s3))⟩
    (.one ⟨some s22, none, (.callq 51 [(.t s21)])⟩
    (.one ⟨some s7, none, (.new [(.v (.int .i64 0)), (.slice 4 [] .full)])⟩
    (.one ⟨none, none, (.store 2 (.t s7) (.t s22))⟩
    .done)))))
  (.seq (.reg (.one ⟨some s24, none, (.load (some 2) (.t s3))⟩
    (.one ⟨some s25, none, (.mv (.t s2))⟩
    (.one ⟨some s26, none, (.callq 52 [(.t s24), (.t s25)])⟩
    (.one ⟨some s23, none, (.mv (.t s26))⟩
    (.one ⟨some s27, none, (.ext (.t s23) 0)⟩
    (.one ⟨some s28, none, (.ext (.t s23) 1)⟩
    (.one ⟨some s8, none, (.mv (.t s27))⟩
    (.one ⟨some s9, none, (.mv (.t s28))⟩
    .done)))))))))
  (.seq (.seq (.reg (.one ⟨some s29, none, (.load (some 2) (.t s3))⟩
    (.one ⟨some s30, none, (.mv (.t s2))⟩
    (.one ⟨some s32, none, (.load (some 2) (.t s7))⟩
    (.one ⟨some s33, none, (.mv (.t s2))⟩
    (.one ⟨some s31, none, (.callq 54 [(.t s29), (.t s30)])⟩
    (.one ⟨some s34, none, (.callq 55 [(.t s32), (.t s33)])⟩
    (.one ⟨some s35, none, (.bin true .neq (.t s31) (.t s34))⟩
    (.one ⟨some s36, none, (.mv (.t s35))⟩
    (.one ⟨some s37, some (s36, false), (.load (some 2) (.t s3))⟩
    (.one ⟨some s38, some (s36, false), (.mv (.t s2))⟩
    (.one ⟨some s40, some (s36, false), (.load (some 2) (.t s7))⟩
    (.one ⟨some s41, some (s36, false), (.mv (.t s2))⟩
    (.one ⟨some s39, some (s36, false), (.callq 53 [(.t s37), (.t s38)])⟩
    (.one ⟨some s42, some (s36, false), (.callq 56 [(.t s40), (.t s41)])⟩
    (.one ⟨some s43, some (s36, false), (.bin false .neq (.t s39) (.t s42))⟩
    (.one ⟨some s44, none, (.pick (.t s36) (.c (.v (.bool true))) (.t s43))⟩
    (.one ⟨some s45, none, (.mv (.t s44))⟩
    (.one ⟨some s46, some (s45, false), (.load (some 2) (.t s3))⟩
    (.one ⟨some s47, some (s45, false), (.load (some 2) (.t s4))⟩
    (.one ⟨some s49, some (s45, false), (.load (some 2) (.t s7))⟩
    (.one ⟨some s50, some (s45, false), (.load (some 2) (.t s4))⟩
    (.one ⟨some s48, some (s45, false), (.callq 57 [(.t s46), (.t s47)])⟩
    (.one ⟨some s51, some (s45, false), (.callq 51 [(.t s50)])⟩
    (.one ⟨some s52, some (s45, false), (.callq 50 [(.t s49), (.t s51)])⟩
    (.one ⟨some s53, some (s45, false), (.bin true .neq (.t s48) (.t s52))⟩
    (.one ⟨some s54, none, (.pick (.t s45) (.c (.v (.bool true))) (.t s53))⟩
    .done)))))))))))))))))))))))))))
  (.cond (.t s54) (.seq (.reg (.one ⟨some s6, none, (.mv (.c (.v (.bool false))))⟩
    .done))
  .ret) .skip))
  (.seq (.seq (.reg (.one ⟨some s55, none, (.mv (.t s2))⟩
    (.one ⟨some s56, none, (.bin false .neq (.t s55) (.c (.v (.int .i64 10))))⟩
    (.one ⟨some s57, none, (.mv (.t s56))⟩
    (.one ⟨some s58, some (s57, true), (.mv (.t s2))⟩
    (.one ⟨some s59, some (s57, true), (.bin false .neq (.t s58) (.c (.v (.int .i64 16))))⟩
    (.one ⟨some s60, none, (.pick (.t s57) (.t s59) (.c (.v (.bool false))))⟩
    .done)))))))
  (.cond (.t s60) (.seq (.reg (.one ⟨some s61, none, (.callq 47 [])⟩
    (.one ⟨some s62, none, (.mv (.t s61))⟩
    (.one ⟨some s63, some (s62, true), (.mv (.t s9))⟩
    (.one ⟨some s64, some (s62, true), (.bin false .eql (.t s63) (.c (.v (.int .i64 9))))⟩
    (.one ⟨some s65, none, (.pick (.t s62) (.t s64) (.c (.v (.bool false))))⟩
    (.one ⟨some s66, none, (.mv (.t s65))⟩
    (.one ⟨some s67, some (s66, true), (.mv (.t s8))⟩
    (.one ⟨some s68, some (s66, true), (.len false (.t s67))⟩
    (.one ⟨some s69, some (s66, true), (.bin false .eql (.t s68) (.c (.v (.int .i64 0))))⟩
    (.one ⟨some s70, none, (.pick (.t s66) (.t s69) (.c (.v (.bool false))))⟩
    (.one ⟨some s6, none, (.mv (.t s70))⟩
    .done))))))))))))
  .ret) .skip))
  (.seq (.seq (.reg (.one ⟨some s71, none, (.load (some 2) (.t s7))⟩
    (.one ⟨some s72, none, (.mv (.t s2))⟩
    (.one ⟨some s73, none, (.callq 55 [(.t s71), (.t s72)])⟩
    (.one ⟨some s74, none, (.not (.t s73))⟩
    .done)))))
  (.cond (.t s74) (.seq (.reg (.one ⟨some s75, none, (.callq 47 [])⟩
    (.one ⟨some s76, none, (.mv (.t s75))⟩
    (.one ⟨some s77, some (s76, true), (.mv (.t s9))⟩
    (.one ⟨some s78, some (s76, true), (.bin false .eql (.t s77) (.c (.v (.int .i64 3))))⟩
    (.one ⟨some s79, none, (.pick (.t s76) (.t s78) (.c (.v (.bool false))))⟩
    (.one ⟨some s80, none, (.mv (.t s79))⟩
    (.one ⟨some s81, some (s80, true), (.mv (.t s8))⟩
    (.one ⟨some s82, some (s80, true), (.len false (.t s81))⟩
    (.one ⟨some s83, some (s80, true), (.bin false .eql (.t s82) (.c (.v (.int .i64 0))))⟩
    (.one ⟨some s84, none, (.pick (.t s80) (.t s83) (.c (.v (.bool false))))⟩
    (.one ⟨some s6, none, (.mv (.t s84))⟩
    .done))))))))))))
  .ret) .skip))
  (.seq (.reg (.one ⟨some s85, none, (.callq 47 [])⟩
    (.one ⟨some s86, none, (.mv (.t s85))⟩
    (.one ⟨some s87, some (s86, true), (.mv (.t s9))⟩
    (.one ⟨some s88, some (s86, true), (.bin false .eql (.t s87) (.c (.v (.int .i64 0))))⟩
    (.one ⟨some s89, none, (.pick (.t s86) (.t s88) (.c (.v (.bool false))))⟩
    (.one ⟨some s90, none, (.mv (.t s89))⟩
    (.one ⟨some s91, some (s90, true), (.mv (.t s8))⟩
    (.one ⟨some s92, some (s90, true), (.b2s (.t s91))⟩
    (.one ⟨some s93, some (s90, true), (.load (some 2) (.t s7))⟩
    (.one ⟨some s94, some (s90, true), (.mv (.t s2))⟩
    (.one ⟨some s95, some (s90, true), (.callq 58 [(.t s93), (.t s94)])⟩
    (.one ⟨some s96, some (s90, true), (.b2s (.t s95))⟩
    (.one ⟨some s97, some (s90, true), (.bin false .eql (.t s92) (.t s96))⟩
    (.one ⟨some s98, none, (.pick (.t s90) (.t s97) (.c (.v (.bool false))))⟩
    (.one ⟨some s6, none, (.mv (.t s98))⟩
    .done))))))))))))))))
  .ret))))))))⟩
theorem ok12 : compF Try.prog c12 Try.f12 = some ir12 := by kernel_rfl
theorem k_bowlinelaw11_StatusWrites {args : List AVal} {σ : AHeap} {Q : AVal → AHeap → Prop} (hl : Nat.ble args.length 99 = true) (h : argsK (Env.full 9) 0 args fun env => evC Try.prog c12 ir12.body env σ (retQ ir12 Q)) : ACalls Try.prog 12 args σ Q :=
  acalls_of Try.func12 ok12 rfl (Nat.le_of_ble_eq_true hl) h
/- bowlinelaw11.alive -/
def c47 : Cfg := ⟨qs, [], 83, []⟩
def ir47 : IFun := ⟨0, [.tmp s0],
  (.seq (.reg (.one ⟨some s0, none, (.mv (.c (.v (.bool false))))⟩
    .done))
  (.seq (.reg (.one ⟨some s12, none, (.build [(.v (.int .i64 0)), (.slice 4 [] .full)] [(0, 1, (.c (.v (.int .i64 5))))])⟩
    (.one ⟨some s13, none, (.callq 52 [(.t s12), (.c (.v (.int .i64 10)))])⟩
    (.one ⟨some s11, none, (.mv (.t s13))⟩
    (.one ⟨some s14, none, (.ext (.t s11) 0)⟩
    (.one ⟨some s15, none, (.ext (.t s11) 1)⟩
    (.one ⟨some s1, none, (.mv (.t s14))⟩
    (.one ⟨some s2, none, (.mv (.t s15))⟩
    .done))))))))
  (.seq (.reg (.one ⟨some s17, none, (.build [(.v (.int .i64 0)), (.v (.bool false)), (.v (.int .i64 0)), (.v (.int .i64 0))] [(0, 1, (.c (.v (.int .i64 3)))), (1, 1, (.c (.v (.bool true)))), (2, 1, (.c (.v (.int .i64 2))))])⟩
    (.one ⟨some s18, none, (.build [(.v (.int .i64 0)), (.v (.bool false)), (.v (.int .i64 0)), (.v (.int .i64 0))] [(0, 1, (.c (.v (.int .i64 7))))])⟩
    (.one ⟨some s19, none, (.row 4 [(.t s17), (.t s18)])⟩
    (.one ⟨some s20, none, (.build [(.v (.int .i64 0)), (.slice 4 [] .full)] [(0, 1, (.c (.v (.int .i64 9)))), (1, 1, (.t s19))])⟩
    (.one ⟨some s21, none, (.callq 52 [(.t s20), (.c (.v (.int .i64 16)))])⟩
    (.one ⟨some s16, none, (.mv (.t s21))⟩
    (.one ⟨some s22, none, (.ext (.t s16) 0)⟩
    (.one ⟨some s23, none, (.ext (.t s16) 1)⟩
    (.one ⟨some s3, none, (.mv (.t s22))⟩
    (.one ⟨some s4, none, (.mv (.t s23))⟩
    .done)))))))))))
  (.seq (.reg (.one ⟨some s25, none, (.mv (.t s3))⟩
    (.one ⟨some s26, none, (.callq 48 [(.t s25), (.c (.v (.int .i64 16)))])⟩
    (.one ⟨some s24, none, (.mv (.t s26))⟩
    (.one ⟨some s27, none, (.ext (.t s24) 0)⟩
    (.one ⟨some s28, none, (.ext (.t s24) 1)⟩
    (.one ⟨some s5, none, (.new [(.v (.int .i64 0)), (.slice 4 [] .full)])⟩
    (.one ⟨none, none, (.store 2 (.t s5) (.t s27))⟩
    (.one ⟨some s6, none, (.mv (.t s28))⟩
    .done)))))))))
  (.seq (.reg (.one ⟨some s30, none, (.row 1 [(.c (.v (.int .u8 128)))])⟩
    (.one ⟨some s31, none, (.callq 48 [(.t s30), (.c (.v (.int .i64 10)))])⟩
    (.one ⟨some s29, none, (.mv (.t s31))⟩
    (.one ⟨some s32, none, (.ext (.t s29) 0)⟩
    (.one ⟨some s33, none, (.ext (.t s29) 1)⟩
    (.one ⟨some s7, none, (.new [(.v (.int .i64 0)), (.slice 4 [] .full)])⟩
    (.one ⟨none, none, (.store 2 (.t s7) (.t s32))⟩
    (.one ⟨some s8, none, (.mv (.t s33))⟩
    .done)))))))))
  (.seq (.reg (.one ⟨some s35, none, (.build [(.v (.int .i64 0)), (.v (.bool false)), (.v (.int .i64 0)), (.v (.int .i64 0))] [(2, 1, (.c (.v (.int .i64 1))))])⟩
    (.one ⟨some s36, none, (.row 4 [(.t s35)])⟩
    (.one ⟨some s37, none, (.build [(.v (.int .i64 0)), (.slice 4 [] .full)] [(1, 1, (.t s36))])⟩
    (.one ⟨some s38, none, (.callq 52 [(.t s37), (.c (.v (.int .i64 10)))])⟩
    (.one ⟨some s34, none, (.mv (.t s38))⟩
    (.one ⟨some s39, none, (.ext (.t s34) 0)⟩
    (.one ⟨some s40, none, (.ext (.t s34) 1)⟩
    (.one ⟨some s9, none, (.mv (.t s39))⟩
    (.one ⟨some s10, none, (.mv (.t s40))⟩
    .done))))))))))
  (.seq (.reg (.one ⟨some s41, none, (.mv (.t s1))⟩
    (.one ⟨some s42, none, (.b2s (.t s41))⟩
    (.one ⟨some s43, none, (.bin false .eql (.t s42) (.c (.v (.string ⟨#[0, 20]⟩))))⟩
    (.one ⟨some s44, none, (.mv (.t s43))⟩
    (.one ⟨some s45, some (s44, true), (.mv (.t s2))⟩
    (.one ⟨some s46, some (s44, true), (.bin false .eql (.t s45) (.c (.v (.int .i64 0))))⟩
    (.one ⟨some s47, none, (.pick (.t s44) (.t s46) (.c (.v (.bool false))))⟩
    (.one ⟨some s48, none, (.mv (.t s47))⟩
    (.one ⟨some s49, some (s48, true), (.mv (.t s4))⟩
    (.one ⟨some s50, some (s48, true), (.bin false .eql (.t s49) (.c (.v (.int .i64 0))))⟩
    (.one ⟨some s51, none, (.pick (.t s48) (.t s50) (.c (.v (.bool false))))⟩
    (.one ⟨some s52, none, (.mv (.t s51))⟩
    (.one ⟨some s53, some (s52, true), (.mv (.t s6))⟩
    (.one ⟨some s54, some (s52, true), (.bin false .eql (.t s53) (.c (.v (.int .i64 0))))⟩
    (.one ⟨some s55, none, (.pick (.t s52) (.t s54) (.c (.v (.bool false))))⟩
    (.one ⟨some s56, none, (.mv (.t s55))⟩
    (.one ⟨some s57, some (s56, true), (.faddr 0 (.t s5))⟩
    (.one ⟨some s58, some (s56, true), (.load none (.t s57))⟩
    (.one ⟨some s59, some (s56, true), (.bin false .eql (.t s58) (.c (.v (.int .i64 9))))⟩
    (.one ⟨some s60, none, (.pick (.t s56) (.t s59) (.c (.v (.bool false))))⟩
    (.one ⟨some s61, none, (.mv (.t s60))⟩
    (.one ⟨some s62, some (s61, true), (.faddr 1 (.t s5))⟩
    (.one ⟨some s63, some (s61, true), (.load none (.t s62))⟩
    (.one ⟨some s64, some (s61, true), (.len false (.t s63))⟩
    (.one ⟨some s65, some (s61, true), (.bin false .eql (.t s64) (.c (.v (.int .i64 2))))⟩
    (.one ⟨some s66, none, (.pick (.t s61) (.t s65) (.c (.v (.bool false))))⟩
    (.one ⟨some s67, none, (.mv (.t s66))⟩
    (.one ⟨some s68, some (s67, true), (.faddr 1 (.t s5))⟩
    (.one ⟨some s69, some (s67, true), (.load none (.t s68))⟩
    (.one ⟨some s70, some (s67, true), (.iaddr 4 (.t s69) (.c (.v (.int .i64 0))))⟩
    (.one ⟨some s71, some (s67, true), (.load (some 4) (.t s70))⟩
    (.one ⟨some s72, some (s67, true), (.build [(.v (.int .i64 0)), (.v (.bool false)), (.v (.int .i64 0)), (.v (.int .i64 0))] [(0, 1, (.c (.v (.int .i64 3)))), (1, 1, (.c (.v (.bool true)))), (2, 1, (.c (.v (.int .i64 2))))])⟩
    (.one ⟨some s73, some (s67, true), (.eqAgg false [false, true, false, false] (.t s71) (.t s72))⟩
    (.one ⟨some s74, none, (.pick (.t s67) (.t s73) (.c (.v (.bool false))))⟩
    (.one ⟨some s75, none, (.mv (.t s74))⟩
    (.one ⟨some s76, some (s75, true), (.mv (.t s8))⟩
    (.one ⟨some s77, some (s75, true), (.bin false .eql (.t s76) (.c (.v (.int .i64 4))))⟩
    (.one ⟨some s78, none, (.pick (.t s75) (.t s77) (.c (.v (.bool false))))⟩
    (.one ⟨some s79, none, (.mv (.t s78))⟩
    (.one ⟨some s80, some (s79, true), (.mv (.t s10))⟩
    (.one ⟨some s81, some (s79, true), (.bin false .eql (.t s80) (.c (.v (.int .i64 3))))⟩
    (.one ⟨some s82, none, (.pick (.t s79) (.t s81) (.c (.v (.bool false))))⟩
    (.one ⟨some s0, none, (.mv (.t s82))⟩
    .done))))))))))))))))))))))))))))))))))))))))))))
  .ret)))))))⟩
theorem ok47 : compF Try.prog c47 Try.f47 = some ir47 := by kernel_rfl
theorem k_bowlinelaw11_alive {args : List AVal} {σ : AHeap} {Q : AVal → AHeap → Prop} (hl : Nat.ble args.length 83 = true) (h : argsK (Env.full 9) 0 args fun env => evC Try.prog c47 ir47.body env σ (retQ ir47 Q)) : ACalls Try.prog 47 args σ Q :=
  acalls_of Try.func47 ok47 rfl (Nat.le_of_ble_eq_true hl) h
/- bowlinelaw11.As -/
def c51 : Cfg := ⟨qs, [], 36, []⟩
def ir51 : IFun := ⟨1, [.cell s2 (some 2)],
  (.seq (.reg (.one ⟨some s1, none, (.box 2 (.t s0))⟩
    (.one ⟨some s2, none, (.new [(.v (.int .i64 0)), (.slice 4 [] .full)])⟩
    .done)))
  (.seq (.reg (.one ⟨some s6, none, (.faddr 0 (.t s1))⟩
    (.one ⟨some s7, none, (.load none (.t s6))⟩
    (.one ⟨some s8, none, (.build [(.v (.int .i64 0)), (.slice 4 [] .full)] [(0, 1, (.t s7))])⟩
    (.one ⟨some s3, none, (.new [(.v (.int .i64 0)), (.slice 4 [] .full)])⟩
    (.one ⟨none, none, (.store 2 (.t s3) (.t s8))⟩
    .done))))))
  (.seq (.seq (.reg (.one ⟨some s4, none, (.mv (.c (.v (.int .i64 0))))⟩
    .done))
  (.block 0 (.loop (.seq (.seq (.reg (.one ⟨some s9, none, (.mv (.t s4))⟩
    (.one ⟨some s10, none, (.faddr 1 (.t s1))⟩
    (.one ⟨some s11, none, (.load none (.t s10))⟩
    (.one ⟨some s12, none, (.len false (.t s11))⟩
    (.one ⟨some s13, none, (.bin false .lss (.t s9) (.t s12))⟩
    .done))))))
  (.cond (.t s13) .skip (.exit 0)))
  (.seq (.block 1 (.seq (.reg (.one ⟨some s16, none, (.faddr 1 (.t s1))⟩
    (.one ⟨some s17, none, (.load none (.t s16))⟩
    (.one ⟨some s18, none, (.mv (.t s4))⟩
    (.one ⟨some s19, none, (.iaddr 4 (.t s17) (.t s18))⟩
    (.one ⟨some s20, none, (.load (some 4) (.t s19))⟩
    (.one ⟨some s5, none, (.new [(.v (.int .i64 0)), (.v (.bool false)), (.v (.int .i64 0)), (.v (.int .i64 0))])⟩
    (.one ⟨none, none, (.store 4 (.t s5) (.t s20))⟩
    .done))))))))
  (.reg (.one ⟨some s21, none, (.faddr 1 (.t s3))⟩
    (.one ⟨some s22, none, (.load none (.t s21))⟩
    (.one ⟨some s23, none, (.faddr 0 (.t s5))⟩
    (.one ⟨some s24, none, (.load none (.t s23))⟩
    (.one ⟨some s25, none, (.faddr 1 (.t s5))⟩
    (.one ⟨some s26, none, (.load none (.t s25))⟩
    (.one ⟨some s27, none, (.faddr 2 (.t s5))⟩
    (.one ⟨some s28, none, (.load none (.t s27))⟩
    (.one ⟨some s29, none, (.faddr 3 (.t s5))⟩
    (.one ⟨some s30, none, (.load none (.t s29))⟩
    (.one ⟨some s31, none, (.build [(.v (.int .i64 0)), (.v (.bool false)), (.v (.int .i64 0)), (.v (.int .i64 0))] [(0, 1, (.t s24)), (1, 1, (.t s26)), (2, 1, (.t s28)), (3, 1, (.t s30))])⟩
    (.one ⟨some s32, none, (.row 4 [(.t s31)])⟩
    (.one ⟨some s33, none, (.app 4 32 (.t s22) (.t s32))⟩
    (.one ⟨some s34, none, (.faddr 1 (.t s3))⟩
    (.one ⟨none, none, (.store 1 (.t s34) (.t s33))⟩
    .done))))))))))))))))))
  (.reg (.one ⟨some s14, none, (.mv (.t s4))⟩
    (.one ⟨some s15, none, (.bin false .add (.t s14) (.c (.v (.int .i64 1))))⟩
    (.one ⟨some s4, none, (.mv (.t s15))⟩
    .done)))))))))
  (.seq (.reg (.one ⟨some s35, none, (.load (some 2) (.t s3))⟩
    (.one ⟨none, none, (.store 2 (.t s2) (.t s35))⟩
    .done)))
  .ret))))⟩
theorem ok51 : compF Try.prog c51 Try.f51 = some ir51 := by kernel_rfl
theorem k_bowlinelaw11_As {args : List AVal} {σ : AHeap} {Q : AVal → AHeap → Prop} (hl : Nat.ble args.length 36 = true) (h : argsK (Env.full 9) 0 args fun env => evC Try.prog c51 ir51.body env σ (retQ ir51 Q)) : ACalls Try.prog 51 args σ Q :=
  acalls_of Try.func51 ok51 rfl (Nat.le_of_ble_eq_true hl) h
end Go.Proofs.Ytnfdgccmpglbhaa
/-
  Statuses that are equal; the document's form of one.
-/
namespace Go.Proofs.Ytnfdgccmpglbhaa
set_option linter.unusedVariables false
set_option linter.unusedSimpArgs false
open Go Go.Am

def msEq (a b : Ms) : Bool := decide (a.1 = b.1) && (a.2.1 == b.2.1 && (decide (a.2.2.1 = b.2.2.1) && (decide (a.2.2.2 = b.2.2.2) && true)))
theorem msEq_iff {a b : Ms} : msEq a b = true ↔ a = b := by
  obtain ⟨a1, a2, a3, a4⟩ := a
  obtain ⟨b1, b2, b3, b4⟩ := b
  simp [msEq]
theorem take_succ_eq {l m : List Ms} {i : Nat} (h : i < l.length) (h2 : i < m.length) (ht : l.take i = m.take i) : l.take (i + 1) = m.take (i + 1) ↔ l[i] = m[i] := by
  rw [show l.take (i + 1) = l.take i ++ [l[i]] from (List.take_append_getElem h).symm, show m.take (i + 1) = m.take i ++ [m[i]] from (List.take_append_getElem h2).symm, ht, List.append_cancel_left_eq]
  simp only [List.cons.injEq, and_true]

set_option maxRecDepth 20000 in
theorem tEqual (l m : List Ms) (t u : Tok) (σ : AHeap) (hl : l.length ≤ 9223372036854775807) : ACalls Try.prog i_status_Miss_109 [missV t l, missV u m] σ fun v σ' => v = boolv (decide (l = m)) ∧ σ' = σ := by
  refine k_status_Miss_109 rfl ?_
  ((conv => whnf); (repeat ((first | with_reducible refine abr_true rfl ?_ | with_reducible refine abr_false rfl ?_ | with_reducible refine abr_yes rfl ?_ | refine abr_yes (by decide) ?_ | refine abr_no (by decide) ?_ | with_reducible refine abr_same_ne ?_); (conv => whnf))))
  rw [List.length_map, List.length_map]
  by_cases hlm : l.length = m.length
  case neg =>
    (repeat ((first | refine aload (by (repeat (first | with_reducible exact upd_same _ _ _ | assumption | rw [upd_ne _ _ (by first | assumption | (apply Ne.symm; assumption))]))) rfl ?_ | refine afit_i64 (by omega) ?_ | refine arem_nonneg (by omega) (by omega) ?_ | refine adiv_i64 (by omega) (by omega) ?_ | refine abr_yes (by omega) ?_ | refine abr_no (by omega) ?_ | refine amin ?_ | refine amax ?_ | refine afit_u64 (by omega) ?_ | refine afit_u8 (by omega) ?_ | rw [List.length_map]); ((conv => whnf); (repeat ((first | with_reducible refine abr_true rfl ?_ | with_reducible refine abr_false rfl ?_ | with_reducible refine abr_yes rfl ?_ | refine abr_yes (by decide) ?_ | refine abr_no (by decide) ?_ | with_reducible refine abr_same_ne ?_); (conv => whnf))))))
    exact aret_same ⟨congrArg boolv (decide_eq_false fun e => hlm (by rw [e])).symm, rfl⟩
  (repeat ((first | refine aload (by (repeat (first | with_reducible exact upd_same _ _ _ | assumption | rw [upd_ne _ _ (by first | assumption | (apply Ne.symm; assumption))]))) rfl ?_ | refine afit_i64 (by omega) ?_ | refine arem_nonneg (by omega) (by omega) ?_ | refine adiv_i64 (by omega) (by omega) ?_ | refine abr_yes (by omega) ?_ | refine abr_no (by omega) ?_ | refine amin ?_ | refine amax ?_ | refine afit_u64 (by omega) ?_ | refine afit_u8 (by omega) ?_ | rw [List.length_map]); ((conv => whnf); (repeat ((first | with_reducible refine abr_true rfl ?_ | with_reducible refine abr_false rfl ?_ | with_reducible refine abr_yes rfl ?_ | refine abr_yes (by decide) ?_ | refine abr_no (by decide) ?_ | with_reducible refine abr_same_ne ?_); (conv => whnf))))))
  refine aloop (α := Nat) (fun i => [(s13, i64v i)]) (fun _ => σ) (fun i => i ≤ l.length ∧ l.take i = m.take i) (fun i => l.length - i) 0 ⟨Nat.zero_le _, rfl⟩ (Sub.refl _) ?_ ?_
  · ((conv => whnf); (repeat ((first | with_reducible refine abr_true rfl ?_ | with_reducible refine abr_false rfl ?_ | with_reducible refine abr_yes rfl ?_ | refine abr_yes (by decide) ?_ | refine abr_no (by decide) ?_ | with_reducible refine abr_same_ne ?_); (conv => whnf))))
    (repeat' first | with_reducible exact EnvLe.refl _ | (refine EnvLe.node ?_ (by first | exact Or.inl rfl | exact Or.inr (Or.inl rfl) | exact Or.inr (Or.inr ⟨nofun, VLe.slice _ _ _⟩)) ?_))
  rintro i ⟨hi, ht⟩
  by_cases h : i < l.length
  · have h2 : i < m.length := by omega
    have hte := take_succ_eq h h2 ht
    ((conv => whnf); (repeat ((first | with_reducible refine abr_true rfl ?_ | with_reducible refine abr_false rfl ?_ | with_reducible refine abr_yes rfl ?_ | refine abr_yes (by decide) ?_ | refine abr_no (by decide) ?_ | with_reducible refine abr_same_ne ?_); (conv => whnf))))
    (repeat ((first | refine aload (by (repeat (first | with_reducible exact upd_same _ _ _ | assumption | rw [upd_ne _ _ (by first | assumption | (apply Ne.symm; assumption))]))) rfl ?_ | refine afit_i64 (by omega) ?_ | refine arem_nonneg (by omega) (by omega) ?_ | refine adiv_i64 (by omega) (by omega) ?_ | refine abr_yes (by omega) ?_ | refine abr_no (by omega) ?_ | refine amin ?_ | refine amax ?_ | refine afit_u64 (by omega) ?_ | refine afit_u8 (by omega) ?_ | rw [List.length_map]); ((conv => whnf); (repeat ((first | with_reducible refine abr_true rfl ?_ | with_reducible refine abr_false rfl ?_ | with_reducible refine abr_yes rfl ?_ | refine abr_yes (by decide) ?_ | refine abr_no (by decide) ?_ | with_reducible refine abr_same_ne ?_); (conv => whnf))))))
    refine aget (by omega) (get_ms h) ?_
    ((conv => whnf); (repeat ((first | with_reducible refine abr_true rfl ?_ | with_reducible refine abr_false rfl ?_ | with_reducible refine abr_yes rfl ?_ | refine abr_yes (by decide) ?_ | refine abr_no (by decide) ?_ | with_reducible refine abr_same_ne ?_); (conv => whnf))))
    refine acells (l := (msV l[i]).cells) (by exact Nat.le_refl 4) rfl ?_
    ((conv => whnf); (repeat ((first | with_reducible refine abr_true rfl ?_ | with_reducible refine abr_false rfl ?_ | with_reducible refine abr_yes rfl ?_ | refine abr_yes (by decide) ?_ | refine abr_no (by decide) ?_ | with_reducible refine abr_same_ne ?_); (conv => whnf))))
    refine aget (by omega) (get_ms h2) ?_
    ((conv => whnf); (repeat ((first | with_reducible refine abr_true rfl ?_ | with_reducible refine abr_false rfl ?_ | with_reducible refine abr_yes rfl ?_ | refine abr_yes (by decide) ?_ | refine abr_no (by decide) ?_ | with_reducible refine abr_same_ne ?_); (conv => whnf))))
    refine acells (l := (msV m[i]).cells) (by exact Nat.le_refl 4) rfl ?_
    ((conv => whnf); (repeat ((first | with_reducible refine abr_true rfl ?_ | with_reducible refine abr_false rfl ?_ | with_reducible refine abr_yes rfl ?_ | refine abr_yes (by decide) ?_ | refine abr_no (by decide) ?_ | with_reducible refine abr_same_ne ?_); (conv => whnf))))
    by_cases e : l[i] = m[i]
    · have hq : msEq l[i] m[i] = true := msEq_iff.2 e
      refine abr_false (show (msEq l[i] m[i] != true) = false by rw [hq]; rfl) ?_
      ((conv => whnf); (repeat ((first | with_reducible refine abr_true rfl ?_ | with_reducible refine abr_false rfl ?_ | with_reducible refine abr_yes rfl ?_ | refine abr_yes (by decide) ?_ | refine abr_no (by decide) ?_ | with_reducible refine abr_same_ne ?_); (conv => whnf))))
      (repeat ((first | refine aload (by (repeat (first | with_reducible exact upd_same _ _ _ | assumption | rw [upd_ne _ _ (by first | assumption | (apply Ne.symm; assumption))]))) rfl ?_ | refine afit_i64 (by omega) ?_ | refine arem_nonneg (by omega) (by omega) ?_ | refine adiv_i64 (by omega) (by omega) ?_ | refine abr_yes (by omega) ?_ | refine abr_no (by omega) ?_ | refine amin ?_ | refine amax ?_ | refine afit_u64 (by omega) ?_ | refine afit_u8 (by omega) ?_ | rw [List.length_map]); ((conv => whnf); (repeat ((first | with_reducible refine abr_true rfl ?_ | with_reducible refine abr_false rfl ?_ | with_reducible refine abr_yes rfl ?_ | refine abr_yes (by decide) ?_ | refine abr_no (by decide) ?_ | with_reducible refine abr_same_ne ?_); (conv => whnf))))))
      refine ⟨i + 1, ⟨h, hte.2 e⟩, by omega, Sub.refl _, ?_⟩
      ((conv => whnf); (repeat ((first | with_reducible refine abr_true rfl ?_ | with_reducible refine abr_false rfl ?_ | with_reducible refine abr_yes rfl ?_ | refine abr_yes (by decide) ?_ | refine abr_no (by decide) ?_ | with_reducible refine abr_same_ne ?_); (conv => whnf))))
      (repeat' first | with_reducible exact EnvLe.refl _ | (refine EnvLe.node ?_ (by first | exact Or.inl rfl | exact Or.inr (Or.inl rfl) | exact Or.inr (Or.inr ⟨nofun, VLe.slice _ _ _⟩)) ?_))
    · have hq : msEq l[i] m[i] = false := Bool.eq_false_iff.2 fun h => e (msEq_iff.1 h)
      refine abr_true (show (msEq l[i] m[i] != true) = true by rw [hq]; rfl) ?_
      ((conv => whnf); (repeat ((first | with_reducible refine abr_true rfl ?_ | with_reducible refine abr_false rfl ?_ | with_reducible refine abr_yes rfl ?_ | refine abr_yes (by decide) ?_ | refine abr_no (by decide) ?_ | with_reducible refine abr_same_ne ?_); (conv => whnf))))
      exact aret_same ⟨congrArg boolv (decide_eq_false fun e2 => e (hte.1 (by rw [e2]))).symm, rfl⟩
  · rw [List.take_of_length_le (by omega), List.take_of_length_le (by omega)] at ht
    ((conv => whnf); (repeat ((first | with_reducible refine abr_true rfl ?_ | with_reducible refine abr_false rfl ?_ | with_reducible refine abr_yes rfl ?_ | refine abr_yes (by decide) ?_ | refine abr_no (by decide) ?_ | with_reducible refine abr_same_ne ?_); (conv => whnf))))
    (repeat ((first | refine aload (by (repeat (first | with_reducible exact upd_same _ _ _ | assumption | rw [upd_ne _ _ (by first | assumption | (apply Ne.symm; assumption))]))) rfl ?_ | refine afit_i64 (by omega) ?_ | refine arem_nonneg (by omega) (by omega) ?_ | refine adiv_i64 (by omega) (by omega) ?_ | refine abr_yes (by omega) ?_ | refine abr_no (by omega) ?_ | refine amin ?_ | refine amax ?_ | refine afit_u64 (by omega) ?_ | refine afit_u8 (by omega) ?_ | rw [List.length_map]); ((conv => whnf); (repeat ((first | with_reducible refine abr_true rfl ?_ | with_reducible refine abr_false rfl ?_ | with_reducible refine abr_yes rfl ?_ | refine abr_yes (by decide) ?_ | refine abr_no (by decide) ?_ | with_reducible refine abr_same_ne ?_); (conv => whnf))))))
    exact aret_same ⟨congrArg boolv (decide_eq_true ht).symm, rfl⟩
set_option maxRecDepth 20000 in
theorem tSame (a b : Int × List Ms) (t u : Tok) (σ : AHeap) (hl : a.2.length ≤ 9223372036854775807) : ACalls Try.prog i_status_Same [stV t a, stV u b] σ fun v σ' => v = boolv (decide (a = b)) ∧ σ' = σ := by
  obtain ⟨x, l⟩ := a
  obtain ⟨y, m⟩ := b
  dsimp only at hl
  refine k_status_Same rfl ?_
  ((conv => whnf); (repeat ((first | with_reducible refine abr_true rfl ?_ | with_reducible refine abr_false rfl ?_ | with_reducible refine abr_yes rfl ?_ | refine abr_yes (by decide) ?_ | refine abr_no (by decide) ?_ | with_reducible refine abr_same_ne ?_); (conv => whnf))))
  refine anew rfl fun i1 h1 => ?_
  ((conv => whnf); (repeat ((first | with_reducible refine abr_true rfl ?_ | with_reducible refine abr_false rfl ?_ | with_reducible refine abr_yes rfl ?_ | refine abr_yes (by decide) ?_ | refine abr_no (by decide) ?_ | with_reducible refine abr_same_ne ?_); (conv => whnf))))
  refine anew rfl fun i2 h2 => ?_
  have n12 : i1 ≠ i2 := fun e => by subst e; rw [upd_same] at h2; cases h2
  have b2 : σ i2 = none := sub_none (Sub.upd_fresh _ h1) h2
  have hs : Sub (upd (upd σ i1 (.cells (stV t (x, l)).cells)) i2 (.cells (stV u (y, m)).cells)) σ := sub_upd _ (Sub.upd_fresh _ h1) b2
  have k1 : upd (upd σ i1 (.cells (stV t (x, l)).cells)) i2 (.cells (stV u (y, m)).cells) i1 = some (.cells [i64v x, missV t l]) := by rw [upd_ne _ _ n12]; exact upd_same _ _ _
  have k2 : upd (upd σ i1 (.cells (stV t (x, l)).cells)) i2 (.cells (stV u (y, m)).cells) i2 = some (.cells [i64v y, missV u m]) := upd_same _ _ _
  generalize upd (upd σ i1 (.cells (stV t (x, l)).cells)) i2 (.cells (stV u (y, m)).cells) = τ at *
  ((conv => whnf); (repeat ((first | with_reducible refine abr_true rfl ?_ | with_reducible refine abr_false rfl ?_ | with_reducible refine abr_yes rfl ?_ | refine abr_yes (by decide) ?_ | refine abr_no (by decide) ?_ | with_reducible refine abr_same_ne ?_); (conv => whnf))))
  refine aload k1 rfl ?_
  ((conv => whnf); (repeat ((first | with_reducible refine abr_true rfl ?_ | with_reducible refine abr_false rfl ?_ | with_reducible refine abr_yes rfl ?_ | refine abr_yes (by decide) ?_ | refine abr_no (by decide) ?_ | with_reducible refine abr_same_ne ?_); (conv => whnf))))
  refine aload k2 rfl ?_
  ((conv => whnf); (repeat ((first | with_reducible refine abr_true rfl ?_ | with_reducible refine abr_false rfl ?_ | with_reducible refine abr_yes rfl ?_ | refine abr_yes (by decide) ?_ | refine abr_no (by decide) ?_ | with_reducible refine abr_same_ne ?_); (conv => whnf))))
  by_cases e : x = y
  · refine abr_yes e ?_
    ((conv => whnf); (repeat ((first | with_reducible refine abr_true rfl ?_ | with_reducible refine abr_false rfl ?_ | with_reducible refine abr_yes rfl ?_ | refine abr_yes (by decide) ?_ | refine abr_no (by decide) ?_ | with_reducible refine abr_same_ne ?_); (conv => whnf))))
    refine aload k1 rfl ?_
    ((conv => whnf); (repeat ((first | with_reducible refine abr_true rfl ?_ | with_reducible refine abr_false rfl ?_ | with_reducible refine abr_yes rfl ?_ | refine abr_yes (by decide) ?_ | refine abr_no (by decide) ?_ | with_reducible refine abr_same_ne ?_); (conv => whnf))))
    refine aload k2 rfl ?_
    ((conv => whnf); (repeat ((first | with_reducible refine abr_true rfl ?_ | with_reducible refine abr_false rfl ?_ | with_reducible refine abr_yes rfl ?_ | refine abr_yes (by decide) ?_ | refine abr_no (by decide) ?_ | with_reducible refine abr_same_ne ?_); (conv => whnf))))
    refine acall (tEqual l m t u _ hl) ?_
    rintro _ σ_ ⟨rfl, e_⟩
    obtain rfl := e_.symm
    refine ⟨?_, Ext.refl _⟩
    ((conv => whnf); (repeat ((first | with_reducible refine abr_true rfl ?_ | with_reducible refine abr_false rfl ?_ | with_reducible refine abr_yes rfl ?_ | refine abr_yes (by decide) ?_ | refine abr_no (by decide) ?_ | with_reducible refine abr_same_ne ?_); (conv => whnf))))
    exact aret (VLe.refl _) hs ⟨congrArg boolv (dec_congr (by rw [Prod.mk.injEq]; exact ⟨fun h => ⟨e, h⟩, fun h => h.2⟩)), rfl⟩
  · refine abr_no e ?_
    ((conv => whnf); (repeat ((first | with_reducible refine abr_true rfl ?_ | with_reducible refine abr_false rfl ?_ | with_reducible refine abr_yes rfl ?_ | refine abr_yes (by decide) ?_ | refine abr_no (by decide) ?_ | with_reducible refine abr_same_ne ?_); (conv => whnf))))
    exact aret (VLe.refl _) hs ⟨congrArg boolv (decide_eq_false fun h => e (congrArg Prod.fst h)).symm, rfl⟩
set_option maxRecDepth 20000 in
theorem refSame (a b : Int × List Ms) (t u : Tok) (σ : AHeap) (hl : a.2.length ≤ 9223372036854775807) : ACalls Try.prog i_bowlineref11_Same [stV t a, stV u b] σ fun v σ' => v = boolv (decide (a = b)) ∧ σ' = σ := by
  obtain ⟨x, l⟩ := a
  obtain ⟨y, m⟩ := b
  dsimp only at hl
  refine k_bowlineref11_Same rfl ?_
  ((conv => whnf); (repeat ((first | with_reducible refine abr_true rfl ?_ | with_reducible refine abr_false rfl ?_ | with_reducible refine abr_yes rfl ?_ | refine abr_yes (by decide) ?_ | refine abr_no (by decide) ?_ | with_reducible refine abr_same_ne ?_); (conv => whnf))))
  refine anew rfl fun i1 h1 => ?_
  ((conv => whnf); (repeat ((first | with_reducible refine abr_true rfl ?_ | with_reducible refine abr_false rfl ?_ | with_reducible refine abr_yes rfl ?_ | refine abr_yes (by decide) ?_ | refine abr_no (by decide) ?_ | with_reducible refine abr_same_ne ?_); (conv => whnf))))
  refine anew rfl fun i2 h2 => ?_
  have n12 : i1 ≠ i2 := fun e => by subst e; rw [upd_same] at h2; cases h2
  have b2 : σ i2 = none := sub_none (Sub.upd_fresh _ h1) h2
  have hs : Sub (upd (upd σ i1 (.cells (stV t (x, l)).cells)) i2 (.cells (stV u (y, m)).cells)) σ := sub_upd _ (Sub.upd_fresh _ h1) b2
  have k1 : upd (upd σ i1 (.cells (stV t (x, l)).cells)) i2 (.cells (stV u (y, m)).cells) i1 = some (.cells [i64v x, missV t l]) := by rw [upd_ne _ _ n12]; exact upd_same _ _ _
  have k2 : upd (upd σ i1 (.cells (stV t (x, l)).cells)) i2 (.cells (stV u (y, m)).cells) i2 = some (.cells [i64v y, missV u m]) := upd_same _ _ _
  generalize upd (upd σ i1 (.cells (stV t (x, l)).cells)) i2 (.cells (stV u (y, m)).cells) = τ at *
  ((conv => whnf); (repeat ((first | with_reducible refine abr_true rfl ?_ | with_reducible refine abr_false rfl ?_ | with_reducible refine abr_yes rfl ?_ | refine abr_yes (by decide) ?_ | refine abr_no (by decide) ?_ | with_reducible refine abr_same_ne ?_); (conv => whnf))))
  refine aload k1 rfl ?_
  ((conv => whnf); (repeat ((first | with_reducible refine abr_true rfl ?_ | with_reducible refine abr_false rfl ?_ | with_reducible refine abr_yes rfl ?_ | refine abr_yes (by decide) ?_ | refine abr_no (by decide) ?_ | with_reducible refine abr_same_ne ?_); (conv => whnf))))
  refine aload k2 rfl ?_
  ((conv => whnf); (repeat ((first | with_reducible refine abr_true rfl ?_ | with_reducible refine abr_false rfl ?_ | with_reducible refine abr_yes rfl ?_ | refine abr_yes (by decide) ?_ | refine abr_no (by decide) ?_ | with_reducible refine abr_same_ne ?_); (conv => whnf))))
  by_cases e : x = y
  case neg =>
    (repeat ((first | refine aload (by (repeat (first | with_reducible exact upd_same _ _ _ | assumption | rw [upd_ne _ _ (by first | assumption | (apply Ne.symm; assumption))]))) rfl ?_ | refine afit_i64 (by omega) ?_ | refine arem_nonneg (by omega) (by omega) ?_ | refine adiv_i64 (by omega) (by omega) ?_ | refine abr_yes (by omega) ?_ | refine abr_no (by omega) ?_ | refine amin ?_ | refine amax ?_ | refine afit_u64 (by omega) ?_ | refine afit_u8 (by omega) ?_ | rw [List.length_map]); ((conv => whnf); (repeat ((first | with_reducible refine abr_true rfl ?_ | with_reducible refine abr_false rfl ?_ | with_reducible refine abr_yes rfl ?_ | refine abr_yes (by decide) ?_ | refine abr_no (by decide) ?_ | with_reducible refine abr_same_ne ?_); (conv => whnf))))))
    exact aret (VLe.refl _) hs ⟨congrArg boolv (decide_eq_false fun h => e (congrArg Prod.fst h)).symm, rfl⟩
  have hdec : decide ((x, l) = (y, m)) = decide (l = m) := dec_congr (by rw [Prod.mk.injEq]; exact ⟨fun h => h.2, fun h => ⟨e, h⟩⟩)
  rw [hdec]
  (repeat ((first | refine aload (by (repeat (first | with_reducible exact upd_same _ _ _ | assumption | rw [upd_ne _ _ (by first | assumption | (apply Ne.symm; assumption))]))) rfl ?_ | refine afit_i64 (by omega) ?_ | refine arem_nonneg (by omega) (by omega) ?_ | refine adiv_i64 (by omega) (by omega) ?_ | refine abr_yes (by omega) ?_ | refine abr_no (by omega) ?_ | refine amin ?_ | refine amax ?_ | refine afit_u64 (by omega) ?_ | refine afit_u8 (by omega) ?_ | rw [List.length_map]); ((conv => whnf); (repeat ((first | with_reducible refine abr_true rfl ?_ | with_reducible refine abr_false rfl ?_ | with_reducible refine abr_yes rfl ?_ | refine abr_yes (by decide) ?_ | refine abr_no (by decide) ?_ | with_reducible refine abr_same_ne ?_); (conv => whnf))))))
  by_cases hlm : l.length = m.length
  case neg =>
    (repeat ((first | refine aload (by (repeat (first | with_reducible exact upd_same _ _ _ | assumption | rw [upd_ne _ _ (by first | assumption | (apply Ne.symm; assumption))]))) rfl ?_ | refine afit_i64 (by omega) ?_ | refine arem_nonneg (by omega) (by omega) ?_ | refine adiv_i64 (by omega) (by omega) ?_ | refine abr_yes (by omega) ?_ | refine abr_no (by omega) ?_ | refine amin ?_ | refine amax ?_ | refine afit_u64 (by omega) ?_ | refine afit_u8 (by omega) ?_ | rw [List.length_map]); ((conv => whnf); (repeat ((first | with_reducible refine abr_true rfl ?_ | with_reducible refine abr_false rfl ?_ | with_reducible refine abr_yes rfl ?_ | refine abr_yes (by decide) ?_ | refine abr_no (by decide) ?_ | with_reducible refine abr_same_ne ?_); (conv => whnf))))))
    exact aret (VLe.refl _) hs ⟨congrArg boolv (decide_eq_false fun e => hlm (by rw [e])).symm, rfl⟩
  (repeat ((first | refine aload (by (repeat (first | with_reducible exact upd_same _ _ _ | assumption | rw [upd_ne _ _ (by first | assumption | (apply Ne.symm; assumption))]))) rfl ?_ | refine afit_i64 (by omega) ?_ | refine arem_nonneg (by omega) (by omega) ?_ | refine adiv_i64 (by omega) (by omega) ?_ | refine abr_yes (by omega) ?_ | refine abr_no (by omega) ?_ | refine amin ?_ | refine amax ?_ | refine afit_u64 (by omega) ?_ | refine afit_u8 (by omega) ?_ | rw [List.length_map]); ((conv => whnf); (repeat ((first | with_reducible refine abr_true rfl ?_ | with_reducible refine abr_false rfl ?_ | with_reducible refine abr_yes rfl ?_ | refine abr_yes (by decide) ?_ | refine abr_no (by decide) ?_ | with_reducible refine abr_same_ne ?_); (conv => whnf))))))
  refine aloop (α := Nat) (fun i => [(s5, i64v i)]) (fun _ => τ) (fun i => i ≤ l.length ∧ l.take i = m.take i) (fun i => l.length - i) 0 ⟨Nat.zero_le _, rfl⟩ (Sub.refl _) ?_ ?_
  · ((conv => whnf); (repeat ((first | with_reducible refine abr_true rfl ?_ | with_reducible refine abr_false rfl ?_ | with_reducible refine abr_yes rfl ?_ | refine abr_yes (by decide) ?_ | refine abr_no (by decide) ?_ | with_reducible refine abr_same_ne ?_); (conv => whnf))))
    (repeat' first | with_reducible exact EnvLe.refl _ | (refine EnvLe.node ?_ (by first | exact Or.inl rfl | exact Or.inr (Or.inl rfl) | exact Or.inr (Or.inr ⟨nofun, VLe.slice _ _ _⟩)) ?_))
  rintro i ⟨hi, ht⟩
  by_cases h : i < l.length
  · have h2 : i < m.length := by omega
    have hte := take_succ_eq h h2 ht
    ((conv => whnf); (repeat ((first | with_reducible refine abr_true rfl ?_ | with_reducible refine abr_false rfl ?_ | with_reducible refine abr_yes rfl ?_ | refine abr_yes (by decide) ?_ | refine abr_no (by decide) ?_ | with_reducible refine abr_same_ne ?_); (conv => whnf))))
    (repeat ((first | refine aload (by (repeat (first | with_reducible exact upd_same _ _ _ | assumption | rw [upd_ne _ _ (by first | assumption | (apply Ne.symm; assumption))]))) rfl ?_ | refine afit_i64 (by omega) ?_ | refine arem_nonneg (by omega) (by omega) ?_ | refine adiv_i64 (by omega) (by omega) ?_ | refine abr_yes (by omega) ?_ | refine abr_no (by omega) ?_ | refine amin ?_ | refine amax ?_ | refine afit_u64 (by omega) ?_ | refine afit_u8 (by omega) ?_ | rw [List.length_map]); ((conv => whnf); (repeat ((first | with_reducible refine abr_true rfl ?_ | with_reducible refine abr_false rfl ?_ | with_reducible refine abr_yes rfl ?_ | refine abr_yes (by decide) ?_ | refine abr_no (by decide) ?_ | with_reducible refine abr_same_ne ?_); (conv => whnf))))))
    refine aget (by omega) (get_ms h) ?_
    ((conv => whnf); (repeat ((first | with_reducible refine abr_true rfl ?_ | with_reducible refine abr_false rfl ?_ | with_reducible refine abr_yes rfl ?_ | refine abr_yes (by decide) ?_ | refine abr_no (by decide) ?_ | with_reducible refine abr_same_ne ?_); (conv => whnf))))
    refine acells (l := (msV l[i]).cells) (by exact Nat.le_refl 4) rfl ?_
    ((conv => whnf); (repeat ((first | with_reducible refine abr_true rfl ?_ | with_reducible refine abr_false rfl ?_ | with_reducible refine abr_yes rfl ?_ | refine abr_yes (by decide) ?_ | refine abr_no (by decide) ?_ | with_reducible refine abr_same_ne ?_); (conv => whnf))))
    refine aload k2 rfl ?_
    ((conv => whnf); (repeat ((first | with_reducible refine abr_true rfl ?_ | with_reducible refine abr_false rfl ?_ | with_reducible refine abr_yes rfl ?_ | refine abr_yes (by decide) ?_ | refine abr_no (by decide) ?_ | with_reducible refine abr_same_ne ?_); (conv => whnf))))
    refine aget (by omega) (get_ms h2) ?_
    ((conv => whnf); (repeat ((first | with_reducible refine abr_true rfl ?_ | with_reducible refine abr_false rfl ?_ | with_reducible refine abr_yes rfl ?_ | refine abr_yes (by decide) ?_ | refine abr_no (by decide) ?_ | with_reducible refine abr_same_ne ?_); (conv => whnf))))
    refine acells (l := (msV m[i]).cells) (by exact Nat.le_refl 4) rfl ?_
    ((conv => whnf); (repeat ((first | with_reducible refine abr_true rfl ?_ | with_reducible refine abr_false rfl ?_ | with_reducible refine abr_yes rfl ?_ | refine abr_yes (by decide) ?_ | refine abr_no (by decide) ?_ | with_reducible refine abr_same_ne ?_); (conv => whnf))))
    by_cases e : l[i] = m[i]
    · have hq : msEq l[i] m[i] = true := msEq_iff.2 e
      refine abr_false (show (msEq l[i] m[i] != true) = false by rw [hq]; rfl) ?_
      ((conv => whnf); (repeat ((first | with_reducible refine abr_true rfl ?_ | with_reducible refine abr_false rfl ?_ | with_reducible refine abr_yes rfl ?_ | refine abr_yes (by decide) ?_ | refine abr_no (by decide) ?_ | with_reducible refine abr_same_ne ?_); (conv => whnf))))
      (repeat ((first | refine aload (by (repeat (first | with_reducible exact upd_same _ _ _ | assumption | rw [upd_ne _ _ (by first | assumption | (apply Ne.symm; assumption))]))) rfl ?_ | refine afit_i64 (by omega) ?_ | refine arem_nonneg (by omega) (by omega) ?_ | refine adiv_i64 (by omega) (by omega) ?_ | refine abr_yes (by omega) ?_ | refine abr_no (by omega) ?_ | refine amin ?_ | refine amax ?_ | refine afit_u64 (by omega) ?_ | refine afit_u8 (by omega) ?_ | rw [List.length_map]); ((conv => whnf); (repeat ((first | with_reducible refine abr_true rfl ?_ | with_reducible refine abr_false rfl ?_ | with_reducible refine abr_yes rfl ?_ | refine abr_yes (by decide) ?_ | refine abr_no (by decide) ?_ | with_reducible refine abr_same_ne ?_); (conv => whnf))))))
      refine ⟨i + 1, ⟨h, hte.2 e⟩, by omega, Sub.refl _, ?_⟩
      ((conv => whnf); (repeat ((first | with_reducible refine abr_true rfl ?_ | with_reducible refine abr_false rfl ?_ | with_reducible refine abr_yes rfl ?_ | refine abr_yes (by decide) ?_ | refine abr_no (by decide) ?_ | with_reducible refine abr_same_ne ?_); (conv => whnf))))
      (repeat' first | with_reducible exact EnvLe.refl _ | (refine EnvLe.node ?_ (by first | exact Or.inl rfl | exact Or.inr (Or.inl rfl) | exact Or.inr (Or.inr ⟨nofun, VLe.slice _ _ _⟩)) ?_))
    · have hq : msEq l[i] m[i] = false := Bool.eq_false_iff.2 fun h => e (msEq_iff.1 h)
      refine abr_true (show (msEq l[i] m[i] != true) = true by rw [hq]; rfl) ?_
      ((conv => whnf); (repeat ((first | with_reducible refine abr_true rfl ?_ | with_reducible refine abr_false rfl ?_ | with_reducible refine abr_yes rfl ?_ | refine abr_yes (by decide) ?_ | refine abr_no (by decide) ?_ | with_reducible refine abr_same_ne ?_); (conv => whnf))))
      exact aret (VLe.refl _) hs ⟨congrArg boolv (decide_eq_false fun e2 => e (hte.1 (by rw [e2]))).symm, rfl⟩
  · rw [List.take_of_length_le (by omega), List.take_of_length_le (by omega)] at ht
    ((conv => whnf); (repeat ((first | with_reducible refine abr_true rfl ?_ | with_reducible refine abr_false rfl ?_ | with_reducible refine abr_yes rfl ?_ | refine abr_yes (by decide) ?_ | refine abr_no (by decide) ?_ | with_reducible refine abr_same_ne ?_); (conv => whnf))))
    (repeat ((first | refine aload (by (repeat (first | with_reducible exact upd_same _ _ _ | assumption | rw [upd_ne _ _ (by first | assumption | (apply Ne.symm; assumption))]))) rfl ?_ | refine afit_i64 (by omega) ?_ | refine arem_nonneg (by omega) (by omega) ?_ | refine adiv_i64 (by omega) (by omega) ?_ | refine abr_yes (by omega) ?_ | refine abr_no (by omega) ?_ | refine amin ?_ | refine amax ?_ | refine afit_u64 (by omega) ?_ | refine afit_u8 (by omega) ?_ | rw [List.length_map]); ((conv => whnf); (repeat ((first | with_reducible refine abr_true rfl ?_ | with_reducible refine abr_false rfl ?_ | with_reducible refine abr_yes rfl ?_ | refine abr_yes (by decide) ?_ | refine abr_no (by decide) ?_ | with_reducible refine abr_same_ne ?_); (conv => whnf))))))
    exact aret (VLe.refl _) hs ⟨congrArg boolv (decide_eq_true ht).symm, rfl⟩
end Go.Proofs.Ytnfdgccmpglbhaa
/-
  The document's form of a status.
-/
namespace Go.Proofs.Ytnfdgccmpglbhaa
set_option linter.unusedVariables false
set_option linter.unusedSimpArgs false
open Go Go.Am

theorem vle_st {x : Int} {l : List Ms} {t : Tok} : VLe (stV t (x, l)) (stV .none (x, l)) := fun κ v k => by
  cases k with
  | agg k => exact .agg (VLe.cons (VLe.refl _) (VLe.cons (VLe.slice _ _ _) fun _ _ h => h) _ _ k)
set_option maxRecDepth 20000 in
theorem tAs (s : Int × List Ms) (t : Tok) (σ : AHeap) (hl : s.2.length * 32 ≤ 140737488351232) : ACalls Try.prog i_bowlinelaw11_As [stV t s] σ fun v σ' => v = stV .none s ∧ σ' = σ := by
  obtain ⟨x, l⟩ := s
  dsimp only at hl
  refine k_bowlinelaw11_As rfl ?_
  ((conv => whnf); (repeat ((first | with_reducible refine abr_true rfl ?_ | with_reducible refine abr_false rfl ?_ | with_reducible refine abr_yes rfl ?_ | refine abr_yes (by decide) ?_ | refine abr_no (by decide) ?_ | with_reducible refine abr_same_ne ?_); (conv => whnf))))
  refine anew rfl fun i1 h1 => ?_
  ((conv => whnf); (repeat ((first | with_reducible refine abr_true rfl ?_ | with_reducible refine abr_false rfl ?_ | with_reducible refine abr_yes rfl ?_ | refine abr_yes (by decide) ?_ | refine abr_no (by decide) ?_ | with_reducible refine abr_same_ne ?_); (conv => whnf))))
  refine anew rfl fun i2 h2 => ?_
  have n12 : i1 ≠ i2 := fun e => by subst e; rw [upd_same] at h2; cases h2
  have b2 : σ i2 = none := sub_none (Sub.upd_fresh _ h1) h2
  have hs : Sub (upd (upd σ i1 (.cells (stV t (x, l)).cells)) i2 (.cells [i64v 0, .slice 4 [] .full])) σ := sub_upd _ (Sub.upd_fresh _ h1) b2
  have k1 : upd (upd σ i1 (.cells (stV t (x, l)).cells)) i2 (.cells [i64v 0, .slice 4 [] .full]) i1 = some (.cells [i64v x, missV t l]) := by rw [upd_ne _ _ n12]; exact upd_same _ _ _
  have k2 : upd (upd σ i1 (.cells (stV t (x, l)).cells)) i2 (.cells [i64v 0, .slice 4 [] .full]) i2 = some (.cells [i64v 0, .slice 4 [] .full]) := upd_same _ _ _
  generalize upd (upd σ i1 (.cells (stV t (x, l)).cells)) i2 (.cells [i64v 0, .slice 4 [] .full]) = τ at *
  ((conv => whnf); (repeat ((first | with_reducible refine abr_true rfl ?_ | with_reducible refine abr_false rfl ?_ | with_reducible refine abr_yes rfl ?_ | refine abr_yes (by decide) ?_ | refine abr_no (by decide) ?_ | with_reducible refine abr_same_ne ?_); (conv => whnf))))
  refine aload k1 rfl ?_
  ((conv => whnf); (repeat ((first | with_reducible refine abr_true rfl ?_ | with_reducible refine abr_false rfl ?_ | with_reducible refine abr_yes rfl ?_ | refine abr_yes (by decide) ?_ | refine abr_no (by decide) ?_ | with_reducible refine abr_same_ne ?_); (conv => whnf))))
  refine anew rfl fun i3 h3 => ?_
  have n13 : i1 ≠ i3 := fun e => by subst e; rw [k1] at h3; cases h3
  have n23 : i2 ≠ i3 := fun e => by subst e; rw [k2] at h3; cases h3
  ((conv => whnf); (repeat ((first | with_reducible refine abr_true rfl ?_ | with_reducible refine abr_false rfl ?_ | with_reducible refine abr_yes rfl ?_ | refine abr_yes (by decide) ?_ | refine abr_no (by decide) ?_ | with_reducible refine abr_same_ne ?_); (conv => whnf))))
  refine astore (xs := [i64v x, .slice 4 [] .full]) (l := [i64v x, .slice 4 [] .full]) (upd_same _ _ _) (by exact Nat.le_refl 2) rfl rfl ?_
  rw [upd_upd]
  have b3 : σ i3 = none := sub_none hs h3
  have k1 : upd τ i3 (.cells [i64v x, .slice 4 [] .full]) i1 = some (.cells [i64v x, missV t l]) := (upd_ne _ _ n13).trans k1
  have k2 : upd τ i3 (.cells [i64v x, .slice 4 [] .full]) i2 = some (.cells [i64v 0, .slice 4 [] .full]) := (upd_ne _ _ n23).trans k2
  have k3 : upd τ i3 (.cells [i64v x, .slice 4 [] .full]) i3 = some (.cells [i64v x, missV .full []]) := upd_same _ _ _
  have hs : Sub (upd τ i3 (.cells [i64v x, .slice 4 [] .full])) σ := sub_upd _ hs b3
  generalize upd τ i3 (.cells [i64v x, .slice 4 [] .full]) = υ at *
  ((conv => whnf); (repeat ((first | with_reducible refine abr_true rfl ?_ | with_reducible refine abr_false rfl ?_ | with_reducible refine abr_yes rfl ?_ | refine abr_yes (by decide) ?_ | refine abr_no (by decide) ?_ | with_reducible refine abr_same_ne ?_); (conv => whnf))))
  refine aloop (α := Nat × Tok × AHeap) (fun z => [(s4, i64v z.1)]) (fun z => z.2.2) (fun z => z.1 ≤ l.length ∧ z.2.2 i1 = some (.cells [i64v x, missV t l]) ∧ z.2.2 i2 = some (.cells [i64v 0, .slice 4 [] .full]) ∧ z.2.2 i3 = some (.cells [i64v x, missV z.2.1 (l.take z.1)]) ∧ TokIn z.2.2 σ z.2.1 ∧ Sub z.2.2 σ) (fun z => l.length - z.1) (0, .full, υ) ⟨Nat.zero_le _, k1, k2, k3, .full _ _, hs⟩ (Sub.refl _) ?_ ?_
  · ((conv => whnf); (repeat ((first | with_reducible refine abr_true rfl ?_ | with_reducible refine abr_false rfl ?_ | with_reducible refine abr_yes rfl ?_ | refine abr_yes (by decide) ?_ | refine abr_no (by decide) ?_ | with_reducible refine abr_same_ne ?_); (conv => whnf))))
    (repeat' first | with_reducible exact EnvLe.refl _ | (refine EnvLe.node ?_ (by first | exact Or.inl rfl | exact Or.inr (Or.inl rfl) | exact Or.inr (Or.inr ⟨nofun, VLe.slice _ _ _⟩)) ?_))
  rintro ⟨i, tk, υ2⟩ ⟨hi, q1, q2, q3, hto, hs2⟩
  dsimp only at hi q1 q2 q3 hto hs2 ⊢
  by_cases h : i < l.length
  · ((conv => whnf); (repeat ((first | with_reducible refine abr_true rfl ?_ | with_reducible refine abr_false rfl ?_ | with_reducible refine abr_yes rfl ?_ | refine abr_yes (by decide) ?_ | refine abr_no (by decide) ?_ | with_reducible refine abr_same_ne ?_); (conv => whnf))))
    (repeat ((first | refine aload (by (repeat (first | with_reducible exact upd_same _ _ _ | assumption | rw [upd_ne _ _ (by first | assumption | (apply Ne.symm; assumption))]))) rfl ?_ | refine afit_i64 (by omega) ?_ | refine arem_nonneg (by omega) (by omega) ?_ | refine adiv_i64 (by omega) (by omega) ?_ | refine abr_yes (by omega) ?_ | refine abr_no (by omega) ?_ | refine amin ?_ | refine amax ?_ | refine afit_u64 (by omega) ?_ | refine afit_u8 (by omega) ?_ | rw [List.length_map]); ((conv => whnf); (repeat ((first | with_reducible refine abr_true rfl ?_ | with_reducible refine abr_false rfl ?_ | with_reducible refine abr_yes rfl ?_ | refine abr_yes (by decide) ?_ | refine abr_no (by decide) ?_ | with_reducible refine abr_same_ne ?_); (conv => whnf))))))
    refine aget (by omega) (get_ms h) ?_
    ((conv => whnf); (repeat ((first | with_reducible refine abr_true rfl ?_ | with_reducible refine abr_false rfl ?_ | with_reducible refine abr_yes rfl ?_ | refine abr_yes (by decide) ?_ | refine abr_no (by decide) ?_ | with_reducible refine abr_same_ne ?_); (conv => whnf))))
    refine acells (l := (msV l[i]).cells) (by exact Nat.le_refl 4) rfl ?_
    ((conv => whnf); (repeat ((first | with_reducible refine abr_true rfl ?_ | with_reducible refine abr_false rfl ?_ | with_reducible refine abr_yes rfl ?_ | refine abr_yes (by decide) ?_ | refine abr_no (by decide) ?_ | with_reducible refine abr_same_ne ?_); (conv => whnf))))
    refine anew rfl fun i5 h5 => ?_
    ((conv => whnf); (repeat ((first | with_reducible refine abr_true rfl ?_ | with_reducible refine abr_false rfl ?_ | with_reducible refine abr_yes rfl ?_ | refine abr_yes (by decide) ?_ | refine abr_no (by decide) ?_ | with_reducible refine abr_same_ne ?_); (conv => whnf))))
    refine astore (xs := (msV l[i]).cells) (l := [i64v l[i].1, boolv l[i].2.1, i64v l[i].2.2.1, i64v l[i].2.2.2]) (upd_same _ _ _) (by exact Nat.le_refl 4) rfl rfl ?_
    rw [upd_upd]
    have n15 : i1 ≠ i5 := fun e => by subst e; rw [q1] at h5; cases h5
    have n25 : i2 ≠ i5 := fun e => by subst e; rw [q2] at h5; cases h5
    have n35 : i3 ≠ i5 := fun e => by subst e; rw [q3] at h5; cases h5
    have m1 : upd υ2 i5 (.cells [i64v l[i].1, boolv l[i].2.1, i64v l[i].2.2.1, i64v l[i].2.2.2]) i1 = some (.cells [i64v x, missV t l]) := (upd_ne _ _ n15).trans q1
    have m2 : upd υ2 i5 (.cells [i64v l[i].1, boolv l[i].2.1, i64v l[i].2.2.1, i64v l[i].2.2.2]) i2 = some (.cells [i64v 0, .slice 4 [] .full]) := (upd_ne _ _ n25).trans q2
    have m3 : upd υ2 i5 (.cells [i64v l[i].1, boolv l[i].2.1, i64v l[i].2.2.1, i64v l[i].2.2.2]) i3 = some (.cells [i64v x, missV tk (l.take i)]) := (upd_ne _ _ n35).trans q3
    have m5 : upd υ2 i5 (.cells [i64v l[i].1, boolv l[i].2.1, i64v l[i].2.2.1, i64v l[i].2.2.2]) i5 = some (.cells [i64v l[i].1, boolv l[i].2.1, i64v l[i].2.2.1, i64v l[i].2.2.2]) := upd_same _ _ _
    have hs5 : Sub (upd υ2 i5 (.cells [i64v l[i].1, boolv l[i].2.1, i64v l[i].2.2.1, i64v l[i].2.2.2])) σ := sub_upd _ hs2 (sub_none hs2 h5)
    have hto5 : TokIn (upd υ2 i5 (.cells [i64v l[i].1, boolv l[i].2.1, i64v l[i].2.2.1, i64v l[i].2.2.2])) σ tk := by
      rcases hto with rfl | ⟨u, rfl, h1, h2⟩
      · exact .inl rfl
      · exact .inr ⟨u, rfl, by rw [upd_ne _ _ (fun e => by subst e; rw [h1] at h5; cases h5)]; exact h1, h2⟩
    generalize upd υ2 i5 (.cells [i64v l[i].1, boolv l[i].2.1, i64v l[i].2.2.1, i64v l[i].2.2.2]) = υ3 at *
    ((conv => whnf); (repeat ((first | with_reducible refine abr_true rfl ?_ | with_reducible refine abr_false rfl ?_ | with_reducible refine abr_yes rfl ?_ | refine abr_yes (by decide) ?_ | refine abr_no (by decide) ?_ | with_reducible refine abr_same_ne ?_); (conv => whnf))))
    (repeat ((first | refine aload (by (repeat (first | with_reducible exact upd_same _ _ _ | assumption | rw [upd_ne _ _ (by first | assumption | (apply Ne.symm; assumption))]))) rfl ?_ | refine afit_i64 (by omega) ?_ | refine arem_nonneg (by omega) (by omega) ?_ | refine adiv_i64 (by omega) (by omega) ?_ | refine abr_yes (by omega) ?_ | refine abr_no (by omega) ?_ | refine amin ?_ | refine amax ?_ | refine afit_u64 (by omega) ?_ | refine afit_u8 (by omega) ?_ | rw [List.length_map]); ((conv => whnf); (repeat ((first | with_reducible refine abr_true rfl ?_ | with_reducible refine abr_false rfl ?_ | with_reducible refine abr_yes rfl ?_ | refine abr_yes (by decide) ?_ | refine abr_no (by decide) ?_ | with_reducible refine abr_same_ne ?_); (conv => whnf))))))
    refine aapp_in (ys := [msV l[i]]) hto5 hs5 (by rw [List.length_map, List.length_take]; show (_ + 1) * 32 ≤ _; omega) fun t5 σ5 hx5 hs6 hto6 => ?_
    have p1 := hx5 i1 _ rfl m1
    have p2 := hx5 i2 _ rfl m2
    have p3 := hx5 i3 _ rfl m3
    rw [show (l.take i).map msV ++ [msV l[i]] = (l.take (i + 1)).map msV by rw [show l.take (i + 1) = l.take i ++ [l[i]] from (List.take_append_getElem h).symm, List.map_append]; rfl]
    ((conv => whnf); (repeat ((first | with_reducible refine abr_true rfl ?_ | with_reducible refine abr_false rfl ?_ | with_reducible refine abr_yes rfl ?_ | refine abr_yes (by decide) ?_ | refine abr_no (by decide) ?_ | with_reducible refine abr_same_ne ?_); (conv => whnf))))
    refine astore (xs := [missV (.tip t5) (l.take (i + 1))]) (l := [i64v x, missV (.tip t5) (l.take (i + 1))]) p3 (by exact Nat.le_refl 2) rfl rfl ?_
    have hn3 : i3 ≠ t5 := hto6.ne_of p3 rfl t5 rfl
    ((conv => whnf); (repeat ((first | with_reducible refine abr_true rfl ?_ | with_reducible refine abr_false rfl ?_ | with_reducible refine abr_yes rfl ?_ | refine abr_yes (by decide) ?_ | refine abr_no (by decide) ?_ | with_reducible refine abr_same_ne ?_); (conv => whnf))))
    (repeat ((first | refine aload (by (repeat (first | with_reducible exact upd_same _ _ _ | assumption | rw [upd_ne _ _ (by first | assumption | (apply Ne.symm; assumption))]))) rfl ?_ | refine afit_i64 (by omega) ?_ | refine arem_nonneg (by omega) (by omega) ?_ | refine adiv_i64 (by omega) (by omega) ?_ | refine abr_yes (by omega) ?_ | refine abr_no (by omega) ?_ | refine amin ?_ | refine amax ?_ | refine afit_u64 (by omega) ?_ | refine afit_u8 (by omega) ?_ | rw [List.length_map]); ((conv => whnf); (repeat ((first | with_reducible refine abr_true rfl ?_ | with_reducible refine abr_false rfl ?_ | with_reducible refine abr_yes rfl ?_ | refine abr_yes (by decide) ?_ | refine abr_no (by decide) ?_ | with_reducible refine abr_same_ne ?_); (conv => whnf))))))
    refine ⟨(i + 1, .tip t5, upd σ5 i3 (.cells [i64v x, missV (.tip t5) (l.take (i + 1))])), ⟨h, (upd_ne _ _ n13).trans p1, (upd_ne _ _ n23).trans p2, upd_same _ _ _, hto6.ne _ (fun u e => by cases e; exact hn3), sub_upd _ hs6 b3⟩, by dsimp only; omega, Sub.refl _, ?_⟩
    ((conv => whnf); (repeat ((first | with_reducible refine abr_true rfl ?_ | with_reducible refine abr_false rfl ?_ | with_reducible refine abr_yes rfl ?_ | refine abr_yes (by decide) ?_ | refine abr_no (by decide) ?_ | with_reducible refine abr_same_ne ?_); (conv => whnf))))
    (repeat' first | with_reducible exact EnvLe.refl _ | (refine EnvLe.node ?_ (by first | exact Or.inl rfl | exact Or.inr (Or.inl rfl) | exact Or.inr (Or.inr ⟨nofun, VLe.slice _ _ _⟩)) ?_))
  · obtain rfl : i = l.length := by omega
    rw [List.take_length] at q3
    ((conv => whnf); (repeat ((first | with_reducible refine abr_true rfl ?_ | with_reducible refine abr_false rfl ?_ | with_reducible refine abr_yes rfl ?_ | refine abr_yes (by decide) ?_ | refine abr_no (by decide) ?_ | with_reducible refine abr_same_ne ?_); (conv => whnf))))
    (repeat ((first | refine aload (by (repeat (first | with_reducible exact upd_same _ _ _ | assumption | rw [upd_ne _ _ (by first | assumption | (apply Ne.symm; assumption))]))) rfl ?_ | refine afit_i64 (by omega) ?_ | refine arem_nonneg (by omega) (by omega) ?_ | refine adiv_i64 (by omega) (by omega) ?_ | refine abr_yes (by omega) ?_ | refine abr_no (by omega) ?_ | refine amin ?_ | refine amax ?_ | refine afit_u64 (by omega) ?_ | refine afit_u8 (by omega) ?_ | rw [List.length_map]); ((conv => whnf); (repeat ((first | with_reducible refine abr_true rfl ?_ | with_reducible refine abr_false rfl ?_ | with_reducible refine abr_yes rfl ?_ | refine abr_yes (by decide) ?_ | refine abr_no (by decide) ?_ | with_reducible refine abr_same_ne ?_); (conv => whnf))))))
    refine aloads (l := [i64v x, missV tk l]) q3 (by exact Nat.le_refl 2) rfl ?_
    ((conv => whnf); (repeat ((first | with_reducible refine abr_true rfl ?_ | with_reducible refine abr_false rfl ?_ | with_reducible refine abr_yes rfl ?_ | refine abr_yes (by decide) ?_ | refine abr_no (by decide) ?_ | with_reducible refine abr_same_ne ?_); (conv => whnf))))
    refine astore (xs := [i64v x, missV tk l]) (l := [i64v x, missV tk l]) q2 (by exact Nat.le_refl 2) rfl rfl ?_
    ((conv => whnf); (repeat ((first | with_reducible refine abr_true rfl ?_ | with_reducible refine abr_false rfl ?_ | with_reducible refine abr_yes rfl ?_ | refine abr_yes (by decide) ?_ | refine abr_no (by decide) ?_ | with_reducible refine abr_same_ne ?_); (conv => whnf))))
    refine aloads (l := [i64v x, missV tk l]) (upd_same _ _ _) (by exact Nat.le_refl 2) rfl ?_
    ((conv => whnf); (repeat ((first | with_reducible refine abr_true rfl ?_ | with_reducible refine abr_false rfl ?_ | with_reducible refine abr_yes rfl ?_ | refine abr_yes (by decide) ?_ | refine abr_no (by decide) ?_ | with_reducible refine abr_same_ne ?_); (conv => whnf))))
    exact aret vle_st (sub_upd _ hs2 b2) ⟨rfl, rfl⟩
end Go.Proofs.Ytnfdgccmpglbhaa
/-
  The bodies of one package, compiled to the framework's language (printed by a program of this session).
-/
namespace Go.Proofs.Ytnfdgccmpglbhaa
set_option linter.unusedVariables false
set_option linter.unusedSimpArgs false
open Go Go.Am
/- bowlineref01.Bits -/
def c97 : Cfg := ⟨qs, [], 32, []⟩
def ir97 : IFun := ⟨1, [.tmp s2],
  (.seq (.reg (.one ⟨some s2, none, (.mv (.c (.slice 1 [] .full)))⟩
    .done))
  (.seq (.reg (.one ⟨some s3, none, (.mv (.c (.slice 1 [] .full)))⟩
    .done))
  (.seq (.seq (.reg (.one ⟨some s4, none, (.mv (.c (.v (.int .i64 0))))⟩
    .done))
  (.block 0 (.loop (.seq (.seq (.reg (.one ⟨some s6, none, (.mv (.t s4))⟩
    (.one ⟨some s7, none, (.mv (.t s0))⟩
    (.one ⟨some s8, none, (.len false (.t s7))⟩
    (.one ⟨some s9, none, (.bin false .lss (.t s6) (.t s8))⟩
    (.one ⟨some s10, none, (.mv (.t s9))⟩
    (.one ⟨some s11, some (s10, true), (.mv (.t s4))⟩
    (.one ⟨some s12, some (s10, true), (.bin false .lss (.t s11) (.c (.v (.int .i64 8192))))⟩
    (.one ⟨some s13, none, (.pick (.t s10) (.t s12) (.c (.v (.bool false))))⟩
    .done)))))))))
  (.cond (.t s13) .skip (.exit 0)))
  (.seq (.block 1 (.seq (.reg (.one ⟨some s5, none, (.mv (.c (.v (.int .u8 128))))⟩
    .done))
  (.block 2 (.loop (.seq (.seq (.reg (.one ⟨some s16, none, (.mv (.t s5))⟩
    (.one ⟨some s17, none, (.bin false .gtr (.t s16) (.c (.v (.int .u8 0))))⟩
    .done)))
  (.cond (.t s17) .skip (.exit 2)))
  (.seq (.block 3 (.reg (.one ⟨some s20, none, (.mv (.t s3))⟩
    (.one ⟨some s21, none, (.mv (.t s0))⟩
    (.one ⟨some s22, none, (.mv (.t s4))⟩
    (.one ⟨some s23, none, (.iaddr 1 (.t s21) (.t s22))⟩
    (.one ⟨some s24, none, (.load none (.t s23))⟩
    (.one ⟨some s25, none, (.mv (.t s5))⟩
    (.one ⟨some s26, none, (.bin false .quo (.t s24) (.t s25))⟩
    (.one ⟨some s27, none, (.bin false .rem (.t s26) (.c (.v (.int .u8 2))))⟩
    (.one ⟨some s28, none, (.bin false .eql (.t s27) (.c (.v (.int .u8 1))))⟩
    (.one ⟨some s29, none, (.row 1 [(.t s28)])⟩
    (.one ⟨some s30, none, (.app 1 1 (.t s20) (.t s29))⟩
    (.one ⟨some s3, none, (.mv (.t s30))⟩
    .done))))))))))))))
  (.reg (.one ⟨some s18, none, (.mv (.t s5))⟩
    (.one ⟨some s19, none, (.bin false .quo (.t s18) (.c (.v (.int .u8 2))))⟩
    (.one ⟨some s5, none, (.mv (.t s19))⟩
    .done))))))))))
  (.reg (.one ⟨some s14, none, (.mv (.t s4))⟩
    (.one ⟨some s15, none, (.bin false .add (.t s14) (.c (.v (.int .i64 1))))⟩
    (.one ⟨some s4, none, (.mv (.t s15))⟩
    .done)))))))))
  (.seq (.reg (.one ⟨some s31, none, (.mv (.t s3))⟩
    (.one ⟨some s2, none, (.mv (.t s31))⟩
    .done)))
  .ret))))⟩
theorem ok97 : compF Try.prog c97 Try.f97 = some ir97 := by kernel_rfl
theorem k_bowlineref01_Bits {args : List AVal} {σ : AHeap} {Q : AVal → AHeap → Prop} (hl : Nat.ble args.length 32 = true) (h : argsK (Env.full 9) 0 args fun env => evC Try.prog c97 ir97.body env σ (retQ ir97 Q)) : ACalls Try.prog 97 args σ Q :=
  acalls_of Try.func97 ok97 rfl (Nat.le_of_ble_eq_true hl) h
/- bowlineref01.Get -/
def c98 : Cfg := ⟨qs, [], 45, []⟩
def ir98 : IFun := ⟨3, [.tmp s6, .tmp s7, .tmp s8],
  (.seq (.reg (.one ⟨some s6, none, (.mv (.c (.v (.int .u64 0))))⟩
    (.one ⟨some s7, none, (.mv (.c (.v (.int .i64 0))))⟩
    (.one ⟨some s8, none, (.mv (.c (.v (.int .i64 0))))⟩
    .done))))
  (.seq (.seq (.reg (.one ⟨some s11, none, (.mv (.t s2))⟩
    (.one ⟨some s12, none, (.bin false .lss (.t s11) (.c (.v (.int .i64 0))))⟩
    (.one ⟨some s13, none, (.mv (.t s12))⟩
    (.one ⟨some s14, some (s13, false), (.mv (.t s2))⟩
    (.one ⟨some s15, some (s13, false), (.bin false .gtr (.t s14) (.c (.v (.int .i64 64))))⟩
    (.one ⟨some s16, none, (.pick (.t s13) (.c (.v (.bool true))) (.t s15))⟩
    .done)))))))
  (.cond (.t s16) (.seq (.reg (.one ⟨some s17, none, (.mv (.t s1))⟩
    (.one ⟨some s6, none, (.mv (.c (.v (.int .u64 0))))⟩
    (.one ⟨some s7, none, (.mv (.t s17))⟩
    (.one ⟨some s8, none, (.mv (.c (.v (.int .i64 1))))⟩
    .done)))))
  .ret) .skip))
  (.seq (.seq (.reg (.one ⟨some s18, none, (.mv (.t s2))⟩
    (.one ⟨some s19, none, (.mv (.t s0))⟩
    (.one ⟨some s20, none, (.len false (.t s19))⟩
    (.one ⟨some s21, none, (.mv (.t s1))⟩
    (.one ⟨some s22, none, (.bin false .sub (.t s20) (.t s21))⟩
    (.one ⟨some s23, none, (.bin false .gtr (.t s18) (.t s22))⟩
    .done)))))))
  (.cond (.t s23) (.seq (.reg (.one ⟨some s24, none, (.mv (.t s1))⟩
    (.one ⟨some s6, none, (.mv (.c (.v (.int .u64 0))))⟩
    (.one ⟨some s7, none, (.mv (.t s24))⟩
    (.one ⟨some s8, none, (.mv (.c (.v (.int .i64 8))))⟩
    .done)))))
  .ret) .skip))
  (.seq (.reg (.one ⟨some s9, none, (.mv (.c (.v (.int .u64 0))))⟩
    .done))
  (.seq (.seq (.reg (.one ⟨some s25, none, (.mv (.t s1))⟩
    (.one ⟨some s10, none, (.mv (.t s25))⟩
    .done)))
  (.block 0 (.loop (.seq (.seq (.reg (.one ⟨some s26, none, (.mv (.t s10))⟩
    (.one ⟨some s27, none, (.mv (.t s1))⟩
    (.one ⟨some s28, none, (.mv (.t s2))⟩
    (.one ⟨some s29, none, (.bin false .add (.t s27) (.t s28))⟩
    (.one ⟨some s30, none, (.bin false .lss (.t s26) (.t s29))⟩
    .done))))))
  (.cond (.t s30) .skip (.exit 0)))
  (.seq (.block 1 (.seq (.reg (.one ⟨some s33, none, (.mv (.t s9))⟩
    (.one ⟨some s34, none, (.bin false .mul (.c (.v (.int .u64 2))) (.t s33))⟩
    (.one ⟨some s9, none, (.mv (.t s34))⟩
    .done))))
  (.seq (.reg (.one ⟨some s35, none, (.mv (.t s0))⟩
    (.one ⟨some s36, none, (.mv (.t s10))⟩
    (.one ⟨some s37, none, (.iaddr 1 (.t s35) (.t s36))⟩
    (.one ⟨some s38, none, (.load none (.t s37))⟩
    .done)))))
  (.cond (.t s38) (.reg (.one ⟨some s39, none, (.mv (.t s9))⟩
    (.one ⟨some s40, none, (.bin false .add (.t s39) (.c (.v (.int .u64 1))))⟩
    (.one ⟨some s9, none, (.mv (.t s40))⟩
    .done)))) .skip))))
  (.reg (.one ⟨some s31, none, (.mv (.t s10))⟩
    (.one ⟨some s32, none, (.bin false .add (.t s31) (.c (.v (.int .i64 1))))⟩
    (.one ⟨some s10, none, (.mv (.t s32))⟩
    .done)))))))))
  (.seq (.reg (.one ⟨some s41, none, (.mv (.t s9))⟩
    (.one ⟨some s42, none, (.mv (.t s1))⟩
    (.one ⟨some s43, none, (.mv (.t s2))⟩
    (.one ⟨some s44, none, (.bin false .add (.t s42) (.t s43))⟩
    (.one ⟨some s6, none, (.mv (.t s41))⟩
    (.one ⟨some s7, none, (.mv (.t s44))⟩
    (.one ⟨some s8, none, (.mv (.c (.v (.int .i64 0))))⟩
    .done))))))))
  .ret))))))⟩
theorem ok98 : compF Try.prog c98 Try.f98 = some ir98 := by kernel_rfl
theorem k_bowlineref01_Get {args : List AVal} {σ : AHeap} {Q : AVal → AHeap → Prop} (hl : Nat.ble args.length 45 = true) (h : argsK (Env.full 9) 0 args fun env => evC Try.prog c98 ir98.body env σ (retQ ir98 Q)) : ACalls Try.prog 98 args σ Q :=
  acalls_of Try.func98 ok98 rfl (Nat.le_of_ble_eq_true hl) h
/- bowlineref01.Put -/
def c110 : Cfg := ⟨qs, [], 53, []⟩
def ir110 : IFun := ⟨3, [.tmp s6, .tmp s7],
  (.seq (.reg (.one ⟨some s6, none, (.mv (.c (.slice 1 [] .full)))⟩
    (.one ⟨some s7, none, (.mv (.c (.v (.int .i64 0))))⟩
    .done)))
  (.seq (.seq (.reg (.one ⟨some s12, none, (.mv (.t s1))⟩
    (.one ⟨some s13, none, (.mv (.t s2))⟩
    (.one ⟨some s14, none, (.callq 126 [(.t s12), (.t s13)])⟩
    (.one ⟨some s15, none, (.not (.t s14))⟩
    .done)))))
  (.cond (.t s15) (.seq (.reg (.one ⟨some s16, none, (.mv (.t s0))⟩
    (.one ⟨some s6, none, (.mv (.t s16))⟩
    (.one ⟨some s7, none, (.mv (.c (.v (.int .i64 1))))⟩
    .done))))
  .ret) .skip))
  (.seq (.seq (.reg (.one ⟨some s17, none, (.mv (.t s0))⟩
    (.one ⟨some s18, none, (.len false (.t s17))⟩
    (.one ⟨some s19, none, (.mv (.t s2))⟩
    (.one ⟨some s20, none, (.bin false .sub (.c (.v (.int .i64 65536))) (.t s19))⟩
    (.one ⟨some s21, none, (.bin false .gtr (.t s18) (.t s20))⟩
    .done))))))
  (.cond (.t s21) (.seq (.reg (.one ⟨some s22, none, (.mv (.t s0))⟩
    (.one ⟨some s6, none, (.mv (.t s22))⟩
    (.one ⟨some s7, none, (.mv (.c (.v (.int .i64 5))))⟩
    .done))))
  .ret) .skip))
  (.seq (.reg (.one ⟨some s8, none, (.mv (.c (.slice 1 [] .full)))⟩
    (.one ⟨some s9, none, (.mv (.c (.slice 1 [] .full)))⟩
    .done)))
  (.seq (.seq (.reg (.one ⟨some s10, none, (.mv (.c (.v (.int .i64 0))))⟩
    .done))
  (.block 0 (.loop (.seq (.seq (.reg (.one ⟨some s23, none, (.mv (.t s10))⟩
    (.one ⟨some s24, none, (.mv (.t s2))⟩
    (.one ⟨some s25, none, (.bin false .lss (.t s23) (.t s24))⟩
    .done))))
  (.cond (.t s25) .skip (.exit 0)))
  (.seq (.block 1 (.seq (.reg (.one ⟨some s28, none, (.mv (.t s8))⟩
    (.one ⟨some s29, none, (.mv (.t s1))⟩
    (.one ⟨some s30, none, (.bin false .rem (.t s29) (.c (.v (.int .u64 2))))⟩
    (.one ⟨some s31, none, (.bin false .eql (.t s30) (.c (.v (.int .u64 1))))⟩
    (.one ⟨some s32, none, (.row 1 [(.t s31)])⟩
    (.one ⟨some s33, none, (.app 1 1 (.t s28) (.t s32))⟩
    (.one ⟨some s8, none, (.mv (.t s33))⟩
    .done))))))))
  (.reg (.one ⟨some s34, none, (.mv (.t s1))⟩
    (.one ⟨some s35, none, (.bin false .quo (.t s34) (.c (.v (.int .u64 2))))⟩
    (.one ⟨some s1, none, (.mv (.t s35))⟩
    .done))))))
  (.reg (.one ⟨some s26, none, (.mv (.t s10))⟩
    (.one ⟨some s27, none, (.bin false .add (.t s26) (.c (.v (.int .i64 1))))⟩
    (.one ⟨some s10, none, (.mv (.t s27))⟩
    .done)))))))))
  (.seq (.reg (.one ⟨some s36, none, (.mv (.t s9))⟩
    (.one ⟨some s37, none, (.mv (.t s0))⟩
    (.one ⟨some s38, none, (.app 1 1 (.t s36) (.t s37))⟩
    (.one ⟨some s9, none, (.mv (.t s38))⟩
    .done)))))
  (.seq (.seq (.reg (.one ⟨some s39, none, (.mv (.t s2))⟩
    (.one ⟨some s40, none, (.bin false .sub (.t s39) (.c (.v (.int .i64 1))))⟩
    (.one ⟨some s11, none, (.mv (.t s40))⟩
    .done))))
  (.block 2 (.loop (.seq (.seq (.reg (.one ⟨some s41, none, (.mv (.t s11))⟩
    (.one ⟨some s42, none, (.bin false .geq (.t s41) (.c (.v (.int .i64 0))))⟩
    .done)))
  (.cond (.t s42) .skip (.exit 2)))
  (.seq (.block 3 (.reg (.one ⟨some s45, none, (.mv (.t s9))⟩
    (.one ⟨some s46, none, (.mv (.t s8))⟩
    (.one ⟨some s47, none, (.mv (.t s11))⟩
    (.one ⟨some s48, none, (.iaddr 1 (.t s46) (.t s47))⟩
    (.one ⟨some s49, none, (.load none (.t s48))⟩
    (.one ⟨some s50, none, (.row 1 [(.t s49)])⟩
    (.one ⟨some s51, none, (.app 1 1 (.t s45) (.t s50))⟩
    (.one ⟨some s9, none, (.mv (.t s51))⟩
    .done))))))))))
  (.reg (.one ⟨some s43, none, (.mv (.t s11))⟩
    (.one ⟨some s44, none, (.bin false .sub (.t s43) (.c (.v (.int .i64 1))))⟩
    (.one ⟨some s11, none, (.mv (.t s44))⟩
    .done)))))))))
  (.seq (.reg (.one ⟨some s52, none, (.mv (.t s9))⟩
    (.one ⟨some s6, none, (.mv (.t s52))⟩
    (.one ⟨some s7, none, (.mv (.c (.v (.int .i64 0))))⟩
    .done))))
  .ret))))))))⟩
theorem ok110 : compF Try.prog c110 Try.f110 = some ir110 := by kernel_rfl
theorem k_bowlineref01_Put {args : List AVal} {σ : AHeap} {Q : AVal → AHeap → Prop} (hl : Nat.ble args.length 53 = true) (h : argsK (Env.full 9) 0 args fun env => evC Try.prog c110 ir110.body env σ (retQ ir110 Q)) : ACalls Try.prog 110 args σ Q :=
  acalls_of Try.func110 ok110 rfl (Nat.le_of_ble_eq_true hl) h
/- bowlineref01.Bytes -/
def c113 : Cfg := ⟨qs, [], 40, []⟩
def ir113 : IFun := ⟨1, [.tmp s2],
  (.seq (.reg (.one ⟨some s2, none, (.mv (.c (.slice 1 [] .full)))⟩
    .done))
  (.seq (.reg (.one ⟨some s3, none, (.mv (.c (.slice 1 [] .full)))⟩
    .done))
  (.seq (.seq (.reg (.one ⟨some s4, none, (.mv (.c (.v (.int .i64 0))))⟩
    .done))
  (.block 0 (.loop (.seq (.seq (.reg (.one ⟨some s7, none, (.mv (.t s4))⟩
    (.one ⟨some s8, none, (.mv (.t s0))⟩
    (.one ⟨some s9, none, (.len false (.t s8))⟩
    (.one ⟨some s10, none, (.bin false .lss (.t s7) (.t s9))⟩
    .done)))))
  (.cond (.t s10) .skip (.exit 0)))
  (.seq (.block 1 (.seq (.reg (.one ⟨some s5, none, (.mv (.c (.v (.int .u8 0))))⟩
    .done))
  (.seq (.seq (.reg (.one ⟨some s6, none, (.mv (.c (.v (.int .i64 0))))⟩
    .done))
  (.block 2 (.loop (.seq (.seq (.reg (.one ⟨some s13, none, (.mv (.t s6))⟩
    (.one ⟨some s14, none, (.bin false .lss (.t s13) (.c (.v (.int .i64 8))))⟩
    .done)))
  (.cond (.t s14) .skip (.exit 2)))
  (.seq (.block 3 (.seq (.reg (.one ⟨some s17, none, (.mv (.t s5))⟩
    (.one ⟨some s18, none, (.bin false .mul (.c (.v (.int .u8 2))) (.t s17))⟩
    (.one ⟨some s5, none, (.mv (.t s18))⟩
    .done))))
  (.seq (.reg (.one ⟨some s19, none, (.mv (.t s4))⟩
    (.one ⟨some s20, none, (.mv (.t s6))⟩
    (.one ⟨some s21, none, (.bin false .add (.t s19) (.t s20))⟩
    (.one ⟨some s22, none, (.mv (.t s0))⟩
    (.one ⟨some s23, none, (.len false (.t s22))⟩
    (.one ⟨some s24, none, (.bin false .lss (.t s21) (.t s23))⟩
    (.one ⟨some s25, none, (.mv (.t s24))⟩
    (.one ⟨some s26, some (s25, true), (.mv (.t s0))⟩
    (.one ⟨some s27, some (s25, true), (.mv (.t s4))⟩
    (.one ⟨some s28, some (s25, true), (.mv (.t s6))⟩
    (.one ⟨some s29, some (s25, true), (.bin false .add (.t s27) (.t s28))⟩
    (.one ⟨some s30, some (s25, true), (.iaddr 1 (.t s26) (.t s29))⟩
    (.one ⟨some s31, some (s25, true), (.load none (.t s30))⟩
    (.one ⟨some s32, none, (.pick (.t s25) (.t s31) (.c (.v (.bool false))))⟩
    .done)))))))))))))))
  (.cond (.t s32) (.reg (.one ⟨some s33, none, (.mv (.t s5))⟩
    (.one ⟨some s34, none, (.bin false .add (.t s33) (.c (.v (.int .u8 1))))⟩
    (.one ⟨some s5, none, (.mv (.t s34))⟩
    .done)))) .skip))))
  (.reg (.one ⟨some s15, none, (.mv (.t s6))⟩
    (.one ⟨some s16, none, (.bin false .add (.t s15) (.c (.v (.int .i64 1))))⟩
    (.one ⟨some s6, none, (.mv (.t s16))⟩
    .done)))))))))
  (.reg (.one ⟨some s35, none, (.mv (.t s3))⟩
    (.one ⟨some s36, none, (.mv (.t s5))⟩
    (.one ⟨some s37, none, (.row 1 [(.t s36)])⟩
    (.one ⟨some s38, none, (.app 1 1 (.t s35) (.t s37))⟩
    (.one ⟨some s3, none, (.mv (.t s38))⟩
    .done)))))))))
  (.reg (.one ⟨some s11, none, (.mv (.t s4))⟩
    (.one ⟨some s12, none, (.bin false .add (.t s11) (.c (.v (.int .i64 8))))⟩
    (.one ⟨some s4, none, (.mv (.t s12))⟩
    .done)))))))))
  (.seq (.reg (.one ⟨some s39, none, (.mv (.t s3))⟩
    (.one ⟨some s2, none, (.mv (.t s39))⟩
    .done)))
  .ret))))⟩
theorem ok113 : compF Try.prog c113 Try.f113 = some ir113 := by kernel_rfl
theorem k_bowlineref01_Bytes {args : List AVal} {σ : AHeap} {Q : AVal → AHeap → Prop} (hl : Nat.ble args.length 40 = true) (h : argsK (Env.full 9) 0 args fun env => evC Try.prog c113 ir113.body env σ (retQ ir113 Q)) : ACalls Try.prog 113 args σ Q :=
  acalls_of Try.func113 ok113 rfl (Nat.le_of_ble_eq_true hl) h
/- bowlineref01.fits -/
def c126 : Cfg := ⟨qs, [], 21, []⟩
def ir126 : IFun := ⟨2, [.tmp s4],
  (.seq (.reg (.one ⟨some s4, none, (.mv (.c (.v (.bool false))))⟩
    .done))
  (.seq (.seq (.reg (.one ⟨some s6, none, (.mv (.t s1))⟩
    (.one ⟨some s7, none, (.bin false .lss (.t s6) (.c (.v (.int .i64 0))))⟩
    (.one ⟨some s8, none, (.mv (.t s7))⟩
    (.one ⟨some s9, some (s8, false), (.mv (.t s1))⟩
    (.one ⟨some s10, some (s8, false), (.bin false .gtr (.t s9) (.c (.v (.int .i64 64))))⟩
    (.one ⟨some s11, none, (.pick (.t s8) (.c (.v (.bool true))) (.t s10))⟩
    .done)))))))
  (.cond (.t s11) (.seq (.reg (.one ⟨some s4, none, (.mv (.c (.v (.bool false))))⟩
    .done))
  .ret) .skip))
  (.seq (.seq (.reg (.one ⟨some s5, none, (.mv (.c (.v (.int .i64 0))))⟩
    .done))
  (.block 0 (.loop (.seq (.seq (.reg (.one ⟨some s12, none, (.mv (.t s5))⟩
    (.one ⟨some s13, none, (.mv (.t s1))⟩
    (.one ⟨some s14, none, (.bin false .lss (.t s12) (.t s13))⟩
    .done))))
  (.cond (.t s14) .skip (.exit 0)))
  (.seq (.block 1 (.reg (.one ⟨some s17, none, (.mv (.t s0))⟩
    (.one ⟨some s18, none, (.bin false .quo (.t s17) (.c (.v (.int .u64 2))))⟩
    (.one ⟨some s0, none, (.mv (.t s18))⟩
    .done)))))
  (.reg (.one ⟨some s15, none, (.mv (.t s5))⟩
    (.one ⟨some s16, none, (.bin false .add (.t s15) (.c (.v (.int .i64 1))))⟩
    (.one ⟨some s5, none, (.mv (.t s16))⟩
    .done)))))))))
  (.seq (.reg (.one ⟨some s19, none, (.mv (.t s0))⟩
    (.one ⟨some s20, none, (.bin false .eql (.t s19) (.c (.v (.int .u64 0))))⟩
    (.one ⟨some s4, none, (.mv (.t s20))⟩
    .done))))
  .ret))))⟩
theorem ok126 : compF Try.prog c126 Try.f126 = some ir126 := by kernel_rfl
theorem k_bowlineref01_fits {args : List AVal} {σ : AHeap} {Q : AVal → AHeap → Prop} (hl : Nat.ble args.length 21 = true) (h : argsK (Env.full 9) 0 args fun env => evC Try.prog c126 ir126.body env σ (retQ ir126 Q)) : ACalls Try.prog 126 args σ Q :=
  acalls_of Try.func126 ok126 rfl (Nat.le_of_ble_eq_true hl) h
end Go.Proofs.Ytnfdgccmpglbhaa
/-
  The document's bits.
-/
namespace Go.Proofs.Ytnfdgccmpglbhaa
set_option linter.unusedVariables false
set_option linter.unusedSimpArgs false
open Go Go.Am

abbrev bl (t : Tok) (l : List Bool) : AVal := .slice 1 (l.map boolv) t
theorem get_bools {l : List Bool} {i : Nat} (h : i < l.length) : (l.map boolv)[((i : Nat) : Int).toNat]? = some (boolv l[i]) := by
  rw [Int.toNat_natCast, List.getElem?_map, List.getElem?_eq_getElem h]; rfl

theorem refFits (v : Nat) (n : Int) (σ : AHeap) (hv : v < 18446744073709551616) : ACalls Try.prog i_bowlineref01_fits [u64v v, i64v n] σ fun x σ' => x = boolv (!putBad v n) ∧ σ' = σ := by
  refine k_bowlineref01_fits rfl ?_
  ((conv => whnf); (repeat ((first | with_reducible refine abr_true rfl ?_ | with_reducible refine abr_false rfl ?_ | with_reducible refine abr_yes rfl ?_ | refine abr_yes (by decide) ?_ | refine abr_no (by decide) ?_ | with_reducible refine abr_same_ne ?_); (conv => whnf))))
  by_cases h1 : n < 0
  · (repeat ((first | refine aload (by (repeat (first | with_reducible exact upd_same _ _ _ | assumption | rw [upd_ne _ _ (by first | assumption | (apply Ne.symm; assumption))]))) rfl ?_ | refine afit_i64 (by omega) ?_ | refine arem_nonneg (by omega) (by omega) ?_ | refine adiv_i64 (by omega) (by omega) ?_ | refine abr_yes (by omega) ?_ | refine abr_no (by omega) ?_ | refine amin ?_ | refine amax ?_ | refine afit_u64 (by omega) ?_ | refine afit_u8 (by omega) ?_ | rw [List.length_map]); ((conv => whnf); (repeat ((first | with_reducible refine abr_true rfl ?_ | with_reducible refine abr_false rfl ?_ | with_reducible refine abr_yes rfl ?_ | refine abr_yes (by decide) ?_ | refine abr_no (by decide) ?_ | with_reducible refine abr_same_ne ?_); (conv => whnf))))))
    exact aret_same ⟨by simp [putBad, h1], rfl⟩
  · by_cases h2 : n > 64
    · (repeat ((first | refine aload (by (repeat (first | with_reducible exact upd_same _ _ _ | assumption | rw [upd_ne _ _ (by first | assumption | (apply Ne.symm; assumption))]))) rfl ?_ | refine afit_i64 (by omega) ?_ | refine arem_nonneg (by omega) (by omega) ?_ | refine adiv_i64 (by omega) (by omega) ?_ | refine abr_yes (by omega) ?_ | refine abr_no (by omega) ?_ | refine amin ?_ | refine amax ?_ | refine afit_u64 (by omega) ?_ | refine afit_u8 (by omega) ?_ | rw [List.length_map]); ((conv => whnf); (repeat ((first | with_reducible refine abr_true rfl ?_ | with_reducible refine abr_false rfl ?_ | with_reducible refine abr_yes rfl ?_ | refine abr_yes (by decide) ?_ | refine abr_no (by decide) ?_ | with_reducible refine abr_same_ne ?_); (conv => whnf))))))
      exact aret_same ⟨by simp [putBad, h2], rfl⟩
    · obtain ⟨k, rfl⟩ : ∃ k : Nat, n = k := ⟨n.toNat, by omega⟩
      (repeat ((first | refine aload (by (repeat (first | with_reducible exact upd_same _ _ _ | assumption | rw [upd_ne _ _ (by first | assumption | (apply Ne.symm; assumption))]))) rfl ?_ | refine afit_i64 (by omega) ?_ | refine arem_nonneg (by omega) (by omega) ?_ | refine adiv_i64 (by omega) (by omega) ?_ | refine abr_yes (by omega) ?_ | refine abr_no (by omega) ?_ | refine amin ?_ | refine amax ?_ | refine afit_u64 (by omega) ?_ | refine afit_u8 (by omega) ?_ | rw [List.length_map]); ((conv => whnf); (repeat ((first | with_reducible refine abr_true rfl ?_ | with_reducible refine abr_false rfl ?_ | with_reducible refine abr_yes rfl ?_ | refine abr_yes (by decide) ?_ | refine abr_no (by decide) ?_ | with_reducible refine abr_same_ne ?_); (conv => whnf))))))
      refine aloop (α := Nat) (fun i => [(s0, u64v (v / 2 ^ i)), (s5, i64v i)]) (fun _ => σ) (fun i => i ≤ k) (fun i => k - i) 0 (Nat.zero_le _) (Sub.refl _) ?_ ?_
      · ((conv => whnf); (repeat ((first | with_reducible refine abr_true rfl ?_ | with_reducible refine abr_false rfl ?_ | with_reducible refine abr_yes rfl ?_ | refine abr_yes (by decide) ?_ | refine abr_no (by decide) ?_ | with_reducible refine abr_same_ne ?_); (conv => whnf))))
        rw [Nat.pow_zero, Nat.div_one]
        (repeat' first | with_reducible exact EnvLe.refl _ | (refine EnvLe.node ?_ (by first | exact Or.inl rfl | exact Or.inr (Or.inl rfl) | exact Or.inr (Or.inr ⟨nofun, VLe.slice _ _ _⟩)) ?_))
      · rintro i hi
        by_cases h3 : i < k
        · ((conv => whnf); (repeat ((first | with_reducible refine abr_true rfl ?_ | with_reducible refine abr_false rfl ?_ | with_reducible refine abr_yes rfl ?_ | refine abr_yes (by decide) ?_ | refine abr_no (by decide) ?_ | with_reducible refine abr_same_ne ?_); (conv => whnf))))
          (repeat ((first | refine aload (by (repeat (first | with_reducible exact upd_same _ _ _ | assumption | rw [upd_ne _ _ (by first | assumption | (apply Ne.symm; assumption))]))) rfl ?_ | refine afit_i64 (by omega) ?_ | refine arem_nonneg (by omega) (by omega) ?_ | refine adiv_i64 (by omega) (by omega) ?_ | refine abr_yes (by omega) ?_ | refine abr_no (by omega) ?_ | refine amin ?_ | refine amax ?_ | refine afit_u64 (by omega) ?_ | refine afit_u8 (by omega) ?_ | rw [List.length_map]); ((conv => whnf); (repeat ((first | with_reducible refine abr_true rfl ?_ | with_reducible refine abr_false rfl ?_ | with_reducible refine abr_yes rfl ?_ | refine abr_yes (by decide) ?_ | refine abr_no (by decide) ?_ | with_reducible refine abr_same_ne ?_); (conv => whnf))))))
          refine adiv_u64 (b := 2) (by omega) (Nat.lt_of_le_of_lt (Nat.div_le_self _ _) hv) ?_
          ((conv => whnf); (repeat ((first | with_reducible refine abr_true rfl ?_ | with_reducible refine abr_false rfl ?_ | with_reducible refine abr_yes rfl ?_ | refine abr_yes (by decide) ?_ | refine abr_no (by decide) ?_ | with_reducible refine abr_same_ne ?_); (conv => whnf))))
          (repeat ((first | refine aload (by (repeat (first | with_reducible exact upd_same _ _ _ | assumption | rw [upd_ne _ _ (by first | assumption | (apply Ne.symm; assumption))]))) rfl ?_ | refine afit_i64 (by omega) ?_ | refine arem_nonneg (by omega) (by omega) ?_ | refine adiv_i64 (by omega) (by omega) ?_ | refine abr_yes (by omega) ?_ | refine abr_no (by omega) ?_ | refine amin ?_ | refine amax ?_ | refine afit_u64 (by omega) ?_ | refine afit_u8 (by omega) ?_ | rw [List.length_map]); ((conv => whnf); (repeat ((first | with_reducible refine abr_true rfl ?_ | with_reducible refine abr_false rfl ?_ | with_reducible refine abr_yes rfl ?_ | refine abr_yes (by decide) ?_ | refine abr_no (by decide) ?_ | with_reducible refine abr_same_ne ?_); (conv => whnf))))))
          refine ⟨i + 1, by omega, by omega, Sub.refl _, ?_⟩
          ((conv => whnf); (repeat ((first | with_reducible refine abr_true rfl ?_ | with_reducible refine abr_false rfl ?_ | with_reducible refine abr_yes rfl ?_ | refine abr_yes (by decide) ?_ | refine abr_no (by decide) ?_ | with_reducible refine abr_same_ne ?_); (conv => whnf))))
          rw [Nat.div_div_eq_div_mul, ← Nat.pow_succ]
          (repeat' first | with_reducible exact EnvLe.refl _ | (refine EnvLe.node ?_ (by first | exact Or.inl rfl | exact Or.inr (Or.inl rfl) | exact Or.inr (Or.inr ⟨nofun, VLe.slice _ _ _⟩)) ?_))
        · have : i = k := by omega
          subst this
          ((conv => whnf); (repeat ((first | with_reducible refine abr_true rfl ?_ | with_reducible refine abr_false rfl ?_ | with_reducible refine abr_yes rfl ?_ | refine abr_yes (by decide) ?_ | refine abr_no (by decide) ?_ | with_reducible refine abr_same_ne ?_); (conv => whnf))))
          (repeat ((first | refine aload (by (repeat (first | with_reducible exact upd_same _ _ _ | assumption | rw [upd_ne _ _ (by first | assumption | (apply Ne.symm; assumption))]))) rfl ?_ | refine afit_i64 (by omega) ?_ | refine arem_nonneg (by omega) (by omega) ?_ | refine adiv_i64 (by omega) (by omega) ?_ | refine abr_yes (by omega) ?_ | refine abr_no (by omega) ?_ | refine amin ?_ | refine amax ?_ | refine afit_u64 (by omega) ?_ | refine afit_u8 (by omega) ?_ | rw [List.length_map]); ((conv => whnf); (repeat ((first | with_reducible refine abr_true rfl ?_ | with_reducible refine abr_false rfl ?_ | with_reducible refine abr_yes rfl ?_ | refine abr_yes (by decide) ?_ | refine abr_no (by decide) ?_ | with_reducible refine abr_same_ne ?_); (conv => whnf))))))
          refine aret_same ⟨?_, rfl⟩
          unfold putBad
          rw [decide_eq_false h1, decide_eq_false h2]
          simp only [Bool.false_or, decide_not, Bool.not_not, Int.toNat_natCast]
          congr 2
          have : ((v / 2 ^ i : Nat) : Int) = 0 ↔ v / 2 ^ i = 0 := by omega
          exact decide_eq_decide.2 this

/-- The bits of a number, the lowest first. -/
def lowBits (v n : Nat) : List Bool := (List.range n).map v.testBit
theorem lowBits_succ (v n : Nat) : lowBits v (n + 1) = lowBits v n ++ [v.testBit n] := by unfold lowBits; rw [List.range_succ, List.map_append]; rfl
theorem lowBits_length (v n : Nat) : (lowBits v n).length = n := by unfold lowBits; simp
theorem lowBits_get {v n i : Nat} (h : i < n) : (lowBits v n)[i]? = some (v.testBit i) := by unfold lowBits; rw [List.getElem?_map, List.getElem?_range h]; rfl
theorem testBit_one (v i : Nat) : decide (((v / 2 ^ i % 2 : Nat) : Int) = 1) = v.testBit i := by
  rw [← testBit_nat]; cases v.testBit i <;> rfl

set_option maxRecDepth 10000 in
theorem refPutO (bs : List Bool) (t : Tok) (v : Nat) (n : Int) (σ : AHeap) (hv : v < 18446744073709551616) (hl : bs.length ≤ 65536) :
    ACalls Try.prog i_bowlineref01_Put [bl t bs, u64v v, i64v n] σ fun x σ' => (putCode bs.length v n = 0 ∧ ∃ tk, Owned σ σ' tk ∧ x = .tup [bl tk (bs ++ numBits v n.toNat), i64v 0]) ∨ (putCode bs.length v n ≠ 0 ∧ x = .tup [bl .none bs, i64v (putCode bs.length v n)] ∧ σ' = σ) := by
  refine k_bowlineref01_Put rfl ?_
  ((conv => whnf); (repeat ((first | with_reducible refine abr_true rfl ?_ | with_reducible refine abr_false rfl ?_ | with_reducible refine abr_yes rfl ?_ | refine abr_yes (by decide) ?_ | refine abr_no (by decide) ?_ | with_reducible refine abr_same_ne ?_); (conv => whnf))))
  refine acall (refFits v n _ hv) ?_
  rintro x σ' ⟨rfl, rfl⟩
  refine ⟨?_, Ext.refl _⟩
  cases hb : putBad v n with
  | true =>
    ((conv => whnf); (repeat ((first | with_reducible refine abr_true rfl ?_ | with_reducible refine abr_false rfl ?_ | with_reducible refine abr_yes rfl ?_ | refine abr_yes (by decide) ?_ | refine abr_no (by decide) ?_ | with_reducible refine abr_same_ne ?_); (conv => whnf))))
    exact aret VLe.tup_sl (Sub.refl _) (.inr ⟨by rw [putCode_bad hb]; decide, by rw [putCode_bad hb], rfl⟩)
  | false =>
    have h1 : ¬ n < 0 := fun h => by simp [putBad, h] at hb
    have h2 : ¬ n > 64 := fun h => by simp [putBad, h] at hb
    obtain ⟨k, rfl⟩ : ∃ k : Nat, n = k := ⟨n.toNat, by omega⟩
    ((conv => whnf); (repeat ((first | with_reducible refine abr_true rfl ?_ | with_reducible refine abr_false rfl ?_ | with_reducible refine abr_yes rfl ?_ | refine abr_yes (by decide) ?_ | refine abr_no (by decide) ?_ | with_reducible refine abr_same_ne ?_); (conv => whnf))))
    try rw [List.length_map]
    (repeat ((first | refine aload (by (repeat (first | with_reducible exact upd_same _ _ _ | assumption | rw [upd_ne _ _ (by first | assumption | (apply Ne.symm; assumption))]))) rfl ?_ | refine afit_i64 (by omega) ?_ | refine arem_nonneg (by omega) (by omega) ?_ | refine adiv_i64 (by omega) (by omega) ?_ | refine abr_yes (by omega) ?_ | refine abr_no (by omega) ?_ | refine amin ?_ | refine amax ?_ | refine afit_u64 (by omega) ?_ | refine afit_u8 (by omega) ?_ | rw [List.length_map]); ((conv => whnf); (repeat ((first | with_reducible refine abr_true rfl ?_ | with_reducible refine abr_false rfl ?_ | with_reducible refine abr_yes rfl ?_ | refine abr_yes (by decide) ?_ | refine abr_no (by decide) ?_ | with_reducible refine abr_same_ne ?_); (conv => whnf))))))
    by_cases h4 : (k : Int) > 65536 - (bs.length : Int)
    · refine abr_yes (by omega) ?_
      ((conv => whnf); (repeat ((first | with_reducible refine abr_true rfl ?_ | with_reducible refine abr_false rfl ?_ | with_reducible refine abr_yes rfl ?_ | refine abr_yes (by decide) ?_ | refine abr_no (by decide) ?_ | with_reducible refine abr_same_ne ?_); (conv => whnf))))
      exact aret VLe.tup_sl (Sub.refl _) (.inr ⟨by rw [putCode_full hb h4]; decide, by rw [putCode_full hb h4], rfl⟩)
    · have hc := putCode_fine hb h4
      refine abr_no (by omega) ?_
      ((conv => whnf); (repeat ((first | with_reducible refine abr_true rfl ?_ | with_reducible refine abr_false rfl ?_ | with_reducible refine abr_yes rfl ?_ | refine abr_yes (by decide) ?_ | refine abr_no (by decide) ?_ | with_reducible refine abr_same_ne ?_); (conv => whnf))))
      refine aloop (α := Nat × Tok × AHeap) (fun x => [(s1, u64v (v / 2 ^ x.1)), (s8, bl x.2.1 (lowBits v x.1)), (s10, i64v x.1)]) (fun x => x.2.2) (fun x => x.1 ≤ k ∧ Owned σ' x.2.2 x.2.1) (fun x => k - x.1) (0, .full, σ') ⟨Nat.zero_le _, .full _⟩ (Sub.refl _) ?_ ?_
      · ((conv => whnf); (repeat ((first | with_reducible refine abr_true rfl ?_ | with_reducible refine abr_false rfl ?_ | with_reducible refine abr_yes rfl ?_ | refine abr_yes (by decide) ?_ | refine abr_no (by decide) ?_ | with_reducible refine abr_same_ne ?_); (conv => whnf))))
        rw [Nat.pow_zero, Nat.div_one]
        (repeat' first | with_reducible exact EnvLe.refl _ | (refine EnvLe.node ?_ (by first | exact Or.inl rfl | exact Or.inr (Or.inl rfl) | exact Or.inr (Or.inr ⟨nofun, VLe.slice _ _ _⟩)) ?_))
      · rintro ⟨i, tk, σ1⟩ ⟨hi, ho⟩
        dsimp only at hi ho ⊢
        by_cases h3 : i < k
        · ((conv => whnf); (repeat ((first | with_reducible refine abr_true rfl ?_ | with_reducible refine abr_false rfl ?_ | with_reducible refine abr_yes rfl ?_ | refine abr_yes (by decide) ?_ | refine abr_no (by decide) ?_ | with_reducible refine abr_same_ne ?_); (conv => whnf))))
          (repeat ((first | refine aload (by (repeat (first | with_reducible exact upd_same _ _ _ | assumption | rw [upd_ne _ _ (by first | assumption | (apply Ne.symm; assumption))]))) rfl ?_ | refine afit_i64 (by omega) ?_ | refine arem_nonneg (by omega) (by omega) ?_ | refine adiv_i64 (by omega) (by omega) ?_ | refine abr_yes (by omega) ?_ | refine abr_no (by omega) ?_ | refine amin ?_ | refine amax ?_ | refine afit_u64 (by omega) ?_ | refine afit_u8 (by omega) ?_ | rw [List.length_map]); ((conv => whnf); (repeat ((first | with_reducible refine abr_true rfl ?_ | with_reducible refine abr_false rfl ?_ | with_reducible refine abr_yes rfl ?_ | refine abr_yes (by decide) ?_ | refine abr_no (by decide) ?_ | with_reducible refine abr_same_ne ?_); (conv => whnf))))))
          refine arem_nat (b := 2) (by omega) ?_
          ((conv => whnf); (repeat ((first | with_reducible refine abr_true rfl ?_ | with_reducible refine abr_false rfl ?_ | with_reducible refine abr_yes rfl ?_ | refine abr_yes (by decide) ?_ | refine abr_no (by decide) ?_ | with_reducible refine abr_same_ne ?_); (conv => whnf))))
          rw [testBit_one]
          refine aapp_owned ho (by rw [List.length_map, lowBits_length]; show (i + 1) * 1 ≤ _; omega) fun t' tk' ho' _ => ?_
          rw [show List.map boolv (lowBits v i) ++ [AVal.v (Value.bool (v.testBit i))] = List.map boolv (lowBits v (i + 1)) by rw [lowBits_succ, List.map_append]; rfl]
          ((conv => whnf); (repeat ((first | with_reducible refine abr_true rfl ?_ | with_reducible refine abr_false rfl ?_ | with_reducible refine abr_yes rfl ?_ | refine abr_yes (by decide) ?_ | refine abr_no (by decide) ?_ | with_reducible refine abr_same_ne ?_); (conv => whnf))))
          refine adiv_u64 (b := 2) (by omega) (Nat.lt_of_le_of_lt (Nat.div_le_self _ _) hv) ?_
          ((conv => whnf); (repeat ((first | with_reducible refine abr_true rfl ?_ | with_reducible refine abr_false rfl ?_ | with_reducible refine abr_yes rfl ?_ | refine abr_yes (by decide) ?_ | refine abr_no (by decide) ?_ | with_reducible refine abr_same_ne ?_); (conv => whnf))))
          (repeat ((first | refine aload (by (repeat (first | with_reducible exact upd_same _ _ _ | assumption | rw [upd_ne _ _ (by first | assumption | (apply Ne.symm; assumption))]))) rfl ?_ | refine afit_i64 (by omega) ?_ | refine arem_nonneg (by omega) (by omega) ?_ | refine adiv_i64 (by omega) (by omega) ?_ | refine abr_yes (by omega) ?_ | refine abr_no (by omega) ?_ | refine amin ?_ | refine amax ?_ | refine afit_u64 (by omega) ?_ | refine afit_u8 (by omega) ?_ | rw [List.length_map]); ((conv => whnf); (repeat ((first | with_reducible refine abr_true rfl ?_ | with_reducible refine abr_false rfl ?_ | with_reducible refine abr_yes rfl ?_ | refine abr_yes (by decide) ?_ | refine abr_no (by decide) ?_ | with_reducible refine abr_same_ne ?_); (conv => whnf))))))
          refine ⟨(i + 1, tk', _), ⟨by simp only; omega, ho'⟩, by simp only; omega, Sub.refl _, ?_⟩
          ((conv => whnf); (repeat ((first | with_reducible refine abr_true rfl ?_ | with_reducible refine abr_false rfl ?_ | with_reducible refine abr_yes rfl ?_ | refine abr_yes (by decide) ?_ | refine abr_no (by decide) ?_ | with_reducible refine abr_same_ne ?_); (conv => whnf))))
          rw [Nat.div_div_eq_div_mul, ← Nat.pow_succ]
          (repeat' first | with_reducible exact EnvLe.refl _ | (refine EnvLe.node ?_ (by first | exact Or.inl rfl | exact Or.inr (Or.inl rfl) | exact Or.inr (Or.inr ⟨nofun, VLe.slice _ _ _⟩)) ?_))
        · have : i = k := by omega
          subst this
          ((conv => whnf); (repeat ((first | with_reducible refine abr_true rfl ?_ | with_reducible refine abr_false rfl ?_ | with_reducible refine abr_yes rfl ?_ | refine abr_yes (by decide) ?_ | refine abr_no (by decide) ?_ | with_reducible refine abr_same_ne ?_); (conv => whnf))))
          (repeat ((first | refine aload (by (repeat (first | with_reducible exact upd_same _ _ _ | assumption | rw [upd_ne _ _ (by first | assumption | (apply Ne.symm; assumption))]))) rfl ?_ | refine afit_i64 (by omega) ?_ | refine arem_nonneg (by omega) (by omega) ?_ | refine adiv_i64 (by omega) (by omega) ?_ | refine abr_yes (by omega) ?_ | refine abr_no (by omega) ?_ | refine amin ?_ | refine amax ?_ | refine afit_u64 (by omega) ?_ | refine afit_u8 (by omega) ?_ | rw [List.length_map]); ((conv => whnf); (repeat ((first | with_reducible refine abr_true rfl ?_ | with_reducible refine abr_false rfl ?_ | with_reducible refine abr_yes rfl ?_ | refine abr_yes (by decide) ?_ | refine abr_no (by decide) ?_ | with_reducible refine abr_same_ne ?_); (conv => whnf))))))
          refine aapp_full (by simp; omega) fun t' ht' => ?_
          have ht0 := ho.none_of ht'
          rw [List.nil_append]
          ((conv => whnf); (repeat ((first | with_reducible refine abr_true rfl ?_ | with_reducible refine abr_false rfl ?_ | with_reducible refine abr_yes rfl ?_ | refine abr_yes (by decide) ?_ | refine abr_no (by decide) ?_ | with_reducible refine abr_same_ne ?_); (conv => whnf))))
          (repeat ((first | refine aload (by (repeat (first | with_reducible exact upd_same _ _ _ | assumption | rw [upd_ne _ _ (by first | assumption | (apply Ne.symm; assumption))]))) rfl ?_ | refine afit_i64 (by omega) ?_ | refine arem_nonneg (by omega) (by omega) ?_ | refine adiv_i64 (by omega) (by omega) ?_ | refine abr_yes (by omega) ?_ | refine abr_no (by omega) ?_ | refine amin ?_ | refine amax ?_ | refine afit_u64 (by omega) ?_ | refine afit_u8 (by omega) ?_ | rw [List.length_map]); ((conv => whnf); (repeat ((first | with_reducible refine abr_true rfl ?_ | with_reducible refine abr_false rfl ?_ | with_reducible refine abr_yes rfl ?_ | refine abr_yes (by decide) ?_ | refine abr_no (by decide) ?_ | with_reducible refine abr_same_ne ?_); (conv => whnf))))))
          refine aloop (α := Nat × List Bool × Tok × AHeap) (fun x => [(s9, bl x.2.2.1 (bs ++ x.2.1)), (s11, i64v ((x.1 : Int) - 1))]) (fun x => x.2.2.2) (fun x => x.2.1 ++ numBits v x.1 = numBits v i ∧ Owned σ' x.2.2.2 x.2.2.1) (fun x => x.1) (i, [], .tip t', upd σ' t' .tip) ⟨rfl, .tip ht0⟩ (Sub.upd ho.sub _ _) ?_ ?_
          · ((conv => whnf); (repeat ((first | with_reducible refine abr_true rfl ?_ | with_reducible refine abr_false rfl ?_ | with_reducible refine abr_yes rfl ?_ | refine abr_yes (by decide) ?_ | refine abr_no (by decide) ?_ | with_reducible refine abr_same_ne ?_); (conv => whnf))))
            rw [List.append_nil]
            (repeat' first | with_reducible exact EnvLe.refl _ | (refine EnvLe.node ?_ (by first | exact Or.inl rfl | exact Or.inr (Or.inl rfl) | exact Or.inr (Or.inr ⟨nofun, VLe.slice _ _ _⟩)) ?_))
          · rintro ⟨j, d, tk2, σ2⟩ ⟨hd, ho2⟩
            dsimp only at hd ho2 ⊢
            have hdl : d.length + j = i := by
              have := congrArg List.length hd
              rw [List.length_append, numBits_length, numBits_length] at this; exact this
            cases j with
            | zero =>
              ((conv => whnf); (repeat ((first | with_reducible refine abr_true rfl ?_ | with_reducible refine abr_false rfl ?_ | with_reducible refine abr_yes rfl ?_ | refine abr_yes (by decide) ?_ | refine abr_no (by decide) ?_ | with_reducible refine abr_same_ne ?_); (conv => whnf))))
              (repeat ((first | refine aload (by (repeat (first | with_reducible exact upd_same _ _ _ | assumption | rw [upd_ne _ _ (by first | assumption | (apply Ne.symm; assumption))]))) rfl ?_ | refine afit_i64 (by omega) ?_ | refine arem_nonneg (by omega) (by omega) ?_ | refine adiv_i64 (by omega) (by omega) ?_ | refine abr_yes (by omega) ?_ | refine abr_no (by omega) ?_ | refine amin ?_ | refine amax ?_ | refine afit_u64 (by omega) ?_ | refine afit_u8 (by omega) ?_ | rw [List.length_map]); ((conv => whnf); (repeat ((first | with_reducible refine abr_true rfl ?_ | with_reducible refine abr_false rfl ?_ | with_reducible refine abr_yes rfl ?_ | refine abr_yes (by decide) ?_ | refine abr_no (by decide) ?_ | with_reducible refine abr_same_ne ?_); (conv => whnf))))))
              refine aret_same (.inl ⟨hc, tk2, ho2, ?_⟩)
              simp only [numBits, List.append_nil] at hd
              rw [hd]; rfl
            | succ j =>
              ((conv => whnf); (repeat ((first | with_reducible refine abr_true rfl ?_ | with_reducible refine abr_false rfl ?_ | with_reducible refine abr_yes rfl ?_ | refine abr_yes (by decide) ?_ | refine abr_no (by decide) ?_ | with_reducible refine abr_same_ne ?_); (conv => whnf))))
              (repeat ((first | refine aload (by (repeat (first | with_reducible exact upd_same _ _ _ | assumption | rw [upd_ne _ _ (by first | assumption | (apply Ne.symm; assumption))]))) rfl ?_ | refine afit_i64 (by omega) ?_ | refine arem_nonneg (by omega) (by omega) ?_ | refine adiv_i64 (by omega) (by omega) ?_ | refine abr_yes (by omega) ?_ | refine abr_no (by omega) ?_ | refine amin ?_ | refine amax ?_ | refine afit_u64 (by omega) ?_ | refine afit_u8 (by omega) ?_ | rw [List.length_map]); ((conv => whnf); (repeat ((first | with_reducible refine abr_true rfl ?_ | with_reducible refine abr_false rfl ?_ | with_reducible refine abr_yes rfl ?_ | refine abr_yes (by decide) ?_ | refine abr_no (by decide) ?_ | with_reducible refine abr_same_ne ?_); (conv => whnf))))))
              rw [show ((j + 1 : Nat) : Int) - 1 = (j : Int) by omega]
              refine aget (by omega) (get_bools (by rw [lowBits_length]; omega)) ?_
              ((conv => whnf); (repeat ((first | with_reducible refine abr_true rfl ?_ | with_reducible refine abr_false rfl ?_ | with_reducible refine abr_yes rfl ?_ | refine abr_yes (by decide) ?_ | refine abr_no (by decide) ?_ | with_reducible refine abr_same_ne ?_); (conv => whnf))))
              refine acell rfl ?_
              ((conv => whnf); (repeat ((first | with_reducible refine abr_true rfl ?_ | with_reducible refine abr_false rfl ?_ | with_reducible refine abr_yes rfl ?_ | refine abr_yes (by decide) ?_ | refine abr_no (by decide) ?_ | with_reducible refine abr_same_ne ?_); (conv => whnf))))
              refine aapp_owned ho2 (by rw [List.length_map, List.length_append]; show (bs.length + d.length + 1) * 1 ≤ _; omega) fun t3 tk3 ho3 _ => ?_
              have hg : (lowBits v i)[j]'(by rw [lowBits_length]; omega) = v.testBit j := by
                have := lowBits_get (v := v) (n := i) (i := j) (by omega)
                rw [List.getElem?_eq_getElem (by rw [lowBits_length]; omega)] at this
                exact Option.some.inj this
              rw [hg, show List.map boolv (bs ++ d) ++ [AVal.v (Value.bool (v.testBit j))] = List.map boolv (bs ++ (d ++ [v.testBit j])) by simp]
              ((conv => whnf); (repeat ((first | with_reducible refine abr_true rfl ?_ | with_reducible refine abr_false rfl ?_ | with_reducible refine abr_yes rfl ?_ | refine abr_yes (by decide) ?_ | refine abr_no (by decide) ?_ | with_reducible refine abr_same_ne ?_); (conv => whnf))))
              (repeat ((first | refine aload (by (repeat (first | with_reducible exact upd_same _ _ _ | assumption | rw [upd_ne _ _ (by first | assumption | (apply Ne.symm; assumption))]))) rfl ?_ | refine afit_i64 (by omega) ?_ | refine arem_nonneg (by omega) (by omega) ?_ | refine adiv_i64 (by omega) (by omega) ?_ | refine abr_yes (by omega) ?_ | refine abr_no (by omega) ?_ | refine amin ?_ | refine amax ?_ | refine afit_u64 (by omega) ?_ | refine afit_u8 (by omega) ?_ | rw [List.length_map]); ((conv => whnf); (repeat ((first | with_reducible refine abr_true rfl ?_ | with_reducible refine abr_false rfl ?_ | with_reducible refine abr_yes rfl ?_ | refine abr_yes (by decide) ?_ | refine abr_no (by decide) ?_ | with_reducible refine abr_same_ne ?_); (conv => whnf))))))
              refine ⟨(j, d ++ [v.testBit j], tk3, _), ⟨?_, ho3⟩, by simp only; omega, Sub.refl _, ?_⟩
              · simp only; rw [← hd]; simp [numBits]
              · ((conv => whnf); (repeat ((first | with_reducible refine abr_true rfl ?_ | with_reducible refine abr_false rfl ?_ | with_reducible refine abr_yes rfl ?_ | refine abr_yes (by decide) ?_ | refine abr_no (by decide) ?_ | with_reducible refine abr_same_ne ?_); (conv => whnf))))
                (repeat' first | with_reducible exact EnvLe.refl _ | (refine EnvLe.node ?_ (by first | exact Or.inl rfl | exact Or.inr (Or.inl rfl) | exact Or.inr (Or.inr ⟨nofun, VLe.slice _ _ _⟩)) ?_))
theorem refPut (bs : List Bool) (t : Tok) (v : Nat) (n : Int) (σ : AHeap) (hv : v < 18446744073709551616) (hl : bs.length ≤ 65536) :
    ACalls Try.prog i_bowlineref01_Put [bl t bs, u64v v, i64v n] σ fun x σ' => x = .tup [bl .none (putBits bs v n), i64v (putCode bs.length v n)] ∧ σ' = σ := by
  refine acall_less (refPutO bs t v n σ hv hl) ?_
  rintro x σ' (⟨hc, tk, ho, rfl⟩ | ⟨hc, rfl, rfl⟩)
  · exact ⟨_, _, VLe.tup_sl, ho.sub, by rw [hc, putBits_ok hc], rfl⟩
  · exact ⟨_, _, VLe.refl _, Sub.refl _, by rw [putBits_no hc], rfl⟩
end Go.Proofs.Ytnfdgccmpglbhaa
/-
  The document's bits: bytes.
-/
namespace Go.Proofs.Ytnfdgccmpglbhaa
set_option linter.unusedVariables false
set_option linter.unusedSimpArgs false
open Go Go.Am

/-- So many bits, from a place on, filled up with noughts. -/
def bitsAt (l : List Bool) (i n : Nat) : List Bool := (List.range n).map fun m => bitD l (i + m)
theorem bitsAt_succ (l : List Bool) (i n : Nat) : bitsAt l i (n + 1) = bitsAt l i n ++ [bitD l (i + n)] := by unfold bitsAt; rw [List.range_succ, List.map_append]; rfl
theorem bitsAt_length (l : List Bool) (i n : Nat) : (bitsAt l i n).length = n := by unfold bitsAt; simp
theorem val_bitsAt (l : List Bool) (i n : Nat) : val 0 (bitsAt l i (n + 1)) = 2 * val 0 (bitsAt l i n) + (bitD l (i + n)).toNat := by rw [bitsAt_succ, val_snoc]
theorem byteAt_val (l : List Bool) (j : Nat) : UInt8.ofNat (val 0 (bitsAt l (8 * j) 8)) = byteAt l j := by
  unfold byteAt byte8
  congr 1
  simp only [bitsAt, List.range, List.range.loop, List.map, val, Nat.add_zero]
  omega
theorem val8_lt (l : List Bool) (i : Nat) {n : Nat} (h : n ≤ 8) : val 0 (bitsAt l i n) < 256 := by
  have h1 := val_lt (bitsAt l i n)
  rw [bitsAt_length] at h1
  exact Nat.lt_of_lt_of_le h1 (Nat.pow_le_pow_right (n := 2) (by omega) h)
theorem val7_lt (l : List Bool) (i : Nat) {n : Nat} (h : n < 8) : 2 * val 0 (bitsAt l i n) + 1 < 256 := by
  have h1 := val_lt (bitsAt l i n)
  rw [bitsAt_length] at h1
  have h2 : 2 ^ n ≤ 2 ^ 7 := Nat.pow_le_pow_right (by omega) (by omega)
  omega

def packTo (l : List Bool) (j : Nat) : List UInt8 := (List.range j).map (byteAt l)
theorem packTo_succ (l : List Bool) (j : Nat) : packTo l (j + 1) = packTo l j ++ [byteAt l j] := by unfold packTo; rw [List.range_succ, List.map_append]; rfl
theorem packTo_length (l : List Bool) (j : Nat) : (packTo l j).length = j := by unfold packTo; simp
theorem pack_packTo (l : List Bool) : pack l = packTo l ((l.length + 7) / 8) := rfl

set_option maxRecDepth 10000 in
theorem refBytesO (l : List Bool) (t : Tok) (σ : AHeap) (hl : l.length ≤ 1000000) : ACalls Try.prog i_bowlineref01_Bytes [bl t l] σ fun x σ' => ∃ tk, Owned σ σ' tk ∧ x = sl tk (pack l) := by
  refine k_bowlineref01_Bytes rfl ?_
  ((conv => whnf); (repeat ((first | with_reducible refine abr_true rfl ?_ | with_reducible refine abr_false rfl ?_ | with_reducible refine abr_yes rfl ?_ | refine abr_yes (by decide) ?_ | refine abr_no (by decide) ?_ | with_reducible refine abr_same_ne ?_); (conv => whnf))))
  refine aloop (α := Nat × Tok × AHeap) (fun x => [(s3, sl x.2.1 (packTo l x.1)), (s4, i64v ((8 * x.1 : Nat) : Int))]) (fun x => x.2.2) (fun x => 8 * x.1 ≤ l.length + 7 ∧ Owned σ x.2.2 x.2.1) (fun x => l.length + 8 - 8 * x.1) (0, .full, σ) ⟨by omega, .full _⟩ (Sub.refl _) ?_ ?_
  · ((conv => whnf); (repeat ((first | with_reducible refine abr_true rfl ?_ | with_reducible refine abr_false rfl ?_ | with_reducible refine abr_yes rfl ?_ | refine abr_yes (by decide) ?_ | refine abr_no (by decide) ?_ | with_reducible refine abr_same_ne ?_); (conv => whnf))))
    (repeat' first | with_reducible exact EnvLe.refl _ | (refine EnvLe.node ?_ (by first | exact Or.inl rfl | exact Or.inr (Or.inl rfl) | exact Or.inr (Or.inr ⟨nofun, VLe.slice _ _ _⟩)) ?_))
  · rintro ⟨j, tk, σ1⟩ ⟨hj, ho⟩
    dsimp only at hj ho ⊢
    by_cases h : 8 * j < l.length
    · ((conv => whnf); (repeat ((first | with_reducible refine abr_true rfl ?_ | with_reducible refine abr_false rfl ?_ | with_reducible refine abr_yes rfl ?_ | refine abr_yes (by decide) ?_ | refine abr_no (by decide) ?_ | with_reducible refine abr_same_ne ?_); (conv => whnf))))
      try rw [List.length_map]
      refine abr_yes (by omega) ?_
      ((conv => whnf); (repeat ((first | with_reducible refine abr_true rfl ?_ | with_reducible refine abr_false rfl ?_ | with_reducible refine abr_yes rfl ?_ | refine abr_yes (by decide) ?_ | refine abr_no (by decide) ?_ | with_reducible refine abr_same_ne ?_); (conv => whnf))))
      refine aloop (α := Nat) (fun k => [(s5, u8v (val 0 (bitsAt l (8 * j) k))), (s6, i64v k)]) (fun _ => σ1) (fun k => k ≤ 8) (fun k => 8 - k) 0 (by omega) (Sub.refl _) ?_ ?_
      · ((conv => whnf); (repeat ((first | with_reducible refine abr_true rfl ?_ | with_reducible refine abr_false rfl ?_ | with_reducible refine abr_yes rfl ?_ | refine abr_yes (by decide) ?_ | refine abr_no (by decide) ?_ | with_reducible refine abr_same_ne ?_); (conv => whnf))))
        (repeat' first | with_reducible exact EnvLe.refl _ | (refine EnvLe.node ?_ (by first | exact Or.inl rfl | exact Or.inr (Or.inl rfl) | exact Or.inr (Or.inr ⟨nofun, VLe.slice _ _ _⟩)) ?_))
      · rintro k hk
        by_cases hk8 : k < 8
        · have h7 := val7_lt l (8 * j) hk8
          ((conv => whnf); (repeat ((first | with_reducible refine abr_true rfl ?_ | with_reducible refine abr_false rfl ?_ | with_reducible refine abr_yes rfl ?_ | refine abr_yes (by decide) ?_ | refine abr_no (by decide) ?_ | with_reducible refine abr_same_ne ?_); (conv => whnf))))
          refine abr_yes (by omega) ?_
          ((conv => whnf); (repeat ((first | with_reducible refine abr_true rfl ?_ | with_reducible refine abr_false rfl ?_ | with_reducible refine abr_yes rfl ?_ | refine abr_yes (by decide) ?_ | refine abr_no (by decide) ?_ | with_reducible refine abr_same_ne ?_); (conv => whnf))))
          refine afit_u8 (by omega) ?_
          rw [show (2 : Int) * ((val 0 (bitsAt l (8 * j) k) : Nat) : Int) = ((2 * val 0 (bitsAt l (8 * j) k) : Nat) : Int) by omega]
          ((conv => whnf); (repeat ((first | with_reducible refine abr_true rfl ?_ | with_reducible refine abr_false rfl ?_ | with_reducible refine abr_yes rfl ?_ | refine abr_yes (by decide) ?_ | refine abr_no (by decide) ?_ | with_reducible refine abr_same_ne ?_); (conv => whnf))))
          (repeat ((first | refine aload (by (repeat (first | with_reducible exact upd_same _ _ _ | assumption | rw [upd_ne _ _ (by first | assumption | (apply Ne.symm; assumption))]))) rfl ?_ | refine afit_i64 (by omega) ?_ | refine arem_nonneg (by omega) (by omega) ?_ | refine adiv_i64 (by omega) (by omega) ?_ | refine abr_yes (by omega) ?_ | refine abr_no (by omega) ?_ | refine amin ?_ | refine amax ?_ | refine afit_u64 (by omega) ?_ | refine afit_u8 (by omega) ?_ | rw [List.length_map]); ((conv => whnf); (repeat ((first | with_reducible refine abr_true rfl ?_ | with_reducible refine abr_false rfl ?_ | with_reducible refine abr_yes rfl ?_ | refine abr_yes (by decide) ?_ | refine abr_no (by decide) ?_ | with_reducible refine abr_same_ne ?_); (conv => whnf))))))
          have next : val 0 (bitsAt l (8 * j) (k + 1)) = 2 * val 0 (bitsAt l (8 * j) k) + (bitD l (8 * j + k)).toNat := val_bitsAt _ _ _
          by_cases hin : 8 * j + k < l.length
          · refine abr_yes (by omega) ?_
            ((conv => whnf); (repeat ((first | with_reducible refine abr_true rfl ?_ | with_reducible refine abr_false rfl ?_ | with_reducible refine abr_yes rfl ?_ | refine abr_yes (by decide) ?_ | refine abr_no (by decide) ?_ | with_reducible refine abr_same_ne ?_); (conv => whnf))))
            (repeat ((first | refine aload (by (repeat (first | with_reducible exact upd_same _ _ _ | assumption | rw [upd_ne _ _ (by first | assumption | (apply Ne.symm; assumption))]))) rfl ?_ | refine afit_i64 (by omega) ?_ | refine arem_nonneg (by omega) (by omega) ?_ | refine adiv_i64 (by omega) (by omega) ?_ | refine abr_yes (by omega) ?_ | refine abr_no (by omega) ?_ | refine amin ?_ | refine amax ?_ | refine afit_u64 (by omega) ?_ | refine afit_u8 (by omega) ?_ | rw [List.length_map]); ((conv => whnf); (repeat ((first | with_reducible refine abr_true rfl ?_ | with_reducible refine abr_false rfl ?_ | with_reducible refine abr_yes rfl ?_ | refine abr_yes (by decide) ?_ | refine abr_no (by decide) ?_ | with_reducible refine abr_same_ne ?_); (conv => whnf))))))
            rw [show ((8 * j : Nat) : Int) + (k : Int) = ((8 * j + k : Nat) : Int) by omega]
            refine aget (by omega) (get_bools hin) ?_
            ((conv => whnf); (repeat ((first | with_reducible refine abr_true rfl ?_ | with_reducible refine abr_false rfl ?_ | with_reducible refine abr_yes rfl ?_ | refine abr_yes (by decide) ?_ | refine abr_no (by decide) ?_ | with_reducible refine abr_same_ne ?_); (conv => whnf))))
            refine acell rfl ?_
            ((conv => whnf); (repeat ((first | with_reducible refine abr_true rfl ?_ | with_reducible refine abr_false rfl ?_ | with_reducible refine abr_yes rfl ?_ | refine abr_yes (by decide) ?_ | refine abr_no (by decide) ?_ | with_reducible refine abr_same_ne ?_); (conv => whnf))))
            cases hb : l[8 * j + k] with
            | true =>
              have hbd : bitD l (8 * j + k) = true := by rw [bitD_get hin, hb]
              ((conv => whnf); (repeat ((first | with_reducible refine abr_true rfl ?_ | with_reducible refine abr_false rfl ?_ | with_reducible refine abr_yes rfl ?_ | refine abr_yes (by decide) ?_ | refine abr_no (by decide) ?_ | with_reducible refine abr_same_ne ?_); (conv => whnf))))
              refine afit_u8 (by omega) ?_
              ((conv => whnf); (repeat ((first | with_reducible refine abr_true rfl ?_ | with_reducible refine abr_false rfl ?_ | with_reducible refine abr_yes rfl ?_ | refine abr_yes (by decide) ?_ | refine abr_no (by decide) ?_ | with_reducible refine abr_same_ne ?_); (conv => whnf))))
              (repeat ((first | refine aload (by (repeat (first | with_reducible exact upd_same _ _ _ | assumption | rw [upd_ne _ _ (by first | assumption | (apply Ne.symm; assumption))]))) rfl ?_ | refine afit_i64 (by omega) ?_ | refine arem_nonneg (by omega) (by omega) ?_ | refine adiv_i64 (by omega) (by omega) ?_ | refine abr_yes (by omega) ?_ | refine abr_no (by omega) ?_ | refine amin ?_ | refine amax ?_ | refine afit_u64 (by omega) ?_ | refine afit_u8 (by omega) ?_ | rw [List.length_map]); ((conv => whnf); (repeat ((first | with_reducible refine abr_true rfl ?_ | with_reducible refine abr_false rfl ?_ | with_reducible refine abr_yes rfl ?_ | refine abr_yes (by decide) ?_ | refine abr_no (by decide) ?_ | with_reducible refine abr_same_ne ?_); (conv => whnf))))))
              refine ⟨k + 1, by omega, by omega, Sub.refl _, ?_⟩
              ((conv => whnf); (repeat ((first | with_reducible refine abr_true rfl ?_ | with_reducible refine abr_false rfl ?_ | with_reducible refine abr_yes rfl ?_ | refine abr_yes (by decide) ?_ | refine abr_no (by decide) ?_ | with_reducible refine abr_same_ne ?_); (conv => whnf))))
              rw [next, hbd, show ((2 * val 0 (bitsAt l (8 * j) k) : Nat) : Int) + 1 = ((2 * val 0 (bitsAt l (8 * j) k) + Bool.toNat true : Nat) : Int) by simp]
              (repeat' first | with_reducible exact EnvLe.refl _ | (refine EnvLe.node ?_ (by first | exact Or.inl rfl | exact Or.inr (Or.inl rfl) | exact Or.inr (Or.inr ⟨nofun, VLe.slice _ _ _⟩)) ?_))
            | false =>
              have hbd : bitD l (8 * j + k) = false := by rw [bitD_get hin, hb]
              ((conv => whnf); (repeat ((first | with_reducible refine abr_true rfl ?_ | with_reducible refine abr_false rfl ?_ | with_reducible refine abr_yes rfl ?_ | refine abr_yes (by decide) ?_ | refine abr_no (by decide) ?_ | with_reducible refine abr_same_ne ?_); (conv => whnf))))
              (repeat ((first | refine aload (by (repeat (first | with_reducible exact upd_same _ _ _ | assumption | rw [upd_ne _ _ (by first | assumption | (apply Ne.symm; assumption))]))) rfl ?_ | refine afit_i64 (by omega) ?_ | refine arem_nonneg (by omega) (by omega) ?_ | refine adiv_i64 (by omega) (by omega) ?_ | refine abr_yes (by omega) ?_ | refine abr_no (by omega) ?_ | refine amin ?_ | refine amax ?_ | refine afit_u64 (by omega) ?_ | refine afit_u8 (by omega) ?_ | rw [List.length_map]); ((conv => whnf); (repeat ((first | with_reducible refine abr_true rfl ?_ | with_reducible refine abr_false rfl ?_ | with_reducible refine abr_yes rfl ?_ | refine abr_yes (by decide) ?_ | refine abr_no (by decide) ?_ | with_reducible refine abr_same_ne ?_); (conv => whnf))))))
              refine ⟨k + 1, by omega, by omega, Sub.refl _, ?_⟩
              ((conv => whnf); (repeat ((first | with_reducible refine abr_true rfl ?_ | with_reducible refine abr_false rfl ?_ | with_reducible refine abr_yes rfl ?_ | refine abr_yes (by decide) ?_ | refine abr_no (by decide) ?_ | with_reducible refine abr_same_ne ?_); (conv => whnf))))
              rw [next, hbd]
              (repeat' first | with_reducible exact EnvLe.refl _ | (refine EnvLe.node ?_ (by first | exact Or.inl rfl | exact Or.inr (Or.inl rfl) | exact Or.inr (Or.inr ⟨nofun, VLe.slice _ _ _⟩)) ?_))
          · have hbd : bitD l (8 * j + k) = false := bitD_out (by omega)
            refine abr_no (by omega) ?_
            ((conv => whnf); (repeat ((first | with_reducible refine abr_true rfl ?_ | with_reducible refine abr_false rfl ?_ | with_reducible refine abr_yes rfl ?_ | refine abr_yes (by decide) ?_ | refine abr_no (by decide) ?_ | with_reducible refine abr_same_ne ?_); (conv => whnf))))
            (repeat ((first | refine aload (by (repeat (first | with_reducible exact upd_same _ _ _ | assumption | rw [upd_ne _ _ (by first | assumption | (apply Ne.symm; assumption))]))) rfl ?_ | refine afit_i64 (by omega) ?_ | refine arem_nonneg (by omega) (by omega) ?_ | refine adiv_i64 (by omega) (by omega) ?_ | refine abr_yes (by omega) ?_ | refine abr_no (by omega) ?_ | refine amin ?_ | refine amax ?_ | refine afit_u64 (by omega) ?_ | refine afit_u8 (by omega) ?_ | rw [List.length_map]); ((conv => whnf); (repeat ((first | with_reducible refine abr_true rfl ?_ | with_reducible refine abr_false rfl ?_ | with_reducible refine abr_yes rfl ?_ | refine abr_yes (by decide) ?_ | refine abr_no (by decide) ?_ | with_reducible refine abr_same_ne ?_); (conv => whnf))))))
            refine ⟨k + 1, by omega, by omega, Sub.refl _, ?_⟩
            ((conv => whnf); (repeat ((first | with_reducible refine abr_true rfl ?_ | with_reducible refine abr_false rfl ?_ | with_reducible refine abr_yes rfl ?_ | refine abr_yes (by decide) ?_ | refine abr_no (by decide) ?_ | with_reducible refine abr_same_ne ?_); (conv => whnf))))
            rw [next, hbd]
            (repeat' first | with_reducible exact EnvLe.refl _ | (refine EnvLe.node ?_ (by first | exact Or.inl rfl | exact Or.inr (Or.inl rfl) | exact Or.inr (Or.inr ⟨nofun, VLe.slice _ _ _⟩)) ?_))
        · have : k = 8 := by omega
          subst this
          ((conv => whnf); (repeat ((first | with_reducible refine abr_true rfl ?_ | with_reducible refine abr_false rfl ?_ | with_reducible refine abr_yes rfl ?_ | refine abr_yes (by decide) ?_ | refine abr_no (by decide) ?_ | with_reducible refine abr_same_ne ?_); (conv => whnf))))
          (repeat ((first | refine aload (by (repeat (first | with_reducible exact upd_same _ _ _ | assumption | rw [upd_ne _ _ (by first | assumption | (apply Ne.symm; assumption))]))) rfl ?_ | refine afit_i64 (by omega) ?_ | refine arem_nonneg (by omega) (by omega) ?_ | refine adiv_i64 (by omega) (by omega) ?_ | refine abr_yes (by omega) ?_ | refine abr_no (by omega) ?_ | refine amin ?_ | refine amax ?_ | refine afit_u64 (by omega) ?_ | refine afit_u8 (by omega) ?_ | rw [List.length_map]); ((conv => whnf); (repeat ((first | with_reducible refine abr_true rfl ?_ | with_reducible refine abr_false rfl ?_ | with_reducible refine abr_yes rfl ?_ | refine abr_yes (by decide) ?_ | refine abr_no (by decide) ?_ | with_reducible refine abr_same_ne ?_); (conv => whnf))))))
          refine aapp_owned ho (by rw [List.length_map, packTo_length]; show (j + 1) * 1 ≤ _; omega) fun t' tk' ho' _ => ?_
          rw [show List.map byteV (packTo l j) ++ [AVal.v (Value.int IntKind.u8 ((val 0 (bitsAt l (8 * j) 8) : Nat) : Int))] = List.map byteV (packTo l (j + 1)) by
            rw [packTo_succ, List.map_append, ← byteAt_val, List.map_cons, byte_ofNat (val8_lt _ _ (by omega))]; rfl]
          ((conv => whnf); (repeat ((first | with_reducible refine abr_true rfl ?_ | with_reducible refine abr_false rfl ?_ | with_reducible refine abr_yes rfl ?_ | refine abr_yes (by decide) ?_ | refine abr_no (by decide) ?_ | with_reducible refine abr_same_ne ?_); (conv => whnf))))
          (repeat ((first | refine aload (by (repeat (first | with_reducible exact upd_same _ _ _ | assumption | rw [upd_ne _ _ (by first | assumption | (apply Ne.symm; assumption))]))) rfl ?_ | refine afit_i64 (by omega) ?_ | refine arem_nonneg (by omega) (by omega) ?_ | refine adiv_i64 (by omega) (by omega) ?_ | refine abr_yes (by omega) ?_ | refine abr_no (by omega) ?_ | refine amin ?_ | refine amax ?_ | refine afit_u64 (by omega) ?_ | refine afit_u8 (by omega) ?_ | rw [List.length_map]); ((conv => whnf); (repeat ((first | with_reducible refine abr_true rfl ?_ | with_reducible refine abr_false rfl ?_ | with_reducible refine abr_yes rfl ?_ | refine abr_yes (by decide) ?_ | refine abr_no (by decide) ?_ | with_reducible refine abr_same_ne ?_); (conv => whnf))))))
          rw [show ((8 * j : Nat) : Int) + 8 = ((8 * (j + 1) : Nat) : Int) by omega]
          refine ⟨(j + 1, tk', _), ⟨by dsimp only; omega, ho'⟩, by dsimp only; omega, Sub.refl _, ?_⟩
          ((conv => whnf); (repeat ((first | with_reducible refine abr_true rfl ?_ | with_reducible refine abr_false rfl ?_ | with_reducible refine abr_yes rfl ?_ | refine abr_yes (by decide) ?_ | refine abr_no (by decide) ?_ | with_reducible refine abr_same_ne ?_); (conv => whnf))))
          (repeat' first | with_reducible exact EnvLe.refl _ | (refine EnvLe.node ?_ (by first | exact Or.inl rfl | exact Or.inr (Or.inl rfl) | exact Or.inr (Or.inr ⟨nofun, VLe.slice _ _ _⟩)) ?_))
    · ((conv => whnf); (repeat ((first | with_reducible refine abr_true rfl ?_ | with_reducible refine abr_false rfl ?_ | with_reducible refine abr_yes rfl ?_ | refine abr_yes (by decide) ?_ | refine abr_no (by decide) ?_ | with_reducible refine abr_same_ne ?_); (conv => whnf))))
      try rw [List.length_map]
      refine abr_no (by omega) ?_
      ((conv => whnf); (repeat ((first | with_reducible refine abr_true rfl ?_ | with_reducible refine abr_false rfl ?_ | with_reducible refine abr_yes rfl ?_ | refine abr_yes (by decide) ?_ | refine abr_no (by decide) ?_ | with_reducible refine abr_same_ne ?_); (conv => whnf))))
      refine aret_same ⟨tk, ho, ?_⟩
      rw [pack_packTo, show (l.length + 7) / 8 = j by omega]
theorem refBytes (l : List Bool) (t : Tok) (σ : AHeap) (hl : l.length ≤ 1000000) : ACalls Try.prog i_bowlineref01_Bytes [bl t l] σ fun x σ' => x = sl .none (pack l) ∧ σ' = σ := by
  refine acall_less (refBytesO l t σ hl) ?_
  rintro v σ' ⟨tk, ho, rfl⟩
  exact ⟨_, _, VLe.slice _ _ _, ho.sub, rfl, rfl⟩
end Go.Proofs.Ytnfdgccmpglbhaa
/-
  The document's statuses: their bytes.
-/
namespace Go.Proofs.Ytnfdgccmpglbhaa
set_option linter.unusedVariables false
set_option linter.unusedSimpArgs false
open Go Go.Am

/-- A number put behind bits, of the document. -/
theorem refPutT (bs : List Bool) (t : Tok) (v : Nat) (n : Int) (σ σb : AHeap) (hs : Sub σ σb) (h0 : 0 ≤ n) (h64 : n ≤ 60) (hl : (bs.length : Int) + n ≤ 65536) (hv : v < 2 ^ n.toNat) :
    ACalls Try.prog i_bowlineref01_Put [bl t bs, u64v v, i64v n] σ fun x σ' => ∃ tk, x = .tup [bl tk (bs ++ numBits v n.toNat), i64v 0] ∧ Ext σ σ' ∧ Sub σ' σb ∧ TokIn σ' σb tk := by
  have h2 : 2 ^ n.toNat ≤ 2 ^ 60 := Nat.pow_le_pow_right (by omega) (by omega)
  have hc := put_fine bs v n h0 (by omega) hl hv
  refine acall_less (refPutO bs t v n σ (by omega) (by omega)) ?_
  rintro x σ' (⟨_, tk, ho, rfl⟩ | ⟨hno, _⟩)
  · exact ⟨_, _, VLe.refl _, Sub.refl _, tk, rfl, ho.ext, ho.sub.trans hs, Owned.tokIn hs ho⟩
  · exact absurd hc.1 hno
set_option maxRecDepth 20000 in
set_option maxHeartbeats 4000000 in
theorem refStWrite (s : Int × List Ms) (t : Tok) (w : Int) (σ : AHeap) (hok : stOk w s = true) : ACalls Try.prog i_bowlineref11_Write [stV t s, i64v w] σ fun v σ' => v = sl .none (pack (stBits w s)) ∧ σ' = σ := by
  obtain ⟨ack, l⟩ := s
  obtain ⟨hw, hn, h32, hall⟩ := stOk_parts hok
  dsimp only at hn h32 hall
  have hfl := stBits_length (w := w) (by omega) (ack, l)
  have hb := mssLen_le (w := w) (by omega) l
  dsimp only at hfl
  have hsb : stBits w (ack, l) = List.replicate 4 false ++ (numBits ack.toNat w.toNat ++ ([decide (0 < l.length)] ++ mssBits w l)) := rfl
  generalize stBits w (ack, l) = full at *
  obtain ⟨ha0, halt⟩ := isNum_lt hw hn
  have w16 : 2 ^ w.toNat ≤ 65536 := Nat.le_trans (Nat.pow_le_pow_right (n := 2) (by omega) (show w.toNat ≤ 16 by omega)) (by decide)
  refine k_bowlineref11_Write rfl ?_
  ((conv => whnf); (repeat ((first | with_reducible refine abr_true rfl ?_ | with_reducible refine abr_false rfl ?_ | with_reducible refine abr_yes rfl ?_ | refine abr_yes (by decide) ?_ | refine abr_no (by decide) ?_ | with_reducible refine abr_same_ne ?_); (conv => whnf))))
  refine anew rfl fun i1 h1 => ?_
  have k1 : upd σ i1 (.cells (stV t (ack, l)).cells) i1 = some (.cells [i64v ack, missV t l]) := upd_same _ _ _
  have hs : Sub (upd σ i1 (.cells (stV t (ack, l)).cells)) σ := Sub.upd_fresh _ h1
  generalize upd σ i1 (.cells (stV t (ack, l)).cells) = τ at *
  ((conv => whnf); (repeat ((first | with_reducible refine abr_true rfl ?_ | with_reducible refine abr_false rfl ?_ | with_reducible refine abr_yes rfl ?_ | refine abr_yes (by decide) ?_ | refine abr_no (by decide) ?_ | with_reducible refine abr_same_ne ?_); (conv => whnf))))
  refine aload k1 rfl ?_
  ((conv => whnf); (repeat ((first | with_reducible refine abr_true rfl ?_ | with_reducible refine abr_false rfl ?_ | with_reducible refine abr_yes rfl ?_ | refine abr_yes (by decide) ?_ | refine abr_no (by decide) ?_ | with_reducible refine abr_same_ne ?_); (conv => whnf))))
  refine afit_eq (m := ((ack.toNat : Nat) : Int)) (by rw [Int.toNat_of_nonneg ha0]; exact wrap_u64 (by omega) (by omega)) ?_
  ((conv => whnf); (repeat ((first | with_reducible refine abr_true rfl ?_ | with_reducible refine abr_false rfl ?_ | with_reducible refine abr_yes rfl ?_ | refine abr_yes (by decide) ?_ | refine abr_no (by decide) ?_ | with_reducible refine abr_same_ne ?_); (conv => whnf))))
  refine acall (refPutT (List.replicate 4 false) .full ack.toNat w _ σ hs (by omega) (by omega) (by rw [List.length_replicate]; omega) halt) ?_
  rintro _ σ1 ⟨tk1, rfl, x1, s1', o1⟩
  refine ⟨?_, x1⟩
  have k1 := x1 i1 _ rfl k1
  ((conv => whnf); (repeat ((first | with_reducible refine abr_true rfl ?_ | with_reducible refine abr_false rfl ?_ | with_reducible refine abr_yes rfl ?_ | refine abr_yes (by decide) ?_ | refine abr_no (by decide) ?_ | with_reducible refine abr_same_ne ?_); (conv => whnf))))
  refine aload k1 rfl ?_
  ((conv => whnf); (repeat ((first | with_reducible refine abr_true rfl ?_ | with_reducible refine abr_false rfl ?_ | with_reducible refine abr_yes rfl ?_ | refine abr_yes (by decide) ?_ | refine abr_no (by decide) ?_ | with_reducible refine abr_same_ne ?_); (conv => whnf))))
  rw [List.length_map]
  rw [@dec_congr (0 < (l.length : Int)) (0 < l.length) _ inferInstance (by omega)]
  refine aapp_in (ys := [boolv (decide (0 < l.length))]) o1 s1' (by simp only [List.length_map, List.length_append, List.length_replicate, numBits_length, List.length_singleton]; omega) fun t2 σ2 x2 s2' o2 => ?_
  have k1 := x2 i1 _ rfl k1
  rw [show (List.replicate 4 false ++ numBits ack.toNat w.toNat).map boolv ++ [boolv (decide (0 < l.length))] = (List.replicate 4 false ++ numBits ack.toNat w.toNat ++ [decide (0 < l.length)]).map boolv by rw [List.map_append (l₂ := [decide (0 < l.length)])]; rfl]
  ((conv => whnf); (repeat ((first | with_reducible refine abr_true rfl ?_ | with_reducible refine abr_false rfl ?_ | with_reducible refine abr_yes rfl ?_ | refine abr_yes (by decide) ?_ | refine abr_no (by decide) ?_ | with_reducible refine abr_same_ne ?_); (conv => whnf))))
  refine aloop (α := Nat × List Bool × Tok × AHeap) (fun x => [(s5, bl x.2.2.1 x.2.1), (s6, i64v x.1)]) (fun x => x.2.2.2) (fun x => x.1 ≤ l.length ∧ x.2.1 ++ mssBits w (l.drop x.1) = full ∧ x.2.2.2 i1 = some (.cells [i64v ack, missV t l]) ∧ TokIn x.2.2.2 σ x.2.2.1 ∧ Sub x.2.2.2 σ) (fun x => l.length - x.1) (0, List.replicate 4 false ++ numBits ack.toNat w.toNat ++ [decide (0 < l.length)], .tip t2, σ2) ⟨Nat.zero_le _, ?_, k1, o2, s2'⟩ (Sub.refl _) ?_ ?_
  · dsimp only
    rw [hsb, List.drop_zero]
    simp only [List.append_assoc]
  · ((conv => whnf); (repeat ((first | with_reducible refine abr_true rfl ?_ | with_reducible refine abr_false rfl ?_ | with_reducible refine abr_yes rfl ?_ | refine abr_yes (by decide) ?_ | refine abr_no (by decide) ?_ | with_reducible refine abr_same_ne ?_); (conv => whnf))))
    (repeat' first | with_reducible exact EnvLe.refl _ | (refine EnvLe.node ?_ (by first | exact Or.inl rfl | exact Or.inr (Or.inl rfl) | exact Or.inr (Or.inr ⟨nofun, VLe.slice _ _ _⟩)) ?_))
  rintro ⟨i, bs, tk, σ3⟩ ⟨hi, hbs, q1, hto, hs3⟩
  dsimp only at hi hbs q1 hto hs3 ⊢
  have hbl : bs.length ≤ 1700 := by
    have := congrArg List.length hbs
    rw [List.length_append] at this
    omega
  by_cases h : i < l.length
  · have hm : missOk w l[i] = true := List.all_eq_true.1 hall _ (List.getElem_mem h)
    have hdrop : mssBits w (l.drop i) = missBits w (decide (i + 1 < l.length)) l[i] ++ mssBits w (l.drop (i + 1)) := by
      rw [List.drop_eq_getElem_cons h]
      show missBits w (!(l.drop (i + 1)).isEmpty) l[i] ++ _ = _
      congr 2
      by_cases e : i + 1 < l.length
      · rw [decide_eq_true e, List.drop_eq_getElem_cons e]; rfl
      · rw [decide_eq_false e, List.drop_eq_nil_of_le (by omega)]; rfl
    rw [hdrop, ← List.append_assoc] at hbs
    obtain ⟨hs0, hslt⟩ := isNum_lt hw (missOk_num hm)
    ((conv => whnf); (repeat ((first | with_reducible refine abr_true rfl ?_ | with_reducible refine abr_false rfl ?_ | with_reducible refine abr_yes rfl ?_ | refine abr_yes (by decide) ?_ | refine abr_no (by decide) ?_ | with_reducible refine abr_same_ne ?_); (conv => whnf))))
    (repeat ((first | refine aload (by (repeat (first | with_reducible exact upd_same _ _ _ | assumption | rw [upd_ne _ _ (by first | assumption | (apply Ne.symm; assumption))]))) rfl ?_ | refine afit_i64 (by omega) ?_ | refine arem_nonneg (by omega) (by omega) ?_ | refine adiv_i64 (by omega) (by omega) ?_ | refine abr_yes (by omega) ?_ | refine abr_no (by omega) ?_ | refine amin ?_ | refine amax ?_ | refine afit_u64 (by omega) ?_ | refine afit_u8 (by omega) ?_ | rw [List.length_map]); ((conv => whnf); (repeat ((first | with_reducible refine abr_true rfl ?_ | with_reducible refine abr_false rfl ?_ | with_reducible refine abr_yes rfl ?_ | refine abr_yes (by decide) ?_ | refine abr_no (by decide) ?_ | with_reducible refine abr_same_ne ?_); (conv => whnf))))))
    refine aget (by omega) (get_ms h) ?_
    ((conv => whnf); (repeat ((first | with_reducible refine abr_true rfl ?_ | with_reducible refine abr_false rfl ?_ | with_reducible refine abr_yes rfl ?_ | refine abr_yes (by decide) ?_ | refine abr_no (by decide) ?_ | with_reducible refine abr_same_ne ?_); (conv => whnf))))
    refine acells (l := (msV l[i]).cells) (by exact Nat.le_refl 4) rfl ?_
    ((conv => whnf); (repeat ((first | with_reducible refine abr_true rfl ?_ | with_reducible refine abr_false rfl ?_ | with_reducible refine abr_yes rfl ?_ | refine abr_yes (by decide) ?_ | refine abr_no (by decide) ?_ | with_reducible refine abr_same_ne ?_); (conv => whnf))))
    refine anew rfl fun i5 h5 => ?_
    ((conv => whnf); (repeat ((first | with_reducible refine abr_true rfl ?_ | with_reducible refine abr_false rfl ?_ | with_reducible refine abr_yes rfl ?_ | refine abr_yes (by decide) ?_ | refine abr_no (by decide) ?_ | with_reducible refine abr_same_ne ?_); (conv => whnf))))
    refine astore (xs := (msV l[i]).cells) (l := [i64v l[i].1, boolv l[i].2.1, i64v l[i].2.2.1, i64v l[i].2.2.2]) (upd_same _ _ _) (by exact Nat.le_refl 4) rfl rfl ?_
    rw [upd_upd]
    have n15 : i1 ≠ i5 := fun e => by subst e; rw [q1] at h5; cases h5
    have m1 : upd σ3 i5 (.cells [i64v l[i].1, boolv l[i].2.1, i64v l[i].2.2.1, i64v l[i].2.2.2]) i1 = some (.cells [i64v ack, missV t l]) := (upd_ne _ _ n15).trans q1
    have m5 : upd σ3 i5 (.cells [i64v l[i].1, boolv l[i].2.1, i64v l[i].2.2.1, i64v l[i].2.2.2]) i5 = some (.cells [i64v l[i].1, boolv l[i].2.1, i64v l[i].2.2.1, i64v l[i].2.2.2]) := upd_same _ _ _
    have hs5 : Sub (upd σ3 i5 (.cells [i64v l[i].1, boolv l[i].2.1, i64v l[i].2.2.1, i64v l[i].2.2.2])) σ := sub_upd _ hs3 (sub_none hs3 h5)
    generalize upd σ3 i5 (.cells [i64v l[i].1, boolv l[i].2.1, i64v l[i].2.2.1, i64v l[i].2.2.2]) = σ4 at *
    ((conv => whnf); (repeat ((first | with_reducible refine abr_true rfl ?_ | with_reducible refine abr_false rfl ?_ | with_reducible refine abr_yes rfl ?_ | refine abr_yes (by decide) ?_ | refine abr_no (by decide) ?_ | with_reducible refine abr_same_ne ?_); (conv => whnf))))
    refine aload m5 rfl ?_
    ((conv => whnf); (repeat ((first | with_reducible refine abr_true rfl ?_ | with_reducible refine abr_false rfl ?_ | with_reducible refine abr_yes rfl ?_ | refine abr_yes (by decide) ?_ | refine abr_no (by decide) ?_ | with_reducible refine abr_same_ne ?_); (conv => whnf))))
    refine afit_eq (m := ((l[i].1.toNat : Nat) : Int)) (by rw [Int.toNat_of_nonneg hs0]; exact wrap_u64 (by omega) (by omega)) ?_
    ((conv => whnf); (repeat ((first | with_reducible refine abr_true rfl ?_ | with_reducible refine abr_false rfl ?_ | with_reducible refine abr_yes rfl ?_ | refine abr_yes (by decide) ?_ | refine abr_no (by decide) ?_ | with_reducible refine abr_same_ne ?_); (conv => whnf))))
    refine acall (refPutT bs tk l[i].1.toNat w _ σ hs5 (by omega) (by omega) (by omega) hslt) ?_
    rintro _ σ6 ⟨tk6, rfl, x6, s6', o6⟩
    refine ⟨?_, x6⟩
    have m1 := x6 i1 _ rfl m1
    have m5 := x6 i5 _ rfl m5
    ((conv => whnf); (repeat ((first | with_reducible refine abr_true rfl ?_ | with_reducible refine abr_false rfl ?_ | with_reducible refine abr_yes rfl ?_ | refine abr_yes (by decide) ?_ | refine abr_no (by decide) ?_ | with_reducible refine abr_same_ne ?_); (conv => whnf))))
    (repeat ((first | refine aload (by (repeat (first | with_reducible exact upd_same _ _ _ | assumption | rw [upd_ne _ _ (by first | assumption | (apply Ne.symm; assumption))]))) rfl ?_ | refine afit_i64 (by omega) ?_ | refine arem_nonneg (by omega) (by omega) ?_ | refine adiv_i64 (by omega) (by omega) ?_ | refine abr_yes (by omega) ?_ | refine abr_no (by omega) ?_ | refine amin ?_ | refine amax ?_ | refine afit_u64 (by omega) ?_ | refine afit_u8 (by omega) ?_ | rw [List.length_map]); ((conv => whnf); (repeat ((first | with_reducible refine abr_true rfl ?_ | with_reducible refine abr_false rfl ?_ | with_reducible refine abr_yes rfl ?_ | refine abr_yes (by decide) ?_ | refine abr_no (by decide) ?_ | with_reducible refine abr_same_ne ?_); (conv => whnf))))))
    rw [@dec_congr ((i : Int) + 1 < (l.length : Int)) (i + 1 < l.length) _ inferInstance (by omega)]
    have hl1 : (bs ++ numBits l[i].1.toNat w.toNat).length ≤ 1716 := by rw [List.length_append, numBits_length]; omega
    refine aapp_in (ys := [boolv (decide (i + 1 < l.length)), boolv l[i].2.1]) o6 s6' (by rw [List.length_map]; show (_ + 2) * 1 ≤ _; omega) fun t7 σ7 x7 s7' o7 => ?_
    have m1 := x7 i1 _ rfl m1
    have m5 := x7 i5 _ rfl m5
    rw [show (bs ++ numBits l[i].1.toNat w.toNat).map boolv ++ [boolv (decide (i + 1 < l.length)), boolv l[i].2.1] = (bs ++ numBits l[i].1.toNat w.toNat ++ [decide (i + 1 < l.length), l[i].2.1]).map boolv by rw [List.map_append (l₂ := [decide (i + 1 < l.length), l[i].2.1])]; rfl]
    have hl2 : (bs ++ numBits l[i].1.toNat w.toNat ++ [decide (i + 1 < l.length), l[i].2.1]).length ≤ 1718 := by rw [List.length_append]; show _ + 2 ≤ _; omega
    ((conv => whnf); (repeat ((first | with_reducible refine abr_true rfl ?_ | with_reducible refine abr_false rfl ?_ | with_reducible refine abr_yes rfl ?_ | refine abr_yes (by decide) ?_ | refine abr_no (by decide) ?_ | with_reducible refine abr_same_ne ?_); (conv => whnf))))
    refine aload m5 rfl ?_
    ((conv => whnf); (repeat ((first | with_reducible refine abr_true rfl ?_ | with_reducible refine abr_false rfl ?_ | with_reducible refine abr_yes rfl ?_ | refine abr_yes (by decide) ?_ | refine abr_no (by decide) ?_ | with_reducible refine abr_same_ne ?_); (conv => whnf))))
    have hmp := missOk_part hm
    have hmb : missBits w (decide (i + 1 < l.length)) l[i] = numBits l[i].1.toNat w.toNat ++ ([decide (i + 1 < l.length)] ++ ([l[i].2.1] ++ if l[i].2.1 = true then numBits l[i].2.2.1.toNat (offW w) ++ numBits (lastV w l[i].2.2.2) (offW w) else [])) := rfl
    generalize hm2 : l[i].2.1 = pt at *
    cases pt
    · ((conv => whnf); (repeat ((first | with_reducible refine abr_true rfl ?_ | with_reducible refine abr_false rfl ?_ | with_reducible refine abr_yes rfl ?_ | refine abr_yes (by decide) ?_ | refine abr_no (by decide) ?_ | with_reducible refine abr_same_ne ?_); (conv => whnf))))
      (repeat ((first | refine aload (by (repeat (first | with_reducible exact upd_same _ _ _ | assumption | rw [upd_ne _ _ (by first | assumption | (apply Ne.symm; assumption))]))) rfl ?_ | refine afit_i64 (by omega) ?_ | refine arem_nonneg (by omega) (by omega) ?_ | refine adiv_i64 (by omega) (by omega) ?_ | refine abr_yes (by omega) ?_ | refine abr_no (by omega) ?_ | refine amin ?_ | refine amax ?_ | refine afit_u64 (by omega) ?_ | refine afit_u8 (by omega) ?_ | rw [List.length_map]); ((conv => whnf); (repeat ((first | with_reducible refine abr_true rfl ?_ | with_reducible refine abr_false rfl ?_ | with_reducible refine abr_yes rfl ?_ | refine abr_yes (by decide) ?_ | refine abr_no (by decide) ?_ | with_reducible refine abr_same_ne ?_); (conv => whnf))))))
      refine ⟨(i + 1, bs ++ numBits l[i].1.toNat w.toNat ++ [decide (i + 1 < l.length), false], .tip t7, σ7), ⟨h, ?_, m1, o7, s7'⟩, by dsimp only; omega, Sub.refl _, ?_⟩
      · rw [← hbs, hmb, if_neg (by decide)]; simp only [List.append_assoc, List.append_nil, List.cons_append, List.nil_append]
      · ((conv => whnf); (repeat ((first | with_reducible refine abr_true rfl ?_ | with_reducible refine abr_false rfl ?_ | with_reducible refine abr_yes rfl ?_ | refine abr_yes (by decide) ?_ | refine abr_no (by decide) ?_ | with_reducible refine abr_same_ne ?_); (conv => whnf))))
        (repeat' first | with_reducible exact EnvLe.refl _ | (refine EnvLe.node ?_ (by first | exact Or.inl rfl | exact Or.inr (Or.inl rfl) | exact Or.inr (Or.inr ⟨nofun, VLe.slice _ _ _⟩)) ?_))
    · obtain ⟨f0, flt, t0, tlt⟩ := hmp rfl
      have hoff := offW_le w
      have off16 : 2 ^ offW w ≤ 65536 := Nat.le_trans (Nat.pow_le_pow_right (n := 2) (by omega) hoff) (by decide)
      have hto6 : 0 ≤ l[i].2.2.2 ∧ l[i].2.2.2 ≤ 65536 := by
        refine ⟨t0, ?_⟩
        unfold lastV at tlt
        split at tlt
        · omega
        · omega
      have hPr : plcs w = 32768 ∨ plcs w = 65536 := by
        by_cases h : w = 10
        · subst h; exact .inl plcs_10
        · exact .inr (plcs_no h)
      rw [hmb, if_pos rfl] at hbs
      ((conv => whnf); (repeat ((first | with_reducible refine abr_true rfl ?_ | with_reducible refine abr_false rfl ?_ | with_reducible refine abr_yes rfl ?_ | refine abr_yes (by decide) ?_ | refine abr_no (by decide) ?_ | with_reducible refine abr_same_ne ?_); (conv => whnf))))
      refine aload m5 rfl ?_
      ((conv => whnf); (repeat ((first | with_reducible refine abr_true rfl ?_ | with_reducible refine abr_false rfl ?_ | with_reducible refine abr_yes rfl ?_ | refine abr_yes (by decide) ?_ | refine abr_no (by decide) ?_ | with_reducible refine abr_same_ne ?_); (conv => whnf))))
      refine afit_i64 (by omega) ?_
      ((conv => whnf); (repeat ((first | with_reducible refine abr_true rfl ?_ | with_reducible refine abr_false rfl ?_ | with_reducible refine abr_yes rfl ?_ | refine abr_yes (by decide) ?_ | refine abr_no (by decide) ?_ | with_reducible refine abr_same_ne ?_); (conv => whnf))))
      refine aload m5 rfl ?_
      ((conv => whnf); (repeat ((first | with_reducible refine abr_true rfl ?_ | with_reducible refine abr_false rfl ?_ | with_reducible refine abr_yes rfl ?_ | refine abr_yes (by decide) ?_ | refine abr_no (by decide) ?_ | with_reducible refine abr_same_ne ?_); (conv => whnf))))
      obtain ⟨LV, hLV⟩ : ∃ LV, LV = lastV w l[i].2.2.2 := ⟨_, rfl⟩
      rw [← hLV] at tlt hbs
      have hlast : (LV : Int) = if l[i].2.2.2 = 0 then plcs w - 1 else l[i].2.2.2 - 1 := by
        rw [hLV]; unfold lastV; split <;> omega
      by_cases hz : l[i].2.2.2 = 0
      case' pos =>
        rw [if_pos hz] at hlast
        refine abr_yes hz ?_
        ((conv => whnf); (repeat ((first | with_reducible refine abr_true rfl ?_ | with_reducible refine abr_false rfl ?_ | with_reducible refine abr_yes rfl ?_ | refine abr_yes (by decide) ?_ | refine abr_no (by decide) ?_ | with_reducible refine abr_same_ne ?_); (conv => whnf))))
        refine acall (refPlaces w _) ?_
        rintro _ σ_ ⟨rfl, e_⟩
        obtain rfl := e_.symm
        refine ⟨?_, Ext.refl _⟩
        ((conv => whnf); (repeat ((first | with_reducible refine abr_true rfl ?_ | with_reducible refine abr_false rfl ?_ | with_reducible refine abr_yes rfl ?_ | refine abr_yes (by decide) ?_ | refine abr_no (by decide) ?_ | with_reducible refine abr_same_ne ?_); (conv => whnf))))
        refine afit_i64 (by omega) ?_
        rw [← hlast]
        ((conv => whnf); (repeat ((first | with_reducible refine abr_true rfl ?_ | with_reducible refine abr_false rfl ?_ | with_reducible refine abr_yes rfl ?_ | refine abr_yes (by decide) ?_ | refine abr_no (by decide) ?_ | with_reducible refine abr_same_ne ?_); (conv => whnf))))
      case' neg =>
        rw [if_neg hz] at hlast
        refine abr_no hz ?_
        rw [← hlast]
        ((conv => whnf); (repeat ((first | with_reducible refine abr_true rfl ?_ | with_reducible refine abr_false rfl ?_ | with_reducible refine abr_yes rfl ?_ | refine abr_yes (by decide) ?_ | refine abr_no (by decide) ?_ | with_reducible refine abr_same_ne ?_); (conv => whnf))))
      all_goals
        refine aload m5 rfl ?_
        ((conv => whnf); (repeat ((first | with_reducible refine abr_true rfl ?_ | with_reducible refine abr_false rfl ?_ | with_reducible refine abr_yes rfl ?_ | refine abr_yes (by decide) ?_ | refine abr_no (by decide) ?_ | with_reducible refine abr_same_ne ?_); (conv => whnf))))
        refine afit_eq (m := ((l[i].2.2.1.toNat : Nat) : Int)) (by rw [Int.toNat_of_nonneg f0]; exact wrap_u64 (by omega) (by omega)) ?_
        ((conv => whnf); (repeat ((first | with_reducible refine abr_true rfl ?_ | with_reducible refine abr_false rfl ?_ | with_reducible refine abr_yes rfl ?_ | refine abr_yes (by decide) ?_ | refine abr_no (by decide) ?_ | with_reducible refine abr_same_ne ?_); (conv => whnf))))
        refine acall (refOffset w _) ?_
        rintro _ σ_ ⟨rfl, e_⟩
        obtain rfl := e_.symm
        refine ⟨?_, Ext.refl _⟩
        ((conv => whnf); (repeat ((first | with_reducible refine abr_true rfl ?_ | with_reducible refine abr_false rfl ?_ | with_reducible refine abr_yes rfl ?_ | refine abr_yes (by decide) ?_ | refine abr_no (by decide) ?_ | with_reducible refine abr_same_ne ?_); (conv => whnf))))
        refine acall (refPutT (bs ++ numBits l[i].1.toNat w.toNat ++ [decide (i + 1 < l.length), true]) (.tip t7) l[i].2.2.1.toNat (offW w) _ σ s7' (by omega) (by omega) (by omega) flt) ?_
        rintro _ σ8 ⟨tk8, rfl, x8, s8', o8⟩
        refine ⟨?_, x8⟩
        have m1 := x8 i1 _ rfl m1
        ((conv => whnf); (repeat ((first | with_reducible refine abr_true rfl ?_ | with_reducible refine abr_false rfl ?_ | with_reducible refine abr_yes rfl ?_ | refine abr_yes (by decide) ?_ | refine abr_no (by decide) ?_ | with_reducible refine abr_same_ne ?_); (conv => whnf))))
        refine afit_eq (m := (LV : Int)) (wrap_u64 (by omega) (by omega)) ?_
        ((conv => whnf); (repeat ((first | with_reducible refine abr_true rfl ?_ | with_reducible refine abr_false rfl ?_ | with_reducible refine abr_yes rfl ?_ | refine abr_yes (by decide) ?_ | refine abr_no (by decide) ?_ | with_reducible refine abr_same_ne ?_); (conv => whnf))))
        refine acall (refOffset w _) ?_
        rintro _ σ_ ⟨rfl, e_⟩
        obtain rfl := e_.symm
        refine ⟨?_, Ext.refl _⟩
        ((conv => whnf); (repeat ((first | with_reducible refine abr_true rfl ?_ | with_reducible refine abr_false rfl ?_ | with_reducible refine abr_yes rfl ?_ | refine abr_yes (by decide) ?_ | refine abr_no (by decide) ?_ | with_reducible refine abr_same_ne ?_); (conv => whnf))))
        have hl3 : (bs ++ numBits l[i].1.toNat w.toNat ++ [decide (i + 1 < l.length), true] ++ numBits l[i].2.2.1.toNat (offW w)).length ≤ 1734 := by rw [List.length_append, numBits_length]; omega
        refine acall (refPutT (bs ++ numBits l[i].1.toNat w.toNat ++ [decide (i + 1 < l.length), true] ++ numBits l[i].2.2.1.toNat (offW w)) tk8 LV (offW w) _ σ s8' (by omega) (by omega) (by omega) tlt) ?_
        rintro _ σ9 ⟨tk9, rfl, x9, s9', o9⟩
        refine ⟨?_, x9⟩
        have m1 := x9 i1 _ rfl m1
        ((conv => whnf); (repeat ((first | with_reducible refine abr_true rfl ?_ | with_reducible refine abr_false rfl ?_ | with_reducible refine abr_yes rfl ?_ | refine abr_yes (by decide) ?_ | refine abr_no (by decide) ?_ | with_reducible refine abr_same_ne ?_); (conv => whnf))))
        (repeat ((first | refine aload (by (repeat (first | with_reducible exact upd_same _ _ _ | assumption | rw [upd_ne _ _ (by first | assumption | (apply Ne.symm; assumption))]))) rfl ?_ | refine afit_i64 (by omega) ?_ | refine arem_nonneg (by omega) (by omega) ?_ | refine adiv_i64 (by omega) (by omega) ?_ | refine abr_yes (by omega) ?_ | refine abr_no (by omega) ?_ | refine amin ?_ | refine amax ?_ | refine afit_u64 (by omega) ?_ | refine afit_u8 (by omega) ?_ | rw [List.length_map]); ((conv => whnf); (repeat ((first | with_reducible refine abr_true rfl ?_ | with_reducible refine abr_false rfl ?_ | with_reducible refine abr_yes rfl ?_ | refine abr_yes (by decide) ?_ | refine abr_no (by decide) ?_ | with_reducible refine abr_same_ne ?_); (conv => whnf))))))
        refine ⟨(i + 1, bs ++ numBits l[i].1.toNat w.toNat ++ [decide (i + 1 < l.length), true] ++ numBits l[i].2.2.1.toNat (offW w) ++ numBits LV (offW w), tk9, σ9), ⟨h, ?_, m1, o9, s9'⟩, by dsimp only; omega, Sub.refl _, ?_⟩
        · dsimp only
          rw [← hbs]; simp only [List.append_assoc, List.cons_append, List.nil_append]
        · ((conv => whnf); (repeat ((first | with_reducible refine abr_true rfl ?_ | with_reducible refine abr_false rfl ?_ | with_reducible refine abr_yes rfl ?_ | refine abr_yes (by decide) ?_ | refine abr_no (by decide) ?_ | with_reducible refine abr_same_ne ?_); (conv => whnf))))
          (repeat' first | with_reducible exact EnvLe.refl _ | (refine EnvLe.node ?_ (by first | exact Or.inl rfl | exact Or.inr (Or.inl rfl) | exact Or.inr (Or.inr ⟨nofun, VLe.slice _ _ _⟩)) ?_))
  · obtain rfl : i = l.length := by omega
    rw [List.drop_length] at hbs
    have hbs : bs = full := by rw [← hbs]; exact (List.append_nil _).symm
    subst hbs
    ((conv => whnf); (repeat ((first | with_reducible refine abr_true rfl ?_ | with_reducible refine abr_false rfl ?_ | with_reducible refine abr_yes rfl ?_ | refine abr_yes (by decide) ?_ | refine abr_no (by decide) ?_ | with_reducible refine abr_same_ne ?_); (conv => whnf))))
    (repeat ((first | refine aload (by (repeat (first | with_reducible exact upd_same _ _ _ | assumption | rw [upd_ne _ _ (by first | assumption | (apply Ne.symm; assumption))]))) rfl ?_ | refine afit_i64 (by omega) ?_ | refine arem_nonneg (by omega) (by omega) ?_ | refine adiv_i64 (by omega) (by omega) ?_ | refine abr_yes (by omega) ?_ | refine abr_no (by omega) ?_ | refine amin ?_ | refine amax ?_ | refine afit_u64 (by omega) ?_ | refine afit_u8 (by omega) ?_ | rw [List.length_map]); ((conv => whnf); (repeat ((first | with_reducible refine abr_true rfl ?_ | with_reducible refine abr_false rfl ?_ | with_reducible refine abr_yes rfl ?_ | refine abr_yes (by decide) ?_ | refine abr_no (by decide) ?_ | with_reducible refine abr_same_ne ?_); (conv => whnf))))))
    refine acall (refBytes bs tk _ (by omega)) ?_
    rintro _ σ_ ⟨rfl, e_⟩
    obtain rfl := e_.symm
    refine ⟨?_, Ext.refl _⟩
    ((conv => whnf); (repeat ((first | with_reducible refine abr_true rfl ?_ | with_reducible refine abr_false rfl ?_ | with_reducible refine abr_yes rfl ?_ | refine abr_yes (by decide) ?_ | refine abr_no (by decide) ?_ | with_reducible refine abr_same_ne ?_); (conv => whnf))))
    exact aret_sl hs3 ⟨rfl, rfl⟩
end Go.Proofs.Ytnfdgccmpglbhaa
/-
  The document's statuses: how many bytes.
-/
namespace Go.Proofs.Ytnfdgccmpglbhaa
set_option linter.unusedVariables false
set_option linter.unusedSimpArgs false
open Go Go.Am

theorem writeSt_length {w : Int} {s : Int × List Ms} (hok : stOk w s = true) : ((pack (stBits w s)).length : Int) = sizeSt w s := by
  obtain ⟨hw, hn, h32, hall⟩ := stOk_parts hok
  have hfl := stBits_length (w := w) (by omega) s
  have hpl := pack_length (stBits w s)
  unfold sizeSt
  rw [if_pos hok]
  omega
set_option maxRecDepth 20000 in
theorem refStSize (s : Int × List Ms) (t : Tok) (w : Int) (σ : AHeap) (hl : s.2.length ≤ 9223372036854775807) : ACalls Try.prog i_bowlineref11_Size [stV t s, i64v w] σ fun v σ' => v = i64v (sizeSt w s) ∧ σ' = σ := by
  obtain ⟨ack, l⟩ := s
  dsimp only at hl
  refine k_bowlineref11_Size rfl ?_
  ((conv => whnf); (repeat ((first | with_reducible refine abr_true rfl ?_ | with_reducible refine abr_false rfl ?_ | with_reducible refine abr_yes rfl ?_ | refine abr_yes (by decide) ?_ | refine abr_no (by decide) ?_ | with_reducible refine abr_same_ne ?_); (conv => whnf))))
  refine anew rfl fun i1 h1 => ?_
  have k1 : upd σ i1 (.cells (stV t (ack, l)).cells) i1 = some (.cells [i64v ack, missV t l]) := upd_same _ _ _
  have hs : Sub (upd σ i1 (.cells (stV t (ack, l)).cells)) σ := Sub.upd_fresh _ h1
  generalize upd σ i1 (.cells (stV t (ack, l)).cells) = τ at *
  ((conv => whnf); (repeat ((first | with_reducible refine abr_true rfl ?_ | with_reducible refine abr_false rfl ?_ | with_reducible refine abr_yes rfl ?_ | refine abr_yes (by decide) ?_ | refine abr_no (by decide) ?_ | with_reducible refine abr_same_ne ?_); (conv => whnf))))
  refine aloads (l := [i64v ack, missV t l]) k1 (by exact Nat.le_refl 2) rfl ?_
  ((conv => whnf); (repeat ((first | with_reducible refine abr_true rfl ?_ | with_reducible refine abr_false rfl ?_ | with_reducible refine abr_yes rfl ?_ | refine abr_yes (by decide) ?_ | refine abr_no (by decide) ?_ | with_reducible refine abr_same_ne ?_); (conv => whnf))))
  refine acall (refStRight (ack, l) t w _ hl) ?_
  rintro _ σ_ ⟨rfl, e_⟩
  obtain rfl := e_.symm
  refine ⟨?_, Ext.refl _⟩
  ((conv => whnf); (repeat ((first | with_reducible refine abr_true rfl ?_ | with_reducible refine abr_false rfl ?_ | with_reducible refine abr_yes rfl ?_ | refine abr_yes (by decide) ?_ | refine abr_no (by decide) ?_ | with_reducible refine abr_same_ne ?_); (conv => whnf))))
  cases hok : stOk w (ack, l)
  · ((conv => whnf); (repeat ((first | with_reducible refine abr_true rfl ?_ | with_reducible refine abr_false rfl ?_ | with_reducible refine abr_yes rfl ?_ | refine abr_yes (by decide) ?_ | refine abr_no (by decide) ?_ | with_reducible refine abr_same_ne ?_); (conv => whnf))))
    exact aret (VLe.refl _) hs ⟨by unfold sizeSt; rw [hok]; rfl, rfl⟩
  ((conv => whnf); (repeat ((first | with_reducible refine abr_true rfl ?_ | with_reducible refine abr_false rfl ?_ | with_reducible refine abr_yes rfl ?_ | refine abr_yes (by decide) ?_ | refine abr_no (by decide) ?_ | with_reducible refine abr_same_ne ?_); (conv => whnf))))
  refine aloads (l := [i64v ack, missV t l]) k1 (by exact Nat.le_refl 2) rfl ?_
  ((conv => whnf); (repeat ((first | with_reducible refine abr_true rfl ?_ | with_reducible refine abr_false rfl ?_ | with_reducible refine abr_yes rfl ?_ | refine abr_yes (by decide) ?_ | refine abr_no (by decide) ?_ | with_reducible refine abr_same_ne ?_); (conv => whnf))))
  refine acall (refStWrite (ack, l) t w _ hok) ?_
  rintro _ σ_ ⟨rfl, e_⟩
  obtain rfl := e_.symm
  refine ⟨?_, Ext.refl _⟩
  ((conv => whnf); (repeat ((first | with_reducible refine abr_true rfl ?_ | with_reducible refine abr_false rfl ?_ | with_reducible refine abr_yes rfl ?_ | refine abr_yes (by decide) ?_ | refine abr_no (by decide) ?_ | with_reducible refine abr_same_ne ?_); (conv => whnf))))
  refine aret (VLe.refl _) hs ⟨?_, rfl⟩
  rw [List.length_map, ← writeSt_length hok]
end Go.Proofs.Ytnfdgccmpglbhaa
/-
  Statuses: reading numbers till one is missing.
-/
namespace Go.Proofs.Ytnfdgccmpglbhaa
set_option linter.unusedVariables false
set_option linter.unusedSimpArgs false
open Go Go.Am

/-- A reader of numbers at an object, with its bits' reader, its place and its error. -/
structure Gr (σ : AHeap) (ig ir : Nat) (b : List UInt8) (k : Nat) (e : Int) : Prop where
  ne : ig ≠ ir
  hk : k ≤ 8 * b.length
  hb : b.length ≤ 8192
  rd : ∃ tk, σ ir = some (.cells [sl tk b, i64v k])
  at_ : σ ig = some (.cells [.ptr ir 0, i64v e])
theorem rd_at {σ : AHeap} {ir : Nat} {b : List UInt8} {k : Nat} {tk : Tok} (h : σ ir = some (.cells [sl tk b, i64v k])) (hk : k ≤ 8 * b.length) (hb : b.length ≤ 8192) : Rd σ ir b k (del σ ir) := by
  refine ⟨del_same _ _, hk, hb, tk, ?_⟩
  funext j
  by_cases e : j = ir
  · subst e; rw [upd_same]; exact h
  · rw [upd_ne _ _ e, del_ne _ e]
def gVal (l : List Bool) (k : Nat) (e n : Int) : Nat := if e = 0 then getVal l k n else 0
def gAt (len k : Nat) (e n : Int) : Nat := if e = 0 then getAt len k n else k
def gCode (len k : Nat) (e n : Int) : Int := if e = 0 then getCode len k n else e
theorem getVal_lt (l : List Bool) (k : Nat) (n : Int) (h : n ≤ 62) : getVal l k n < 2 ^ 62 := by
  unfold getVal
  split
  · refine Nat.lt_of_lt_of_le (val_lt _) (Nat.pow_le_pow_right (by omega) ?_)
    rw [List.length_take]; omega
  · exact Nat.two_pow_pos _
set_option maxRecDepth 20000 in
theorem gGet (ig ir : Nat) (b : List UInt8) (k : Nat) (e n : Int) (σ : AHeap) (h : Gr σ ig ir b k e) (hn : 0 ≤ n ∧ n ≤ 62) :
    ACalls Try.prog i_status_reader_get [.ptr ig 0, i64v n] σ fun v σ' => v = i64v (gVal (unpack b) k e n) ∧ Gr σ' ig ir b (gAt (8 * b.length) k e n) (gCode (8 * b.length) k e n) ∧ ∀ j, j ≠ ig → j ≠ ir → σ' j = σ j := by
  have h0 := h
  obtain ⟨hne, hk, hb, ⟨tk, hrd⟩, hat⟩ := h
  refine k_status_reader_get rfl ?_
  ((conv => whnf); (repeat ((first | with_reducible refine abr_true rfl ?_ | with_reducible refine abr_false rfl ?_ | with_reducible refine abr_yes rfl ?_ | refine abr_yes (by decide) ?_ | refine abr_no (by decide) ?_ | with_reducible refine abr_same_ne ?_); (conv => whnf))))
  refine aload hat rfl ?_
  ((conv => whnf); (repeat ((first | with_reducible refine abr_true rfl ?_ | with_reducible refine abr_false rfl ?_ | with_reducible refine abr_yes rfl ?_ | refine abr_yes (by decide) ?_ | refine abr_no (by decide) ?_ | with_reducible refine abr_same_ne ?_); (conv => whnf))))
  by_cases he : e = 0
  · subst he
    refine abr_no (fun h => h rfl) ?_
    ((conv => whnf); (repeat ((first | with_reducible refine abr_true rfl ?_ | with_reducible refine abr_false rfl ?_ | with_reducible refine abr_yes rfl ?_ | refine abr_yes (by decide) ?_ | refine abr_no (by decide) ?_ | with_reducible refine abr_same_ne ?_); (conv => whnf))))
    refine aload hat rfl ?_
    ((conv => whnf); (repeat ((first | with_reducible refine abr_true rfl ?_ | with_reducible refine abr_false rfl ?_ | with_reducible refine abr_yes rfl ?_ | refine abr_yes (by decide) ?_ | refine abr_no (by decide) ?_ | with_reducible refine abr_same_ne ?_); (conv => whnf))))
    refine acall (rGet ir b k n _ _ (rd_at hrd hk hb)) ?_
    rintro _ σ1 ⟨rfl, r1⟩
    have r1' := r1
    obtain ⟨_, hk1, _, tk1, e1⟩ := r1
    have hat1 : σ1 ig = some (.cells [.ptr ir 0, i64v 0]) := by rw [e1, upd_ne _ _ hne, del_ne _ hne]; exact hat
    have hrd1 : σ1 ir = some (.cells [sl tk1 b, i64v (getAt (8 * b.length) k n)]) := by rw [e1]; exact upd_same _ _ _
    have hfr : ∀ j, j ≠ ir → σ1 j = σ j := fun j hj => by rw [e1, upd_ne _ _ hj, del_ne _ hj]
    have hv := getVal_lt (unpack b) k n hn.2
    have p62 : (2 : Nat) ^ 62 = 4611686018427387904 := by decide
    ((conv => whnf); (repeat ((first | with_reducible refine abr_true rfl ?_ | with_reducible refine abr_false rfl ?_ | with_reducible refine abr_yes rfl ?_ | refine abr_yes (by decide) ?_ | refine abr_no (by decide) ?_ | with_reducible refine abr_same_ne ?_); (conv => whnf))))
    refine astore (xs := [i64v (getCode (8 * b.length) k n)]) (l := [.ptr ir 0, i64v (getCode (8 * b.length) k n)]) hat1 (by exact Nat.le_refl 2) rfl rfl ?_
    ((conv => whnf); (repeat ((first | with_reducible refine abr_true rfl ?_ | with_reducible refine abr_false rfl ?_ | with_reducible refine abr_yes rfl ?_ | refine abr_yes (by decide) ?_ | refine abr_no (by decide) ?_ | with_reducible refine abr_same_ne ?_); (conv => whnf))))
    refine afit_i64 (by omega) ?_
    ((conv => whnf); (repeat ((first | with_reducible refine abr_true rfl ?_ | with_reducible refine abr_false rfl ?_ | with_reducible refine abr_yes rfl ?_ | refine abr_yes (by decide) ?_ | refine abr_no (by decide) ?_ | with_reducible refine abr_same_ne ?_); (conv => whnf))))
    refine aret_same ⟨?_, ⟨hne, ?_, hb, ⟨tk1, ?_⟩, ?_⟩, ?_⟩
    · unfold gVal; rw [if_pos rfl]
    · unfold gAt; rw [if_pos rfl]; exact hk1
    · unfold gAt; rw [if_pos rfl, upd_ne _ _ (Ne.symm hne)]; exact hrd1
    · unfold gCode; rw [if_pos rfl]; exact upd_same _ _ _
    · intro j h1 h2
      rw [upd_ne _ _ h1]; exact hfr j h2
  · refine abr_yes he ?_
    ((conv => whnf); (repeat ((first | with_reducible refine abr_true rfl ?_ | with_reducible refine abr_false rfl ?_ | with_reducible refine abr_yes rfl ?_ | refine abr_yes (by decide) ?_ | refine abr_no (by decide) ?_ | with_reducible refine abr_same_ne ?_); (conv => whnf))))
    refine aret_same ⟨?_, ?_, fun _ _ _ => rfl⟩
    · unfold gVal; rw [if_neg he]; rfl
    · unfold gAt gCode; rw [if_neg he, if_neg he]; exact h0
end Go.Proofs.Ytnfdgccmpglbhaa
/-
  Statuses: reading a miss.
-/
namespace Go.Proofs.Ytnfdgccmpglbhaa
set_option linter.unusedVariables false
set_option linter.unusedSimpArgs false
open Go Go.Am

/-- A place and an error, behind a number. -/
def gNext (len : Nat) (p : Nat × Int) (n : Int) : Nat × Int := (gAt len p.1 p.2 n, gCode len p.1 p.2 n)
def missEnd (w : Int) (l : List Bool) (p : Nat × Int) : Nat × Int :=
  let p3 := gNext l.length (gNext l.length (gNext l.length p w) 1) 1
  if gVal l (gNext l.length (gNext l.length p w) 1).1 (gNext l.length (gNext l.length p w) 1).2 1 = 1 then gNext l.length (gNext l.length p3 (offW w)) (offW w) else p3
def missMore (w : Int) (l : List Bool) (p : Nat × Int) : Bool := decide (gVal l (gNext l.length p w).1 (gNext l.length p w).2 1 = 1)
def missRead (w : Int) (l : List Bool) (p : Nat × Int) : Ms :=
  let p2 := gNext l.length (gNext l.length p w) 1
  let p3 := gNext l.length p2 1
  let p4 := gNext l.length p3 (offW w)
  if gVal l p2.1 p2.2 1 = 1 then ((gVal l p.1 p.2 w : Int), true, (gVal l p3.1 p3.2 (offW w) : Int), (((gVal l p4.1 p4.2 (offW w) + 1) % 2 ^ offW w : Nat) : Int))
  else ((gVal l p.1 p.2 w : Int), false, 0, 0)
theorem and_mask_i64 (x k : Nat) (hx : x < 4611686018427387905) (hk : k ≤ 61) : bitsOp .and .i64 (x : Int) ((2 ^ k - 1 : Nat) : Int) = ((x % 2 ^ k : Nat) : Int) := by
  have h62 : 2 ^ k ≤ 2 ^ 61 := Nat.pow_le_pow_right (by omega) hk
  have h1 : BitVec.ofInt 64 (x : Int) = BitVec.ofNat 64 x := by simp
  have h2 : BitVec.ofInt 64 ((2 ^ k - 1 : Nat) : Int) = BitVec.ofNat 64 (2 ^ k - 1) := BitVec.ofInt_natCast _ _
  show IntKind.i64.wrap ((BitVec.ofInt 64 (x : Int) &&& BitVec.ofInt 64 ((2 ^ k - 1 : Nat) : Int)).toNat) = _
  rw [h1, h2]
  have : (BitVec.ofNat 64 x &&& BitVec.ofNat 64 (2 ^ k - 1)).toNat = x % 2 ^ k := by
    rw [BitVec.toNat_and, BitVec.toNat_ofNat, BitVec.toNat_ofNat, Nat.mod_eq_of_lt (show x < 2 ^ 64 by omega), Nat.mod_eq_of_lt (Nat.lt_of_le_of_lt (Nat.sub_le _ _) (Nat.lt_of_le_of_lt h62 (by decide)))]
    exact Nat.and_two_pow_sub_one_eq_mod x k
  have hlt : x % 2 ^ k < 2 ^ k := Nat.mod_lt _ (Nat.two_pow_pos _)
  rw [this]
  have h3 : x % 2 ^ k < 2 ^ 61 := Nat.lt_of_lt_of_le hlt h62
  have p61 : (2 : Nat) ^ 61 = 2305843009213693952 := by decide
  exact wrap_i64 (by have := Int.natCast_nonneg (x % 2 ^ k); omega) (by omega)
theorem gVal_lt (l : List Bool) (k : Nat) (e n : Int) (h : n ≤ 62) : gVal l k e n < 4611686018427387904 := by
  have := getVal_lt l k n h
  have p62 : (2 : Nat) ^ 62 = 4611686018427387904 := by decide
  unfold gVal; split <;> omega

theorem Gr.upd {σ : AHeap} {ig ir : Nat} {b : List UInt8} {k : Nat} {e : Int} (h : Gr σ ig ir b k e) {j : Nat} (o : AObj) (h1 : j ≠ ig) (h2 : j ≠ ir) : Gr (upd σ j o) ig ir b k e := by
  obtain ⟨tk, hr⟩ := h.rd
  exact ⟨h.ne, h.hk, h.hb, ⟨tk, (upd_ne _ _ (Ne.symm h2)).trans hr⟩, (upd_ne _ _ (Ne.symm h1)).trans h.at_⟩
set_option maxRecDepth 20000 in
theorem tMiss (ig ir : Nat) (b : List UInt8) (p : Nat × Int) (w : Int) (σ : AHeap) (h : Gr σ ig ir b p.1 p.2) (hw : 0 ≤ w ∧ w ≤ 62) :
    ACalls Try.prog i_status_reader_miss [.ptr ig 0, i64v w] σ fun v σ' => v = .tup [msV (missRead w (unpack b) p), boolv (missMore w (unpack b) p)] ∧ Gr σ' ig ir b (missEnd w (unpack b) p).1 (missEnd w (unpack b) p).2 ∧ ∀ j, j ≠ ig → j ≠ ir → σ j ≠ none → σ' j = σ j := by
  have hul := unpack_length b
  have hoff := offW_le w
  refine k_status_reader_miss rfl ?_
  ((conv => whnf); (repeat ((first | with_reducible refine abr_true rfl ?_ | with_reducible refine abr_false rfl ?_ | with_reducible refine abr_yes rfl ?_ | refine abr_yes (by decide) ?_ | refine abr_no (by decide) ?_ | with_reducible refine abr_same_ne ?_); (conv => whnf))))
  refine anew rfl fun i4 h4 => ?_
  have hne := h.ne
  obtain ⟨tk0, hrd⟩ := h.rd
  have n4g : i4 ≠ ig := fun e => by subst e; rw [h.at_] at h4; cases h4
  have n4r : i4 ≠ ir := fun e => by subst e; rw [hrd] at h4; cases h4
  have g0 : Gr (upd σ i4 (.cells [i64v 0, boolv false, i64v 0, i64v 0])) ig ir b p.1 p.2 := ⟨hne, h.hk, h.hb, ⟨tk0, (upd_ne _ _ (Ne.symm n4r)).trans hrd⟩, (upd_ne _ _ (Ne.symm n4g)).trans h.at_⟩
  have f0 : ∀ j, j ≠ ig → j ≠ ir → σ j ≠ none → upd σ i4 (.cells [i64v 0, boolv false, i64v 0, i64v 0]) j = σ j := fun j _ _ h3 => upd_ne _ _ (fun e => h3 (by rw [e]; exact h4))
  have k0 : upd σ i4 (.cells [i64v 0, boolv false, i64v 0, i64v 0]) i4 = some (.cells [i64v 0, boolv false, i64v 0, i64v 0]) := upd_same _ _ _
  generalize upd σ i4 (.cells [i64v 0, boolv false, i64v 0, i64v 0]) = τ0 at *
  ((conv => whnf); (repeat ((first | with_reducible refine abr_true rfl ?_ | with_reducible refine abr_false rfl ?_ | with_reducible refine abr_yes rfl ?_ | refine abr_yes (by decide) ?_ | refine abr_no (by decide) ?_ | with_reducible refine abr_same_ne ?_); (conv => whnf))))
  refine acall (gGet ig ir b p.1 p.2 w _ g0 hw) ?_
  rintro _ τ1 ⟨rfl, g1, e1⟩
  ((conv => whnf); (repeat ((first | with_reducible refine abr_true rfl ?_ | with_reducible refine abr_false rfl ?_ | with_reducible refine abr_yes rfl ?_ | refine abr_yes (by decide) ?_ | refine abr_no (by decide) ?_ | with_reducible refine abr_same_ne ?_); (conv => whnf))))
  have k1 := (e1 i4 n4g n4r).trans k0
  refine astore (xs := [i64v (gVal (unpack b) p.1 p.2 w)]) (l := [i64v (gVal (unpack b) p.1 p.2 w), boolv false, i64v 0, i64v 0]) k1 (by exact Nat.le_of_ble_eq_true rfl) rfl rfl ?_
  have e0 : ∀ j, j ≠ ig → j ≠ ir → σ j ≠ none → τ0 j = σ j := f0
  have c1 : ∀ j, j ≠ i4 → j ≠ ig → j ≠ ir → upd τ1 i4 (.cells [i64v (gVal (unpack b) p.1 p.2 w), boolv false, i64v 0, i64v 0]) j = τ0 j := fun j a b' c => (upd_ne _ _ a).trans (e1 j b' c)
  have k1 : upd τ1 i4 (.cells [i64v (gVal (unpack b) p.1 p.2 w), boolv false, i64v 0, i64v 0]) i4 = some (.cells [i64v (gVal (unpack b) p.1 p.2 w), boolv false, i64v 0, i64v 0]) := upd_same _ _ _
  have g1 := g1.upd (.cells [i64v (gVal (unpack b) p.1 p.2 w), boolv false, i64v 0, i64v 0]) n4g n4r
  generalize upd τ1 i4 (.cells [i64v (gVal (unpack b) p.1 p.2 w), boolv false, i64v 0, i64v 0]) = υ1 at *
  have q1 : gNext (unpack b).length p w = (gAt (8 * b.length) p.1 p.2 w, gCode (8 * b.length) p.1 p.2 w) := by unfold gNext; rw [hul]
  generalize hp1 : gNext (unpack b).length p w = p1 at *
  have g1 : Gr υ1 ig ir b p1.1 p1.2 := by rw [q1]; exact g1
  clear q1
  ((conv => whnf); (repeat ((first | with_reducible refine abr_true rfl ?_ | with_reducible refine abr_false rfl ?_ | with_reducible refine abr_yes rfl ?_ | refine abr_yes (by decide) ?_ | refine abr_no (by decide) ?_ | with_reducible refine abr_same_ne ?_); (conv => whnf))))
  refine acall (gGet ig ir b p1.1 p1.2 1 _ g1 (by omega)) ?_
  rintro _ τ2 ⟨rfl, g2, e2⟩
  have k2 := (e2 i4 n4g n4r).trans k1
  have q2 : gNext (unpack b).length p1 1 = (gAt (8 * b.length) p1.1 p1.2 1, gCode (8 * b.length) p1.1 p1.2 1) := by unfold gNext; rw [hul]
  generalize hp2 : gNext (unpack b).length p1 1 = p2 at *
  have g2 : Gr τ2 ig ir b p2.1 p2.2 := by rw [q2]; exact g2
  clear q2
  ((conv => whnf); (repeat ((first | with_reducible refine abr_true rfl ?_ | with_reducible refine abr_false rfl ?_ | with_reducible refine abr_yes rfl ?_ | refine abr_yes (by decide) ?_ | refine abr_no (by decide) ?_ | with_reducible refine abr_same_ne ?_); (conv => whnf))))
  refine acall (gGet ig ir b p2.1 p2.2 1 _ g2 (by omega)) ?_
  rintro _ τ3 ⟨rfl, g3, e3⟩
  have k3 := (e3 i4 n4g n4r).trans k2
  have q3 : gNext (unpack b).length p2 1 = (gAt (8 * b.length) p2.1 p2.2 1, gCode (8 * b.length) p2.1 p2.2 1) := by unfold gNext; rw [hul]
  generalize hp3 : gNext (unpack b).length p2 1 = p3 at *
  have g3 : Gr τ3 ig ir b p3.1 p3.2 := by rw [q3]; exact g3
  clear q3
  ((conv => whnf); (repeat ((first | with_reducible refine abr_true rfl ?_ | with_reducible refine abr_false rfl ?_ | with_reducible refine abr_yes rfl ?_ | refine abr_yes (by decide) ?_ | refine abr_no (by decide) ?_ | with_reducible refine abr_same_ne ?_); (conv => whnf))))
  rw [@dec_congr ((gVal (unpack b) p2.1 p2.2 1 : Int) = 1) (gVal (unpack b) p2.1 p2.2 1 = 1) _ inferInstance (by omega)]
  have hM : missMore w (unpack b) p = decide (gVal (unpack b) p1.1 p1.2 1 = 1) := by unfold missMore; rw [hp1]
  have hR : missRead w (unpack b) p = if gVal (unpack b) p2.1 p2.2 1 = 1 then ((gVal (unpack b) p.1 p.2 w : Int), true, (gVal (unpack b) p3.1 p3.2 (offW w) : Int), (((gVal (unpack b) (gNext (unpack b).length p3 (offW w)).1 (gNext (unpack b).length p3 (offW w)).2 (offW w) + 1) % 2 ^ offW w : Nat) : Int)) else ((gVal (unpack b) p.1 p.2 w : Int), false, 0, 0) := by
    unfold missRead; simp only [hp1, hp2, hp3]
  have hE : missEnd w (unpack b) p = if gVal (unpack b) p2.1 p2.2 1 = 1 then gNext (unpack b).length (gNext (unpack b).length p3 (offW w)) (offW w) else p3 := by
    unfold missEnd; simp only [hp1, hp2, hp3]
  rw [hM, hR, hE]
  have hw2 := gVal_lt (unpack b) p.1 p.2 w hw.2
  generalize gVal (unpack b) p.1 p.2 w = sn at *
  generalize gVal (unpack b) p1.1 p1.2 1 = mo at *
  generalize gVal (unpack b) p2.1 p2.2 1 = pa at *
  refine astore (xs := [boolv (decide (pa = 1))]) (l := [i64v sn, boolv (decide (pa = 1)), i64v 0, i64v 0]) k3 (by exact Nat.le_of_ble_eq_true rfl) rfl rfl ?_
  have c3 : ∀ j, j ≠ i4 → j ≠ ig → j ≠ ir → upd τ3 i4 (.cells [i64v sn, boolv (decide (pa = 1)), i64v 0, i64v 0]) j = υ1 j := fun j a b' c => (upd_ne _ _ a).trans ((e3 j b' c).trans (e2 j b' c))
  have k3 : upd τ3 i4 (.cells [i64v sn, boolv (decide (pa = 1)), i64v 0, i64v 0]) i4 = some (.cells [i64v sn, boolv (decide (pa = 1)), i64v 0, i64v 0]) := upd_same _ _ _
  have g3 := g3.upd (.cells [i64v sn, boolv (decide (pa = 1)), i64v 0, i64v 0]) n4g n4r
  generalize upd τ3 i4 (.cells [i64v sn, boolv (decide (pa = 1)), i64v 0, i64v 0]) = υ3 at *
  have fin : ∀ j, j ≠ ig → j ≠ ir → σ j ≠ none → j ≠ i4 := fun j _ _ h3 e => h3 (by rw [e]; exact h4)
  have hmo : ∀ (inst : Decidable ((mo : Int) = 1)), AVal.v (Value.bool (@decide _ inst)) = boolv (decide (mo = 1)) := fun inst => congrArg boolv (@dec_congr ((mo : Int) = 1) (mo = 1) inst inferInstance (by omega))
  ((conv => whnf); (repeat ((first | with_reducible refine abr_true rfl ?_ | with_reducible refine abr_false rfl ?_ | with_reducible refine abr_yes rfl ?_ | refine abr_yes (by decide) ?_ | refine abr_no (by decide) ?_ | with_reducible refine abr_same_ne ?_); (conv => whnf))))
  refine aload k3 rfl ?_
  ((conv => whnf); (repeat ((first | with_reducible refine abr_true rfl ?_ | with_reducible refine abr_false rfl ?_ | with_reducible refine abr_yes rfl ?_ | refine abr_yes (by decide) ?_ | refine abr_no (by decide) ?_ | with_reducible refine abr_same_ne ?_); (conv => whnf))))
  by_cases hpa : pa = 1
  · rw [if_pos hpa, if_pos hpa]
    refine abr_true (decide_eq_true hpa) ?_
    ((conv => whnf); (repeat ((first | with_reducible refine abr_true rfl ?_ | with_reducible refine abr_false rfl ?_ | with_reducible refine abr_yes rfl ?_ | refine abr_yes (by decide) ?_ | refine abr_no (by decide) ?_ | with_reducible refine abr_same_ne ?_); (conv => whnf))))
    refine acall (tOff w _) ?_
    rintro _ σ_ ⟨rfl, e_⟩
    obtain rfl := e_.symm
    refine ⟨?_, Ext.refl _⟩
    ((conv => whnf); (repeat ((first | with_reducible refine abr_true rfl ?_ | with_reducible refine abr_false rfl ?_ | with_reducible refine abr_yes rfl ?_ | refine abr_yes (by decide) ?_ | refine abr_no (by decide) ?_ | with_reducible refine abr_same_ne ?_); (conv => whnf))))
    refine acall (gGet ig ir b p3.1 p3.2 (offW w) _ g3 (by omega)) ?_
    rintro _ τ4 ⟨rfl, g4, e4⟩
    have k4 := (e4 i4 n4g n4r).trans k3
    have q4 : gNext (unpack b).length p3 (offW w) = (gAt (8 * b.length) p3.1 p3.2 (offW w), gCode (8 * b.length) p3.1 p3.2 (offW w)) := by unfold gNext; rw [hul]
    generalize hp4 : gNext (unpack b).length p3 (offW w) = p4 at *
    have g4 : Gr τ4 ig ir b p4.1 p4.2 := by rw [q4]; exact g4
    clear q4
    generalize gVal (unpack b) p3.1 p3.2 (offW w) = fr at *
    ((conv => whnf); (repeat ((first | with_reducible refine abr_true rfl ?_ | with_reducible refine abr_false rfl ?_ | with_reducible refine abr_yes rfl ?_ | refine abr_yes (by decide) ?_ | refine abr_no (by decide) ?_ | with_reducible refine abr_same_ne ?_); (conv => whnf))))
    refine astore (xs := [i64v fr]) (l := [i64v sn, boolv (decide (pa = 1)), i64v fr, i64v 0]) k4 (by exact Nat.le_of_ble_eq_true rfl) rfl rfl ?_
    have c4 : ∀ j, j ≠ i4 → j ≠ ig → j ≠ ir → upd τ4 i4 (.cells [i64v sn, boolv (decide (pa = 1)), i64v fr, i64v 0]) j = υ3 j := fun j a b' c => (upd_ne _ _ a).trans (e4 j b' c)
    have k4 : upd τ4 i4 (.cells [i64v sn, boolv (decide (pa = 1)), i64v fr, i64v 0]) i4 = some (.cells [i64v sn, boolv (decide (pa = 1)), i64v fr, i64v 0]) := upd_same _ _ _
    have g4 := g4.upd (.cells [i64v sn, boolv (decide (pa = 1)), i64v fr, i64v 0]) n4g n4r
    generalize upd τ4 i4 (.cells [i64v sn, boolv (decide (pa = 1)), i64v fr, i64v 0]) = υ4 at *
    ((conv => whnf); (repeat ((first | with_reducible refine abr_true rfl ?_ | with_reducible refine abr_false rfl ?_ | with_reducible refine abr_yes rfl ?_ | refine abr_yes (by decide) ?_ | refine abr_no (by decide) ?_ | with_reducible refine abr_same_ne ?_); (conv => whnf))))
    refine ashl_eq (by omega) (shl1_nat (by omega)) ?_
    ((conv => whnf); (repeat ((first | with_reducible refine abr_true rfl ?_ | with_reducible refine abr_false rfl ?_ | with_reducible refine abr_yes rfl ?_ | refine abr_yes (by decide) ?_ | refine abr_no (by decide) ?_ | with_reducible refine abr_same_ne ?_); (conv => whnf))))
    have h16 : 2 ^ offW w ≤ 65536 := Nat.le_trans (Nat.pow_le_pow_right (n := 2) (by omega) hoff) (by decide)
    have hpow : ((2 ^ offW w : Nat) : Int) - 1 = ((2 ^ offW w - 1 : Nat) : Int) := by have := Nat.two_pow_pos (offW w); omega
    rw [hpow]
    refine afit_i64 (by omega) ?_
    ((conv => whnf); (repeat ((first | with_reducible refine abr_true rfl ?_ | with_reducible refine abr_false rfl ?_ | with_reducible refine abr_yes rfl ?_ | refine abr_yes (by decide) ?_ | refine abr_no (by decide) ?_ | with_reducible refine abr_same_ne ?_); (conv => whnf))))
    refine acall (gGet ig ir b p4.1 p4.2 (offW w) _ g4 (by omega)) ?_
    rintro _ τ5 ⟨rfl, g5, e5⟩
    have k5 := (e5 i4 n4g n4r).trans k4
    have q5 : gNext (unpack b).length p4 (offW w) = (gAt (8 * b.length) p4.1 p4.2 (offW w), gCode (8 * b.length) p4.1 p4.2 (offW w)) := by unfold gNext; rw [hul]
    generalize hp5 : gNext (unpack b).length p4 (offW w) = p5 at *
    have g5 : Gr τ5 ig ir b p5.1 p5.2 := by rw [q5]; exact g5
    clear q5
    have hl5 := gVal_lt (unpack b) p4.1 p4.2 (offW w) (by omega)
    generalize gVal (unpack b) p4.1 p4.2 (offW w) = la at *
    ((conv => whnf); (repeat ((first | with_reducible refine abr_true rfl ?_ | with_reducible refine abr_false rfl ?_ | with_reducible refine abr_yes rfl ?_ | refine abr_yes (by decide) ?_ | refine abr_no (by decide) ?_ | with_reducible refine abr_same_ne ?_); (conv => whnf))))
    refine afit_i64 (by omega) ?_
    rw [show ((la : Int) + 1) = ((la + 1 : Nat) : Int) by omega]
    ((conv => whnf); (repeat ((first | with_reducible refine abr_true rfl ?_ | with_reducible refine abr_false rfl ?_ | with_reducible refine abr_yes rfl ?_ | refine abr_yes (by decide) ?_ | refine abr_no (by decide) ?_ | with_reducible refine abr_same_ne ?_); (conv => whnf))))
    refine abits_eq (and_mask_i64 (la + 1) (offW w) (by omega) (by omega)) ?_
    ((conv => whnf); (repeat ((first | with_reducible refine abr_true rfl ?_ | with_reducible refine abr_false rfl ?_ | with_reducible refine abr_yes rfl ?_ | refine abr_yes (by decide) ?_ | refine abr_no (by decide) ?_ | with_reducible refine abr_same_ne ?_); (conv => whnf))))
    generalize (la + 1) % 2 ^ offW w = to at *
    refine astore (xs := [i64v to]) (l := [i64v sn, boolv (decide (pa = 1)), i64v fr, i64v to]) k5 (by exact Nat.le_of_ble_eq_true rfl) rfl rfl ?_
    ((conv => whnf); (repeat ((first | with_reducible refine abr_true rfl ?_ | with_reducible refine abr_false rfl ?_ | with_reducible refine abr_yes rfl ?_ | refine abr_yes (by decide) ?_ | refine abr_no (by decide) ?_ | with_reducible refine abr_same_ne ?_); (conv => whnf))))
    refine aloads (l := [i64v sn, boolv (decide (pa = 1)), i64v fr, i64v to]) (upd_same _ _ _) (by exact Nat.le_refl 4) rfl ?_
    ((conv => whnf); (repeat ((first | with_reducible refine abr_true rfl ?_ | with_reducible refine abr_false rfl ?_ | with_reducible refine abr_yes rfl ?_ | refine abr_yes (by decide) ?_ | refine abr_no (by decide) ?_ | with_reducible refine abr_same_ne ?_); (conv => whnf))))
    refine astore (xs := [i64v sn, boolv (decide (pa = 1)), i64v fr, i64v to]) (l := [i64v sn, boolv (decide (pa = 1)), i64v fr, i64v to]) (upd_same _ _ _) (by exact Nat.le_refl 4) rfl rfl ?_
    rw [upd_upd]
    ((conv => whnf); (repeat ((first | with_reducible refine abr_true rfl ?_ | with_reducible refine abr_false rfl ?_ | with_reducible refine abr_yes rfl ?_ | refine abr_yes (by decide) ?_ | refine abr_no (by decide) ?_ | with_reducible refine abr_same_ne ?_); (conv => whnf))))
    refine aloads (l := [i64v sn, boolv (decide (pa = 1)), i64v fr, i64v to]) (upd_same _ _ _) (by exact Nat.le_refl 4) rfl ?_
    ((conv => whnf); (repeat ((first | with_reducible refine abr_true rfl ?_ | with_reducible refine abr_false rfl ?_ | with_reducible refine abr_yes rfl ?_ | refine abr_yes (by decide) ?_ | refine abr_no (by decide) ?_ | with_reducible refine abr_same_ne ?_); (conv => whnf))))
    refine aret_same ⟨?_, g5.upd _ n4g n4r, fun j a b' c => ?_⟩
    · rw [hmo, decide_eq_true hpa]
    · have hj := fin j a b' c
      rw [upd_ne _ _ hj, e5 j a b', c4 j hj a b', c3 j hj a b', c1 j hj a b', e0 j a b' c]
  · rw [if_neg hpa, if_neg hpa]
    refine abr_false (decide_eq_false hpa) ?_
    ((conv => whnf); (repeat ((first | with_reducible refine abr_true rfl ?_ | with_reducible refine abr_false rfl ?_ | with_reducible refine abr_yes rfl ?_ | refine abr_yes (by decide) ?_ | refine abr_no (by decide) ?_ | with_reducible refine abr_same_ne ?_); (conv => whnf))))
    refine aloads (l := [i64v sn, boolv (decide (pa = 1)), i64v 0, i64v 0]) k3 (by exact Nat.le_refl 4) rfl ?_
    ((conv => whnf); (repeat ((first | with_reducible refine abr_true rfl ?_ | with_reducible refine abr_false rfl ?_ | with_reducible refine abr_yes rfl ?_ | refine abr_yes (by decide) ?_ | refine abr_no (by decide) ?_ | with_reducible refine abr_same_ne ?_); (conv => whnf))))
    refine astore (xs := [i64v sn, boolv (decide (pa = 1)), i64v 0, i64v 0]) (l := [i64v sn, boolv (decide (pa = 1)), i64v 0, i64v 0]) k3 (by exact Nat.le_refl 4) rfl rfl ?_
    ((conv => whnf); (repeat ((first | with_reducible refine abr_true rfl ?_ | with_reducible refine abr_false rfl ?_ | with_reducible refine abr_yes rfl ?_ | refine abr_yes (by decide) ?_ | refine abr_no (by decide) ?_ | with_reducible refine abr_same_ne ?_); (conv => whnf))))
    refine aloads (l := [i64v sn, boolv (decide (pa = 1)), i64v 0, i64v 0]) (upd_same _ _ _) (by exact Nat.le_refl 4) rfl ?_
    ((conv => whnf); (repeat ((first | with_reducible refine abr_true rfl ?_ | with_reducible refine abr_false rfl ?_ | with_reducible refine abr_yes rfl ?_ | refine abr_yes (by decide) ?_ | refine abr_no (by decide) ?_ | with_reducible refine abr_same_ne ?_); (conv => whnf))))
    refine aret_same ⟨?_, g3.upd _ n4g n4r, fun j a b' c => ?_⟩
    · rw [hmo, decide_eq_false hpa]
    · have hj := fin j a b' c
      rw [upd_ne _ _ hj, c3 j hj a b', c1 j hj a b', e0 j a b' c]
end Go.Proofs.Ytnfdgccmpglbhaa
