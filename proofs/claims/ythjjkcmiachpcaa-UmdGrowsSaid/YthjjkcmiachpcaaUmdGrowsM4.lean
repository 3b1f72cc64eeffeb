/-
  Texts of this claim, part 5: Irref09, Crefumd, Crefumdb, Irbytes, Irlaw09, Claw09a, Claw09b, Claw09c, Claw09d, Ctok.
-/
import Derived.Test.YthjjkcmiachpcaaUmdGrowsM3
/-
  The bodies of one package, compiled to the framework's language (printed by a program of this session).
-/
namespace Go.Proofs.Ythjjkcmiachpcaa
set_option linter.unusedVariables false
set_option linter.unusedSimpArgs false
open Go Go.Am
/- bowlineref09.Read -/
def c9 : Cfg := ⟨qs, [], 92, []⟩
def ir9 : IFun := ⟨2, [.cell s4 (some 3), .tmp s5],
  (.seq (.reg (.one ⟨some s4, none, (.new [(.v (.int .i64 0)), (.v (.int .i64 0)), (.slice 1 [] .full)])⟩
    (.one ⟨some s5, none, (.mv (.c (.v (.int .i64 0))))⟩
    .done)))
  (.seq (.seq (.reg (.one ⟨some s17, none, (.mv (.t s1))⟩
    (.one ⟨some s18, none, (.bin false .neq (.t s17) (.c (.v (.int .i64 5))))⟩
    (.one ⟨some s19, none, (.mv (.t s18))⟩
    (.one ⟨some s20, some (s19, true), (.mv (.t s1))⟩
    (.one ⟨some s21, some (s19, true), (.bin false .neq (.t s20) (.c (.v (.int .i64 10))))⟩
    (.one ⟨some s22, none, (.pick (.t s19) (.t s21) (.c (.v (.bool false))))⟩
    .done)))))))
  (.cond (.t s22) (.seq (.reg (.one ⟨some s23, none, (.build [(.v (.int .i64 0)), (.v (.int .i64 0)), (.slice 1 [] .full)] [])⟩
    (.one ⟨none, none, (.store 3 (.t s4) (.t s23))⟩
    (.one ⟨some s5, none, (.mv (.c (.v (.int .i64 9))))⟩
    .done))))
  .ret) .skip))
  (.seq (.seq (.reg (.one ⟨some s24, none, (.mv (.t s0))⟩
    (.one ⟨some s25, none, (.len false (.t s24))⟩
    (.one ⟨some s26, none, (.bin false .gtr (.t s25) (.c (.v (.int .i64 4000))))⟩
    .done))))
  (.cond (.t s26) (.seq (.reg (.one ⟨some s27, none, (.build [(.v (.int .i64 0)), (.v (.int .i64 0)), (.slice 1 [] .full)] [])⟩
    (.one ⟨none, none, (.store 3 (.t s4) (.t s27))⟩
    (.one ⟨some s5, none, (.mv (.c (.v (.int .i64 2))))⟩
    .done))))
  .ret) .skip))
  (.seq (.seq (.reg (.one ⟨some s28, none, (.mv (.t s0))⟩
    (.one ⟨some s29, none, (.len false (.t s28))⟩
    (.one ⟨some s30, none, (.mv (.t s1))⟩
    (.one ⟨some s31, none, (.bin false .quo (.t s30) (.c (.v (.int .i64 5))))⟩
    (.one ⟨some s32, none, (.bin false .lss (.t s29) (.t s31))⟩
    .done))))))
  (.cond (.t s32) (.seq (.reg (.one ⟨some s33, none, (.build [(.v (.int .i64 0)), (.v (.int .i64 0)), (.slice 1 [] .full)] [])⟩
    (.one ⟨none, none, (.store 3 (.t s4) (.t s33))⟩
    (.one ⟨some s5, none, (.mv (.c (.v (.int .i64 8))))⟩
    .done))))
  .ret) .skip))
  (.seq (.reg (.one ⟨some s34, none, (.mv (.t s0))⟩
    (.one ⟨some s35, none, (.mv (.t s1))⟩
    (.one ⟨some s36, none, (.bin false .quo (.t s35) (.c (.v (.int .i64 5))))⟩
    (.one ⟨some s37, none, (.cut 1 (.t s34) none (some (.t s36)) none)⟩
    (.one ⟨some s38, none, (.callq 25 [(.t s37)])⟩
    (.one ⟨some s6, none, (.mv (.t s38))⟩
    .done)))))))
  (.seq (.reg (.one ⟨some s7, none, (.mv (.c (.v (.int .i64 0))))⟩
    .done))
  (.seq (.seq (.reg (.one ⟨some s8, none, (.mv (.c (.v (.int .i64 0))))⟩
    .done))
  (.block 0 (.loop (.seq (.seq (.reg (.one ⟨some s39, none, (.mv (.t s8))⟩
    (.one ⟨some s40, none, (.bin false .lss (.t s39) (.c (.v (.int .i64 3))))⟩
    (.one ⟨some s41, none, (.mv (.t s40))⟩
    (.one ⟨some s42, some (s41, true), (.mv (.t s1))⟩
    (.one ⟨some s43, some (s41, true), (.bin false .eql (.t s42) (.c (.v (.int .i64 10))))⟩
    (.one ⟨some s44, none, (.pick (.t s41) (.t s43) (.c (.v (.bool false))))⟩
    .done)))))))
  (.cond (.t s44) .skip (.exit 0)))
  (.seq (.block 1 (.seq (.seq (.reg (.one ⟨some s47, none, (.mv (.t s6))⟩
    (.one ⟨some s48, none, (.mv (.t s8))⟩
    (.one ⟨some s49, none, (.iaddr 1 (.t s47) (.t s48))⟩
    (.one ⟨some s50, none, (.load none (.t s49))⟩
    .done)))))
  (.cond (.t s50) (.seq (.reg (.one ⟨some s51, none, (.build [(.v (.int .i64 0)), (.v (.int .i64 0)), (.slice 1 [] .full)] [])⟩
    (.one ⟨none, none, (.store 3 (.t s4) (.t s51))⟩
    (.one ⟨some s5, none, (.mv (.c (.v (.int .i64 3))))⟩
    .done))))
  .ret) .skip))
  (.reg (.one ⟨some s7, none, (.mv (.c (.v (.int .i64 3))))⟩
    .done))))
  (.reg (.one ⟨some s45, none, (.mv (.t s8))⟩
    (.one ⟨some s46, none, (.bin false .add (.t s45) (.c (.v (.int .i64 1))))⟩
    (.one ⟨some s8, none, (.mv (.t s46))⟩
    .done)))))))))
  (.seq (.reg (.one ⟨some s53, none, (.mv (.t s6))⟩
    (.one ⟨some s54, none, (.mv (.t s7))⟩
    (.one ⟨some s55, none, (.callq 26 [(.t s53), (.t s54), (.c (.v (.int .i64 2)))])⟩
    (.one ⟨some s52, none, (.mv (.t s55))⟩
    (.one ⟨some s56, none, (.ext (.t s52) 0)⟩
    (.one ⟨some s57, none, (.ext (.t s52) 1)⟩
    (.one ⟨some s58, none, (.ext (.t s52) 2)⟩
    (.one ⟨some s9, none, (.mv (.t s56))⟩
    (.one ⟨some s7, none, (.mv (.t s57))⟩
    (.one ⟨some s10, none, (.mv (.t s58))⟩
    .done)))))))))))
  (.seq (.reg (.one ⟨some s59, none, (.mv (.t s6))⟩
    (.one ⟨some s60, none, (.mv (.t s7))⟩
    (.one ⟨some s61, none, (.iaddr 1 (.t s59) (.t s60))⟩
    (.one ⟨some s62, none, (.load none (.t s61))⟩
    (.one ⟨some s11, none, (.mv (.t s62))⟩
    .done))))))
  (.seq (.reg (.one ⟨some s64, none, (.mv (.t s6))⟩
    (.one ⟨some s65, none, (.mv (.t s7))⟩
    (.one ⟨some s66, none, (.bin false .add (.t s65) (.c (.v (.int .i64 1))))⟩
    (.one ⟨some s67, none, (.mv (.t s1))⟩
    (.one ⟨some s68, none, (.callq 26 [(.t s64), (.t s66), (.t s67)])⟩
    (.one ⟨some s63, none, (.mv (.t s68))⟩
    (.one ⟨some s69, none, (.ext (.t s63) 0)⟩
    (.one ⟨some s70, none, (.ext (.t s63) 1)⟩
    (.one ⟨some s71, none, (.ext (.t s63) 2)⟩
    (.one ⟨some s12, none, (.mv (.t s69))⟩
    (.one ⟨some s13, none, (.mv (.t s70))⟩
    (.one ⟨some s14, none, (.mv (.t s71))⟩
    .done)))))))))))))
  (.seq (.reg (.one ⟨some s73, none, (.mv (.t s0))⟩
    (.one ⟨some s74, none, (.mv (.t s1))⟩
    (.one ⟨some s75, none, (.bin false .quo (.t s74) (.c (.v (.int .i64 5))))⟩
    (.one ⟨some s76, none, (.cut 1 (.t s73) (some (.t s75)) none none)⟩
    (.one ⟨some s77, none, (.mv (.t s11))⟩
    (.one ⟨some s78, none, (.callq 27 [(.t s76), (.t s77), (.c (.v (.int .i64 11)))])⟩
    (.one ⟨some s72, none, (.mv (.t s78))⟩
    (.one ⟨some s79, none, (.ext (.t s72) 0)⟩
    (.one ⟨some s80, none, (.ext (.t s72) 1)⟩
    (.one ⟨some s15, none, (.mv (.t s79))⟩
    (.one ⟨some s16, none, (.mv (.t s80))⟩
    .done))))))))))))
  (.seq (.seq (.reg (.one ⟨some s81, none, (.mv (.t s16))⟩
    (.one ⟨some s82, none, (.bin false .neq (.t s81) (.c (.v (.int .i64 0))))⟩
    .done)))
  (.cond (.t s82) (.seq (.reg (.one ⟨some s83, none, (.build [(.v (.int .i64 0)), (.v (.int .i64 0)), (.slice 1 [] .full)] [])⟩
    (.one ⟨some s84, none, (.mv (.t s16))⟩
    (.one ⟨none, none, (.store 3 (.t s4) (.t s83))⟩
    (.one ⟨some s5, none, (.mv (.t s84))⟩
    .done)))))
  .ret) .skip))
  (.seq (.reg (.one ⟨some s85, none, (.mv (.t s9))⟩
    (.one ⟨some s86, none, (.conv .i64 (.t s85))⟩
    (.one ⟨some s87, none, (.mv (.t s12))⟩
    (.one ⟨some s88, none, (.conv .i64 (.t s87))⟩
    (.one ⟨some s89, none, (.mv (.t s15))⟩
    (.one ⟨some s90, none, (.build [(.v (.int .i64 0)), (.v (.int .i64 0)), (.slice 1 [] .full)] [(0, 1, (.t s86)), (1, 1, (.t s88)), (2, 1, (.t s89))])⟩
    (.one ⟨some s91, none, (.mv (.t s16))⟩
    (.one ⟨none, none, (.store 3 (.t s4) (.t s90))⟩
    (.one ⟨some s5, none, (.mv (.t s91))⟩
    .done))))))))))
  .ret)))))))))))))⟩
theorem ok9 : compF Try.prog c9 Try.f9 = some ir9 := by kernel_rfl
theorem k_bowlineref09_Read {args : List AVal} {σ : AHeap} {Q : AVal → AHeap → Prop} (hl : Nat.ble args.length 92 = true) (h : argsK (Env.full 9) 0 args fun env => evC Try.prog c9 ir9.body env σ (retQ ir9 Q)) : ACalls Try.prog 9 args σ Q :=
  acalls_of Try.func9 ok9 rfl (Nat.le_of_ble_eq_true hl) h
/- bowlineref09.Same -/
def c10 : Cfg := ⟨qs, [], 24, []⟩
def ir10 : IFun := ⟨2, [.tmp s4],
  (.seq (.reg (.one ⟨some s2, none, (.box 3 (.t s0))⟩
    (.one ⟨some s3, none, (.box 3 (.t s1))⟩
    (.one ⟨some s4, none, (.mv (.c (.v (.bool false))))⟩
    .done))))
  (.seq (.reg (.one ⟨some s5, none, (.faddr 0 (.t s2))⟩
    (.one ⟨some s6, none, (.load none (.t s5))⟩
    (.one ⟨some s7, none, (.faddr 0 (.t s3))⟩
    (.one ⟨some s8, none, (.load none (.t s7))⟩
    (.one ⟨some s9, none, (.bin false .eql (.t s6) (.t s8))⟩
    (.one ⟨some s10, none, (.mv (.t s9))⟩
    (.one ⟨some s11, some (s10, true), (.faddr 1 (.t s2))⟩
    (.one ⟨some s12, some (s10, true), (.load none (.t s11))⟩
    (.one ⟨some s13, some (s10, true), (.faddr 1 (.t s3))⟩
    (.one ⟨some s14, some (s10, true), (.load none (.t s13))⟩
    (.one ⟨some s15, some (s10, true), (.bin false .eql (.t s12) (.t s14))⟩
    (.one ⟨some s16, none, (.pick (.t s10) (.t s15) (.c (.v (.bool false))))⟩
    (.one ⟨some s17, none, (.mv (.t s16))⟩
    (.one ⟨some s18, some (s17, true), (.faddr 2 (.t s2))⟩
    (.one ⟨some s19, some (s17, true), (.load none (.t s18))⟩
    (.one ⟨some s20, some (s17, true), (.faddr 2 (.t s3))⟩
    (.one ⟨some s21, some (s17, true), (.load none (.t s20))⟩
    (.one ⟨some s22, some (s17, true), (.callq 28 [(.t s19), (.t s21)])⟩
    (.one ⟨some s23, none, (.pick (.t s17) (.t s22) (.c (.v (.bool false))))⟩
    (.one ⟨some s4, none, (.mv (.t s23))⟩
    .done)))))))))))))))))))))
  .ret))⟩
theorem ok10 : compF Try.prog c10 Try.f10 = some ir10 := by kernel_rfl
theorem k_bowlineref09_Same {args : List AVal} {σ : AHeap} {Q : AVal → AHeap → Prop} (hl : Nat.ble args.length 24 = true) (h : argsK (Env.full 9) 0 args fun env => evC Try.prog c10 ir10.body env σ (retQ ir10 Q)) : ACalls Try.prog 10 args σ Q :=
  acalls_of Try.func10 ok10 rfl (Nat.le_of_ble_eq_true hl) h
/- bowlineref09.Size -/
def c16 : Cfg := ⟨qs, [], 33, []⟩
def ir16 : IFun := ⟨2, [.tmp s4],
  (.seq (.reg (.one ⟨some s2, none, (.box 3 (.t s0))⟩
    (.one ⟨some s4, none, (.mv (.c (.v (.int .i64 0))))⟩
    .done)))
  (.seq (.seq (.reg (.one ⟨some s5, none, (.mv (.t s1))⟩
    (.one ⟨some s6, none, (.bin false .neq (.t s5) (.c (.v (.int .i64 5))))⟩
    (.one ⟨some s7, none, (.mv (.t s6))⟩
    (.one ⟨some s8, some (s7, true), (.mv (.t s1))⟩
    (.one ⟨some s9, some (s7, true), (.bin false .neq (.t s8) (.c (.v (.int .i64 10))))⟩
    (.one ⟨some s10, none, (.pick (.t s7) (.t s9) (.c (.v (.bool false))))⟩
    (.one ⟨some s11, none, (.mv (.t s10))⟩
    (.one ⟨some s12, some (s11, false), (.faddr 0 (.t s2))⟩
    (.one ⟨some s13, some (s11, false), (.load none (.t s12))⟩
    (.one ⟨some s14, some (s11, false), (.bin false .lss (.t s13) (.c (.v (.int .i64 0))))⟩
    (.one ⟨some s15, none, (.pick (.t s11) (.c (.v (.bool true))) (.t s14))⟩
    (.one ⟨some s16, none, (.mv (.t s15))⟩
    (.one ⟨some s17, some (s16, false), (.faddr 0 (.t s2))⟩
    (.one ⟨some s18, some (s16, false), (.load none (.t s17))⟩
    (.one ⟨some s19, some (s16, false), (.bin false .gtr (.t s18) (.c (.v (.int .i64 3))))⟩
    (.one ⟨some s20, none, (.pick (.t s16) (.c (.v (.bool true))) (.t s19))⟩
    (.one ⟨some s21, none, (.mv (.t s20))⟩
    (.one ⟨some s22, some (s21, false), (.mv (.t s1))⟩
    (.one ⟨some s23, some (s21, false), (.faddr 1 (.t s2))⟩
    (.one ⟨some s24, some (s21, false), (.load none (.t s23))⟩
    (.one ⟨some s25, some (s21, false), (.callq 37 [(.t s22), (.t s24)])⟩
    (.one ⟨some s26, some (s21, false), (.not (.t s25))⟩
    (.one ⟨some s27, none, (.pick (.t s21) (.c (.v (.bool true))) (.t s26))⟩
    .done))))))))))))))))))))))))
  (.cond (.t s27) (.seq (.reg (.one ⟨some s4, none, (.mv (.c (.v (.int .i64 0))))⟩
    .done))
  .ret) .skip))
  (.seq (.reg (.one ⟨some s28, none, (.faddr 2 (.t s2))⟩
    (.one ⟨some s29, none, (.load none (.t s28))⟩
    (.one ⟨some s30, none, (.mv (.t s1))⟩
    (.one ⟨some s31, none, (.bin false .quo (.t s30) (.c (.v (.int .i64 5))))⟩
    (.one ⟨some s32, none, (.callq 38 [(.t s29), (.t s31), (.c (.v (.int .i64 11)))])⟩
    (.one ⟨some s4, none, (.mv (.t s32))⟩
    .done)))))))
  .ret)))⟩
theorem ok16 : compF Try.prog c16 Try.f16 = some ir16 := by kernel_rfl
theorem k_bowlineref09_Size {args : List AVal} {σ : AHeap} {Q : AVal → AHeap → Prop} (hl : Nat.ble args.length 33 = true) (h : argsK (Env.full 9) 0 args fun env => evC Try.prog c16 ir16.body env σ (retQ ir16 Q)) : ACalls Try.prog 16 args σ Q :=
  acalls_of Try.func16 ok16 rfl (Nat.le_of_ble_eq_true hl) h
/- bowlineref09.Write -/
def c18 : Cfg := ⟨qs, [], 38, []⟩
def ir18 : IFun := ⟨2, [.tmp s4],
  (.seq (.reg (.one ⟨some s2, none, (.box 3 (.t s0))⟩
    (.one ⟨some s4, none, (.mv (.c (.slice 1 [] .full)))⟩
    .done)))
  (.seq (.reg (.one ⟨some s5, none, (.mv (.c (.slice 1 [] .full)))⟩
    .done))
  (.seq (.seq (.reg (.one ⟨some s6, none, (.mv (.t s1))⟩
    (.one ⟨some s7, none, (.bin false .eql (.t s6) (.c (.v (.int .i64 10))))⟩
    .done)))
  (.cond (.t s7) (.reg (.one ⟨some s8, none, (.row 1 [(.c (.v (.bool false))), (.c (.v (.bool false))), (.c (.v (.bool false)))])⟩
    (.one ⟨some s5, none, (.mv (.t s8))⟩
    .done))) .skip))
  (.seq (.reg (.one ⟨some s10, none, (.mv (.t s5))⟩
    (.one ⟨some s11, none, (.faddr 0 (.t s2))⟩
    (.one ⟨some s12, none, (.load none (.t s11))⟩
    (.one ⟨some s13, none, (.conv .u64 (.t s12))⟩
    (.one ⟨some s14, none, (.callq 41 [(.t s10), (.t s13), (.c (.v (.int .i64 2)))])⟩
    (.one ⟨some s9, none, (.mv (.t s14))⟩
    (.one ⟨some s15, none, (.ext (.t s9) 0)⟩
    (.one ⟨some s16, none, (.ext (.t s9) 1)⟩
    (.one ⟨some s5, none, (.mv (.t s15))⟩
    .done))))))))))
  (.seq (.reg (.one ⟨some s17, none, (.mv (.t s5))⟩
    (.one ⟨some s18, none, (.faddr 2 (.t s2))⟩
    (.one ⟨some s19, none, (.load none (.t s18))⟩
    (.one ⟨some s20, none, (.len false (.t s19))⟩
    (.one ⟨some s21, none, (.bin false .gtr (.t s20) (.c (.v (.int .i64 1))))⟩
    (.one ⟨some s22, none, (.row 1 [(.t s21)])⟩
    (.one ⟨some s23, none, (.app 1 1 (.t s17) (.t s22))⟩
    (.one ⟨some s5, none, (.mv (.t s23))⟩
    .done)))))))))
  (.seq (.reg (.one ⟨some s25, none, (.mv (.t s5))⟩
    (.one ⟨some s26, none, (.faddr 1 (.t s2))⟩
    (.one ⟨some s27, none, (.load none (.t s26))⟩
    (.one ⟨some s28, none, (.conv .u64 (.t s27))⟩
    (.one ⟨some s29, none, (.mv (.t s1))⟩
    (.one ⟨some s30, none, (.callq 41 [(.t s25), (.t s28), (.t s29)])⟩
    (.one ⟨some s24, none, (.mv (.t s30))⟩
    (.one ⟨some s31, none, (.ext (.t s24) 0)⟩
    (.one ⟨some s32, none, (.ext (.t s24) 1)⟩
    (.one ⟨some s5, none, (.mv (.t s31))⟩
    .done)))))))))))
  (.seq (.reg (.one ⟨some s33, none, (.mv (.t s5))⟩
    (.one ⟨some s35, none, (.faddr 2 (.t s2))⟩
    (.one ⟨some s36, none, (.load none (.t s35))⟩
    (.one ⟨some s34, none, (.callq 43 [(.t s33)])⟩
    (.one ⟨some s37, none, (.callq 42 [(.t s34), (.t s36), (.c (.v (.int .i64 11)))])⟩
    (.one ⟨some s4, none, (.mv (.t s37))⟩
    .done)))))))
  .ret)))))))⟩
theorem ok18 : compF Try.prog c18 Try.f18 = some ir18 := by kernel_rfl
theorem k_bowlineref09_Write {args : List AVal} {σ : AHeap} {Q : AVal → AHeap → Prop} (hl : Nat.ble args.length 38 = true) (h : argsK (Env.full 9) 0 args fun env => evC Try.prog c18 ir18.body env σ (retQ ir18 Q)) : ACalls Try.prog 18 args σ Q :=
  acalls_of Try.func18 ok18 rfl (Nat.le_of_ble_eq_true hl) h
/- bowlineref09.Cut -/
def c27 : Cfg := ⟨qs, [], 71, []⟩
def ir27 : IFun := ⟨3, [.tmp s6, .tmp s7],
  (.seq (.reg (.one ⟨some s6, none, (.mv (.c (.slice 1 [] .full)))⟩
    (.one ⟨some s7, none, (.mv (.c (.v (.int .i64 0))))⟩
    .done)))
  (.seq (.reg (.one ⟨some s8, none, (.mv (.c (.slice 1 [] .full)))⟩
    .done))
  (.seq (.reg (.one ⟨some s9, none, (.mv (.c (.v (.int .i64 0))))⟩
    .done))
  (.seq (.seq (.reg (.one ⟨some s15, none, (.mv (.t s1))⟩
    .done))
  (.cond (.t s15) (.seq (.reg (.one ⟨some s17, none, (.mv (.t s0))⟩
    (.one ⟨some s18, none, (.mv (.t s2))⟩
    (.one ⟨some s19, none, (.callq 49 [(.t s17), (.t s18)])⟩
    (.one ⟨some s16, none, (.mv (.t s19))⟩
    (.one ⟨some s20, none, (.ext (.t s16) 0)⟩
    (.one ⟨some s21, none, (.ext (.t s16) 1)⟩
    (.one ⟨some s22, none, (.ext (.t s16) 2)⟩
    (.one ⟨some s10, none, (.mv (.t s20))⟩
    (.one ⟨some s11, none, (.mv (.t s21))⟩
    (.one ⟨some s12, none, (.mv (.t s22))⟩
    .done)))))))))))
  (.seq (.seq (.reg (.one ⟨some s23, none, (.mv (.t s12))⟩
    (.one ⟨some s24, none, (.bin false .neq (.t s23) (.c (.v (.int .i64 0))))⟩
    .done)))
  (.cond (.t s24) (.seq (.reg (.one ⟨some s25, none, (.mv (.t s12))⟩
    (.one ⟨some s6, none, (.mv (.c (.slice 1 [] .full)))⟩
    (.one ⟨some s7, none, (.mv (.t s25))⟩
    .done))))
  .ret) .skip))
  (.reg (.one ⟨some s26, none, (.mv (.t s10))⟩
    (.one ⟨some s27, none, (.mv (.t s11))⟩
    (.one ⟨some s8, none, (.mv (.t s26))⟩
    (.one ⟨some s9, none, (.mv (.t s27))⟩
    .done))))))) .skip))
  (.seq (.reg (.one ⟨some s13, none, (.mv (.c (.slice 1 [] .full)))⟩
    .done))
  (.seq (.seq (.reg (.one ⟨some s14, none, (.mv (.c (.v (.int .i64 0))))⟩
    .done))
  (.block 0 (.loop (.seq (.seq (.reg (.one ⟨some s28, none, (.mv (.t s14))⟩
    (.one ⟨some s29, none, (.mv (.t s8))⟩
    (.one ⟨some s30, none, (.len false (.t s29))⟩
    (.one ⟨some s31, none, (.bin false .lss (.t s28) (.t s30))⟩
    .done)))))
  (.cond (.t s31) .skip (.exit 0)))
  (.seq (.block 1 (.seq (.seq (.reg (.one ⟨some s34, none, (.mv (.t s9))⟩
    (.one ⟨some s35, none, (.mv (.t s8))⟩
    (.one ⟨some s36, none, (.mv (.t s14))⟩
    (.one ⟨some s37, none, (.iaddr 1 (.t s35) (.t s36))⟩
    (.one ⟨some s38, none, (.load none (.t s37))⟩
    (.one ⟨some s39, none, (.bin false .add (.t s34) (.t s38))⟩
    (.one ⟨some s40, none, (.mv (.t s0))⟩
    (.one ⟨some s41, none, (.len false (.t s40))⟩
    (.one ⟨some s42, none, (.bin false .gtr (.t s39) (.t s41))⟩
    .done))))))))))
  (.cond (.t s42) (.seq (.reg (.one ⟨some s6, none, (.mv (.c (.slice 1 [] .full)))⟩
    (.one ⟨some s7, none, (.mv (.c (.v (.int .i64 8))))⟩
    .done)))
  .ret) .skip))
  (.seq (.reg (.one ⟨some s43, none, (.mv (.t s13))⟩
    (.one ⟨some s44, none, (.mv (.t s0))⟩
    (.one ⟨some s45, none, (.mv (.t s9))⟩
    (.one ⟨some s46, none, (.mv (.t s9))⟩
    (.one ⟨some s47, none, (.mv (.t s8))⟩
    (.one ⟨some s48, none, (.mv (.t s14))⟩
    (.one ⟨some s49, none, (.iaddr 1 (.t s47) (.t s48))⟩
    (.one ⟨some s50, none, (.load none (.t s49))⟩
    (.one ⟨some s51, none, (.bin false .add (.t s46) (.t s50))⟩
    (.one ⟨some s52, none, (.cut 1 (.t s44) (some (.t s45)) (some (.t s51)) none)⟩
    (.one ⟨some s53, none, (.row 1 [(.t s52)])⟩
    (.one ⟨some s54, none, (.app 1 24 (.t s43) (.t s53))⟩
    (.one ⟨some s13, none, (.mv (.t s54))⟩
    .done))))))))))))))
  (.reg (.one ⟨some s55, none, (.mv (.t s9))⟩
    (.one ⟨some s56, none, (.mv (.t s8))⟩
    (.one ⟨some s57, none, (.mv (.t s14))⟩
    (.one ⟨some s58, none, (.iaddr 1 (.t s56) (.t s57))⟩
    (.one ⟨some s59, none, (.load none (.t s58))⟩
    (.one ⟨some s60, none, (.bin false .add (.t s55) (.t s59))⟩
    (.one ⟨some s9, none, (.mv (.t s60))⟩
    .done)))))))))))
  (.reg (.one ⟨some s32, none, (.mv (.t s14))⟩
    (.one ⟨some s33, none, (.bin false .add (.t s32) (.c (.v (.int .i64 1))))⟩
    (.one ⟨some s14, none, (.mv (.t s33))⟩
    .done)))))))))
  (.seq (.seq (.reg (.one ⟨some s61, none, (.mv (.t s9))⟩
    (.one ⟨some s62, none, (.mv (.t s0))⟩
    (.one ⟨some s63, none, (.len false (.t s62))⟩
    (.one ⟨some s64, none, (.bin false .geq (.t s61) (.t s63))⟩
    .done)))))
  (.cond (.t s64) (.seq (.reg (.one ⟨some s6, none, (.mv (.c (.slice 1 [] .full)))⟩
    (.one ⟨some s7, none, (.mv (.c (.v (.int .i64 8))))⟩
    .done)))
  .ret) .skip))
  (.seq (.reg (.one ⟨some s65, none, (.mv (.t s13))⟩
    (.one ⟨some s66, none, (.mv (.t s0))⟩
    (.one ⟨some s67, none, (.mv (.t s9))⟩
    (.one ⟨some s68, none, (.cut 1 (.t s66) (some (.t s67)) none none)⟩
    (.one ⟨some s69, none, (.row 1 [(.t s68)])⟩
    (.one ⟨some s70, none, (.app 1 24 (.t s65) (.t s69))⟩
    (.one ⟨some s6, none, (.mv (.t s70))⟩
    (.one ⟨some s7, none, (.mv (.c (.v (.int .i64 0))))⟩
    .done)))))))))
  .ret))))))))⟩
theorem ok27 : compF Try.prog c27 Try.f27 = some ir27 := by kernel_rfl
theorem k_bowlineref09_Cut {args : List AVal} {σ : AHeap} {Q : AVal → AHeap → Prop} (hl : Nat.ble args.length 71 = true) (h : argsK (Env.full 9) 0 args fun env => evC Try.prog c27 ir27.body env σ (retQ ir27 Q)) : ACalls Try.prog 27 args σ Q :=
  acalls_of Try.func27 ok27 rfl (Nat.le_of_ble_eq_true hl) h
/- bowlineref09.SameFields -/
def c28 : Cfg := ⟨qs, [], 28, []⟩
def ir28 : IFun := ⟨2, [.tmp s4],
  (.seq (.reg (.one ⟨some s4, none, (.mv (.c (.v (.bool false))))⟩
    .done))
  (.seq (.seq (.reg (.one ⟨some s6, none, (.mv (.t s0))⟩
    (.one ⟨some s7, none, (.len false (.t s6))⟩
    (.one ⟨some s8, none, (.mv (.t s1))⟩
    (.one ⟨some s9, none, (.len false (.t s8))⟩
    (.one ⟨some s10, none, (.bin false .neq (.t s7) (.t s9))⟩
    .done))))))
  (.cond (.t s10) (.seq (.reg (.one ⟨some s4, none, (.mv (.c (.v (.bool false))))⟩
    .done))
  .ret) .skip))
  (.seq (.seq (.reg (.one ⟨some s5, none, (.mv (.c (.v (.int .i64 0))))⟩
    .done))
  (.block 0 (.loop (.seq (.seq (.reg (.one ⟨some s11, none, (.mv (.t s5))⟩
    (.one ⟨some s12, none, (.mv (.t s0))⟩
    (.one ⟨some s13, none, (.len false (.t s12))⟩
    (.one ⟨some s14, none, (.bin false .lss (.t s11) (.t s13))⟩
    .done)))))
  (.cond (.t s14) .skip (.exit 0)))
  (.seq (.block 1 (.seq (.reg (.one ⟨some s17, none, (.mv (.t s0))⟩
    (.one ⟨some s18, none, (.mv (.t s5))⟩
    (.one ⟨some s19, none, (.iaddr 1 (.t s17) (.t s18))⟩
    (.one ⟨some s20, none, (.load none (.t s19))⟩
    (.one ⟨some s21, none, (.b2s (.t s20))⟩
    (.one ⟨some s22, none, (.mv (.t s1))⟩
    (.one ⟨some s23, none, (.mv (.t s5))⟩
    (.one ⟨some s24, none, (.iaddr 1 (.t s22) (.t s23))⟩
    (.one ⟨some s25, none, (.load none (.t s24))⟩
    (.one ⟨some s26, none, (.b2s (.t s25))⟩
    (.one ⟨some s27, none, (.bin false .neq (.t s21) (.t s26))⟩
    .done))))))))))))
  (.cond (.t s27) (.seq (.reg (.one ⟨some s4, none, (.mv (.c (.v (.bool false))))⟩
    .done))
  .ret) .skip)))
  (.reg (.one ⟨some s15, none, (.mv (.t s5))⟩
    (.one ⟨some s16, none, (.bin false .add (.t s15) (.c (.v (.int .i64 1))))⟩
    (.one ⟨some s5, none, (.mv (.t s16))⟩
    .done)))))))))
  (.seq (.reg (.one ⟨some s4, none, (.mv (.c (.v (.bool true))))⟩
    .done))
  .ret))))⟩
theorem ok28 : compF Try.prog c28 Try.f28 = some ir28 := by kernel_rfl
theorem k_bowlineref09_SameFields {args : List AVal} {σ : AHeap} {Q : AVal → AHeap → Prop} (hl : Nat.ble args.length 28 = true) (h : argsK (Env.full 9) 0 args fun env => evC Try.prog c28 ir28.body env σ (retQ ir28 Q)) : ACalls Try.prog 28 args σ Q :=
  acalls_of Try.func28 ok28 rfl (Nat.le_of_ble_eq_true hl) h
/- bowlineref09.Fields -/
def c38 : Cfg := ⟨qs, [], 67, []⟩
def ir38 : IFun := ⟨3, [.tmp s6],
  (.seq (.reg (.one ⟨some s6, none, (.mv (.c (.v (.int .i64 0))))⟩
    .done))
  (.seq (.seq (.reg (.one ⟨some s10, none, (.mv (.t s0))⟩
    (.one ⟨some s11, none, (.len false (.t s10))⟩
    (.one ⟨some s12, none, (.bin false .lss (.t s11) (.c (.v (.int .i64 1))))⟩
    (.one ⟨some s13, none, (.mv (.t s12))⟩
    (.one ⟨some s14, some (s13, false), (.mv (.t s0))⟩
    (.one ⟨some s15, some (s13, false), (.len false (.t s14))⟩
    (.one ⟨some s16, some (s13, false), (.bin false .gtr (.t s15) (.c (.v (.int .i64 24))))⟩
    (.one ⟨some s17, none, (.pick (.t s13) (.c (.v (.bool true))) (.t s16))⟩
    .done)))))))))
  (.cond (.t s17) (.seq (.reg (.one ⟨some s6, none, (.mv (.c (.v (.int .i64 0))))⟩
    .done))
  .ret) .skip))
  (.seq (.reg (.one ⟨some s7, none, (.mv (.c (.v (.int .i64 2047))))⟩
    .done))
  (.seq (.reg (.one ⟨some s18, none, (.mv (.t s1))⟩
    (.one ⟨some s8, none, (.mv (.t s18))⟩
    .done)))
  (.seq (.seq (.reg (.one ⟨some s19, none, (.mv (.t s0))⟩
    (.one ⟨some s20, none, (.len false (.t s19))⟩
    (.one ⟨some s21, none, (.bin false .gtr (.t s20) (.c (.v (.int .i64 1))))⟩
    .done))))
  (.cond (.t s21) (.reg (.one ⟨some s22, none, (.mv (.t s8))⟩
    (.one ⟨some s23, none, (.mv (.t s0))⟩
    (.one ⟨some s24, none, (.len false (.t s23))⟩
    (.one ⟨some s25, none, (.bin false .sub (.t s24) (.c (.v (.int .i64 1))))⟩
    (.one ⟨some s26, none, (.mv (.t s2))⟩
    (.one ⟨some s27, none, (.callq 54 [(.t s25), (.t s26)])⟩
    (.one ⟨some s28, none, (.bin false .add (.t s22) (.t s27))⟩
    (.one ⟨some s8, none, (.mv (.t s28))⟩
    .done))))))))) .skip))
  (.seq (.seq (.reg (.one ⟨some s9, none, (.mv (.c (.v (.int .i64 0))))⟩
    .done))
  (.block 0 (.loop (.seq (.seq (.reg (.one ⟨some s29, none, (.mv (.t s9))⟩
    (.one ⟨some s30, none, (.mv (.t s0))⟩
    (.one ⟨some s31, none, (.len false (.t s30))⟩
    (.one ⟨some s32, none, (.bin false .lss (.t s29) (.t s31))⟩
    .done)))))
  (.cond (.t s32) .skip (.exit 0)))
  (.seq (.block 1 (.seq (.seq (.reg (.one ⟨some s35, none, (.mv (.t s0))⟩
    (.one ⟨some s36, none, (.mv (.t s9))⟩
    (.one ⟨some s37, none, (.iaddr 1 (.t s35) (.t s36))⟩
    (.one ⟨some s38, none, (.load none (.t s37))⟩
    (.one ⟨some s39, none, (.len false (.t s38))⟩
    (.one ⟨some s40, none, (.bin false .eql (.t s39) (.c (.v (.int .i64 0))))⟩
    (.one ⟨some s41, none, (.mv (.t s40))⟩
    (.one ⟨some s42, some (s41, false), (.mv (.t s9))⟩
    (.one ⟨some s43, some (s41, false), (.bin false .add (.t s42) (.c (.v (.int .i64 1))))⟩
    (.one ⟨some s44, some (s41, false), (.mv (.t s0))⟩
    (.one ⟨some s45, some (s41, false), (.len false (.t s44))⟩
    (.one ⟨some s46, some (s41, false), (.bin false .lss (.t s43) (.t s45))⟩
    (.one ⟨some s47, some (s41, false), (.mv (.t s46))⟩
    (.one ⟨some s48, some (s47, true), (.mv (.t s0))⟩
    (.one ⟨some s49, some (s47, true), (.mv (.t s9))⟩
    (.one ⟨some s50, some (s47, true), (.iaddr 1 (.t s48) (.t s49))⟩
    (.one ⟨some s51, some (s47, true), (.load none (.t s50))⟩
    (.one ⟨some s52, some (s47, true), (.len false (.t s51))⟩
    (.one ⟨some s53, some (s47, true), (.mv (.t s7))⟩
    (.one ⟨some s54, some (s47, true), (.bin false .gtr (.t s52) (.t s53))⟩
    (.one ⟨some s55, some (s41, false), (.pick (.t s47) (.t s54) (.c (.v (.bool false))))⟩
    (.one ⟨some s56, none, (.pick (.t s41) (.c (.v (.bool true))) (.t s55))⟩
    .done)))))))))))))))))))))))
  (.cond (.t s56) (.seq (.reg (.one ⟨some s6, none, (.mv (.c (.v (.int .i64 0))))⟩
    .done))
  .ret) .skip))
  (.seq (.reg (.one ⟨some s57, none, (.mv (.t s8))⟩
    (.one ⟨some s58, none, (.mv (.t s0))⟩
    (.one ⟨some s59, none, (.mv (.t s9))⟩
    (.one ⟨some s60, none, (.iaddr 1 (.t s58) (.t s59))⟩
    (.one ⟨some s61, none, (.load none (.t s60))⟩
    (.one ⟨some s62, none, (.len false (.t s61))⟩
    (.one ⟨some s63, none, (.bin false .add (.t s57) (.t s62))⟩
    (.one ⟨some s8, none, (.mv (.t s63))⟩
    .done)))))))))
  (.seq (.reg (.one ⟨some s64, none, (.mv (.t s8))⟩
    (.one ⟨some s65, none, (.bin false .gtr (.t s64) (.c (.v (.int .i64 4000))))⟩
    .done)))
  (.cond (.t s65) (.seq (.reg (.one ⟨some s6, none, (.mv (.c (.v (.int .i64 0))))⟩
    .done))
  .ret) .skip)))))
  (.reg (.one ⟨some s33, none, (.mv (.t s9))⟩
    (.one ⟨some s34, none, (.bin false .add (.t s33) (.c (.v (.int .i64 1))))⟩
    (.one ⟨some s9, none, (.mv (.t s34))⟩
    .done)))))))))
  (.seq (.reg (.one ⟨some s66, none, (.mv (.t s8))⟩
    (.one ⟨some s6, none, (.mv (.t s66))⟩
    .done)))
  .ret)))))))⟩
theorem ok38 : compF Try.prog c38 Try.f38 = some ir38 := by kernel_rfl
theorem k_bowlineref09_Fields {args : List AVal} {σ : AHeap} {Q : AVal → AHeap → Prop} (hl : Nat.ble args.length 67 = true) (h : argsK (Env.full 9) 0 args fun env => evC Try.prog c38 ir38.body env σ (retQ ir38 Q)) : ACalls Try.prog 38 args σ Q :=
  acalls_of Try.func38 ok38 rfl (Nat.le_of_ble_eq_true hl) h
/- bowlineref09.Tail -/
def c42 : Cfg := ⟨qs, [], 52, []⟩
def ir42 : IFun := ⟨3, [.tmp s6],
  (.seq (.reg (.one ⟨some s6, none, (.mv (.c (.slice 1 [] .full)))⟩
    .done))
  (.seq (.reg (.one ⟨some s7, none, (.mv (.c (.slice 1 [] .full)))⟩
    .done))
  (.seq (.seq (.reg (.one ⟨some s8, none, (.mv (.c (.v (.int .i64 0))))⟩
    .done))
  (.block 0 (.loop (.seq (.seq (.reg (.one ⟨some s12, none, (.mv (.t s8))⟩
    (.one ⟨some s13, none, (.bin false .add (.t s12) (.c (.v (.int .i64 1))))⟩
    (.one ⟨some s14, none, (.mv (.t s1))⟩
    (.one ⟨some s15, none, (.len false (.t s14))⟩
    (.one ⟨some s16, none, (.bin false .lss (.t s13) (.t s15))⟩
    .done))))))
  (.cond (.t s16) .skip (.exit 0)))
  (.seq (.block 1 (.reg (.one ⟨some s19, none, (.mv (.t s7))⟩
    (.one ⟨some s20, none, (.mv (.t s1))⟩
    (.one ⟨some s21, none, (.mv (.t s8))⟩
    (.one ⟨some s22, none, (.iaddr 1 (.t s20) (.t s21))⟩
    (.one ⟨some s23, none, (.load none (.t s22))⟩
    (.one ⟨some s24, none, (.len false (.t s23))⟩
    (.one ⟨some s25, none, (.row 1 [(.t s24)])⟩
    (.one ⟨some s26, none, (.app 1 8 (.t s19) (.t s25))⟩
    (.one ⟨some s7, none, (.mv (.t s26))⟩
    .done)))))))))))
  (.reg (.one ⟨some s17, none, (.mv (.t s8))⟩
    (.one ⟨some s18, none, (.bin false .add (.t s17) (.c (.v (.int .i64 1))))⟩
    (.one ⟨some s8, none, (.mv (.t s18))⟩
    .done)))))))))
  (.seq (.seq (.reg (.one ⟨some s27, none, (.mv (.t s7))⟩
    (.one ⟨some s28, none, (.len false (.t s27))⟩
    (.one ⟨some s29, none, (.bin false .gtr (.t s28) (.c (.v (.int .i64 0))))⟩
    .done))))
  (.cond (.t s29) (.seq (.reg (.one ⟨some s31, none, (.mv (.t s7))⟩
    (.one ⟨some s32, none, (.mv (.t s2))⟩
    (.one ⟨some s33, none, (.callq 56 [(.t s31), (.t s32)])⟩
    (.one ⟨some s30, none, (.mv (.t s33))⟩
    (.one ⟨some s34, none, (.ext (.t s30) 0)⟩
    (.one ⟨some s35, none, (.ext (.t s30) 1)⟩
    (.one ⟨some s9, none, (.mv (.t s34))⟩
    (.one ⟨some s10, none, (.mv (.t s35))⟩
    .done)))))))))
  (.reg (.one ⟨some s36, none, (.mv (.t s0))⟩
    (.one ⟨some s37, none, (.mv (.t s9))⟩
    (.one ⟨some s38, none, (.app 1 1 (.t s36) (.t s37))⟩
    (.one ⟨some s0, none, (.mv (.t s38))⟩
    .done)))))) .skip))
  (.seq (.seq (.reg (.one ⟨some s11, none, (.mv (.c (.v (.int .i64 0))))⟩
    .done))
  (.block 2 (.loop (.seq (.seq (.reg (.one ⟨some s39, none, (.mv (.t s11))⟩
    (.one ⟨some s40, none, (.mv (.t s1))⟩
    (.one ⟨some s41, none, (.len false (.t s40))⟩
    (.one ⟨some s42, none, (.bin false .lss (.t s39) (.t s41))⟩
    .done)))))
  (.cond (.t s42) .skip (.exit 2)))
  (.seq (.block 3 (.reg (.one ⟨some s45, none, (.mv (.t s0))⟩
    (.one ⟨some s46, none, (.mv (.t s1))⟩
    (.one ⟨some s47, none, (.mv (.t s11))⟩
    (.one ⟨some s48, none, (.iaddr 1 (.t s46) (.t s47))⟩
    (.one ⟨some s49, none, (.load none (.t s48))⟩
    (.one ⟨some s50, none, (.app 1 1 (.t s45) (.t s49))⟩
    (.one ⟨some s0, none, (.mv (.t s50))⟩
    .done)))))))))
  (.reg (.one ⟨some s43, none, (.mv (.t s11))⟩
    (.one ⟨some s44, none, (.bin false .add (.t s43) (.c (.v (.int .i64 1))))⟩
    (.one ⟨some s11, none, (.mv (.t s44))⟩
    .done)))))))))
  (.seq (.reg (.one ⟨some s51, none, (.mv (.t s0))⟩
    (.one ⟨some s6, none, (.mv (.t s51))⟩
    .done)))
  .ret))))))⟩
theorem ok42 : compF Try.prog c42 Try.f42 = some ir42 := by kernel_rfl
theorem k_bowlineref09_Tail {args : List AVal} {σ : AHeap} {Q : AVal → AHeap → Prop} (hl : Nat.ble args.length 52 = true) (h : argsK (Env.full 9) 0 args fun env => evC Try.prog c42 ir42.body env σ (retQ ir42 Q)) : ACalls Try.prog 42 args σ Q :=
  acalls_of Try.func42 ok42 rfl (Nat.le_of_ble_eq_true hl) h
end Go.Proofs.Ythjjkcmiachpcaa
/-
  Packets that are not acknowledged: the document's sizes.
-/
namespace Go.Proofs.Ythjjkcmiachpcaa
set_option linter.unusedVariables false
set_option linter.unusedSimpArgs false
open Go Go.Am

set_option maxRecDepth 20000 in
theorem refFields (l : List (List UInt8)) (t : Tok) (h w : Int) (σ : AHeap) (hh : 0 ≤ h ∧ h ≤ 100) (hl : l.length ≤ 140737488355320) (hd : ∀ f ∈ l, f.length ≤ 140737488355320) : ACalls Try.prog i_bowlineref09_Fields [lists t l, i64v h, i64v w] σ fun v σ' => v = i64v (fieldsV l h w) ∧ σ' = σ := by
  refine k_bowlineref09_Fields rfl ?_
  ((conv => whnf); (repeat ((first | with_reducible refine abr_true rfl ?_ | with_reducible refine abr_false rfl ?_ | with_reducible refine abr_yes rfl ?_ | refine abr_yes (by decide) ?_ | refine abr_no (by decide) ?_ | with_reducible refine abr_same_ne ?_); (conv => whnf))))
  by_cases h1 : l.length < 1
  · (repeat ((first | refine aload (by (repeat (first | with_reducible exact upd_same _ _ _ | assumption | rw [upd_ne _ _ (by first | assumption | (apply Ne.symm; assumption))]))) rfl ?_ | refine afit_i64 (by omega) ?_ | refine arem_nonneg (by omega) (by omega) ?_ | refine adiv_i64 (by omega) (by omega) ?_ | refine abr_yes (by omega) ?_ | refine abr_no (by omega) ?_ | refine amin ?_ | refine amax ?_ | refine afit_u64 (by omega) ?_ | refine afit_u8 (by omega) ?_ | rw [List.length_map]); ((conv => whnf); (repeat ((first | with_reducible refine abr_true rfl ?_ | with_reducible refine abr_false rfl ?_ | with_reducible refine abr_yes rfl ?_ | refine abr_yes (by decide) ?_ | refine abr_no (by decide) ?_ | with_reducible refine abr_same_ne ?_); (conv => whnf))))))
    exact aret_same ⟨by unfold fieldsV; rw [if_pos (.inl h1)], rfl⟩
  by_cases h2 : l.length > 24
  · (repeat ((first | refine aload (by (repeat (first | with_reducible exact upd_same _ _ _ | assumption | rw [upd_ne _ _ (by first | assumption | (apply Ne.symm; assumption))]))) rfl ?_ | refine afit_i64 (by omega) ?_ | refine arem_nonneg (by omega) (by omega) ?_ | refine adiv_i64 (by omega) (by omega) ?_ | refine abr_yes (by omega) ?_ | refine abr_no (by omega) ?_ | refine amin ?_ | refine amax ?_ | refine afit_u64 (by omega) ?_ | refine afit_u8 (by omega) ?_ | rw [List.length_map]); ((conv => whnf); (repeat ((first | with_reducible refine abr_true rfl ?_ | with_reducible refine abr_false rfl ?_ | with_reducible refine abr_yes rfl ?_ | refine abr_yes (by decide) ?_ | refine abr_no (by decide) ?_ | with_reducible refine abr_same_ne ?_); (conv => whnf))))))
    exact aret_same ⟨by unfold fieldsV; rw [if_pos (.inr h2)], rfl⟩
  (repeat ((first | refine aload (by (repeat (first | with_reducible exact upd_same _ _ _ | assumption | rw [upd_ne _ _ (by first | assumption | (apply Ne.symm; assumption))]))) rfl ?_ | refine afit_i64 (by omega) ?_ | refine arem_nonneg (by omega) (by omega) ?_ | refine adiv_i64 (by omega) (by omega) ?_ | refine abr_yes (by omega) ?_ | refine abr_no (by omega) ?_ | refine amin ?_ | refine amax ?_ | refine afit_u64 (by omega) ?_ | refine afit_u8 (by omega) ?_ | rw [List.length_map]); ((conv => whnf); (repeat ((first | with_reducible refine abr_true rfl ?_ | with_reducible refine abr_false rfl ?_ | with_reducible refine abr_yes rfl ?_ | refine abr_yes (by decide) ?_ | refine abr_no (by decide) ?_ | with_reducible refine abr_same_ne ?_); (conv => whnf))))))
  have hsz := sizeV_range ((l.length : Int) - 1) w
  have loop : ∀ sz : Int, sizeV ((l.length : Int) - 1) w = sz → 0 ≤ sz ∧ sz ≤ 50 → True := fun _ _ _ => trivial
  have h0 : ¬ l.length > 1 → sizeV ((l.length : Int) - 1) w = 0 := fun h => by unfold sizeV; rw [if_pos (.inr (.inl (by omega)))]
  generalize hSZ : sizeV ((l.length : Int) - 1) w = sz at *
  have hV (h9 : fieldsBad l l.length = true ∨ h + sz + (total l : Int) > 4000) : fieldsV l h w = 0 := by
    unfold fieldsV
    rw [if_neg (by omega), hSZ]
    by_cases hb : fieldsBad l l.length = true
    · rw [if_pos hb]
    · rw [if_neg hb, if_pos (h9.resolve_left hb)]
  by_cases hm : l.length > 1
  · (repeat ((first | refine aload (by (repeat (first | with_reducible exact upd_same _ _ _ | assumption | rw [upd_ne _ _ (by first | assumption | (apply Ne.symm; assumption))]))) rfl ?_ | refine afit_i64 (by omega) ?_ | refine arem_nonneg (by omega) (by omega) ?_ | refine adiv_i64 (by omega) (by omega) ?_ | refine abr_yes (by omega) ?_ | refine abr_no (by omega) ?_ | refine amin ?_ | refine amax ?_ | refine afit_u64 (by omega) ?_ | refine afit_u8 (by omega) ?_ | rw [List.length_map]); ((conv => whnf); (repeat ((first | with_reducible refine abr_true rfl ?_ | with_reducible refine abr_false rfl ?_ | with_reducible refine abr_yes rfl ?_ | refine abr_yes (by decide) ?_ | refine abr_no (by decide) ?_ | with_reducible refine abr_same_ne ?_); (conv => whnf))))))
    refine acall (refSize ((l.length : Int) - 1) w _) ?_
    rintro _ σ_ ⟨rfl, e_⟩
    obtain rfl := e_.symm
    refine ⟨?_, Ext.refl _⟩
    ((conv => whnf); (repeat ((first | with_reducible refine abr_true rfl ?_ | with_reducible refine abr_false rfl ?_ | with_reducible refine abr_yes rfl ?_ | refine abr_yes (by decide) ?_ | refine abr_no (by decide) ?_ | with_reducible refine abr_same_ne ?_); (conv => whnf))))
    rw [hSZ]
    (repeat ((first | refine aload (by (repeat (first | with_reducible exact upd_same _ _ _ | assumption | rw [upd_ne _ _ (by first | assumption | (apply Ne.symm; assumption))]))) rfl ?_ | refine afit_i64 (by omega) ?_ | refine arem_nonneg (by omega) (by omega) ?_ | refine adiv_i64 (by omega) (by omega) ?_ | refine abr_yes (by omega) ?_ | refine abr_no (by omega) ?_ | refine amin ?_ | refine amax ?_ | refine afit_u64 (by omega) ?_ | refine afit_u8 (by omega) ?_ | rw [List.length_map]); ((conv => whnf); (repeat ((first | with_reducible refine abr_true rfl ?_ | with_reducible refine abr_false rfl ?_ | with_reducible refine abr_yes rfl ?_ | refine abr_yes (by decide) ?_ | refine abr_no (by decide) ?_ | with_reducible refine abr_same_ne ?_); (conv => whnf))))))
    refine aloop (α := Nat × Int) (fun x => [(s8, i64v x.2), (s9, i64v x.1)]) (fun _ => σ) (fun x => x.1 ≤ l.length ∧ fieldsBad l x.1 = false ∧ x.2 = h + sz + (total (l.take x.1) : Int) ∧ x.2 ≤ 4000) (fun x => l.length - x.1) (0, h + sz) ⟨Nat.zero_le _, rfl, by show h + sz = h + sz + ((0 : Nat) : Int); omega, by dsimp only; omega⟩ (Sub.refl _) ?_ ?_
    · ((conv => whnf); (repeat ((first | with_reducible refine abr_true rfl ?_ | with_reducible refine abr_false rfl ?_ | with_reducible refine abr_yes rfl ?_ | refine abr_yes (by decide) ?_ | refine abr_no (by decide) ?_ | with_reducible refine abr_same_ne ?_); (conv => whnf))))
      (repeat' first | with_reducible exact EnvLe.refl _ | (refine EnvLe.node ?_ (by first | exact Or.inl rfl | exact Or.inr (Or.inl rfl) | exact Or.inr (Or.inr ⟨nofun, VLe.slice _ _ _⟩)) ?_))
    rintro ⟨i, n⟩ ⟨hi, hbad, hn, hle⟩
    dsimp only at hi hbad hn hle ⊢
    by_cases hil : i < l.length
    · have hts := total_take_succ l i hil
      have htl := total_take_le l (i + 1)
      have hfb := fieldBad_get hil
      have hsucc := fieldsBad_succ l i
      have hdl := hd _ (List.getElem_mem hil)
      rw [hbad, Bool.false_or] at hsucc
      ((conv => whnf); (repeat ((first | with_reducible refine abr_true rfl ?_ | with_reducible refine abr_false rfl ?_ | with_reducible refine abr_yes rfl ?_ | refine abr_yes (by decide) ?_ | refine abr_no (by decide) ?_ | with_reducible refine abr_same_ne ?_); (conv => whnf))))
      (repeat ((first | refine aload (by (repeat (first | with_reducible exact upd_same _ _ _ | assumption | rw [upd_ne _ _ (by first | assumption | (apply Ne.symm; assumption))]))) rfl ?_ | refine afit_i64 (by omega) ?_ | refine arem_nonneg (by omega) (by omega) ?_ | refine adiv_i64 (by omega) (by omega) ?_ | refine abr_yes (by omega) ?_ | refine abr_no (by omega) ?_ | refine amin ?_ | refine amax ?_ | refine afit_u64 (by omega) ?_ | refine afit_u8 (by omega) ?_ | rw [List.length_map]); ((conv => whnf); (repeat ((first | with_reducible refine abr_true rfl ?_ | with_reducible refine abr_false rfl ?_ | with_reducible refine abr_yes rfl ?_ | refine abr_yes (by decide) ?_ | refine abr_no (by decide) ?_ | with_reducible refine abr_same_ne ?_); (conv => whnf))))))
      refine aget (by omega) (get_lists hil) ?_
      ((conv => whnf); (repeat ((first | with_reducible refine abr_true rfl ?_ | with_reducible refine abr_false rfl ?_ | with_reducible refine abr_yes rfl ?_ | refine abr_yes (by decide) ?_ | refine abr_no (by decide) ?_ | with_reducible refine abr_same_ne ?_); (conv => whnf))))
      refine acell rfl ?_
      ((conv => whnf); (repeat ((first | with_reducible refine abr_true rfl ?_ | with_reducible refine abr_false rfl ?_ | with_reducible refine abr_yes rfl ?_ | refine abr_yes (by decide) ?_ | refine abr_no (by decide) ?_ | with_reducible refine abr_same_ne ?_); (conv => whnf))))
      rw [List.length_map]
      by_cases c1 : l[i].length = 0
      · (repeat ((first | refine aload (by (repeat (first | with_reducible exact upd_same _ _ _ | assumption | rw [upd_ne _ _ (by first | assumption | (apply Ne.symm; assumption))]))) rfl ?_ | refine afit_i64 (by omega) ?_ | refine arem_nonneg (by omega) (by omega) ?_ | refine adiv_i64 (by omega) (by omega) ?_ | refine abr_yes (by omega) ?_ | refine abr_no (by omega) ?_ | refine amin ?_ | refine amax ?_ | refine afit_u64 (by omega) ?_ | refine afit_u8 (by omega) ?_ | rw [List.length_map]); ((conv => whnf); (repeat ((first | with_reducible refine abr_true rfl ?_ | with_reducible refine abr_false rfl ?_ | with_reducible refine abr_yes rfl ?_ | refine abr_yes (by decide) ?_ | refine abr_no (by decide) ?_ | with_reducible refine abr_same_ne ?_); (conv => whnf))))))
        have hbd : fieldBad l i = true := by rw [hfb, decide_eq_true (.inl c1)]
        exact aret_same ⟨by rw [hV (.inl (fieldsBad_of hil hbd))], rfl⟩
      (repeat ((first | refine aload (by (repeat (first | with_reducible exact upd_same _ _ _ | assumption | rw [upd_ne _ _ (by first | assumption | (apply Ne.symm; assumption))]))) rfl ?_ | refine afit_i64 (by omega) ?_ | refine arem_nonneg (by omega) (by omega) ?_ | refine adiv_i64 (by omega) (by omega) ?_ | refine abr_yes (by omega) ?_ | refine abr_no (by omega) ?_ | refine amin ?_ | refine amax ?_ | refine afit_u64 (by omega) ?_ | refine afit_u8 (by omega) ?_ | rw [List.length_map]); ((conv => whnf); (repeat ((first | with_reducible refine abr_true rfl ?_ | with_reducible refine abr_false rfl ?_ | with_reducible refine abr_yes rfl ?_ | refine abr_yes (by decide) ?_ | refine abr_no (by decide) ?_ | with_reducible refine abr_same_ne ?_); (conv => whnf))))))
      by_cases c3 : i + 1 < l.length
      · (repeat ((first | refine aload (by (repeat (first | with_reducible exact upd_same _ _ _ | assumption | rw [upd_ne _ _ (by first | assumption | (apply Ne.symm; assumption))]))) rfl ?_ | refine afit_i64 (by omega) ?_ | refine arem_nonneg (by omega) (by omega) ?_ | refine adiv_i64 (by omega) (by omega) ?_ | refine abr_yes (by omega) ?_ | refine abr_no (by omega) ?_ | refine amin ?_ | refine amax ?_ | refine afit_u64 (by omega) ?_ | refine afit_u8 (by omega) ?_ | rw [List.length_map]); ((conv => whnf); (repeat ((first | with_reducible refine abr_true rfl ?_ | with_reducible refine abr_false rfl ?_ | with_reducible refine abr_yes rfl ?_ | refine abr_yes (by decide) ?_ | refine abr_no (by decide) ?_ | with_reducible refine abr_same_ne ?_); (conv => whnf))))))
        refine aget (by omega) (get_lists hil) ?_
        ((conv => whnf); (repeat ((first | with_reducible refine abr_true rfl ?_ | with_reducible refine abr_false rfl ?_ | with_reducible refine abr_yes rfl ?_ | refine abr_yes (by decide) ?_ | refine abr_no (by decide) ?_ | with_reducible refine abr_same_ne ?_); (conv => whnf))))
        refine acell rfl ?_
        ((conv => whnf); (repeat ((first | with_reducible refine abr_true rfl ?_ | with_reducible refine abr_false rfl ?_ | with_reducible refine abr_yes rfl ?_ | refine abr_yes (by decide) ?_ | refine abr_no (by decide) ?_ | with_reducible refine abr_same_ne ?_); (conv => whnf))))
        rw [List.length_map]
        by_cases c2 : l[i].length > 2047
        · (repeat ((first | refine aload (by (repeat (first | with_reducible exact upd_same _ _ _ | assumption | rw [upd_ne _ _ (by first | assumption | (apply Ne.symm; assumption))]))) rfl ?_ | refine afit_i64 (by omega) ?_ | refine arem_nonneg (by omega) (by omega) ?_ | refine adiv_i64 (by omega) (by omega) ?_ | refine abr_yes (by omega) ?_ | refine abr_no (by omega) ?_ | refine amin ?_ | refine amax ?_ | refine afit_u64 (by omega) ?_ | refine afit_u8 (by omega) ?_ | rw [List.length_map]); ((conv => whnf); (repeat ((first | with_reducible refine abr_true rfl ?_ | with_reducible refine abr_false rfl ?_ | with_reducible refine abr_yes rfl ?_ | refine abr_yes (by decide) ?_ | refine abr_no (by decide) ?_ | with_reducible refine abr_same_ne ?_); (conv => whnf))))))
          have hbd : fieldBad l i = true := by rw [hfb, decide_eq_true (.inr ⟨c2, c3⟩)]
          exact aret_same ⟨by rw [hV (.inl (fieldsBad_of hil hbd))], rfl⟩
        · (repeat ((first | refine aload (by (repeat (first | with_reducible exact upd_same _ _ _ | assumption | rw [upd_ne _ _ (by first | assumption | (apply Ne.symm; assumption))]))) rfl ?_ | refine afit_i64 (by omega) ?_ | refine arem_nonneg (by omega) (by omega) ?_ | refine adiv_i64 (by omega) (by omega) ?_ | refine abr_yes (by omega) ?_ | refine abr_no (by omega) ?_ | refine amin ?_ | refine amax ?_ | refine afit_u64 (by omega) ?_ | refine afit_u8 (by omega) ?_ | rw [List.length_map]); ((conv => whnf); (repeat ((first | with_reducible refine abr_true rfl ?_ | with_reducible refine abr_false rfl ?_ | with_reducible refine abr_yes rfl ?_ | refine abr_yes (by decide) ?_ | refine abr_no (by decide) ?_ | with_reducible refine abr_same_ne ?_); (conv => whnf))))))
          have hbd : fieldBad l i = false := by rw [hfb]; exact decide_eq_false (by omega)
          refine aget (by omega) (get_lists hil) ?_
          ((conv => whnf); (repeat ((first | with_reducible refine abr_true rfl ?_ | with_reducible refine abr_false rfl ?_ | with_reducible refine abr_yes rfl ?_ | refine abr_yes (by decide) ?_ | refine abr_no (by decide) ?_ | with_reducible refine abr_same_ne ?_); (conv => whnf))))
          refine acell rfl ?_
          ((conv => whnf); (repeat ((first | with_reducible refine abr_true rfl ?_ | with_reducible refine abr_false rfl ?_ | with_reducible refine abr_yes rfl ?_ | refine abr_yes (by decide) ?_ | refine abr_no (by decide) ?_ | with_reducible refine abr_same_ne ?_); (conv => whnf))))
          (repeat ((first | refine aload (by (repeat (first | with_reducible exact upd_same _ _ _ | assumption | rw [upd_ne _ _ (by first | assumption | (apply Ne.symm; assumption))]))) rfl ?_ | refine afit_i64 (by omega) ?_ | refine arem_nonneg (by omega) (by omega) ?_ | refine adiv_i64 (by omega) (by omega) ?_ | refine abr_yes (by omega) ?_ | refine abr_no (by omega) ?_ | refine amin ?_ | refine amax ?_ | refine afit_u64 (by omega) ?_ | refine afit_u8 (by omega) ?_ | rw [List.length_map]); ((conv => whnf); (repeat ((first | with_reducible refine abr_true rfl ?_ | with_reducible refine abr_false rfl ?_ | with_reducible refine abr_yes rfl ?_ | refine abr_yes (by decide) ?_ | refine abr_no (by decide) ?_ | with_reducible refine abr_same_ne ?_); (conv => whnf))))))
          by_cases c4 : n + (l[i].length : Int) > 4000
          · (repeat ((first | refine aload (by (repeat (first | with_reducible exact upd_same _ _ _ | assumption | rw [upd_ne _ _ (by first | assumption | (apply Ne.symm; assumption))]))) rfl ?_ | refine afit_i64 (by omega) ?_ | refine arem_nonneg (by omega) (by omega) ?_ | refine adiv_i64 (by omega) (by omega) ?_ | refine abr_yes (by omega) ?_ | refine abr_no (by omega) ?_ | refine amin ?_ | refine amax ?_ | refine afit_u64 (by omega) ?_ | refine afit_u8 (by omega) ?_ | rw [List.length_map]); ((conv => whnf); (repeat ((first | with_reducible refine abr_true rfl ?_ | with_reducible refine abr_false rfl ?_ | with_reducible refine abr_yes rfl ?_ | refine abr_yes (by decide) ?_ | refine abr_no (by decide) ?_ | with_reducible refine abr_same_ne ?_); (conv => whnf))))))
            exact aret_same ⟨by rw [hV (.inr (by omega))], rfl⟩
          · (repeat ((first | refine aload (by (repeat (first | with_reducible exact upd_same _ _ _ | assumption | rw [upd_ne _ _ (by first | assumption | (apply Ne.symm; assumption))]))) rfl ?_ | refine afit_i64 (by omega) ?_ | refine arem_nonneg (by omega) (by omega) ?_ | refine adiv_i64 (by omega) (by omega) ?_ | refine abr_yes (by omega) ?_ | refine abr_no (by omega) ?_ | refine amin ?_ | refine amax ?_ | refine afit_u64 (by omega) ?_ | refine afit_u8 (by omega) ?_ | rw [List.length_map]); ((conv => whnf); (repeat ((first | with_reducible refine abr_true rfl ?_ | with_reducible refine abr_false rfl ?_ | with_reducible refine abr_yes rfl ?_ | refine abr_yes (by decide) ?_ | refine abr_no (by decide) ?_ | with_reducible refine abr_same_ne ?_); (conv => whnf))))))
            refine ⟨(i + 1, n + l[i].length), ⟨hil, by dsimp only; rw [hsucc, hbd], by dsimp only; omega, by dsimp only; omega⟩, by dsimp only; omega, Sub.refl _, ?_⟩
            ((conv => whnf); (repeat ((first | with_reducible refine abr_true rfl ?_ | with_reducible refine abr_false rfl ?_ | with_reducible refine abr_yes rfl ?_ | refine abr_yes (by decide) ?_ | refine abr_no (by decide) ?_ | with_reducible refine abr_same_ne ?_); (conv => whnf))))
            (repeat' first | with_reducible exact EnvLe.refl _ | (refine EnvLe.node ?_ (by first | exact Or.inl rfl | exact Or.inr (Or.inl rfl) | exact Or.inr (Or.inr ⟨nofun, VLe.slice _ _ _⟩)) ?_))
      · (repeat ((first | refine aload (by (repeat (first | with_reducible exact upd_same _ _ _ | assumption | rw [upd_ne _ _ (by first | assumption | (apply Ne.symm; assumption))]))) rfl ?_ | refine afit_i64 (by omega) ?_ | refine arem_nonneg (by omega) (by omega) ?_ | refine adiv_i64 (by omega) (by omega) ?_ | refine abr_yes (by omega) ?_ | refine abr_no (by omega) ?_ | refine amin ?_ | refine amax ?_ | refine afit_u64 (by omega) ?_ | refine afit_u8 (by omega) ?_ | rw [List.length_map]); ((conv => whnf); (repeat ((first | with_reducible refine abr_true rfl ?_ | with_reducible refine abr_false rfl ?_ | with_reducible refine abr_yes rfl ?_ | refine abr_yes (by decide) ?_ | refine abr_no (by decide) ?_ | with_reducible refine abr_same_ne ?_); (conv => whnf))))))
        have hbd : fieldBad l i = false := by rw [hfb]; exact decide_eq_false (by omega)
        refine aget (by omega) (get_lists hil) ?_
        ((conv => whnf); (repeat ((first | with_reducible refine abr_true rfl ?_ | with_reducible refine abr_false rfl ?_ | with_reducible refine abr_yes rfl ?_ | refine abr_yes (by decide) ?_ | refine abr_no (by decide) ?_ | with_reducible refine abr_same_ne ?_); (conv => whnf))))
        refine acell rfl ?_
        ((conv => whnf); (repeat ((first | with_reducible refine abr_true rfl ?_ | with_reducible refine abr_false rfl ?_ | with_reducible refine abr_yes rfl ?_ | refine abr_yes (by decide) ?_ | refine abr_no (by decide) ?_ | with_reducible refine abr_same_ne ?_); (conv => whnf))))
        (repeat ((first | refine aload (by (repeat (first | with_reducible exact upd_same _ _ _ | assumption | rw [upd_ne _ _ (by first | assumption | (apply Ne.symm; assumption))]))) rfl ?_ | refine afit_i64 (by omega) ?_ | refine arem_nonneg (by omega) (by omega) ?_ | refine adiv_i64 (by omega) (by omega) ?_ | refine abr_yes (by omega) ?_ | refine abr_no (by omega) ?_ | refine amin ?_ | refine amax ?_ | refine afit_u64 (by omega) ?_ | refine afit_u8 (by omega) ?_ | rw [List.length_map]); ((conv => whnf); (repeat ((first | with_reducible refine abr_true rfl ?_ | with_reducible refine abr_false rfl ?_ | with_reducible refine abr_yes rfl ?_ | refine abr_yes (by decide) ?_ | refine abr_no (by decide) ?_ | with_reducible refine abr_same_ne ?_); (conv => whnf))))))
        by_cases c4 : n + (l[i].length : Int) > 4000
        · (repeat ((first | refine aload (by (repeat (first | with_reducible exact upd_same _ _ _ | assumption | rw [upd_ne _ _ (by first | assumption | (apply Ne.symm; assumption))]))) rfl ?_ | refine afit_i64 (by omega) ?_ | refine arem_nonneg (by omega) (by omega) ?_ | refine adiv_i64 (by omega) (by omega) ?_ | refine abr_yes (by omega) ?_ | refine abr_no (by omega) ?_ | refine amin ?_ | refine amax ?_ | refine afit_u64 (by omega) ?_ | refine afit_u8 (by omega) ?_ | rw [List.length_map]); ((conv => whnf); (repeat ((first | with_reducible refine abr_true rfl ?_ | with_reducible refine abr_false rfl ?_ | with_reducible refine abr_yes rfl ?_ | refine abr_yes (by decide) ?_ | refine abr_no (by decide) ?_ | with_reducible refine abr_same_ne ?_); (conv => whnf))))))
          exact aret_same ⟨by rw [hV (.inr (by omega))], rfl⟩
        · (repeat ((first | refine aload (by (repeat (first | with_reducible exact upd_same _ _ _ | assumption | rw [upd_ne _ _ (by first | assumption | (apply Ne.symm; assumption))]))) rfl ?_ | refine afit_i64 (by omega) ?_ | refine arem_nonneg (by omega) (by omega) ?_ | refine adiv_i64 (by omega) (by omega) ?_ | refine abr_yes (by omega) ?_ | refine abr_no (by omega) ?_ | refine amin ?_ | refine amax ?_ | refine afit_u64 (by omega) ?_ | refine afit_u8 (by omega) ?_ | rw [List.length_map]); ((conv => whnf); (repeat ((first | with_reducible refine abr_true rfl ?_ | with_reducible refine abr_false rfl ?_ | with_reducible refine abr_yes rfl ?_ | refine abr_yes (by decide) ?_ | refine abr_no (by decide) ?_ | with_reducible refine abr_same_ne ?_); (conv => whnf))))))
          refine ⟨(i + 1, n + l[i].length), ⟨hil, by dsimp only; rw [hsucc, hbd], by dsimp only; omega, by dsimp only; omega⟩, by dsimp only; omega, Sub.refl _, ?_⟩
          ((conv => whnf); (repeat ((first | with_reducible refine abr_true rfl ?_ | with_reducible refine abr_false rfl ?_ | with_reducible refine abr_yes rfl ?_ | refine abr_yes (by decide) ?_ | refine abr_no (by decide) ?_ | with_reducible refine abr_same_ne ?_); (conv => whnf))))
          (repeat' first | with_reducible exact EnvLe.refl _ | (refine EnvLe.node ?_ (by first | exact Or.inl rfl | exact Or.inr (Or.inl rfl) | exact Or.inr (Or.inr ⟨nofun, VLe.slice _ _ _⟩)) ?_))
    · obtain rfl : i = l.length := by omega
      rw [List.take_of_length_le (Nat.le_refl _)] at hn
      ((conv => whnf); (repeat ((first | with_reducible refine abr_true rfl ?_ | with_reducible refine abr_false rfl ?_ | with_reducible refine abr_yes rfl ?_ | refine abr_yes (by decide) ?_ | refine abr_no (by decide) ?_ | with_reducible refine abr_same_ne ?_); (conv => whnf))))
      (repeat ((first | refine aload (by (repeat (first | with_reducible exact upd_same _ _ _ | assumption | rw [upd_ne _ _ (by first | assumption | (apply Ne.symm; assumption))]))) rfl ?_ | refine afit_i64 (by omega) ?_ | refine arem_nonneg (by omega) (by omega) ?_ | refine adiv_i64 (by omega) (by omega) ?_ | refine abr_yes (by omega) ?_ | refine abr_no (by omega) ?_ | refine amin ?_ | refine amax ?_ | refine afit_u64 (by omega) ?_ | refine afit_u8 (by omega) ?_ | rw [List.length_map]); ((conv => whnf); (repeat ((first | with_reducible refine abr_true rfl ?_ | with_reducible refine abr_false rfl ?_ | with_reducible refine abr_yes rfl ?_ | refine abr_yes (by decide) ?_ | refine abr_no (by decide) ?_ | with_reducible refine abr_same_ne ?_); (conv => whnf))))))
      refine aret_same ⟨?_, rfl⟩
      unfold fieldsV
      rw [if_neg (by omega), hbad, hSZ, if_neg (by simp), if_neg (by omega), hn]
  · have hz := h0 hm
    subst hz
    (repeat ((first | refine aload (by (repeat (first | with_reducible exact upd_same _ _ _ | assumption | rw [upd_ne _ _ (by first | assumption | (apply Ne.symm; assumption))]))) rfl ?_ | refine afit_i64 (by omega) ?_ | refine arem_nonneg (by omega) (by omega) ?_ | refine adiv_i64 (by omega) (by omega) ?_ | refine abr_yes (by omega) ?_ | refine abr_no (by omega) ?_ | refine amin ?_ | refine amax ?_ | refine afit_u64 (by omega) ?_ | refine afit_u8 (by omega) ?_ | rw [List.length_map]); ((conv => whnf); (repeat ((first | with_reducible refine abr_true rfl ?_ | with_reducible refine abr_false rfl ?_ | with_reducible refine abr_yes rfl ?_ | refine abr_yes (by decide) ?_ | refine abr_no (by decide) ?_ | with_reducible refine abr_same_ne ?_); (conv => whnf))))))
    refine aloop (α := Nat × Int) (fun x => [(s8, i64v x.2), (s9, i64v x.1)]) (fun _ => σ) (fun x => x.1 ≤ l.length ∧ fieldsBad l x.1 = false ∧ x.2 = h + 0 + (total (l.take x.1) : Int) ∧ x.2 ≤ 4000) (fun x => l.length - x.1) (0, h) ⟨Nat.zero_le _, rfl, by show h = h + 0 + ((0 : Nat) : Int); omega, by dsimp only; omega⟩ (Sub.refl _) ?_ ?_
    · ((conv => whnf); (repeat ((first | with_reducible refine abr_true rfl ?_ | with_reducible refine abr_false rfl ?_ | with_reducible refine abr_yes rfl ?_ | refine abr_yes (by decide) ?_ | refine abr_no (by decide) ?_ | with_reducible refine abr_same_ne ?_); (conv => whnf))))
      (repeat' first | with_reducible exact EnvLe.refl _ | (refine EnvLe.node ?_ (by first | exact Or.inl rfl | exact Or.inr (Or.inl rfl) | exact Or.inr (Or.inr ⟨nofun, VLe.slice _ _ _⟩)) ?_))
    rintro ⟨i, n⟩ ⟨hi, hbad, hn, hle⟩
    dsimp only at hi hbad hn hle ⊢
    by_cases hil : i < l.length
    · have hts := total_take_succ l i hil
      have htl := total_take_le l (i + 1)
      have hfb := fieldBad_get hil
      have hsucc := fieldsBad_succ l i
      have hdl := hd _ (List.getElem_mem hil)
      rw [hbad, Bool.false_or] at hsucc
      ((conv => whnf); (repeat ((first | with_reducible refine abr_true rfl ?_ | with_reducible refine abr_false rfl ?_ | with_reducible refine abr_yes rfl ?_ | refine abr_yes (by decide) ?_ | refine abr_no (by decide) ?_ | with_reducible refine abr_same_ne ?_); (conv => whnf))))
      (repeat ((first | refine aload (by (repeat (first | with_reducible exact upd_same _ _ _ | assumption | rw [upd_ne _ _ (by first | assumption | (apply Ne.symm; assumption))]))) rfl ?_ | refine afit_i64 (by omega) ?_ | refine arem_nonneg (by omega) (by omega) ?_ | refine adiv_i64 (by omega) (by omega) ?_ | refine abr_yes (by omega) ?_ | refine abr_no (by omega) ?_ | refine amin ?_ | refine amax ?_ | refine afit_u64 (by omega) ?_ | refine afit_u8 (by omega) ?_ | rw [List.length_map]); ((conv => whnf); (repeat ((first | with_reducible refine abr_true rfl ?_ | with_reducible refine abr_false rfl ?_ | with_reducible refine abr_yes rfl ?_ | refine abr_yes (by decide) ?_ | refine abr_no (by decide) ?_ | with_reducible refine abr_same_ne ?_); (conv => whnf))))))
      refine aget (by omega) (get_lists hil) ?_
      ((conv => whnf); (repeat ((first | with_reducible refine abr_true rfl ?_ | with_reducible refine abr_false rfl ?_ | with_reducible refine abr_yes rfl ?_ | refine abr_yes (by decide) ?_ | refine abr_no (by decide) ?_ | with_reducible refine abr_same_ne ?_); (conv => whnf))))
      refine acell rfl ?_
      ((conv => whnf); (repeat ((first | with_reducible refine abr_true rfl ?_ | with_reducible refine abr_false rfl ?_ | with_reducible refine abr_yes rfl ?_ | refine abr_yes (by decide) ?_ | refine abr_no (by decide) ?_ | with_reducible refine abr_same_ne ?_); (conv => whnf))))
      rw [List.length_map]
      by_cases c1 : l[i].length = 0
      · (repeat ((first | refine aload (by (repeat (first | with_reducible exact upd_same _ _ _ | assumption | rw [upd_ne _ _ (by first | assumption | (apply Ne.symm; assumption))]))) rfl ?_ | refine afit_i64 (by omega) ?_ | refine arem_nonneg (by omega) (by omega) ?_ | refine adiv_i64 (by omega) (by omega) ?_ | refine abr_yes (by omega) ?_ | refine abr_no (by omega) ?_ | refine amin ?_ | refine amax ?_ | refine afit_u64 (by omega) ?_ | refine afit_u8 (by omega) ?_ | rw [List.length_map]); ((conv => whnf); (repeat ((first | with_reducible refine abr_true rfl ?_ | with_reducible refine abr_false rfl ?_ | with_reducible refine abr_yes rfl ?_ | refine abr_yes (by decide) ?_ | refine abr_no (by decide) ?_ | with_reducible refine abr_same_ne ?_); (conv => whnf))))))
        have hbd : fieldBad l i = true := by rw [hfb, decide_eq_true (.inl c1)]
        exact aret_same ⟨by rw [hV (.inl (fieldsBad_of hil hbd))], rfl⟩
      (repeat ((first | refine aload (by (repeat (first | with_reducible exact upd_same _ _ _ | assumption | rw [upd_ne _ _ (by first | assumption | (apply Ne.symm; assumption))]))) rfl ?_ | refine afit_i64 (by omega) ?_ | refine arem_nonneg (by omega) (by omega) ?_ | refine adiv_i64 (by omega) (by omega) ?_ | refine abr_yes (by omega) ?_ | refine abr_no (by omega) ?_ | refine amin ?_ | refine amax ?_ | refine afit_u64 (by omega) ?_ | refine afit_u8 (by omega) ?_ | rw [List.length_map]); ((conv => whnf); (repeat ((first | with_reducible refine abr_true rfl ?_ | with_reducible refine abr_false rfl ?_ | with_reducible refine abr_yes rfl ?_ | refine abr_yes (by decide) ?_ | refine abr_no (by decide) ?_ | with_reducible refine abr_same_ne ?_); (conv => whnf))))))
      by_cases c3 : i + 1 < l.length
      · exact absurd c3 (by omega)
      · (repeat ((first | refine aload (by (repeat (first | with_reducible exact upd_same _ _ _ | assumption | rw [upd_ne _ _ (by first | assumption | (apply Ne.symm; assumption))]))) rfl ?_ | refine afit_i64 (by omega) ?_ | refine arem_nonneg (by omega) (by omega) ?_ | refine adiv_i64 (by omega) (by omega) ?_ | refine abr_yes (by omega) ?_ | refine abr_no (by omega) ?_ | refine amin ?_ | refine amax ?_ | refine afit_u64 (by omega) ?_ | refine afit_u8 (by omega) ?_ | rw [List.length_map]); ((conv => whnf); (repeat ((first | with_reducible refine abr_true rfl ?_ | with_reducible refine abr_false rfl ?_ | with_reducible refine abr_yes rfl ?_ | refine abr_yes (by decide) ?_ | refine abr_no (by decide) ?_ | with_reducible refine abr_same_ne ?_); (conv => whnf))))))
        have hbd : fieldBad l i = false := by rw [hfb]; exact decide_eq_false (by omega)
        refine aget (by omega) (get_lists hil) ?_
        ((conv => whnf); (repeat ((first | with_reducible refine abr_true rfl ?_ | with_reducible refine abr_false rfl ?_ | with_reducible refine abr_yes rfl ?_ | refine abr_yes (by decide) ?_ | refine abr_no (by decide) ?_ | with_reducible refine abr_same_ne ?_); (conv => whnf))))
        refine acell rfl ?_
        ((conv => whnf); (repeat ((first | with_reducible refine abr_true rfl ?_ | with_reducible refine abr_false rfl ?_ | with_reducible refine abr_yes rfl ?_ | refine abr_yes (by decide) ?_ | refine abr_no (by decide) ?_ | with_reducible refine abr_same_ne ?_); (conv => whnf))))
        (repeat ((first | refine aload (by (repeat (first | with_reducible exact upd_same _ _ _ | assumption | rw [upd_ne _ _ (by first | assumption | (apply Ne.symm; assumption))]))) rfl ?_ | refine afit_i64 (by omega) ?_ | refine arem_nonneg (by omega) (by omega) ?_ | refine adiv_i64 (by omega) (by omega) ?_ | refine abr_yes (by omega) ?_ | refine abr_no (by omega) ?_ | refine amin ?_ | refine amax ?_ | refine afit_u64 (by omega) ?_ | refine afit_u8 (by omega) ?_ | rw [List.length_map]); ((conv => whnf); (repeat ((first | with_reducible refine abr_true rfl ?_ | with_reducible refine abr_false rfl ?_ | with_reducible refine abr_yes rfl ?_ | refine abr_yes (by decide) ?_ | refine abr_no (by decide) ?_ | with_reducible refine abr_same_ne ?_); (conv => whnf))))))
        by_cases c4 : n + (l[i].length : Int) > 4000
        · (repeat ((first | refine aload (by (repeat (first | with_reducible exact upd_same _ _ _ | assumption | rw [upd_ne _ _ (by first | assumption | (apply Ne.symm; assumption))]))) rfl ?_ | refine afit_i64 (by omega) ?_ | refine arem_nonneg (by omega) (by omega) ?_ | refine adiv_i64 (by omega) (by omega) ?_ | refine abr_yes (by omega) ?_ | refine abr_no (by omega) ?_ | refine amin ?_ | refine amax ?_ | refine afit_u64 (by omega) ?_ | refine afit_u8 (by omega) ?_ | rw [List.length_map]); ((conv => whnf); (repeat ((first | with_reducible refine abr_true rfl ?_ | with_reducible refine abr_false rfl ?_ | with_reducible refine abr_yes rfl ?_ | refine abr_yes (by decide) ?_ | refine abr_no (by decide) ?_ | with_reducible refine abr_same_ne ?_); (conv => whnf))))))
          exact aret_same ⟨by rw [hV (.inr (by omega))], rfl⟩
        · (repeat ((first | refine aload (by (repeat (first | with_reducible exact upd_same _ _ _ | assumption | rw [upd_ne _ _ (by first | assumption | (apply Ne.symm; assumption))]))) rfl ?_ | refine afit_i64 (by omega) ?_ | refine arem_nonneg (by omega) (by omega) ?_ | refine adiv_i64 (by omega) (by omega) ?_ | refine abr_yes (by omega) ?_ | refine abr_no (by omega) ?_ | refine amin ?_ | refine amax ?_ | refine afit_u64 (by omega) ?_ | refine afit_u8 (by omega) ?_ | rw [List.length_map]); ((conv => whnf); (repeat ((first | with_reducible refine abr_true rfl ?_ | with_reducible refine abr_false rfl ?_ | with_reducible refine abr_yes rfl ?_ | refine abr_yes (by decide) ?_ | refine abr_no (by decide) ?_ | with_reducible refine abr_same_ne ?_); (conv => whnf))))))
          refine ⟨(i + 1, n + l[i].length), ⟨hil, by dsimp only; rw [hsucc, hbd], by dsimp only; omega, by dsimp only; omega⟩, by dsimp only; omega, Sub.refl _, ?_⟩
          ((conv => whnf); (repeat ((first | with_reducible refine abr_true rfl ?_ | with_reducible refine abr_false rfl ?_ | with_reducible refine abr_yes rfl ?_ | refine abr_yes (by decide) ?_ | refine abr_no (by decide) ?_ | with_reducible refine abr_same_ne ?_); (conv => whnf))))
          (repeat' first | with_reducible exact EnvLe.refl _ | (refine EnvLe.node ?_ (by first | exact Or.inl rfl | exact Or.inr (Or.inl rfl) | exact Or.inr (Or.inr ⟨nofun, VLe.slice _ _ _⟩)) ?_))
    · obtain rfl : i = l.length := by omega
      rw [List.take_of_length_le (Nat.le_refl _)] at hn
      ((conv => whnf); (repeat ((first | with_reducible refine abr_true rfl ?_ | with_reducible refine abr_false rfl ?_ | with_reducible refine abr_yes rfl ?_ | refine abr_yes (by decide) ?_ | refine abr_no (by decide) ?_ | with_reducible refine abr_same_ne ?_); (conv => whnf))))
      (repeat ((first | refine aload (by (repeat (first | with_reducible exact upd_same _ _ _ | assumption | rw [upd_ne _ _ (by first | assumption | (apply Ne.symm; assumption))]))) rfl ?_ | refine afit_i64 (by omega) ?_ | refine arem_nonneg (by omega) (by omega) ?_ | refine adiv_i64 (by omega) (by omega) ?_ | refine abr_yes (by omega) ?_ | refine abr_no (by omega) ?_ | refine amin ?_ | refine amax ?_ | refine afit_u64 (by omega) ?_ | refine afit_u8 (by omega) ?_ | rw [List.length_map]); ((conv => whnf); (repeat ((first | with_reducible refine abr_true rfl ?_ | with_reducible refine abr_false rfl ?_ | with_reducible refine abr_yes rfl ?_ | refine abr_yes (by decide) ?_ | refine abr_no (by decide) ?_ | with_reducible refine abr_same_ne ?_); (conv => whnf))))))
      refine aret_same ⟨?_, rfl⟩
      unfold fieldsV
      rw [if_neg (by omega), hbad, hSZ, if_neg (by simp), if_neg (by omega), hn]
end Go.Proofs.Ythjjkcmiachpcaa
/-
  Packets that are not acknowledged: the document's bytes.
-/
namespace Go.Proofs.Ythjjkcmiachpcaa
set_option linter.unusedVariables false
set_option linter.unusedSimpArgs false
open Go Go.Am

set_option maxRecDepth 20000 in
theorem refSize09 (fi sn : Int) (l : List (List UInt8)) (w : Int) (σ : AHeap) (hl : l.length ≤ 140737488355320) (hd : ∀ f ∈ l, f.length ≤ 140737488355320) : ACalls Try.prog i_bowlineref09_Size [pkV fi sn l, i64v w] σ fun v σ' => v = i64v (umSize fi sn l w) ∧ σ' = σ := by
  refine k_bowlineref09_Size rfl ?_
  ((conv => whnf); (repeat ((first | with_reducible refine abr_true rfl ?_ | with_reducible refine abr_false rfl ?_ | with_reducible refine abr_yes rfl ?_ | refine abr_yes (by decide) ?_ | refine abr_no (by decide) ?_ | with_reducible refine abr_same_ne ?_); (conv => whnf))))
  refine anew rfl fun id hid => ?_
  have hs : Sub (upd σ id (.cells (pkV fi sn l).cells)) σ := Sub.upd_fresh _ hid
  ((conv => whnf); (repeat ((first | with_reducible refine abr_true rfl ?_ | with_reducible refine abr_false rfl ?_ | with_reducible refine abr_yes rfl ?_ | refine abr_yes (by decide) ?_ | refine abr_no (by decide) ?_ | with_reducible refine abr_same_ne ?_); (conv => whnf))))
  have big (h : umWidth w = false ∨ fi < 0 ∨ fi > 3 ∨ isNum w sn = false) : umSize fi sn l w = 0 := by unfold umSize; rw [if_pos h]
  by_cases hw : w = 5 ∨ w = 10
  · by_cases hw5 : w = 5
    all_goals
      by_cases h1 : fi < 0
      · (repeat ((first | refine aload (by (repeat (first | with_reducible exact upd_same _ _ _ | assumption | rw [upd_ne _ _ (by first | assumption | (apply Ne.symm; assumption))]))) rfl ?_ | refine afit_i64 (by omega) ?_ | refine arem_nonneg (by omega) (by omega) ?_ | refine adiv_i64 (by omega) (by omega) ?_ | refine abr_yes (by omega) ?_ | refine abr_no (by omega) ?_ | refine amin ?_ | refine amax ?_ | refine afit_u64 (by omega) ?_ | refine afit_u8 (by omega) ?_ | rw [List.length_map]); ((conv => whnf); (repeat ((first | with_reducible refine abr_true rfl ?_ | with_reducible refine abr_false rfl ?_ | with_reducible refine abr_yes rfl ?_ | refine abr_yes (by decide) ?_ | refine abr_no (by decide) ?_ | with_reducible refine abr_same_ne ?_); (conv => whnf))))))
        exact aret (VLe.refl _) hs ⟨by rw [big (.inr (.inl h1))], rfl⟩
      by_cases h2 : fi > 3
      · (repeat ((first | refine aload (by (repeat (first | with_reducible exact upd_same _ _ _ | assumption | rw [upd_ne _ _ (by first | assumption | (apply Ne.symm; assumption))]))) rfl ?_ | refine afit_i64 (by omega) ?_ | refine arem_nonneg (by omega) (by omega) ?_ | refine adiv_i64 (by omega) (by omega) ?_ | refine abr_yes (by omega) ?_ | refine abr_no (by omega) ?_ | refine amin ?_ | refine amax ?_ | refine afit_u64 (by omega) ?_ | refine afit_u8 (by omega) ?_ | rw [List.length_map]); ((conv => whnf); (repeat ((first | with_reducible refine abr_true rfl ?_ | with_reducible refine abr_false rfl ?_ | with_reducible refine abr_yes rfl ?_ | refine abr_yes (by decide) ?_ | refine abr_no (by decide) ?_ | with_reducible refine abr_same_ne ?_); (conv => whnf))))))
        exact aret (VLe.refl _) hs ⟨by rw [big (.inr (.inr (.inl h2)))], rfl⟩
      (repeat ((first | refine aload (by (repeat (first | with_reducible exact upd_same _ _ _ | assumption | rw [upd_ne _ _ (by first | assumption | (apply Ne.symm; assumption))]))) rfl ?_ | refine afit_i64 (by omega) ?_ | refine arem_nonneg (by omega) (by omega) ?_ | refine adiv_i64 (by omega) (by omega) ?_ | refine abr_yes (by omega) ?_ | refine abr_no (by omega) ?_ | refine amin ?_ | refine amax ?_ | refine afit_u64 (by omega) ?_ | refine afit_u8 (by omega) ?_ | rw [List.length_map]); ((conv => whnf); (repeat ((first | with_reducible refine abr_true rfl ?_ | with_reducible refine abr_false rfl ?_ | with_reducible refine abr_yes rfl ?_ | refine abr_yes (by decide) ?_ | refine abr_no (by decide) ?_ | with_reducible refine abr_same_ne ?_); (conv => whnf))))))
      refine acall (refIs02 w sn _) ?_
      rintro _ σ_ ⟨rfl, e_⟩
      obtain rfl := e_.symm
      refine ⟨?_, Ext.refl _⟩
      ((conv => whnf); (repeat ((first | with_reducible refine abr_true rfl ?_ | with_reducible refine abr_false rfl ?_ | with_reducible refine abr_yes rfl ?_ | refine abr_yes (by decide) ?_ | refine abr_no (by decide) ?_ | with_reducible refine abr_same_ne ?_); (conv => whnf))))
      cases h3 : isNum w sn with
      | true =>
        ((conv => whnf); (repeat ((first | with_reducible refine abr_true rfl ?_ | with_reducible refine abr_false rfl ?_ | with_reducible refine abr_yes rfl ?_ | refine abr_yes (by decide) ?_ | refine abr_no (by decide) ?_ | with_reducible refine abr_same_ne ?_); (conv => whnf))))
        (repeat ((first | refine aload (by (repeat (first | with_reducible exact upd_same _ _ _ | assumption | rw [upd_ne _ _ (by first | assumption | (apply Ne.symm; assumption))]))) rfl ?_ | refine afit_i64 (by omega) ?_ | refine arem_nonneg (by omega) (by omega) ?_ | refine adiv_i64 (by omega) (by omega) ?_ | refine abr_yes (by omega) ?_ | refine abr_no (by omega) ?_ | refine amin ?_ | refine amax ?_ | refine afit_u64 (by omega) ?_ | refine afit_u8 (by omega) ?_ | rw [List.length_map]); ((conv => whnf); (repeat ((first | with_reducible refine abr_true rfl ?_ | with_reducible refine abr_false rfl ?_ | with_reducible refine abr_yes rfl ?_ | refine abr_yes (by decide) ?_ | refine abr_no (by decide) ?_ | with_reducible refine abr_same_ne ?_); (conv => whnf))))))
        refine acall (refFields l .none (w / 5) 11 _ (by omega) hl hd) ?_
        rintro _ σ_ ⟨rfl, e_⟩
        obtain rfl := e_.symm
        refine ⟨?_, Ext.refl _⟩
        ((conv => whnf); (repeat ((first | with_reducible refine abr_true rfl ?_ | with_reducible refine abr_false rfl ?_ | with_reducible refine abr_yes rfl ?_ | refine abr_yes (by decide) ?_ | refine abr_no (by decide) ?_ | with_reducible refine abr_same_ne ?_); (conv => whnf))))
        refine aret (VLe.refl _) hs ⟨?_, rfl⟩
        unfold umSize
        rw [if_neg]
        rintro (h | h | h | h)
        · rw [umWidth_iff.2 hw] at h; cases h
        · exact h1 h
        · exact h2 h
        · rw [h3] at h; cases h
      | false =>
        ((conv => whnf); (repeat ((first | with_reducible refine abr_true rfl ?_ | with_reducible refine abr_false rfl ?_ | with_reducible refine abr_yes rfl ?_ | refine abr_yes (by decide) ?_ | refine abr_no (by decide) ?_ | with_reducible refine abr_same_ne ?_); (conv => whnf))))
        exact aret (VLe.refl _) hs ⟨by rw [big (.inr (.inr (.inr h3)))], rfl⟩
  · have hw5 : ¬ w = 5 := fun h => hw (.inl h)
    have hw10 : ¬ w = 10 := fun h => hw (.inr h)
    (repeat ((first | refine aload (by (repeat (first | with_reducible exact upd_same _ _ _ | assumption | rw [upd_ne _ _ (by first | assumption | (apply Ne.symm; assumption))]))) rfl ?_ | refine afit_i64 (by omega) ?_ | refine arem_nonneg (by omega) (by omega) ?_ | refine adiv_i64 (by omega) (by omega) ?_ | refine abr_yes (by omega) ?_ | refine abr_no (by omega) ?_ | refine amin ?_ | refine amax ?_ | refine afit_u64 (by omega) ?_ | refine afit_u8 (by omega) ?_ | rw [List.length_map]); ((conv => whnf); (repeat ((first | with_reducible refine abr_true rfl ?_ | with_reducible refine abr_false rfl ?_ | with_reducible refine abr_yes rfl ?_ | refine abr_yes (by decide) ?_ | refine abr_no (by decide) ?_ | with_reducible refine abr_same_ne ?_); (conv => whnf))))))
    exact aret (VLe.refl _) hs ⟨by rw [big (.inl (umWidth_no hw))], rfl⟩

theorem writeBytes_le (l : List Int) (W : Int) : (writeBytes l W).length ≤ 50 := by
  unfold writeBytes
  split
  · rename_i h
    obtain ⟨h1, h2, h3, _⟩ := writeCode_ok h
    rw [pack_length, lenBits_length]
    rcases h1 with rfl | rfl
    · show (l.length * (11 + 1) + 7) / 8 ≤ 50; omega
    · show (l.length * (15 + 1) + 7) / 8 ≤ 50; omega
  · exact Nat.zero_le _
theorem take_flatten_succ (l : List (List UInt8)) (i : Nat) (h : i < l.length) : (l.take (i + 1)).flatten = (l.take i).flatten ++ l[i] := by
  rw [take_snoc (List.getElem?_eq_getElem h), List.flatten_append]; simp

theorem owned_back {σ σ' : AHeap} {tk : Tok} (h : Owned σ σ' tk) : Ext σ' σ := by
  rcases h with ⟨_, rfl⟩ | ⟨t, _, _, rfl⟩
  · exact Ext.refl _
  · intro i o hi e
    by_cases k : i = t
    · subst k; rw [upd_same] at e; cases e; cases hi
    · rw [upd_ne _ _ k] at e; exact e
set_option maxRecDepth 20000 in
theorem refTail (bs : List UInt8) (l : List (List UInt8)) (t tk : Tok) (W : Int) (σ0 σ : AHeap) (ho : Owned σ0 σ tk) (hbs : bs.length ≤ 1000) (hl : l.length ≤ 1000) (ht : total l ≤ 1000000) :
    ACalls Try.prog i_bowlineref09_Tail [sl tk bs, lists t l, i64v W] σ fun v σ' => v = sl .none (bs ++ tailB l W) ∧ σ' = σ0 := by
  refine k_bowlineref09_Tail rfl ?_
  ((conv => whnf); (repeat ((first | with_reducible refine abr_true rfl ?_ | with_reducible refine abr_false rfl ?_ | with_reducible refine abr_yes rfl ?_ | refine abr_yes (by decide) ?_ | refine abr_no (by decide) ?_ | with_reducible refine abr_same_ne ?_); (conv => whnf))))
  refine aloop (α := Nat × Tok × AHeap) (fun x => [(s7, ints x.2.1 ((l.take x.1).map fun f => (f.length : Int))), (s8, i64v x.1)]) (fun x => x.2.2) (fun x => x.1 ≤ l.length - 1 ∧ Owned σ x.2.2 x.2.1) (fun x => l.length - x.1) (0, .full, σ) ⟨Nat.zero_le _, .full _⟩ (Sub.refl _) ?_ ?_
  · ((conv => whnf); (repeat ((first | with_reducible refine abr_true rfl ?_ | with_reducible refine abr_false rfl ?_ | with_reducible refine abr_yes rfl ?_ | refine abr_yes (by decide) ?_ | refine abr_no (by decide) ?_ | with_reducible refine abr_same_ne ?_); (conv => whnf))))
    (repeat' first | with_reducible exact EnvLe.refl _ | (refine EnvLe.node ?_ (by first | exact Or.inl rfl | exact Or.inr (Or.inl rfl) | exact Or.inr (Or.inr ⟨nofun, VLe.slice _ _ _⟩)) ?_))
  rintro ⟨i, tk1, σ1⟩ ⟨hi, ho1⟩
  dsimp only at hi ho1 ⊢
  by_cases h : i + 1 < l.length
  · have h' : i < l.length := by omega
    ((conv => whnf); (repeat ((first | with_reducible refine abr_true rfl ?_ | with_reducible refine abr_false rfl ?_ | with_reducible refine abr_yes rfl ?_ | refine abr_yes (by decide) ?_ | refine abr_no (by decide) ?_ | with_reducible refine abr_same_ne ?_); (conv => whnf))))
    (repeat ((first | refine aload (by (repeat (first | with_reducible exact upd_same _ _ _ | assumption | rw [upd_ne _ _ (by first | assumption | (apply Ne.symm; assumption))]))) rfl ?_ | refine afit_i64 (by omega) ?_ | refine arem_nonneg (by omega) (by omega) ?_ | refine adiv_i64 (by omega) (by omega) ?_ | refine abr_yes (by omega) ?_ | refine abr_no (by omega) ?_ | refine amin ?_ | refine amax ?_ | refine afit_u64 (by omega) ?_ | refine afit_u8 (by omega) ?_ | rw [List.length_map]); ((conv => whnf); (repeat ((first | with_reducible refine abr_true rfl ?_ | with_reducible refine abr_false rfl ?_ | with_reducible refine abr_yes rfl ?_ | refine abr_yes (by decide) ?_ | refine abr_no (by decide) ?_ | with_reducible refine abr_same_ne ?_); (conv => whnf))))))
    refine aget (by omega) (get_lists h') ?_
    ((conv => whnf); (repeat ((first | with_reducible refine abr_true rfl ?_ | with_reducible refine abr_false rfl ?_ | with_reducible refine abr_yes rfl ?_ | refine abr_yes (by decide) ?_ | refine abr_no (by decide) ?_ | with_reducible refine abr_same_ne ?_); (conv => whnf))))
    refine acell rfl ?_
    ((conv => whnf); (repeat ((first | with_reducible refine abr_true rfl ?_ | with_reducible refine abr_false rfl ?_ | with_reducible refine abr_yes rfl ?_ | refine abr_yes (by decide) ?_ | refine abr_no (by decide) ?_ | with_reducible refine abr_same_ne ?_); (conv => whnf))))
    rw [List.length_map]
    refine aapp_sub (ys := [i64v l[i].length]) ho1 (Sub.refl _) (by rw [List.length_map, List.length_map, List.length_take]; show (_ + 1) * 8 ≤ _; omega) fun tk2 σ3 σ4 ho2 hs2 => ?_
    rw [show List.map i64v ((l.take i).map fun f => (f.length : Int)) ++ [i64v l[i].length] = List.map i64v ((l.take (i + 1)).map fun f => (f.length : Int)) by rw [List.take_add_one, List.getElem?_eq_getElem h', List.map_append, List.map_append]; rfl]
    ((conv => whnf); (repeat ((first | with_reducible refine abr_true rfl ?_ | with_reducible refine abr_false rfl ?_ | with_reducible refine abr_yes rfl ?_ | refine abr_yes (by decide) ?_ | refine abr_no (by decide) ?_ | with_reducible refine abr_same_ne ?_); (conv => whnf))))
    (repeat ((first | refine aload (by (repeat (first | with_reducible exact upd_same _ _ _ | assumption | rw [upd_ne _ _ (by first | assumption | (apply Ne.symm; assumption))]))) rfl ?_ | refine afit_i64 (by omega) ?_ | refine arem_nonneg (by omega) (by omega) ?_ | refine adiv_i64 (by omega) (by omega) ?_ | refine abr_yes (by omega) ?_ | refine abr_no (by omega) ?_ | refine amin ?_ | refine amax ?_ | refine afit_u64 (by omega) ?_ | refine afit_u8 (by omega) ?_ | rw [List.length_map]); ((conv => whnf); (repeat ((first | with_reducible refine abr_true rfl ?_ | with_reducible refine abr_false rfl ?_ | with_reducible refine abr_yes rfl ?_ | refine abr_yes (by decide) ?_ | refine abr_no (by decide) ?_ | with_reducible refine abr_same_ne ?_); (conv => whnf))))))
    refine ⟨(i + 1, tk2, σ4), ⟨by dsimp only; omega, ho2⟩, by dsimp only; omega, hs2, ?_⟩
    ((conv => whnf); (repeat ((first | with_reducible refine abr_true rfl ?_ | with_reducible refine abr_false rfl ?_ | with_reducible refine abr_yes rfl ?_ | refine abr_yes (by decide) ?_ | refine abr_no (by decide) ?_ | with_reducible refine abr_same_ne ?_); (conv => whnf))))
    (repeat' first | with_reducible exact EnvLe.refl _ | (refine EnvLe.node ?_ (by first | exact Or.inl rfl | exact Or.inr (Or.inl rfl) | exact Or.inr (Or.inr ⟨nofun, VLe.slice _ _ _⟩)) ?_))
  · obtain rfl : i = l.length - 1 := by omega
    rw [show (l.take (l.length - 1)).map (fun f => (f.length : Int)) = lensOf l from rfl]
    have hll := lensOf_length l
    have hwl := writeBytes_le (lensOf l) W
    have fin : ∀ (pre : List UInt8), pre.length ≤ 1050 → pre ++ l.flatten = bs ++ tailB l W → ∀ (j : Nat), j = l.length → pre ++ (l.take j).flatten = bs ++ tailB l W := by
      rintro pre _ h j rfl
      rw [List.take_of_length_le (Nat.le_refl _)]; exact h
    ((conv => whnf); (repeat ((first | with_reducible refine abr_true rfl ?_ | with_reducible refine abr_false rfl ?_ | with_reducible refine abr_yes rfl ?_ | refine abr_yes (by decide) ?_ | refine abr_no (by decide) ?_ | with_reducible refine abr_same_ne ?_); (conv => whnf))))
    (repeat ((first | refine aload (by (repeat (first | with_reducible exact upd_same _ _ _ | assumption | rw [upd_ne _ _ (by first | assumption | (apply Ne.symm; assumption))]))) rfl ?_ | refine afit_i64 (by omega) ?_ | refine arem_nonneg (by omega) (by omega) ?_ | refine adiv_i64 (by omega) (by omega) ?_ | refine abr_yes (by omega) ?_ | refine abr_no (by omega) ?_ | refine amin ?_ | refine amax ?_ | refine afit_u64 (by omega) ?_ | refine afit_u8 (by omega) ?_ | rw [List.length_map]); ((conv => whnf); (repeat ((first | with_reducible refine abr_true rfl ?_ | with_reducible refine abr_false rfl ?_ | with_reducible refine abr_yes rfl ?_ | refine abr_yes (by decide) ?_ | refine abr_no (by decide) ?_ | with_reducible refine abr_same_ne ?_); (conv => whnf))))))
    rw [hll]
    by_cases h1 : l.length > 1
    · have htl : tailB l W = writeBytes (lensOf l) W ++ l.flatten := by unfold tailB; rw [if_pos h1]
      (repeat ((first | refine aload (by (repeat (first | with_reducible exact upd_same _ _ _ | assumption | rw [upd_ne _ _ (by first | assumption | (apply Ne.symm; assumption))]))) rfl ?_ | refine afit_i64 (by omega) ?_ | refine arem_nonneg (by omega) (by omega) ?_ | refine adiv_i64 (by omega) (by omega) ?_ | refine abr_yes (by omega) ?_ | refine abr_no (by omega) ?_ | refine amin ?_ | refine amax ?_ | refine afit_u64 (by omega) ?_ | refine afit_u8 (by omega) ?_ | rw [List.length_map]); ((conv => whnf); (repeat ((first | with_reducible refine abr_true rfl ?_ | with_reducible refine abr_false rfl ?_ | with_reducible refine abr_yes rfl ?_ | refine abr_yes (by decide) ?_ | refine abr_no (by decide) ?_ | with_reducible refine abr_same_ne ?_); (conv => whnf))))))
      refine acall (refWrite (lensOf l) _ W _ (by omega)) ?_
      rintro _ σ_ ⟨rfl, e_⟩
      obtain rfl := e_.symm
      refine ⟨?_, Ext.refl _⟩
      ((conv => whnf); (repeat ((first | with_reducible refine abr_true rfl ?_ | with_reducible refine abr_false rfl ?_ | with_reducible refine abr_yes rfl ?_ | refine abr_yes (by decide) ?_ | refine abr_no (by decide) ?_ | with_reducible refine abr_same_ne ?_); (conv => whnf))))
      refine aapp_sub ho ho1.sub (by rw [List.length_map, List.length_map]; omega) fun tk2 σ3 σ4 ho2 hs2 => ?_
      rw [← List.map_append]
      ((conv => whnf); (repeat ((first | with_reducible refine abr_true rfl ?_ | with_reducible refine abr_false rfl ?_ | with_reducible refine abr_yes rfl ?_ | refine abr_yes (by decide) ?_ | refine abr_no (by decide) ?_ | with_reducible refine abr_same_ne ?_); (conv => whnf))))
      refine aloop (α := Nat × Tok × AHeap) (fun x => [(s0, sl x.2.1 ((bs ++ writeBytes (lensOf l) W) ++ (l.take x.1).flatten)), (s11, i64v x.1)]) (fun x => x.2.2) (fun x => x.1 ≤ l.length ∧ Owned σ0 x.2.2 x.2.1) (fun x => l.length - x.1) (0, tk2, σ4) ⟨Nat.zero_le _, ho2⟩ hs2 ?_ ?_
      · rw [show (l.take 0).flatten = [] from rfl, List.append_nil]
        ((conv => whnf); (repeat ((first | with_reducible refine abr_true rfl ?_ | with_reducible refine abr_false rfl ?_ | with_reducible refine abr_yes rfl ?_ | refine abr_yes (by decide) ?_ | refine abr_no (by decide) ?_ | with_reducible refine abr_same_ne ?_); (conv => whnf))))
        (repeat' first | with_reducible exact EnvLe.refl _ | (refine EnvLe.node ?_ (by first | exact Or.inl rfl | exact Or.inr (Or.inl rfl) | exact Or.inr (Or.inr ⟨nofun, VLe.slice _ _ _⟩)) ?_))
      rintro ⟨j, tk3, σ5⟩ ⟨hj, ho3⟩
      dsimp only at hj ho3 ⊢
      have hjt := total_take_le l j
      by_cases h2 : j < l.length
      · have hts := total_take_succ l j h2
        have htl2 := total_take_le l (j + 1)
        ((conv => whnf); (repeat ((first | with_reducible refine abr_true rfl ?_ | with_reducible refine abr_false rfl ?_ | with_reducible refine abr_yes rfl ?_ | refine abr_yes (by decide) ?_ | refine abr_no (by decide) ?_ | with_reducible refine abr_same_ne ?_); (conv => whnf))))
        (repeat ((first | refine aload (by (repeat (first | with_reducible exact upd_same _ _ _ | assumption | rw [upd_ne _ _ (by first | assumption | (apply Ne.symm; assumption))]))) rfl ?_ | refine afit_i64 (by omega) ?_ | refine arem_nonneg (by omega) (by omega) ?_ | refine adiv_i64 (by omega) (by omega) ?_ | refine abr_yes (by omega) ?_ | refine abr_no (by omega) ?_ | refine amin ?_ | refine amax ?_ | refine afit_u64 (by omega) ?_ | refine afit_u8 (by omega) ?_ | rw [List.length_map]); ((conv => whnf); (repeat ((first | with_reducible refine abr_true rfl ?_ | with_reducible refine abr_false rfl ?_ | with_reducible refine abr_yes rfl ?_ | refine abr_yes (by decide) ?_ | refine abr_no (by decide) ?_ | with_reducible refine abr_same_ne ?_); (conv => whnf))))))
        refine aget (by omega) (get_lists h2) ?_
        ((conv => whnf); (repeat ((first | with_reducible refine abr_true rfl ?_ | with_reducible refine abr_false rfl ?_ | with_reducible refine abr_yes rfl ?_ | refine abr_yes (by decide) ?_ | refine abr_no (by decide) ?_ | with_reducible refine abr_same_ne ?_); (conv => whnf))))
        refine acell rfl ?_
        ((conv => whnf); (repeat ((first | with_reducible refine abr_true rfl ?_ | with_reducible refine abr_false rfl ?_ | with_reducible refine abr_yes rfl ?_ | refine abr_yes (by decide) ?_ | refine abr_no (by decide) ?_ | with_reducible refine abr_same_ne ?_); (conv => whnf))))
        refine aapp_sub ho3 (Sub.refl _) (by rw [List.length_map, List.length_map, List.length_append, List.length_append]; show (_ + total (l.take j) + _) * 1 ≤ _; omega) fun tk4 σ6 σ7 ho4 hs4 => ?_
        rw [← List.map_append, List.append_assoc _ _ l[j], ← take_flatten_succ l j h2]
        ((conv => whnf); (repeat ((first | with_reducible refine abr_true rfl ?_ | with_reducible refine abr_false rfl ?_ | with_reducible refine abr_yes rfl ?_ | refine abr_yes (by decide) ?_ | refine abr_no (by decide) ?_ | with_reducible refine abr_same_ne ?_); (conv => whnf))))
        (repeat ((first | refine aload (by (repeat (first | with_reducible exact upd_same _ _ _ | assumption | rw [upd_ne _ _ (by first | assumption | (apply Ne.symm; assumption))]))) rfl ?_ | refine afit_i64 (by omega) ?_ | refine arem_nonneg (by omega) (by omega) ?_ | refine adiv_i64 (by omega) (by omega) ?_ | refine abr_yes (by omega) ?_ | refine abr_no (by omega) ?_ | refine amin ?_ | refine amax ?_ | refine afit_u64 (by omega) ?_ | refine afit_u8 (by omega) ?_ | rw [List.length_map]); ((conv => whnf); (repeat ((first | with_reducible refine abr_true rfl ?_ | with_reducible refine abr_false rfl ?_ | with_reducible refine abr_yes rfl ?_ | refine abr_yes (by decide) ?_ | refine abr_no (by decide) ?_ | with_reducible refine abr_same_ne ?_); (conv => whnf))))))
        refine ⟨(j + 1, tk4, σ7), ⟨h2, ho4⟩, by dsimp only; omega, hs4, ?_⟩
        ((conv => whnf); (repeat ((first | with_reducible refine abr_true rfl ?_ | with_reducible refine abr_false rfl ?_ | with_reducible refine abr_yes rfl ?_ | refine abr_yes (by decide) ?_ | refine abr_no (by decide) ?_ | with_reducible refine abr_same_ne ?_); (conv => whnf))))
        (repeat' first | with_reducible exact EnvLe.refl _ | (refine EnvLe.node ?_ (by first | exact Or.inl rfl | exact Or.inr (Or.inl rfl) | exact Or.inr (Or.inr ⟨nofun, VLe.slice _ _ _⟩)) ?_))
      · have := fin (bs ++ writeBytes (lensOf l) W) (by rw [List.length_append]; omega) (by rw [htl, List.append_assoc]) j (by omega)
        rw [this]
        ((conv => whnf); (repeat ((first | with_reducible refine abr_true rfl ?_ | with_reducible refine abr_false rfl ?_ | with_reducible refine abr_yes rfl ?_ | refine abr_yes (by decide) ?_ | refine abr_no (by decide) ?_ | with_reducible refine abr_same_ne ?_); (conv => whnf))))
        (repeat ((first | refine aload (by (repeat (first | with_reducible exact upd_same _ _ _ | assumption | rw [upd_ne _ _ (by first | assumption | (apply Ne.symm; assumption))]))) rfl ?_ | refine afit_i64 (by omega) ?_ | refine arem_nonneg (by omega) (by omega) ?_ | refine adiv_i64 (by omega) (by omega) ?_ | refine abr_yes (by omega) ?_ | refine abr_no (by omega) ?_ | refine amin ?_ | refine amax ?_ | refine afit_u64 (by omega) ?_ | refine afit_u8 (by omega) ?_ | rw [List.length_map]); ((conv => whnf); (repeat ((first | with_reducible refine abr_true rfl ?_ | with_reducible refine abr_false rfl ?_ | with_reducible refine abr_yes rfl ?_ | refine abr_yes (by decide) ?_ | refine abr_no (by decide) ?_ | with_reducible refine abr_same_ne ?_); (conv => whnf))))))
        exact aret_sl ho3.sub ⟨rfl, rfl⟩
    · have htl : tailB l W = l.flatten := by unfold tailB; rw [if_neg h1]; rfl
      (repeat ((first | refine aload (by (repeat (first | with_reducible exact upd_same _ _ _ | assumption | rw [upd_ne _ _ (by first | assumption | (apply Ne.symm; assumption))]))) rfl ?_ | refine afit_i64 (by omega) ?_ | refine arem_nonneg (by omega) (by omega) ?_ | refine adiv_i64 (by omega) (by omega) ?_ | refine abr_yes (by omega) ?_ | refine abr_no (by omega) ?_ | refine amin ?_ | refine amax ?_ | refine afit_u64 (by omega) ?_ | refine afit_u8 (by omega) ?_ | rw [List.length_map]); ((conv => whnf); (repeat ((first | with_reducible refine abr_true rfl ?_ | with_reducible refine abr_false rfl ?_ | with_reducible refine abr_yes rfl ?_ | refine abr_yes (by decide) ?_ | refine abr_no (by decide) ?_ | with_reducible refine abr_same_ne ?_); (conv => whnf))))))
      obtain ⟨σ1', ho1'⟩ : ∃ s, Owned σ0 s tk ∧ Sub σ1 s := ⟨σ, ho, ho1.sub⟩
      refine aloop (α := Nat × Tok × AHeap) (fun x => [(s0, sl x.2.1 (bs ++ (l.take x.1).flatten)), (s11, i64v x.1)]) (fun x => x.2.2) (fun x => x.1 ≤ l.length ∧ Owned σ0 x.2.2 x.2.1) (fun x => l.length - x.1) (0, tk, σ) ⟨Nat.zero_le _, ho⟩ ho1.sub ?_ ?_
      · rw [show (l.take 0).flatten = [] from rfl, List.append_nil]
        ((conv => whnf); (repeat ((first | with_reducible refine abr_true rfl ?_ | with_reducible refine abr_false rfl ?_ | with_reducible refine abr_yes rfl ?_ | refine abr_yes (by decide) ?_ | refine abr_no (by decide) ?_ | with_reducible refine abr_same_ne ?_); (conv => whnf))))
        (repeat' first | with_reducible exact EnvLe.refl _ | (refine EnvLe.node ?_ (by first | exact Or.inl rfl | exact Or.inr (Or.inl rfl) | exact Or.inr (Or.inr ⟨nofun, VLe.slice _ _ _⟩)) ?_))
      rintro ⟨j, tk3, σ5⟩ ⟨hj, ho3⟩
      dsimp only at hj ho3 ⊢
      have hjt := total_take_le l j
      by_cases h2 : j < l.length
      · have hts := total_take_succ l j h2
        have htl2 := total_take_le l (j + 1)
        ((conv => whnf); (repeat ((first | with_reducible refine abr_true rfl ?_ | with_reducible refine abr_false rfl ?_ | with_reducible refine abr_yes rfl ?_ | refine abr_yes (by decide) ?_ | refine abr_no (by decide) ?_ | with_reducible refine abr_same_ne ?_); (conv => whnf))))
        (repeat ((first | refine aload (by (repeat (first | with_reducible exact upd_same _ _ _ | assumption | rw [upd_ne _ _ (by first | assumption | (apply Ne.symm; assumption))]))) rfl ?_ | refine afit_i64 (by omega) ?_ | refine arem_nonneg (by omega) (by omega) ?_ | refine adiv_i64 (by omega) (by omega) ?_ | refine abr_yes (by omega) ?_ | refine abr_no (by omega) ?_ | refine amin ?_ | refine amax ?_ | refine afit_u64 (by omega) ?_ | refine afit_u8 (by omega) ?_ | rw [List.length_map]); ((conv => whnf); (repeat ((first | with_reducible refine abr_true rfl ?_ | with_reducible refine abr_false rfl ?_ | with_reducible refine abr_yes rfl ?_ | refine abr_yes (by decide) ?_ | refine abr_no (by decide) ?_ | with_reducible refine abr_same_ne ?_); (conv => whnf))))))
        refine aget (by omega) (get_lists h2) ?_
        ((conv => whnf); (repeat ((first | with_reducible refine abr_true rfl ?_ | with_reducible refine abr_false rfl ?_ | with_reducible refine abr_yes rfl ?_ | refine abr_yes (by decide) ?_ | refine abr_no (by decide) ?_ | with_reducible refine abr_same_ne ?_); (conv => whnf))))
        refine acell rfl ?_
        ((conv => whnf); (repeat ((first | with_reducible refine abr_true rfl ?_ | with_reducible refine abr_false rfl ?_ | with_reducible refine abr_yes rfl ?_ | refine abr_yes (by decide) ?_ | refine abr_no (by decide) ?_ | with_reducible refine abr_same_ne ?_); (conv => whnf))))
        refine aapp_sub ho3 (Sub.refl _) (by rw [List.length_map, List.length_map, List.length_append]; show (_ + total (l.take j) + _) * 1 ≤ _; omega) fun tk4 σ6 σ7 ho4 hs4 => ?_
        rw [← List.map_append, List.append_assoc _ _ l[j], ← take_flatten_succ l j h2]
        ((conv => whnf); (repeat ((first | with_reducible refine abr_true rfl ?_ | with_reducible refine abr_false rfl ?_ | with_reducible refine abr_yes rfl ?_ | refine abr_yes (by decide) ?_ | refine abr_no (by decide) ?_ | with_reducible refine abr_same_ne ?_); (conv => whnf))))
        (repeat ((first | refine aload (by (repeat (first | with_reducible exact upd_same _ _ _ | assumption | rw [upd_ne _ _ (by first | assumption | (apply Ne.symm; assumption))]))) rfl ?_ | refine afit_i64 (by omega) ?_ | refine arem_nonneg (by omega) (by omega) ?_ | refine adiv_i64 (by omega) (by omega) ?_ | refine abr_yes (by omega) ?_ | refine abr_no (by omega) ?_ | refine amin ?_ | refine amax ?_ | refine afit_u64 (by omega) ?_ | refine afit_u8 (by omega) ?_ | rw [List.length_map]); ((conv => whnf); (repeat ((first | with_reducible refine abr_true rfl ?_ | with_reducible refine abr_false rfl ?_ | with_reducible refine abr_yes rfl ?_ | refine abr_yes (by decide) ?_ | refine abr_no (by decide) ?_ | with_reducible refine abr_same_ne ?_); (conv => whnf))))))
        refine ⟨(j + 1, tk4, σ7), ⟨h2, ho4⟩, by dsimp only; omega, hs4, ?_⟩
        ((conv => whnf); (repeat ((first | with_reducible refine abr_true rfl ?_ | with_reducible refine abr_false rfl ?_ | with_reducible refine abr_yes rfl ?_ | refine abr_yes (by decide) ?_ | refine abr_no (by decide) ?_ | with_reducible refine abr_same_ne ?_); (conv => whnf))))
        (repeat' first | with_reducible exact EnvLe.refl _ | (refine EnvLe.node ?_ (by first | exact Or.inl rfl | exact Or.inr (Or.inl rfl) | exact Or.inr (Or.inr ⟨nofun, VLe.slice _ _ _⟩)) ?_))
      · have := fin bs (by omega) (by rw [htl]) j (by omega)
        rw [this]
        ((conv => whnf); (repeat ((first | with_reducible refine abr_true rfl ?_ | with_reducible refine abr_false rfl ?_ | with_reducible refine abr_yes rfl ?_ | refine abr_yes (by decide) ?_ | refine abr_no (by decide) ?_ | with_reducible refine abr_same_ne ?_); (conv => whnf))))
        (repeat ((first | refine aload (by (repeat (first | with_reducible exact upd_same _ _ _ | assumption | rw [upd_ne _ _ (by first | assumption | (apply Ne.symm; assumption))]))) rfl ?_ | refine afit_i64 (by omega) ?_ | refine arem_nonneg (by omega) (by omega) ?_ | refine adiv_i64 (by omega) (by omega) ?_ | refine abr_yes (by omega) ?_ | refine abr_no (by omega) ?_ | refine amin ?_ | refine amax ?_ | refine afit_u64 (by omega) ?_ | refine afit_u8 (by omega) ?_ | rw [List.length_map]); ((conv => whnf); (repeat ((first | with_reducible refine abr_true rfl ?_ | with_reducible refine abr_false rfl ?_ | with_reducible refine abr_yes rfl ?_ | refine abr_yes (by decide) ?_ | refine abr_no (by decide) ?_ | with_reducible refine abr_same_ne ?_); (conv => whnf))))))
        exact aret_sl ho3.sub ⟨rfl, rfl⟩

set_option maxRecDepth 20000 in
theorem refWrite09 (fi sn : Int) (l : List (List UInt8)) (w : Int) (σ : AHeap) (hok : umSize fi sn l w > 0) : ACalls Try.prog i_bowlineref09_Write [pkV fi sn l, i64v w] σ fun v σ' => v = sl .none (pack (umBits fi sn l w) ++ tailB l 11) ∧ σ' = σ := by
  obtain ⟨hw2, hf1, hf2, hsn, hfv⟩ := umSize_ok hok
  have hfo := fieldsV_ok hfv
  have g1 := hfo.one
  have g2 := hfo.most
  have g3 := hfo.fits
  have gs := sizeV_range ((l.length : Int) - 1) 11
  have hz : zeros w ≤ 3 := by unfold zeros; split <;> omega
  obtain ⟨f, rfl⟩ : ∃ f : Nat, fi = f := ⟨fi.toNat, by omega⟩
  obtain ⟨m, rfl⟩ : ∃ m : Nat, sn = m := ⟨sn.toNat, by omega⟩
  obtain ⟨W, rfl⟩ : ∃ W : Nat, w = W := ⟨w.toNat, by omega⟩
  rw [Int.toNat_natCast] at hsn
  have hsn2 : m < 2 ^ W := by
    have := hsn.2
    generalize 2 ^ W = q at *
    omega
  have hpow : 2 ^ W ≤ 2 ^ 10 := Nat.pow_le_pow_right (by omega) (by omega)
  have hbits : numBits 0 (zeros (W : Int)) ++ numBits f 2 ++ [umMore l] ++ numBits m W = umBits (f : Int) (m : Int) l (W : Int) := by unfold umBits; rw [Int.toNat_natCast, Int.toNat_natCast, Int.toNat_natCast]
  have hbl : (umBits (f : Int) (m : Int) l (W : Int)).length ≤ 16 := by rw [← hbits, List.length_append, List.length_append, List.length_append, numBits_length, numBits_length, numBits_length]; show _ + 1 + _ ≤ _; omega
  have hpl := pack_length (umBits (f : Int) (m : Int) l (W : Int))
  have hmo : @decide ((1 : Int) < (l.length : Int)) (ltDec 1 _) = umMore l := dec_congr (by omega)
  refine k_bowlineref09_Write rfl ?_
  ((conv => whnf); (repeat ((first | with_reducible refine abr_true rfl ?_ | with_reducible refine abr_false rfl ?_ | with_reducible refine abr_yes rfl ?_ | refine abr_yes (by decide) ?_ | refine abr_no (by decide) ?_ | with_reducible refine abr_same_ne ?_); (conv => whnf))))
  refine anew rfl fun id hid => ?_
  generalize hσ0 : upd σ id (.cells (pkV (f : Int) (m : Int) l).cells) = σ0
  have hs : Sub σ0 σ := by rw [← hσ0]; exact Sub.upd_fresh _ hid
  have hc0 : σ0 id = some (.cells [i64v f, i64v m, lists .none l]) := by rw [← hσ0]; exact upd_same _ _ _
  ((conv => whnf); (repeat ((first | with_reducible refine abr_true rfl ?_ | with_reducible refine abr_false rfl ?_ | with_reducible refine abr_yes rfl ?_ | refine abr_yes (by decide) ?_ | refine abr_no (by decide) ?_ | with_reducible refine abr_same_ne ?_); (conv => whnf))))
  by_cases h10 : W = 10
  all_goals
    have hz0 : numBits 0 (zeros (W : Int)) = if W = 10 then [false, false, false] else [] := by
      unfold zeros
      by_cases h : W = 10
      · rw [if_pos (by omega), if_pos h]; rfl
      · rw [if_neg (by omega), if_neg h]; rfl
    first | rw [if_pos h10] at hz0 | rw [if_neg h10] at hz0
    have hzl := numBits_length 0 (zeros (W : Int))
    have hp := refPutO (numBits 0 (zeros (W : Int))) .full f 2 σ0 (by omega) (by omega)
    have hgood := (put_num (numBits 0 (zeros (W : Int))) f 2 (by omega) (by omega) (by omega)).1
    rw [hz0] at hp hbits hzl hgood
    (repeat ((first | refine aload (by (repeat (first | with_reducible exact upd_same _ _ _ | assumption | rw [upd_ne _ _ (by first | assumption | (apply Ne.symm; assumption))]))) rfl ?_ | refine afit_i64 (by omega) ?_ | refine arem_nonneg (by omega) (by omega) ?_ | refine adiv_i64 (by omega) (by omega) ?_ | refine abr_yes (by omega) ?_ | refine abr_no (by omega) ?_ | refine amin ?_ | refine amax ?_ | refine afit_u64 (by omega) ?_ | refine afit_u8 (by omega) ?_ | rw [List.length_map]); ((conv => whnf); (repeat ((first | with_reducible refine abr_true rfl ?_ | with_reducible refine abr_false rfl ?_ | with_reducible refine abr_yes rfl ?_ | refine abr_yes (by decide) ?_ | refine abr_no (by decide) ?_ | with_reducible refine abr_same_ne ?_); (conv => whnf))))))
    refine acall hp ?_
    rintro _ σ1 (⟨_, tk1, ho1, rfl⟩ | ⟨hbad, _, _⟩)
    case inr => exact absurd hgood hbad
    refine ⟨?_, ho1.ext⟩
    rw [show (2 : Int).toNat = 2 from rfl]
    have hc1 := ho1.same_of hc0
    have hl1 := numBits_length f 2
    have hl2 := numBits_length m W
    ((conv => whnf); (repeat ((first | with_reducible refine abr_true rfl ?_ | with_reducible refine abr_false rfl ?_ | with_reducible refine abr_yes rfl ?_ | refine abr_yes (by decide) ?_ | refine abr_no (by decide) ?_ | with_reducible refine abr_same_ne ?_); (conv => whnf))))
    refine aload hc1 rfl ?_
    ((conv => whnf); (repeat ((first | with_reducible refine abr_true rfl ?_ | with_reducible refine abr_false rfl ?_ | with_reducible refine abr_yes rfl ?_ | refine abr_yes (by decide) ?_ | refine abr_no (by decide) ?_ | with_reducible refine abr_same_ne ?_); (conv => whnf))))
    rw [List.length_map, hmo]
    refine aapp_sub (ys := [boolv (umMore l)]) ho1 (Sub.refl _) (by rw [List.length_map, List.length_append]; show (_ + 1) * 1 ≤ _; omega) fun tk2 σ2 σ3 ho2 hs2 => ?_
    ((conv => whnf); (repeat ((first | with_reducible refine abr_true rfl ?_ | with_reducible refine abr_false rfl ?_ | with_reducible refine abr_yes rfl ?_ | refine abr_yes (by decide) ?_ | refine abr_no (by decide) ?_ | with_reducible refine abr_same_ne ?_); (conv => whnf))))
    refine aload (hs2 _ _ (ho2.same_of hc0)) rfl ?_
    ((conv => whnf); (repeat ((first | with_reducible refine abr_true rfl ?_ | with_reducible refine abr_false rfl ?_ | with_reducible refine abr_yes rfl ?_ | refine abr_yes (by decide) ?_ | refine abr_no (by decide) ?_ | with_reducible refine abr_same_ne ?_); (conv => whnf))))
    (repeat ((first | refine aload (by (repeat (first | with_reducible exact upd_same _ _ _ | assumption | rw [upd_ne _ _ (by first | assumption | (apply Ne.symm; assumption))]))) rfl ?_ | refine afit_i64 (by omega) ?_ | refine arem_nonneg (by omega) (by omega) ?_ | refine adiv_i64 (by omega) (by omega) ?_ | refine abr_yes (by omega) ?_ | refine abr_no (by omega) ?_ | refine amin ?_ | refine amax ?_ | refine afit_u64 (by omega) ?_ | refine afit_u8 (by omega) ?_ | rw [List.length_map]); ((conv => whnf); (repeat ((first | with_reducible refine abr_true rfl ?_ | with_reducible refine abr_false rfl ?_ | with_reducible refine abr_yes rfl ?_ | refine abr_yes (by decide) ?_ | refine abr_no (by decide) ?_ | with_reducible refine abr_same_ne ?_); (conv => whnf))))))
    rw [show ∀ z : List Bool, List.map boolv (z ++ numBits f 2) ++ [boolv (umMore l)] = List.map boolv (z ++ numBits f 2 ++ [umMore l]) from fun z => by simp]
    refine acall (refPutO _ tk2 m (W : Int) _ (by omega) (by rw [List.length_append, List.length_append, hl1]; show _ + 1 ≤ _; omega)) ?_
    rintro _ σ4 (⟨_, tk4, ho4, rfl⟩ | ⟨hbad, _, _⟩)
    case inr => exact absurd (put_num _ m W (by rw [List.length_append, List.length_append, hl1]; show _ + 1 + _ ≤ _; omega) (by omega) hsn2).1 hbad
    refine ⟨?_, ho4.ext⟩
    rw [Int.toNat_natCast, hbits]
    ((conv => whnf); (repeat ((first | with_reducible refine abr_true rfl ?_ | with_reducible refine abr_false rfl ?_ | with_reducible refine abr_yes rfl ?_ | refine abr_yes (by decide) ?_ | refine abr_no (by decide) ?_ | with_reducible refine abr_same_ne ?_); (conv => whnf))))
    refine aload (ho4.same_of (hs2 _ _ (ho2.same_of hc0))) rfl ?_
    ((conv => whnf); (repeat ((first | with_reducible refine abr_true rfl ?_ | with_reducible refine abr_false rfl ?_ | with_reducible refine abr_yes rfl ?_ | refine abr_yes (by decide) ?_ | refine abr_no (by decide) ?_ | with_reducible refine abr_same_ne ?_); (conv => whnf))))
    refine acall (refBytesO _ tk4 _ (by omega)) ?_
    rintro _ σ5 ⟨tk5, ho5, rfl⟩
    refine ⟨?_, ho5.ext⟩
    ((conv => whnf); (repeat ((first | with_reducible refine abr_true rfl ?_ | with_reducible refine abr_false rfl ?_ | with_reducible refine abr_yes rfl ?_ | refine abr_yes (by decide) ?_ | refine abr_no (by decide) ?_ | with_reducible refine abr_same_ne ?_); (conv => whnf))))
    refine acall (refTail _ l .none tk5 11 _ _ ho5 (by omega) (by omega) (by omega)) ?_
    rintro _ σ_ ⟨rfl, rfl⟩
    refine ⟨?_, owned_back ho5⟩
    ((conv => whnf); (repeat ((first | with_reducible refine abr_true rfl ?_ | with_reducible refine abr_false rfl ?_ | with_reducible refine abr_yes rfl ?_ | refine abr_yes (by decide) ?_ | refine abr_no (by decide) ?_ | with_reducible refine abr_same_ne ?_); (conv => whnf))))
    exact aret (VLe.refl _) (((ho4.sub.trans hs2).trans ho2.sub).trans hs) ⟨rfl, rfl⟩
end Go.Proofs.Ythjjkcmiachpcaa
/-
  The bodies of one package, compiled to the framework's language (printed by a program of this session).
-/
namespace Go.Proofs.Ythjjkcmiachpcaa
set_option linter.unusedVariables false
set_option linter.unusedSimpArgs false
open Go Go.Am
/- bytes.Equal -/
def c40 : Cfg := ⟨qs, [], 10, []⟩
def ir40 : IFun := ⟨2, [.tmp s4],
  (.seq (.reg (.one ⟨some s4, none, (.mv (.c (.v (.bool false))))⟩
    .done))
  (.seq (.reg (.one ⟨some s5, none, (.mv (.t s0))⟩
    (.one ⟨some s6, none, (.b2s (.t s5))⟩
    (.one ⟨some s7, none, (.mv (.t s1))⟩
    (.one ⟨some s8, none, (.b2s (.t s7))⟩
    (.one ⟨some s9, none, (.bin false .eql (.t s6) (.t s8))⟩
    (.one ⟨some s4, none, (.mv (.t s9))⟩
    .done)))))))
  .ret))⟩
theorem ok40 : compF Try.prog c40 Try.f40 = some ir40 := by kernel_rfl
theorem k_bytes_Equal {args : List AVal} {σ : AHeap} {Q : AVal → AHeap → Prop} (hl : Nat.ble args.length 10 = true) (h : argsK (Env.full 9) 0 args fun env => evC Try.prog c40 ir40.body env σ (retQ ir40 Q)) : ACalls Try.prog 40 args σ Q :=
  acalls_of Try.func40 ok40 rfl (Nat.le_of_ble_eq_true hl) h
end Go.Proofs.Ythjjkcmiachpcaa
/-
  The bodies of one package, compiled to the framework's language (printed by a program of this session).
-/
namespace Go.Proofs.Ythjjkcmiachpcaa
set_option linter.unusedVariables false
set_option linter.unusedSimpArgs false
open Go Go.Am
/- bowlinelaw09.UmdReads -/
def c3 : Cfg := ⟨[], [], 56, []⟩
def ir3 : IFun := ⟨2, [.tmp s4],
  (.seq (.reg (.one ⟨some s4, none, (.mv (.c (.v (.bool false))))⟩
    .done))
  (.seq (.seq (.reg (.one ⟨some s11, none, (.mv (.t s0))⟩
    (.one ⟨some s12, none, (.len false (.t s11))⟩
    (.one ⟨some s13, none, (.bin false .gtr (.t s12) (.c (.v (.int .i64 4100))))⟩
    .done))))
  (.cond (.t s13) (.seq (.reg (.one ⟨some s14, none, (.call 7 [])⟩
    (.one ⟨some s4, none, (.mv (.t s14))⟩
    .done)))
  .ret) .skip))
  (.seq (.reg (.one ⟨some s15, none, (.row 1 [])⟩
    (.one ⟨some s16, none, (.mv (.t s0))⟩
    (.one ⟨some s17, none, (.app 1 1 (.t s15) (.t s16))⟩
    (.one ⟨some s5, none, (.mv (.t s17))⟩
    .done)))))
  (.seq (.reg (.one ⟨some s19, none, (.mv (.t s5))⟩
    (.one ⟨some s20, none, (.mv (.t s1))⟩
    (.one ⟨some s21, none, (.call 8 [(.t s19), (.t s20)])⟩
    (.one ⟨some s18, none, (.mv (.t s21))⟩
    (.one ⟨some s22, none, (.ext (.t s18) 0)⟩
    (.one ⟨some s23, none, (.ext (.t s18) 1)⟩
    (.one ⟨some s6, none, (.new [(.v (.int .i64 0)), (.v (.int .i64 0)), (.slice 1 [] .full)])⟩
    (.one ⟨none, none, (.store 3 (.t s6) (.t s22))⟩
    (.one ⟨some s7, none, (.mv (.t s23))⟩
    .done))))))))))
  (.seq (.seq (.reg (.one ⟨some s8, none, (.mv (.c (.v (.int .i64 0))))⟩
    .done))
  (.block 0 (.loop (.seq (.seq (.reg (.one ⟨some s24, none, (.mv (.t s8))⟩
    (.one ⟨some s25, none, (.mv (.t s5))⟩
    (.one ⟨some s26, none, (.len false (.t s25))⟩
    (.one ⟨some s27, none, (.bin false .lss (.t s24) (.t s26))⟩
    .done)))))
  (.cond (.t s27) .skip (.exit 0)))
  (.seq (.block 1 (.reg (.one ⟨some s30, none, (.mv (.t s5))⟩
    (.one ⟨some s31, none, (.mv (.t s8))⟩
    (.one ⟨some s32, none, (.mv (.t s5))⟩
    (.one ⟨some s33, none, (.mv (.t s8))⟩
    (.one ⟨some s34, none, (.iaddr 1 (.t s32) (.t s33))⟩
    (.one ⟨some s35, none, (.load none (.t s34))⟩
    (.one ⟨some s36, none, (.bin false .xor (.t s35) (.c (.v (.int .u8 255))))⟩
    (.one ⟨some s37, none, (.iaddr 1 (.t s30) (.t s31))⟩
    (.one ⟨none, none, (.store 1 (.t s37) (.t s36))⟩
    .done)))))))))))
  (.reg (.one ⟨some s28, none, (.mv (.t s8))⟩
    (.one ⟨some s29, none, (.bin false .add (.t s28) (.c (.v (.int .i64 1))))⟩
    (.one ⟨some s8, none, (.mv (.t s29))⟩
    .done)))))))))
  (.seq (.reg (.one ⟨some s39, none, (.mv (.t s0))⟩
    (.one ⟨some s40, none, (.mv (.t s1))⟩
    (.one ⟨some s41, none, (.call 9 [(.t s39), (.t s40)])⟩
    (.one ⟨some s38, none, (.mv (.t s41))⟩
    (.one ⟨some s42, none, (.ext (.t s38) 0)⟩
    (.one ⟨some s43, none, (.ext (.t s38) 1)⟩
    (.one ⟨some s9, none, (.new [(.v (.int .i64 0)), (.v (.int .i64 0)), (.slice 1 [] .full)])⟩
    (.one ⟨none, none, (.store 3 (.t s9) (.t s42))⟩
    (.one ⟨some s10, none, (.mv (.t s43))⟩
    .done))))))))))
  (.seq (.reg (.one ⟨some s44, none, (.call 7 [])⟩
    (.one ⟨some s45, none, (.mv (.t s44))⟩
    (.one ⟨some s46, some (s45, true), (.mv (.t s7))⟩
    (.one ⟨some s47, some (s45, true), (.mv (.t s10))⟩
    (.one ⟨some s48, some (s45, true), (.bin false .eql (.t s46) (.t s47))⟩
    (.one ⟨some s49, none, (.pick (.t s45) (.t s48) (.c (.v (.bool false))))⟩
    (.one ⟨some s50, none, (.mv (.t s49))⟩
    (.both (.one ⟨some s51, some (s50, true), (.load (some 3) (.t s6))⟩
    (.both (.one ⟨some s52, some (s50, true), (.call 11 [(.t s51)])⟩
    (.one ⟨some s53, some (s50, true), (.load (some 3) (.t s9))⟩
    (.one ⟨some s54, some (s50, true), (.call 10 [(.t s52), (.t s53)])⟩
    (.one ⟨some s55, none, (.pick (.t s50) (.t s54) (.c (.v (.bool false))))⟩
    (.one ⟨some s4, none, (.mv (.t s55))⟩
    .done))))) (.one ⟨some s53, some (s50, true), (.load (some 3) (.t s9))⟩
    (.one ⟨some s52, some (s50, true), (.call 11 [(.t s51)])⟩
    (.one ⟨some s54, some (s50, true), (.call 10 [(.t s52), (.t s53)])⟩
    (.one ⟨some s55, none, (.pick (.t s50) (.t s54) (.c (.v (.bool false))))⟩
    (.one ⟨some s4, none, (.mv (.t s55))⟩
    .done))))))) (.one ⟨some s53, some (s50, true), (.load (some 3) (.t s9))⟩
    (.one ⟨some s51, some (s50, true), (.load (some 3) (.t s6))⟩
    (.one ⟨some s52, some (s50, true), (.call 11 [(.t s51)])⟩
    (.one ⟨some s54, some (s50, true), (.call 10 [(.t s52), (.t s53)])⟩
    (.one ⟨some s55, none, (.pick (.t s50) (.t s54) (.c (.v (.bool false))))⟩
    (.one ⟨some s4, none, (.mv (.t s55))⟩
    .done)))))))))))))))
  .ret)))))))⟩
theorem ok3 : compF Try.prog c3 Try.f3 = some ir3 := by kernel_rfl
theorem k_bowlinelaw09_UmdReads {args : List AVal} {σ : AHeap} {Q : AVal → AHeap → Prop} (hl : Nat.ble args.length 56 = true) (h : argsK (Env.full 9) 0 args fun env => evC Try.prog c3 ir3.body env σ (retQ ir3 Q)) : ACalls Try.prog 3 args σ Q :=
  acalls_of Try.func3 ok3 rfl (Nat.le_of_ble_eq_true hl) h
/- bowlinelaw09.UmdReads -/
def c3m : Cfg := ⟨[], [22], 56, []⟩
def ir3m : IFun := ⟨2, [.tmp s4],
  (.seq (.reg (.one ⟨some s4, none, (.mv (.c (.v (.bool false))))⟩
    .done))
  (.seq (.seq (.reg (.one ⟨some s11, none, (.mv (.t s0))⟩
    (.one ⟨some s12, none, (.len false (.t s11))⟩
    (.one ⟨some s13, none, (.bin false .gtr (.t s12) (.c (.v (.int .i64 4100))))⟩
    .done))))
  (.cond (.t s13) (.seq (.reg (.one ⟨some s14, none, (.call 7 [])⟩
    (.one ⟨some s4, none, (.mv (.t s14))⟩
    .done)))
  .ret) .skip))
  (.seq (.reg (.one ⟨some s15, none, (.row 1 [])⟩
    (.one ⟨some s16, none, (.mv (.t s0))⟩
    (.one ⟨some s17, none, (.appm 1 1 (.t s15) (.t s16))⟩
    (.one ⟨some s5, none, (.mv (.t s17))⟩
    .done)))))
  (.seq (.reg (.one ⟨some s19, none, (.mv (.t s5))⟩
    (.one ⟨some s20, none, (.mv (.t s1))⟩
    (.one ⟨some s21, none, (.call 8 [(.t s19), (.t s20)])⟩
    (.one ⟨some s18, none, (.mv (.t s21))⟩
    (.one ⟨some s22, none, (.ext (.t s18) 0)⟩
    (.one ⟨some s23, none, (.ext (.t s18) 1)⟩
    (.one ⟨some s6, none, (.new [(.v (.int .i64 0)), (.v (.int .i64 0)), (.slice 1 [] .full)])⟩
    (.one ⟨none, none, (.store 3 (.t s6) (.t s22))⟩
    (.one ⟨some s7, none, (.mv (.t s23))⟩
    .done))))))))))
  (.seq (.seq (.reg (.one ⟨some s8, none, (.mv (.c (.v (.int .i64 0))))⟩
    .done))
  (.block 0 (.loop (.seq (.seq (.reg (.one ⟨some s24, none, (.mv (.t s8))⟩
    (.one ⟨some s25, none, (.mv (.t s5))⟩
    (.one ⟨some s26, none, (.len false (.t s25))⟩
    (.one ⟨some s27, none, (.bin false .lss (.t s24) (.t s26))⟩
    .done)))))
  (.cond (.t s27) .skip (.exit 0)))
  (.seq (.block 1 (.reg (.one ⟨some s30, none, (.mv (.t s5))⟩
    (.one ⟨some s31, none, (.mv (.t s8))⟩
    (.one ⟨some s32, none, (.mv (.t s5))⟩
    (.one ⟨some s33, none, (.mv (.t s8))⟩
    (.one ⟨some s34, none, (.iaddr 1 (.t s32) (.t s33))⟩
    (.one ⟨some s35, none, (.load none (.t s34))⟩
    (.one ⟨some s36, none, (.bin false .xor (.t s35) (.c (.v (.int .u8 255))))⟩
    (.one ⟨some s37, none, (.iaddr 1 (.t s30) (.t s31))⟩
    (.one ⟨none, none, (.store 1 (.t s37) (.t s36))⟩
    .done)))))))))))
  (.reg (.one ⟨some s28, none, (.mv (.t s8))⟩
    (.one ⟨some s29, none, (.bin false .add (.t s28) (.c (.v (.int .i64 1))))⟩
    (.one ⟨some s8, none, (.mv (.t s29))⟩
    .done)))))))))
  (.seq (.reg (.one ⟨some s39, none, (.mv (.t s0))⟩
    (.one ⟨some s40, none, (.mv (.t s1))⟩
    (.one ⟨some s41, none, (.call 9 [(.t s39), (.t s40)])⟩
    (.one ⟨some s38, none, (.mv (.t s41))⟩
    (.one ⟨some s42, none, (.ext (.t s38) 0)⟩
    (.one ⟨some s43, none, (.ext (.t s38) 1)⟩
    (.one ⟨some s9, none, (.new [(.v (.int .i64 0)), (.v (.int .i64 0)), (.slice 1 [] .full)])⟩
    (.one ⟨none, none, (.store 3 (.t s9) (.t s42))⟩
    (.one ⟨some s10, none, (.mv (.t s43))⟩
    .done))))))))))
  (.seq (.reg (.one ⟨some s44, none, (.call 7 [])⟩
    (.one ⟨some s45, none, (.mv (.t s44))⟩
    (.one ⟨some s46, some (s45, true), (.mv (.t s7))⟩
    (.one ⟨some s47, some (s45, true), (.mv (.t s10))⟩
    (.one ⟨some s48, some (s45, true), (.bin false .eql (.t s46) (.t s47))⟩
    (.one ⟨some s49, none, (.pick (.t s45) (.t s48) (.c (.v (.bool false))))⟩
    (.one ⟨some s50, none, (.mv (.t s49))⟩
    (.both (.one ⟨some s51, some (s50, true), (.load (some 3) (.t s6))⟩
    (.both (.one ⟨some s52, some (s50, true), (.call 11 [(.t s51)])⟩
    (.one ⟨some s53, some (s50, true), (.load (some 3) (.t s9))⟩
    (.one ⟨some s54, some (s50, true), (.call 10 [(.t s52), (.t s53)])⟩
    (.one ⟨some s55, none, (.pick (.t s50) (.t s54) (.c (.v (.bool false))))⟩
    (.one ⟨some s4, none, (.mv (.t s55))⟩
    .done))))) (.one ⟨some s53, some (s50, true), (.load (some 3) (.t s9))⟩
    (.one ⟨some s52, some (s50, true), (.call 11 [(.t s51)])⟩
    (.one ⟨some s54, some (s50, true), (.call 10 [(.t s52), (.t s53)])⟩
    (.one ⟨some s55, none, (.pick (.t s50) (.t s54) (.c (.v (.bool false))))⟩
    (.one ⟨some s4, none, (.mv (.t s55))⟩
    .done))))))) (.one ⟨some s53, some (s50, true), (.load (some 3) (.t s9))⟩
    (.one ⟨some s51, some (s50, true), (.load (some 3) (.t s6))⟩
    (.one ⟨some s52, some (s50, true), (.call 11 [(.t s51)])⟩
    (.one ⟨some s54, some (s50, true), (.call 10 [(.t s52), (.t s53)])⟩
    (.one ⟨some s55, none, (.pick (.t s50) (.t s54) (.c (.v (.bool false))))⟩
    (.one ⟨some s4, none, (.mv (.t s55))⟩
    .done)))))))))))))))
  .ret)))))))⟩
theorem ok3m : compF Try.prog c3m Try.f3 = some ir3m := by kernel_rfl
theorem km_bowlinelaw09_UmdReads {args : List AVal} {σ : AHeap} {Q : AVal → AHeap → Prop} (hl : Nat.ble args.length 56 = true) (h : argsK (Env.full 9) 0 args fun env => evC Try.prog c3m ir3m.body env σ (retQ ir3m Q)) : ACalls Try.prog 3 args σ Q :=
  acalls_of Try.func3 ok3m rfl (Nat.le_of_ble_eq_true hl) h
/- bowlinelaw09.UmdBack -/
def c4 : Cfg := ⟨qs, [], 89, []⟩
def ir4 : IFun := ⟨3, [.tmp s6],
  (.seq (.reg (.one ⟨some s3, none, (.box 3 (.t s0))⟩
    (.one ⟨some s6, none, (.mv (.c (.v (.bool false))))⟩
    .done)))
  (.seq (.seq (.reg (.one ⟨some s15, none, (.faddr 2 (.t s3))⟩
    (.one ⟨some s16, none, (.load none (.t s15))⟩
    (.one ⟨some s17, none, (.callq 12 [(.t s16)])⟩
    (.one ⟨some s18, none, (.mv (.t s17))⟩
    (.one ⟨some s19, some (s18, false), (.mv (.t s1))⟩
    (.one ⟨some s20, some (s18, false), (.len false (.t s19))⟩
    (.one ⟨some s21, some (s18, false), (.bin false .gtr (.t s20) (.c (.v (.int .i64 4100))))⟩
    (.one ⟨some s22, none, (.pick (.t s18) (.c (.v (.bool true))) (.t s21))⟩
    .done)))))))))
  (.cond (.t s22) (.seq (.reg (.one ⟨some s23, none, (.callq 7 [])⟩
    (.one ⟨some s6, none, (.mv (.t s23))⟩
    .done)))
  .ret) .skip))
  (.seq (.reg (.one ⟨some s25, none, (.load (some 3) (.t s3))⟩
    (.one ⟨some s26, none, (.mv (.t s2))⟩
    (.one ⟨some s27, none, (.callq 13 [(.t s25), (.t s26)])⟩
    (.one ⟨some s24, none, (.mv (.t s27))⟩
    (.one ⟨some s28, none, (.ext (.t s24) 0)⟩
    (.one ⟨some s29, none, (.ext (.t s24) 1)⟩
    (.one ⟨some s7, none, (.mv (.t s28))⟩
    (.one ⟨some s8, none, (.mv (.t s29))⟩
    .done)))))))))
  (.seq (.seq (.reg (.one ⟨some s30, none, (.mv (.t s8))⟩
    (.one ⟨some s31, none, (.bin false .eql (.t s30) (.c (.v (.int .i64 0))))⟩
    .done)))
  (.cond (.t s31) (.seq (.reg (.one ⟨some s33, none, (.mv (.t s7))⟩
    (.one ⟨some s34, none, (.mv (.t s2))⟩
    (.one ⟨some s35, none, (.callq 8 [(.t s33), (.t s34)])⟩
    (.one ⟨some s32, none, (.mv (.t s35))⟩
    (.one ⟨some s36, none, (.ext (.t s32) 0)⟩
    (.one ⟨some s37, none, (.ext (.t s32) 1)⟩
    (.one ⟨some s9, none, (.new [(.v (.int .i64 0)), (.v (.int .i64 0)), (.slice 1 [] .full)])⟩
    (.one ⟨none, none, (.store 3 (.t s9) (.t s36))⟩
    (.one ⟨some s10, none, (.mv (.t s37))⟩
    .done))))))))))
  (.seq (.reg (.one ⟨some s38, none, (.mv (.t s10))⟩
    (.one ⟨some s39, none, (.bin false .neq (.t s38) (.c (.v (.int .i64 0))))⟩
    (.one ⟨some s40, none, (.mv (.t s39))⟩
    (.one ⟨some s41, some (s40, false), (.load (some 3) (.t s3))⟩
    (.one ⟨some s43, some (s40, false), (.load (some 3) (.t s9))⟩
    (.one ⟨some s42, some (s40, false), (.callq 11 [(.t s41)])⟩
    (.one ⟨some s44, some (s40, false), (.callq 11 [(.t s43)])⟩
    (.one ⟨some s45, some (s40, false), (.callq 10 [(.t s42), (.t s44)])⟩
    (.one ⟨some s46, some (s40, false), (.not (.t s45))⟩
    (.one ⟨some s47, none, (.pick (.t s40) (.c (.v (.bool true))) (.t s46))⟩
    (.one ⟨some s48, none, (.mv (.t s47))⟩
    (.one ⟨some s49, some (s48, false), (.mv (.t s7))⟩
    (.one ⟨some s50, some (s48, false), (.len false (.t s49))⟩
    (.one ⟨some s51, some (s48, false), (.load (some 3) (.t s3))⟩
    (.one ⟨some s52, some (s48, false), (.mv (.t s2))⟩
    (.one ⟨some s53, some (s48, false), (.callq 14 [(.t s51), (.t s52)])⟩
    (.one ⟨some s54, some (s48, false), (.bin false .neq (.t s50) (.t s53))⟩
    (.one ⟨some s55, none, (.pick (.t s48) (.c (.v (.bool true))) (.t s54))⟩
    .done)))))))))))))))))))
  (.cond (.t s55) (.seq (.reg (.one ⟨some s6, none, (.mv (.c (.v (.bool false))))⟩
    .done))
  .ret) .skip))) .skip))
  (.seq (.reg (.one ⟨some s57, none, (.mv (.t s1))⟩
    (.one ⟨some s58, none, (.mv (.t s2))⟩
    (.one ⟨some s59, none, (.callq 8 [(.t s57), (.t s58)])⟩
    (.one ⟨some s56, none, (.mv (.t s59))⟩
    (.one ⟨some s60, none, (.ext (.t s56) 0)⟩
    (.one ⟨some s61, none, (.ext (.t s56) 1)⟩
    (.one ⟨some s11, none, (.new [(.v (.int .i64 0)), (.v (.int .i64 0)), (.slice 1 [] .full)])⟩
    (.one ⟨none, none, (.store 3 (.t s11) (.t s60))⟩
    (.one ⟨some s12, none, (.mv (.t s61))⟩
    .done))))))))))
  (.seq (.reg (.one ⟨some s63, none, (.load (some 3) (.t s11))⟩
    (.one ⟨some s64, none, (.mv (.t s2))⟩
    (.one ⟨some s65, none, (.callq 13 [(.t s63), (.t s64)])⟩
    (.one ⟨some s62, none, (.mv (.t s65))⟩
    (.one ⟨some s66, none, (.ext (.t s62) 0)⟩
    (.one ⟨some s67, none, (.ext (.t s62) 1)⟩
    (.one ⟨some s13, none, (.mv (.t s66))⟩
    (.one ⟨some s14, none, (.mv (.t s67))⟩
    .done)))))))))
  (.seq (.reg (.one ⟨some s68, none, (.callq 7 [])⟩
    (.one ⟨some s69, none, (.mv (.t s68))⟩
    (.one ⟨some s70, some (s69, true), (.mv (.t s12))⟩
    (.one ⟨some s71, some (s69, true), (.bin false .neq (.t s70) (.c (.v (.int .i64 0))))⟩
    (.one ⟨some s72, some (s69, true), (.mv (.t s71))⟩
    (.one ⟨some s73, some (s72, false), (.load (some 3) (.t s11))⟩
    (.one ⟨some s74, some (s72, false), (.mv (.t s2))⟩
    (.one ⟨some s75, some (s72, false), (.callq 15 [(.t s73), (.t s74)])⟩
    (.one ⟨some s76, some (s72, false), (.mv (.t s75))⟩
    (.one ⟨some s77, some (s76, true), (.mv (.t s14))⟩
    (.one ⟨some s78, some (s76, true), (.bin false .eql (.t s77) (.c (.v (.int .i64 0))))⟩
    (.one ⟨some s79, some (s72, false), (.pick (.t s76) (.t s78) (.c (.v (.bool false))))⟩
    (.one ⟨some s80, some (s72, false), (.mv (.t s79))⟩
    (.one ⟨some s81, some (s80, true), (.mv (.t s13))⟩
    (.one ⟨some s82, some (s80, true), (.b2s (.t s81))⟩
    (.one ⟨some s83, some (s80, true), (.mv (.t s1))⟩
    (.one ⟨some s84, some (s80, true), (.b2s (.t s83))⟩
    (.one ⟨some s85, some (s80, true), (.bin false .eql (.t s82) (.t s84))⟩
    (.one ⟨some s86, some (s72, false), (.pick (.t s80) (.t s85) (.c (.v (.bool false))))⟩
    (.one ⟨some s87, some (s69, true), (.pick (.t s72) (.c (.v (.bool true))) (.t s86))⟩
    (.one ⟨some s88, none, (.pick (.t s69) (.t s87) (.c (.v (.bool false))))⟩
    (.one ⟨some s6, none, (.mv (.t s88))⟩
    .done)))))))))))))))))))))))
  .ret)))))))⟩
theorem ok4 : compF Try.prog c4 Try.f4 = some ir4 := by kernel_rfl
theorem k_bowlinelaw09_UmdBack {args : List AVal} {σ : AHeap} {Q : AVal → AHeap → Prop} (hl : Nat.ble args.length 89 = true) (h : argsK (Env.full 9) 0 args fun env => evC Try.prog c4 ir4.body env σ (retQ ir4 Q)) : ACalls Try.prog 4 args σ Q :=
  acalls_of Try.func4 ok4 rfl (Nat.le_of_ble_eq_true hl) h
/- bowlinelaw09.UmdGrows -/
def c5 : Cfg := ⟨[], [], 90, []⟩
def ir5 : IFun := ⟨2, [.tmp s4],
  (.seq (.reg (.one ⟨some s2, none, (.box 3 (.t s0))⟩
    (.one ⟨some s4, none, (.mv (.c (.v (.bool false))))⟩
    .done)))
  (.seq (.seq (.reg (.one ⟨some s10, none, (.faddr 2 (.t s2))⟩
    (.one ⟨some s11, none, (.load none (.t s10))⟩
    (.one ⟨some s12, none, (.call 12 [(.t s11)])⟩
    (.one ⟨some s13, none, (.mv (.t s12))⟩
    (.one ⟨some s14, some (s13, false), (.faddr 2 (.t s2))⟩
    (.one ⟨some s15, some (s13, false), (.load none (.t s14))⟩
    (.one ⟨some s16, some (s13, false), (.len false (.t s15))⟩
    (.one ⟨some s17, some (s13, false), (.bin false .eql (.t s16) (.c (.v (.int .i64 0))))⟩
    (.one ⟨some s18, none, (.pick (.t s13) (.c (.v (.bool true))) (.t s17))⟩
    .done))))))))))
  (.cond (.t s18) (.seq (.reg (.one ⟨some s19, none, (.call 7 [])⟩
    (.one ⟨some s4, none, (.mv (.t s19))⟩
    .done)))
  .ret) .skip))
  (.seq (.reg (.both (.one ⟨some s20, none, (.load (some 3) (.t s2))⟩
    (.both (.one ⟨some s21, none, (.call 14 [(.t s20), (.c (.v (.int .i64 5)))])⟩
    (.one ⟨some s22, none, (.load (some 3) (.t s2))⟩
    (.one ⟨some s23, none, (.call 14 [(.t s22), (.c (.v (.int .i64 10)))])⟩
    (.one ⟨some s5, none, (.mv (.t s21))⟩
    (.one ⟨some s6, none, (.mv (.t s23))⟩
    .done))))) (.one ⟨some s22, none, (.load (some 3) (.t s2))⟩
    (.one ⟨some s21, none, (.call 14 [(.t s20), (.c (.v (.int .i64 5)))])⟩
    (.one ⟨some s23, none, (.call 14 [(.t s22), (.c (.v (.int .i64 10)))])⟩
    (.one ⟨some s5, none, (.mv (.t s21))⟩
    (.one ⟨some s6, none, (.mv (.t s23))⟩
    .done))))))) (.one ⟨some s22, none, (.load (some 3) (.t s2))⟩
    (.one ⟨some s20, none, (.load (some 3) (.t s2))⟩
    (.one ⟨some s21, none, (.call 14 [(.t s20), (.c (.v (.int .i64 5)))])⟩
    (.one ⟨some s23, none, (.call 14 [(.t s22), (.c (.v (.int .i64 10)))])⟩
    (.one ⟨some s5, none, (.mv (.t s21))⟩
    (.one ⟨some s6, none, (.mv (.t s23))⟩
    .done))))))))
  (.seq (.reg (.one ⟨some s24, none, (.faddr 0 (.t s2))⟩
    (.one ⟨some s25, none, (.load none (.t s24))⟩
    (.one ⟨some s26, none, (.faddr 1 (.t s2))⟩
    (.one ⟨some s27, none, (.load none (.t s26))⟩
    (.one ⟨some s28, none, (.row 1 [])⟩
    (.one ⟨some s29, none, (.faddr 2 (.t s2))⟩
    (.one ⟨some s30, none, (.load none (.t s29))⟩
    (.both (.one ⟨some s31, none, (.app 1 24 (.t s28) (.t s30))⟩
    (.one ⟨some s32, none, (.build [(.v (.int .i64 0)), (.v (.int .i64 0)), (.slice 1 [] .full)] [(0, 1, (.t s25)), (1, 1, (.t s27)), (2, 1, (.t s31))])⟩
    (.one ⟨some s7, none, (.new [(.v (.int .i64 0)), (.v (.int .i64 0)), (.slice 1 [] .full)])⟩
    (.one ⟨none, none, (.store 3 (.t s7) (.t s32))⟩
    .done)))) (.one ⟨some s7, none, (.new [(.v (.int .i64 0)), (.v (.int .i64 0)), (.slice 1 [] .full)])⟩
    (.one ⟨some s31, none, (.app 1 24 (.t s28) (.t s30))⟩
    (.one ⟨some s32, none, (.build [(.v (.int .i64 0)), (.v (.int .i64 0)), (.slice 1 [] .full)] [(0, 1, (.t s25)), (1, 1, (.t s27)), (2, 1, (.t s31))])⟩
    (.one ⟨none, none, (.store 3 (.t s7) (.t s32))⟩
    .done)))))))))))))
  (.seq (.reg (.one ⟨some s33, none, (.faddr 2 (.t s7))⟩
    (.one ⟨some s34, none, (.load none (.t s33))⟩
    (.one ⟨some s35, none, (.len false (.t s34))⟩
    (.one ⟨some s36, none, (.bin false .sub (.t s35) (.c (.v (.int .i64 1))))⟩
    (.one ⟨some s8, none, (.mv (.t s36))⟩
    .done))))))
  (.seq (.reg (.one ⟨some s37, none, (.faddr 2 (.t s7))⟩
    (.one ⟨some s38, none, (.load none (.t s37))⟩
    (.one ⟨some s39, none, (.mv (.t s8))⟩
    (.one ⟨some s40, none, (.row 1 [])⟩
    (.one ⟨some s41, none, (.faddr 2 (.t s2))⟩
    (.one ⟨some s42, none, (.load none (.t s41))⟩
    (.one ⟨some s43, none, (.mv (.t s8))⟩
    (.one ⟨some s44, none, (.iaddr 1 (.t s42) (.t s43))⟩
    (.one ⟨some s45, none, (.load none (.t s44))⟩
    (.one ⟨some s47, none, (.mv (.t s1))⟩
    (.one ⟨some s48, none, (.row 1 [(.t s47)])⟩
    (.one ⟨some s46, none, (.app 1 1 (.t s40) (.t s45))⟩
    (.one ⟨some s49, none, (.app 1 1 (.t s46) (.t s48))⟩
    (.one ⟨some s50, none, (.iaddr 1 (.t s38) (.t s39))⟩
    (.one ⟨none, none, (.store 1 (.t s50) (.t s49))⟩
    .done))))))))))))))))
  (.seq (.reg (.one ⟨some s51, none, (.load (some 3) (.t s7))⟩
    (.one ⟨some s52, none, (.call 14 [(.t s51), (.c (.v (.int .i64 10)))])⟩
    (.one ⟨some s9, none, (.mv (.t s52))⟩
    .done))))
  (.seq (.reg (.one ⟨some s53, none, (.call 7 [])⟩
    (.one ⟨some s54, none, (.mv (.t s53))⟩
    (.one ⟨some s55, some (s54, true), (.mv (.t s5))⟩
    (.one ⟨some s56, some (s54, true), (.bin false .eql (.t s55) (.c (.v (.int .i64 0))))⟩
    (.one ⟨some s57, some (s54, true), (.mv (.t s56))⟩
    (.one ⟨some s58, some (s57, false), (.mv (.t s5))⟩
    (.one ⟨some s59, some (s57, false), (.bin false .eql (.t s58) (.c (.v (.int .i64 4000))))⟩
    (.one ⟨some s60, some (s57, false), (.mv (.t s59))⟩
    (.one ⟨some s61, some (s60, true), (.mv (.t s6))⟩
    (.one ⟨some s62, some (s60, true), (.bin false .eql (.t s61) (.c (.v (.int .i64 0))))⟩
    (.one ⟨some s63, some (s57, false), (.pick (.t s60) (.t s62) (.c (.v (.bool false))))⟩
    (.one ⟨some s64, some (s54, true), (.pick (.t s57) (.c (.v (.bool true))) (.t s63))⟩
    (.one ⟨some s65, some (s54, true), (.mv (.t s64))⟩
    (.one ⟨some s66, some (s65, false), (.mv (.t s6))⟩
    (.one ⟨some s67, some (s65, false), (.mv (.t s5))⟩
    (.one ⟨some s68, some (s65, false), (.bin false .add (.t s67) (.c (.v (.int .i64 1))))⟩
    (.one ⟨some s69, some (s65, false), (.bin false .eql (.t s66) (.t s68))⟩
    (.one ⟨some s70, some (s54, true), (.pick (.t s65) (.c (.v (.bool true))) (.t s69))⟩
    (.one ⟨some s71, none, (.pick (.t s54) (.t s70) (.c (.v (.bool false))))⟩
    (.one ⟨some s72, none, (.mv (.t s71))⟩
    (.one ⟨some s73, some (s72, true), (.mv (.t s6))⟩
    (.one ⟨some s74, some (s72, true), (.bin false .eql (.t s73) (.c (.v (.int .i64 0))))⟩
    (.one ⟨some s75, some (s72, true), (.mv (.t s74))⟩
    (.one ⟨some s76, some (s75, false), (.mv (.t s9))⟩
    (.one ⟨some s77, some (s75, false), (.mv (.t s6))⟩
    (.one ⟨some s78, some (s75, false), (.bin false .add (.t s77) (.c (.v (.int .i64 1))))⟩
    (.one ⟨some s79, some (s75, false), (.bin false .eql (.t s76) (.t s78))⟩
    (.one ⟨some s80, some (s72, true), (.pick (.t s75) (.c (.v (.bool true))) (.t s79))⟩
    (.one ⟨some s81, some (s72, true), (.mv (.t s80))⟩
    (.one ⟨some s82, some (s81, false), (.mv (.t s6))⟩
    (.one ⟨some s83, some (s81, false), (.bin false .eql (.t s82) (.c (.v (.int .i64 4000))))⟩
    (.one ⟨some s84, some (s81, false), (.mv (.t s83))⟩
    (.one ⟨some s85, some (s84, true), (.mv (.t s9))⟩
    (.one ⟨some s86, some (s84, true), (.bin false .eql (.t s85) (.c (.v (.int .i64 0))))⟩
    (.one ⟨some s87, some (s81, false), (.pick (.t s84) (.t s86) (.c (.v (.bool false))))⟩
    (.one ⟨some s88, some (s72, true), (.pick (.t s81) (.c (.v (.bool true))) (.t s87))⟩
    (.one ⟨some s89, none, (.pick (.t s72) (.t s88) (.c (.v (.bool false))))⟩
    (.one ⟨some s4, none, (.mv (.t s89))⟩
    .done)))))))))))))))))))))))))))))))))))))))
  .ret))))))))⟩
theorem ok5 : compF Try.prog c5 Try.f5 = some ir5 := by kernel_rfl
theorem k_bowlinelaw09_UmdGrows {args : List AVal} {σ : AHeap} {Q : AVal → AHeap → Prop} (hl : Nat.ble args.length 90 = true) (h : argsK (Env.full 9) 0 args fun env => evC Try.prog c5 ir5.body env σ (retQ ir5 Q)) : ACalls Try.prog 5 args σ Q :=
  acalls_of Try.func5 ok5 rfl (Nat.le_of_ble_eq_true hl) h
/- bowlinelaw09.UmdGrows -/
def c5m : Cfg := ⟨[], [24], 90, []⟩
def ir5m : IFun := ⟨2, [.tmp s4],
  (.seq (.reg (.one ⟨some s2, none, (.box 3 (.t s0))⟩
    (.one ⟨some s4, none, (.mv (.c (.v (.bool false))))⟩
    .done)))
  (.seq (.seq (.reg (.one ⟨some s10, none, (.faddr 2 (.t s2))⟩
    (.one ⟨some s11, none, (.load none (.t s10))⟩
    (.one ⟨some s12, none, (.call 12 [(.t s11)])⟩
    (.one ⟨some s13, none, (.mv (.t s12))⟩
    (.one ⟨some s14, some (s13, false), (.faddr 2 (.t s2))⟩
    (.one ⟨some s15, some (s13, false), (.load none (.t s14))⟩
    (.one ⟨some s16, some (s13, false), (.len false (.t s15))⟩
    (.one ⟨some s17, some (s13, false), (.bin false .eql (.t s16) (.c (.v (.int .i64 0))))⟩
    (.one ⟨some s18, none, (.pick (.t s13) (.c (.v (.bool true))) (.t s17))⟩
    .done))))))))))
  (.cond (.t s18) (.seq (.reg (.one ⟨some s19, none, (.call 7 [])⟩
    (.one ⟨some s4, none, (.mv (.t s19))⟩
    .done)))
  .ret) .skip))
  (.seq (.reg (.both (.one ⟨some s20, none, (.load (some 3) (.t s2))⟩
    (.both (.one ⟨some s21, none, (.call 14 [(.t s20), (.c (.v (.int .i64 5)))])⟩
    (.one ⟨some s22, none, (.load (some 3) (.t s2))⟩
    (.one ⟨some s23, none, (.call 14 [(.t s22), (.c (.v (.int .i64 10)))])⟩
    (.one ⟨some s5, none, (.mv (.t s21))⟩
    (.one ⟨some s6, none, (.mv (.t s23))⟩
    .done))))) (.one ⟨some s22, none, (.load (some 3) (.t s2))⟩
    (.one ⟨some s21, none, (.call 14 [(.t s20), (.c (.v (.int .i64 5)))])⟩
    (.one ⟨some s23, none, (.call 14 [(.t s22), (.c (.v (.int .i64 10)))])⟩
    (.one ⟨some s5, none, (.mv (.t s21))⟩
    (.one ⟨some s6, none, (.mv (.t s23))⟩
    .done))))))) (.one ⟨some s22, none, (.load (some 3) (.t s2))⟩
    (.one ⟨some s20, none, (.load (some 3) (.t s2))⟩
    (.one ⟨some s21, none, (.call 14 [(.t s20), (.c (.v (.int .i64 5)))])⟩
    (.one ⟨some s23, none, (.call 14 [(.t s22), (.c (.v (.int .i64 10)))])⟩
    (.one ⟨some s5, none, (.mv (.t s21))⟩
    (.one ⟨some s6, none, (.mv (.t s23))⟩
    .done))))))))
  (.seq (.reg (.one ⟨some s24, none, (.faddr 0 (.t s2))⟩
    (.one ⟨some s26, none, (.faddr 1 (.t s2))⟩
    (.one ⟨some s28, none, (.row 1 [])⟩
    (.one ⟨some s29, none, (.faddr 2 (.t s2))⟩
    (.one ⟨some s30, none, (.load none (.t s29))⟩
    (.both (.one ⟨some s25, none, (.load none (.t s24))⟩
    (.both (.one ⟨some s27, none, (.load none (.t s26))⟩
    (.both (.one ⟨some s31, none, (.appm 1 24 (.t s28) (.t s30))⟩
    (.one ⟨some s32, none, (.build [(.v (.int .i64 0)), (.v (.int .i64 0)), (.slice 1 [] .full)] [(0, 1, (.t s25)), (1, 1, (.t s27)), (2, 1, (.t s31))])⟩
    (.one ⟨some s7, none, (.new [(.v (.int .i64 0)), (.v (.int .i64 0)), (.slice 1 [] .full)])⟩
    (.one ⟨none, none, (.store 3 (.t s7) (.t s32))⟩
    .done)))) (.one ⟨some s7, none, (.new [(.v (.int .i64 0)), (.v (.int .i64 0)), (.slice 1 [] .full)])⟩
    (.one ⟨some s31, none, (.appm 1 24 (.t s28) (.t s30))⟩
    (.one ⟨some s32, none, (.build [(.v (.int .i64 0)), (.v (.int .i64 0)), (.slice 1 [] .full)] [(0, 1, (.t s25)), (1, 1, (.t s27)), (2, 1, (.t s31))])⟩
    (.one ⟨none, none, (.store 3 (.t s7) (.t s32))⟩
    .done)))))) (.both (.one ⟨some s31, none, (.appm 1 24 (.t s28) (.t s30))⟩
    (.one ⟨some s27, none, (.load none (.t s26))⟩
    (.one ⟨some s32, none, (.build [(.v (.int .i64 0)), (.v (.int .i64 0)), (.slice 1 [] .full)] [(0, 1, (.t s25)), (1, 1, (.t s27)), (2, 1, (.t s31))])⟩
    (.one ⟨some s7, none, (.new [(.v (.int .i64 0)), (.v (.int .i64 0)), (.slice 1 [] .full)])⟩
    (.one ⟨none, none, (.store 3 (.t s7) (.t s32))⟩
    .done))))) (.one ⟨some s7, none, (.new [(.v (.int .i64 0)), (.v (.int .i64 0)), (.slice 1 [] .full)])⟩
    (.both (.one ⟨some s27, none, (.load none (.t s26))⟩
    (.one ⟨some s31, none, (.appm 1 24 (.t s28) (.t s30))⟩
    (.one ⟨some s32, none, (.build [(.v (.int .i64 0)), (.v (.int .i64 0)), (.slice 1 [] .full)] [(0, 1, (.t s25)), (1, 1, (.t s27)), (2, 1, (.t s31))])⟩
    (.one ⟨none, none, (.store 3 (.t s7) (.t s32))⟩
    .done)))) (.one ⟨some s31, none, (.appm 1 24 (.t s28) (.t s30))⟩
    (.one ⟨some s27, none, (.load none (.t s26))⟩
    (.one ⟨some s32, none, (.build [(.v (.int .i64 0)), (.v (.int .i64 0)), (.slice 1 [] .full)] [(0, 1, (.t s25)), (1, 1, (.t s27)), (2, 1, (.t s31))])⟩
    (.one ⟨none, none, (.store 3 (.t s7) (.t s32))⟩
    .done))))))))) (.both (.one ⟨some s27, none, (.load none (.t s26))⟩
    (.both (.one ⟨some s25, none, (.load none (.t s24))⟩
    (.both (.one ⟨some s31, none, (.appm 1 24 (.t s28) (.t s30))⟩
    (.one ⟨some s32, none, (.build [(.v (.int .i64 0)), (.v (.int .i64 0)), (.slice 1 [] .full)] [(0, 1, (.t s25)), (1, 1, (.t s27)), (2, 1, (.t s31))])⟩
    (.one ⟨some s7, none, (.new [(.v (.int .i64 0)), (.v (.int .i64 0)), (.slice 1 [] .full)])⟩
    (.one ⟨none, none, (.store 3 (.t s7) (.t s32))⟩
    .done)))) (.one ⟨some s7, none, (.new [(.v (.int .i64 0)), (.v (.int .i64 0)), (.slice 1 [] .full)])⟩
    (.one ⟨some s31, none, (.appm 1 24 (.t s28) (.t s30))⟩
    (.one ⟨some s32, none, (.build [(.v (.int .i64 0)), (.v (.int .i64 0)), (.slice 1 [] .full)] [(0, 1, (.t s25)), (1, 1, (.t s27)), (2, 1, (.t s31))])⟩
    (.one ⟨none, none, (.store 3 (.t s7) (.t s32))⟩
    .done)))))) (.both (.one ⟨some s31, none, (.appm 1 24 (.t s28) (.t s30))⟩
    (.one ⟨some s25, none, (.load none (.t s24))⟩
    (.one ⟨some s32, none, (.build [(.v (.int .i64 0)), (.v (.int .i64 0)), (.slice 1 [] .full)] [(0, 1, (.t s25)), (1, 1, (.t s27)), (2, 1, (.t s31))])⟩
    (.one ⟨some s7, none, (.new [(.v (.int .i64 0)), (.v (.int .i64 0)), (.slice 1 [] .full)])⟩
    (.one ⟨none, none, (.store 3 (.t s7) (.t s32))⟩
    .done))))) (.one ⟨some s7, none, (.new [(.v (.int .i64 0)), (.v (.int .i64 0)), (.slice 1 [] .full)])⟩
    (.both (.one ⟨some s25, none, (.load none (.t s24))⟩
    (.one ⟨some s31, none, (.appm 1 24 (.t s28) (.t s30))⟩
    (.one ⟨some s32, none, (.build [(.v (.int .i64 0)), (.v (.int .i64 0)), (.slice 1 [] .full)] [(0, 1, (.t s25)), (1, 1, (.t s27)), (2, 1, (.t s31))])⟩
    (.one ⟨none, none, (.store 3 (.t s7) (.t s32))⟩
    .done)))) (.one ⟨some s31, none, (.appm 1 24 (.t s28) (.t s30))⟩
    (.one ⟨some s25, none, (.load none (.t s24))⟩
    (.one ⟨some s32, none, (.build [(.v (.int .i64 0)), (.v (.int .i64 0)), (.slice 1 [] .full)] [(0, 1, (.t s25)), (1, 1, (.t s27)), (2, 1, (.t s31))])⟩
    (.one ⟨none, none, (.store 3 (.t s7) (.t s32))⟩
    .done))))))))) (.both (.one ⟨some s31, none, (.appm 1 24 (.t s28) (.t s30))⟩
    (.one ⟨some s25, none, (.load none (.t s24))⟩
    (.one ⟨some s27, none, (.load none (.t s26))⟩
    (.one ⟨some s32, none, (.build [(.v (.int .i64 0)), (.v (.int .i64 0)), (.slice 1 [] .full)] [(0, 1, (.t s25)), (1, 1, (.t s27)), (2, 1, (.t s31))])⟩
    (.one ⟨some s7, none, (.new [(.v (.int .i64 0)), (.v (.int .i64 0)), (.slice 1 [] .full)])⟩
    (.one ⟨none, none, (.store 3 (.t s7) (.t s32))⟩
    .done)))))) (.one ⟨some s7, none, (.new [(.v (.int .i64 0)), (.v (.int .i64 0)), (.slice 1 [] .full)])⟩
    (.both (.one ⟨some s25, none, (.load none (.t s24))⟩
    (.both (.one ⟨some s27, none, (.load none (.t s26))⟩
    (.one ⟨some s31, none, (.appm 1 24 (.t s28) (.t s30))⟩
    (.one ⟨some s32, none, (.build [(.v (.int .i64 0)), (.v (.int .i64 0)), (.slice 1 [] .full)] [(0, 1, (.t s25)), (1, 1, (.t s27)), (2, 1, (.t s31))])⟩
    (.one ⟨none, none, (.store 3 (.t s7) (.t s32))⟩
    .done)))) (.one ⟨some s31, none, (.appm 1 24 (.t s28) (.t s30))⟩
    (.one ⟨some s27, none, (.load none (.t s26))⟩
    (.one ⟨some s32, none, (.build [(.v (.int .i64 0)), (.v (.int .i64 0)), (.slice 1 [] .full)] [(0, 1, (.t s25)), (1, 1, (.t s27)), (2, 1, (.t s31))])⟩
    (.one ⟨none, none, (.store 3 (.t s7) (.t s32))⟩
    .done)))))) (.both (.one ⟨some s27, none, (.load none (.t s26))⟩
    (.both (.one ⟨some s25, none, (.load none (.t s24))⟩
    (.one ⟨some s31, none, (.appm 1 24 (.t s28) (.t s30))⟩
    (.one ⟨some s32, none, (.build [(.v (.int .i64 0)), (.v (.int .i64 0)), (.slice 1 [] .full)] [(0, 1, (.t s25)), (1, 1, (.t s27)), (2, 1, (.t s31))])⟩
    (.one ⟨none, none, (.store 3 (.t s7) (.t s32))⟩
    .done)))) (.one ⟨some s31, none, (.appm 1 24 (.t s28) (.t s30))⟩
    (.one ⟨some s25, none, (.load none (.t s24))⟩
    (.one ⟨some s32, none, (.build [(.v (.int .i64 0)), (.v (.int .i64 0)), (.slice 1 [] .full)] [(0, 1, (.t s25)), (1, 1, (.t s27)), (2, 1, (.t s31))])⟩
    (.one ⟨none, none, (.store 3 (.t s7) (.t s32))⟩
    .done)))))) (.one ⟨some s31, none, (.appm 1 24 (.t s28) (.t s30))⟩
    (.one ⟨some s25, none, (.load none (.t s24))⟩
    (.one ⟨some s27, none, (.load none (.t s26))⟩
    (.one ⟨some s32, none, (.build [(.v (.int .i64 0)), (.v (.int .i64 0)), (.slice 1 [] .full)] [(0, 1, (.t s25)), (1, 1, (.t s27)), (2, 1, (.t s31))])⟩
    (.one ⟨none, none, (.store 3 (.t s7) (.t s32))⟩
    .done)))))))))))))))))
  (.seq (.reg (.one ⟨some s33, none, (.faddr 2 (.t s7))⟩
    (.one ⟨some s34, none, (.load none (.t s33))⟩
    (.one ⟨some s35, none, (.len false (.t s34))⟩
    (.one ⟨some s36, none, (.bin false .sub (.t s35) (.c (.v (.int .i64 1))))⟩
    (.one ⟨some s8, none, (.mv (.t s36))⟩
    .done))))))
  (.seq (.reg (.one ⟨some s37, none, (.faddr 2 (.t s7))⟩
    (.one ⟨some s38, none, (.load none (.t s37))⟩
    (.one ⟨some s39, none, (.mv (.t s8))⟩
    (.one ⟨some s40, none, (.row 1 [])⟩
    (.one ⟨some s41, none, (.faddr 2 (.t s2))⟩
    (.one ⟨some s42, none, (.load none (.t s41))⟩
    (.one ⟨some s43, none, (.mv (.t s8))⟩
    (.one ⟨some s44, none, (.iaddr 1 (.t s42) (.t s43))⟩
    (.one ⟨some s45, none, (.load none (.t s44))⟩
    (.one ⟨some s47, none, (.mv (.t s1))⟩
    (.one ⟨some s48, none, (.row 1 [(.t s47)])⟩
    (.one ⟨some s46, none, (.app 1 1 (.t s40) (.t s45))⟩
    (.one ⟨some s49, none, (.app 1 1 (.t s46) (.t s48))⟩
    (.one ⟨some s50, none, (.iaddr 1 (.t s38) (.t s39))⟩
    (.one ⟨none, none, (.store 1 (.t s50) (.t s49))⟩
    .done))))))))))))))))
  (.seq (.reg (.one ⟨some s51, none, (.load (some 3) (.t s7))⟩
    (.one ⟨some s52, none, (.call 14 [(.t s51), (.c (.v (.int .i64 10)))])⟩
    (.one ⟨some s9, none, (.mv (.t s52))⟩
    .done))))
  (.seq (.reg (.one ⟨some s53, none, (.call 7 [])⟩
    (.one ⟨some s54, none, (.mv (.t s53))⟩
    (.one ⟨some s55, some (s54, true), (.mv (.t s5))⟩
    (.one ⟨some s56, some (s54, true), (.bin false .eql (.t s55) (.c (.v (.int .i64 0))))⟩
    (.one ⟨some s57, some (s54, true), (.mv (.t s56))⟩
    (.one ⟨some s58, some (s57, false), (.mv (.t s5))⟩
    (.one ⟨some s59, some (s57, false), (.bin false .eql (.t s58) (.c (.v (.int .i64 4000))))⟩
    (.one ⟨some s60, some (s57, false), (.mv (.t s59))⟩
    (.one ⟨some s61, some (s60, true), (.mv (.t s6))⟩
    (.one ⟨some s62, some (s60, true), (.bin false .eql (.t s61) (.c (.v (.int .i64 0))))⟩
    (.one ⟨some s63, some (s57, false), (.pick (.t s60) (.t s62) (.c (.v (.bool false))))⟩
    (.one ⟨some s64, some (s54, true), (.pick (.t s57) (.c (.v (.bool true))) (.t s63))⟩
    (.one ⟨some s65, some (s54, true), (.mv (.t s64))⟩
    (.one ⟨some s66, some (s65, false), (.mv (.t s6))⟩
    (.one ⟨some s67, some (s65, false), (.mv (.t s5))⟩
    (.one ⟨some s68, some (s65, false), (.bin false .add (.t s67) (.c (.v (.int .i64 1))))⟩
    (.one ⟨some s69, some (s65, false), (.bin false .eql (.t s66) (.t s68))⟩
    (.one ⟨some s70, some (s54, true), (.pick (.t s65) (.c (.v (.bool true))) (.t s69))⟩
    (.one ⟨some s71, none, (.pick (.t s54) (.t s70) (.c (.v (.bool false))))⟩
    (.one ⟨some s72, none, (.mv (.t s71))⟩
    (.one ⟨some s73, some (s72, true), (.mv (.t s6))⟩
    (.one ⟨some s74, some (s72, true), (.bin false .eql (.t s73) (.c (.v (.int .i64 0))))⟩
    (.one ⟨some s75, some (s72, true), (.mv (.t s74))⟩
    (.one ⟨some s76, some (s75, false), (.mv (.t s9))⟩
    (.one ⟨some s77, some (s75, false), (.mv (.t s6))⟩
    (.one ⟨some s78, some (s75, false), (.bin false .add (.t s77) (.c (.v (.int .i64 1))))⟩
    (.one ⟨some s79, some (s75, false), (.bin false .eql (.t s76) (.t s78))⟩
    (.one ⟨some s80, some (s72, true), (.pick (.t s75) (.c (.v (.bool true))) (.t s79))⟩
    (.one ⟨some s81, some (s72, true), (.mv (.t s80))⟩
    (.one ⟨some s82, some (s81, false), (.mv (.t s6))⟩
    (.one ⟨some s83, some (s81, false), (.bin false .eql (.t s82) (.c (.v (.int .i64 4000))))⟩
    (.one ⟨some s84, some (s81, false), (.mv (.t s83))⟩
    (.one ⟨some s85, some (s84, true), (.mv (.t s9))⟩
    (.one ⟨some s86, some (s84, true), (.bin false .eql (.t s85) (.c (.v (.int .i64 0))))⟩
    (.one ⟨some s87, some (s81, false), (.pick (.t s84) (.t s86) (.c (.v (.bool false))))⟩
    (.one ⟨some s88, some (s72, true), (.pick (.t s81) (.c (.v (.bool true))) (.t s87))⟩
    (.one ⟨some s89, none, (.pick (.t s72) (.t s88) (.c (.v (.bool false))))⟩
    (.one ⟨some s4, none, (.mv (.t s89))⟩
    .done)))))))))))))))))))))))))))))))))))))))
  .ret))))))))⟩
theorem ok5m : compF Try.prog c5m Try.f5 = some ir5m := by kernel_rfl
theorem km_bowlinelaw09_UmdGrows {args : List AVal} {σ : AHeap} {Q : AVal → AHeap → Prop} (hl : Nat.ble args.length 90 = true) (h : argsK (Env.full 9) 0 args fun env => evC Try.prog c5m ir5m.body env σ (retQ ir5m Q)) : ACalls Try.prog 5 args σ Q :=
  acalls_of Try.func5 ok5m rfl (Nat.le_of_ble_eq_true hl) h
/- bowlinelaw09.UmdWrites -/
def c6 : Cfg := ⟨qs, [], 102, []⟩
def ir6 : IFun := ⟨3, [.tmp s6],
  (.seq (.reg (.one ⟨some s3, none, (.box 3 (.t s0))⟩
    (.one ⟨some s4, none, (.box 3 (.t s1))⟩
    (.one ⟨some s6, none, (.mv (.c (.v (.bool false))))⟩
    .done))))
  (.seq (.seq (.reg (.one ⟨some s10, none, (.faddr 2 (.t s3))⟩
    (.one ⟨some s11, none, (.load none (.t s10))⟩
    (.one ⟨some s12, none, (.callq 12 [(.t s11)])⟩
    (.one ⟨some s13, none, (.mv (.t s12))⟩
    (.one ⟨some s14, some (s13, false), (.faddr 2 (.t s4))⟩
    (.one ⟨some s15, some (s13, false), (.load none (.t s14))⟩
    (.one ⟨some s16, some (s13, false), (.callq 12 [(.t s15)])⟩
    (.one ⟨some s17, none, (.pick (.t s13) (.c (.v (.bool true))) (.t s16))⟩
    .done)))))))))
  (.cond (.t s17) (.seq (.reg (.one ⟨some s18, none, (.callq 7 [])⟩
    (.one ⟨some s6, none, (.mv (.t s18))⟩
    .done)))
  .ret) .skip))
  (.seq (.reg (.one ⟨some s19, none, (.load (some 3) (.t s3))⟩
    (.one ⟨some s20, none, (.callq 11 [(.t s19)])⟩
    (.one ⟨some s21, none, (.mv (.t s2))⟩
    (.one ⟨some s22, none, (.callq 16 [(.t s20), (.t s21)])⟩
    (.one ⟨some s7, none, (.mv (.t s22))⟩
    .done))))))
  (.seq (.reg (.one ⟨some s24, none, (.load (some 3) (.t s3))⟩
    (.one ⟨some s25, none, (.mv (.t s2))⟩
    (.one ⟨some s26, none, (.callq 13 [(.t s24), (.t s25)])⟩
    (.one ⟨some s23, none, (.mv (.t s26))⟩
    (.one ⟨some s27, none, (.ext (.t s23) 0)⟩
    (.one ⟨some s28, none, (.ext (.t s23) 1)⟩
    (.one ⟨some s8, none, (.mv (.t s27))⟩
    (.one ⟨some s9, none, (.mv (.t s28))⟩
    .done)))))))))
  (.seq (.seq (.reg (.one ⟨some s29, none, (.load (some 3) (.t s3))⟩
    (.one ⟨some s30, none, (.mv (.t s2))⟩
    (.one ⟨some s32, none, (.mv (.t s7))⟩
    (.one ⟨some s31, none, (.callq 14 [(.t s29), (.t s30)])⟩
    (.one ⟨some s33, none, (.bin false .neq (.t s31) (.t s32))⟩
    (.one ⟨some s34, none, (.mv (.t s33))⟩
    (.one ⟨some s35, some (s34, false), (.load (some 3) (.t s3))⟩
    (.one ⟨some s36, some (s34, false), (.mv (.t s2))⟩
    (.one ⟨some s38, some (s34, false), (.mv (.t s7))⟩
    (.one ⟨some s39, some (s34, false), (.bin false .gtr (.t s38) (.c (.v (.int .i64 0))))⟩
    (.one ⟨some s37, some (s34, false), (.callq 15 [(.t s35), (.t s36)])⟩
    (.one ⟨some s40, some (s34, false), (.bin true .neq (.t s37) (.t s39))⟩
    (.one ⟨some s41, none, (.pick (.t s34) (.c (.v (.bool true))) (.t s40))⟩
    (.one ⟨some s42, none, (.mv (.t s41))⟩
    (.one ⟨some s43, some (s42, false), (.load (some 3) (.t s3))⟩
    (.one ⟨some s44, some (s42, false), (.load (some 3) (.t s4))⟩
    (.one ⟨some s46, some (s42, false), (.load (some 3) (.t s3))⟩
    (.one ⟨some s48, some (s42, false), (.load (some 3) (.t s4))⟩
    (.one ⟨some s45, some (s42, false), (.callq 17 [(.t s43), (.t s44)])⟩
    (.one ⟨some s47, some (s42, false), (.callq 11 [(.t s46)])⟩
    (.one ⟨some s49, some (s42, false), (.callq 11 [(.t s48)])⟩
    (.one ⟨some s50, some (s42, false), (.callq 10 [(.t s47), (.t s49)])⟩
    (.one ⟨some s51, some (s42, false), (.bin true .neq (.t s45) (.t s50))⟩
    (.one ⟨some s52, none, (.pick (.t s42) (.c (.v (.bool true))) (.t s51))⟩
    .done)))))))))))))))))))))))))
  (.cond (.t s52) (.seq (.reg (.one ⟨some s6, none, (.mv (.c (.v (.bool false))))⟩
    .done))
  .ret) .skip))
  (.seq (.seq (.reg (.one ⟨some s53, none, (.mv (.t s2))⟩
    (.one ⟨some s54, none, (.bin false .neq (.t s53) (.c (.v (.int .i64 5))))⟩
    (.one ⟨some s55, none, (.mv (.t s54))⟩
    (.one ⟨some s56, some (s55, true), (.mv (.t s2))⟩
    (.one ⟨some s57, some (s55, true), (.bin false .neq (.t s56) (.c (.v (.int .i64 10))))⟩
    (.one ⟨some s58, none, (.pick (.t s55) (.t s57) (.c (.v (.bool false))))⟩
    .done)))))))
  (.cond (.t s58) (.seq (.reg (.one ⟨some s59, none, (.callq 7 [])⟩
    (.one ⟨some s60, none, (.mv (.t s59))⟩
    (.one ⟨some s61, some (s60, true), (.mv (.t s9))⟩
    (.one ⟨some s62, some (s60, true), (.bin false .eql (.t s61) (.c (.v (.int .i64 9))))⟩
    (.one ⟨some s63, none, (.pick (.t s60) (.t s62) (.c (.v (.bool false))))⟩
    (.one ⟨some s64, none, (.mv (.t s63))⟩
    (.one ⟨some s65, some (s64, true), (.mv (.t s8))⟩
    (.one ⟨some s66, some (s64, true), (.len false (.t s65))⟩
    (.one ⟨some s67, some (s64, true), (.bin false .eql (.t s66) (.c (.v (.int .i64 0))))⟩
    (.one ⟨some s68, none, (.pick (.t s64) (.t s67) (.c (.v (.bool false))))⟩
    (.one ⟨some s6, none, (.mv (.t s68))⟩
    .done))))))))))))
  .ret) .skip))
  (.seq (.seq (.reg (.one ⟨some s69, none, (.mv (.t s7))⟩
    (.one ⟨some s70, none, (.bin false .eql (.t s69) (.c (.v (.int .i64 0))))⟩
    .done)))
  (.cond (.t s70) (.seq (.reg (.one ⟨some s71, none, (.callq 7 [])⟩
    (.one ⟨some s72, none, (.mv (.t s71))⟩
    (.one ⟨some s73, some (s72, true), (.mv (.t s9))⟩
    (.one ⟨some s74, some (s72, true), (.bin false .eql (.t s73) (.c (.v (.int .i64 3))))⟩
    (.one ⟨some s75, none, (.pick (.t s72) (.t s74) (.c (.v (.bool false))))⟩
    (.one ⟨some s76, none, (.mv (.t s75))⟩
    (.one ⟨some s77, some (s76, true), (.mv (.t s8))⟩
    (.one ⟨some s78, some (s76, true), (.len false (.t s77))⟩
    (.one ⟨some s79, some (s76, true), (.bin false .eql (.t s78) (.c (.v (.int .i64 0))))⟩
    (.one ⟨some s80, none, (.pick (.t s76) (.t s79) (.c (.v (.bool false))))⟩
    (.one ⟨some s6, none, (.mv (.t s80))⟩
    .done))))))))))))
  .ret) .skip))
  (.seq (.reg (.one ⟨some s81, none, (.callq 7 [])⟩
    (.one ⟨some s82, none, (.mv (.t s81))⟩
    (.one ⟨some s83, some (s82, true), (.mv (.t s9))⟩
    (.one ⟨some s84, some (s82, true), (.bin false .eql (.t s83) (.c (.v (.int .i64 0))))⟩
    (.one ⟨some s85, none, (.pick (.t s82) (.t s84) (.c (.v (.bool false))))⟩
    (.one ⟨some s86, none, (.mv (.t s85))⟩
    (.one ⟨some s87, some (s86, true), (.mv (.t s8))⟩
    (.one ⟨some s88, some (s86, true), (.len false (.t s87))⟩
    (.one ⟨some s89, some (s86, true), (.mv (.t s7))⟩
    (.one ⟨some s90, some (s86, true), (.bin false .eql (.t s88) (.t s89))⟩
    (.one ⟨some s91, none, (.pick (.t s86) (.t s90) (.c (.v (.bool false))))⟩
    (.one ⟨some s92, none, (.mv (.t s91))⟩
    (.one ⟨some s93, some (s92, true), (.mv (.t s8))⟩
    (.one ⟨some s94, some (s92, true), (.b2s (.t s93))⟩
    (.one ⟨some s95, some (s92, true), (.load (some 3) (.t s3))⟩
    (.one ⟨some s97, some (s92, true), (.mv (.t s2))⟩
    (.one ⟨some s96, some (s92, true), (.callq 11 [(.t s95)])⟩
    (.one ⟨some s98, some (s92, true), (.callq 18 [(.t s96), (.t s97)])⟩
    (.one ⟨some s99, some (s92, true), (.b2s (.t s98))⟩
    (.one ⟨some s100, some (s92, true), (.bin false .eql (.t s94) (.t s99))⟩
    (.one ⟨some s101, none, (.pick (.t s92) (.t s100) (.c (.v (.bool false))))⟩
    (.one ⟨some s6, none, (.mv (.t s101))⟩
    .done)))))))))))))))))))))))
  .ret))))))))⟩
theorem ok6 : compF Try.prog c6 Try.f6 = some ir6 := by kernel_rfl
theorem k_bowlinelaw09_UmdWrites {args : List AVal} {σ : AHeap} {Q : AVal → AHeap → Prop} (hl : Nat.ble args.length 102 = true) (h : argsK (Env.full 9) 0 args fun env => evC Try.prog c6 ir6.body env σ (retQ ir6 Q)) : ACalls Try.prog 6 args σ Q :=
  acalls_of Try.func6 ok6 rfl (Nat.le_of_ble_eq_true hl) h
/- bowlinelaw09.alive -/
def c7 : Cfg := ⟨qs, [], 87, []⟩
def ir7 : IFun := ⟨0, [.tmp s0],
  (.seq (.reg (.one ⟨some s0, none, (.mv (.c (.v (.bool false))))⟩
    .done))
  (.seq (.reg (.one ⟨some s12, none, (.row 1 [(.c (.v (.int .u8 65)))])⟩
    (.one ⟨some s13, none, (.row 1 [(.t s12)])⟩
    (.one ⟨some s14, none, (.build [(.v (.int .i64 0)), (.v (.int .i64 0)), (.slice 1 [] .full)] [(1, 1, (.c (.v (.int .i64 3)))), (2, 1, (.t s13))])⟩
    (.one ⟨some s15, none, (.callq 13 [(.t s14), (.c (.v (.int .i64 5)))])⟩
    (.one ⟨some s11, none, (.mv (.t s15))⟩
    (.one ⟨some s16, none, (.ext (.t s11) 0)⟩
    (.one ⟨some s17, none, (.ext (.t s11) 1)⟩
    (.one ⟨some s1, none, (.mv (.t s16))⟩
    (.one ⟨some s2, none, (.mv (.t s17))⟩
    .done))))))))))
  (.seq (.reg (.one ⟨some s19, none, (.row 1 [(.c (.v (.int .u8 1))), (.c (.v (.int .u8 2)))])⟩
    (.one ⟨some s20, none, (.row 1 [(.c (.v (.int .u8 3)))])⟩
    (.one ⟨some s21, none, (.row 1 [(.t s19), (.t s20)])⟩
    (.one ⟨some s22, none, (.build [(.v (.int .i64 0)), (.v (.int .i64 0)), (.slice 1 [] .full)] [(0, 1, (.c (.v (.int .i64 3)))), (1, 1, (.c (.v (.int .i64 700)))), (2, 1, (.t s21))])⟩
    (.one ⟨some s23, none, (.callq 13 [(.t s22), (.c (.v (.int .i64 10)))])⟩
    (.one ⟨some s18, none, (.mv (.t s23))⟩
    (.one ⟨some s24, none, (.ext (.t s18) 0)⟩
    (.one ⟨some s25, none, (.ext (.t s18) 1)⟩
    (.one ⟨some s3, none, (.mv (.t s24))⟩
    (.one ⟨some s4, none, (.mv (.t s25))⟩
    .done)))))))))))
  (.seq (.reg (.one ⟨some s27, none, (.mv (.t s3))⟩
    (.one ⟨some s28, none, (.callq 8 [(.t s27), (.c (.v (.int .i64 10)))])⟩
    (.one ⟨some s26, none, (.mv (.t s28))⟩
    (.one ⟨some s29, none, (.ext (.t s26) 0)⟩
    (.one ⟨some s30, none, (.ext (.t s26) 1)⟩
    (.one ⟨some s5, none, (.new [(.v (.int .i64 0)), (.v (.int .i64 0)), (.slice 1 [] .full)])⟩
    (.one ⟨none, none, (.store 3 (.t s5) (.t s29))⟩
    (.one ⟨some s6, none, (.mv (.t s30))⟩
    .done)))))))))
  (.seq (.reg (.one ⟨some s32, none, (.row 1 [(.c (.v (.int .u8 3)))])⟩
    (.one ⟨some s33, none, (.callq 8 [(.t s32), (.c (.v (.int .i64 5)))])⟩
    (.one ⟨some s31, none, (.mv (.t s33))⟩
    (.one ⟨some s34, none, (.ext (.t s31) 0)⟩
    (.one ⟨some s35, none, (.ext (.t s31) 1)⟩
    (.one ⟨some s7, none, (.new [(.v (.int .i64 0)), (.v (.int .i64 0)), (.slice 1 [] .full)])⟩
    (.one ⟨none, none, (.store 3 (.t s7) (.t s34))⟩
    (.one ⟨some s8, none, (.mv (.t s35))⟩
    .done)))))))))
  (.seq (.reg (.one ⟨some s37, none, (.row 1 [(.c (.v (.int .u8 1)))])⟩
    (.one ⟨some s38, none, (.row 1 [(.t s37)])⟩
    (.one ⟨some s39, none, (.build [(.v (.int .i64 0)), (.v (.int .i64 0)), (.slice 1 [] .full)] [(1, 1, (.c (.v (.int .i64 32)))), (2, 1, (.t s38))])⟩
    (.one ⟨some s40, none, (.callq 13 [(.t s39), (.c (.v (.int .i64 5)))])⟩
    (.one ⟨some s36, none, (.mv (.t s40))⟩
    (.one ⟨some s41, none, (.ext (.t s36) 0)⟩
    (.one ⟨some s42, none, (.ext (.t s36) 1)⟩
    (.one ⟨some s9, none, (.mv (.t s41))⟩
    (.one ⟨some s10, none, (.mv (.t s42))⟩
    .done))))))))))
  (.seq (.reg (.one ⟨some s43, none, (.mv (.t s1))⟩
    (.one ⟨some s44, none, (.b2s (.t s43))⟩
    (.one ⟨some s45, none, (.bin false .eql (.t s44) (.c (.v (.string ⟨#[3, 65]⟩))))⟩
    (.one ⟨some s46, none, (.mv (.t s45))⟩
    (.one ⟨some s47, some (s46, true), (.mv (.t s2))⟩
    (.one ⟨some s48, some (s46, true), (.bin false .eql (.t s47) (.c (.v (.int .i64 0))))⟩
    (.one ⟨some s49, none, (.pick (.t s46) (.t s48) (.c (.v (.bool false))))⟩
    (.one ⟨some s50, none, (.mv (.t s49))⟩
    (.one ⟨some s51, some (s50, true), (.mv (.t s3))⟩
    (.one ⟨some s52, some (s50, true), (.b2s (.t s51))⟩
    (.one ⟨some s53, some (s50, true), (.bin false .eql (.t s52) (.c (.v (.string ⟨#[30, 188, 0, 32, 1, 2, 3]⟩))))⟩
    (.one ⟨some s54, none, (.pick (.t s50) (.t s53) (.c (.v (.bool false))))⟩
    (.one ⟨some s55, none, (.mv (.t s54))⟩
    (.one ⟨some s56, some (s55, true), (.mv (.t s4))⟩
    (.one ⟨some s57, some (s55, true), (.bin false .eql (.t s56) (.c (.v (.int .i64 0))))⟩
    (.one ⟨some s58, none, (.pick (.t s55) (.t s57) (.c (.v (.bool false))))⟩
    (.one ⟨some s59, none, (.mv (.t s58))⟩
    (.one ⟨some s60, some (s59, true), (.mv (.t s6))⟩
    (.one ⟨some s61, some (s59, true), (.bin false .eql (.t s60) (.c (.v (.int .i64 0))))⟩
    (.one ⟨some s62, none, (.pick (.t s59) (.t s61) (.c (.v (.bool false))))⟩
    (.one ⟨some s63, none, (.mv (.t s62))⟩
    (.one ⟨some s64, some (s63, true), (.faddr 1 (.t s5))⟩
    (.one ⟨some s65, some (s63, true), (.load none (.t s64))⟩
    (.one ⟨some s66, some (s63, true), (.bin false .eql (.t s65) (.c (.v (.int .i64 700))))⟩
    (.one ⟨some s67, none, (.pick (.t s63) (.t s66) (.c (.v (.bool false))))⟩
    (.one ⟨some s68, none, (.mv (.t s67))⟩
    (.one ⟨some s69, some (s68, true), (.faddr 0 (.t s5))⟩
    (.one ⟨some s70, some (s68, true), (.load none (.t s69))⟩
    (.one ⟨some s71, some (s68, true), (.bin false .eql (.t s70) (.c (.v (.int .i64 3))))⟩
    (.one ⟨some s72, none, (.pick (.t s68) (.t s71) (.c (.v (.bool false))))⟩
    (.one ⟨some s73, none, (.mv (.t s72))⟩
    (.one ⟨some s74, some (s73, true), (.faddr 2 (.t s5))⟩
    (.one ⟨some s75, some (s73, true), (.load none (.t s74))⟩
    (.one ⟨some s76, some (s73, true), (.len false (.t s75))⟩
    (.one ⟨some s77, some (s73, true), (.bin false .eql (.t s76) (.c (.v (.int .i64 2))))⟩
    (.one ⟨some s78, none, (.pick (.t s73) (.t s77) (.c (.v (.bool false))))⟩
    (.one ⟨some s79, none, (.mv (.t s78))⟩
    (.one ⟨some s80, some (s79, true), (.mv (.t s8))⟩
    (.one ⟨some s81, some (s79, true), (.bin false .eql (.t s80) (.c (.v (.int .i64 8))))⟩
    (.one ⟨some s82, none, (.pick (.t s79) (.t s81) (.c (.v (.bool false))))⟩
    (.one ⟨some s83, none, (.mv (.t s82))⟩
    (.one ⟨some s84, some (s83, true), (.mv (.t s10))⟩
    (.one ⟨some s85, some (s83, true), (.bin false .eql (.t s84) (.c (.v (.int .i64 3))))⟩
    (.one ⟨some s86, none, (.pick (.t s83) (.t s85) (.c (.v (.bool false))))⟩
    (.one ⟨some s0, none, (.mv (.t s86))⟩
    .done))))))))))))))))))))))))))))))))))))))))))))))
  .ret)))))))⟩
theorem ok7 : compF Try.prog c7 Try.f7 = some ir7 := by kernel_rfl
theorem k_bowlinelaw09_alive {args : List AVal} {σ : AHeap} {Q : AVal → AHeap → Prop} (hl : Nat.ble args.length 87 = true) (h : argsK (Env.full 9) 0 args fun env => evC Try.prog c7 ir7.body env σ (retQ ir7 Q)) : ACalls Try.prog 7 args σ Q :=
  acalls_of Try.func7 ok7 rfl (Nat.le_of_ble_eq_true hl) h
/- bowlinelaw09.as -/
def c11 : Cfg := ⟨qs, [], 10, []⟩
def ir11 : IFun := ⟨1, [.cell s2 (some 3)],
  (.seq (.reg (.one ⟨some s1, none, (.box 3 (.t s0))⟩
    (.one ⟨some s2, none, (.new [(.v (.int .i64 0)), (.v (.int .i64 0)), (.slice 1 [] .full)])⟩
    .done)))
  (.seq (.reg (.one ⟨some s3, none, (.faddr 0 (.t s1))⟩
    (.one ⟨some s4, none, (.load none (.t s3))⟩
    (.one ⟨some s5, none, (.faddr 1 (.t s1))⟩
    (.one ⟨some s6, none, (.load none (.t s5))⟩
    (.one ⟨some s7, none, (.faddr 2 (.t s1))⟩
    (.one ⟨some s8, none, (.load none (.t s7))⟩
    (.one ⟨some s9, none, (.build [(.v (.int .i64 0)), (.v (.int .i64 0)), (.slice 1 [] .full)] [(0, 1, (.t s4)), (1, 1, (.t s6)), (2, 1, (.t s8))])⟩
    (.one ⟨none, none, (.store 3 (.t s2) (.t s9))⟩
    .done)))))))))
  .ret))⟩
theorem ok11 : compF Try.prog c11 Try.f11 = some ir11 := by kernel_rfl
theorem k_bowlinelaw09_as {args : List AVal} {σ : AHeap} {Q : AVal → AHeap → Prop} (hl : Nat.ble args.length 10 = true) (h : argsK (Env.full 9) 0 args fun env => evC Try.prog c11 ir11.body env σ (retQ ir11 Q)) : ACalls Try.prog 11 args σ Q :=
  acalls_of Try.func11 ok11 rfl (Nat.le_of_ble_eq_true hl) h
/- bowlinelaw09.Great -/
def c12 : Cfg := ⟨qs, [], 31, []⟩
def ir12 : IFun := ⟨1, [.tmp s2],
  (.seq (.reg (.one ⟨some s2, none, (.mv (.c (.v (.bool false))))⟩
    .done))
  (.seq (.reg (.one ⟨some s3, none, (.mv (.c (.v (.int .i64 0))))⟩
    .done))
  (.seq (.seq (.reg (.one ⟨some s4, none, (.mv (.c (.v (.int .i64 0))))⟩
    .done))
  (.block 0 (.loop (.seq (.seq (.reg (.one ⟨some s5, none, (.mv (.t s4))⟩
    (.one ⟨some s6, none, (.mv (.t s0))⟩
    (.one ⟨some s7, none, (.len false (.t s6))⟩
    (.one ⟨some s8, none, (.bin false .lss (.t s5) (.t s7))⟩
    .done)))))
  (.cond (.t s8) .skip (.exit 0)))
  (.seq (.block 1 (.seq (.seq (.reg (.one ⟨some s11, none, (.mv (.t s0))⟩
    (.one ⟨some s12, none, (.len false (.t s11))⟩
    (.one ⟨some s13, none, (.bin false .gtr (.t s12) (.c (.v (.int .i64 40))))⟩
    (.one ⟨some s14, none, (.mv (.t s13))⟩
    (.one ⟨some s15, some (s14, false), (.mv (.t s0))⟩
    (.one ⟨some s16, some (s14, false), (.mv (.t s4))⟩
    (.one ⟨some s17, some (s14, false), (.iaddr 1 (.t s15) (.t s16))⟩
    (.one ⟨some s18, some (s14, false), (.load none (.t s17))⟩
    (.one ⟨some s19, some (s14, false), (.len false (.t s18))⟩
    (.one ⟨some s20, some (s14, false), (.bin false .gtr (.t s19) (.c (.v (.int .i64 4200))))⟩
    (.one ⟨some s21, none, (.pick (.t s14) (.c (.v (.bool true))) (.t s20))⟩
    .done))))))))))))
  (.cond (.t s21) (.seq (.reg (.one ⟨some s2, none, (.mv (.c (.v (.bool true))))⟩
    .done))
  .ret) .skip))
  (.reg (.one ⟨some s22, none, (.mv (.t s3))⟩
    (.one ⟨some s23, none, (.mv (.t s0))⟩
    (.one ⟨some s24, none, (.mv (.t s4))⟩
    (.one ⟨some s25, none, (.iaddr 1 (.t s23) (.t s24))⟩
    (.one ⟨some s26, none, (.load none (.t s25))⟩
    (.one ⟨some s27, none, (.len false (.t s26))⟩
    (.one ⟨some s28, none, (.bin false .add (.t s22) (.t s27))⟩
    (.one ⟨some s3, none, (.mv (.t s28))⟩
    .done)))))))))))
  (.reg (.one ⟨some s9, none, (.mv (.t s4))⟩
    (.one ⟨some s10, none, (.bin false .add (.t s9) (.c (.v (.int .i64 1))))⟩
    (.one ⟨some s4, none, (.mv (.t s10))⟩
    .done)))))))))
  (.seq (.reg (.one ⟨some s29, none, (.mv (.t s3))⟩
    (.one ⟨some s30, none, (.bin false .gtr (.t s29) (.c (.v (.int .i64 9000))))⟩
    (.one ⟨some s2, none, (.mv (.t s30))⟩
    .done))))
  .ret))))⟩
theorem ok12 : compF Try.prog c12 Try.f12 = some ir12 := by kernel_rfl
theorem k_bowlinelaw09_Great {args : List AVal} {σ : AHeap} {Q : AVal → AHeap → Prop} (hl : Nat.ble args.length 31 = true) (h : argsK (Env.full 9) 0 args fun env => evC Try.prog c12 ir12.body env σ (retQ ir12 Q)) : ACalls Try.prog 12 args σ Q :=
  acalls_of Try.func12 ok12 rfl (Nat.le_of_ble_eq_true hl) h
end Go.Proofs.Ythjjkcmiachpcaa
/-
  Packets that are not acknowledged: equality, and what must come of fixed calls.
-/
namespace Go.Proofs.Ythjjkcmiachpcaa
set_option linter.unusedVariables false
set_option linter.unusedSimpArgs false
open Go Go.Am

theorem bEqual (a b : List UInt8) (t u : Tok) (σ : AHeap) : ACalls Try.prog i_bytes_Equal [sl t a, sl u b] σ fun v σ' => v = boolv (decide (a = b)) ∧ σ' = σ := by
  refine k_bytes_Equal rfl ?_
  ((conv => whnf); (repeat ((first | with_reducible refine abr_true rfl ?_ | with_reducible refine abr_false rfl ?_ | with_reducible refine abr_yes rfl ?_ | refine abr_yes (by decide) ?_ | refine abr_no (by decide) ?_ | with_reducible refine abr_same_ne ?_); (conv => whnf))))
  refine astr rfl ?_
  ((conv => whnf); (repeat ((first | with_reducible refine abr_true rfl ?_ | with_reducible refine abr_false rfl ?_ | with_reducible refine abr_yes rfl ?_ | refine abr_yes (by decide) ?_ | refine abr_no (by decide) ?_ | with_reducible refine abr_same_ne ?_); (conv => whnf))))
  refine astr rfl ?_
  ((conv => whnf); (repeat ((first | with_reducible refine abr_true rfl ?_ | with_reducible refine abr_false rfl ?_ | with_reducible refine abr_yes rfl ?_ | refine abr_yes (by decide) ?_ | refine abr_no (by decide) ?_ | with_reducible refine abr_same_ne ?_); (conv => whnf))))
  refine aret_same ⟨congrArg boolv (dec_congr ⟨fun h => ?_, fun h => by rw [h]⟩), rfl⟩
  simpa using h

theorem eqLists (a b : List (List UInt8)) (t u : Tok) (σ : AHeap) (hl : a.length ≤ 140737488355320) : ACalls Try.prog i_slices_EqualFunc_byte_byte_byte_byte [lists t a, lists u b, .func i_bytes_Equal [] []] σ fun v σ' => v = boolv (decide (a = b)) ∧ σ' = σ := by
  refine k_slices_EqualFunc_byte_byte_byte_byte rfl ?_
  ((conv => whnf); (repeat ((first | with_reducible refine abr_true rfl ?_ | with_reducible refine abr_false rfl ?_ | with_reducible refine abr_yes rfl ?_ | refine abr_yes (by decide) ?_ | refine abr_no (by decide) ?_ | with_reducible refine abr_same_ne ?_); (conv => whnf))))
  rw [List.length_map, List.length_map]
  by_cases h : a.length = b.length
  · (repeat ((first | refine aload (by (repeat (first | with_reducible exact upd_same _ _ _ | assumption | rw [upd_ne _ _ (by first | assumption | (apply Ne.symm; assumption))]))) rfl ?_ | refine afit_i64 (by omega) ?_ | refine arem_nonneg (by omega) (by omega) ?_ | refine adiv_i64 (by omega) (by omega) ?_ | refine abr_yes (by omega) ?_ | refine abr_no (by omega) ?_ | refine amin ?_ | refine amax ?_ | refine afit_u64 (by omega) ?_ | refine afit_u8 (by omega) ?_ | rw [List.length_map]); ((conv => whnf); (repeat ((first | with_reducible refine abr_true rfl ?_ | with_reducible refine abr_false rfl ?_ | with_reducible refine abr_yes rfl ?_ | refine abr_yes (by decide) ?_ | refine abr_no (by decide) ?_ | with_reducible refine abr_same_ne ?_); (conv => whnf))))))
    refine aloop (α := Nat) (fun i => [(s17, i64v i)]) (fun _ => σ) (fun i => i ≤ a.length ∧ a.take i = b.take i) (fun i => a.length - i) 0 ⟨Nat.zero_le _, rfl⟩ (Sub.refl _) ?_ ?_
    · ((conv => whnf); (repeat ((first | with_reducible refine abr_true rfl ?_ | with_reducible refine abr_false rfl ?_ | with_reducible refine abr_yes rfl ?_ | refine abr_yes (by decide) ?_ | refine abr_no (by decide) ?_ | with_reducible refine abr_same_ne ?_); (conv => whnf))))
      (repeat' first | with_reducible exact EnvLe.refl _ | (refine EnvLe.node ?_ (by first | exact Or.inl rfl | exact Or.inr (Or.inl rfl) | exact Or.inr (Or.inr ⟨nofun, VLe.slice _ _ _⟩)) ?_))
    rintro i ⟨hi, he⟩
    by_cases h1 : i < a.length
    · have h2 : i < b.length := by omega
      ((conv => whnf); (repeat ((first | with_reducible refine abr_true rfl ?_ | with_reducible refine abr_false rfl ?_ | with_reducible refine abr_yes rfl ?_ | refine abr_yes (by decide) ?_ | refine abr_no (by decide) ?_ | with_reducible refine abr_same_ne ?_); (conv => whnf))))
      (repeat ((first | refine aload (by (repeat (first | with_reducible exact upd_same _ _ _ | assumption | rw [upd_ne _ _ (by first | assumption | (apply Ne.symm; assumption))]))) rfl ?_ | refine afit_i64 (by omega) ?_ | refine arem_nonneg (by omega) (by omega) ?_ | refine adiv_i64 (by omega) (by omega) ?_ | refine abr_yes (by omega) ?_ | refine abr_no (by omega) ?_ | refine amin ?_ | refine amax ?_ | refine afit_u64 (by omega) ?_ | refine afit_u8 (by omega) ?_ | rw [List.length_map]); ((conv => whnf); (repeat ((first | with_reducible refine abr_true rfl ?_ | with_reducible refine abr_false rfl ?_ | with_reducible refine abr_yes rfl ?_ | refine abr_yes (by decide) ?_ | refine abr_no (by decide) ?_ | with_reducible refine abr_same_ne ?_); (conv => whnf))))))
      refine aget (by omega) (get_lists h1) ?_
      ((conv => whnf); (repeat ((first | with_reducible refine abr_true rfl ?_ | with_reducible refine abr_false rfl ?_ | with_reducible refine abr_yes rfl ?_ | refine abr_yes (by decide) ?_ | refine abr_no (by decide) ?_ | with_reducible refine abr_same_ne ?_); (conv => whnf))))
      refine acell rfl ?_
      ((conv => whnf); (repeat ((first | with_reducible refine abr_true rfl ?_ | with_reducible refine abr_false rfl ?_ | with_reducible refine abr_yes rfl ?_ | refine abr_yes (by decide) ?_ | refine abr_no (by decide) ?_ | with_reducible refine abr_same_ne ?_); (conv => whnf))))
      refine aget (by omega) (get_lists h2) ?_
      ((conv => whnf); (repeat ((first | with_reducible refine abr_true rfl ?_ | with_reducible refine abr_false rfl ?_ | with_reducible refine abr_yes rfl ?_ | refine abr_yes (by decide) ?_ | refine abr_no (by decide) ?_ | with_reducible refine abr_same_ne ?_); (conv => whnf))))
      refine acell rfl ?_
      ((conv => whnf); (repeat ((first | with_reducible refine abr_true rfl ?_ | with_reducible refine abr_false rfl ?_ | with_reducible refine abr_yes rfl ?_ | refine abr_yes (by decide) ?_ | refine abr_no (by decide) ?_ | with_reducible refine abr_same_ne ?_); (conv => whnf))))
      refine ⟨rfl, ?_⟩
      ((conv => whnf); (repeat ((first | with_reducible refine abr_true rfl ?_ | with_reducible refine abr_false rfl ?_ | with_reducible refine abr_yes rfl ?_ | refine abr_yes (by decide) ?_ | refine abr_no (by decide) ?_ | with_reducible refine abr_same_ne ?_); (conv => whnf))))
      refine acall (bEqual a[i] b[i] .none .none _) ?_
      rintro _ σ_ ⟨rfl, e_⟩
      obtain rfl := e_.symm
      ((conv => whnf); (repeat ((first | with_reducible refine abr_true rfl ?_ | with_reducible refine abr_false rfl ?_ | with_reducible refine abr_yes rfl ?_ | refine abr_yes (by decide) ?_ | refine abr_no (by decide) ?_ | with_reducible refine abr_same_ne ?_); (conv => whnf))))
      by_cases h3 : a[i] = b[i]
      · refine abr_false (by rw [decide_eq_true h3]; rfl) ?_
        ((conv => whnf); (repeat ((first | with_reducible refine abr_true rfl ?_ | with_reducible refine abr_false rfl ?_ | with_reducible refine abr_yes rfl ?_ | refine abr_yes (by decide) ?_ | refine abr_no (by decide) ?_ | with_reducible refine abr_same_ne ?_); (conv => whnf))))
        (repeat ((first | refine aload (by (repeat (first | with_reducible exact upd_same _ _ _ | assumption | rw [upd_ne _ _ (by first | assumption | (apply Ne.symm; assumption))]))) rfl ?_ | refine afit_i64 (by omega) ?_ | refine arem_nonneg (by omega) (by omega) ?_ | refine adiv_i64 (by omega) (by omega) ?_ | refine abr_yes (by omega) ?_ | refine abr_no (by omega) ?_ | refine amin ?_ | refine amax ?_ | refine afit_u64 (by omega) ?_ | refine afit_u8 (by omega) ?_ | rw [List.length_map]); ((conv => whnf); (repeat ((first | with_reducible refine abr_true rfl ?_ | with_reducible refine abr_false rfl ?_ | with_reducible refine abr_yes rfl ?_ | refine abr_yes (by decide) ?_ | refine abr_no (by decide) ?_ | with_reducible refine abr_same_ne ?_); (conv => whnf))))))
        refine ⟨i + 1, ⟨h1, ?_⟩, by omega, Sub.refl _, ?_⟩
        · rw [List.take_add_one, List.take_add_one, he, List.getElem?_eq_getElem h1, List.getElem?_eq_getElem h2, h3]
        · ((conv => whnf); (repeat ((first | with_reducible refine abr_true rfl ?_ | with_reducible refine abr_false rfl ?_ | with_reducible refine abr_yes rfl ?_ | refine abr_yes (by decide) ?_ | refine abr_no (by decide) ?_ | with_reducible refine abr_same_ne ?_); (conv => whnf))))
          (repeat' first | with_reducible exact EnvLe.refl _ | (refine EnvLe.node ?_ (by first | exact Or.inl rfl | exact Or.inr (Or.inl rfl) | exact Or.inr (Or.inr ⟨nofun, VLe.slice _ _ _⟩)) ?_))
      · refine abr_true (by rw [decide_eq_false h3]; rfl) ?_
        ((conv => whnf); (repeat ((first | with_reducible refine abr_true rfl ?_ | with_reducible refine abr_false rfl ?_ | with_reducible refine abr_yes rfl ?_ | refine abr_yes (by decide) ?_ | refine abr_no (by decide) ?_ | with_reducible refine abr_same_ne ?_); (conv => whnf))))
        exact aret_same ⟨congrArg boolv (decide_eq_false fun e => h3 (by subst e; rfl)).symm, rfl⟩
    · rw [List.take_of_length_le (by omega), List.take_of_length_le (by omega)] at he
      ((conv => whnf); (repeat ((first | with_reducible refine abr_true rfl ?_ | with_reducible refine abr_false rfl ?_ | with_reducible refine abr_yes rfl ?_ | refine abr_yes (by decide) ?_ | refine abr_no (by decide) ?_ | with_reducible refine abr_same_ne ?_); (conv => whnf))))
      (repeat ((first | refine aload (by (repeat (first | with_reducible exact upd_same _ _ _ | assumption | rw [upd_ne _ _ (by first | assumption | (apply Ne.symm; assumption))]))) rfl ?_ | refine afit_i64 (by omega) ?_ | refine arem_nonneg (by omega) (by omega) ?_ | refine adiv_i64 (by omega) (by omega) ?_ | refine abr_yes (by omega) ?_ | refine abr_no (by omega) ?_ | refine amin ?_ | refine amax ?_ | refine afit_u64 (by omega) ?_ | refine afit_u8 (by omega) ?_ | rw [List.length_map]); ((conv => whnf); (repeat ((first | with_reducible refine abr_true rfl ?_ | with_reducible refine abr_false rfl ?_ | with_reducible refine abr_yes rfl ?_ | refine abr_yes (by decide) ?_ | refine abr_no (by decide) ?_ | with_reducible refine abr_same_ne ?_); (conv => whnf))))))
      exact aret_same ⟨congrArg boolv (decide_eq_true he).symm, rfl⟩
  · refine abr_yes (by omega) ?_
    ((conv => whnf); (repeat ((first | with_reducible refine abr_true rfl ?_ | with_reducible refine abr_false rfl ?_ | with_reducible refine abr_yes rfl ?_ | refine abr_yes (by decide) ?_ | refine abr_no (by decide) ?_ | with_reducible refine abr_same_ne ?_); (conv => whnf))))
    exact aret_same ⟨congrArg boolv (decide_eq_false fun e => h (by rw [e])).symm, rfl⟩

theorem refSameFields (a b : List (List UInt8)) (t u : Tok) (σ : AHeap) (hl : a.length ≤ 140737488355320) : ACalls Try.prog i_bowlineref09_SameFields [lists t a, lists u b] σ fun v σ' => v = boolv (decide (a = b)) ∧ σ' = σ := by
  refine k_bowlineref09_SameFields rfl ?_
  ((conv => whnf); (repeat ((first | with_reducible refine abr_true rfl ?_ | with_reducible refine abr_false rfl ?_ | with_reducible refine abr_yes rfl ?_ | refine abr_yes (by decide) ?_ | refine abr_no (by decide) ?_ | with_reducible refine abr_same_ne ?_); (conv => whnf))))
  rw [List.length_map, List.length_map]
  by_cases h : a.length = b.length
  · (repeat ((first | refine aload (by (repeat (first | with_reducible exact upd_same _ _ _ | assumption | rw [upd_ne _ _ (by first | assumption | (apply Ne.symm; assumption))]))) rfl ?_ | refine afit_i64 (by omega) ?_ | refine arem_nonneg (by omega) (by omega) ?_ | refine adiv_i64 (by omega) (by omega) ?_ | refine abr_yes (by omega) ?_ | refine abr_no (by omega) ?_ | refine amin ?_ | refine amax ?_ | refine afit_u64 (by omega) ?_ | refine afit_u8 (by omega) ?_ | rw [List.length_map]); ((conv => whnf); (repeat ((first | with_reducible refine abr_true rfl ?_ | with_reducible refine abr_false rfl ?_ | with_reducible refine abr_yes rfl ?_ | refine abr_yes (by decide) ?_ | refine abr_no (by decide) ?_ | with_reducible refine abr_same_ne ?_); (conv => whnf))))))
    refine aloop (α := Nat) (fun i => [(s5, i64v i)]) (fun _ => σ) (fun i => i ≤ a.length ∧ a.take i = b.take i) (fun i => a.length - i) 0 ⟨Nat.zero_le _, rfl⟩ (Sub.refl _) ?_ ?_
    · ((conv => whnf); (repeat ((first | with_reducible refine abr_true rfl ?_ | with_reducible refine abr_false rfl ?_ | with_reducible refine abr_yes rfl ?_ | refine abr_yes (by decide) ?_ | refine abr_no (by decide) ?_ | with_reducible refine abr_same_ne ?_); (conv => whnf))))
      (repeat' first | with_reducible exact EnvLe.refl _ | (refine EnvLe.node ?_ (by first | exact Or.inl rfl | exact Or.inr (Or.inl rfl) | exact Or.inr (Or.inr ⟨nofun, VLe.slice _ _ _⟩)) ?_))
    rintro i ⟨hi, he⟩
    by_cases h1 : i < a.length
    · have h2 : i < b.length := by omega
      ((conv => whnf); (repeat ((first | with_reducible refine abr_true rfl ?_ | with_reducible refine abr_false rfl ?_ | with_reducible refine abr_yes rfl ?_ | refine abr_yes (by decide) ?_ | refine abr_no (by decide) ?_ | with_reducible refine abr_same_ne ?_); (conv => whnf))))
      (repeat ((first | refine aload (by (repeat (first | with_reducible exact upd_same _ _ _ | assumption | rw [upd_ne _ _ (by first | assumption | (apply Ne.symm; assumption))]))) rfl ?_ | refine afit_i64 (by omega) ?_ | refine arem_nonneg (by omega) (by omega) ?_ | refine adiv_i64 (by omega) (by omega) ?_ | refine abr_yes (by omega) ?_ | refine abr_no (by omega) ?_ | refine amin ?_ | refine amax ?_ | refine afit_u64 (by omega) ?_ | refine afit_u8 (by omega) ?_ | rw [List.length_map]); ((conv => whnf); (repeat ((first | with_reducible refine abr_true rfl ?_ | with_reducible refine abr_false rfl ?_ | with_reducible refine abr_yes rfl ?_ | refine abr_yes (by decide) ?_ | refine abr_no (by decide) ?_ | with_reducible refine abr_same_ne ?_); (conv => whnf))))))
      refine aget (by omega) (get_lists h1) ?_
      ((conv => whnf); (repeat ((first | with_reducible refine abr_true rfl ?_ | with_reducible refine abr_false rfl ?_ | with_reducible refine abr_yes rfl ?_ | refine abr_yes (by decide) ?_ | refine abr_no (by decide) ?_ | with_reducible refine abr_same_ne ?_); (conv => whnf))))
      refine acell rfl ?_
      ((conv => whnf); (repeat ((first | with_reducible refine abr_true rfl ?_ | with_reducible refine abr_false rfl ?_ | with_reducible refine abr_yes rfl ?_ | refine abr_yes (by decide) ?_ | refine abr_no (by decide) ?_ | with_reducible refine abr_same_ne ?_); (conv => whnf))))
      refine astr rfl ?_
      ((conv => whnf); (repeat ((first | with_reducible refine abr_true rfl ?_ | with_reducible refine abr_false rfl ?_ | with_reducible refine abr_yes rfl ?_ | refine abr_yes (by decide) ?_ | refine abr_no (by decide) ?_ | with_reducible refine abr_same_ne ?_); (conv => whnf))))
      refine aget (by omega) (get_lists h2) ?_
      ((conv => whnf); (repeat ((first | with_reducible refine abr_true rfl ?_ | with_reducible refine abr_false rfl ?_ | with_reducible refine abr_yes rfl ?_ | refine abr_yes (by decide) ?_ | refine abr_no (by decide) ?_ | with_reducible refine abr_same_ne ?_); (conv => whnf))))
      refine acell rfl ?_
      ((conv => whnf); (repeat ((first | with_reducible refine abr_true rfl ?_ | with_reducible refine abr_false rfl ?_ | with_reducible refine abr_yes rfl ?_ | refine abr_yes (by decide) ?_ | refine abr_no (by decide) ?_ | with_reducible refine abr_same_ne ?_); (conv => whnf))))
      refine astr rfl ?_
      ((conv => whnf); (repeat ((first | with_reducible refine abr_true rfl ?_ | with_reducible refine abr_false rfl ?_ | with_reducible refine abr_yes rfl ?_ | refine abr_yes (by decide) ?_ | refine abr_no (by decide) ?_ | with_reducible refine abr_same_ne ?_); (conv => whnf))))
      by_cases h4 : a[i] = b[i]
      · refine abr_no (fun h => h (by rw [h4])) ?_
        ((conv => whnf); (repeat ((first | with_reducible refine abr_true rfl ?_ | with_reducible refine abr_false rfl ?_ | with_reducible refine abr_yes rfl ?_ | refine abr_yes (by decide) ?_ | refine abr_no (by decide) ?_ | with_reducible refine abr_same_ne ?_); (conv => whnf))))
        (repeat ((first | refine aload (by (repeat (first | with_reducible exact upd_same _ _ _ | assumption | rw [upd_ne _ _ (by first | assumption | (apply Ne.symm; assumption))]))) rfl ?_ | refine afit_i64 (by omega) ?_ | refine arem_nonneg (by omega) (by omega) ?_ | refine adiv_i64 (by omega) (by omega) ?_ | refine abr_yes (by omega) ?_ | refine abr_no (by omega) ?_ | refine amin ?_ | refine amax ?_ | refine afit_u64 (by omega) ?_ | refine afit_u8 (by omega) ?_ | rw [List.length_map]); ((conv => whnf); (repeat ((first | with_reducible refine abr_true rfl ?_ | with_reducible refine abr_false rfl ?_ | with_reducible refine abr_yes rfl ?_ | refine abr_yes (by decide) ?_ | refine abr_no (by decide) ?_ | with_reducible refine abr_same_ne ?_); (conv => whnf))))))
        refine ⟨i + 1, ⟨h1, ?_⟩, by omega, Sub.refl _, ?_⟩
        · rw [List.take_add_one, List.take_add_one, he, List.getElem?_eq_getElem h1, List.getElem?_eq_getElem h2, h4]
        · ((conv => whnf); (repeat ((first | with_reducible refine abr_true rfl ?_ | with_reducible refine abr_false rfl ?_ | with_reducible refine abr_yes rfl ?_ | refine abr_yes (by decide) ?_ | refine abr_no (by decide) ?_ | with_reducible refine abr_same_ne ?_); (conv => whnf))))
          (repeat' first | with_reducible exact EnvLe.refl _ | (refine EnvLe.node ?_ (by first | exact Or.inl rfl | exact Or.inr (Or.inl rfl) | exact Or.inr (Or.inr ⟨nofun, VLe.slice _ _ _⟩)) ?_))
      · refine abr_yes (fun h => h4 (by simpa using h)) ?_
        ((conv => whnf); (repeat ((first | with_reducible refine abr_true rfl ?_ | with_reducible refine abr_false rfl ?_ | with_reducible refine abr_yes rfl ?_ | refine abr_yes (by decide) ?_ | refine abr_no (by decide) ?_ | with_reducible refine abr_same_ne ?_); (conv => whnf))))
        exact aret_same ⟨congrArg boolv (decide_eq_false fun e => h4 (by subst e; rfl)).symm, rfl⟩
    · rw [List.take_of_length_le (by omega), List.take_of_length_le (by omega)] at he
      ((conv => whnf); (repeat ((first | with_reducible refine abr_true rfl ?_ | with_reducible refine abr_false rfl ?_ | with_reducible refine abr_yes rfl ?_ | refine abr_yes (by decide) ?_ | refine abr_no (by decide) ?_ | with_reducible refine abr_same_ne ?_); (conv => whnf))))
      (repeat ((first | refine aload (by (repeat (first | with_reducible exact upd_same _ _ _ | assumption | rw [upd_ne _ _ (by first | assumption | (apply Ne.symm; assumption))]))) rfl ?_ | refine afit_i64 (by omega) ?_ | refine arem_nonneg (by omega) (by omega) ?_ | refine adiv_i64 (by omega) (by omega) ?_ | refine abr_yes (by omega) ?_ | refine abr_no (by omega) ?_ | refine amin ?_ | refine amax ?_ | refine afit_u64 (by omega) ?_ | refine afit_u8 (by omega) ?_ | rw [List.length_map]); ((conv => whnf); (repeat ((first | with_reducible refine abr_true rfl ?_ | with_reducible refine abr_false rfl ?_ | with_reducible refine abr_yes rfl ?_ | refine abr_yes (by decide) ?_ | refine abr_no (by decide) ?_ | with_reducible refine abr_same_ne ?_); (conv => whnf))))))
      exact aret_same ⟨congrArg boolv (decide_eq_true he).symm, rfl⟩
  · refine abr_yes (by omega) ?_
    ((conv => whnf); (repeat ((first | with_reducible refine abr_true rfl ?_ | with_reducible refine abr_false rfl ?_ | with_reducible refine abr_yes rfl ?_ | refine abr_yes (by decide) ?_ | refine abr_no (by decide) ?_ | with_reducible refine abr_same_ne ?_); (conv => whnf))))
    exact aret_same ⟨congrArg boolv (decide_eq_false fun e => h (by rw [e])).symm, rfl⟩

def samePk (fi sn : Int) (l : List (List UInt8)) (gi tn : Int) (m : List (List UInt8)) : Bool := decide (fi = gi ∧ sn = tn ∧ l = m)
theorem refSame09 (fi sn : Int) (l : List (List UInt8)) (gi tn : Int) (m : List (List UInt8)) (σ : AHeap) (hl : l.length ≤ 140737488355320) : ACalls Try.prog i_bowlineref09_Same [pkV fi sn l, pkV gi tn m] σ fun v σ' => v = boolv (samePk fi sn l gi tn m) ∧ σ' = σ := by
  refine k_bowlineref09_Same rfl ?_
  ((conv => whnf); (repeat ((first | with_reducible refine abr_true rfl ?_ | with_reducible refine abr_false rfl ?_ | with_reducible refine abr_yes rfl ?_ | refine abr_yes (by decide) ?_ | refine abr_no (by decide) ?_ | with_reducible refine abr_same_ne ?_); (conv => whnf))))
  refine anew rfl fun id hid => ?_
  ((conv => whnf); (repeat ((first | with_reducible refine abr_true rfl ?_ | with_reducible refine abr_false rfl ?_ | with_reducible refine abr_yes rfl ?_ | refine abr_yes (by decide) ?_ | refine abr_no (by decide) ?_ | with_reducible refine abr_same_ne ?_); (conv => whnf))))
  refine anew rfl fun id2 hid2 => ?_
  have hne : id ≠ id2 := fun e => by subst e; rw [upd_same] at hid2; cases hid2
  have hs : Sub (upd (upd σ id (.cells (pkV fi sn l).cells)) id2 (.cells (pkV gi tn m).cells)) σ := (Sub.upd_fresh _ hid2).trans (Sub.upd_fresh _ hid)
  ((conv => whnf); (repeat ((first | with_reducible refine abr_true rfl ?_ | with_reducible refine abr_false rfl ?_ | with_reducible refine abr_yes rfl ?_ | refine abr_yes (by decide) ?_ | refine abr_no (by decide) ?_ | with_reducible refine abr_same_ne ?_); (conv => whnf))))
  by_cases h1 : fi = gi
  · by_cases h2 : sn = tn
    · (repeat ((first | refine aload (by (repeat (first | with_reducible exact upd_same _ _ _ | assumption | rw [upd_ne _ _ (by first | assumption | (apply Ne.symm; assumption))]))) rfl ?_ | refine afit_i64 (by omega) ?_ | refine arem_nonneg (by omega) (by omega) ?_ | refine adiv_i64 (by omega) (by omega) ?_ | refine abr_yes (by omega) ?_ | refine abr_no (by omega) ?_ | refine amin ?_ | refine amax ?_ | refine afit_u64 (by omega) ?_ | refine afit_u8 (by omega) ?_ | rw [List.length_map]); ((conv => whnf); (repeat ((first | with_reducible refine abr_true rfl ?_ | with_reducible refine abr_false rfl ?_ | with_reducible refine abr_yes rfl ?_ | refine abr_yes (by decide) ?_ | refine abr_no (by decide) ?_ | with_reducible refine abr_same_ne ?_); (conv => whnf))))))
      refine acall (refSameFields l m .none .none _ hl) ?_
      rintro _ σ_ ⟨rfl, e_⟩
      obtain rfl := e_.symm
      refine ⟨?_, Ext.refl _⟩
      ((conv => whnf); (repeat ((first | with_reducible refine abr_true rfl ?_ | with_reducible refine abr_false rfl ?_ | with_reducible refine abr_yes rfl ?_ | refine abr_yes (by decide) ?_ | refine abr_no (by decide) ?_ | with_reducible refine abr_same_ne ?_); (conv => whnf))))
      exact aret (VLe.refl _) hs ⟨congrArg boolv (dec_congr ⟨fun h => ⟨h1, h2, h⟩, fun h => h.2.2⟩), rfl⟩
    · (repeat ((first | refine aload (by (repeat (first | with_reducible exact upd_same _ _ _ | assumption | rw [upd_ne _ _ (by first | assumption | (apply Ne.symm; assumption))]))) rfl ?_ | refine afit_i64 (by omega) ?_ | refine arem_nonneg (by omega) (by omega) ?_ | refine adiv_i64 (by omega) (by omega) ?_ | refine abr_yes (by omega) ?_ | refine abr_no (by omega) ?_ | refine amin ?_ | refine amax ?_ | refine afit_u64 (by omega) ?_ | refine afit_u8 (by omega) ?_ | rw [List.length_map]); ((conv => whnf); (repeat ((first | with_reducible refine abr_true rfl ?_ | with_reducible refine abr_false rfl ?_ | with_reducible refine abr_yes rfl ?_ | refine abr_yes (by decide) ?_ | refine abr_no (by decide) ?_ | with_reducible refine abr_same_ne ?_); (conv => whnf))))))
      exact aret (VLe.refl _) hs ⟨congrArg boolv (decide_eq_false fun h => h2 h.2.1).symm, rfl⟩
  · (repeat ((first | refine aload (by (repeat (first | with_reducible exact upd_same _ _ _ | assumption | rw [upd_ne _ _ (by first | assumption | (apply Ne.symm; assumption))]))) rfl ?_ | refine afit_i64 (by omega) ?_ | refine arem_nonneg (by omega) (by omega) ?_ | refine adiv_i64 (by omega) (by omega) ?_ | refine abr_yes (by omega) ?_ | refine abr_no (by omega) ?_ | refine amin ?_ | refine amax ?_ | refine afit_u64 (by omega) ?_ | refine afit_u8 (by omega) ?_ | rw [List.length_map]); ((conv => whnf); (repeat ((first | with_reducible refine abr_true rfl ?_ | with_reducible refine abr_false rfl ?_ | with_reducible refine abr_yes rfl ?_ | refine abr_yes (by decide) ?_ | refine abr_no (by decide) ?_ | with_reducible refine abr_same_ne ?_); (conv => whnf))))))
    exact aret (VLe.refl _) hs ⟨congrArg boolv (decide_eq_false fun h => h1 h.1).symm, rfl⟩
theorem uSame (fi sn : Int) (l : List (List UInt8)) (gi tn : Int) (m : List (List UInt8)) (σ : AHeap) (hl : l.length ≤ 140737488355320) : ACalls Try.prog i_umd_Same [pkV fi sn l, pkV gi tn m] σ fun v σ' => v = boolv (samePk fi sn l gi tn m) ∧ σ' = σ := by
  refine k_umd_Same rfl ?_
  ((conv => whnf); (repeat ((first | with_reducible refine abr_true rfl ?_ | with_reducible refine abr_false rfl ?_ | with_reducible refine abr_yes rfl ?_ | refine abr_yes (by decide) ?_ | refine abr_no (by decide) ?_ | with_reducible refine abr_same_ne ?_); (conv => whnf))))
  refine anew rfl fun id hid => ?_
  ((conv => whnf); (repeat ((first | with_reducible refine abr_true rfl ?_ | with_reducible refine abr_false rfl ?_ | with_reducible refine abr_yes rfl ?_ | refine abr_yes (by decide) ?_ | refine abr_no (by decide) ?_ | with_reducible refine abr_same_ne ?_); (conv => whnf))))
  refine anew rfl fun id2 hid2 => ?_
  have hne : id ≠ id2 := fun e => by subst e; rw [upd_same] at hid2; cases hid2
  have hs : Sub (upd (upd σ id (.cells (pkV fi sn l).cells)) id2 (.cells (pkV gi tn m).cells)) σ := (Sub.upd_fresh _ hid2).trans (Sub.upd_fresh _ hid)
  ((conv => whnf); (repeat ((first | with_reducible refine abr_true rfl ?_ | with_reducible refine abr_false rfl ?_ | with_reducible refine abr_yes rfl ?_ | refine abr_yes (by decide) ?_ | refine abr_no (by decide) ?_ | with_reducible refine abr_same_ne ?_); (conv => whnf))))
  by_cases h1 : fi = gi
  · by_cases h2 : sn = tn
    · (repeat ((first | refine aload (by (repeat (first | with_reducible exact upd_same _ _ _ | assumption | rw [upd_ne _ _ (by first | assumption | (apply Ne.symm; assumption))]))) rfl ?_ | refine afit_i64 (by omega) ?_ | refine arem_nonneg (by omega) (by omega) ?_ | refine adiv_i64 (by omega) (by omega) ?_ | refine abr_yes (by omega) ?_ | refine abr_no (by omega) ?_ | refine amin ?_ | refine amax ?_ | refine afit_u64 (by omega) ?_ | refine afit_u8 (by omega) ?_ | rw [List.length_map]); ((conv => whnf); (repeat ((first | with_reducible refine abr_true rfl ?_ | with_reducible refine abr_false rfl ?_ | with_reducible refine abr_yes rfl ?_ | refine abr_yes (by decide) ?_ | refine abr_no (by decide) ?_ | with_reducible refine abr_same_ne ?_); (conv => whnf))))))
      refine acall (eqLists l m .none .none _ hl) ?_
      rintro _ σ_ ⟨rfl, e_⟩
      obtain rfl := e_.symm
      refine ⟨?_, Ext.refl _⟩
      ((conv => whnf); (repeat ((first | with_reducible refine abr_true rfl ?_ | with_reducible refine abr_false rfl ?_ | with_reducible refine abr_yes rfl ?_ | refine abr_yes (by decide) ?_ | refine abr_no (by decide) ?_ | with_reducible refine abr_same_ne ?_); (conv => whnf))))
      exact aret (VLe.refl _) hs ⟨congrArg boolv (dec_congr ⟨fun h => ⟨h1, h2, h⟩, fun h => h.2.2⟩), rfl⟩
    · (repeat ((first | refine aload (by (repeat (first | with_reducible exact upd_same _ _ _ | assumption | rw [upd_ne _ _ (by first | assumption | (apply Ne.symm; assumption))]))) rfl ?_ | refine afit_i64 (by omega) ?_ | refine arem_nonneg (by omega) (by omega) ?_ | refine adiv_i64 (by omega) (by omega) ?_ | refine abr_yes (by omega) ?_ | refine abr_no (by omega) ?_ | refine amin ?_ | refine amax ?_ | refine afit_u64 (by omega) ?_ | refine afit_u8 (by omega) ?_ | rw [List.length_map]); ((conv => whnf); (repeat ((first | with_reducible refine abr_true rfl ?_ | with_reducible refine abr_false rfl ?_ | with_reducible refine abr_yes rfl ?_ | refine abr_yes (by decide) ?_ | refine abr_no (by decide) ?_ | with_reducible refine abr_same_ne ?_); (conv => whnf))))))
      exact aret (VLe.refl _) hs ⟨congrArg boolv (decide_eq_false fun h => h2 h.2.1).symm, rfl⟩
  · (repeat ((first | refine aload (by (repeat (first | with_reducible exact upd_same _ _ _ | assumption | rw [upd_ne _ _ (by first | assumption | (apply Ne.symm; assumption))]))) rfl ?_ | refine afit_i64 (by omega) ?_ | refine arem_nonneg (by omega) (by omega) ?_ | refine adiv_i64 (by omega) (by omega) ?_ | refine abr_yes (by omega) ?_ | refine abr_no (by omega) ?_ | refine amin ?_ | refine amax ?_ | refine afit_u64 (by omega) ?_ | refine afit_u8 (by omega) ?_ | rw [List.length_map]); ((conv => whnf); (repeat ((first | with_reducible refine abr_true rfl ?_ | with_reducible refine abr_false rfl ?_ | with_reducible refine abr_yes rfl ?_ | refine abr_yes (by decide) ?_ | refine abr_no (by decide) ?_ | with_reducible refine abr_same_ne ?_); (conv => whnf))))))
    exact aret (VLe.refl _) hs ⟨congrArg boolv (decide_eq_false fun h => h1 h.1).symm, rfl⟩

theorem uAs (fi sn : Int) (l : List (List UInt8)) (σ : AHeap) : ACalls Try.prog i_bowlinelaw09_as [pkV fi sn l] σ fun v σ' => v = pkV fi sn l ∧ σ' = σ := by
  refine k_bowlinelaw09_as rfl ?_
  ((conv => whnf); (repeat ((first | with_reducible refine abr_true rfl ?_ | with_reducible refine abr_false rfl ?_ | with_reducible refine abr_yes rfl ?_ | refine abr_yes (by decide) ?_ | refine abr_no (by decide) ?_ | with_reducible refine abr_same_ne ?_); (conv => whnf))))
  refine anew rfl fun id hid => ?_
  ((conv => whnf); (repeat ((first | with_reducible refine abr_true rfl ?_ | with_reducible refine abr_false rfl ?_ | with_reducible refine abr_yes rfl ?_ | refine abr_yes (by decide) ?_ | refine abr_no (by decide) ?_ | with_reducible refine abr_same_ne ?_); (conv => whnf))))
  refine anew rfl fun id2 hid2 => ?_
  have hne : id ≠ id2 := fun e => by subst e; rw [upd_same] at hid2; cases hid2
  ((conv => whnf); (repeat ((first | with_reducible refine abr_true rfl ?_ | with_reducible refine abr_false rfl ?_ | with_reducible refine abr_yes rfl ?_ | refine abr_yes (by decide) ?_ | refine abr_no (by decide) ?_ | with_reducible refine abr_same_ne ?_); (conv => whnf))))
  (repeat ((first | refine aload (by (repeat (first | with_reducible exact upd_same _ _ _ | assumption | rw [upd_ne _ _ (by first | assumption | (apply Ne.symm; assumption))]))) rfl ?_ | refine afit_i64 (by omega) ?_ | refine arem_nonneg (by omega) (by omega) ?_ | refine adiv_i64 (by omega) (by omega) ?_ | refine abr_yes (by omega) ?_ | refine abr_no (by omega) ?_ | refine amin ?_ | refine amax ?_ | refine afit_u64 (by omega) ?_ | refine afit_u8 (by omega) ?_ | rw [List.length_map]); ((conv => whnf); (repeat ((first | with_reducible refine abr_true rfl ?_ | with_reducible refine abr_false rfl ?_ | with_reducible refine abr_yes rfl ?_ | refine abr_yes (by decide) ?_ | refine abr_no (by decide) ?_ | with_reducible refine abr_same_ne ?_); (conv => whnf))))))
  refine astore (xs := [i64v fi, i64v sn, lists .none l]) (l := [i64v fi, i64v sn, lists .none l]) (upd_same _ _ _) (Nat.le_of_ble_eq_true rfl) rfl rfl ?_
  rw [upd_upd]
  ((conv => whnf); (repeat ((first | with_reducible refine abr_true rfl ?_ | with_reducible refine abr_false rfl ?_ | with_reducible refine abr_yes rfl ?_ | refine abr_yes (by decide) ?_ | refine abr_no (by decide) ?_ | with_reducible refine abr_same_ne ?_); (conv => whnf))))
  refine aloads (l := [i64v fi, i64v sn, lists .none l]) (upd_same _ _ _) (by exact Nat.le_refl 3) rfl ?_
  ((conv => whnf); (repeat ((first | with_reducible refine abr_true rfl ?_ | with_reducible refine abr_false rfl ?_ | with_reducible refine abr_yes rfl ?_ | refine abr_yes (by decide) ?_ | refine abr_no (by decide) ?_ | with_reducible refine abr_same_ne ?_); (conv => whnf))))
  exact aret (VLe.refl _) ((Sub.upd_fresh _ hid2).trans (Sub.upd_fresh _ hid)) ⟨rfl, rfl⟩

def smallL (l : List (List UInt8)) : Prop := l.length ≤ 40 ∧ ∀ p ∈ l, p.length ≤ 4200
theorem uGreat (l : List (List UInt8)) (t : Tok) (σ : AHeap) (hl : l.length ≤ 9223372036854775807) : ACalls Try.prog i_bowlinelaw09_Great [lists t l] σ fun v σ' => (∃ g, v = boolv g ∧ (g = false → smallL l)) ∧ σ' = σ := by
  refine k_bowlinelaw09_Great rfl ?_
  ((conv => whnf); (repeat ((first | with_reducible refine abr_true rfl ?_ | with_reducible refine abr_false rfl ?_ | with_reducible refine abr_yes rfl ?_ | refine abr_yes (by decide) ?_ | refine abr_no (by decide) ?_ | with_reducible refine abr_same_ne ?_); (conv => whnf))))
  refine aloop (α := Nat × Nat) (fun x => [(s3, i64v x.2), (s4, i64v x.1)]) (fun _ => σ) (fun x => x.1 ≤ l.length ∧ (0 < x.1 → l.length ≤ 40) ∧ x.2 ≤ 4200 * x.1 ∧ ∀ p ∈ l.take x.1, p.length ≤ 4200) (fun x => l.length - x.1) (0, 0) ⟨Nat.zero_le _, fun h => by omega, Nat.le_refl _, by simp⟩ (Sub.refl _) ?_ ?_
  · ((conv => whnf); (repeat ((first | with_reducible refine abr_true rfl ?_ | with_reducible refine abr_false rfl ?_ | with_reducible refine abr_yes rfl ?_ | refine abr_yes (by decide) ?_ | refine abr_no (by decide) ?_ | with_reducible refine abr_same_ne ?_); (conv => whnf))))
    (repeat' first | with_reducible exact EnvLe.refl _ | (refine EnvLe.node ?_ (by first | exact Or.inl rfl | exact Or.inr (Or.inl rfl) | exact Or.inr (Or.inr ⟨nofun, VLe.slice _ _ _⟩)) ?_))
  rintro ⟨i, n⟩ ⟨hi, h40, hn, ha⟩
  dsimp only at hi h40 hn ha ⊢
  by_cases h : i < l.length
  · by_cases h1 : l.length > 40
    · ((conv => whnf); (repeat ((first | with_reducible refine abr_true rfl ?_ | with_reducible refine abr_false rfl ?_ | with_reducible refine abr_yes rfl ?_ | refine abr_yes (by decide) ?_ | refine abr_no (by decide) ?_ | with_reducible refine abr_same_ne ?_); (conv => whnf))))
      (repeat ((first | refine aload (by (repeat (first | with_reducible exact upd_same _ _ _ | assumption | rw [upd_ne _ _ (by first | assumption | (apply Ne.symm; assumption))]))) rfl ?_ | refine afit_i64 (by omega) ?_ | refine arem_nonneg (by omega) (by omega) ?_ | refine adiv_i64 (by omega) (by omega) ?_ | refine abr_yes (by omega) ?_ | refine abr_no (by omega) ?_ | refine amin ?_ | refine amax ?_ | refine afit_u64 (by omega) ?_ | refine afit_u8 (by omega) ?_ | rw [List.length_map]); ((conv => whnf); (repeat ((first | with_reducible refine abr_true rfl ?_ | with_reducible refine abr_false rfl ?_ | with_reducible refine abr_yes rfl ?_ | refine abr_yes (by decide) ?_ | refine abr_no (by decide) ?_ | with_reducible refine abr_same_ne ?_); (conv => whnf))))))
      exact aret_same ⟨⟨true, rfl, nofun⟩, rfl⟩
    · ((conv => whnf); (repeat ((first | with_reducible refine abr_true rfl ?_ | with_reducible refine abr_false rfl ?_ | with_reducible refine abr_yes rfl ?_ | refine abr_yes (by decide) ?_ | refine abr_no (by decide) ?_ | with_reducible refine abr_same_ne ?_); (conv => whnf))))
      (repeat ((first | refine aload (by (repeat (first | with_reducible exact upd_same _ _ _ | assumption | rw [upd_ne _ _ (by first | assumption | (apply Ne.symm; assumption))]))) rfl ?_ | refine afit_i64 (by omega) ?_ | refine arem_nonneg (by omega) (by omega) ?_ | refine adiv_i64 (by omega) (by omega) ?_ | refine abr_yes (by omega) ?_ | refine abr_no (by omega) ?_ | refine amin ?_ | refine amax ?_ | refine afit_u64 (by omega) ?_ | refine afit_u8 (by omega) ?_ | rw [List.length_map]); ((conv => whnf); (repeat ((first | with_reducible refine abr_true rfl ?_ | with_reducible refine abr_false rfl ?_ | with_reducible refine abr_yes rfl ?_ | refine abr_yes (by decide) ?_ | refine abr_no (by decide) ?_ | with_reducible refine abr_same_ne ?_); (conv => whnf))))))
      refine aget (by omega) (get_lists h) ?_
      ((conv => whnf); (repeat ((first | with_reducible refine abr_true rfl ?_ | with_reducible refine abr_false rfl ?_ | with_reducible refine abr_yes rfl ?_ | refine abr_yes (by decide) ?_ | refine abr_no (by decide) ?_ | with_reducible refine abr_same_ne ?_); (conv => whnf))))
      refine acell rfl ?_
      ((conv => whnf); (repeat ((first | with_reducible refine abr_true rfl ?_ | with_reducible refine abr_false rfl ?_ | with_reducible refine abr_yes rfl ?_ | refine abr_yes (by decide) ?_ | refine abr_no (by decide) ?_ | with_reducible refine abr_same_ne ?_); (conv => whnf))))
      rw [List.length_map]
      by_cases h2 : l[i].length > 4200
      · refine abr_yes (by omega) ?_
        ((conv => whnf); (repeat ((first | with_reducible refine abr_true rfl ?_ | with_reducible refine abr_false rfl ?_ | with_reducible refine abr_yes rfl ?_ | refine abr_yes (by decide) ?_ | refine abr_no (by decide) ?_ | with_reducible refine abr_same_ne ?_); (conv => whnf))))
        exact aret_same ⟨⟨true, rfl, nofun⟩, rfl⟩
      · refine abr_no (by omega) ?_
        ((conv => whnf); (repeat ((first | with_reducible refine abr_true rfl ?_ | with_reducible refine abr_false rfl ?_ | with_reducible refine abr_yes rfl ?_ | refine abr_yes (by decide) ?_ | refine abr_no (by decide) ?_ | with_reducible refine abr_same_ne ?_); (conv => whnf))))
        refine aget (by omega) (get_lists h) ?_
        ((conv => whnf); (repeat ((first | with_reducible refine abr_true rfl ?_ | with_reducible refine abr_false rfl ?_ | with_reducible refine abr_yes rfl ?_ | refine abr_yes (by decide) ?_ | refine abr_no (by decide) ?_ | with_reducible refine abr_same_ne ?_); (conv => whnf))))
        refine acell rfl ?_
        ((conv => whnf); (repeat ((first | with_reducible refine abr_true rfl ?_ | with_reducible refine abr_false rfl ?_ | with_reducible refine abr_yes rfl ?_ | refine abr_yes (by decide) ?_ | refine abr_no (by decide) ?_ | with_reducible refine abr_same_ne ?_); (conv => whnf))))
        (repeat ((first | refine aload (by (repeat (first | with_reducible exact upd_same _ _ _ | assumption | rw [upd_ne _ _ (by first | assumption | (apply Ne.symm; assumption))]))) rfl ?_ | refine afit_i64 (by omega) ?_ | refine arem_nonneg (by omega) (by omega) ?_ | refine adiv_i64 (by omega) (by omega) ?_ | refine abr_yes (by omega) ?_ | refine abr_no (by omega) ?_ | refine amin ?_ | refine amax ?_ | refine afit_u64 (by omega) ?_ | refine afit_u8 (by omega) ?_ | rw [List.length_map]); ((conv => whnf); (repeat ((first | with_reducible refine abr_true rfl ?_ | with_reducible refine abr_false rfl ?_ | with_reducible refine abr_yes rfl ?_ | refine abr_yes (by decide) ?_ | refine abr_no (by decide) ?_ | with_reducible refine abr_same_ne ?_); (conv => whnf))))))
        refine ⟨(i + 1, n + l[i].length), ⟨h, fun _ => by omega, by dsimp only; omega, ?_⟩, by dsimp only; omega, Sub.refl _, ?_⟩
        · dsimp only
          rw [List.take_add_one, List.getElem?_eq_getElem h]
          intro p hp
          rcases List.mem_append.1 hp with h | h
          · exact ha p h
          · simp at h; subst h; omega
        · rw [show (n : Int) + ((l[i].length : Nat) : Int) = ((n + l[i].length : Nat) : Int) by omega]
          ((conv => whnf); (repeat ((first | with_reducible refine abr_true rfl ?_ | with_reducible refine abr_false rfl ?_ | with_reducible refine abr_yes rfl ?_ | refine abr_yes (by decide) ?_ | refine abr_no (by decide) ?_ | with_reducible refine abr_same_ne ?_); (conv => whnf))))
          (repeat' first | with_reducible exact EnvLe.refl _ | (refine EnvLe.node ?_ (by first | exact Or.inl rfl | exact Or.inr (Or.inl rfl) | exact Or.inr (Or.inr ⟨nofun, VLe.slice _ _ _⟩)) ?_))
  · rw [List.take_of_length_le (by omega)] at ha
    ((conv => whnf); (repeat ((first | with_reducible refine abr_true rfl ?_ | with_reducible refine abr_false rfl ?_ | with_reducible refine abr_yes rfl ?_ | refine abr_yes (by decide) ?_ | refine abr_no (by decide) ?_ | with_reducible refine abr_same_ne ?_); (conv => whnf))))
    (repeat ((first | refine aload (by (repeat (first | with_reducible exact upd_same _ _ _ | assumption | rw [upd_ne _ _ (by first | assumption | (apply Ne.symm; assumption))]))) rfl ?_ | refine afit_i64 (by omega) ?_ | refine arem_nonneg (by omega) (by omega) ?_ | refine adiv_i64 (by omega) (by omega) ?_ | refine abr_yes (by omega) ?_ | refine abr_no (by omega) ?_ | refine amin ?_ | refine amax ?_ | refine afit_u64 (by omega) ?_ | refine afit_u8 (by omega) ?_ | rw [List.length_map]); ((conv => whnf); (repeat ((first | with_reducible refine abr_true rfl ?_ | with_reducible refine abr_false rfl ?_ | with_reducible refine abr_yes rfl ?_ | refine abr_yes (by decide) ?_ | refine abr_no (by decide) ?_ | with_reducible refine abr_same_ne ?_); (conv => whnf))))))
    refine aret_same ⟨⟨_, rfl, fun _ => ⟨?_, ha⟩⟩, rfl⟩
    by_cases h0 : l.length = 0
    · omega
    · exact h40 (by omega)
end Go.Proofs.Ythjjkcmiachpcaa
/-
  Packets that are not acknowledged: what must come of fixed calls.
-/
namespace Go.Proofs.Ythjjkcmiachpcaa
set_option linter.unusedVariables false
set_option linter.unusedSimpArgs false
open Go Go.Am

theorem acall_weak {P : Program} {f : FuncId} {args args' : List AVal} {σ : AHeap} {Q : AVal → AHeap → Prop} (h : ∀ κ vs, RepL κ args vs → RepL κ args' vs) (k : ACalls P f args' σ Q) : ACalls P f args σ Q := by
  rw [ACalls_def] at k ⊢
  exact fun κ w cargs hI hr => k κ w cargs hI (h κ cargs hr)
theorem RepL.fulls (κ : Ghost) : ∀ {l : List (List UInt8)} {vs : List Value}, RepL κ ((l.map (sl .full)).flatMap AVal.cells) vs → RepL κ ((l.map (sl .none)).flatMap AVal.cells) vs
  | [], _, h => h
  | a :: l, _, h => by
    have h : RepL κ (sl .full a :: (l.map (sl .full)).flatMap AVal.cells) _ := h
    cases h with
    | cons h1 h2 => exact .cons (VLe.slice _ _ _ κ _ h1) (RepL.fulls κ h2)
theorem VLe.rows (l : List (List UInt8)) (t : Tok) : VLe (.slice 1 (l.map (sl .full)) t) (lists .none l) := fun κ v h => by
  rcases h.slice_inv with ⟨⟨a, rfl⟩, hn⟩ | ⟨b, off, cap, vs, rfl, g2, g3, g4, g5, g6⟩
  · have hn : l = [] := by simpa using hn
    subst hn; exact .nil
  · refine .slice (vs := vs) (by rw [List.length_map, List.length_map]) g2 (fun x hx => ?_) (RepL.fulls κ g4) g5 trivial
    obtain ⟨y, _, rfl⟩ := List.mem_map.1 hx
    rfl
theorem pk_weak {a b c : AVal} {l : List (List UInt8)} {t : Tok} {rest : List AVal} : ∀ κ vs, RepL κ (.agg [a, b, .slice 1 (l.map (sl .full)) t] :: rest) vs → RepL κ (.agg [a, b, lists .none l] :: rest) vs :=
  VLe.cons (fun κ v k => by cases k with | agg k => exact .agg (VLe.cons (VLe.refl _) (VLe.cons (VLe.refl _) (VLe.cons (VLe.rows l t) fun _ _ h => h)) _ _ k)) fun _ _ h => h

theorem w1_09 : umWrite 0 3 [[65]] 5 = [3, 65] := by decide +kernel
theorem w2_09 : umWrite 3 700 [[1, 2], [3]] 10 = [30, 188, 0, 32, 1, 2, 3] := by decide +kernel
theorem r2_09 : readU [30, 188, 0, 32, 1, 2, 3] 10 = ((3, 700, [[1, 2], [3]]), 0) := by decide +kernel
theorem r3_09 : readU [3] 5 = (none3, 8) := by decide +kernel

set_option maxRecDepth 20000 in
theorem alive09 (σ : AHeap) : ACalls Try.prog i_bowlinelaw09_alive [] σ fun v σ' => v = boolv true ∧ σ' = σ := by
  refine k_bowlinelaw09_alive rfl ?_
  ((conv => whnf); (repeat ((first | with_reducible refine abr_true rfl ?_ | with_reducible refine abr_false rfl ?_ | with_reducible refine abr_yes rfl ?_ | refine abr_yes (by decide) ?_ | refine abr_no (by decide) ?_ | with_reducible refine abr_same_ne ?_); (conv => whnf))))
  refine acall (acall_weak (pk_weak (l := [[65]]) (c := .top)) (uWrite 0 3 [[65]] 5 _)) ?_
  rintro v σ' ⟨rfl, rfl⟩
  refine ⟨?_, Ext.refl _⟩
  rw [w1_09, show umCode 0 3 [[65]] 5 = 0 by decide +kernel]
  ((conv => whnf); (repeat ((first | with_reducible refine abr_true rfl ?_ | with_reducible refine abr_false rfl ?_ | with_reducible refine abr_yes rfl ?_ | refine abr_yes (by decide) ?_ | refine abr_no (by decide) ?_ | with_reducible refine abr_same_ne ?_); (conv => whnf))))
  refine acall (acall_weak (pk_weak (l := [[1, 2], [3]]) (c := .top)) (uWrite 3 700 [[1, 2], [3]] 10 _)) ?_
  rintro v σ' ⟨rfl, rfl⟩
  refine ⟨?_, Ext.refl _⟩
  rw [w2_09, show umCode 3 700 [[1, 2], [3]] 10 = 0 by decide +kernel]
  ((conv => whnf); (repeat ((first | with_reducible refine abr_true rfl ?_ | with_reducible refine abr_false rfl ?_ | with_reducible refine abr_yes rfl ?_ | refine abr_yes (by decide) ?_ | refine abr_no (by decide) ?_ | with_reducible refine abr_same_ne ?_); (conv => whnf))))
  refine acall (uRead [30, 188, 0, 32, 1, 2, 3] .none 10 _ (by decide)) ?_
  rintro v σ' ⟨rfl, rfl⟩
  refine ⟨?_, Ext.refl _⟩
  rw [r2_09]
  ((conv => whnf); (repeat ((first | with_reducible refine abr_true rfl ?_ | with_reducible refine abr_false rfl ?_ | with_reducible refine abr_yes rfl ?_ | refine abr_yes (by decide) ?_ | refine abr_no (by decide) ?_ | with_reducible refine abr_same_ne ?_); (conv => whnf))))
  refine anew rfl fun id hid => ?_
  ((conv => whnf); (repeat ((first | with_reducible refine abr_true rfl ?_ | with_reducible refine abr_false rfl ?_ | with_reducible refine abr_yes rfl ?_ | refine abr_yes (by decide) ?_ | refine abr_no (by decide) ?_ | with_reducible refine abr_same_ne ?_); (conv => whnf))))
  refine astore (xs := [i64v 3, i64v 700, lists .none [[1, 2], [3]]]) (l := [i64v 3, i64v 700, lists .none [[1, 2], [3]]]) (upd_same _ _ _) (Nat.le_of_ble_eq_true rfl) rfl rfl ?_
  rw [upd_upd]
  ((conv => whnf); (repeat ((first | with_reducible refine abr_true rfl ?_ | with_reducible refine abr_false rfl ?_ | with_reducible refine abr_yes rfl ?_ | refine abr_yes (by decide) ?_ | refine abr_no (by decide) ?_ | with_reducible refine abr_same_ne ?_); (conv => whnf))))
  refine acall (uRead [3] .full 5 _ (by decide)) ?_
  rintro v σ' ⟨rfl, rfl⟩
  refine ⟨?_, Ext.refl _⟩
  rw [r3_09]
  ((conv => whnf); (repeat ((first | with_reducible refine abr_true rfl ?_ | with_reducible refine abr_false rfl ?_ | with_reducible refine abr_yes rfl ?_ | refine abr_yes (by decide) ?_ | refine abr_no (by decide) ?_ | with_reducible refine abr_same_ne ?_); (conv => whnf))))
  refine anew rfl fun id2 hid2 => ?_
  have hne : id ≠ id2 := fun e => by subst e; rw [upd_same] at hid2; cases hid2
  ((conv => whnf); (repeat ((first | with_reducible refine abr_true rfl ?_ | with_reducible refine abr_false rfl ?_ | with_reducible refine abr_yes rfl ?_ | refine abr_yes (by decide) ?_ | refine abr_no (by decide) ?_ | with_reducible refine abr_same_ne ?_); (conv => whnf))))
  refine astore (xs := [i64v 0, i64v 0, lists .none []]) (l := [i64v 0, i64v 0, lists .none []]) (upd_same _ _ _) (Nat.le_of_ble_eq_true rfl) rfl rfl ?_
  rw [upd_upd]
  ((conv => whnf); (repeat ((first | with_reducible refine abr_true rfl ?_ | with_reducible refine abr_false rfl ?_ | with_reducible refine abr_yes rfl ?_ | refine abr_yes (by decide) ?_ | refine abr_no (by decide) ?_ | with_reducible refine abr_same_ne ?_); (conv => whnf))))
  refine acall (acall_weak (pk_weak (l := [[1]]) (c := .top)) (uWrite 0 32 [[1]] 5 _)) ?_
  rintro v σ' ⟨rfl, rfl⟩
  refine ⟨?_, Ext.refl _⟩
  rw [show umCode 0 32 [[1]] 5 = 3 by decide +kernel]
  ((conv => whnf); (repeat ((first | with_reducible refine abr_true rfl ?_ | with_reducible refine abr_false rfl ?_ | with_reducible refine abr_yes rfl ?_ | refine abr_yes (by decide) ?_ | refine abr_no (by decide) ?_ | with_reducible refine abr_same_ne ?_); (conv => whnf))))
  refine astr (bs := [3, 65]) rfl ?_
  ((conv => whnf); (repeat ((first | with_reducible refine abr_true rfl ?_ | with_reducible refine abr_false rfl ?_ | with_reducible refine abr_yes rfl ?_ | refine abr_yes (by decide) ?_ | refine abr_no (by decide) ?_ | with_reducible refine abr_same_ne ?_); (conv => whnf))))
  refine astr (bs := [30, 188, 0, 32, 1, 2, 3]) rfl ?_
  ((conv => whnf); (repeat ((first | with_reducible refine abr_true rfl ?_ | with_reducible refine abr_false rfl ?_ | with_reducible refine abr_yes rfl ?_ | refine abr_yes (by decide) ?_ | refine abr_no (by decide) ?_ | with_reducible refine abr_same_ne ?_); (conv => whnf))))
  (repeat ((first | refine aload (by (repeat (first | with_reducible exact upd_same _ _ _ | assumption | rw [upd_ne _ _ (by first | assumption | (apply Ne.symm; assumption))]))) rfl ?_ | refine afit_i64 (by omega) ?_ | refine arem_nonneg (by omega) (by omega) ?_ | refine adiv_i64 (by omega) (by omega) ?_ | refine abr_yes (by omega) ?_ | refine abr_no (by omega) ?_ | refine amin ?_ | refine amax ?_ | refine afit_u64 (by omega) ?_ | refine afit_u8 (by omega) ?_ | rw [List.length_map]); ((conv => whnf); (repeat ((first | with_reducible refine abr_true rfl ?_ | with_reducible refine abr_false rfl ?_ | with_reducible refine abr_yes rfl ?_ | refine abr_yes (by decide) ?_ | refine abr_no (by decide) ?_ | with_reducible refine abr_same_ne ?_); (conv => whnf))))))
  exact aret (VLe.refl _) ((Sub.upd_fresh _ hid2).trans (Sub.upd_fresh _ hid)) ⟨rfl, rfl⟩
end Go.Proofs.Ythjjkcmiachpcaa
/-
  Packets that are not acknowledged: what is written is told.
-/
namespace Go.Proofs.Ythjjkcmiachpcaa
set_option linter.unusedVariables false
set_option linter.unusedSimpArgs false
open Go Go.Am

theorem beq_dec09 {p q : Prop} {_ : Decidable p} {_ : Decidable q} (h : p ↔ q) : (decide p == decide q) = true := by rw [dec_congr h]; cases decide q <;> rfl
theorem umSize_range (fi sn : Int) (l : List (List UInt8)) (w : Int) : 0 ≤ umSize fi sn l w ∧ umSize fi sn l w ≤ 4000 := by
  unfold umSize
  split
  · omega
  · rename_i h
    have h1 : umWidth w = true := by
      cases e : umWidth w with
      | true => rfl
      | false => exact absurd (.inl e) h
    have hw := umWidth_iff.1 h1
    have hs := sizeV_range ((l.length : Int) - 1) 11
    unfold fieldsV
    split
    · omega
    · split
      · omega
      · split
        · omega
        · omega
theorem writeBytes_size {l : List (List UInt8)} {h w W : Int} (hW : W = 11 ∨ W = 15) (k : FieldsOk l h w) : ((if l.length > 1 then writeBytes (lensOf l) W else []).length : Int) = sizeV ((l.length : Int) - 1) W := by
  have h1 := k.one
  have h24 := k.most
  by_cases h2 : l.length > 1
  · rw [if_pos h2]
    have hc := lensOf_code hW k h2
    unfold writeBytes
    rw [if_pos hc, pack_length, lenBits_length, lensOf_length]
    obtain ⟨v, rfl⟩ : ∃ v : Nat, W = v := ⟨W.toNat, by omega⟩
    rw [show ((l.length : Int) - 1) = ((l.length - 1 : Nat) : Int) by omega, sizeV_ok (by omega) (by omega) (by omega), Int.toNat_natCast]
  · rw [if_neg h2]
    unfold sizeV
    rw [if_pos (.inr (.inl (by omega)))]; rfl
theorem umWrite_len {fi sn : Int} {l : List (List UInt8)} {w : Int} (hw : umWidth w = true) (hr : umSize fi sn l w > 0) : umCode fi sn l w = 0 ∧ umWrite fi sn l w = pack (umBits fi sn l w) ++ tailB l 11 ∧ ((umWrite fi sn l w).length : Int) = umSize fi sn l w := by
  have hc : umCode fi sn l w = 0 := by unfold umCode; rw [hw, if_neg (by simp), if_pos hr]
  have he : umWrite fi sn l w = pack (umBits fi sn l w) ++ tailB l 11 := by unfold umWrite; rw [if_pos hc]
  refine ⟨hc, he, ?_⟩
  obtain ⟨hw2, _, _, _, hfv⟩ := umSize_ok hr
  have hfo := fieldsV_ok hfv
  have hws := writeBytes_size (W := 11) (.inl rfl) hfo
  have hv : umSize fi sn l w = w / 5 + sizeV ((l.length : Int) - 1) 11 + (total l : Int) := by
    unfold umSize at hr ⊢
    split at hr
    · omega
    · rename_i h
      rw [if_neg h]
      unfold fieldsV at hfv ⊢
      split at hfv
      · omega
      · split at hfv
        · omega
        · split at hfv
          · omega
          · rename_i h1 h2 h3
            rw [if_neg h1, if_neg h2, if_neg h3]
  have hbl : (umBits fi sn l w).length = zeros w + 2 + 1 + w.toNat := by unfold umBits; rw [List.length_append, List.length_append, List.length_append, numBits_length, numBits_length, numBits_length]; rfl
  have hz : (zeros w : Int) = 8 * (w / 5) - 3 - w := by unfold zeros; rcases hw2 with rfl | rfl <;> rfl
  rw [he, List.length_append, pack_length, hbl, hv]
  unfold tailB
  rw [List.length_append]
  show ((((zeros w + 2 + 1 + w.toNat + 7) / 8 + ((if l.length > 1 then writeBytes (lensOf l) 11 else []).length + total l) : Nat)) : Int) = _
  omega

set_option maxRecDepth 20000 in
set_option maxHeartbeats 2000000 in
theorem UmdWrites (fi sn : Int) (l : List (List UInt8)) (gi tn : Int) (m : List (List UInt8)) (w : Int) (σ : AHeap) (hl : l.length ≤ 9223372036854775807) (hm : m.length ≤ 9223372036854775807) :
    ACalls Try.prog i_bowlinelaw09_UmdWrites [pkV fi sn l, pkV gi tn m, i64v w] σ fun v σ' => v = boolv true ∧ σ' = σ := by
  refine k_bowlinelaw09_UmdWrites rfl ?_
  ((conv => whnf); (repeat ((first | with_reducible refine abr_true rfl ?_ | with_reducible refine abr_false rfl ?_ | with_reducible refine abr_yes rfl ?_ | refine abr_yes (by decide) ?_ | refine abr_no (by decide) ?_ | with_reducible refine abr_same_ne ?_); (conv => whnf))))
  refine anew rfl fun id hid => ?_
  ((conv => whnf); (repeat ((first | with_reducible refine abr_true rfl ?_ | with_reducible refine abr_false rfl ?_ | with_reducible refine abr_yes rfl ?_ | refine abr_yes (by decide) ?_ | refine abr_no (by decide) ?_ | with_reducible refine abr_same_ne ?_); (conv => whnf))))
  refine anew rfl fun id2 hid2 => ?_
  have hne : id ≠ id2 := fun e => by subst e; rw [upd_same] at hid2; cases hid2
  generalize hσ0 : upd (upd σ id (.cells (pkV fi sn l).cells)) id2 (.cells (pkV gi tn m).cells) = σ0
  have hs : Sub σ0 σ := by rw [← hσ0]; exact (Sub.upd_fresh _ hid2).trans (Sub.upd_fresh _ hid)
  have hc1 : σ0 id = some (.cells [i64v fi, i64v sn, lists .none l]) := by rw [← hσ0, upd_ne _ _ hne]; exact upd_same _ _ _
  have hc2 : σ0 id2 = some (.cells [i64v gi, i64v tn, lists .none m]) := by rw [← hσ0]; exact upd_same _ _ _
  ((conv => whnf); (repeat ((first | with_reducible refine abr_true rfl ?_ | with_reducible refine abr_false rfl ?_ | with_reducible refine abr_yes rfl ?_ | refine abr_yes (by decide) ?_ | refine abr_no (by decide) ?_ | with_reducible refine abr_same_ne ?_); (conv => whnf))))
  (repeat ((first | refine aload (by (repeat (first | with_reducible exact upd_same _ _ _ | assumption | rw [upd_ne _ _ (by first | assumption | (apply Ne.symm; assumption))]))) rfl ?_ | refine afit_i64 (by omega) ?_ | refine arem_nonneg (by omega) (by omega) ?_ | refine adiv_i64 (by omega) (by omega) ?_ | refine abr_yes (by omega) ?_ | refine abr_no (by omega) ?_ | refine amin ?_ | refine amax ?_ | refine afit_u64 (by omega) ?_ | refine afit_u8 (by omega) ?_ | rw [List.length_map]); ((conv => whnf); (repeat ((first | with_reducible refine abr_true rfl ?_ | with_reducible refine abr_false rfl ?_ | with_reducible refine abr_yes rfl ?_ | refine abr_yes (by decide) ?_ | refine abr_no (by decide) ?_ | with_reducible refine abr_same_ne ?_); (conv => whnf))))))
  refine acall (uGreat l .none _ hl) ?_
  rintro v σ' ⟨⟨g, rfl, hg⟩, e⟩
  obtain rfl := e.symm
  refine ⟨?_, Ext.refl _⟩
  ((conv => whnf); (repeat ((first | with_reducible refine abr_true rfl ?_ | with_reducible refine abr_false rfl ?_ | with_reducible refine abr_yes rfl ?_ | refine abr_yes (by decide) ?_ | refine abr_no (by decide) ?_ | with_reducible refine abr_same_ne ?_); (conv => whnf))))
  cases g with
  | true =>
    ((conv => whnf); (repeat ((first | with_reducible refine abr_true rfl ?_ | with_reducible refine abr_false rfl ?_ | with_reducible refine abr_yes rfl ?_ | refine abr_yes (by decide) ?_ | refine abr_no (by decide) ?_ | with_reducible refine abr_same_ne ?_); (conv => whnf))))
    refine acall (alive09 _) ?_
    rintro _ σ_ ⟨rfl, e_⟩
    obtain rfl := e_.symm
    refine ⟨?_, Ext.refl _⟩
    ((conv => whnf); (repeat ((first | with_reducible refine abr_true rfl ?_ | with_reducible refine abr_false rfl ?_ | with_reducible refine abr_yes rfl ?_ | refine abr_yes (by decide) ?_ | refine abr_no (by decide) ?_ | with_reducible refine abr_same_ne ?_); (conv => whnf))))
    exact aret (VLe.refl _) hs ⟨rfl, rfl⟩
  | false =>
  ((conv => whnf); (repeat ((first | with_reducible refine abr_true rfl ?_ | with_reducible refine abr_false rfl ?_ | with_reducible refine abr_yes rfl ?_ | refine abr_yes (by decide) ?_ | refine abr_no (by decide) ?_ | with_reducible refine abr_same_ne ?_); (conv => whnf))))
  (repeat ((first | refine aload (by (repeat (first | with_reducible exact upd_same _ _ _ | assumption | rw [upd_ne _ _ (by first | assumption | (apply Ne.symm; assumption))]))) rfl ?_ | refine afit_i64 (by omega) ?_ | refine arem_nonneg (by omega) (by omega) ?_ | refine adiv_i64 (by omega) (by omega) ?_ | refine abr_yes (by omega) ?_ | refine abr_no (by omega) ?_ | refine amin ?_ | refine amax ?_ | refine afit_u64 (by omega) ?_ | refine afit_u8 (by omega) ?_ | rw [List.length_map]); ((conv => whnf); (repeat ((first | with_reducible refine abr_true rfl ?_ | with_reducible refine abr_false rfl ?_ | with_reducible refine abr_yes rfl ?_ | refine abr_yes (by decide) ?_ | refine abr_no (by decide) ?_ | with_reducible refine abr_same_ne ?_); (conv => whnf))))))
  refine acall (uGreat m .none _ hm) ?_
  rintro v σ' ⟨⟨g2, rfl, hg2⟩, e⟩
  obtain rfl := e.symm
  refine ⟨?_, Ext.refl _⟩
  ((conv => whnf); (repeat ((first | with_reducible refine abr_true rfl ?_ | with_reducible refine abr_false rfl ?_ | with_reducible refine abr_yes rfl ?_ | refine abr_yes (by decide) ?_ | refine abr_no (by decide) ?_ | with_reducible refine abr_same_ne ?_); (conv => whnf))))
  cases g2 with
  | true =>
    ((conv => whnf); (repeat ((first | with_reducible refine abr_true rfl ?_ | with_reducible refine abr_false rfl ?_ | with_reducible refine abr_yes rfl ?_ | refine abr_yes (by decide) ?_ | refine abr_no (by decide) ?_ | with_reducible refine abr_same_ne ?_); (conv => whnf))))
    refine acall (alive09 _) ?_
    rintro _ σ_ ⟨rfl, e_⟩
    obtain rfl := e_.symm
    refine ⟨?_, Ext.refl _⟩
    ((conv => whnf); (repeat ((first | with_reducible refine abr_true rfl ?_ | with_reducible refine abr_false rfl ?_ | with_reducible refine abr_yes rfl ?_ | refine abr_yes (by decide) ?_ | refine abr_no (by decide) ?_ | with_reducible refine abr_same_ne ?_); (conv => whnf))))
    exact aret (VLe.refl _) hs ⟨rfl, rfl⟩
  | false =>
  have hsm := hg rfl
  have hsm1 : l.length ≤ 40 := hsm.1
  have hrange := umSize_range fi sn l w
  ((conv => whnf); (repeat ((first | with_reducible refine abr_true rfl ?_ | with_reducible refine abr_false rfl ?_ | with_reducible refine abr_yes rfl ?_ | refine abr_yes (by decide) ?_ | refine abr_no (by decide) ?_ | with_reducible refine abr_same_ne ?_); (conv => whnf))))
  refine aloads (l := [i64v fi, i64v sn, lists .none l]) (by (repeat (first | with_reducible exact upd_same _ _ _ | assumption | rw [upd_ne _ _ (by first | assumption | (apply Ne.symm; assumption))]))) (by exact Nat.le_refl 3) rfl ?_
  ((conv => whnf); (repeat ((first | with_reducible refine abr_true rfl ?_ | with_reducible refine abr_false rfl ?_ | with_reducible refine abr_yes rfl ?_ | refine abr_yes (by decide) ?_ | refine abr_no (by decide) ?_ | with_reducible refine abr_same_ne ?_); (conv => whnf))))
  refine acall (uAs fi sn l _) ?_
  rintro _ σ_ ⟨rfl, e_⟩
  obtain rfl := e_.symm
  refine ⟨?_, Ext.refl _⟩
  ((conv => whnf); (repeat ((first | with_reducible refine abr_true rfl ?_ | with_reducible refine abr_false rfl ?_ | with_reducible refine abr_yes rfl ?_ | refine abr_yes (by decide) ?_ | refine abr_no (by decide) ?_ | with_reducible refine abr_same_ne ?_); (conv => whnf))))
  refine acall (refSize09 fi sn l w _ (by omega) (fun f hf => by have := hsm.2 f hf; omega)) ?_
  rintro _ σ_ ⟨rfl, e_⟩
  obtain rfl := e_.symm
  refine ⟨?_, Ext.refl _⟩
  ((conv => whnf); (repeat ((first | with_reducible refine abr_true rfl ?_ | with_reducible refine abr_false rfl ?_ | with_reducible refine abr_yes rfl ?_ | refine abr_yes (by decide) ?_ | refine abr_no (by decide) ?_ | with_reducible refine abr_same_ne ?_); (conv => whnf))))
  refine aloads (l := [i64v fi, i64v sn, lists .none l]) (by (repeat (first | with_reducible exact upd_same _ _ _ | assumption | rw [upd_ne _ _ (by first | assumption | (apply Ne.symm; assumption))]))) (by exact Nat.le_refl 3) rfl ?_
  ((conv => whnf); (repeat ((first | with_reducible refine abr_true rfl ?_ | with_reducible refine abr_false rfl ?_ | with_reducible refine abr_yes rfl ?_ | refine abr_yes (by decide) ?_ | refine abr_no (by decide) ?_ | with_reducible refine abr_same_ne ?_); (conv => whnf))))
  refine acall (uWrite fi sn l w _) ?_
  rintro _ σ_ ⟨rfl, e_⟩
  obtain rfl := e_.symm
  refine ⟨?_, Ext.refl _⟩
  ((conv => whnf); (repeat ((first | with_reducible refine abr_true rfl ?_ | with_reducible refine abr_false rfl ?_ | with_reducible refine abr_yes rfl ?_ | refine abr_yes (by decide) ?_ | refine abr_no (by decide) ?_ | with_reducible refine abr_same_ne ?_); (conv => whnf))))
  refine aloads (l := [i64v fi, i64v sn, lists .none l]) hc1 (by exact Nat.le_refl 3) rfl ?_
  ((conv => whnf); (repeat ((first | with_reducible refine abr_true rfl ?_ | with_reducible refine abr_false rfl ?_ | with_reducible refine abr_yes rfl ?_ | refine abr_yes (by decide) ?_ | refine abr_no (by decide) ?_ | with_reducible refine abr_same_ne ?_); (conv => whnf))))
  refine acall (uSize fi sn l w _) ?_
  rintro _ σ_ ⟨rfl, e_⟩
  obtain rfl := e_.symm
  refine ⟨?_, Ext.refl _⟩
  ((conv => whnf); (repeat ((first | with_reducible refine abr_true rfl ?_ | with_reducible refine abr_false rfl ?_ | with_reducible refine abr_yes rfl ?_ | refine abr_yes (by decide) ?_ | refine abr_no (by decide) ?_ | with_reducible refine abr_same_ne ?_); (conv => whnf))))
  refine aloads (l := [i64v fi, i64v sn, lists .none l]) hc1 (by exact Nat.le_refl 3) rfl ?_
  ((conv => whnf); (repeat ((first | with_reducible refine abr_true rfl ?_ | with_reducible refine abr_false rfl ?_ | with_reducible refine abr_yes rfl ?_ | refine abr_yes (by decide) ?_ | refine abr_no (by decide) ?_ | with_reducible refine abr_same_ne ?_); (conv => whnf))))
  refine acall (uRight fi sn l w _) ?_
  rintro _ σ_ ⟨rfl, e_⟩
  obtain rfl := e_.symm
  refine ⟨?_, Ext.refl _⟩
  ((conv => whnf); (repeat ((first | with_reducible refine abr_true rfl ?_ | with_reducible refine abr_false rfl ?_ | with_reducible refine abr_yes rfl ?_ | refine abr_yes (by decide) ?_ | refine abr_no (by decide) ?_ | with_reducible refine abr_same_ne ?_); (conv => whnf))))
  refine abr_false (by rw [beq_dec09 (Iff.intro (fun h => h) (fun h => h))]; rfl) ?_
  ((conv => whnf); (repeat ((first | with_reducible refine abr_true rfl ?_ | with_reducible refine abr_false rfl ?_ | with_reducible refine abr_yes rfl ?_ | refine abr_yes (by decide) ?_ | refine abr_no (by decide) ?_ | with_reducible refine abr_same_ne ?_); (conv => whnf))))
  refine aloads (l := [i64v fi, i64v sn, lists .none l]) hc1 (by exact Nat.le_refl 3) rfl ?_
  ((conv => whnf); (repeat ((first | with_reducible refine abr_true rfl ?_ | with_reducible refine abr_false rfl ?_ | with_reducible refine abr_yes rfl ?_ | refine abr_yes (by decide) ?_ | refine abr_no (by decide) ?_ | with_reducible refine abr_same_ne ?_); (conv => whnf))))
  refine aloads (l := [i64v gi, i64v tn, lists .none m]) hc2 (by exact Nat.le_refl 3) rfl ?_
  ((conv => whnf); (repeat ((first | with_reducible refine abr_true rfl ?_ | with_reducible refine abr_false rfl ?_ | with_reducible refine abr_yes rfl ?_ | refine abr_yes (by decide) ?_ | refine abr_no (by decide) ?_ | with_reducible refine abr_same_ne ?_); (conv => whnf))))
  refine aloads (l := [i64v fi, i64v sn, lists .none l]) hc1 (by exact Nat.le_refl 3) rfl ?_
  ((conv => whnf); (repeat ((first | with_reducible refine abr_true rfl ?_ | with_reducible refine abr_false rfl ?_ | with_reducible refine abr_yes rfl ?_ | refine abr_yes (by decide) ?_ | refine abr_no (by decide) ?_ | with_reducible refine abr_same_ne ?_); (conv => whnf))))
  refine aloads (l := [i64v gi, i64v tn, lists .none m]) hc2 (by exact Nat.le_refl 3) rfl ?_
  ((conv => whnf); (repeat ((first | with_reducible refine abr_true rfl ?_ | with_reducible refine abr_false rfl ?_ | with_reducible refine abr_yes rfl ?_ | refine abr_yes (by decide) ?_ | refine abr_no (by decide) ?_ | with_reducible refine abr_same_ne ?_); (conv => whnf))))
  refine acall (uSame fi sn l gi tn m _ (by omega)) ?_
  rintro _ σ_ ⟨rfl, e_⟩
  obtain rfl := e_.symm
  refine ⟨?_, Ext.refl _⟩
  ((conv => whnf); (repeat ((first | with_reducible refine abr_true rfl ?_ | with_reducible refine abr_false rfl ?_ | with_reducible refine abr_yes rfl ?_ | refine abr_yes (by decide) ?_ | refine abr_no (by decide) ?_ | with_reducible refine abr_same_ne ?_); (conv => whnf))))
  refine acall (uAs fi sn l _) ?_
  rintro _ σ_ ⟨rfl, e_⟩
  obtain rfl := e_.symm
  refine ⟨?_, Ext.refl _⟩
  ((conv => whnf); (repeat ((first | with_reducible refine abr_true rfl ?_ | with_reducible refine abr_false rfl ?_ | with_reducible refine abr_yes rfl ?_ | refine abr_yes (by decide) ?_ | refine abr_no (by decide) ?_ | with_reducible refine abr_same_ne ?_); (conv => whnf))))
  refine acall (uAs gi tn m _) ?_
  rintro _ σ_ ⟨rfl, e_⟩
  obtain rfl := e_.symm
  refine ⟨?_, Ext.refl _⟩
  ((conv => whnf); (repeat ((first | with_reducible refine abr_true rfl ?_ | with_reducible refine abr_false rfl ?_ | with_reducible refine abr_yes rfl ?_ | refine abr_yes (by decide) ?_ | refine abr_no (by decide) ?_ | with_reducible refine abr_same_ne ?_); (conv => whnf))))
  refine acall (refSame09 fi sn l gi tn m _ (by omega)) ?_
  rintro _ σ_ ⟨rfl, e_⟩
  obtain rfl := e_.symm
  refine ⟨?_, Ext.refl _⟩
  ((conv => whnf); (repeat ((first | with_reducible refine abr_true rfl ?_ | with_reducible refine abr_false rfl ?_ | with_reducible refine abr_yes rfl ?_ | refine abr_yes (by decide) ?_ | refine abr_no (by decide) ?_ | with_reducible refine abr_same_ne ?_); (conv => whnf))))
  refine abr_false (by cases samePk fi sn l gi tn m <;> rfl) ?_
  ((conv => whnf); (repeat ((first | with_reducible refine abr_true rfl ?_ | with_reducible refine abr_false rfl ?_ | with_reducible refine abr_yes rfl ?_ | refine abr_yes (by decide) ?_ | refine abr_no (by decide) ?_ | with_reducible refine abr_same_ne ?_); (conv => whnf))))
  by_cases hw : w = 5 ∨ w = 10
  · have hwt := umWidth_iff.2 hw
    by_cases hw5 : w = 5
    all_goals
      (repeat ((first | refine aload (by (repeat (first | with_reducible exact upd_same _ _ _ | assumption | rw [upd_ne _ _ (by first | assumption | (apply Ne.symm; assumption))]))) rfl ?_ | refine afit_i64 (by omega) ?_ | refine arem_nonneg (by omega) (by omega) ?_ | refine adiv_i64 (by omega) (by omega) ?_ | refine abr_yes (by omega) ?_ | refine abr_no (by omega) ?_ | refine amin ?_ | refine amax ?_ | refine afit_u64 (by omega) ?_ | refine afit_u8 (by omega) ?_ | rw [List.length_map]); ((conv => whnf); (repeat ((first | with_reducible refine abr_true rfl ?_ | with_reducible refine abr_false rfl ?_ | with_reducible refine abr_yes rfl ?_ | refine abr_yes (by decide) ?_ | refine abr_no (by decide) ?_ | with_reducible refine abr_same_ne ?_); (conv => whnf))))))
      by_cases hz : umSize fi sn l w = 0
      · have hc : umCode fi sn l w = 3 := by unfold umCode; rw [hwt, if_neg (by simp), if_neg (by omega)]
        have he : umWrite fi sn l w = [] := by unfold umWrite; rw [hc, if_neg (by decide)]
        rw [hc, he]
        (repeat ((first | refine aload (by (repeat (first | with_reducible exact upd_same _ _ _ | assumption | rw [upd_ne _ _ (by first | assumption | (apply Ne.symm; assumption))]))) rfl ?_ | refine afit_i64 (by omega) ?_ | refine arem_nonneg (by omega) (by omega) ?_ | refine adiv_i64 (by omega) (by omega) ?_ | refine abr_yes (by omega) ?_ | refine abr_no (by omega) ?_ | refine amin ?_ | refine amax ?_ | refine afit_u64 (by omega) ?_ | refine afit_u8 (by omega) ?_ | rw [List.length_map]); ((conv => whnf); (repeat ((first | with_reducible refine abr_true rfl ?_ | with_reducible refine abr_false rfl ?_ | with_reducible refine abr_yes rfl ?_ | refine abr_yes (by decide) ?_ | refine abr_no (by decide) ?_ | with_reducible refine abr_same_ne ?_); (conv => whnf))))))
        refine acall (alive09 _) ?_
        rintro _ σ_ ⟨rfl, e_⟩
        obtain rfl := e_.symm
        refine ⟨?_, Ext.refl _⟩
        ((conv => whnf); (repeat ((first | with_reducible refine abr_true rfl ?_ | with_reducible refine abr_false rfl ?_ | with_reducible refine abr_yes rfl ?_ | refine abr_yes (by decide) ?_ | refine abr_no (by decide) ?_ | with_reducible refine abr_same_ne ?_); (conv => whnf))))
        exact aret (VLe.refl _) hs ⟨rfl, rfl⟩
      · have hpos : umSize fi sn l w > 0 := by omega
        obtain ⟨hc, he, hlen⟩ := umWrite_len hwt hpos
        (repeat ((first | refine aload (by (repeat (first | with_reducible exact upd_same _ _ _ | assumption | rw [upd_ne _ _ (by first | assumption | (apply Ne.symm; assumption))]))) rfl ?_ | refine afit_i64 (by omega) ?_ | refine arem_nonneg (by omega) (by omega) ?_ | refine adiv_i64 (by omega) (by omega) ?_ | refine abr_yes (by omega) ?_ | refine abr_no (by omega) ?_ | refine amin ?_ | refine amax ?_ | refine afit_u64 (by omega) ?_ | refine afit_u8 (by omega) ?_ | rw [List.length_map]); ((conv => whnf); (repeat ((first | with_reducible refine abr_true rfl ?_ | with_reducible refine abr_false rfl ?_ | with_reducible refine abr_yes rfl ?_ | refine abr_yes (by decide) ?_ | refine abr_no (by decide) ?_ | with_reducible refine abr_same_ne ?_); (conv => whnf))))))
        refine acall (alive09 _) ?_
        rintro _ σ_ ⟨rfl, e_⟩
        obtain rfl := e_.symm
        refine ⟨?_, Ext.refl _⟩
        ((conv => whnf); (repeat ((first | with_reducible refine abr_true rfl ?_ | with_reducible refine abr_false rfl ?_ | with_reducible refine abr_yes rfl ?_ | refine abr_yes (by decide) ?_ | refine abr_no (by decide) ?_ | with_reducible refine abr_same_ne ?_); (conv => whnf))))
        rw [hc]
        ((conv => whnf); (repeat ((first | with_reducible refine abr_true rfl ?_ | with_reducible refine abr_false rfl ?_ | with_reducible refine abr_yes rfl ?_ | refine abr_yes (by decide) ?_ | refine abr_no (by decide) ?_ | with_reducible refine abr_same_ne ?_); (conv => whnf))))
        (repeat ((first | refine aload (by (repeat (first | with_reducible exact upd_same _ _ _ | assumption | rw [upd_ne _ _ (by first | assumption | (apply Ne.symm; assumption))]))) rfl ?_ | refine afit_i64 (by omega) ?_ | refine arem_nonneg (by omega) (by omega) ?_ | refine adiv_i64 (by omega) (by omega) ?_ | refine abr_yes (by omega) ?_ | refine abr_no (by omega) ?_ | refine amin ?_ | refine amax ?_ | refine afit_u64 (by omega) ?_ | refine afit_u8 (by omega) ?_ | rw [List.length_map]); ((conv => whnf); (repeat ((first | with_reducible refine abr_true rfl ?_ | with_reducible refine abr_false rfl ?_ | with_reducible refine abr_yes rfl ?_ | refine abr_yes (by decide) ?_ | refine abr_no (by decide) ?_ | with_reducible refine abr_same_ne ?_); (conv => whnf))))))
        refine astr rfl ?_
        ((conv => whnf); (repeat ((first | with_reducible refine abr_true rfl ?_ | with_reducible refine abr_false rfl ?_ | with_reducible refine abr_yes rfl ?_ | refine abr_yes (by decide) ?_ | refine abr_no (by decide) ?_ | with_reducible refine abr_same_ne ?_); (conv => whnf))))
        refine aloads (l := [i64v fi, i64v sn, lists .none l]) hc1 (by exact Nat.le_refl 3) rfl ?_
        ((conv => whnf); (repeat ((first | with_reducible refine abr_true rfl ?_ | with_reducible refine abr_false rfl ?_ | with_reducible refine abr_yes rfl ?_ | refine abr_yes (by decide) ?_ | refine abr_no (by decide) ?_ | with_reducible refine abr_same_ne ?_); (conv => whnf))))
        refine acall (uAs fi sn l _) ?_
        rintro _ σ_ ⟨rfl, e_⟩
        obtain rfl := e_.symm
        refine ⟨?_, Ext.refl _⟩
        ((conv => whnf); (repeat ((first | with_reducible refine abr_true rfl ?_ | with_reducible refine abr_false rfl ?_ | with_reducible refine abr_yes rfl ?_ | refine abr_yes (by decide) ?_ | refine abr_no (by decide) ?_ | with_reducible refine abr_same_ne ?_); (conv => whnf))))
        refine acall (refWrite09 fi sn l w _ hpos) ?_
        rintro _ σ_ ⟨rfl, e_⟩
        obtain rfl := e_.symm
        refine ⟨?_, Ext.refl _⟩
        ((conv => whnf); (repeat ((first | with_reducible refine abr_true rfl ?_ | with_reducible refine abr_false rfl ?_ | with_reducible refine abr_yes rfl ?_ | refine abr_yes (by decide) ?_ | refine abr_no (by decide) ?_ | with_reducible refine abr_same_ne ?_); (conv => whnf))))
        refine astr rfl ?_
        ((conv => whnf); (repeat ((first | with_reducible refine abr_true rfl ?_ | with_reducible refine abr_false rfl ?_ | with_reducible refine abr_yes rfl ?_ | refine abr_yes (by decide) ?_ | refine abr_no (by decide) ?_ | with_reducible refine abr_same_ne ?_); (conv => whnf))))
        exact aret_dec (by rw [he]) hs
  · have hw5 : ¬ w = 5 := fun h => hw (.inl h)
    have hw10 : ¬ w = 10 := fun h => hw (.inr h)
    have hc : umCode fi sn l w = 9 := by unfold umCode; rw [if_pos (umWidth_no hw)]
    have he : umWrite fi sn l w = [] := by unfold umWrite; rw [hc, if_neg (by decide)]
    rw [hc, he]
    (repeat ((first | refine aload (by (repeat (first | with_reducible exact upd_same _ _ _ | assumption | rw [upd_ne _ _ (by first | assumption | (apply Ne.symm; assumption))]))) rfl ?_ | refine afit_i64 (by omega) ?_ | refine arem_nonneg (by omega) (by omega) ?_ | refine adiv_i64 (by omega) (by omega) ?_ | refine abr_yes (by omega) ?_ | refine abr_no (by omega) ?_ | refine amin ?_ | refine amax ?_ | refine afit_u64 (by omega) ?_ | refine afit_u8 (by omega) ?_ | rw [List.length_map]); ((conv => whnf); (repeat ((first | with_reducible refine abr_true rfl ?_ | with_reducible refine abr_false rfl ?_ | with_reducible refine abr_yes rfl ?_ | refine abr_yes (by decide) ?_ | refine abr_no (by decide) ?_ | with_reducible refine abr_same_ne ?_); (conv => whnf))))))
    refine acall (alive09 _) ?_
    rintro _ σ_ ⟨rfl, e_⟩
    obtain rfl := e_.symm
    refine ⟨?_, Ext.refl _⟩
    ((conv => whnf); (repeat ((first | with_reducible refine abr_true rfl ?_ | with_reducible refine abr_false rfl ?_ | with_reducible refine abr_yes rfl ?_ | refine abr_yes (by decide) ?_ | refine abr_no (by decide) ?_ | with_reducible refine abr_same_ne ?_); (conv => whnf))))
    exact aret (VLe.refl _) hs ⟨rfl, rfl⟩
end Go.Proofs.Ythjjkcmiachpcaa
/-
  Packets that are not acknowledged: there and back, plain laws.
-/
namespace Go.Proofs.Ythjjkcmiachpcaa
set_option linter.unusedVariables false
set_option linter.unusedSimpArgs false
open Go Go.Am

theorem lensOf_cons (a b : List UInt8) (r : List (List UInt8)) : lensOf (a :: b :: r) = (a.length : Int) :: lensOf (b :: r) := by
  unfold lensOf
  rw [show (a :: b :: r).length - 1 = (b :: r).length - 1 + 1 from rfl, List.take_succ_cons]; rfl
theorem cut_back : ∀ (l : List (List UInt8)) (out : List (List UInt8)), (∀ f ∈ l, 1 ≤ f.length) → l ≠ [] → cutF (lensOf l) l.flatten out = (out ++ l, 0)
  | [], _, _, h => absurd rfl h
  | [a], out, h, _ => by
    have ha := h a (List.mem_cons_self ..)
    show cutF [] (a ++ []) out = _
    rw [List.append_nil]
    unfold cutF
    rw [if_neg (by omega)]
  | a :: b :: r, out, h, _ => by
    rw [lensOf_cons, cutF, List.flatten_cons, Int.toNat_natCast, if_neg (by rw [List.length_append]; omega)]
    rw [List.drop_append_of_le_length (Nat.le_refl _), List.drop_of_length_le (Nat.le_refl _), List.nil_append, List.take_append_of_le_length (Nat.le_refl _), List.take_of_length_le (Nat.le_refl _)]
    rw [cut_back (b :: r) (out ++ [a]) (fun f hf => h f (List.mem_cons_of_mem _ hf)) (by simp), List.append_assoc]; rfl
theorem cut_ok : ∀ (L : List Int) (r : List UInt8) (out m : List (List UInt8)), (∀ v ∈ L, 1 ≤ v) → cutF L r out = (m, 0) → ∃ l, m = out ++ l ∧ l.length = L.length + 1 ∧ lensOf l = L ∧ l.flatten = r ∧ ∀ f ∈ l, 1 ≤ f.length
  | [], r, out, m, _, h => by
    unfold cutF at h
    split at h
    · injection h with _ h2; cases h2
    · injection h with h1 _
      exact ⟨[r], h1.symm, rfl, rfl, by simp, fun f hf => by simp at hf; subst hf; omega⟩
  | n :: L, r, out, m, h0, h => by
    unfold cutF at h
    have hn := h0 n (List.mem_cons_self ..)
    split at h
    · injection h with _ h2; cases h2
    · obtain ⟨l, e1, e2, e3, e4, e5⟩ := cut_ok L _ _ m (fun v hv => h0 v (List.mem_cons_of_mem _ hv)) h
      have hlen : (r.take n.toNat).length = n.toNat := by rw [List.length_take]; omega
      refine ⟨r.take n.toNat :: l, by rw [e1, List.append_assoc]; rfl, by rw [List.length_cons, List.length_cons, e2], ?_, ?_, ?_⟩
      · cases l with
        | nil => simp at e2
        | cons b q => rw [lensOf_cons, hlen, e3]; congr 1; omega
      · rw [List.flatten_cons, e4, List.take_append_drop]
      · intro f hf
        rcases List.mem_cons.1 hf with rfl | h
        · omega
        · exact e5 f h

theorem bits_split {z n : Nat} {A B C D : List Bool} (hA : A.length = z) (hB : B.length = 2) (hC : C.length = 1) (hD : D.length = n) (R : List Bool) :
    (A ++ B ++ C ++ D ++ R).take z = A ∧ ((A ++ B ++ C ++ D ++ R).drop z).take 2 = B ∧ bitD (A ++ B ++ C ++ D ++ R) (z + 2) = C[0]?.getD false ∧ ((A ++ B ++ C ++ D ++ R).drop (z + 3)).take n = D := by
  have e1 : A ++ B ++ C ++ D ++ R = A ++ (B ++ (C ++ (D ++ R))) := by simp only [List.append_assoc]
  have e2 : A ++ B ++ C ++ D ++ R = (A ++ B) ++ (C ++ (D ++ R)) := by simp only [List.append_assoc]
  have e3 : A ++ B ++ C ++ D ++ R = (A ++ B ++ C) ++ (D ++ R) := by simp only [List.append_assoc]
  refine ⟨?_, ?_, ?_, ?_⟩
  · rw [e1, ← hA, List.take_left]
  · rw [e1, ← hA, List.drop_left, ← hB, List.take_left]
  · unfold bitD
    rw [e2, List.getElem?_append_right (by rw [List.length_append]; omega), List.length_append, hA, hB, Nat.sub_self, List.getElem?_append_left (by omega)]
  · rw [e3, show z + 3 = (A ++ B ++ C).length by rw [List.length_append, List.length_append]; omega, List.drop_left, ← hD, List.take_left]

theorem numBits_small {v n : Nat} (h : v < 2 ^ n) : val 0 (numBits v n) = v := by rw [val_numBits, Nat.mod_eq_of_lt h]

theorem read_written {fi sn : Int} {l : List (List UInt8)} {w : Int} (hw : umWidth w = true) (hr : umSize fi sn l w > 0) : readU (umWrite fi sn l w) w = ((fi.toNat, sn.toNat, l), 0) := by
  obtain ⟨hc, he, hlen⟩ := umWrite_len hw hr
  obtain ⟨hw2, hf1, hf2, hsn, hfv⟩ := umSize_ok hr
  have hfo := fieldsV_ok hfv
  have hrange := umSize_range fi sn l w
  have g1 := hfo.one
  have hsn2 : sn.toNat < 2 ^ w.toNat := by
    have := hsn.2
    generalize 2 ^ w.toNat = q at *
    omega
  have hz : (zeros w : Int) = 8 * (w / 5) - 3 - w := by unfold zeros; rcases hw2 with rfl | rfl <;> rfl
  have hbl : (umBits fi sn l w).length = zeros w + 2 + 1 + w.toNat := by unfold umBits; rw [List.length_append, List.length_append, List.length_append, numBits_length, numBits_length, numBits_length]; rfl
  have hpl := pack_length (umBits fi sn l w)
  have hpl2 : (pack (umBits fi sn l w)).length = (w / 5).toNat := by rw [hpl, hbl]; omega
  have hup : unpack (umWrite fi sn l w) = numBits 0 (zeros w) ++ numBits fi.toNat 2 ++ [umMore l] ++ numBits sn.toNat w.toNat ++ unpack (tailB l 11) := by
    rw [he, unpack_append, unpack_pack, hbl, show 8 * ((zeros w + 2 + 1 + w.toNat + 7) / 8) - (zeros w + 2 + 1 + w.toNat) = 0 by omega, List.replicate_zero, List.append_nil]; rfl
  obtain ⟨s1, s2, s3, s4⟩ := bits_split (numBits_length 0 (zeros w)) (numBits_length fi.toNat 2) (show [umMore l].length = 1 from rfl) (numBits_length sn.toNat w.toNat) (unpack (tailB l 11))
  rw [← hup] at s1 s2 s3 s4
  have hrest : umRest (umWrite fi sn l w) w = tailB l 11 := by unfold umRest; rw [he, ← hpl2, List.drop_left]
  have hmo : umMoreB (umWrite fi sn l w) w = umMore l := s3
  have hne : l ≠ [] := fun h => by rw [h] at g1; simp at g1
  have heach : ∀ f ∈ l, 1 ≤ f.length := by
    intro f hf
    obtain ⟨i, hi, rfl⟩ := List.getElem_of_mem hf
    exact (hfo.each i hi).1
  have hlen2 : lensAt (umWrite fi sn l w) w = (if l.length > 1 then (lensOf l, ((writeBytes (lensOf l) 11).length : Int), 0) else ([], 0, 0)) := by
    unfold lensAt
    rw [hmo, hrest]
    unfold umMore
    by_cases h2 : l.length > 1
    · rw [if_pos (decide_eq_true h2), if_pos h2]
      unfold tailB
      rw [if_pos h2, read_back _ _ _ (lensOf_code (.inl rfl) hfo h2)]
    · rw [if_neg (fun h => h2 (of_decide_eq_true h)), if_neg h2]
  have hcut : umCut (umWrite fi sn l w) w = (l, 0) := by
    unfold umCut
    rw [hlen2, hrest]
    by_cases h2 : l.length > 1
    · rw [if_pos h2]
      unfold tailB
      rw [if_pos h2]
      show cutF (lensOf l) ((writeBytes (lensOf l) 11 ++ l.flatten).drop (((writeBytes (lensOf l) 11).length : Int)).toNat) [] = _
      rw [Int.toNat_natCast, List.drop_left, cut_back l [] heach hne]; rfl
    · rw [if_neg h2]
      unfold tailB
      rw [if_neg h2]
      have hL : lensOf l = [] := List.length_eq_zero_iff.1 (by rw [lensOf_length]; omega)
      show cutF [] (l.flatten) [] = _
      rw [← hL, cut_back l [] heach hne]; rfl
  have hge : ((umWrite fi sn l w).length : Int) ≥ w / 5 := by rw [he, List.length_append, hpl2]; omega
  unfold readU
  rw [hw, if_neg (by simp), if_neg (by omega), if_neg (by omega), s1, numBits_small (Nat.pow_pos (by omega)), if_neg (fun h => h rfl), hcut, hlen2]
  rw [if_neg (by split <;> exact fun h => h rfl), if_neg (fun h => h rfl)]
  have h1 : umFi (umWrite fi sn l w) w = fi.toNat := by unfold umFi; rw [s2, numBits_small (show fi.toNat < 2 ^ 2 by omega)]
  have h2 : umSn (umWrite fi sn l w) w = sn.toNat := by unfold umSn; rw [s4, numBits_small hsn2]
  rw [h1, h2]

theorem fieldsBad_none {l : List (List UInt8)} (h : ∀ i, (hi : i < l.length) → fieldBad l i = false) : fieldsBad l l.length = false := by
  refine Bool.eq_false_iff.2 fun hb => ?_
  obtain ⟨i, hi, hx⟩ := List.any_eq_true.1 hb
  rw [h i (List.mem_range.1 hi)] at hx; cases hx

theorem readU_ok {b : List UInt8} {w : Int} (h : (readU b w).2 = 0) : umWidth w = true ∧ b.length ≤ 4000 ∧ ¬ (b.length : Int) < w / 5 ∧ val 0 ((unpack b).take (zeros w)) = 0 ∧ (lensAt b w).2.2 = 0 ∧ (umCut b w).2 = 0 ∧ readU b w = ((umFi b w, umSn b w, (umCut b w).1), 0) := by
  unfold readU at h ⊢
  by_cases h1 : umWidth w = false
  · rw [if_pos h1] at h; cases h
  rw [if_neg h1] at h ⊢
  by_cases h2 : b.length > 4000
  · rw [if_pos h2] at h; cases h
  rw [if_neg h2] at h ⊢
  by_cases h3 : (b.length : Int) < w / 5
  · rw [if_pos h3] at h; cases h
  rw [if_neg h3] at h ⊢
  by_cases h4 : val 0 ((unpack b).take (zeros w)) ≠ 0
  · rw [if_pos h4] at h; cases h
  rw [if_neg h4] at h ⊢
  by_cases h5 : (lensAt b w).2.2 ≠ 0
  · rw [if_pos h5] at h; exact absurd h h5
  rw [if_neg h5] at h ⊢
  by_cases h6 : (umCut b w).2 ≠ 0
  · rw [if_pos h6] at h; exact absurd h h6
  rw [if_neg h6]
  exact ⟨by simpa using h1, by omega, h3, Classical.not_not.1 h4, Classical.not_not.1 h5, Classical.not_not.1 h6, rfl⟩

theorem write_read09 {b : List UInt8} {w : Int} (h : (readU b w).2 = 0) : umWidth w = true ∧ umSize ((readU b w).1.1 : Int) ((readU b w).1.2.1 : Int) (readU b w).1.2.2 w > 0 ∧ umWrite ((readU b w).1.1 : Int) ((readU b w).1.2.1 : Int) (readU b w).1.2.2 w = b := by
  obtain ⟨hw, h4000, hlen, hzero, hlc, hcc, he⟩ := readU_ok h
  rw [he]
  dsimp only
  have hw2 := umWidth_iff.1 hw
  have hz : (zeros w : Int) = 8 * (w / 5) - 3 - w := by unfold zeros; rcases hw2 with rfl | rfl <;> rfl
  have hul := unpack_length b
  have hrl : (umRest b w).length = b.length - (w / 5).toNat := by unfold umRest; rw [List.length_drop]
  -- the lengths
  have hL : ∃ (n : Nat), (lensAt b w).2.1 = n ∧ n ≤ (umRest b w).length ∧ (∀ v ∈ (lensAt b w).1, 1 ≤ v ∧ v ≤ 2047) ∧ (lensAt b w).1.length ≤ 23 ∧
      ((umMoreB b w = true ∧ 1 ≤ (lensAt b w).1.length ∧ writeBytes (lensAt b w).1 11 = (umRest b w).take n) ∨ (umMoreB b w = false ∧ (lensAt b w).1 = [] ∧ n = 0)) := by
    cases hm : umMoreB b w with
    | true =>
      have hla : lensAt b w = readV (umRest b w) 11 := by unfold lensAt; rw [if_pos hm]
      rw [hla] at hlc ⊢
      obtain ⟨g1, g2, g3, g4⟩ := write_back (umRest b w) 11 (readV (umRest b w) 11).1 (readV (umRest b w) 11).2.1 (Prod.ext rfl (Prod.ext rfl hlc))
      obtain ⟨_, k1, k2, k3⟩ := writeCode_ok g1
      refine ⟨(readV (umRest b w) 11).2.1.toNat, by omega, by omega, fun v hv => ?_, k2, .inl ⟨rfl, k1, g4⟩⟩
      obtain ⟨k, rfl, q1, q2⟩ := goodLen (k3 v hv)
      have q2 : k < 2 ^ 11 := q2
      omega
    | false =>
      have hla : lensAt b w = ([], 0, 0) := by unfold lensAt; rw [hm]; rfl
      rw [hla]
      exact ⟨0, rfl, Nat.zero_le _, by simp, by simp, .inr ⟨rfl, rfl, rfl⟩⟩
  obtain ⟨n, hn, hnr, hLv, hL23, hLm⟩ := hL
  have hcut : cutF (lensAt b w).1 ((umRest b w).drop n) [] = ((umCut b w).1, 0) := by
    have : umCut b w = cutF (lensAt b w).1 ((umRest b w).drop n) [] := by unfold umCut; rw [hn, Int.toNat_natCast]
    rw [← this]; exact Prod.ext rfl hcc
  obtain ⟨l, e1, e2, e3, e4, e5⟩ := cut_ok _ _ _ _ (fun v hv => (hLv v hv).1) hcut
  rw [List.nil_append] at e1
  rw [e1]
  have htot : total l = (umRest b w).length - n := by unfold total; rw [e4, List.length_drop]
  have hmore : umMore l = umMoreB b w := by
    unfold umMore
    rcases hLm with ⟨h1, h2, _⟩ | ⟨h1, h2, _⟩
    · rw [h1]; exact decide_eq_true (by omega)
    · rw [h1]; rw [h2] at e2; exact decide_eq_false (by rw [e2]; decide)
  have htail : tailB l 11 = umRest b w := by
    unfold tailB
    rw [e3, e4]
    rcases hLm with ⟨h1, h2, h3⟩ | ⟨h1, h2, h3⟩
    · rw [if_pos (by omega), h3, List.take_append_drop]
    · rw [if_neg (by rw [e2, h2]; decide), h3, List.drop_zero]; rfl
  have hfb : fieldsBad l l.length = false := by
    refine fieldsBad_none fun i hi => ?_
    rw [fieldBad_get hi]
    refine decide_eq_false ?_
    have g1 := e5 _ (List.getElem_mem hi)
    rintro (h | ⟨h, h2⟩)
    · omega
    · have hmem : ((l[i].length : Nat) : Int) ∈ lensOf l := by
        unfold lensOf
        refine List.mem_map.2 ⟨l[i], ?_, rfl⟩
        refine List.mem_iff_getElem.2 ⟨i, by rw [List.length_take]; omega, ?_⟩
        rw [List.getElem_take]
      rw [e3] at hmem
      have := (hLv _ hmem).2
      omega
  have hsz : sizeV ((l.length : Int) - 1) 11 = (n : Int) := by
    rcases hLm with ⟨h1, h2, h3⟩ | ⟨h1, h2, h3⟩
    · have hlb : ((umRest b w).take n).length = n := by rw [List.length_take]; omega
      rw [← h3] at hlb
      have hwc : writeCode (lensAt b w).1 11 = 0 := by
        refine Classical.byContradiction fun hc => ?_
        unfold writeBytes at hlb
        rw [if_neg hc] at hlb
        have hn0 : n = 0 := hlb.symm
        refine hc ?_
        have hla : lensAt b w = readV (umRest b w) 11 := by unfold lensAt; rw [if_pos h1]
        rw [hla] at hlc ⊢
        exact (write_back (umRest b w) 11 (readV (umRest b w) 11).1 (readV (umRest b w) 11).2.1 (Prod.ext rfl (Prod.ext rfl hlc))).1
      unfold writeBytes at hlb
      rw [if_pos hwc, pack_length, lenBits_length] at hlb
      rw [show ((l.length : Int) - 1) = (((lensAt b w).1.length : Nat) : Int) by omega]
      show sizeV _ ((11 : Nat) : Int) = _
      rw [sizeV_ok (by omega) h2 hL23]
      rw [← hlb]; rfl
    · rw [h3]
      unfold sizeV
      rw [if_pos (.inr (.inl (by rw [e2, h2]; decide)))]; rfl
  have hfv : fieldsV l (w / 5) 11 > 0 := by
    unfold fieldsV
    rw [if_neg (by omega), hfb, if_neg (by simp), hsz, if_neg (by omega)]
    omega
  have hfi : umFi b w < 4 := by
    have := val_lt (((unpack b).drop (zeros w)).take 2)
    have h2 : (((unpack b).drop (zeros w)).take 2).length = 2 := by rw [List.length_take, List.length_drop]; omega
    rw [h2] at this; exact this
  have hsnl : (((unpack b).drop (zeros w + 3)).take w.toNat).length = w.toNat := by rw [List.length_take, List.length_drop]; omega
  have hsn : umSn b w < 2 ^ w.toNat := by
    have := val_lt (((unpack b).drop (zeros w + 3)).take w.toNat)
    rw [hsnl] at this; exact this
  have hpos : umSize (umFi b w : Int) (umSn b w : Int) l w > 0 := by
    unfold umSize
    rw [if_neg]
    · exact hfv
    · have hnum : isNum w (umSn b w : Int) = true := by
        refine decide_eq_true ⟨by omega, ?_⟩
        unfold spaceSize
        rw [if_pos (by unfold spaceOk; omega)]
        generalize 2 ^ w.toNat = q at *
        omega
      rintro (h | h | h | h)
      · rw [hw] at h; cases h
      · omega
      · omega
      · rw [hnum] at h; cases h
  refine ⟨hw, hpos, ?_⟩
  rw [(umWrite_len hw hpos).2.1, htail]
  have hbits : umBits (umFi b w : Int) (umSn b w : Int) l w = unpack (b.take (w / 5).toNat) := by
    have hz0 : numBits 0 (zeros w) = (unpack b).take (zeros w) := by
      rw [← hzero]; exact numBits_val _ _ (by rw [List.length_take]; omega)
    have h1 : numBits (umFi b w) 2 = ((unpack b).drop (zeros w)).take 2 := numBits_val 2 _ (by rw [List.length_take, List.length_drop]; omega)
    have h2 : numBits (umSn b w) w.toNat = ((unpack b).drop (zeros w + 3)).take w.toNat := numBits_val _ _ hsnl
    have h3 : [umMore l] = ((unpack b).drop (zeros w + 2)).take 1 := by
      have hlt : zeros w + 2 < (unpack b).length := by omega
      rw [List.drop_eq_getElem_cons hlt, List.take_succ_cons, List.take_zero, hmore]
      unfold umMoreB
      rw [bitD_get hlt]
    unfold umBits
    rw [Int.toNat_natCast, Int.toNat_natCast, hz0, h1, h2, h3]
    have t2 : (unpack b).take (zeros w) ++ ((unpack b).drop (zeros w)).take 2 = (unpack b).take (zeros w + 2) := List.take_add.symm
    have t3 : (unpack b).take (zeros w + 2) ++ ((unpack b).drop (zeros w + 2)).take 1 = (unpack b).take (zeros w + 3) := (List.take_add (i := zeros w + 2) (j := 1)).symm
    have t4 : (unpack b).take (zeros w + 3) ++ ((unpack b).drop (zeros w + 3)).take w.toNat = (unpack b).take (zeros w + 3 + w.toNat) := List.take_add.symm
    rw [t2, t3, t4, unpack_take]
    congr 1
    omega
  rw [hbits, pack_unpack]
  unfold umRest
  exact List.take_append_drop _ _
end Go.Proofs.Ythjjkcmiachpcaa
/-
  The right to append, beside whatever else is known of the heap.
-/
namespace Go.Proofs.Ythjjkcmiachpcaa
set_option linter.unusedVariables false
set_option linter.unusedSimpArgs false
open Go Go.Am

theorem sub_none {σ σ' : AHeap} (h : Sub σ σ') {id : Nat} (k : σ id = none) : σ' id = none := by
  cases e : σ' id with
  | none => rfl
  | some o => rw [h _ _ e] at k; cases k
theorem sub_del {σ σb : AHeap} {id : Nat} (h : Sub σ σb) (h1 : σb id = none) : Sub (del σ id) σb := fun j o hj => by
  have hne : j ≠ id := fun e => by subst e; rw [h1] at hj; cases hj
  rw [del_ne _ hne]; exact h _ _ hj
theorem sub_upd {σ σb : AHeap} {id : Nat} (o : AObj) (h : Sub σ σb) (h1 : σb id = none) : Sub (upd σ id o) σb := fun j x hj => by
  have hne : j ≠ id := fun e => by subst e; rw [h1] at hj; cases hj
  rw [upd_ne _ _ hne]; exact h _ _ hj
/-- A token that is there, and is not of the heap below. -/
def TokIn (σ σb : AHeap) (tk : Tok) : Prop := tk = .full ∨ ∃ t, tk = .tip t ∧ σ t = some .tip ∧ σb t = none
theorem TokIn.full (σ σb : AHeap) : TokIn σ σb .full := .inl rfl
theorem TokIn.ne {σ σb : AHeap} {tk : Tok} {id : Nat} (o : AObj) (h : TokIn σ σb tk) (k : ∀ t, tk = .tip t → id ≠ t) : TokIn (upd σ id o) σb tk := by
  rcases h with rfl | ⟨t, rfl, h1, h2⟩
  · exact .inl rfl
  · exact .inr ⟨t, rfl, by rw [upd_ne _ _ (Ne.symm (k t rfl))]; exact h1, h2⟩
theorem TokIn.ne_of {σ σb : AHeap} {tk : Tok} {id : Nat} {o : AObj} (h : TokIn σ σb tk) (k : σ id = some o) (ho : o.isTip = false) : ∀ t, tk = .tip t → id ≠ t := by
  rintro t rfl e
  subst e
  rcases h with h | ⟨t', h0, h1, h2⟩
  · cases h
  · cases h0; rw [h1] at k; cases k; cases ho
/-- Something of the heap below is set. -/
theorem TokIn.set {σ σb : AHeap} {tk : Tok} {id : Nat} {o : AObj} (x : AObj) (h : TokIn σ σb tk) (k : σ id = some o) (ho : o.isTip = false) : TokIn (upd σ id x) σb tk := h.ne x (h.ne_of k ho)
theorem TokIn.ext {σ σ' σb : AHeap} {tk : Tok} (h : TokIn σ σb tk) (k : ∀ t, σ t = some .tip → σ' t = some .tip) : TokIn σ' σb tk := by
  rcases h with rfl | ⟨t, rfl, h1, h2⟩
  · exact .inl rfl
  · exact .inr ⟨t, rfl, k t h1, h2⟩
theorem Owned.tokIn {σ σb σ' : AHeap} {tk : Tok} (hs : Sub σ σb) (h : Owned σ σ' tk) : TokIn σ' σb tk := by
  rcases h with ⟨rfl, rfl⟩ | ⟨t, h0, rfl, rfl⟩
  · exact .inl rfl
  · exact .inr ⟨t, rfl, upd_same _ _ _, sub_none hs h0⟩
theorem aapp_in {σ σb : AHeap} {s bytes : Nat} {xs ys : List AVal} {tk : Tok} {K : AVal → AHeap → Prop} (h : TokIn σ σb tk) (hs : Sub σ σb) (hl : (xs.length + ys.length) * bytes ≤ 140737488355328)
    (k : ∀ t' σ', Ext σ σ' → Sub σ' σb → TokIn σ' σb (.tip t') → K (.slice s (xs ++ ys) (.tip t')) σ') : AApp σ s bytes xs tk ys K := by
  rcases h with rfl | ⟨t, rfl, h1, h2⟩
  · refine aapp_full hl fun t ht => k t _ (Ext.upd_fresh _ ht) (sub_upd _ hs (sub_none hs ht)) (.inr ⟨t, rfl, upd_same _ _ _, sub_none hs ht⟩)
  · refine aapp_tip h1 hl fun t' ht' => ?_
    have hb : σb t' = none := sub_none hs ht'
    refine k t' _ (fun id o ho e => ?_) (sub_upd _ (sub_del hs h2) hb) (.inr ⟨t', rfl, upd_same _ _ _, hb⟩)
    have hne : id ≠ t := fun q => by subst q; rw [h1] at e; cases e; cases ho
    have e2 : del σ t id = some o := by rw [del_ne _ hne]; exact e
    rw [upd_ne]; exact e2
    intro q; subst q; rw [e] at ht'; cases ht'
end Go.Proofs.Ythjjkcmiachpcaa
