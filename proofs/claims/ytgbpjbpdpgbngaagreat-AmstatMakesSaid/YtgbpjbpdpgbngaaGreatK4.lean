/-
  Texts of this claim, pack 4: Irref25, Irref11, Irlaw11, Irrxwin, Irref23, Irref01, Irlaw09, Irlaw25.
-/
import Derived.Test.YtgbpjbpdpgbngaaGreatK2
set_option linter.unusedSimpArgs false
set_option linter.unusedVariables false
/-
  The bodies of one package, compiled to the framework's language (printed by a program of this session).
-/
namespace Go.Proofs.YtgbpjbpdpgbngaaGreat
open Go Go.Am
/- bowlineref25.Make -/
def c7 : Cfg := ⟨qs, [], 83, [], ps⟩
def ir7 : IFun := ⟨4, [.cell s8 (some 2), .tmp s9],
  (.seq (.reg (.one ⟨some s8, none, (.new [(.v (.int .i64 0)), (.slice 4 [] .full)])⟩
    (.one ⟨some s9, none, (.mv (.c (.v (.int .i64 0))))⟩
    .done)))
  (.seq (.reg (.one ⟨some s16, none, (.build [(.v (.int .i64 0)), (.slice 4 [] .full)] [])⟩
    (.one ⟨some s10, none, (.new [(.v (.int .i64 0)), (.slice 4 [] .full)])⟩
    (.one ⟨none, none, (.store 2 (.t s10) (.t s16))⟩
    .done))))
  (.seq (.seq (.reg (.one ⟨some s17, none, (.mv (.t s3))⟩
    (.one ⟨some s18, none, (.bin false .neq (.t s17) (.c (.v (.int .i64 10))))⟩
    (.one ⟨some s19, none, (.mv (.t s18))⟩
    (.one ⟨some s20, some (s19, true), (.mv (.t s3))⟩
    (.one ⟨some s21, some (s19, true), (.bin false .neq (.t s20) (.c (.v (.int .i64 16))))⟩
    (.one ⟨some s22, none, (.pick (.t s19) (.t s21) (.c (.v (.bool false))))⟩
    .done)))))))
  (.cond (.t s22) (.seq (.reg (.one ⟨some s23, none, (.load (some 2) (.t s10))⟩
    (.one ⟨none, none, (.store 2 (.t s8) (.t s23))⟩
    (.one ⟨some s9, none, (.mv (.c (.v (.int .i64 9))))⟩
    .done))))
  .ret) .skip))
  (.seq (.seq (.reg (.one ⟨some s24, none, (.mv (.t s2))⟩
    (.one ⟨some s25, none, (.bin false .lss (.t s24) (.c (.v (.int .i64 0))))⟩
    (.one ⟨some s26, none, (.mv (.t s25))⟩
    (.one ⟨some s27, some (s26, false), (.mv (.t s2))⟩
    (.one ⟨some s28, some (s26, false), (.bin false .gtr (.t s27) (.c (.v (.int .i64 4096))))⟩
    (.one ⟨some s29, none, (.pick (.t s26) (.c (.v (.bool true))) (.t s28))⟩
    .done)))))))
  (.cond (.t s29) (.seq (.reg (.one ⟨some s30, none, (.load (some 2) (.t s10))⟩
    (.one ⟨none, none, (.store 2 (.t s8) (.t s30))⟩
    (.one ⟨some s9, none, (.mv (.c (.v (.int .i64 1))))⟩
    .done))))
  .ret) .skip))
  (.seq (.seq (.reg (.one ⟨some s31, none, (.load (some 2) (.t s10))⟩
    (.one ⟨some s32, none, (.mv (.t s3))⟩
    (.one ⟨some s33, none, (.callq 33 [(.t s31), (.t s32)])⟩
    (.one ⟨some s34, none, (.mv (.t s2))⟩
    (.one ⟨some s35, none, (.bin false .gtr (.t s33) (.t s34))⟩
    .done))))))
  (.cond (.t s35) (.seq (.reg (.one ⟨some s36, none, (.load (some 2) (.t s10))⟩
    (.one ⟨none, none, (.store 2 (.t s8) (.t s36))⟩
    (.one ⟨some s9, none, (.mv (.c (.v (.int .i64 16))))⟩
    .done))))
  .ret) .skip))
  (.seq (.reg (.one ⟨some s37, none, (.mv (.t s0))⟩
    (.one ⟨some s38, none, (.callq 34 [(.t s37)])⟩
    (.one ⟨some s39, none, (.index none 1 3 (.t s38) (.c (.v (.int .i64 1))))⟩
    (.one ⟨some s40, none, (.build [(.v (.int .i64 0)), (.slice 4 [] .full)] [(0, 1, (.t s39))])⟩
    (.one ⟨some s11, none, (.new [(.v (.int .i64 0)), (.slice 4 [] .full)])⟩
    (.one ⟨none, none, (.store 2 (.t s11) (.t s40))⟩
    .done)))))))
  (.seq (.reg (.one ⟨some s41, none, (.mv (.t s0))⟩
    (.one ⟨some s42, none, (.callq 35 [(.t s41)])⟩
    (.one ⟨some s12, none, (.mv (.t s42))⟩
    .done))))
  (.seq (.seq (.reg (.one ⟨some s13, none, (.mv (.c (.v (.int .i64 0))))⟩
    .done))
  (.block 0 (.loop (.seq (.seq (.reg (.one ⟨some s43, none, (.mv (.t s13))⟩
    (.one ⟨some s44, none, (.mv (.t s12))⟩
    (.one ⟨some s45, none, (.len false (.t s44))⟩
    (.one ⟨some s46, none, (.bin false .lss (.t s43) (.t s45))⟩
    .done)))))
  (.cond (.t s46) .skip (.exit 0)))
  (.seq (.block 1 (.seq (.reg (.one ⟨some s14, none, (.mv (.c (.slice 4 [] .full)))⟩
    .done))
  (.seq (.reg (.one ⟨some s49, none, (.mv (.t s14))⟩
    (.one ⟨some s50, none, (.faddr 1 (.t s11))⟩
    (.one ⟨some s51, none, (.load none (.t s50))⟩
    (.one ⟨some s52, none, (.app 4 32 (.t s49) (.t s51))⟩
    (.one ⟨some s14, none, (.mv (.t s52))⟩
    .done))))))
  (.seq (.reg (.one ⟨some s53, none, (.mv (.t s14))⟩
    (.one ⟨some s54, none, (.mv (.t s1))⟩
    (.one ⟨some s55, none, (.mv (.t s12))⟩
    (.one ⟨some s56, none, (.mv (.t s13))⟩
    (.one ⟨some s57, none, (.iaddr 1 (.t s55) (.t s56))⟩
    (.one ⟨some s58, none, (.load none (.t s57))⟩
    (.one ⟨some s59, none, (.callq 9 [(.t s54), (.t s58)])⟩
    (.one ⟨some s60, none, (.app 4 32 (.t s53) (.t s59))⟩
    (.one ⟨some s14, none, (.mv (.t s60))⟩
    .done))))))))))
  (.seq (.reg (.one ⟨some s61, none, (.faddr 0 (.t s11))⟩
    (.one ⟨some s62, none, (.load none (.t s61))⟩
    (.one ⟨some s63, none, (.mv (.t s14))⟩
    (.one ⟨some s64, none, (.build [(.v (.int .i64 0)), (.slice 4 [] .full)] [(0, 1, (.t s62)), (1, 1, (.t s63))])⟩
    (.one ⟨some s15, none, (.new [(.v (.int .i64 0)), (.slice 4 [] .full)])⟩
    (.one ⟨none, none, (.store 2 (.t s15) (.t s64))⟩
    .done)))))))
  (.seq (.seq (.reg (.one ⟨some s65, none, (.mv (.t s14))⟩
    (.one ⟨some s66, none, (.len false (.t s65))⟩
    (.one ⟨some s67, none, (.bin false .gtr (.t s66) (.c (.v (.int .i64 32))))⟩
    (.one ⟨some s68, none, (.mv (.t s67))⟩
    (.one ⟨some s69, some (s68, false), (.load (some 2) (.t s15))⟩
    (.one ⟨some s70, some (s68, false), (.mv (.t s3))⟩
    (.one ⟨some s71, some (s68, false), (.callq 33 [(.t s69), (.t s70)])⟩
    (.one ⟨some s72, some (s68, false), (.mv (.t s2))⟩
    (.one ⟨some s73, some (s68, false), (.bin false .gtr (.t s71) (.t s72))⟩
    (.one ⟨some s74, none, (.pick (.t s68) (.c (.v (.bool true))) (.t s73))⟩
    .done)))))))))))
  (.cond (.t s74) (.seq (.reg (.one ⟨some s75, none, (.mv (.t s12))⟩
    (.one ⟨some s76, none, (.mv (.t s13))⟩
    (.one ⟨some s77, none, (.iaddr 1 (.t s75) (.t s76))⟩
    (.one ⟨some s78, none, (.load none (.t s77))⟩
    (.one ⟨some s79, none, (.faddr 0 (.t s11))⟩
    (.one ⟨none, none, (.store 1 (.t s79) (.t s78))⟩
    .done)))))))
  (.seq (.reg (.one ⟨some s80, none, (.load (some 2) (.t s11))⟩
    (.one ⟨none, none, (.store 2 (.t s8) (.t s80))⟩
    (.one ⟨some s9, none, (.mv (.c (.v (.int .i64 0))))⟩
    .done))))
  .ret)) .skip))
  (.reg (.one ⟨some s81, none, (.load (some 2) (.t s15))⟩
    (.one ⟨none, none, (.store 2 (.t s11) (.t s81))⟩
    .done)))))))))
  (.reg (.one ⟨some s47, none, (.mv (.t s13))⟩
    (.one ⟨some s48, none, (.bin false .add (.t s47) (.c (.v (.int .i64 1))))⟩
    (.one ⟨some s13, none, (.mv (.t s48))⟩
    .done)))))))))
  (.seq (.reg (.one ⟨some s82, none, (.load (some 2) (.t s11))⟩
    (.one ⟨none, none, (.store 2 (.t s8) (.t s82))⟩
    (.one ⟨some s9, none, (.mv (.c (.v (.int .i64 0))))⟩
    .done))))
  .ret)))))))))⟩
theorem ok7 : compF Tryz.prog c7 Tryz.f7 = some ir7 := by kernel_rfl
theorem k_bowlineref25_Make {args : List AVal} {σ : AHeap} {Q : AVal → AHeap → Prop} (hl : Nat.ble args.length 83 = true) (h : argsK (Env.full 9) 0 args fun env => evC Tryz.prog c7 ir7.body env σ (retQ ir7 Q)) : ACalls Tryz.prog 7 args σ Q :=
  acalls_of Tryz.func7 ok7 rfl (Nat.le_of_ble_eq_true hl) h
/- bowlineref25.Misses -/
def c9 : Cfg := ⟨qs, [], 39, [], ps⟩
def ir9 : IFun := ⟨2, [.tmp s4],
  (.seq (.reg (.one ⟨some s4, none, (.mv (.c (.slice 4 [] .full)))⟩
    .done))
  (.seq (.reg (.one ⟨some s8, none, (.mv (.t s0))⟩
    (.one ⟨some s9, none, (.mv (.t s1))⟩
    (.one ⟨some s10, none, (.callq 37 [(.t s8), (.t s9)])⟩
    (.one ⟨some s5, none, (.mv (.t s10))⟩
    .done)))))
  (.seq (.seq (.reg (.one ⟨some s11, none, (.mv (.t s5))⟩
    (.one ⟨some s12, none, (.len false (.t s11))⟩
    (.one ⟨some s13, none, (.bin false .eql (.t s12) (.c (.v (.int .i64 0))))⟩
    .done))))
  (.cond (.t s13) (.seq (.reg (.one ⟨some s14, none, (.mv (.t s1))⟩
    (.one ⟨some s15, none, (.build [(.v (.int .i64 0)), (.v (.bool false)), (.v (.int .i64 0)), (.v (.int .i64 0))] [(0, 1, (.t s14))])⟩
    (.one ⟨some s16, none, (.row 4 [(.t s15)])⟩
    (.one ⟨some s4, none, (.mv (.t s16))⟩
    .done)))))
  .ret) .skip))
  (.seq (.reg (.one ⟨some s6, none, (.mv (.c (.slice 4 [] .full)))⟩
    .done))
  (.seq (.seq (.reg (.one ⟨some s7, none, (.mv (.c (.v (.int .i64 0))))⟩
    .done))
  (.block 0 (.loop (.seq (.seq (.reg (.one ⟨some s17, none, (.mv (.t s7))⟩
    (.one ⟨some s18, none, (.mv (.t s5))⟩
    (.one ⟨some s19, none, (.len false (.t s18))⟩
    (.one ⟨some s20, none, (.bin false .lss (.t s17) (.t s19))⟩
    .done)))))
  (.cond (.t s20) .skip (.exit 0)))
  (.seq (.block 1 (.reg (.one ⟨some s23, none, (.mv (.t s6))⟩
    (.one ⟨some s24, none, (.mv (.t s1))⟩
    (.one ⟨some s25, none, (.mv (.t s5))⟩
    (.one ⟨some s26, none, (.mv (.t s7))⟩
    (.one ⟨some s27, none, (.iaddr 2 (.t s25) (.t s26))⟩
    (.one ⟨some s28, none, (.faddr 0 (.t s27))⟩
    (.one ⟨some s29, none, (.load none (.t s28))⟩
    (.one ⟨some s30, none, (.mv (.t s5))⟩
    (.one ⟨some s31, none, (.mv (.t s7))⟩
    (.one ⟨some s32, none, (.iaddr 2 (.t s30) (.t s31))⟩
    (.one ⟨some s33, none, (.faddr 1 (.t s32))⟩
    (.one ⟨some s34, none, (.load none (.t s33))⟩
    (.one ⟨some s35, none, (.build [(.v (.int .i64 0)), (.v (.bool false)), (.v (.int .i64 0)), (.v (.int .i64 0))] [(0, 1, (.t s24)), (1, 1, (.c (.v (.bool true)))), (2, 1, (.t s29)), (3, 1, (.t s34))])⟩
    (.one ⟨some s36, none, (.row 4 [(.t s35)])⟩
    (.one ⟨some s37, none, (.app 4 32 (.t s23) (.t s36))⟩
    (.one ⟨some s6, none, (.mv (.t s37))⟩
    .done))))))))))))))))))
  (.reg (.one ⟨some s21, none, (.mv (.t s7))⟩
    (.one ⟨some s22, none, (.bin false .add (.t s21) (.c (.v (.int .i64 1))))⟩
    (.one ⟨some s7, none, (.mv (.t s22))⟩
    .done)))))))))
  (.seq (.reg (.one ⟨some s38, none, (.mv (.t s6))⟩
    (.one ⟨some s4, none, (.mv (.t s38))⟩
    .done)))
  .ret))))))⟩
theorem ok9 : compF Tryz.prog c9 Tryz.f9 = some ir9 := by kernel_rfl
theorem k_bowlineref25_Misses {args : List AVal} {σ : AHeap} {Q : AVal → AHeap → Prop} (hl : Nat.ble args.length 39 = true) (h : argsK (Env.full 9) 0 args fun env => evC Tryz.prog c9 ir9.body env σ (retQ ir9 Q)) : ACalls Tryz.prog 9 args σ Q :=
  acalls_of Tryz.func9 ok9 rfl (Nat.le_of_ble_eq_true hl) h
end Go.Proofs.YtgbpjbpdpgbngaaGreat
/-
  The bodies of one package, compiled to the framework's language (printed by a program of this session).
-/
namespace Go.Proofs.YtgbpjbpdpgbngaaGreat
open Go Go.Am
/- bowlineref11.Same -/
def c10 : Cfg := ⟨qs, [], 38, [], ps⟩
def ir10 : IFun := ⟨2, [.tmp s4],
  (.seq (.reg (.one ⟨some s2, none, (.box 2 (.t s0))⟩
    (.one ⟨some s3, none, (.box 2 (.t s1))⟩
    (.one ⟨some s4, none, (.mv (.c (.v (.bool false))))⟩
    .done))))
  (.seq (.seq (.reg (.one ⟨some s6, none, (.faddr 0 (.t s2))⟩
    (.one ⟨some s7, none, (.load none (.t s6))⟩
    (.one ⟨some s8, none, (.faddr 0 (.t s3))⟩
    (.one ⟨some s9, none, (.load none (.t s8))⟩
    (.one ⟨some s10, none, (.bin false .neq (.t s7) (.t s9))⟩
    (.one ⟨some s11, none, (.mv (.t s10))⟩
    (.one ⟨some s12, some (s11, false), (.faddr 1 (.t s2))⟩
    (.one ⟨some s13, some (s11, false), (.load none (.t s12))⟩
    (.one ⟨some s14, some (s11, false), (.len false (.t s13))⟩
    (.one ⟨some s15, some (s11, false), (.faddr 1 (.t s3))⟩
    (.one ⟨some s16, some (s11, false), (.load none (.t s15))⟩
    (.one ⟨some s17, some (s11, false), (.len false (.t s16))⟩
    (.one ⟨some s18, some (s11, false), (.bin false .neq (.t s14) (.t s17))⟩
    (.one ⟨some s19, none, (.pick (.t s11) (.c (.v (.bool true))) (.t s18))⟩
    .done)))))))))))))))
  (.cond (.t s19) (.seq (.reg (.one ⟨some s4, none, (.mv (.c (.v (.bool false))))⟩
    .done))
  .ret) .skip))
  (.seq (.seq (.reg (.one ⟨some s5, none, (.mv (.c (.v (.int .i64 0))))⟩
    .done))
  (.block 0 (.loop (.seq (.seq (.reg (.one ⟨some s20, none, (.mv (.t s5))⟩
    (.one ⟨some s21, none, (.faddr 1 (.t s2))⟩
    (.one ⟨some s22, none, (.load none (.t s21))⟩
    (.one ⟨some s23, none, (.len false (.t s22))⟩
    (.one ⟨some s24, none, (.bin false .lss (.t s20) (.t s23))⟩
    .done))))))
  (.cond (.t s24) .skip (.exit 0)))
  (.seq (.block 1 (.seq (.reg (.one ⟨some s27, none, (.faddr 1 (.t s2))⟩
    (.one ⟨some s28, none, (.load none (.t s27))⟩
    (.one ⟨some s29, none, (.mv (.t s5))⟩
    (.one ⟨some s30, none, (.iaddr 4 (.t s28) (.t s29))⟩
    (.one ⟨some s31, none, (.load (some 4) (.t s30))⟩
    (.one ⟨some s32, none, (.faddr 1 (.t s3))⟩
    (.one ⟨some s33, none, (.load none (.t s32))⟩
    (.one ⟨some s34, none, (.mv (.t s5))⟩
    (.one ⟨some s35, none, (.iaddr 4 (.t s33) (.t s34))⟩
    (.one ⟨some s36, none, (.load (some 4) (.t s35))⟩
    (.one ⟨some s37, none, (.eqAgg true [false, true, false, false] (.t s31) (.t s36))⟩
    .done))))))))))))
  (.cond (.t s37) (.seq (.reg (.one ⟨some s4, none, (.mv (.c (.v (.bool false))))⟩
    .done))
  .ret) .skip)))
  (.reg (.one ⟨some s25, none, (.mv (.t s5))⟩
    (.one ⟨some s26, none, (.bin false .add (.t s25) (.c (.v (.int .i64 1))))⟩
    (.one ⟨some s5, none, (.mv (.t s26))⟩
    .done)))))))))
  (.seq (.reg (.one ⟨some s4, none, (.mv (.c (.v (.bool true))))⟩
    .done))
  .ret))))⟩
theorem ok10 : compF Tryz.prog c10 Tryz.f10 = some ir10 := by kernel_rfl
theorem k_bowlineref11_Same {args : List AVal} {σ : AHeap} {Q : AVal → AHeap → Prop} (hl : Nat.ble args.length 38 = true) (h : argsK (Env.full 9) 0 args fun env => evC Tryz.prog c10 ir10.body env σ (retQ ir10 Q)) : ACalls Tryz.prog 10 args σ Q :=
  acalls_of Tryz.func10 ok10 rfl (Nat.le_of_ble_eq_true hl) h
/- bowlineref11.Size -/
def c33 : Cfg := ⟨qs, [], 13, [], ps⟩
def ir33 : IFun := ⟨2, [.tmp s4],
  (.seq (.reg (.one ⟨some s2, none, (.box 2 (.t s0))⟩
    (.one ⟨some s4, none, (.mv (.c (.v (.int .i64 0))))⟩
    .done)))
  (.seq (.seq (.reg (.one ⟨some s5, none, (.load (some 2) (.t s2))⟩
    (.one ⟨some s6, none, (.mv (.t s1))⟩
    (.one ⟨some s7, none, (.callq 75 [(.t s5), (.t s6)])⟩
    (.one ⟨some s8, none, (.not (.t s7))⟩
    .done)))))
  (.cond (.t s8) (.seq (.reg (.one ⟨some s4, none, (.mv (.c (.v (.int .i64 0))))⟩
    .done))
  .ret) .skip))
  (.seq (.reg (.one ⟨some s9, none, (.load (some 2) (.t s2))⟩
    (.one ⟨some s10, none, (.mv (.t s1))⟩
    (.one ⟨some s11, none, (.callq 76 [(.t s9), (.t s10)])⟩
    (.one ⟨some s12, none, (.len false (.t s11))⟩
    (.one ⟨some s4, none, (.mv (.t s12))⟩
    .done))))))
  .ret)))⟩
theorem ok33 : compF Tryz.prog c33 Tryz.f33 = some ir33 := by kernel_rfl
theorem k_bowlineref11_Size {args : List AVal} {σ : AHeap} {Q : AVal → AHeap → Prop} (hl : Nat.ble args.length 13 = true) (h : argsK (Env.full 9) 0 args fun env => evC Tryz.prog c33 ir33.body env σ (retQ ir33 Q)) : ACalls Tryz.prog 33 args σ Q :=
  acalls_of Tryz.func33 ok33 rfl (Nat.le_of_ble_eq_true hl) h
/- bowlineref11.Right -/
def c75 : Cfg := ⟨qs, [], 40, [], ps⟩
def ir75 : IFun := ⟨2, [.tmp s4],
  (.seq (.reg (.one ⟨some s2, none, (.box 2 (.t s0))⟩
    (.one ⟨some s4, none, (.mv (.c (.v (.bool false))))⟩
    .done)))
  (.seq (.seq (.reg (.one ⟨some s6, none, (.mv (.t s1))⟩
    (.one ⟨some s7, none, (.bin false .neq (.t s6) (.c (.v (.int .i64 10))))⟩
    (.one ⟨some s8, none, (.mv (.t s7))⟩
    (.one ⟨some s9, some (s8, true), (.mv (.t s1))⟩
    (.one ⟨some s10, some (s8, true), (.bin false .neq (.t s9) (.c (.v (.int .i64 16))))⟩
    (.one ⟨some s11, none, (.pick (.t s8) (.t s10) (.c (.v (.bool false))))⟩
    (.one ⟨some s12, none, (.mv (.t s11))⟩
    (.one ⟨some s13, some (s12, false), (.mv (.t s1))⟩
    (.one ⟨some s14, some (s12, false), (.faddr 0 (.t s2))⟩
    (.one ⟨some s15, some (s12, false), (.load none (.t s14))⟩
    (.one ⟨some s16, some (s12, false), (.callq 71 [(.t s13), (.t s15)])⟩
    (.one ⟨some s17, some (s12, false), (.not (.t s16))⟩
    (.one ⟨some s18, none, (.pick (.t s12) (.c (.v (.bool true))) (.t s17))⟩
    (.one ⟨some s19, none, (.mv (.t s18))⟩
    (.one ⟨some s20, some (s19, false), (.faddr 1 (.t s2))⟩
    (.one ⟨some s21, some (s19, false), (.load none (.t s20))⟩
    (.one ⟨some s22, some (s19, false), (.len false (.t s21))⟩
    (.one ⟨some s23, some (s19, false), (.bin false .gtr (.t s22) (.c (.v (.int .i64 32))))⟩
    (.one ⟨some s24, none, (.pick (.t s19) (.c (.v (.bool true))) (.t s23))⟩
    .done))))))))))))))))))))
  (.cond (.t s24) (.seq (.reg (.one ⟨some s4, none, (.mv (.c (.v (.bool false))))⟩
    .done))
  .ret) .skip))
  (.seq (.seq (.reg (.one ⟨some s5, none, (.mv (.c (.v (.int .i64 0))))⟩
    .done))
  (.block 0 (.loop (.seq (.seq (.reg (.one ⟨some s25, none, (.mv (.t s5))⟩
    (.one ⟨some s26, none, (.faddr 1 (.t s2))⟩
    (.one ⟨some s27, none, (.load none (.t s26))⟩
    (.one ⟨some s28, none, (.len false (.t s27))⟩
    (.one ⟨some s29, none, (.bin false .lss (.t s25) (.t s28))⟩
    .done))))))
  (.cond (.t s29) .skip (.exit 0)))
  (.seq (.block 1 (.seq (.reg (.one ⟨some s32, none, (.faddr 1 (.t s2))⟩
    (.one ⟨some s33, none, (.load none (.t s32))⟩
    (.one ⟨some s34, none, (.mv (.t s5))⟩
    (.one ⟨some s35, none, (.iaddr 4 (.t s33) (.t s34))⟩
    (.one ⟨some s36, none, (.load (some 4) (.t s35))⟩
    (.one ⟨some s37, none, (.mv (.t s1))⟩
    (.one ⟨some s38, none, (.callq 97 [(.t s36), (.t s37)])⟩
    (.one ⟨some s39, none, (.not (.t s38))⟩
    .done)))))))))
  (.cond (.t s39) (.seq (.reg (.one ⟨some s4, none, (.mv (.c (.v (.bool false))))⟩
    .done))
  .ret) .skip)))
  (.reg (.one ⟨some s30, none, (.mv (.t s5))⟩
    (.one ⟨some s31, none, (.bin false .add (.t s30) (.c (.v (.int .i64 1))))⟩
    (.one ⟨some s5, none, (.mv (.t s31))⟩
    .done)))))))))
  (.seq (.reg (.one ⟨some s4, none, (.mv (.c (.v (.bool true))))⟩
    .done))
  .ret))))⟩
theorem ok75 : compF Tryz.prog c75 Tryz.f75 = some ir75 := by kernel_rfl
theorem k_bowlineref11_Right {args : List AVal} {σ : AHeap} {Q : AVal → AHeap → Prop} (hl : Nat.ble args.length 40 = true) (h : argsK (Env.full 9) 0 args fun env => evC Tryz.prog c75 ir75.body env σ (retQ ir75 Q)) : ACalls Tryz.prog 75 args σ Q :=
  acalls_of Tryz.func75 ok75 rfl (Nat.le_of_ble_eq_true hl) h
/- bowlineref11.Write -/
def c76 : Cfg := ⟨qs, [], 90, [], ps⟩
def ir76 : IFun := ⟨2, [.tmp s4],
  (.seq (.reg (.one ⟨some s2, none, (.box 2 (.t s0))⟩
    (.one ⟨some s4, none, (.mv (.c (.slice 1 [] .full)))⟩
    .done)))
  (.seq (.reg (.one ⟨some s9, none, (.row 1 [(.c (.v (.bool false))), (.c (.v (.bool false))), (.c (.v (.bool false))), (.c (.v (.bool false)))])⟩
    (.one ⟨some s5, none, (.mv (.t s9))⟩
    .done)))
  (.seq (.reg (.one ⟨some s11, none, (.mv (.t s5))⟩
    (.one ⟨some s12, none, (.faddr 0 (.t s2))⟩
    (.one ⟨some s13, none, (.load none (.t s12))⟩
    (.one ⟨some s14, none, (.conv .u64 (.t s13))⟩
    (.one ⟨some s15, none, (.mv (.t s1))⟩
    (.one ⟨some s16, none, (.callq 98 [(.t s11), (.t s14), (.t s15)])⟩
    (.one ⟨some s10, none, (.mv (.t s16))⟩
    (.one ⟨some s17, none, (.ext (.t s10) 0)⟩
    (.one ⟨some s18, none, (.ext (.t s10) 1)⟩
    (.one ⟨some s5, none, (.mv (.t s17))⟩
    .done)))))))))))
  (.seq (.reg (.one ⟨some s19, none, (.mv (.t s5))⟩
    (.one ⟨some s20, none, (.faddr 1 (.t s2))⟩
    (.one ⟨some s21, none, (.load none (.t s20))⟩
    (.one ⟨some s22, none, (.len false (.t s21))⟩
    (.one ⟨some s23, none, (.bin false .gtr (.t s22) (.c (.v (.int .i64 0))))⟩
    (.one ⟨some s24, none, (.row 1 [(.t s23)])⟩
    (.one ⟨some s25, none, (.app 1 1 (.t s19) (.t s24))⟩
    (.one ⟨some s5, none, (.mv (.t s25))⟩
    .done)))))))))
  (.seq (.seq (.reg (.one ⟨some s6, none, (.mv (.c (.v (.int .i64 0))))⟩
    .done))
  (.block 0 (.loop (.seq (.seq (.reg (.one ⟨some s26, none, (.mv (.t s6))⟩
    (.one ⟨some s27, none, (.faddr 1 (.t s2))⟩
    (.one ⟨some s28, none, (.load none (.t s27))⟩
    (.one ⟨some s29, none, (.len false (.t s28))⟩
    (.one ⟨some s30, none, (.bin false .lss (.t s26) (.t s29))⟩
    .done))))))
  (.cond (.t s30) .skip (.exit 0)))
  (.seq (.block 1 (.seq (.reg (.one ⟨some s33, none, (.faddr 1 (.t s2))⟩
    (.one ⟨some s34, none, (.load none (.t s33))⟩
    (.one ⟨some s35, none, (.mv (.t s6))⟩
    (.one ⟨some s36, none, (.iaddr 4 (.t s34) (.t s35))⟩
    (.one ⟨some s37, none, (.load (some 4) (.t s36))⟩
    (.one ⟨some s7, none, (.new [(.v (.int .i64 0)), (.v (.bool false)), (.v (.int .i64 0)), (.v (.int .i64 0))])⟩
    (.one ⟨none, none, (.store 4 (.t s7) (.t s37))⟩
    .done))))))))
  (.seq (.reg (.one ⟨some s39, none, (.mv (.t s5))⟩
    (.one ⟨some s40, none, (.faddr 0 (.t s7))⟩
    (.one ⟨some s41, none, (.load none (.t s40))⟩
    (.one ⟨some s42, none, (.conv .u64 (.t s41))⟩
    (.one ⟨some s43, none, (.mv (.t s1))⟩
    (.one ⟨some s44, none, (.callq 98 [(.t s39), (.t s42), (.t s43)])⟩
    (.one ⟨some s38, none, (.mv (.t s44))⟩
    (.one ⟨some s45, none, (.ext (.t s38) 0)⟩
    (.one ⟨some s46, none, (.ext (.t s38) 1)⟩
    (.one ⟨some s5, none, (.mv (.t s45))⟩
    .done)))))))))))
  (.seq (.reg (.one ⟨some s47, none, (.mv (.t s5))⟩
    (.one ⟨some s48, none, (.mv (.t s6))⟩
    (.one ⟨some s49, none, (.bin false .add (.t s48) (.c (.v (.int .i64 1))))⟩
    (.one ⟨some s50, none, (.faddr 1 (.t s2))⟩
    (.one ⟨some s51, none, (.load none (.t s50))⟩
    (.one ⟨some s52, none, (.len false (.t s51))⟩
    (.one ⟨some s53, none, (.bin false .lss (.t s49) (.t s52))⟩
    (.one ⟨some s54, none, (.faddr 1 (.t s7))⟩
    (.one ⟨some s55, none, (.load none (.t s54))⟩
    (.one ⟨some s56, none, (.row 1 [(.t s53), (.t s55)])⟩
    (.one ⟨some s57, none, (.app 1 1 (.t s47) (.t s56))⟩
    (.one ⟨some s5, none, (.mv (.t s57))⟩
    .done)))))))))))))
  (.seq (.reg (.one ⟨some s58, none, (.faddr 1 (.t s7))⟩
    (.one ⟨some s59, none, (.load none (.t s58))⟩
    .done)))
  (.cond (.t s59) (.seq (.reg (.one ⟨some s60, none, (.faddr 3 (.t s7))⟩
    (.one ⟨some s61, none, (.load none (.t s60))⟩
    (.one ⟨some s62, none, (.bin false .sub (.t s61) (.c (.v (.int .i64 1))))⟩
    (.one ⟨some s8, none, (.mv (.t s62))⟩
    .done)))))
  (.seq (.seq (.reg (.one ⟨some s63, none, (.faddr 3 (.t s7))⟩
    (.one ⟨some s64, none, (.load none (.t s63))⟩
    (.one ⟨some s65, none, (.bin false .eql (.t s64) (.c (.v (.int .i64 0))))⟩
    .done))))
  (.cond (.t s65) (.reg (.one ⟨some s66, none, (.mv (.t s1))⟩
    (.one ⟨some s67, none, (.callq 99 [(.t s66)])⟩
    (.one ⟨some s68, none, (.bin false .sub (.t s67) (.c (.v (.int .i64 1))))⟩
    (.one ⟨some s8, none, (.mv (.t s68))⟩
    .done))))) .skip))
  (.seq (.reg (.one ⟨some s70, none, (.mv (.t s5))⟩
    (.one ⟨some s71, none, (.faddr 2 (.t s7))⟩
    (.one ⟨some s72, none, (.load none (.t s71))⟩
    (.one ⟨some s73, none, (.conv .u64 (.t s72))⟩
    (.one ⟨some s74, none, (.mv (.t s1))⟩
    (.one ⟨some s75, none, (.callq 100 [(.t s74)])⟩
    (.one ⟨some s76, none, (.callq 98 [(.t s70), (.t s73), (.t s75)])⟩
    (.one ⟨some s69, none, (.mv (.t s76))⟩
    (.one ⟨some s77, none, (.ext (.t s69) 0)⟩
    (.one ⟨some s78, none, (.ext (.t s69) 1)⟩
    (.one ⟨some s5, none, (.mv (.t s77))⟩
    .done))))))))))))
  (.reg (.one ⟨some s80, none, (.mv (.t s5))⟩
    (.one ⟨some s81, none, (.mv (.t s8))⟩
    (.one ⟨some s82, none, (.conv .u64 (.t s81))⟩
    (.one ⟨some s83, none, (.mv (.t s1))⟩
    (.one ⟨some s84, none, (.callq 100 [(.t s83)])⟩
    (.one ⟨some s85, none, (.callq 98 [(.t s80), (.t s82), (.t s84)])⟩
    (.one ⟨some s79, none, (.mv (.t s85))⟩
    (.one ⟨some s86, none, (.ext (.t s79) 0)⟩
    (.one ⟨some s87, none, (.ext (.t s79) 1)⟩
    (.one ⟨some s5, none, (.mv (.t s86))⟩
    .done)))))))))))))) .skip))))))
  (.reg (.one ⟨some s31, none, (.mv (.t s6))⟩
    (.one ⟨some s32, none, (.bin false .add (.t s31) (.c (.v (.int .i64 1))))⟩
    (.one ⟨some s6, none, (.mv (.t s32))⟩
    .done)))))))))
  (.seq (.reg (.one ⟨some s88, none, (.mv (.t s5))⟩
    (.one ⟨some s89, none, (.callq 101 [(.t s88)])⟩
    (.one ⟨some s4, none, (.mv (.t s89))⟩
    .done))))
  .ret))))))⟩
theorem ok76 : compF Tryz.prog c76 Tryz.f76 = some ir76 := by kernel_rfl
theorem k_bowlineref11_Write {args : List AVal} {σ : AHeap} {Q : AVal → AHeap → Prop} (hl : Nat.ble args.length 90 = true) (h : argsK (Env.full 9) 0 args fun env => evC Tryz.prog c76 ir76.body env σ (retQ ir76 Q)) : ACalls Tryz.prog 76 args σ Q :=
  acalls_of Tryz.func76 ok76 rfl (Nat.le_of_ble_eq_true hl) h
/- bowlineref11.IsMiss -/
def c97 : Cfg := ⟨qs, [], 48, [], ps⟩
def ir97 : IFun := ⟨2, [.tmp s4],
  (.seq (.reg (.one ⟨some s2, none, (.box 4 (.t s0))⟩
    (.one ⟨some s4, none, (.mv (.c (.v (.bool false))))⟩
    .done)))
  (.seq (.seq (.reg (.one ⟨some s5, none, (.mv (.t s1))⟩
    (.one ⟨some s6, none, (.faddr 0 (.t s2))⟩
    (.one ⟨some s7, none, (.load none (.t s6))⟩
    (.one ⟨some s8, none, (.callq 71 [(.t s5), (.t s7)])⟩
    (.one ⟨some s9, none, (.not (.t s8))⟩
    .done))))))
  (.cond (.t s9) (.seq (.reg (.one ⟨some s4, none, (.mv (.c (.v (.bool false))))⟩
    .done))
  .ret) .skip))
  (.seq (.seq (.reg (.one ⟨some s10, none, (.faddr 1 (.t s2))⟩
    (.one ⟨some s11, none, (.load none (.t s10))⟩
    (.one ⟨some s12, none, (.not (.t s11))⟩
    .done))))
  (.cond (.t s12) (.seq (.reg (.one ⟨some s13, none, (.faddr 2 (.t s2))⟩
    (.one ⟨some s14, none, (.load none (.t s13))⟩
    (.one ⟨some s15, none, (.bin false .eql (.t s14) (.c (.v (.int .i64 0))))⟩
    (.one ⟨some s16, none, (.mv (.t s15))⟩
    (.one ⟨some s17, some (s16, true), (.faddr 3 (.t s2))⟩
    (.one ⟨some s18, some (s16, true), (.load none (.t s17))⟩
    (.one ⟨some s19, some (s16, true), (.bin false .eql (.t s18) (.c (.v (.int .i64 0))))⟩
    (.one ⟨some s20, none, (.pick (.t s16) (.t s19) (.c (.v (.bool false))))⟩
    (.one ⟨some s4, none, (.mv (.t s20))⟩
    .done))))))))))
  .ret) .skip))
  (.seq (.seq (.reg (.one ⟨some s21, none, (.faddr 2 (.t s2))⟩
    (.one ⟨some s22, none, (.load none (.t s21))⟩
    (.one ⟨some s23, none, (.bin false .lss (.t s22) (.c (.v (.int .i64 0))))⟩
    (.one ⟨some s24, none, (.mv (.t s23))⟩
    (.one ⟨some s25, some (s24, false), (.faddr 2 (.t s2))⟩
    (.one ⟨some s26, some (s24, false), (.load none (.t s25))⟩
    (.one ⟨some s27, some (s24, false), (.mv (.t s1))⟩
    (.one ⟨some s28, some (s24, false), (.callq 99 [(.t s27)])⟩
    (.one ⟨some s29, some (s24, false), (.bin false .geq (.t s26) (.t s28))⟩
    (.one ⟨some s30, none, (.pick (.t s24) (.c (.v (.bool true))) (.t s29))⟩
    .done)))))))))))
  (.cond (.t s30) (.seq (.reg (.one ⟨some s4, none, (.mv (.c (.v (.bool false))))⟩
    .done))
  .ret) .skip))
  (.seq (.reg (.one ⟨some s31, none, (.faddr 3 (.t s2))⟩
    (.one ⟨some s32, none, (.load none (.t s31))⟩
    (.one ⟨some s33, none, (.bin false .eql (.t s32) (.c (.v (.int .i64 0))))⟩
    (.one ⟨some s34, none, (.mv (.t s33))⟩
    (.one ⟨some s35, some (s34, false), (.faddr 3 (.t s2))⟩
    (.one ⟨some s36, some (s34, false), (.load none (.t s35))⟩
    (.one ⟨some s37, some (s34, false), (.faddr 2 (.t s2))⟩
    (.one ⟨some s38, some (s34, false), (.load none (.t s37))⟩
    (.one ⟨some s39, some (s34, false), (.bin false .gtr (.t s36) (.t s38))⟩
    (.one ⟨some s40, some (s34, false), (.mv (.t s39))⟩
    (.one ⟨some s41, some (s40, true), (.faddr 3 (.t s2))⟩
    (.one ⟨some s42, some (s40, true), (.load none (.t s41))⟩
    (.one ⟨some s43, some (s40, true), (.mv (.t s1))⟩
    (.one ⟨some s44, some (s40, true), (.callq 99 [(.t s43)])⟩
    (.one ⟨some s45, some (s40, true), (.bin false .lss (.t s42) (.t s44))⟩
    (.one ⟨some s46, some (s34, false), (.pick (.t s40) (.t s45) (.c (.v (.bool false))))⟩
    (.one ⟨some s47, none, (.pick (.t s34) (.c (.v (.bool true))) (.t s46))⟩
    (.one ⟨some s4, none, (.mv (.t s47))⟩
    .done)))))))))))))))))))
  .ret)))))⟩
theorem ok97 : compF Tryz.prog c97 Tryz.f97 = some ir97 := by kernel_rfl
theorem k_bowlineref11_IsMiss {args : List AVal} {σ : AHeap} {Q : AVal → AHeap → Prop} (hl : Nat.ble args.length 48 = true) (h : argsK (Env.full 9) 0 args fun env => evC Tryz.prog c97 ir97.body env σ (retQ ir97 Q)) : ACalls Tryz.prog 97 args σ Q :=
  acalls_of Tryz.func97 ok97 rfl (Nat.le_of_ble_eq_true hl) h
/- bowlineref11.places -/
def c99 : Cfg := ⟨qs, [], 8, [], ps⟩
def ir99 : IFun := ⟨1, [.tmp s2],
  (.seq (.reg (.one ⟨some s2, none, (.mv (.c (.v (.int .i64 0))))⟩
    .done))
  (.seq (.reg (.one ⟨some s3, none, (.mv (.t s0))⟩
    (.one ⟨some s4, none, (.callq 100 [(.t s3)])⟩
    (.one ⟨some s5, none, (.bin false .sub (.t s4) (.c (.v (.int .i64 1))))⟩
    (.one ⟨some s6, none, (.callq 91 [(.t s5)])⟩
    (.one ⟨some s7, none, (.bin false .mul (.t s6) (.c (.v (.int .i64 2))))⟩
    (.one ⟨some s2, none, (.mv (.t s7))⟩
    .done)))))))
  .ret))⟩
theorem ok99 : compF Tryz.prog c99 Tryz.f99 = some ir99 := by kernel_rfl
theorem k_bowlineref11_places {args : List AVal} {σ : AHeap} {Q : AVal → AHeap → Prop} (hl : Nat.ble args.length 8 = true) (h : argsK (Env.full 9) 0 args fun env => evC Tryz.prog c99 ir99.body env σ (retQ ir99 Q)) : ACalls Tryz.prog 99 args σ Q :=
  acalls_of Tryz.func99 ok99 rfl (Nat.le_of_ble_eq_true hl) h
/- bowlineref11.offset -/
def c100 : Cfg := ⟨qs, [], 5, [], ps⟩
def ir100 : IFun := ⟨1, [.tmp s2],
  (.seq (.reg (.one ⟨some s2, none, (.mv (.c (.v (.int .i64 0))))⟩
    .done))
  (.seq (.seq (.reg (.one ⟨some s3, none, (.mv (.t s0))⟩
    (.one ⟨some s4, none, (.bin false .eql (.t s3) (.c (.v (.int .i64 10))))⟩
    .done)))
  (.cond (.t s4) (.seq (.reg (.one ⟨some s2, none, (.mv (.c (.v (.int .i64 15))))⟩
    .done))
  .ret) .skip))
  (.seq (.reg (.one ⟨some s2, none, (.mv (.c (.v (.int .i64 16))))⟩
    .done))
  .ret)))⟩
theorem ok100 : compF Tryz.prog c100 Tryz.f100 = some ir100 := by kernel_rfl
theorem k_bowlineref11_offset {args : List AVal} {σ : AHeap} {Q : AVal → AHeap → Prop} (hl : Nat.ble args.length 5 = true) (h : argsK (Env.full 9) 0 args fun env => evC Tryz.prog c100 ir100.body env σ (retQ ir100 Q)) : ACalls Tryz.prog 100 args σ Q :=
  acalls_of Tryz.func100 ok100 rfl (Nat.le_of_ble_eq_true hl) h
end Go.Proofs.YtgbpjbpdpgbngaaGreat
/-
  The bodies of one package, compiled to the framework's language (printed by a program of this session).
-/
namespace Go.Proofs.YtgbpjbpdpgbngaaGreat
open Go Go.Am
/- bowlinelaw11.As -/
def c11 : Cfg := ⟨qs, [], 36, [], ps⟩
def ir11 : IFun := ⟨1, [.cell s2 (some 2)],
  (.seq (.reg (.one ⟨some s1, none, (.box 2 (.t s0))⟩
    (.one ⟨some s2, none, (.new [(.v (.int .i64 0)), (.slice 4 [] .full)])⟩
    .done)))
  (.seq (.reg (.one ⟨some s6, none, (.faddr 0 (.t s1))⟩
    (.one ⟨some s7, none, (.load none (.t s6))⟩
    (.one ⟨some s8, none, (.build [(.v (.int .i64 0)), (.slice 4 [] .full)] [(0, 1, (.t s7))])⟩
    (.one ⟨some s3, none, (.new [(.v (.int .i64 0)), (.slice 4 [] .full)])⟩
    (.one ⟨none, none, (.store 2 (.t s3) (.t s8))⟩
    .done))))))
  (.seq (.seq (.reg (.one ⟨some s4, none, (.mv (.c (.v (.int .i64 0))))⟩
    .done))
  (.block 0 (.loop (.seq (.seq (.reg (.one ⟨some s9, none, (.mv (.t s4))⟩
    (.one ⟨some s10, none, (.faddr 1 (.t s1))⟩
    (.one ⟨some s11, none, (.load none (.t s10))⟩
    (.one ⟨some s12, none, (.len false (.t s11))⟩
    (.one ⟨some s13, none, (.bin false .lss (.t s9) (.t s12))⟩
    .done))))))
  (.cond (.t s13) .skip (.exit 0)))
  (.seq (.block 1 (.seq (.reg (.one ⟨some s16, none, (.faddr 1 (.t s1))⟩
    (.one ⟨some s17, none, (.load none (.t s16))⟩
    (.one ⟨some s18, none, (.mv (.t s4))⟩
    (.one ⟨some s19, none, (.iaddr 4 (.t s17) (.t s18))⟩
    (.one ⟨some s20, none, (.load (some 4) (.t s19))⟩
    (.one ⟨some s5, none, (.new [(.v (.int .i64 0)), (.v (.bool false)), (.v (.int .i64 0)), (.v (.int .i64 0))])⟩
    (.one ⟨none, none, (.store 4 (.t s5) (.t s20))⟩
    .done))))))))
  (.reg (.one ⟨some s21, none, (.faddr 1 (.t s3))⟩
    (.one ⟨some s22, none, (.load none (.t s21))⟩
    (.one ⟨some s23, none, (.faddr 0 (.t s5))⟩
    (.one ⟨some s24, none, (.load none (.t s23))⟩
    (.one ⟨some s25, none, (.faddr 1 (.t s5))⟩
    (.one ⟨some s26, none, (.load none (.t s25))⟩
    (.one ⟨some s27, none, (.faddr 2 (.t s5))⟩
    (.one ⟨some s28, none, (.load none (.t s27))⟩
    (.one ⟨some s29, none, (.faddr 3 (.t s5))⟩
    (.one ⟨some s30, none, (.load none (.t s29))⟩
    (.one ⟨some s31, none, (.build [(.v (.int .i64 0)), (.v (.bool false)), (.v (.int .i64 0)), (.v (.int .i64 0))] [(0, 1, (.t s24)), (1, 1, (.t s26)), (2, 1, (.t s28)), (3, 1, (.t s30))])⟩
    (.one ⟨some s32, none, (.row 4 [(.t s31)])⟩
    (.one ⟨some s33, none, (.app 4 32 (.t s22) (.t s32))⟩
    (.one ⟨some s34, none, (.faddr 1 (.t s3))⟩
    (.one ⟨none, none, (.store 1 (.t s34) (.t s33))⟩
    .done))))))))))))))))))
  (.reg (.one ⟨some s14, none, (.mv (.t s4))⟩
    (.one ⟨some s15, none, (.bin false .add (.t s14) (.c (.v (.int .i64 1))))⟩
    (.one ⟨some s4, none, (.mv (.t s15))⟩
    .done)))))))))
  (.seq (.reg (.one ⟨some s35, none, (.load (some 2) (.t s3))⟩
    (.one ⟨none, none, (.store 2 (.t s2) (.t s35))⟩
    .done)))
  .ret))))⟩
theorem ok11 : compF Tryz.prog c11 Tryz.f11 = some ir11 := by kernel_rfl
theorem k_bowlinelaw11_As {args : List AVal} {σ : AHeap} {Q : AVal → AHeap → Prop} (hl : Nat.ble args.length 36 = true) (h : argsK (Env.full 9) 0 args fun env => evC Tryz.prog c11 ir11.body env σ (retQ ir11 Q)) : ACalls Tryz.prog 11 args σ Q :=
  acalls_of Tryz.func11 ok11 rfl (Nat.le_of_ble_eq_true hl) h
end Go.Proofs.YtgbpjbpdpgbngaaGreat
/-
  The bodies of one package, compiled to the framework's language (printed by a program of this session).
-/
namespace Go.Proofs.YtgbpjbpdpgbngaaGreat
open Go Go.Am
/- rxwin.New -/
def c12 : Cfg := ⟨qs, [], 28, [], ps⟩
def ir12 : IFun := ⟨2, [.tmp s4, .tmp s5],
  (.seq (.reg (.one ⟨some s4, none, (.mv (.c (.v (.pointer none))))⟩
    (.one ⟨some s5, none, (.mv (.c (.v (.int .i64 0))))⟩
    .done)))
  (.seq (.reg (.one ⟨some s7, none, (.mv (.t s0))⟩
    (.one ⟨some s8, none, (.build [(.v (.int .i64 0))] [(0, 1, (.t s7))])⟩
    (.one ⟨some s6, none, (.new [(.v (.int .i64 0))])⟩
    (.one ⟨none, none, (.store 1 (.t s6) (.t s8))⟩
    .done)))))
  (.seq (.seq (.reg (.one ⟨some s9, none, (.load (some 1) (.t s6))⟩
    (.one ⟨some s10, none, (.callq 38 [(.t s9)])⟩
    (.one ⟨some s11, none, (.not (.t s10))⟩
    (.one ⟨some s12, none, (.mv (.t s11))⟩
    (.one ⟨some s13, some (s12, false), (.mv (.t s1))⟩
    (.one ⟨some s14, some (s12, false), (.bin false .lss (.t s13) (.c (.v (.int .i64 1))))⟩
    (.one ⟨some s15, none, (.pick (.t s12) (.c (.v (.bool true))) (.t s14))⟩
    (.one ⟨some s16, none, (.mv (.t s15))⟩
    (.one ⟨some s17, some (s16, false), (.mv (.t s1))⟩
    (.one ⟨some s18, some (s16, false), (.load (some 1) (.t s6))⟩
    (.one ⟨some s19, some (s16, false), (.callq 39 [(.t s18)])⟩
    (.one ⟨some s20, some (s16, false), (.bin false .quo (.t s19) (.c (.v (.int .i64 2))))⟩
    (.one ⟨some s21, some (s16, false), (.bin false .gtr (.t s17) (.t s20))⟩
    (.one ⟨some s22, none, (.pick (.t s16) (.c (.v (.bool true))) (.t s21))⟩
    .done)))))))))))))))
  (.cond (.t s22) (.seq (.reg (.one ⟨some s4, none, (.mv (.c (.v (.pointer none))))⟩
    (.one ⟨some s5, none, (.mv (.c (.v (.int .i64 1))))⟩
    .done)))
  .ret) .skip))
  (.seq (.reg (.one ⟨some s23, none, (.load (some 1) (.t s6))⟩
    (.one ⟨some s24, none, (.mv (.t s1))⟩
    (.one ⟨some s25, none, .mkmap⟩
    (.one ⟨some s26, none, (.build [(.v (.int .i64 0)), (.v (.int .i64 0)), (.v (.int .i64 0)), (.v (.int .i64 0)), (.v (.int .i64 0)), (.v (.map none))] [(0, 1, (.t s23)), (1, 1, (.t s24)), (5, 1, (.t s25))])⟩
    (.one ⟨some s27, none, (.box 6 (.t s26))⟩
    (.one ⟨some s4, none, (.mv (.t s27))⟩
    (.one ⟨some s5, none, (.mv (.c (.v (.int .i64 0))))⟩
    .done))))))))
  .ret))))⟩
theorem ok12 : compF Tryz.prog c12 Tryz.f12 = some ir12 := by kernel_rfl
theorem k_rxwin_New {args : List AVal} {σ : AHeap} {Q : AVal → AHeap → Prop} (hl : Nat.ble args.length 28 = true) (h : argsK (Env.full 9) 0 args fun env => evC Tryz.prog c12 ir12.body env σ (retQ ir12 Q)) : ACalls Tryz.prog 12 args σ Q :=
  acalls_of Tryz.func12 ok12 rfl (Nat.le_of_ble_eq_true hl) h
/- rxwin.Window).In -/
def c15 : Cfg := ⟨qs, [], 23, [], ps⟩
def ir15 : IFun := ⟨2, [.tmp s4],
  (.seq (.reg (.one ⟨some s4, none, (.mv (.c (.v (.bool false))))⟩
    .done))
  (.seq (.reg (.one ⟨some s5, none, (.mv (.t s0))⟩
    (.one ⟨some s6, none, (.callq 40 [(.t s5)])⟩
    (.one ⟨some s7, none, (.mv (.t s6))⟩
    (.one ⟨some s8, some (s7, true), (.mv (.t s0))⟩
    (.one ⟨some s9, some (s7, true), (.mv (.t s1))⟩
    (.one ⟨some s10, some (s7, true), (.callq 41 [(.t s8), (.t s9)])⟩
    (.one ⟨some s11, some (s7, true), (.bin false .geq (.t s10) (.c (.v (.int .i64 0))))⟩
    (.one ⟨some s12, none, (.pick (.t s7) (.t s11) (.c (.v (.bool false))))⟩
    (.one ⟨some s13, none, (.mv (.t s12))⟩
    (.one ⟨some s14, some (s13, true), (.mv (.t s0))⟩
    (.one ⟨some s15, some (s13, true), (.mv (.t s1))⟩
    (.one ⟨some s17, some (s13, true), (.mv (.t s0))⟩
    (.one ⟨some s18, some (s13, true), (.nilchk (.t s17))⟩
    (.one ⟨some s19, some (s13, true), (.faddr 1 (.t s18))⟩
    (.one ⟨some s20, some (s13, true), (.load none (.t s19))⟩
    (.one ⟨some s16, some (s13, true), (.callq 41 [(.t s14), (.t s15)])⟩
    (.one ⟨some s21, some (s13, true), (.bin false .lss (.t s16) (.t s20))⟩
    (.one ⟨some s22, none, (.pick (.t s13) (.t s21) (.c (.v (.bool false))))⟩
    (.one ⟨some s4, none, (.mv (.t s22))⟩
    .done))))))))))))))))))))
  .ret))⟩
theorem ok15 : compF Tryz.prog c15 Tryz.f15 = some ir15 := by kernel_rfl
theorem k_rxwin_Window_In {args : List AVal} {σ : AHeap} {Q : AVal → AHeap → Prop} (hl : Nat.ble args.length 23 = true) (h : argsK (Env.full 9) 0 args fun env => evC Tryz.prog c15 ir15.body env σ (retQ ir15 Q)) : ACalls Tryz.prog 15 args σ Q :=
  acalls_of Tryz.func15 ok15 rfl (Nat.le_of_ble_eq_true hl) h
/- rxwin.Window).Is -/
def c16 : Cfg := ⟨qs, [], 16, [], ps⟩
def ir16 : IFun := ⟨2, [.tmp s4],
  (.seq (.reg (.one ⟨some s4, none, (.mv (.c (.v (.bool false))))⟩
    .done))
  (.seq (.reg (.one ⟨some s5, none, (.mv (.t s0))⟩
    (.one ⟨some s6, none, (.mv (.t s1))⟩
    (.one ⟨some s7, none, (.callp 15 [(.t s5), (.t s6)])⟩
    (.one ⟨some s8, none, (.mv (.t s7))⟩
    (.one ⟨some s9, some (s8, true), (.mv (.t s0))⟩
    (.one ⟨some s10, some (s8, true), (.nilchk (.t s9))⟩
    (.one ⟨some s11, some (s8, true), (.faddr 5 (.t s10))⟩
    (.one ⟨some s12, some (s8, true), (.load none (.t s11))⟩
    (.one ⟨some s13, some (s8, true), (.mv (.t s1))⟩
    (.one ⟨some s14, some (s8, true), (.look (.v (.bool false)) (.t s12) (.t s13))⟩
    (.one ⟨some s15, none, (.pick (.t s8) (.t s14) (.c (.v (.bool false))))⟩
    (.one ⟨some s4, none, (.mv (.t s15))⟩
    .done)))))))))))))
  .ret))⟩
theorem ok16 : compF Tryz.prog c16 Tryz.f16 = some ir16 := by kernel_rfl
theorem k_rxwin_Window_Is {args : List AVal} {σ : AHeap} {Q : AVal → AHeap → Prop} (hl : Nat.ble args.length 16 = true) (h : argsK (Env.full 9) 0 args fun env => evC Tryz.prog c16 ir16.body env σ (retQ ir16 Q)) : ACalls Tryz.prog 16 args σ Q :=
  acalls_of Tryz.func16 ok16 rfl (Nat.le_of_ble_eq_true hl) h
/- rxwin.Window).Came -/
def c20 : Cfg := ⟨qs, [], 30, [], ps⟩
def ir20 : IFun := ⟨2, [.tmp s4],
  (.seq (.reg (.one ⟨some s4, none, (.mv (.c (.v (.int .i64 0))))⟩
    .done))
  (.seq (.reg (.one ⟨some s6, none, (.mv (.t s0))⟩
    (.one ⟨some s7, none, (.mv (.t s1))⟩
    (.one ⟨some s8, none, (.callq 59 [(.t s6), (.t s7)])⟩
    (.one ⟨some s5, none, (.mv (.t s8))⟩
    .done)))))
  (.seq (.seq (.reg (.one ⟨some s9, none, (.mv (.t s5))⟩
    (.one ⟨some s10, none, (.bin false .eql (.t s9) (.c (.v (.int .i64 0))))⟩
    (.one ⟨some s11, none, (.mv (.t s10))⟩
    (.one ⟨some s12, some (s11, true), (.mv (.t s0))⟩
    (.one ⟨some s13, some (s11, true), (.mv (.t s1))⟩
    (.one ⟨some s15, some (s11, true), (.mv (.t s0))⟩
    (.one ⟨some s16, some (s11, true), (.mv (.t s0))⟩
    (.one ⟨some s17, some (s11, true), (.nilchk (.t s16))⟩
    (.one ⟨some s18, some (s11, true), (.faddr 4 (.t s17))⟩
    (.one ⟨some s19, some (s11, true), (.load none (.t s18))⟩
    (.one ⟨some s14, some (s11, true), (.callq 41 [(.t s12), (.t s13)])⟩
    (.one ⟨some s20, some (s11, true), (.callq 41 [(.t s15), (.t s19)])⟩
    (.one ⟨some s21, some (s11, true), (.bin false .geq (.t s14) (.t s20))⟩
    (.one ⟨some s22, none, (.pick (.t s11) (.t s21) (.c (.v (.bool false))))⟩
    .done)))))))))))))))
  (.cond (.t s22) (.reg (.one ⟨some s23, none, (.mv (.t s0))⟩
    (.one ⟨some s24, none, (.mv (.t s0))⟩
    (.one ⟨some s25, none, (.mv (.t s1))⟩
    (.one ⟨some s26, none, (.callq 60 [(.t s24), (.t s25)])⟩
    (.one ⟨some s27, none, (.nilchk (.t s23))⟩
    (.one ⟨some s28, none, (.faddr 4 (.t s27))⟩
    (.one ⟨none, none, (.store 1 (.t s28) (.t s26))⟩
    .done)))))))) .skip))
  (.seq (.reg (.one ⟨some s29, none, (.mv (.t s5))⟩
    (.one ⟨some s4, none, (.mv (.t s29))⟩
    .done)))
  .ret))))⟩
theorem ok20 : compF Tryz.prog c20 Tryz.f20 = some ir20 := by kernel_rfl
theorem k_rxwin_Window_Came {args : List AVal} {σ : AHeap} {Q : AVal → AHeap → Prop} (hl : Nat.ble args.length 30 = true) (h : argsK (Env.full 9) 0 args fun env => evC Tryz.prog c20 ir20.body env σ (retQ ir20 Q)) : ACalls Tryz.prog 20 args σ Q :=
  acalls_of Tryz.func20 ok20 rfl (Nat.le_of_ble_eq_true hl) h
/- rxwin.Window).Whole -/
def c23 : Cfg := ⟨qs, [], 93, [], ps⟩
def ir23 : IFun := ⟨2, [.tmp s4, .tmp s5],
  (.seq (.reg (.one ⟨some s4, none, (.mv (.c (.slice 1 [] .full)))⟩
    (.one ⟨some s5, none, (.mv (.c (.v (.int .i64 0))))⟩
    .done)))
  (.seq (.seq (.reg (.one ⟨some s9, none, (.mv (.t s0))⟩
    (.one ⟨some s10, none, (.mv (.t s1))⟩
    (.one ⟨some s11, none, (.callq 59 [(.t s9), (.t s10)])⟩
    (.one ⟨some s6, none, (.mv (.t s11))⟩
    .done)))))
  (.seq (.reg (.one ⟨some s12, none, (.mv (.t s6))⟩
    (.one ⟨some s13, none, (.bin false .neq (.t s12) (.c (.v (.int .i64 0))))⟩
    .done)))
  (.cond (.t s13) (.seq (.reg (.one ⟨some s14, none, (.mv (.t s6))⟩
    (.one ⟨some s4, none, (.mv (.c (.slice 1 [] .full)))⟩
    (.one ⟨some s5, none, (.mv (.t s14))⟩
    .done))))
  .ret) .skip)))
  (.seq (.seq (.reg (.one ⟨some s15, none, (.mv (.t s0))⟩
    (.one ⟨some s16, none, (.nilchk (.t s15))⟩
    (.one ⟨some s17, none, (.faddr 5 (.t s16))⟩
    (.one ⟨some s18, none, (.load none (.t s17))⟩
    (.one ⟨some s19, none, (.mv (.t s1))⟩
    (.one ⟨some s20, none, (.look (.v (.bool false)) (.t s18) (.t s19))⟩
    .done)))))))
  (.cond (.t s20) (.seq (.reg (.one ⟨some s4, none, (.mv (.c (.slice 1 [] .full)))⟩
    (.one ⟨some s5, none, (.mv (.c (.v (.int .i64 12))))⟩
    .done)))
  .ret) .skip))
  (.seq (.reg (.one ⟨some s21, none, (.mv (.t s0))⟩
    (.one ⟨some s22, none, (.mv (.t s1))⟩
    (.one ⟨some s23, none, (.call 20 [(.t s21), (.t s22)])⟩
    .done))))
  (.seq (.reg (.one ⟨some s24, none, (.mv (.t s0))⟩
    (.one ⟨some s25, none, (.nilchk (.t s24))⟩
    (.one ⟨some s26, none, (.faddr 5 (.t s25))⟩
    (.one ⟨some s27, none, (.load none (.t s26))⟩
    (.one ⟨some s28, none, (.mv (.t s1))⟩
    (.one ⟨none, none, (.mset (.t s27) (.t s28) (.c (.v (.bool true))))⟩
    .done)))))))
  (.seq (.reg (.one ⟨some s29, none, (.mv (.t s0))⟩
    (.one ⟨some s30, none, (.mv (.t s0))⟩
    (.one ⟨some s31, none, (.mv (.t s0))⟩
    (.one ⟨some s32, none, (.nilchk (.t s31))⟩
    (.one ⟨some s33, none, (.faddr 3 (.t s32))⟩
    (.one ⟨some s34, none, (.load none (.t s33))⟩
    (.one ⟨some s35, none, (.callq 65 [(.t s30), (.t s34)])⟩
    (.one ⟨some s36, none, (.nilchk (.t s29))⟩
    (.one ⟨some s37, none, (.faddr 3 (.t s36))⟩
    (.one ⟨none, none, (.store 1 (.t s37) (.t s35))⟩
    .done)))))))))))
  (.seq (.reg (.one ⟨some s38, none, (.mv (.t s0))⟩
    (.one ⟨some s39, none, (.mv (.t s0))⟩
    (.one ⟨some s40, none, (.nilchk (.t s39))⟩
    (.one ⟨some s41, none, (.faddr 2 (.t s40))⟩
    (.one ⟨some s42, none, (.load none (.t s41))⟩
    (.one ⟨some s43, none, (.callq 65 [(.t s38), (.t s42)])⟩
    (.one ⟨some s7, none, (.mv (.t s43))⟩
    .done))))))))
  (.seq (.reg (.one ⟨some s8, none, (.mv (.c (.slice 1 [] .full)))⟩
    .done))
  (.seq (.block 0 (.loop (.seq (.seq (.reg (.one ⟨some s44, none, (.mv (.t s0))⟩
    (.one ⟨some s45, none, (.nilchk (.t s44))⟩
    (.one ⟨some s46, none, (.faddr 2 (.t s45))⟩
    (.one ⟨some s47, none, (.load none (.t s46))⟩
    (.one ⟨some s48, none, (.mv (.t s7))⟩
    (.one ⟨some s49, none, (.bin false .neq (.t s47) (.t s48))⟩
    .done)))))))
  (.cond (.t s49) .skip (.exit 0)))
  (.block 1 (.seq (.reg (.one ⟨some s50, none, (.mv (.t s8))⟩
    (.one ⟨some s51, none, (.mv (.t s0))⟩
    (.one ⟨some s52, none, (.nilchk (.t s51))⟩
    (.one ⟨some s53, none, (.faddr 2 (.t s52))⟩
    (.one ⟨some s54, none, (.load none (.t s53))⟩
    (.one ⟨some s55, none, (.row 1 [(.t s54)])⟩
    (.one ⟨some s56, none, (.app 1 8 (.t s50) (.t s55))⟩
    (.one ⟨some s8, none, (.mv (.t s56))⟩
    .done)))))))))
  (.seq (.reg (.one ⟨some s57, none, (.mv (.t s0))⟩
    (.one ⟨some s58, none, (.nilchk (.t s57))⟩
    (.one ⟨some s59, none, (.faddr 5 (.t s58))⟩
    (.one ⟨some s60, none, (.load none (.t s59))⟩
    (.one ⟨some s61, none, (.mv (.t s0))⟩
    (.one ⟨some s62, none, (.nilchk (.t s61))⟩
    (.one ⟨some s63, none, (.faddr 2 (.t s62))⟩
    (.one ⟨some s64, none, (.load none (.t s63))⟩
    (.one ⟨none, none, (.mdel (.t s60) (.t s64))⟩
    .done))))))))))
  (.seq (.seq (.reg (.one ⟨some s65, none, (.mv (.t s0))⟩
    (.one ⟨some s66, none, (.nilchk (.t s65))⟩
    (.one ⟨some s67, none, (.faddr 3 (.t s66))⟩
    (.one ⟨some s68, none, (.load none (.t s67))⟩
    (.one ⟨some s69, none, (.mv (.t s0))⟩
    (.one ⟨some s70, none, (.nilchk (.t s69))⟩
    (.one ⟨some s71, none, (.faddr 2 (.t s70))⟩
    (.one ⟨some s72, none, (.load none (.t s71))⟩
    (.one ⟨some s73, none, (.bin false .eql (.t s68) (.t s72))⟩
    .done))))))))))
  (.cond (.t s73) (.reg (.one ⟨some s74, none, (.mv (.t s0))⟩
    (.one ⟨some s75, none, (.mv (.t s0))⟩
    (.one ⟨some s76, none, (.mv (.t s0))⟩
    (.one ⟨some s77, none, (.nilchk (.t s76))⟩
    (.one ⟨some s78, none, (.faddr 2 (.t s77))⟩
    (.one ⟨some s79, none, (.load none (.t s78))⟩
    (.one ⟨some s80, none, (.callq 60 [(.t s75), (.t s79)])⟩
    (.one ⟨some s81, none, (.nilchk (.t s74))⟩
    (.one ⟨some s82, none, (.faddr 3 (.t s81))⟩
    (.one ⟨none, none, (.store 1 (.t s82) (.t s80))⟩
    .done))))))))))) .skip))
  (.reg (.one ⟨some s83, none, (.mv (.t s0))⟩
    (.one ⟨some s84, none, (.mv (.t s0))⟩
    (.one ⟨some s85, none, (.mv (.t s0))⟩
    (.one ⟨some s86, none, (.nilchk (.t s85))⟩
    (.one ⟨some s87, none, (.faddr 2 (.t s86))⟩
    (.one ⟨some s88, none, (.load none (.t s87))⟩
    (.one ⟨some s89, none, (.callq 60 [(.t s84), (.t s88)])⟩
    (.one ⟨some s90, none, (.nilchk (.t s83))⟩
    (.one ⟨some s91, none, (.faddr 2 (.t s90))⟩
    (.one ⟨none, none, (.store 1 (.t s91) (.t s89))⟩
    .done))))))))))))))))))
  (.seq (.reg (.one ⟨some s92, none, (.mv (.t s8))⟩
    (.one ⟨some s4, none, (.mv (.t s92))⟩
    (.one ⟨some s5, none, (.mv (.c (.v (.int .i64 0))))⟩
    .done))))
  .ret))))))))))⟩
theorem ok23 : compF Tryz.prog c23 Tryz.f23 = some ir23 := by kernel_rfl
theorem k_rxwin_Window_Whole {args : List AVal} {σ : AHeap} {Q : AVal → AHeap → Prop} (hl : Nat.ble args.length 93 = true) (h : argsK (Env.full 9) 0 args fun env => evC Tryz.prog c23 ir23.body env σ (retQ ir23 Q)) : ACalls Tryz.prog 23 args σ Q :=
  acalls_of Tryz.func23 ok23 rfl (Nat.le_of_ble_eq_true hl) h
/- rxwin.Window).Late -/
def c27 : Cfg := ⟨qs, [], 41, [], ps⟩
def ir27 : IFun := ⟨2, [.tmp s4],
  (.seq (.reg (.one ⟨some s4, none, (.mv (.c (.v (.int .i64 0))))⟩
    .done))
  (.seq (.block 0 (.seq (.reg (.one ⟨some s6, none, (.mv (.t s0))⟩
    (.one ⟨some s7, none, (.callq 40 [(.t s6)])⟩
    (.one ⟨some s8, none, (.not (.t s7))⟩
    (.one ⟨some s5, none, (.mv (.t s8))⟩
    .done)))))
  (.cond (.t s5) (.seq (.reg (.one ⟨some s4, none, (.mv (.c (.v (.int .i64 6))))⟩
    .done))
  .ret) (.seq (.reg (.one ⟨some s10, none, (.mv (.t s0))⟩
    (.one ⟨some s11, none, (.mv (.t s1))⟩
    (.one ⟨some s12, none, (.callq 41 [(.t s10), (.t s11)])⟩
    (.one ⟨some s13, none, (.bin false .lss (.t s12) (.c (.v (.int .i64 0))))⟩
    (.one ⟨some s9, none, (.mv (.t s13))⟩
    .done))))))
  (.cond (.t s9) (.seq (.reg (.one ⟨some s4, none, (.mv (.c (.v (.int .i64 1))))⟩
    .done))
  .ret) (.seq (.reg (.one ⟨some s15, none, (.mv (.t s0))⟩
    (.one ⟨some s16, none, (.mv (.t s1))⟩
    (.one ⟨some s18, none, (.mv (.t s0))⟩
    (.one ⟨some s19, none, (.mv (.t s0))⟩
    (.one ⟨some s20, none, (.nilchk (.t s19))⟩
    (.one ⟨some s21, none, (.faddr 4 (.t s20))⟩
    (.one ⟨some s22, none, (.load none (.t s21))⟩
    (.one ⟨some s17, none, (.callq 41 [(.t s15), (.t s16)])⟩
    (.one ⟨some s23, none, (.callq 41 [(.t s18), (.t s22)])⟩
    (.one ⟨some s24, none, (.bin false .gtr (.t s17) (.t s23))⟩
    (.one ⟨some s14, none, (.mv (.t s24))⟩
    .done))))))))))))
  (.cond (.t s14) (.seq (.reg (.one ⟨some s4, none, (.mv (.c (.v (.int .i64 11))))⟩
    .done))
  .ret) .skip)))))))
  (.seq (.seq (.reg (.one ⟨some s25, none, (.mv (.t s0))⟩
    (.one ⟨some s26, none, (.mv (.t s1))⟩
    (.one ⟨some s28, none, (.mv (.t s0))⟩
    (.one ⟨some s29, none, (.mv (.t s0))⟩
    (.one ⟨some s30, none, (.nilchk (.t s29))⟩
    (.one ⟨some s31, none, (.faddr 3 (.t s30))⟩
    (.one ⟨some s32, none, (.load none (.t s31))⟩
    (.one ⟨some s27, none, (.callq 41 [(.t s25), (.t s26)])⟩
    (.one ⟨some s33, none, (.callq 41 [(.t s28), (.t s32)])⟩
    (.one ⟨some s34, none, (.bin false .geq (.t s27) (.t s33))⟩
    .done)))))))))))
  (.cond (.t s34) (.reg (.one ⟨some s35, none, (.mv (.t s0))⟩
    (.one ⟨some s36, none, (.mv (.t s0))⟩
    (.one ⟨some s37, none, (.mv (.t s1))⟩
    (.one ⟨some s38, none, (.callq 65 [(.t s36), (.t s37)])⟩
    (.one ⟨some s39, none, (.nilchk (.t s35))⟩
    (.one ⟨some s40, none, (.faddr 3 (.t s39))⟩
    (.one ⟨none, none, (.store 1 (.t s40) (.t s38))⟩
    .done)))))))) .skip))
  (.seq (.reg (.one ⟨some s4, none, (.mv (.c (.v (.int .i64 0))))⟩
    .done))
  .ret))))⟩
theorem ok27 : compF Tryz.prog c27 Tryz.f27 = some ir27 := by kernel_rfl
theorem k_rxwin_Window_Late {args : List AVal} {σ : AHeap} {Q : AVal → AHeap → Prop} (hl : Nat.ble args.length 41 = true) (h : argsK (Env.full 9) 0 args fun env => evC Tryz.prog c27 ir27.body env σ (retQ ir27 Q)) : ACalls Tryz.prog 27 args σ Q :=
  acalls_of Tryz.func27 ok27 rfl (Nat.le_of_ble_eq_true hl) h
/- rxwin.Window).State -/
def c30 : Cfg := ⟨qs, [], 20, [], ps⟩
def ir30 : IFun := ⟨1, [.cell s2 (some 3)],
  (.seq (.reg (.one ⟨some s2, none, (.new [(.v (.int .i64 0)), (.v (.int .i64 0)), (.v (.int .i64 0))])⟩
    .done))
  (.seq (.seq (.reg (.one ⟨some s3, none, (.mv (.t s0))⟩
    (.one ⟨some s4, none, (.callq 40 [(.t s3)])⟩
    (.one ⟨some s5, none, (.not (.t s4))⟩
    .done))))
  (.cond (.t s5) (.seq (.reg (.one ⟨some s6, none, (.build [(.v (.int .i64 0)), (.v (.int .i64 0)), (.v (.int .i64 0))] [])⟩
    (.one ⟨none, none, (.store 3 (.t s2) (.t s6))⟩
    .done)))
  .ret) .skip))
  (.seq (.reg (.one ⟨some s7, none, (.mv (.t s0))⟩
    (.one ⟨some s8, none, (.nilchk (.t s7))⟩
    (.one ⟨some s9, none, (.faddr 2 (.t s8))⟩
    (.one ⟨some s10, none, (.load none (.t s9))⟩
    (.one ⟨some s11, none, (.mv (.t s0))⟩
    (.one ⟨some s12, none, (.nilchk (.t s11))⟩
    (.one ⟨some s13, none, (.faddr 3 (.t s12))⟩
    (.one ⟨some s14, none, (.load none (.t s13))⟩
    (.one ⟨some s15, none, (.mv (.t s0))⟩
    (.one ⟨some s16, none, (.nilchk (.t s15))⟩
    (.one ⟨some s17, none, (.faddr 4 (.t s16))⟩
    (.one ⟨some s18, none, (.load none (.t s17))⟩
    (.one ⟨some s19, none, (.build [(.v (.int .i64 0)), (.v (.int .i64 0)), (.v (.int .i64 0))] [(0, 1, (.t s10)), (1, 1, (.t s14)), (2, 1, (.t s18))])⟩
    (.one ⟨none, none, (.store 3 (.t s2) (.t s19))⟩
    .done)))))))))))))))
  .ret)))⟩
theorem ok30 : compF Tryz.prog c30 Tryz.f30 = some ir30 := by kernel_rfl
theorem k_rxwin_Window_State {args : List AVal} {σ : AHeap} {Q : AVal → AHeap → Prop} (hl : Nat.ble args.length 20 = true) (h : argsK (Env.full 9) 0 args fun env => evC Tryz.prog c30 ir30.body env σ (retQ ir30 Q)) : ACalls Tryz.prog 30 args σ Q :=
  acalls_of Tryz.func30 ok30 rfl (Nat.le_of_ble_eq_true hl) h
/- rxwin.Window).Missing -/
def c32 : Cfg := ⟨qs, [], 32, [], ps⟩
def ir32 : IFun := ⟨1, [.tmp s2],
  (.seq (.reg (.one ⟨some s2, none, (.mv (.c (.slice 1 [] .full)))⟩
    .done))
  (.seq (.reg (.one ⟨some s3, none, (.mv (.c (.slice 1 [] .full)))⟩
    .done))
  (.seq (.seq (.reg (.one ⟨some s5, none, (.mv (.t s0))⟩
    (.one ⟨some s6, none, (.callq 40 [(.t s5)])⟩
    .done)))
  (.cond (.t s6) (.seq (.reg (.one ⟨some s7, none, (.mv (.t s0))⟩
    (.one ⟨some s8, none, (.nilchk (.t s7))⟩
    (.one ⟨some s9, none, (.faddr 2 (.t s8))⟩
    (.one ⟨some s10, none, (.load none (.t s9))⟩
    (.one ⟨some s4, none, (.mv (.t s10))⟩
    .done))))))
  (.block 0 (.loop (.seq (.seq (.reg (.one ⟨some s11, none, (.mv (.t s4))⟩
    (.one ⟨some s12, none, (.mv (.t s0))⟩
    (.one ⟨some s13, none, (.nilchk (.t s12))⟩
    (.one ⟨some s14, none, (.faddr 3 (.t s13))⟩
    (.one ⟨some s15, none, (.load none (.t s14))⟩
    (.one ⟨some s16, none, (.bin false .neq (.t s11) (.t s15))⟩
    .done)))))))
  (.cond (.t s16) .skip (.exit 0)))
  (.seq (.block 1 (.seq (.reg (.one ⟨some s20, none, (.mv (.t s0))⟩
    (.one ⟨some s21, none, (.nilchk (.t s20))⟩
    (.one ⟨some s22, none, (.faddr 5 (.t s21))⟩
    (.one ⟨some s23, none, (.load none (.t s22))⟩
    (.one ⟨some s24, none, (.mv (.t s4))⟩
    (.one ⟨some s25, none, (.look (.v (.bool false)) (.t s23) (.t s24))⟩
    (.one ⟨some s26, none, (.not (.t s25))⟩
    .done))))))))
  (.cond (.t s26) (.reg (.one ⟨some s27, none, (.mv (.t s3))⟩
    (.one ⟨some s28, none, (.mv (.t s4))⟩
    (.one ⟨some s29, none, (.row 1 [(.t s28)])⟩
    (.one ⟨some s30, none, (.app 1 8 (.t s27) (.t s29))⟩
    (.one ⟨some s3, none, (.mv (.t s30))⟩
    .done)))))) .skip)))
  (.reg (.one ⟨some s17, none, (.mv (.t s0))⟩
    (.one ⟨some s18, none, (.mv (.t s4))⟩
    (.one ⟨some s19, none, (.callq 60 [(.t s17), (.t s18)])⟩
    (.one ⟨some s4, none, (.mv (.t s19))⟩
    .done)))))))))) .skip))
  (.seq (.reg (.one ⟨some s31, none, (.mv (.t s3))⟩
    (.one ⟨some s2, none, (.mv (.t s31))⟩
    .done)))
  .ret))))⟩
theorem ok32 : compF Tryz.prog c32 Tryz.f32 = some ir32 := by kernel_rfl
theorem k_rxwin_Window_Missing {args : List AVal} {σ : AHeap} {Q : AVal → AHeap → Prop} (hl : Nat.ble args.length 32 = true) (h : argsK (Env.full 9) 0 args fun env => evC Tryz.prog c32 ir32.body env σ (retQ ir32 Q)) : ACalls Tryz.prog 32 args σ Q :=
  acalls_of Tryz.func32 ok32 rfl (Nat.le_of_ble_eq_true hl) h
/- rxwin.Window).made -/
def c40 : Cfg := ⟨qs, [], 12, [], ps⟩
def ir40 : IFun := ⟨1, [.tmp s2],
  (.seq (.reg (.one ⟨some s2, none, (.mv (.c (.v (.bool false))))⟩
    .done))
  (.seq (.reg (.one ⟨some s3, none, (.mv (.t s0))⟩
    (.one ⟨some s4, none, (.eqNil 1 true (.t s3))⟩
    (.one ⟨some s5, none, (.mv (.t s4))⟩
    (.one ⟨some s6, some (s5, true), (.mv (.t s0))⟩
    (.one ⟨some s7, some (s5, true), (.nilchk (.t s6))⟩
    (.one ⟨some s8, some (s5, true), (.faddr 5 (.t s7))⟩
    (.one ⟨some s9, some (s5, true), (.load none (.t s8))⟩
    (.one ⟨some s10, some (s5, true), (.eqNil 2 true (.t s9))⟩
    (.one ⟨some s11, none, (.pick (.t s5) (.t s10) (.c (.v (.bool false))))⟩
    (.one ⟨some s2, none, (.mv (.t s11))⟩
    .done)))))))))))
  .ret))⟩
theorem ok40 : compF Tryz.prog c40 Tryz.f40 = some ir40 := by kernel_rfl
theorem k_rxwin_Window_made {args : List AVal} {σ : AHeap} {Q : AVal → AHeap → Prop} (hl : Nat.ble args.length 12 = true) (h : argsK (Env.full 9) 0 args fun env => evC Tryz.prog c40 ir40.body env σ (retQ ir40 Q)) : ACalls Tryz.prog 40 args σ Q :=
  acalls_of Tryz.func40 ok40 rfl (Nat.le_of_ble_eq_true hl) h
/- rxwin.Window).Far -/
def c41 : Cfg := ⟨qs, [], 26, [], ps⟩
def ir41 : IFun := ⟨2, [.tmp s4],
  (.seq (.reg (.one ⟨some s4, none, (.mv (.c (.v (.int .i64 0))))⟩
    .done))
  (.seq (.seq (.reg (.one ⟨some s7, none, (.mv (.t s0))⟩
    (.one ⟨some s8, none, (.callq 40 [(.t s7)])⟩
    (.one ⟨some s9, none, (.not (.t s8))⟩
    .done))))
  (.cond (.t s9) (.seq (.reg (.one ⟨some s4, none, (.mv (.c (.v (.int .i64 0))))⟩
    .done))
  .ret) .skip))
  (.seq (.reg (.one ⟨some s11, none, (.mv (.t s0))⟩
    (.one ⟨some s12, none, (.nilchk (.t s11))⟩
    (.one ⟨some s13, none, (.faddr 0 (.t s12))⟩
    (.one ⟨some s14, none, (.load (some 1) (.t s13))⟩
    (.one ⟨some s15, none, (.mv (.t s0))⟩
    (.one ⟨some s16, none, (.nilchk (.t s15))⟩
    (.one ⟨some s17, none, (.faddr 2 (.t s16))⟩
    (.one ⟨some s18, none, (.load none (.t s17))⟩
    (.one ⟨some s19, none, (.mv (.t s1))⟩
    (.one ⟨some s20, none, (.callq 80 [(.t s14), (.t s18), (.t s19)])⟩
    (.one ⟨some s10, none, (.mv (.t s20))⟩
    (.one ⟨some s21, none, (.ext (.t s10) 0)⟩
    (.one ⟨some s22, none, (.ext (.t s10) 1)⟩
    (.one ⟨some s5, none, (.mv (.t s21))⟩
    (.one ⟨some s6, none, (.mv (.t s22))⟩
    .done))))))))))))))))
  (.seq (.seq (.reg (.one ⟨some s23, none, (.mv (.t s6))⟩
    (.one ⟨some s24, none, (.bin false .neq (.t s23) (.c (.v (.int .i64 0))))⟩
    .done)))
  (.cond (.t s24) (.seq (.reg (.one ⟨some s4, none, (.mv (.c (.v (.int .i64 (-1)))))⟩
    .done))
  .ret) .skip))
  (.seq (.reg (.one ⟨some s25, none, (.mv (.t s5))⟩
    (.one ⟨some s4, none, (.mv (.t s25))⟩
    .done)))
  .ret)))))⟩
theorem ok41 : compF Tryz.prog c41 Tryz.f41 = some ir41 := by kernel_rfl
theorem k_rxwin_Window_Far {args : List AVal} {σ : AHeap} {Q : AVal → AHeap → Prop} (hl : Nat.ble args.length 26 = true) (h : argsK (Env.full 9) 0 args fun env => evC Tryz.prog c41 ir41.body env σ (retQ ir41 Q)) : ACalls Tryz.prog 41 args σ Q :=
  acalls_of Tryz.func41 ok41 rfl (Nat.le_of_ble_eq_true hl) h
/- rxwin.Window).ask -/
def c59 : Cfg := ⟨qs, [], 19, [], ps⟩
def ir59 : IFun := ⟨2, [.tmp s4],
  (.seq (.reg (.one ⟨some s4, none, (.mv (.c (.v (.int .i64 0))))⟩
    .done))
  (.seq (.block 0 (.seq (.reg (.one ⟨some s6, none, (.mv (.t s0))⟩
    (.one ⟨some s7, none, (.callq 40 [(.t s6)])⟩
    (.one ⟨some s8, none, (.not (.t s7))⟩
    (.one ⟨some s5, none, (.mv (.t s8))⟩
    .done)))))
  (.cond (.t s5) (.seq (.reg (.one ⟨some s4, none, (.mv (.c (.v (.int .i64 6))))⟩
    .done))
  .ret) (.seq (.reg (.one ⟨some s10, none, (.mv (.t s0))⟩
    (.one ⟨some s11, none, (.mv (.t s1))⟩
    (.one ⟨some s12, none, (.callq 41 [(.t s10), (.t s11)])⟩
    (.one ⟨some s13, none, (.bin false .lss (.t s12) (.c (.v (.int .i64 0))))⟩
    (.one ⟨some s9, none, (.mv (.t s13))⟩
    .done))))))
  (.cond (.t s9) (.seq (.reg (.one ⟨some s4, none, (.mv (.c (.v (.int .i64 1))))⟩
    .done))
  .ret) (.seq (.reg (.one ⟨some s15, none, (.mv (.t s0))⟩
    (.one ⟨some s16, none, (.mv (.t s1))⟩
    (.one ⟨some s17, none, (.callp 15 [(.t s15), (.t s16)])⟩
    (.one ⟨some s18, none, (.not (.t s17))⟩
    (.one ⟨some s14, none, (.mv (.t s18))⟩
    .done))))))
  (.cond (.t s14) (.seq (.reg (.one ⟨some s4, none, (.mv (.c (.v (.int .i64 11))))⟩
    .done))
  .ret) .skip)))))))
  (.seq (.reg (.one ⟨some s4, none, (.mv (.c (.v (.int .i64 0))))⟩
    .done))
  .ret)))⟩
theorem ok59 : compF Tryz.prog c59 Tryz.f59 = some ir59 := by kernel_rfl
theorem k_rxwin_Window_ask {args : List AVal} {σ : AHeap} {Q : AVal → AHeap → Prop} (hl : Nat.ble args.length 19 = true) (h : argsK (Env.full 9) 0 args fun env => evC Tryz.prog c59 ir59.body env σ (retQ ir59 Q)) : ACalls Tryz.prog 59 args σ Q :=
  acalls_of Tryz.func59 ok59 rfl (Nat.le_of_ble_eq_true hl) h
/- rxwin.Window).after -/
def c60 : Cfg := ⟨qs, [], 17, [], ps⟩
def ir60 : IFun := ⟨2, [.tmp s4],
  (.seq (.reg (.one ⟨some s4, none, (.mv (.c (.v (.int .i64 0))))⟩
    .done))
  (.seq (.reg (.one ⟨some s8, none, (.mv (.t s0))⟩
    (.one ⟨some s9, none, (.nilchk (.t s8))⟩
    (.one ⟨some s10, none, (.faddr 0 (.t s9))⟩
    (.one ⟨some s11, none, (.load (some 1) (.t s10))⟩
    (.one ⟨some s12, none, (.mv (.t s1))⟩
    (.one ⟨some s13, none, (.callq 88 [(.t s11), (.t s12), (.c (.v (.int .i64 1)))])⟩
    (.one ⟨some s7, none, (.mv (.t s13))⟩
    (.one ⟨some s14, none, (.ext (.t s7) 0)⟩
    (.one ⟨some s15, none, (.ext (.t s7) 1)⟩
    (.one ⟨some s5, none, (.mv (.t s14))⟩
    (.one ⟨some s6, none, (.mv (.t s15))⟩
    .done))))))))))))
  (.seq (.reg (.one ⟨some s16, none, (.mv (.t s5))⟩
    (.one ⟨some s4, none, (.mv (.t s16))⟩
    .done)))
  .ret)))⟩
theorem ok60 : compF Tryz.prog c60 Tryz.f60 = some ir60 := by kernel_rfl
theorem k_rxwin_Window_after {args : List AVal} {σ : AHeap} {Q : AVal → AHeap → Prop} (hl : Nat.ble args.length 17 = true) (h : argsK (Env.full 9) 0 args fun env => evC Tryz.prog c60 ir60.body env σ (retQ ir60 Q)) : ACalls Tryz.prog 60 args σ Q :=
  acalls_of Tryz.func60 ok60 rfl (Nat.le_of_ble_eq_true hl) h
/- rxwin.Window).skip -/
def c65 : Cfg := ⟨qs, [], 15, [], ps⟩
def ir65 : IFun := ⟨2, [.tmp s4],
  (.seq (.reg (.one ⟨some s4, none, (.mv (.c (.v (.int .i64 0))))⟩
    .done))
  (.seq (.block 0 (.loop (.seq (.seq (.reg (.one ⟨some s5, none, (.mv (.t s0))⟩
    (.one ⟨some s6, none, (.nilchk (.t s5))⟩
    (.one ⟨some s7, none, (.faddr 5 (.t s6))⟩
    (.one ⟨some s8, none, (.load none (.t s7))⟩
    (.one ⟨some s9, none, (.mv (.t s1))⟩
    (.one ⟨some s10, none, (.look (.v (.bool false)) (.t s8) (.t s9))⟩
    .done)))))))
  (.cond (.t s10) .skip (.exit 0)))
  (.block 1 (.reg (.one ⟨some s11, none, (.mv (.t s0))⟩
    (.one ⟨some s12, none, (.mv (.t s1))⟩
    (.one ⟨some s13, none, (.callq 60 [(.t s11), (.t s12)])⟩
    (.one ⟨some s1, none, (.mv (.t s13))⟩
    .done)))))))))
  (.seq (.reg (.one ⟨some s14, none, (.mv (.t s1))⟩
    (.one ⟨some s4, none, (.mv (.t s14))⟩
    .done)))
  .ret)))⟩
theorem ok65 : compF Tryz.prog c65 Tryz.f65 = some ir65 := by kernel_rfl
theorem k_rxwin_Window_skip {args : List AVal} {σ : AHeap} {Q : AVal → AHeap → Prop} (hl : Nat.ble args.length 15 = true) (h : argsK (Env.full 9) 0 args fun env => evC Tryz.prog c65 ir65.body env σ (retQ ir65 Q)) : ACalls Tryz.prog 65 args σ Q :=
  acalls_of Tryz.func65 ok65 rfl (Nat.le_of_ble_eq_true hl) h
end Go.Proofs.YtgbpjbpdpgbngaaGreat
/-
  The bodies of one package, compiled to the framework's language (printed by a program of this session).
-/
namespace Go.Proofs.YtgbpjbpdpgbngaaGreat
open Go Go.Am
/- bowlineref23.Window).Came -/
def c21 : Cfg := ⟨qs, [], 39, [], ps⟩
def ir21 : IFun := ⟨2, [.tmp s4],
  (.seq (.reg (.one ⟨some s4, none, (.mv (.c (.v (.int .i64 0))))⟩
    .done))
  (.seq (.reg (.one ⟨some s6, none, (.mv (.t s0))⟩
    (.one ⟨some s7, none, (.mv (.t s1))⟩
    (.one ⟨some s8, none, (.callq 61 [(.t s6), (.t s7)])⟩
    (.one ⟨some s5, none, (.mv (.t s8))⟩
    .done)))))
  (.seq (.seq (.reg (.one ⟨some s9, none, (.mv (.t s5))⟩
    (.one ⟨some s10, none, (.bin false .eql (.t s9) (.c (.v (.int .i64 0))))⟩
    (.one ⟨some s11, none, (.mv (.t s10))⟩
    (.one ⟨some s12, some (s11, true), (.mv (.t s0))⟩
    (.one ⟨some s13, some (s11, true), (.nilchk (.t s12))⟩
    (.one ⟨some s14, some (s11, true), (.faddr 2 (.t s13))⟩
    (.one ⟨some s15, some (s11, true), (.load none (.t s14))⟩
    (.one ⟨some s16, some (s11, true), (.mv (.t s0))⟩
    (.one ⟨some s17, some (s11, true), (.mv (.t s1))⟩
    (.one ⟨some s20, some (s11, true), (.mv (.t s0))⟩
    (.one ⟨some s21, some (s11, true), (.nilchk (.t s20))⟩
    (.one ⟨some s22, some (s11, true), (.faddr 4 (.t s21))⟩
    (.one ⟨some s23, some (s11, true), (.load none (.t s22))⟩
    (.one ⟨some s18, some (s11, true), (.callq 62 [(.t s16), (.t s17)])⟩
    (.one ⟨some s19, some (s11, true), (.bin false .add (.t s15) (.t s18))⟩
    (.one ⟨some s24, some (s11, true), (.bin false .geq (.t s19) (.t s23))⟩
    (.one ⟨some s25, none, (.pick (.t s11) (.t s24) (.c (.v (.bool false))))⟩
    .done))))))))))))))))))
  (.cond (.t s25) (.reg (.one ⟨some s26, none, (.mv (.t s0))⟩
    (.one ⟨some s27, none, (.mv (.t s0))⟩
    (.one ⟨some s28, none, (.nilchk (.t s27))⟩
    (.one ⟨some s29, none, (.faddr 2 (.t s28))⟩
    (.one ⟨some s30, none, (.load none (.t s29))⟩
    (.one ⟨some s31, none, (.mv (.t s0))⟩
    (.one ⟨some s32, none, (.mv (.t s1))⟩
    (.one ⟨some s33, none, (.callq 62 [(.t s31), (.t s32)])⟩
    (.one ⟨some s34, none, (.bin false .add (.t s30) (.t s33))⟩
    (.one ⟨some s35, none, (.bin false .add (.t s34) (.c (.v (.int .i64 1))))⟩
    (.one ⟨some s36, none, (.nilchk (.t s26))⟩
    (.one ⟨some s37, none, (.faddr 4 (.t s36))⟩
    (.one ⟨none, none, (.store 1 (.t s37) (.t s35))⟩
    .done)))))))))))))) .skip))
  (.seq (.reg (.one ⟨some s38, none, (.mv (.t s5))⟩
    (.one ⟨some s4, none, (.mv (.t s38))⟩
    .done)))
  .ret))))⟩
theorem ok21 : compF Tryz.prog c21 Tryz.f21 = some ir21 := by kernel_rfl
theorem k_bowlineref23_Window_Came {args : List AVal} {σ : AHeap} {Q : AVal → AHeap → Prop} (hl : Nat.ble args.length 39 = true) (h : argsK (Env.full 9) 0 args fun env => evC Tryz.prog c21 ir21.body env σ (retQ ir21 Q)) : ACalls Tryz.prog 21 args σ Q :=
  acalls_of Tryz.func21 ok21 rfl (Nat.le_of_ble_eq_true hl) h
/- bowlineref23.Window).Whole -/
def c24m : Cfg := ⟨qs, [59], 109, [], ps⟩
def ir24m : IFun := ⟨2, [.tmp s4, .tmp s5],
  (.seq (.reg (.one ⟨some s4, none, (.mv (.c (.slice 1 [] .full)))⟩
    (.one ⟨some s5, none, (.mv (.c (.v (.int .i64 0))))⟩
    .done)))
  (.seq (.reg (.one ⟨some s9, none, (.mv (.t s0))⟩
    (.one ⟨some s10, none, (.mv (.t s1))⟩
    (.one ⟨some s11, none, (.callq 61 [(.t s9), (.t s10)])⟩
    (.one ⟨some s6, none, (.mv (.t s11))⟩
    .done)))))
  (.seq (.seq (.reg (.one ⟨some s12, none, (.mv (.t s6))⟩
    (.one ⟨some s13, none, (.bin false .neq (.t s12) (.c (.v (.int .i64 0))))⟩
    .done)))
  (.cond (.t s13) (.seq (.reg (.one ⟨some s14, none, (.mv (.t s6))⟩
    (.one ⟨some s4, none, (.mv (.c (.slice 1 [] .full)))⟩
    (.one ⟨some s5, none, (.mv (.t s14))⟩
    .done))))
  .ret) .skip))
  (.seq (.seq (.reg (.one ⟨some s15, none, (.mv (.t s0))⟩
    (.one ⟨some s16, none, (.mv (.t s1))⟩
    (.one ⟨some s17, none, (.callq 66 [(.t s15), (.t s16)])⟩
    .done))))
  (.cond (.t s17) (.seq (.reg (.one ⟨some s4, none, (.mv (.c (.slice 1 [] .full)))⟩
    (.one ⟨some s5, none, (.mv (.c (.v (.int .i64 12))))⟩
    .done)))
  .ret) .skip))
  (.seq (.reg (.one ⟨some s18, none, (.mv (.t s0))⟩
    (.one ⟨some s19, none, (.mv (.t s1))⟩
    (.one ⟨some s20, none, (.call 21 [(.t s18), (.t s19)])⟩
    .done))))
  (.seq (.reg (.one ⟨some s7, none, (.mv (.c (.slice 1 [] .full)))⟩
    .done))
  (.seq (.reg (.one ⟨some s21, none, (.mv (.t s7))⟩
    (.one ⟨some s22, none, (.mv (.t s0))⟩
    (.one ⟨some s23, none, (.nilchk (.t s22))⟩
    (.one ⟨some s24, none, (.faddr 5 (.t s23))⟩
    (.one ⟨some s25, none, (.load none (.t s24))⟩
    (.one ⟨some s26, none, (.appm 1 1 (.t s21) (.t s25))⟩
    (.one ⟨some s7, none, (.mv (.t s26))⟩
    .done))))))))
  (.seq (.block 0 (.loop (.seq (.seq (.reg (.one ⟨some s27, none, (.mv (.t s7))⟩
    (.one ⟨some s28, none, (.len false (.t s27))⟩
    (.one ⟨some s29, none, (.mv (.t s0))⟩
    (.one ⟨some s30, none, (.nilchk (.t s29))⟩
    (.one ⟨some s31, none, (.faddr 2 (.t s30))⟩
    (.one ⟨some s32, none, (.load none (.t s31))⟩
    (.one ⟨some s33, none, (.mv (.t s0))⟩
    (.one ⟨some s34, none, (.mv (.t s1))⟩
    (.one ⟨some s35, none, (.callq 62 [(.t s33), (.t s34)])⟩
    (.one ⟨some s36, none, (.bin false .add (.t s32) (.t s35))⟩
    (.one ⟨some s37, none, (.bin false .leq (.t s28) (.t s36))⟩
    .done))))))))))))
  (.cond (.t s37) .skip (.exit 0)))
  (.block 1 (.reg (.one ⟨some s38, none, (.mv (.t s7))⟩
    (.one ⟨some s39, none, (.row 1 [(.c (.v (.bool false)))])⟩
    (.one ⟨some s40, none, (.appm 1 1 (.t s38) (.t s39))⟩
    (.one ⟨some s7, none, (.mv (.t s40))⟩
    .done)))))))))
  (.seq (.reg (.one ⟨some s41, none, (.mv (.t s7))⟩
    (.one ⟨some s42, none, (.mv (.t s0))⟩
    (.one ⟨some s43, none, (.nilchk (.t s42))⟩
    (.one ⟨some s44, none, (.faddr 2 (.t s43))⟩
    (.one ⟨some s45, none, (.load none (.t s44))⟩
    (.one ⟨some s46, none, (.mv (.t s0))⟩
    (.one ⟨some s47, none, (.mv (.t s1))⟩
    (.one ⟨some s48, none, (.callq 62 [(.t s46), (.t s47)])⟩
    (.one ⟨some s49, none, (.bin false .add (.t s45) (.t s48))⟩
    (.one ⟨some s50, none, (.iaddr 1 (.t s41) (.t s49))⟩
    (.one ⟨none, none, (.store 1 (.t s50) (.c (.v (.bool true))))⟩
    .done))))))))))))
  (.seq (.reg (.one ⟨some s51, none, (.mv (.t s0))⟩
    (.one ⟨some s52, none, (.mv (.t s7))⟩
    (.one ⟨some s53, none, (.nilchk (.t s51))⟩
    (.one ⟨some s54, none, (.faddr 5 (.t s53))⟩
    (.one ⟨none, none, (.store 1 (.t s54) (.t s52))⟩
    .done))))))
  (.seq (.block 2 (.loop (.seq (.seq (.reg (.one ⟨some s55, none, (.mv (.t s0))⟩
    (.one ⟨some s56, none, (.mv (.t s0))⟩
    (.one ⟨some s57, none, (.nilchk (.t s56))⟩
    (.one ⟨some s58, none, (.faddr 3 (.t s57))⟩
    (.one ⟨some s59, none, (.load none (.t s58))⟩
    (.one ⟨some s60, none, (.callq 67 [(.t s55), (.t s59)])⟩
    .done)))))))
  (.cond (.t s60) .skip (.exit 2)))
  (.block 3 (.reg (.one ⟨some s61, none, (.mv (.t s0))⟩
    (.one ⟨some s62, none, (.mv (.t s0))⟩
    (.one ⟨some s63, none, (.nilchk (.t s62))⟩
    (.one ⟨some s64, none, (.faddr 3 (.t s63))⟩
    (.one ⟨some s65, none, (.load none (.t s64))⟩
    (.one ⟨some s66, none, (.bin false .add (.t s65) (.c (.v (.int .i64 1))))⟩
    (.one ⟨some s67, none, (.nilchk (.t s61))⟩
    (.one ⟨some s68, none, (.faddr 3 (.t s67))⟩
    (.one ⟨none, none, (.store 1 (.t s68) (.t s66))⟩
    .done))))))))))))))
  (.seq (.reg (.one ⟨some s8, none, (.mv (.c (.slice 1 [] .full)))⟩
    .done))
  (.seq (.block 4 (.loop (.seq (.seq (.reg (.one ⟨some s69, none, (.mv (.t s0))⟩
    (.one ⟨some s70, none, (.mv (.t s0))⟩
    (.one ⟨some s71, none, (.nilchk (.t s70))⟩
    (.one ⟨some s72, none, (.faddr 2 (.t s71))⟩
    (.one ⟨some s73, none, (.load none (.t s72))⟩
    (.one ⟨some s74, none, (.callq 67 [(.t s69), (.t s73)])⟩
    .done)))))))
  (.cond (.t s74) .skip (.exit 4)))
  (.block 5 (.seq (.reg (.one ⟨some s75, none, (.mv (.t s8))⟩
    (.one ⟨some s76, none, (.mv (.t s0))⟩
    (.one ⟨some s77, none, (.mv (.t s0))⟩
    (.one ⟨some s78, none, (.nilchk (.t s77))⟩
    (.one ⟨some s79, none, (.faddr 2 (.t s78))⟩
    (.one ⟨some s80, none, (.load none (.t s79))⟩
    (.one ⟨some s81, none, (.callq 68 [(.t s76), (.t s80)])⟩
    (.one ⟨some s82, none, (.row 1 [(.t s81)])⟩
    (.one ⟨some s83, none, (.app 1 8 (.t s75) (.t s82))⟩
    (.one ⟨some s8, none, (.mv (.t s83))⟩
    .done)))))))))))
  (.reg (.one ⟨some s84, none, (.mv (.t s0))⟩
    (.one ⟨some s85, none, (.mv (.t s0))⟩
    (.one ⟨some s86, none, (.nilchk (.t s85))⟩
    (.one ⟨some s87, none, (.faddr 2 (.t s86))⟩
    (.one ⟨some s88, none, (.load none (.t s87))⟩
    (.one ⟨some s89, none, (.bin false .add (.t s88) (.c (.v (.int .i64 1))))⟩
    (.one ⟨some s90, none, (.nilchk (.t s84))⟩
    (.one ⟨some s91, none, (.faddr 2 (.t s90))⟩
    (.one ⟨none, none, (.store 1 (.t s91) (.t s89))⟩
    .done)))))))))))))))
  (.seq (.seq (.reg (.one ⟨some s92, none, (.mv (.t s0))⟩
    (.one ⟨some s93, none, (.nilchk (.t s92))⟩
    (.one ⟨some s94, none, (.faddr 3 (.t s93))⟩
    (.one ⟨some s95, none, (.load none (.t s94))⟩
    (.one ⟨some s96, none, (.mv (.t s0))⟩
    (.one ⟨some s97, none, (.nilchk (.t s96))⟩
    (.one ⟨some s98, none, (.faddr 2 (.t s97))⟩
    (.one ⟨some s99, none, (.load none (.t s98))⟩
    (.one ⟨some s100, none, (.bin false .lss (.t s95) (.t s99))⟩
    .done))))))))))
  (.cond (.t s100) (.reg (.one ⟨some s101, none, (.mv (.t s0))⟩
    (.one ⟨some s102, none, (.mv (.t s0))⟩
    (.one ⟨some s103, none, (.nilchk (.t s102))⟩
    (.one ⟨some s104, none, (.faddr 2 (.t s103))⟩
    (.one ⟨some s105, none, (.load none (.t s104))⟩
    (.one ⟨some s106, none, (.nilchk (.t s101))⟩
    (.one ⟨some s107, none, (.faddr 3 (.t s106))⟩
    (.one ⟨none, none, (.store 1 (.t s107) (.t s105))⟩
    .done))))))))) .skip))
  (.seq (.reg (.one ⟨some s108, none, (.mv (.t s8))⟩
    (.one ⟨some s4, none, (.mv (.t s108))⟩
    (.one ⟨some s5, none, (.mv (.c (.v (.int .i64 0))))⟩
    .done))))
  .ret)))))))))))))))⟩
theorem ok24m : compF Tryz.prog c24m Tryz.f24 = some ir24m := by kernel_rfl
theorem km_bowlineref23_Window_Whole {args : List AVal} {σ : AHeap} {Q : AVal → AHeap → Prop} (hl : Nat.ble args.length 109 = true) (h : argsK (Env.full 9) 0 args fun env => evC Tryz.prog c24m ir24m.body env σ (retQ ir24m Q)) : ACalls Tryz.prog 24 args σ Q :=
  acalls_of Tryz.func24 ok24m rfl (Nat.le_of_ble_eq_true hl) h
/- bowlineref23.Window).Late -/
def c28 : Cfg := ⟨qs, [], 63, [], ps⟩
def ir28 : IFun := ⟨2, [.tmp s4],
  (.seq (.reg (.one ⟨some s4, none, (.mv (.c (.v (.int .i64 0))))⟩
    .done))
  (.seq (.seq (.reg (.one ⟨some s5, none, (.mv (.t s0))⟩
    (.one ⟨some s6, none, (.nilchk (.t s5))⟩
    (.one ⟨some s7, none, (.faddr 0 (.t s6))⟩
    (.one ⟨some s8, none, (.load none (.t s7))⟩
    (.one ⟨some s9, none, (.mv (.t s1))⟩
    (.one ⟨some s10, none, (.callq 71 [(.t s8), (.t s9)])⟩
    (.one ⟨some s11, none, (.not (.t s10))⟩
    .done))))))))
  (.cond (.t s11) (.seq (.reg (.one ⟨some s4, none, (.mv (.c (.v (.int .i64 1))))⟩
    .done))
  .ret) .skip))
  (.seq (.seq (.reg (.one ⟨some s12, none, (.mv (.t s0))⟩
    (.one ⟨some s13, none, (.nilchk (.t s12))⟩
    (.one ⟨some s14, none, (.faddr 2 (.t s13))⟩
    (.one ⟨some s15, none, (.load none (.t s14))⟩
    (.one ⟨some s16, none, (.mv (.t s0))⟩
    (.one ⟨some s17, none, (.mv (.t s1))⟩
    (.one ⟨some s20, none, (.mv (.t s0))⟩
    (.one ⟨some s21, none, (.nilchk (.t s20))⟩
    (.one ⟨some s22, none, (.faddr 4 (.t s21))⟩
    (.one ⟨some s23, none, (.load none (.t s22))⟩
    (.one ⟨some s18, none, (.callq 62 [(.t s16), (.t s17)])⟩
    (.one ⟨some s19, none, (.bin false .add (.t s15) (.t s18))⟩
    (.one ⟨some s24, none, (.bin false .gtr (.t s19) (.t s23))⟩
    .done))))))))))))))
  (.cond (.t s24) (.seq (.reg (.one ⟨some s4, none, (.mv (.c (.v (.int .i64 11))))⟩
    .done))
  .ret) .skip))
  (.seq (.seq (.reg (.one ⟨some s25, none, (.mv (.t s0))⟩
    (.one ⟨some s26, none, (.nilchk (.t s25))⟩
    (.one ⟨some s27, none, (.faddr 2 (.t s26))⟩
    (.one ⟨some s28, none, (.load none (.t s27))⟩
    (.one ⟨some s29, none, (.mv (.t s0))⟩
    (.one ⟨some s30, none, (.mv (.t s1))⟩
    (.one ⟨some s33, none, (.mv (.t s0))⟩
    (.one ⟨some s34, none, (.nilchk (.t s33))⟩
    (.one ⟨some s35, none, (.faddr 3 (.t s34))⟩
    (.one ⟨some s36, none, (.load none (.t s35))⟩
    (.one ⟨some s31, none, (.callq 62 [(.t s29), (.t s30)])⟩
    (.one ⟨some s32, none, (.bin false .add (.t s28) (.t s31))⟩
    (.one ⟨some s37, none, (.bin false .geq (.t s32) (.t s36))⟩
    .done))))))))))))))
  (.cond (.t s37) (.seq (.reg (.one ⟨some s38, none, (.mv (.t s0))⟩
    (.one ⟨some s39, none, (.mv (.t s0))⟩
    (.one ⟨some s40, none, (.nilchk (.t s39))⟩
    (.one ⟨some s41, none, (.faddr 2 (.t s40))⟩
    (.one ⟨some s42, none, (.load none (.t s41))⟩
    (.one ⟨some s43, none, (.mv (.t s0))⟩
    (.one ⟨some s44, none, (.mv (.t s1))⟩
    (.one ⟨some s45, none, (.callq 62 [(.t s43), (.t s44)])⟩
    (.one ⟨some s46, none, (.bin false .add (.t s42) (.t s45))⟩
    (.one ⟨some s47, none, (.nilchk (.t s38))⟩
    (.one ⟨some s48, none, (.faddr 3 (.t s47))⟩
    (.one ⟨none, none, (.store 1 (.t s48) (.t s46))⟩
    .done)))))))))))))
  (.block 0 (.loop (.seq (.seq (.reg (.one ⟨some s49, none, (.mv (.t s0))⟩
    (.one ⟨some s50, none, (.mv (.t s0))⟩
    (.one ⟨some s51, none, (.nilchk (.t s50))⟩
    (.one ⟨some s52, none, (.faddr 3 (.t s51))⟩
    (.one ⟨some s53, none, (.load none (.t s52))⟩
    (.one ⟨some s54, none, (.callq 67 [(.t s49), (.t s53)])⟩
    .done)))))))
  (.cond (.t s54) .skip (.exit 0)))
  (.block 1 (.reg (.one ⟨some s55, none, (.mv (.t s0))⟩
    (.one ⟨some s56, none, (.mv (.t s0))⟩
    (.one ⟨some s57, none, (.nilchk (.t s56))⟩
    (.one ⟨some s58, none, (.faddr 3 (.t s57))⟩
    (.one ⟨some s59, none, (.load none (.t s58))⟩
    (.one ⟨some s60, none, (.bin false .add (.t s59) (.c (.v (.int .i64 1))))⟩
    (.one ⟨some s61, none, (.nilchk (.t s55))⟩
    (.one ⟨some s62, none, (.faddr 3 (.t s61))⟩
    (.one ⟨none, none, (.store 1 (.t s62) (.t s60))⟩
    .done))))))))))))))) .skip))
  (.seq (.reg (.one ⟨some s4, none, (.mv (.c (.v (.int .i64 0))))⟩
    .done))
  .ret)))))⟩
theorem ok28 : compF Tryz.prog c28 Tryz.f28 = some ir28 := by kernel_rfl
theorem k_bowlineref23_Window_Late {args : List AVal} {σ : AHeap} {Q : AVal → AHeap → Prop} (hl : Nat.ble args.length 63 = true) (h : argsK (Env.full 9) 0 args fun env => evC Tryz.prog c28 ir28.body env σ (retQ ir28 Q)) : ACalls Tryz.prog 28 args σ Q :=
  acalls_of Tryz.func28 ok28 rfl (Nat.le_of_ble_eq_true hl) h
/- bowlineref23.Window).State -/
def c34 : Cfg := ⟨qs, [], 22, [], ps⟩
def ir34 : IFun := ⟨1, [.cell s2 (some 3)],
  (.seq (.reg (.one ⟨some s2, none, (.new [(.v (.int .i64 0)), (.v (.int .i64 0)), (.v (.int .i64 0))])⟩
    .done))
  (.seq (.reg (.one ⟨some s3, none, (.mv (.t s0))⟩
    (.one ⟨some s4, none, (.mv (.t s0))⟩
    (.one ⟨some s5, none, (.nilchk (.t s4))⟩
    (.one ⟨some s6, none, (.faddr 2 (.t s5))⟩
    (.one ⟨some s7, none, (.load none (.t s6))⟩
    (.one ⟨some s9, none, (.mv (.t s0))⟩
    (.one ⟨some s10, none, (.mv (.t s0))⟩
    (.one ⟨some s11, none, (.nilchk (.t s10))⟩
    (.one ⟨some s12, none, (.faddr 3 (.t s11))⟩
    (.one ⟨some s13, none, (.load none (.t s12))⟩
    (.one ⟨some s15, none, (.mv (.t s0))⟩
    (.one ⟨some s16, none, (.mv (.t s0))⟩
    (.one ⟨some s17, none, (.nilchk (.t s16))⟩
    (.one ⟨some s18, none, (.faddr 4 (.t s17))⟩
    (.one ⟨some s19, none, (.load none (.t s18))⟩
    (.one ⟨some s8, none, (.callq 68 [(.t s3), (.t s7)])⟩
    (.one ⟨some s14, none, (.callq 68 [(.t s9), (.t s13)])⟩
    (.one ⟨some s20, none, (.callq 68 [(.t s15), (.t s19)])⟩
    (.one ⟨some s21, none, (.build [(.v (.int .i64 0)), (.v (.int .i64 0)), (.v (.int .i64 0))] [(0, 1, (.t s8)), (1, 1, (.t s14)), (2, 1, (.t s20))])⟩
    (.one ⟨none, none, (.store 3 (.t s2) (.t s21))⟩
    .done)))))))))))))))))))))
  .ret))⟩
theorem ok34 : compF Tryz.prog c34 Tryz.f34 = some ir34 := by kernel_rfl
theorem k_bowlineref23_Window_State {args : List AVal} {σ : AHeap} {Q : AVal → AHeap → Prop} (hl : Nat.ble args.length 22 = true) (h : argsK (Env.full 9) 0 args fun env => evC Tryz.prog c34 ir34.body env σ (retQ ir34 Q)) : ACalls Tryz.prog 34 args σ Q :=
  acalls_of Tryz.func34 ok34 rfl (Nat.le_of_ble_eq_true hl) h
/- bowlineref23.Window).Missing -/
def c35 : Cfg := ⟨qs, [], 28, [], ps⟩
def ir35 : IFun := ⟨1, [.tmp s2],
  (.seq (.reg (.one ⟨some s2, none, (.mv (.c (.slice 1 [] .full)))⟩
    .done))
  (.seq (.reg (.one ⟨some s3, none, (.mv (.c (.slice 1 [] .full)))⟩
    .done))
  (.seq (.seq (.reg (.one ⟨some s5, none, (.mv (.t s0))⟩
    (.one ⟨some s6, none, (.nilchk (.t s5))⟩
    (.one ⟨some s7, none, (.faddr 2 (.t s6))⟩
    (.one ⟨some s8, none, (.load none (.t s7))⟩
    (.one ⟨some s4, none, (.mv (.t s8))⟩
    .done))))))
  (.block 0 (.loop (.seq (.seq (.reg (.one ⟨some s9, none, (.mv (.t s4))⟩
    (.one ⟨some s10, none, (.mv (.t s0))⟩
    (.one ⟨some s11, none, (.nilchk (.t s10))⟩
    (.one ⟨some s12, none, (.faddr 3 (.t s11))⟩
    (.one ⟨some s13, none, (.load none (.t s12))⟩
    (.one ⟨some s14, none, (.bin false .lss (.t s9) (.t s13))⟩
    .done)))))))
  (.cond (.t s14) .skip (.exit 0)))
  (.seq (.block 1 (.seq (.reg (.one ⟨some s17, none, (.mv (.t s0))⟩
    (.one ⟨some s18, none, (.mv (.t s4))⟩
    (.one ⟨some s19, none, (.callq 67 [(.t s17), (.t s18)])⟩
    (.one ⟨some s20, none, (.not (.t s19))⟩
    .done)))))
  (.cond (.t s20) (.reg (.one ⟨some s21, none, (.mv (.t s3))⟩
    (.one ⟨some s22, none, (.mv (.t s0))⟩
    (.one ⟨some s23, none, (.mv (.t s4))⟩
    (.one ⟨some s24, none, (.callq 68 [(.t s22), (.t s23)])⟩
    (.one ⟨some s25, none, (.row 1 [(.t s24)])⟩
    (.one ⟨some s26, none, (.app 1 8 (.t s21) (.t s25))⟩
    (.one ⟨some s3, none, (.mv (.t s26))⟩
    .done)))))))) .skip)))
  (.reg (.one ⟨some s15, none, (.mv (.t s4))⟩
    (.one ⟨some s16, none, (.bin false .add (.t s15) (.c (.v (.int .i64 1))))⟩
    (.one ⟨some s4, none, (.mv (.t s16))⟩
    .done)))))))))
  (.seq (.reg (.one ⟨some s27, none, (.mv (.t s3))⟩
    (.one ⟨some s2, none, (.mv (.t s27))⟩
    .done)))
  .ret))))⟩
theorem ok35 : compF Tryz.prog c35 Tryz.f35 = some ir35 := by kernel_rfl
theorem k_bowlineref23_Window_Missing {args : List AVal} {σ : AHeap} {Q : AVal → AHeap → Prop} (hl : Nat.ble args.length 28 = true) (h : argsK (Env.full 9) 0 args fun env => evC Tryz.prog c35 ir35.body env σ (retQ ir35 Q)) : ACalls Tryz.prog 35 args σ Q :=
  acalls_of Tryz.func35 ok35 rfl (Nat.le_of_ble_eq_true hl) h
/- bowlineref23.Window).ask -/
def c61 : Cfg := ⟨qs, [], 16, [], ps⟩
def ir61 : IFun := ⟨2, [.tmp s4],
  (.seq (.reg (.one ⟨some s4, none, (.mv (.c (.v (.int .i64 0))))⟩
    .done))
  (.seq (.seq (.reg (.one ⟨some s5, none, (.mv (.t s0))⟩
    (.one ⟨some s6, none, (.nilchk (.t s5))⟩
    (.one ⟨some s7, none, (.faddr 0 (.t s6))⟩
    (.one ⟨some s8, none, (.load none (.t s7))⟩
    (.one ⟨some s9, none, (.mv (.t s1))⟩
    (.one ⟨some s10, none, (.callq 71 [(.t s8), (.t s9)])⟩
    (.one ⟨some s11, none, (.not (.t s10))⟩
    .done))))))))
  (.cond (.t s11) (.seq (.reg (.one ⟨some s4, none, (.mv (.c (.v (.int .i64 1))))⟩
    .done))
  .ret) .skip))
  (.seq (.seq (.reg (.one ⟨some s12, none, (.mv (.t s0))⟩
    (.one ⟨some s13, none, (.mv (.t s1))⟩
    (.one ⟨some s14, none, (.callq 89 [(.t s12), (.t s13)])⟩
    (.one ⟨some s15, none, (.not (.t s14))⟩
    .done)))))
  (.cond (.t s15) (.seq (.reg (.one ⟨some s4, none, (.mv (.c (.v (.int .i64 11))))⟩
    .done))
  .ret) .skip))
  (.seq (.reg (.one ⟨some s4, none, (.mv (.c (.v (.int .i64 0))))⟩
    .done))
  .ret))))⟩
theorem ok61 : compF Tryz.prog c61 Tryz.f61 = some ir61 := by kernel_rfl
theorem k_bowlineref23_Window_ask {args : List AVal} {σ : AHeap} {Q : AVal → AHeap → Prop} (hl : Nat.ble args.length 16 = true) (h : argsK (Env.full 9) 0 args fun env => evC Tryz.prog c61 ir61.body env σ (retQ ir61 Q)) : ACalls Tryz.prog 61 args σ Q :=
  acalls_of Tryz.func61 ok61 rfl (Nat.le_of_ble_eq_true hl) h
/- bowlineref23.Window).Far -/
def c62 : Cfg := ⟨qs, [], 25, [], ps⟩
def ir62 : IFun := ⟨2, [.tmp s4],
  (.seq (.reg (.one ⟨some s4, none, (.mv (.c (.v (.int .i64 0))))⟩
    .done))
  (.seq (.reg (.one ⟨some s8, none, (.mv (.t s0))⟩
    (.one ⟨some s9, none, (.nilchk (.t s8))⟩
    (.one ⟨some s10, none, (.faddr 0 (.t s9))⟩
    (.one ⟨some s11, none, (.load none (.t s10))⟩
    (.one ⟨some s12, none, (.mv (.t s0))⟩
    (.one ⟨some s13, none, (.mv (.t s0))⟩
    (.one ⟨some s14, none, (.nilchk (.t s13))⟩
    (.one ⟨some s15, none, (.faddr 2 (.t s14))⟩
    (.one ⟨some s16, none, (.load none (.t s15))⟩
    (.one ⟨some s18, none, (.mv (.t s1))⟩
    (.one ⟨some s17, none, (.callq 68 [(.t s12), (.t s16)])⟩
    (.one ⟨some s19, none, (.callq 90 [(.t s11), (.t s17), (.t s18)])⟩
    (.one ⟨some s7, none, (.mv (.t s19))⟩
    (.one ⟨some s20, none, (.ext (.t s7) 0)⟩
    (.one ⟨some s21, none, (.ext (.t s7) 1)⟩
    (.one ⟨some s5, none, (.mv (.t s20))⟩
    (.one ⟨some s6, none, (.mv (.t s21))⟩
    .done))))))))))))))))))
  (.seq (.seq (.reg (.one ⟨some s22, none, (.mv (.t s6))⟩
    (.one ⟨some s23, none, (.bin false .neq (.t s22) (.c (.v (.int .i64 0))))⟩
    .done)))
  (.cond (.t s23) (.seq (.reg (.one ⟨some s4, none, (.mv (.c (.v (.int .i64 (-1)))))⟩
    .done))
  .ret) .skip))
  (.seq (.reg (.one ⟨some s24, none, (.mv (.t s5))⟩
    (.one ⟨some s4, none, (.mv (.t s24))⟩
    .done)))
  .ret))))⟩
theorem ok62 : compF Tryz.prog c62 Tryz.f62 = some ir62 := by kernel_rfl
theorem k_bowlineref23_Window_Far {args : List AVal} {σ : AHeap} {Q : AVal → AHeap → Prop} (hl : Nat.ble args.length 25 = true) (h : argsK (Env.full 9) 0 args fun env => evC Tryz.prog c62 ir62.body env σ (retQ ir62 Q)) : ACalls Tryz.prog 62 args σ Q :=
  acalls_of Tryz.func62 ok62 rfl (Nat.le_of_ble_eq_true hl) h
/- bowlineref23.Window).Is -/
def c66 : Cfg := ⟨qs, [], 20, [], ps⟩
def ir66 : IFun := ⟨2, [.tmp s4],
  (.seq (.reg (.one ⟨some s4, none, (.mv (.c (.v (.bool false))))⟩
    .done))
  (.seq (.reg (.one ⟨some s5, none, (.mv (.t s0))⟩
    (.one ⟨some s6, none, (.mv (.t s1))⟩
    (.one ⟨some s7, none, (.callq 89 [(.t s5), (.t s6)])⟩
    (.one ⟨some s8, none, (.mv (.t s7))⟩
    (.one ⟨some s9, some (s8, true), (.mv (.t s0))⟩
    (.one ⟨some s10, some (s8, true), (.mv (.t s0))⟩
    (.one ⟨some s11, some (s8, true), (.nilchk (.t s10))⟩
    (.one ⟨some s12, some (s8, true), (.faddr 2 (.t s11))⟩
    (.one ⟨some s13, some (s8, true), (.load none (.t s12))⟩
    (.one ⟨some s14, some (s8, true), (.mv (.t s0))⟩
    (.one ⟨some s15, some (s8, true), (.mv (.t s1))⟩
    (.one ⟨some s16, some (s8, true), (.callq 62 [(.t s14), (.t s15)])⟩
    (.one ⟨some s17, some (s8, true), (.bin false .add (.t s13) (.t s16))⟩
    (.one ⟨some s18, some (s8, true), (.callq 67 [(.t s9), (.t s17)])⟩
    (.one ⟨some s19, none, (.pick (.t s8) (.t s18) (.c (.v (.bool false))))⟩
    (.one ⟨some s4, none, (.mv (.t s19))⟩
    .done)))))))))))))))))
  .ret))⟩
theorem ok66 : compF Tryz.prog c66 Tryz.f66 = some ir66 := by kernel_rfl
theorem k_bowlineref23_Window_Is {args : List AVal} {σ : AHeap} {Q : AVal → AHeap → Prop} (hl : Nat.ble args.length 20 = true) (h : argsK (Env.full 9) 0 args fun env => evC Tryz.prog c66 ir66.body env σ (retQ ir66 Q)) : ACalls Tryz.prog 66 args σ Q :=
  acalls_of Tryz.func66 ok66 rfl (Nat.le_of_ble_eq_true hl) h
/- bowlineref23.Window).done -/
def c67 : Cfg := ⟨qs, [], 21, [], ps⟩
def ir67 : IFun := ⟨2, [.tmp s4],
  (.seq (.reg (.one ⟨some s4, none, (.mv (.c (.v (.bool false))))⟩
    .done))
  (.seq (.reg (.one ⟨some s5, none, (.mv (.t s1))⟩
    (.one ⟨some s6, none, (.mv (.t s0))⟩
    (.one ⟨some s7, none, (.nilchk (.t s6))⟩
    (.one ⟨some s8, none, (.faddr 5 (.t s7))⟩
    (.one ⟨some s9, none, (.load none (.t s8))⟩
    (.one ⟨some s10, none, (.len false (.t s9))⟩
    (.one ⟨some s11, none, (.bin false .lss (.t s5) (.t s10))⟩
    (.one ⟨some s12, none, (.mv (.t s11))⟩
    (.one ⟨some s13, some (s12, true), (.mv (.t s0))⟩
    (.one ⟨some s14, some (s12, true), (.nilchk (.t s13))⟩
    (.one ⟨some s15, some (s12, true), (.faddr 5 (.t s14))⟩
    (.one ⟨some s16, some (s12, true), (.load none (.t s15))⟩
    (.one ⟨some s17, some (s12, true), (.mv (.t s1))⟩
    (.one ⟨some s18, some (s12, true), (.iaddr 1 (.t s16) (.t s17))⟩
    (.one ⟨some s19, some (s12, true), (.load none (.t s18))⟩
    (.one ⟨some s20, none, (.pick (.t s12) (.t s19) (.c (.v (.bool false))))⟩
    (.one ⟨some s4, none, (.mv (.t s20))⟩
    .done))))))))))))))))))
  .ret))⟩
theorem ok67 : compF Tryz.prog c67 Tryz.f67 = some ir67 := by kernel_rfl
theorem k_bowlineref23_Window_done {args : List AVal} {σ : AHeap} {Q : AVal → AHeap → Prop} (hl : Nat.ble args.length 21 = true) (h : argsK (Env.full 9) 0 args fun env => evC Tryz.prog c67 ir67.body env σ (retQ ir67 Q)) : ACalls Tryz.prog 67 args σ Q :=
  acalls_of Tryz.func67 ok67 rfl (Nat.le_of_ble_eq_true hl) h
/- bowlineref23.Window).Number -/
def c68 : Cfg := ⟨qs, [], 12, [], ps⟩
def ir68 : IFun := ⟨2, [.tmp s4],
  (.seq (.reg (.one ⟨some s4, none, (.mv (.c (.v (.int .i64 0))))⟩
    .done))
  (.seq (.reg (.one ⟨some s5, none, (.mv (.t s1))⟩
    (.one ⟨some s6, none, (.mv (.t s0))⟩
    (.one ⟨some s7, none, (.nilchk (.t s6))⟩
    (.one ⟨some s8, none, (.faddr 0 (.t s7))⟩
    (.one ⟨some s9, none, (.load none (.t s8))⟩
    (.one ⟨some s10, none, (.callq 91 [(.t s9)])⟩
    (.one ⟨some s11, none, (.bin false .rem (.t s5) (.t s10))⟩
    (.one ⟨some s4, none, (.mv (.t s11))⟩
    .done)))))))))
  .ret))⟩
theorem ok68 : compF Tryz.prog c68 Tryz.f68 = some ir68 := by kernel_rfl
theorem k_bowlineref23_Window_Number {args : List AVal} {σ : AHeap} {Q : AVal → AHeap → Prop} (hl : Nat.ble args.length 12 = true) (h : argsK (Env.full 9) 0 args fun env => evC Tryz.prog c68 ir68.body env σ (retQ ir68 Q)) : ACalls Tryz.prog 68 args σ Q :=
  acalls_of Tryz.func68 ok68 rfl (Nat.le_of_ble_eq_true hl) h
/- bowlineref23.Window).In -/
def c89 : Cfg := ⟨qs, [], 19, [], ps⟩
def ir89 : IFun := ⟨2, [.tmp s4],
  (.seq (.reg (.one ⟨some s4, none, (.mv (.c (.v (.bool false))))⟩
    .done))
  (.seq (.reg (.one ⟨some s5, none, (.mv (.t s0))⟩
    (.one ⟨some s6, none, (.mv (.t s1))⟩
    (.one ⟨some s7, none, (.callq 62 [(.t s5), (.t s6)])⟩
    (.one ⟨some s8, none, (.bin false .geq (.t s7) (.c (.v (.int .i64 0))))⟩
    (.one ⟨some s9, none, (.mv (.t s8))⟩
    (.one ⟨some s10, some (s9, true), (.mv (.t s0))⟩
    (.one ⟨some s11, some (s9, true), (.mv (.t s1))⟩
    (.one ⟨some s13, some (s9, true), (.mv (.t s0))⟩
    (.one ⟨some s14, some (s9, true), (.nilchk (.t s13))⟩
    (.one ⟨some s15, some (s9, true), (.faddr 1 (.t s14))⟩
    (.one ⟨some s16, some (s9, true), (.load none (.t s15))⟩
    (.one ⟨some s12, some (s9, true), (.callq 62 [(.t s10), (.t s11)])⟩
    (.one ⟨some s17, some (s9, true), (.bin false .lss (.t s12) (.t s16))⟩
    (.one ⟨some s18, none, (.pick (.t s9) (.t s17) (.c (.v (.bool false))))⟩
    (.one ⟨some s4, none, (.mv (.t s18))⟩
    .done))))))))))))))))
  .ret))⟩
theorem ok89 : compF Tryz.prog c89 Tryz.f89 = some ir89 := by kernel_rfl
theorem k_bowlineref23_Window_In {args : List AVal} {σ : AHeap} {Q : AVal → AHeap → Prop} (hl : Nat.ble args.length 19 = true) (h : argsK (Env.full 9) 0 args fun env => evC Tryz.prog c89 ir89.body env σ (retQ ir89 Q)) : ACalls Tryz.prog 89 args σ Q :=
  acalls_of Tryz.func89 ok89 rfl (Nat.le_of_ble_eq_true hl) h
end Go.Proofs.YtgbpjbpdpgbngaaGreat
/-
  The bodies of one package, compiled to the framework's language (printed by a program of this session).
-/
namespace Go.Proofs.YtgbpjbpdpgbngaaGreat
open Go Go.Am
/- bowlineref01.Put -/
def c98 : Cfg := ⟨qs, [], 53, [], ps⟩
def ir98 : IFun := ⟨3, [.tmp s6, .tmp s7],
  (.seq (.reg (.one ⟨some s6, none, (.mv (.c (.slice 1 [] .full)))⟩
    (.one ⟨some s7, none, (.mv (.c (.v (.int .i64 0))))⟩
    .done)))
  (.seq (.seq (.reg (.one ⟨some s12, none, (.mv (.t s1))⟩
    (.one ⟨some s13, none, (.mv (.t s2))⟩
    (.one ⟨some s14, none, (.callq 111 [(.t s12), (.t s13)])⟩
    (.one ⟨some s15, none, (.not (.t s14))⟩
    .done)))))
  (.cond (.t s15) (.seq (.reg (.one ⟨some s16, none, (.mv (.t s0))⟩
    (.one ⟨some s6, none, (.mv (.t s16))⟩
    (.one ⟨some s7, none, (.mv (.c (.v (.int .i64 1))))⟩
    .done))))
  .ret) .skip))
  (.seq (.seq (.reg (.one ⟨some s17, none, (.mv (.t s0))⟩
    (.one ⟨some s18, none, (.len false (.t s17))⟩
    (.one ⟨some s19, none, (.mv (.t s2))⟩
    (.one ⟨some s20, none, (.bin false .sub (.c (.v (.int .i64 65536))) (.t s19))⟩
    (.one ⟨some s21, none, (.bin false .gtr (.t s18) (.t s20))⟩
    .done))))))
  (.cond (.t s21) (.seq (.reg (.one ⟨some s22, none, (.mv (.t s0))⟩
    (.one ⟨some s6, none, (.mv (.t s22))⟩
    (.one ⟨some s7, none, (.mv (.c (.v (.int .i64 5))))⟩
    .done))))
  .ret) .skip))
  (.seq (.reg (.one ⟨some s8, none, (.mv (.c (.slice 1 [] .full)))⟩
    (.one ⟨some s9, none, (.mv (.c (.slice 1 [] .full)))⟩
    .done)))
  (.seq (.seq (.reg (.one ⟨some s10, none, (.mv (.c (.v (.int .i64 0))))⟩
    .done))
  (.block 0 (.loop (.seq (.seq (.reg (.one ⟨some s23, none, (.mv (.t s10))⟩
    (.one ⟨some s24, none, (.mv (.t s2))⟩
    (.one ⟨some s25, none, (.bin false .lss (.t s23) (.t s24))⟩
    .done))))
  (.cond (.t s25) .skip (.exit 0)))
  (.seq (.block 1 (.seq (.reg (.one ⟨some s28, none, (.mv (.t s8))⟩
    (.one ⟨some s29, none, (.mv (.t s1))⟩
    (.one ⟨some s30, none, (.bin false .rem (.t s29) (.c (.v (.int .u64 2))))⟩
    (.one ⟨some s31, none, (.bin false .eql (.t s30) (.c (.v (.int .u64 1))))⟩
    (.one ⟨some s32, none, (.row 1 [(.t s31)])⟩
    (.one ⟨some s33, none, (.app 1 1 (.t s28) (.t s32))⟩
    (.one ⟨some s8, none, (.mv (.t s33))⟩
    .done))))))))
  (.reg (.one ⟨some s34, none, (.mv (.t s1))⟩
    (.one ⟨some s35, none, (.bin false .quo (.t s34) (.c (.v (.int .u64 2))))⟩
    (.one ⟨some s1, none, (.mv (.t s35))⟩
    .done))))))
  (.reg (.one ⟨some s26, none, (.mv (.t s10))⟩
    (.one ⟨some s27, none, (.bin false .add (.t s26) (.c (.v (.int .i64 1))))⟩
    (.one ⟨some s10, none, (.mv (.t s27))⟩
    .done)))))))))
  (.seq (.reg (.one ⟨some s36, none, (.mv (.t s9))⟩
    (.one ⟨some s37, none, (.mv (.t s0))⟩
    (.one ⟨some s38, none, (.app 1 1 (.t s36) (.t s37))⟩
    (.one ⟨some s9, none, (.mv (.t s38))⟩
    .done)))))
  (.seq (.seq (.reg (.one ⟨some s39, none, (.mv (.t s2))⟩
    (.one ⟨some s40, none, (.bin false .sub (.t s39) (.c (.v (.int .i64 1))))⟩
    (.one ⟨some s11, none, (.mv (.t s40))⟩
    .done))))
  (.block 2 (.loop (.seq (.seq (.reg (.one ⟨some s41, none, (.mv (.t s11))⟩
    (.one ⟨some s42, none, (.bin false .geq (.t s41) (.c (.v (.int .i64 0))))⟩
    .done)))
  (.cond (.t s42) .skip (.exit 2)))
  (.seq (.block 3 (.reg (.one ⟨some s45, none, (.mv (.t s9))⟩
    (.one ⟨some s46, none, (.mv (.t s8))⟩
    (.one ⟨some s47, none, (.mv (.t s11))⟩
    (.one ⟨some s48, none, (.iaddr 1 (.t s46) (.t s47))⟩
    (.one ⟨some s49, none, (.load none (.t s48))⟩
    (.one ⟨some s50, none, (.row 1 [(.t s49)])⟩
    (.one ⟨some s51, none, (.app 1 1 (.t s45) (.t s50))⟩
    (.one ⟨some s9, none, (.mv (.t s51))⟩
    .done))))))))))
  (.reg (.one ⟨some s43, none, (.mv (.t s11))⟩
    (.one ⟨some s44, none, (.bin false .sub (.t s43) (.c (.v (.int .i64 1))))⟩
    (.one ⟨some s11, none, (.mv (.t s44))⟩
    .done)))))))))
  (.seq (.reg (.one ⟨some s52, none, (.mv (.t s9))⟩
    (.one ⟨some s6, none, (.mv (.t s52))⟩
    (.one ⟨some s7, none, (.mv (.c (.v (.int .i64 0))))⟩
    .done))))
  .ret))))))))⟩
theorem ok98 : compF Tryz.prog c98 Tryz.f98 = some ir98 := by kernel_rfl
theorem k_bowlineref01_Put {args : List AVal} {σ : AHeap} {Q : AVal → AHeap → Prop} (hl : Nat.ble args.length 53 = true) (h : argsK (Env.full 9) 0 args fun env => evC Tryz.prog c98 ir98.body env σ (retQ ir98 Q)) : ACalls Tryz.prog 98 args σ Q :=
  acalls_of Tryz.func98 ok98 rfl (Nat.le_of_ble_eq_true hl) h
/- bowlineref01.Bytes -/
def c101 : Cfg := ⟨qs, [], 40, [], ps⟩
def ir101 : IFun := ⟨1, [.tmp s2],
  (.seq (.reg (.one ⟨some s2, none, (.mv (.c (.slice 1 [] .full)))⟩
    .done))
  (.seq (.reg (.one ⟨some s3, none, (.mv (.c (.slice 1 [] .full)))⟩
    .done))
  (.seq (.seq (.reg (.one ⟨some s4, none, (.mv (.c (.v (.int .i64 0))))⟩
    .done))
  (.block 0 (.loop (.seq (.seq (.reg (.one ⟨some s7, none, (.mv (.t s4))⟩
    (.one ⟨some s8, none, (.mv (.t s0))⟩
    (.one ⟨some s9, none, (.len false (.t s8))⟩
    (.one ⟨some s10, none, (.bin false .lss (.t s7) (.t s9))⟩
    .done)))))
  (.cond (.t s10) .skip (.exit 0)))
  (.seq (.block 1 (.seq (.reg (.one ⟨some s5, none, (.mv (.c (.v (.int .u8 0))))⟩
    .done))
  (.seq (.seq (.reg (.one ⟨some s6, none, (.mv (.c (.v (.int .i64 0))))⟩
    .done))
  (.block 2 (.loop (.seq (.seq (.reg (.one ⟨some s13, none, (.mv (.t s6))⟩
    (.one ⟨some s14, none, (.bin false .lss (.t s13) (.c (.v (.int .i64 8))))⟩
    .done)))
  (.cond (.t s14) .skip (.exit 2)))
  (.seq (.block 3 (.seq (.reg (.one ⟨some s17, none, (.mv (.t s5))⟩
    (.one ⟨some s18, none, (.bin false .mul (.c (.v (.int .u8 2))) (.t s17))⟩
    (.one ⟨some s5, none, (.mv (.t s18))⟩
    .done))))
  (.seq (.reg (.one ⟨some s19, none, (.mv (.t s4))⟩
    (.one ⟨some s20, none, (.mv (.t s6))⟩
    (.one ⟨some s21, none, (.bin false .add (.t s19) (.t s20))⟩
    (.one ⟨some s22, none, (.mv (.t s0))⟩
    (.one ⟨some s23, none, (.len false (.t s22))⟩
    (.one ⟨some s24, none, (.bin false .lss (.t s21) (.t s23))⟩
    (.one ⟨some s25, none, (.mv (.t s24))⟩
    (.one ⟨some s26, some (s25, true), (.mv (.t s0))⟩
    (.one ⟨some s27, some (s25, true), (.mv (.t s4))⟩
    (.one ⟨some s28, some (s25, true), (.mv (.t s6))⟩
    (.one ⟨some s29, some (s25, true), (.bin false .add (.t s27) (.t s28))⟩
    (.one ⟨some s30, some (s25, true), (.iaddr 1 (.t s26) (.t s29))⟩
    (.one ⟨some s31, some (s25, true), (.load none (.t s30))⟩
    (.one ⟨some s32, none, (.pick (.t s25) (.t s31) (.c (.v (.bool false))))⟩
    .done)))))))))))))))
  (.cond (.t s32) (.reg (.one ⟨some s33, none, (.mv (.t s5))⟩
    (.one ⟨some s34, none, (.bin false .add (.t s33) (.c (.v (.int .u8 1))))⟩
    (.one ⟨some s5, none, (.mv (.t s34))⟩
    .done)))) .skip))))
  (.reg (.one ⟨some s15, none, (.mv (.t s6))⟩
    (.one ⟨some s16, none, (.bin false .add (.t s15) (.c (.v (.int .i64 1))))⟩
    (.one ⟨some s6, none, (.mv (.t s16))⟩
    .done)))))))))
  (.reg (.one ⟨some s35, none, (.mv (.t s3))⟩
    (.one ⟨some s36, none, (.mv (.t s5))⟩
    (.one ⟨some s37, none, (.row 1 [(.t s36)])⟩
    (.one ⟨some s38, none, (.app 1 1 (.t s35) (.t s37))⟩
    (.one ⟨some s3, none, (.mv (.t s38))⟩
    .done)))))))))
  (.reg (.one ⟨some s11, none, (.mv (.t s4))⟩
    (.one ⟨some s12, none, (.bin false .add (.t s11) (.c (.v (.int .i64 8))))⟩
    (.one ⟨some s4, none, (.mv (.t s12))⟩
    .done)))))))))
  (.seq (.reg (.one ⟨some s39, none, (.mv (.t s3))⟩
    (.one ⟨some s2, none, (.mv (.t s39))⟩
    .done)))
  .ret))))⟩
theorem ok101 : compF Tryz.prog c101 Tryz.f101 = some ir101 := by kernel_rfl
theorem k_bowlineref01_Bytes {args : List AVal} {σ : AHeap} {Q : AVal → AHeap → Prop} (hl : Nat.ble args.length 40 = true) (h : argsK (Env.full 9) 0 args fun env => evC Tryz.prog c101 ir101.body env σ (retQ ir101 Q)) : ACalls Tryz.prog 101 args σ Q :=
  acalls_of Tryz.func101 ok101 rfl (Nat.le_of_ble_eq_true hl) h
/- bowlineref01.fits -/
def c111 : Cfg := ⟨qs, [], 21, [], ps⟩
def ir111 : IFun := ⟨2, [.tmp s4],
  (.seq (.reg (.one ⟨some s4, none, (.mv (.c (.v (.bool false))))⟩
    .done))
  (.seq (.seq (.reg (.one ⟨some s6, none, (.mv (.t s1))⟩
    (.one ⟨some s7, none, (.bin false .lss (.t s6) (.c (.v (.int .i64 0))))⟩
    (.one ⟨some s8, none, (.mv (.t s7))⟩
    (.one ⟨some s9, some (s8, false), (.mv (.t s1))⟩
    (.one ⟨some s10, some (s8, false), (.bin false .gtr (.t s9) (.c (.v (.int .i64 64))))⟩
    (.one ⟨some s11, none, (.pick (.t s8) (.c (.v (.bool true))) (.t s10))⟩
    .done)))))))
  (.cond (.t s11) (.seq (.reg (.one ⟨some s4, none, (.mv (.c (.v (.bool false))))⟩
    .done))
  .ret) .skip))
  (.seq (.seq (.reg (.one ⟨some s5, none, (.mv (.c (.v (.int .i64 0))))⟩
    .done))
  (.block 0 (.loop (.seq (.seq (.reg (.one ⟨some s12, none, (.mv (.t s5))⟩
    (.one ⟨some s13, none, (.mv (.t s1))⟩
    (.one ⟨some s14, none, (.bin false .lss (.t s12) (.t s13))⟩
    .done))))
  (.cond (.t s14) .skip (.exit 0)))
  (.seq (.block 1 (.reg (.one ⟨some s17, none, (.mv (.t s0))⟩
    (.one ⟨some s18, none, (.bin false .quo (.t s17) (.c (.v (.int .u64 2))))⟩
    (.one ⟨some s0, none, (.mv (.t s18))⟩
    .done)))))
  (.reg (.one ⟨some s15, none, (.mv (.t s5))⟩
    (.one ⟨some s16, none, (.bin false .add (.t s15) (.c (.v (.int .i64 1))))⟩
    (.one ⟨some s5, none, (.mv (.t s16))⟩
    .done)))))))))
  (.seq (.reg (.one ⟨some s19, none, (.mv (.t s0))⟩
    (.one ⟨some s20, none, (.bin false .eql (.t s19) (.c (.v (.int .u64 0))))⟩
    (.one ⟨some s4, none, (.mv (.t s20))⟩
    .done))))
  .ret))))⟩
theorem ok111 : compF Tryz.prog c111 Tryz.f111 = some ir111 := by kernel_rfl
theorem k_bowlineref01_fits {args : List AVal} {σ : AHeap} {Q : AVal → AHeap → Prop} (hl : Nat.ble args.length 21 = true) (h : argsK (Env.full 9) 0 args fun env => evC Tryz.prog c111 ir111.body env σ (retQ ir111 Q)) : ACalls Tryz.prog 111 args σ Q :=
  acalls_of Tryz.func111 ok111 rfl (Nat.le_of_ble_eq_true hl) h
end Go.Proofs.YtgbpjbpdpgbngaaGreat
/-
  The bodies of one package, compiled to the framework's language (printed by a program of this session).
-/
namespace Go.Proofs.YtgbpjbpdpgbngaaGreat
open Go Go.Am
/- bowlinelaw09.Great -/
def c14 : Cfg := ⟨qs, [], 31, [], ps⟩
def ir14 : IFun := ⟨1, [.tmp s2],
  (.seq (.reg (.one ⟨some s2, none, (.mv (.c (.v (.bool false))))⟩
    .done))
  (.seq (.reg (.one ⟨some s3, none, (.mv (.c (.v (.int .i64 0))))⟩
    .done))
  (.seq (.seq (.reg (.one ⟨some s4, none, (.mv (.c (.v (.int .i64 0))))⟩
    .done))
  (.block 0 (.loop (.seq (.seq (.reg (.one ⟨some s5, none, (.mv (.t s4))⟩
    (.one ⟨some s6, none, (.mv (.t s0))⟩
    (.one ⟨some s7, none, (.len false (.t s6))⟩
    (.one ⟨some s8, none, (.bin false .lss (.t s5) (.t s7))⟩
    .done)))))
  (.cond (.t s8) .skip (.exit 0)))
  (.seq (.block 1 (.seq (.seq (.reg (.one ⟨some s11, none, (.mv (.t s0))⟩
    (.one ⟨some s12, none, (.len false (.t s11))⟩
    (.one ⟨some s13, none, (.bin false .gtr (.t s12) (.c (.v (.int .i64 40))))⟩
    (.one ⟨some s14, none, (.mv (.t s13))⟩
    (.one ⟨some s15, some (s14, false), (.mv (.t s0))⟩
    (.one ⟨some s16, some (s14, false), (.mv (.t s4))⟩
    (.one ⟨some s17, some (s14, false), (.iaddr 1 (.t s15) (.t s16))⟩
    (.one ⟨some s18, some (s14, false), (.load none (.t s17))⟩
    (.one ⟨some s19, some (s14, false), (.len false (.t s18))⟩
    (.one ⟨some s20, some (s14, false), (.bin false .gtr (.t s19) (.c (.v (.int .i64 4200))))⟩
    (.one ⟨some s21, none, (.pick (.t s14) (.c (.v (.bool true))) (.t s20))⟩
    .done))))))))))))
  (.cond (.t s21) (.seq (.reg (.one ⟨some s2, none, (.mv (.c (.v (.bool true))))⟩
    .done))
  .ret) .skip))
  (.reg (.one ⟨some s22, none, (.mv (.t s3))⟩
    (.one ⟨some s23, none, (.mv (.t s0))⟩
    (.one ⟨some s24, none, (.mv (.t s4))⟩
    (.one ⟨some s25, none, (.iaddr 1 (.t s23) (.t s24))⟩
    (.one ⟨some s26, none, (.load none (.t s25))⟩
    (.one ⟨some s27, none, (.len false (.t s26))⟩
    (.one ⟨some s28, none, (.bin false .add (.t s22) (.t s27))⟩
    (.one ⟨some s3, none, (.mv (.t s28))⟩
    .done)))))))))))
  (.reg (.one ⟨some s9, none, (.mv (.t s4))⟩
    (.one ⟨some s10, none, (.bin false .add (.t s9) (.c (.v (.int .i64 1))))⟩
    (.one ⟨some s4, none, (.mv (.t s10))⟩
    .done)))))))))
  (.seq (.reg (.one ⟨some s29, none, (.mv (.t s3))⟩
    (.one ⟨some s30, none, (.bin false .gtr (.t s29) (.c (.v (.int .i64 9000))))⟩
    (.one ⟨some s2, none, (.mv (.t s30))⟩
    .done))))
  .ret))))⟩
theorem ok14 : compF Tryz.prog c14 Tryz.f14 = some ir14 := by kernel_rfl
theorem k_bowlinelaw09_Great {args : List AVal} {σ : AHeap} {Q : AVal → AHeap → Prop} (hl : Nat.ble args.length 31 = true) (h : argsK (Env.full 9) 0 args fun env => evC Tryz.prog c14 ir14.body env σ (retQ ir14 Q)) : ACalls Tryz.prog 14 args σ Q :=
  acalls_of Tryz.func14 ok14 rfl (Nat.le_of_ble_eq_true hl) h
end Go.Proofs.YtgbpjbpdpgbngaaGreat
/-
  The bodies of one package, compiled to the framework's language (printed by a program of this session).
-/
namespace Go.Proofs.YtgbpjbpdpgbngaaGreat
open Go Go.Am
/- bowlinelaw25.AmstatMakes -/
def c3 : Cfg := ⟨qs, [], 126, [], ps⟩
def ir3 : IFun := ⟨5, [.tmp s10],
  (.seq (.reg (.one ⟨some s10, none, (.mv (.c (.v (.bool false))))⟩
    .done))
  (.seq (.reg (.one ⟨some s30, none, (.mv (.t s0))⟩
    (.one ⟨some s31, none, (.mv (.t s1))⟩
    (.one ⟨some s32, none, (.callq 4 [(.t s30), (.t s31)])⟩
    (.one ⟨some s29, none, (.mv (.t s32))⟩
    (.one ⟨some s33, none, (.ext (.t s29) 0)⟩
    (.one ⟨some s34, none, (.ext (.t s29) 1)⟩
    (.one ⟨some s11, none, (.new [(.v (.pointer none)), (.v (.pointer none)), (.v (.pointer none)), (.v (.pointer none))])⟩
    (.one ⟨none, none, (.store 4 (.t s11) (.t s33))⟩
    (.one ⟨some s12, none, (.mv (.t s34))⟩
    .done))))))))))
  (.seq (.seq (.reg (.one ⟨some s35, none, (.mv (.t s12))⟩
    (.one ⟨some s36, none, (.not (.t s35))⟩
    .done)))
  (.cond (.t s36) (.seq (.reg (.one ⟨some s37, none, (.callq 5 [])⟩
    (.one ⟨some s10, none, (.mv (.t s37))⟩
    .done)))
  .ret) .skip))
  (.seq (.reg (.one ⟨some s39, none, (.faddr 0 (.t s11))⟩
    (.one ⟨some s40, none, (.load none (.t s39))⟩
    (.one ⟨some s41, none, (.faddr 1 (.t s11))⟩
    (.one ⟨some s42, none, (.load none (.t s41))⟩
    (.one ⟨some s43, none, (.mv (.t s2))⟩
    (.one ⟨some s44, none, (.mv (.t s3))⟩
    (.one ⟨some s45, none, (.callq 6 [(.t s40), (.t s42), (.t s43), (.t s44)])⟩
    (.one ⟨some s38, none, (.mv (.t s45))⟩
    (.one ⟨some s46, none, (.ext (.t s38) 0)⟩
    (.one ⟨some s47, none, (.ext (.t s38) 1)⟩
    (.one ⟨some s13, none, (.new [(.v (.int .i64 0)), (.slice 4 [] .full)])⟩
    (.one ⟨none, none, (.store 2 (.t s13) (.t s46))⟩
    (.one ⟨some s14, none, (.mv (.t s47))⟩
    .done))))))))))))))
  (.seq (.reg (.one ⟨some s49, none, (.faddr 2 (.t s11))⟩
    (.one ⟨some s50, none, (.load none (.t s49))⟩
    (.one ⟨some s51, none, (.faddr 3 (.t s11))⟩
    (.one ⟨some s52, none, (.load none (.t s51))⟩
    (.one ⟨some s53, none, (.mv (.t s2))⟩
    (.one ⟨some s54, none, (.mv (.t s3))⟩
    (.one ⟨some s55, none, (.callq 7 [(.t s50), (.t s52), (.t s53), (.t s54)])⟩
    (.one ⟨some s48, none, (.mv (.t s55))⟩
    (.one ⟨some s56, none, (.ext (.t s48) 0)⟩
    (.one ⟨some s57, none, (.ext (.t s48) 1)⟩
    (.one ⟨some s15, none, (.new [(.v (.int .i64 0)), (.slice 4 [] .full)])⟩
    (.one ⟨none, none, (.store 2 (.t s15) (.t s56))⟩
    (.one ⟨some s16, none, (.mv (.t s57))⟩
    .done))))))))))))))
  (.seq (.reg (.one ⟨some s58, none, (.faddr 1 (.t s11))⟩
    (.one ⟨some s59, none, (.load none (.t s58))⟩
    (.one ⟨some s60, none, (.mv (.t s4))⟩
    (.one ⟨some s62, none, (.faddr 3 (.t s11))⟩
    (.one ⟨some s63, none, (.load none (.t s62))⟩
    (.one ⟨some s64, none, (.mv (.t s4))⟩
    (.one ⟨some s61, none, (.callq 8 [(.t s59), (.t s60)])⟩
    (.one ⟨some s65, none, (.callq 9 [(.t s63), (.t s64)])⟩
    (.one ⟨some s17, none, (.mv (.t s61))⟩
    (.one ⟨some s18, none, (.mv (.t s65))⟩
    .done)))))))))))
  (.seq (.reg (.one ⟨some s19, none, (.new [(.v (.int .i64 0)), (.v (.int .i64 0)), (.v (.int .i64 0)), (.v (.int .i64 0)), (.v (.int .i64 0)), (.v (.map none))])⟩
    .done))
  (.seq (.reg (.one ⟨some s20, none, (.new [(.v (.map none))])⟩
    .done))
  (.seq (.reg (.one ⟨some s67, none, (.faddr 1 (.t s11))⟩
    (.one ⟨some s68, none, (.load none (.t s67))⟩
    (.one ⟨some s69, none, (.callq 6 [(.c (.v (.pointer none))), (.t s68), (.c (.v (.int .i64 9))), (.c (.v (.int .i64 10)))])⟩
    (.one ⟨some s66, none, (.mv (.t s69))⟩
    (.one ⟨some s70, none, (.ext (.t s66) 0)⟩
    (.one ⟨some s71, none, (.ext (.t s66) 1)⟩
    (.one ⟨some s21, none, (.new [(.v (.int .i64 0)), (.slice 4 [] .full)])⟩
    (.one ⟨none, none, (.store 2 (.t s21) (.t s70))⟩
    (.one ⟨some s22, none, (.mv (.t s71))⟩
    .done))))))))))
  (.seq (.reg (.one ⟨some s73, none, (.faddr 0 (.t s11))⟩
    (.one ⟨some s74, none, (.load none (.t s73))⟩
    (.one ⟨some s75, none, (.callq 6 [(.t s74), (.c (.v (.pointer none))), (.c (.v (.int .i64 9))), (.c (.v (.int .i64 10)))])⟩
    (.one ⟨some s72, none, (.mv (.t s75))⟩
    (.one ⟨some s76, none, (.ext (.t s72) 0)⟩
    (.one ⟨some s77, none, (.ext (.t s72) 1)⟩
    (.one ⟨some s23, none, (.new [(.v (.int .i64 0)), (.slice 4 [] .full)])⟩
    (.one ⟨none, none, (.store 2 (.t s23) (.t s76))⟩
    (.one ⟨some s24, none, (.mv (.t s77))⟩
    .done))))))))))
  (.seq (.reg (.one ⟨some s79, none, (.faddr 1 (.t s11))⟩
    (.one ⟨some s80, none, (.load none (.t s79))⟩
    (.one ⟨some s81, none, (.callq 6 [(.t s19), (.t s80), (.c (.v (.int .i64 9))), (.c (.v (.int .i64 10)))])⟩
    (.one ⟨some s78, none, (.mv (.t s81))⟩
    (.one ⟨some s82, none, (.ext (.t s78) 0)⟩
    (.one ⟨some s83, none, (.ext (.t s78) 1)⟩
    (.one ⟨some s25, none, (.new [(.v (.int .i64 0)), (.slice 4 [] .full)])⟩
    (.one ⟨none, none, (.store 2 (.t s25) (.t s82))⟩
    (.one ⟨some s26, none, (.mv (.t s83))⟩
    .done))))))))))
  (.seq (.reg (.one ⟨some s85, none, (.faddr 0 (.t s11))⟩
    (.one ⟨some s86, none, (.load none (.t s85))⟩
    (.one ⟨some s87, none, (.callq 6 [(.t s86), (.t s20), (.c (.v (.int .i64 9))), (.c (.v (.int .i64 10)))])⟩
    (.one ⟨some s84, none, (.mv (.t s87))⟩
    (.one ⟨some s88, none, (.ext (.t s84) 0)⟩
    (.one ⟨some s89, none, (.ext (.t s84) 1)⟩
    (.one ⟨some s27, none, (.new [(.v (.int .i64 0)), (.slice 4 [] .full)])⟩
    (.one ⟨none, none, (.store 2 (.t s27) (.t s88))⟩
    (.one ⟨some s28, none, (.mv (.t s89))⟩
    .done))))))))))
  (.seq (.reg (.one ⟨some s90, none, (.callq 5 [])⟩
    (.one ⟨some s91, none, (.mv (.t s90))⟩
    (.one ⟨some s92, some (s91, true), (.mv (.t s14))⟩
    (.one ⟨some s93, some (s91, true), (.mv (.t s16))⟩
    (.one ⟨some s94, some (s91, true), (.bin false .eql (.t s92) (.t s93))⟩
    (.one ⟨some s95, none, (.pick (.t s91) (.t s94) (.c (.v (.bool false))))⟩
    (.one ⟨some s96, none, (.mv (.t s95))⟩
    (.one ⟨some s97, some (s96, true), (.load (some 2) (.t s13))⟩
    (.one ⟨some s99, some (s96, true), (.load (some 2) (.t s15))⟩
    (.one ⟨some s98, some (s96, true), (.callq 11 [(.t s97)])⟩
    (.one ⟨some s100, some (s96, true), (.callq 10 [(.t s98), (.t s99)])⟩
    (.one ⟨some s101, none, (.pick (.t s96) (.t s100) (.c (.v (.bool false))))⟩
    (.one ⟨some s102, none, (.mv (.t s101))⟩
    (.one ⟨some s103, some (s102, true), (.mv (.t s17))⟩
    (.one ⟨some s104, some (s102, true), (.build [(.v (.int .i64 0)), (.slice 4 [] .full)] [(1, 1, (.t s103))])⟩
    (.one ⟨some s106, some (s102, true), (.mv (.t s18))⟩
    (.one ⟨some s107, some (s102, true), (.build [(.v (.int .i64 0)), (.slice 4 [] .full)] [(1, 1, (.t s106))])⟩
    (.one ⟨some s105, some (s102, true), (.callq 11 [(.t s104)])⟩
    (.one ⟨some s108, some (s102, true), (.callq 10 [(.t s105), (.t s107)])⟩
    (.one ⟨some s109, none, (.pick (.t s102) (.t s108) (.c (.v (.bool false))))⟩
    (.one ⟨some s110, none, (.mv (.t s109))⟩
    (.one ⟨some s111, some (s110, true), (.mv (.t s22))⟩
    (.one ⟨some s112, some (s110, true), (.bin false .eql (.t s111) (.c (.v (.int .i64 6))))⟩
    (.one ⟨some s113, none, (.pick (.t s110) (.t s112) (.c (.v (.bool false))))⟩
    (.one ⟨some s114, none, (.mv (.t s113))⟩
    (.one ⟨some s115, some (s114, true), (.mv (.t s24))⟩
    (.one ⟨some s116, some (s114, true), (.bin false .eql (.t s115) (.c (.v (.int .i64 6))))⟩
    (.one ⟨some s117, none, (.pick (.t s114) (.t s116) (.c (.v (.bool false))))⟩
    (.one ⟨some s118, none, (.mv (.t s117))⟩
    (.one ⟨some s119, some (s118, true), (.mv (.t s26))⟩
    (.one ⟨some s120, some (s118, true), (.bin false .eql (.t s119) (.c (.v (.int .i64 6))))⟩
    (.one ⟨some s121, none, (.pick (.t s118) (.t s120) (.c (.v (.bool false))))⟩
    (.one ⟨some s122, none, (.mv (.t s121))⟩
    (.one ⟨some s123, some (s122, true), (.mv (.t s28))⟩
    (.one ⟨some s124, some (s122, true), (.bin false .eql (.t s123) (.c (.v (.int .i64 6))))⟩
    (.one ⟨some s125, none, (.pick (.t s122) (.t s124) (.c (.v (.bool false))))⟩
    (.one ⟨some s10, none, (.mv (.t s125))⟩
    .done))))))))))))))))))))))))))))))))))))))
  .ret)))))))))))))⟩
theorem ok3 : compF Tryz.prog c3 Tryz.f3 = some ir3 := by kernel_rfl
theorem k_bowlinelaw25_AmstatMakes {args : List AVal} {σ : AHeap} {Q : AVal → AHeap → Prop} (hl : Nat.ble args.length 126 = true) (h : argsK (Env.full 9) 0 args fun env => evC Tryz.prog c3 ir3.body env σ (retQ ir3 Q)) : ACalls Tryz.prog 3 args σ Q :=
  acalls_of Tryz.func3 ok3 rfl (Nat.le_of_ble_eq_true hl) h
/- bowlinelaw25.fill -/
def c4 : Cfg := ⟨qs, [], 138, [], ps⟩
def ir4 : IFun := ⟨2, [.cell s4 (some 4), .tmp s5],
  (.seq (.reg (.one ⟨some s4, none, (.new [(.v (.pointer none)), (.v (.pointer none)), (.v (.pointer none)), (.v (.pointer none))])⟩
    (.one ⟨some s5, none, (.mv (.c (.v (.bool false))))⟩
    .done)))
  (.seq (.reg (.one ⟨some s15, none, (.callq 12 [(.c (.v (.int .i64 10))), (.c (.v (.int .i64 512)))])⟩
    (.one ⟨some s14, none, (.mv (.t s15))⟩
    (.one ⟨some s16, none, (.ext (.t s14) 0)⟩
    (.one ⟨some s17, none, (.ext (.t s14) 1)⟩
    (.one ⟨some s6, none, (.mv (.t s16))⟩
    (.one ⟨some s7, none, (.mv (.t s17))⟩
    .done)))))))
  (.seq (.reg (.one ⟨some s18, none, (.mv (.t s6))⟩
    (.one ⟨some s19, none, (.callq 13 [])⟩
    (.one ⟨some s20, none, (.build [(.v (.int .i64 0)), (.v (.int .i64 0)), (.v (.int .i64 0)), (.v (.int .i64 0)), (.v (.int .i64 0)), (.slice 1 [] .full)] [(0, 1, (.c (.v (.int .i64 10)))), (1, 1, (.c (.v (.int .i64 512))))])⟩
    (.one ⟨some s21, none, (.box 6 (.t s20))⟩
    (.one ⟨some s22, none, (.build [(.slice 6 [] .full)] [])⟩
    (.one ⟨some s23, none, (.box 1 (.t s22))⟩
    (.one ⟨some s24, none, (.build [(.v (.pointer none)), (.v (.pointer none)), (.v (.pointer none)), (.v (.pointer none))] [(0, 1, (.t s18)), (1, 1, (.t s19)), (2, 1, (.t s21)), (3, 1, (.t s23))])⟩
    (.one ⟨some s8, none, (.new [(.v (.pointer none)), (.v (.pointer none)), (.v (.pointer none)), (.v (.pointer none))])⟩
    (.one ⟨none, none, (.store 4 (.t s8) (.t s24))⟩
    .done))))))))))
  (.seq (.seq (.reg (.one ⟨some s25, none, (.mv (.t s7))⟩
    (.one ⟨some s26, none, (.bin false .neq (.t s25) (.c (.v (.int .i64 0))))⟩
    (.one ⟨some s27, none, (.mv (.t s26))⟩
    (.one ⟨some s28, some (s27, false), (.mv (.t s6))⟩
    (.one ⟨some s29, some (s27, false), (.eqNil 1 false (.t s28))⟩
    (.one ⟨some s30, none, (.pick (.t s27) (.c (.v (.bool true))) (.t s29))⟩
    .done)))))))
  (.cond (.t s30) (.seq (.reg (.one ⟨some s31, none, (.load (some 4) (.t s8))⟩
    (.one ⟨none, none, (.store 4 (.t s4) (.t s31))⟩
    (.one ⟨some s5, none, (.mv (.c (.v (.bool false))))⟩
    .done))))
  .ret) .skip))
  (.seq (.seq (.reg (.one ⟨some s9, none, (.mv (.c (.v (.int .i64 0))))⟩
    .done))
  (.block 0 (.loop (.seq (.seq (.reg (.one ⟨some s32, none, (.mv (.t s9))⟩
    (.one ⟨some s33, none, (.mv (.t s0))⟩
    (.one ⟨some s34, none, (.len false (.t s33))⟩
    (.one ⟨some s35, none, (.bin false .lss (.t s32) (.t s34))⟩
    (.one ⟨some s36, none, (.mv (.t s35))⟩
    (.one ⟨some s37, some (s36, true), (.mv (.t s9))⟩
    (.one ⟨some s38, some (s36, true), (.bin false .lss (.t s37) (.c (.v (.int .i64 40))))⟩
    (.one ⟨some s39, none, (.pick (.t s36) (.t s38) (.c (.v (.bool false))))⟩
    .done)))))))))
  (.cond (.t s39) .skip (.exit 0)))
  (.seq (.block 1 (.seq (.reg (.one ⟨some s42, none, (.mv (.t s0))⟩
    (.one ⟨some s43, none, (.mv (.t s9))⟩
    (.one ⟨some s44, none, (.iaddr 7 (.t s42) (.t s43))⟩
    (.one ⟨some s45, none, (.load (some 7) (.t s44))⟩
    (.one ⟨some s10, none, (.new [(.v (.bool false)), (.v (.int .i64 0)), (.v (.int .i64 0)), (.v (.bool false)), (.v (.bool false)), (.v (.int .i64 0)), (.slice 1 [] .full)])⟩
    (.one ⟨none, none, (.store 7 (.t s10) (.t s45))⟩
    .done)))))))
  (.seq (.seq (.reg (.one ⟨some s46, none, (.faddr 6 (.t s10))⟩
    (.one ⟨some s47, none, (.load none (.t s46))⟩
    (.one ⟨some s48, none, (.callq 14 [(.t s47)])⟩
    .done))))
  (.cond (.t s48) (.seq (.reg (.one ⟨some s49, none, (.load (some 4) (.t s8))⟩
    (.one ⟨none, none, (.store 4 (.t s4) (.t s49))⟩
    (.one ⟨some s5, none, (.mv (.c (.v (.bool false))))⟩
    .done))))
  .ret) .skip))
  (.seq (.seq (.reg (.one ⟨some s50, none, (.faddr 0 (.t s8))⟩
    (.one ⟨some s51, none, (.load none (.t s50))⟩
    (.one ⟨some s52, none, (.faddr 2 (.t s10))⟩
    (.one ⟨some s53, none, (.load none (.t s52))⟩
    (.one ⟨some s54, none, (.callp 15 [(.t s51), (.t s53)])⟩
    (.one ⟨some s55, none, (.not (.t s54))⟩
    (.one ⟨some s56, none, (.mv (.t s55))⟩
    (.one ⟨some s57, some (s56, false), (.faddr 0 (.t s8))⟩
    (.one ⟨some s58, some (s56, false), (.load none (.t s57))⟩
    (.one ⟨some s59, some (s56, false), (.faddr 2 (.t s10))⟩
    (.one ⟨some s60, some (s56, false), (.load none (.t s59))⟩
    (.one ⟨some s61, some (s56, false), (.callp 16 [(.t s58), (.t s60)])⟩
    (.one ⟨some s62, none, (.pick (.t s56) (.c (.v (.bool true))) (.t s61))⟩
    (.one ⟨some s63, none, (.mv (.t s62))⟩
    (.one ⟨some s64, some (s63, false), (.faddr 1 (.t s8))⟩
    (.one ⟨some s65, some (s63, false), (.load none (.t s64))⟩
    (.one ⟨some s66, some (s63, false), (.load (some 7) (.t s10))⟩
    (.one ⟨some s67, some (s63, false), (.call 17 [(.t s65), (.t s66)])⟩
    (.one ⟨some s68, some (s63, false), (.bin false .neq (.t s67) (.c (.v (.int .i64 0))))⟩
    (.one ⟨some s69, none, (.pick (.t s63) (.c (.v (.bool true))) (.t s68))⟩
    .done)))))))))))))))))))))
  (.cond (.t s69) (.exit 1) .skip))
  (.seq (.reg (.one ⟨some s70, none, (.faddr 3 (.t s8))⟩
    (.one ⟨some s71, none, (.load none (.t s70))⟩
    (.one ⟨some s72, none, (.load (some 7) (.t s10))⟩
    (.one ⟨some s73, none, (.callq 19 [(.t s72)])⟩
    (.one ⟨some s74, none, (.call 18 [(.t s71), (.t s73)])⟩
    .done))))))
  (.seq (.reg (.one ⟨some s75, none, (.faddr 0 (.t s8))⟩
    (.one ⟨some s76, none, (.load none (.t s75))⟩
    (.one ⟨some s77, none, (.faddr 2 (.t s10))⟩
    (.one ⟨some s78, none, (.load none (.t s77))⟩
    (.one ⟨some s79, none, (.call 20 [(.t s76), (.t s78)])⟩
    .done))))))
  (.seq (.reg (.one ⟨some s80, none, (.faddr 2 (.t s8))⟩
    (.one ⟨some s81, none, (.load none (.t s80))⟩
    (.one ⟨some s82, none, (.faddr 2 (.t s10))⟩
    (.one ⟨some s83, none, (.load none (.t s82))⟩
    (.one ⟨some s84, none, (.call 21 [(.t s81), (.t s83)])⟩
    .done))))))
  (.seq (.reg (.one ⟨some s85, none, (.faddr 1 (.t s8))⟩
    (.one ⟨some s86, none, (.load none (.t s85))⟩
    (.one ⟨some s87, none, (.faddr 2 (.t s10))⟩
    (.one ⟨some s88, none, (.load none (.t s87))⟩
    (.one ⟨some s89, none, (.callq 22 [(.t s86), (.t s88)])⟩
    .done))))))
  (.cond (.t s89) (.seq (.reg (.one ⟨some s91, none, (.faddr 0 (.t s8))⟩
    (.one ⟨some s92, none, (.load none (.t s91))⟩
    (.one ⟨some s93, none, (.faddr 2 (.t s10))⟩
    (.one ⟨some s94, none, (.load none (.t s93))⟩
    (.one ⟨some s95, none, (.call 23 [(.t s92), (.t s94)])⟩
    (.one ⟨some s90, none, (.mv (.t s95))⟩
    (.one ⟨some s96, none, (.ext (.t s90) 0)⟩
    (.one ⟨some s97, none, (.ext (.t s90) 1)⟩
    (.one ⟨some s11, none, (.mv (.t s96))⟩
    (.one ⟨some s12, none, (.mv (.t s97))⟩
    .done)))))))))))
  (.seq (.reg (.one ⟨some s98, none, (.faddr 2 (.t s8))⟩
    (.one ⟨some s99, none, (.load none (.t s98))⟩
    (.one ⟨some s100, none, (.faddr 2 (.t s10))⟩
    (.one ⟨some s101, none, (.load none (.t s100))⟩
    (.one ⟨some s102, none, (.call 24 [(.t s99), (.t s101)])⟩
    .done))))))
  (.seq (.reg (.one ⟨some s13, none, (.mv (.c (.v (.int .i64 0))))⟩
    .done))
  (.block 2 (.loop (.seq (.seq (.reg (.one ⟨some s103, none, (.mv (.t s13))⟩
    (.one ⟨some s104, none, (.mv (.t s11))⟩
    (.one ⟨some s105, none, (.len false (.t s104))⟩
    (.one ⟨some s106, none, (.bin false .lss (.t s103) (.t s105))⟩
    .done)))))
  (.cond (.t s106) .skip (.exit 2)))
  (.seq (.block 3 (.seq (.reg (.one ⟨some s109, none, (.faddr 1 (.t s8))⟩
    (.one ⟨some s110, none, (.load none (.t s109))⟩
    (.one ⟨some s111, none, (.mv (.t s11))⟩
    (.one ⟨some s112, none, (.mv (.t s13))⟩
    (.one ⟨some s113, none, (.iaddr 1 (.t s111) (.t s112))⟩
    (.one ⟨some s114, none, (.load none (.t s113))⟩
    (.one ⟨some s115, none, (.call 25 [(.t s110), (.t s114)])⟩
    .done))))))))
  (.reg (.one ⟨some s116, none, (.faddr 3 (.t s8))⟩
    (.one ⟨some s117, none, (.load none (.t s116))⟩
    (.one ⟨some s118, none, (.mv (.t s11))⟩
    (.one ⟨some s119, none, (.mv (.t s13))⟩
    (.one ⟨some s120, none, (.iaddr 1 (.t s118) (.t s119))⟩
    (.one ⟨some s121, none, (.load none (.t s120))⟩
    (.one ⟨some s122, none, (.call 26 [(.t s117), (.t s121)])⟩
    .done))))))))))
  (.reg (.one ⟨some s107, none, (.mv (.t s13))⟩
    (.one ⟨some s108, none, (.bin false .add (.t s107) (.c (.v (.int .i64 1))))⟩
    (.one ⟨some s13, none, (.mv (.t s108))⟩
    .done))))))))))) .skip)))))))))
  (.reg (.one ⟨some s40, none, (.mv (.t s9))⟩
    (.one ⟨some s41, none, (.bin false .add (.t s40) (.c (.v (.int .i64 1))))⟩
    (.one ⟨some s9, none, (.mv (.t s41))⟩
    .done)))))))))
  (.seq (.reg (.one ⟨some s123, none, (.faddr 0 (.t s8))⟩
    (.one ⟨some s124, none, (.load none (.t s123))⟩
    (.one ⟨some s125, none, (.mv (.t s1))⟩
    (.one ⟨some s126, none, (.call 27 [(.t s124), (.t s125)])⟩
    .done)))))
  (.seq (.seq (.reg (.one ⟨some s127, none, (.mv (.t s1))⟩
    (.one ⟨some s128, none, (.bin false .geq (.t s127) (.c (.v (.int .i64 0))))⟩
    (.one ⟨some s129, none, (.mv (.t s128))⟩
    (.one ⟨some s130, some (s129, true), (.mv (.t s1))⟩
    (.one ⟨some s131, some (s129, true), (.bin false .lss (.t s130) (.c (.v (.int .i64 1024))))⟩
    (.one ⟨some s132, none, (.pick (.t s129) (.t s131) (.c (.v (.bool false))))⟩
    .done)))))))
  (.cond (.t s132) (.reg (.one ⟨some s133, none, (.faddr 2 (.t s8))⟩
    (.one ⟨some s134, none, (.load none (.t s133))⟩
    (.one ⟨some s135, none, (.mv (.t s1))⟩
    (.one ⟨some s136, none, (.call 28 [(.t s134), (.t s135)])⟩
    .done))))) .skip))
  (.seq (.reg (.one ⟨some s137, none, (.load (some 4) (.t s8))⟩
    (.one ⟨none, none, (.store 4 (.t s4) (.t s137))⟩
    (.one ⟨some s5, none, (.mv (.c (.v (.bool true))))⟩
    .done))))
  .ret))))))))⟩
theorem ok4 : compF Tryz.prog c4 Tryz.f4 = some ir4 := by kernel_rfl
theorem k_bowlinelaw25_fill {args : List AVal} {σ : AHeap} {Q : AVal → AHeap → Prop} (hl : Nat.ble args.length 138 = true) (h : argsK (Env.full 9) 0 args fun env => evC Tryz.prog c4 ir4.body env σ (retQ ir4 Q)) : ACalls Tryz.prog 4 args σ Q :=
  acalls_of Tryz.func4 ok4 rfl (Nat.le_of_ble_eq_true hl) h
/- bowlinelaw25.alive -/
def c5 : Cfg := ⟨qs, [], 101, [], ps⟩
def ir5 : IFun := ⟨0, [.tmp s0],
  (.seq (.reg (.one ⟨some s0, none, (.mv (.c (.v (.bool false))))⟩
    .done))
  (.seq (.reg (.one ⟨some s12, none, (.callq 12 [(.c (.v (.int .i64 10))), (.c (.v (.int .i64 16)))])⟩
    (.one ⟨some s11, none, (.mv (.t s12))⟩
    (.one ⟨some s13, none, (.ext (.t s11) 0)⟩
    (.one ⟨some s14, none, (.ext (.t s11) 1)⟩
    (.one ⟨some s1, none, (.mv (.t s13))⟩
    (.one ⟨some s2, none, (.mv (.t s14))⟩
    .done)))))))
  (.seq (.reg (.one ⟨some s15, none, (.callq 13 [])⟩
    (.one ⟨some s3, none, (.mv (.t s15))⟩
    .done)))
  (.seq (.seq (.reg (.one ⟨some s16, none, (.mv (.t s2))⟩
    (.one ⟨some s17, none, (.bin false .neq (.t s16) (.c (.v (.int .i64 0))))⟩
    (.one ⟨some s18, none, (.mv (.t s17))⟩
    (.one ⟨some s19, some (s18, false), (.mv (.t s1))⟩
    (.one ⟨some s20, some (s18, false), (.eqNil 1 false (.t s19))⟩
    (.one ⟨some s21, none, (.pick (.t s18) (.c (.v (.bool true))) (.t s20))⟩
    .done)))))))
  (.cond (.t s21) (.seq (.reg (.one ⟨some s0, none, (.mv (.c (.v (.bool false))))⟩
    .done))
  .ret) .skip))
  (.seq (.reg (.one ⟨some s22, none, (.mv (.t s1))⟩
    (.one ⟨some s23, none, (.call 20 [(.t s22), (.c (.v (.int .i64 2)))])⟩
    .done)))
  (.seq (.reg (.one ⟨some s24, none, (.mv (.t s3))⟩
    (.one ⟨some s25, none, (.row 1 [(.c (.v (.int .u8 7)))])⟩
    (.one ⟨some s26, none, (.row 1 [(.t s25)])⟩
    (.one ⟨some s27, none, (.build [(.v (.bool false)), (.v (.int .i64 0)), (.v (.int .i64 0)), (.v (.bool false)), (.v (.bool false)), (.v (.int .i64 0)), (.slice 1 [] .full)] [(2, 1, (.c (.v (.int .i64 1)))), (3, 1, (.c (.v (.bool true)))), (5, 1, (.c (.v (.int .i64 2)))), (6, 1, (.t s26))])⟩
    (.one ⟨some s28, none, (.call 17 [(.t s24), (.t s27)])⟩
    .done))))))
  (.seq (.reg (.one ⟨some s29, none, (.mv (.t s1))⟩
    (.one ⟨some s30, none, (.call 27 [(.t s29), (.c (.v (.int .i64 3)))])⟩
    (.one ⟨some s4, none, (.mv (.t s30))⟩
    .done))))
  (.seq (.reg (.one ⟨some s32, none, (.mv (.t s1))⟩
    (.one ⟨some s33, none, (.mv (.t s3))⟩
    (.one ⟨some s34, none, (.callq 6 [(.t s32), (.t s33), (.c (.v (.int .i64 100))), (.c (.v (.int .i64 10)))])⟩
    (.one ⟨some s31, none, (.mv (.t s34))⟩
    (.one ⟨some s35, none, (.ext (.t s31) 0)⟩
    (.one ⟨some s36, none, (.ext (.t s31) 1)⟩
    (.one ⟨some s5, none, (.new [(.v (.int .i64 0)), (.slice 4 [] .full)])⟩
    (.one ⟨none, none, (.store 2 (.t s5) (.t s35))⟩
    (.one ⟨some s6, none, (.mv (.t s36))⟩
    .done))))))))))
  (.seq (.reg (.one ⟨some s38, none, (.mv (.t s1))⟩
    (.one ⟨some s39, none, (.mv (.t s3))⟩
    (.one ⟨some s40, none, (.callq 6 [(.t s38), (.t s39), (.c (.v (.int .i64 4))), (.c (.v (.int .i64 10)))])⟩
    (.one ⟨some s37, none, (.mv (.t s40))⟩
    (.one ⟨some s41, none, (.ext (.t s37) 0)⟩
    (.one ⟨some s42, none, (.ext (.t s37) 1)⟩
    (.one ⟨some s7, none, (.new [(.v (.int .i64 0)), (.slice 4 [] .full)])⟩
    (.one ⟨none, none, (.store 2 (.t s7) (.t s41))⟩
    (.one ⟨some s8, none, (.mv (.t s42))⟩
    .done))))))))))
  (.seq (.reg (.one ⟨some s44, none, (.mv (.t s1))⟩
    (.one ⟨some s45, none, (.mv (.t s3))⟩
    (.one ⟨some s46, none, (.callq 6 [(.t s44), (.t s45), (.c (.v (.int .i64 1))), (.c (.v (.int .i64 10)))])⟩
    (.one ⟨some s43, none, (.mv (.t s46))⟩
    (.one ⟨some s47, none, (.ext (.t s43) 0)⟩
    (.one ⟨some s48, none, (.ext (.t s43) 1)⟩
    (.one ⟨some s9, none, (.new [(.v (.int .i64 0)), (.slice 4 [] .full)])⟩
    (.one ⟨none, none, (.store 2 (.t s9) (.t s47))⟩
    (.one ⟨some s10, none, (.mv (.t s48))⟩
    .done))))))))))
  (.seq (.reg (.one ⟨some s49, none, (.mv (.t s4))⟩
    (.one ⟨some s50, none, (.bin false .eql (.t s49) (.c (.v (.int .i64 0))))⟩
    (.one ⟨some s51, none, (.mv (.t s50))⟩
    (.one ⟨some s52, some (s51, true), (.mv (.t s6))⟩
    (.one ⟨some s53, some (s51, true), (.bin false .eql (.t s52) (.c (.v (.int .i64 0))))⟩
    (.one ⟨some s54, none, (.pick (.t s51) (.t s53) (.c (.v (.bool false))))⟩
    (.one ⟨some s55, none, (.mv (.t s54))⟩
    (.one ⟨some s56, some (s55, true), (.faddr 0 (.t s5))⟩
    (.one ⟨some s57, some (s55, true), (.load none (.t s56))⟩
    (.one ⟨some s58, some (s55, true), (.bin false .eql (.t s57) (.c (.v (.int .i64 3))))⟩
    (.one ⟨some s59, none, (.pick (.t s55) (.t s58) (.c (.v (.bool false))))⟩
    (.one ⟨some s60, none, (.mv (.t s59))⟩
    (.one ⟨some s61, some (s60, true), (.faddr 1 (.t s5))⟩
    (.one ⟨some s62, some (s60, true), (.load none (.t s61))⟩
    (.one ⟨some s63, some (s60, true), (.len false (.t s62))⟩
    (.one ⟨some s64, some (s60, true), (.bin false .eql (.t s63) (.c (.v (.int .i64 4))))⟩
    (.one ⟨some s65, none, (.pick (.t s60) (.t s64) (.c (.v (.bool false))))⟩
    (.one ⟨some s66, none, (.mv (.t s65))⟩
    (.one ⟨some s67, some (s66, true), (.faddr 1 (.t s5))⟩
    (.one ⟨some s68, some (s66, true), (.load none (.t s67))⟩
    (.one ⟨some s69, some (s66, true), (.iaddr 4 (.t s68) (.c (.v (.int .i64 1))))⟩
    (.one ⟨some s70, some (s66, true), (.load (some 4) (.t s69))⟩
    (.one ⟨some s71, some (s66, true), (.build [(.v (.int .i64 0)), (.v (.bool false)), (.v (.int .i64 0)), (.v (.int .i64 0))] [(0, 1, (.c (.v (.int .i64 1)))), (1, 1, (.c (.v (.bool true)))), (3, 1, (.c (.v (.int .i64 2))))])⟩
    (.one ⟨some s72, some (s66, true), (.eqAgg false [false, true, false, false] (.t s70) (.t s71))⟩
    (.one ⟨some s73, none, (.pick (.t s66) (.t s72) (.c (.v (.bool false))))⟩
    (.one ⟨some s74, none, (.mv (.t s73))⟩
    (.one ⟨some s75, some (s74, true), (.faddr 1 (.t s5))⟩
    (.one ⟨some s76, some (s74, true), (.load none (.t s75))⟩
    (.one ⟨some s77, some (s74, true), (.iaddr 4 (.t s76) (.c (.v (.int .i64 2))))⟩
    (.one ⟨some s78, some (s74, true), (.load (some 4) (.t s77))⟩
    (.one ⟨some s79, some (s74, true), (.build [(.v (.int .i64 0)), (.v (.bool false)), (.v (.int .i64 0)), (.v (.int .i64 0))] [(0, 1, (.c (.v (.int .i64 1)))), (1, 1, (.c (.v (.bool true)))), (2, 1, (.c (.v (.int .i64 3))))])⟩
    (.one ⟨some s80, some (s74, true), (.eqAgg false [false, true, false, false] (.t s78) (.t s79))⟩
    (.one ⟨some s81, none, (.pick (.t s74) (.t s80) (.c (.v (.bool false))))⟩
    (.one ⟨some s82, none, (.mv (.t s81))⟩
    (.one ⟨some s83, some (s82, true), (.mv (.t s8))⟩
    (.one ⟨some s84, some (s82, true), (.bin false .eql (.t s83) (.c (.v (.int .i64 0))))⟩
    (.one ⟨some s85, none, (.pick (.t s82) (.t s84) (.c (.v (.bool false))))⟩
    (.one ⟨some s86, none, (.mv (.t s85))⟩
    (.one ⟨some s87, some (s86, true), (.faddr 0 (.t s7))⟩
    (.one ⟨some s88, some (s86, true), (.load none (.t s87))⟩
    (.one ⟨some s89, some (s86, true), (.bin false .eql (.t s88) (.c (.v (.int .i64 1))))⟩
    (.one ⟨some s90, none, (.pick (.t s86) (.t s89) (.c (.v (.bool false))))⟩
    (.one ⟨some s91, none, (.mv (.t s90))⟩
    (.one ⟨some s92, some (s91, true), (.faddr 1 (.t s7))⟩
    (.one ⟨some s93, some (s91, true), (.load none (.t s92))⟩
    (.one ⟨some s94, some (s91, true), (.len false (.t s93))⟩
    (.one ⟨some s95, some (s91, true), (.bin false .eql (.t s94) (.c (.v (.int .i64 1))))⟩
    (.one ⟨some s96, none, (.pick (.t s91) (.t s95) (.c (.v (.bool false))))⟩
    (.one ⟨some s97, none, (.mv (.t s96))⟩
    (.one ⟨some s98, some (s97, true), (.mv (.t s10))⟩
    (.one ⟨some s99, some (s97, true), (.bin false .eql (.t s98) (.c (.v (.int .i64 16))))⟩
    (.one ⟨some s100, none, (.pick (.t s97) (.t s99) (.c (.v (.bool false))))⟩
    (.one ⟨some s0, none, (.mv (.t s100))⟩
    .done))))))))))))))))))))))))))))))))))))))))))))))))))))))
  .ret)))))))))))⟩
theorem ok5 : compF Tryz.prog c5 Tryz.f5 = some ir5 := by kernel_rfl
theorem k_bowlinelaw25_alive {args : List AVal} {σ : AHeap} {Q : AVal → AHeap → Prop} (hl : Nat.ble args.length 101 = true) (h : argsK (Env.full 9) 0 args fun env => evC Tryz.prog c5 ir5.body env σ (retQ ir5 Q)) : ACalls Tryz.prog 5 args σ Q :=
  acalls_of Tryz.func5 ok5 rfl (Nat.le_of_ble_eq_true hl) h
end Go.Proofs.YtgbpjbpdpgbngaaGreat
