/-
  Texts of this claim, pack 12: Irglue.
-/
import Derived.Test.YtgipkpghabelkaaK2
/-
  The bodies of one package, compiled to the framework's language (printed by a program of this session).
-/
namespace Go.Proofs.Ytgipkpghabelkaa
set_option linter.unusedVariables false
set_option linter.unusedSimpArgs false
open Go Go.Am
/- glue.New -/
def c20 : Cfg := ⟨qs, [], 3, [], ps⟩
def ir20 : IFun := ⟨0, [.tmp s0],
  (.seq (.reg (.one ⟨some s0, none, (.mv (.c (.v (.pointer none))))⟩
    .done))
  (.seq (.reg (.one ⟨some s1, none, (.build [(.v (.bool false)), (.slice 1 [] .full), (.v (.bool false)), (.v (.int .i64 0))] [(0, 1, (.c (.v (.bool true))))])⟩
    (.one ⟨some s2, none, (.box 4 (.t s1))⟩
    (.one ⟨some s0, none, (.mv (.t s2))⟩
    .done))))
  .ret))⟩
theorem ok20 : compF Try.prog c20 Try.f20 = some ir20 := by kernel_rfl
theorem k_glue_New {args : List AVal} {σ : AHeap} {Q : AVal → AHeap → Prop} (hl : Nat.ble args.length 3 = true) (h : argsK (Env.full 9) 0 args fun env => evC Try.prog c20 ir20.body env σ (retQ ir20 Q)) : ACalls Try.prog 20 args σ Q :=
  acalls_of Try.func20 ok20 rfl (Nat.le_of_ble_eq_true hl) h
/- glue.Glue).Put -/
def c21 : Cfg := ⟨qs, [], 89, [], ps⟩
def ir21 : IFun := ⟨4, [.tmp s8, .tmp s9],
  (.seq (.reg (.one ⟨some s8, none, (.mv (.c (.slice 1 [] .full)))⟩
    (.one ⟨some s9, none, (.mv (.c (.v (.int .i64 0))))⟩
    .done)))
  (.scope (.seq (.reg (.one ⟨some s10, none, (.mv (.c (.func 45 [] [])))⟩
    .done))
  (.seq (.block 0 (.seq (.reg (.one ⟨some s17, none, (.mv (.t s0))⟩
    (.one ⟨some s18, none, (.eqNil 1 false (.t s17))⟩
    (.one ⟨some s19, none, (.mv (.t s18))⟩
    (.one ⟨some s20, some (s19, false), (.mv (.t s0))⟩
    (.one ⟨some s21, some (s19, false), (.nilchk (.t s20))⟩
    (.one ⟨some s22, some (s19, false), (.faddr 0 (.t s21))⟩
    (.one ⟨some s23, some (s19, false), (.load none (.t s22))⟩
    (.one ⟨some s24, some (s19, false), (.not (.t s23))⟩
    (.one ⟨some s25, none, (.pick (.t s19) (.c (.v (.bool true))) (.t s24))⟩
    (.one ⟨some s16, none, (.mv (.t s25))⟩
    .done)))))))))))
  (.cond (.t s16) (.seq (.reg (.one ⟨some s8, none, (.mv (.c (.slice 1 [] .full)))⟩
    (.one ⟨some s9, none, (.mv (.c (.v (.int .i64 6))))⟩
    .done)))
  .ret) (.seq (.reg (.one ⟨some s27, none, (.mv (.t s1))⟩
    (.one ⟨some s28, none, (.bin false .lss (.t s27) (.c (.v (.int .i64 0))))⟩
    (.one ⟨some s29, none, (.mv (.t s28))⟩
    (.one ⟨some s30, some (s29, false), (.mv (.t s1))⟩
    (.one ⟨some s31, some (s29, false), (.bin false .gtr (.t s30) (.c (.v (.int .i64 3))))⟩
    (.one ⟨some s32, none, (.pick (.t s29) (.c (.v (.bool true))) (.t s31))⟩
    (.one ⟨some s33, none, (.mv (.t s32))⟩
    (.one ⟨some s34, some (s33, false), (.mv (.t s2))⟩
    (.one ⟨some s35, some (s33, false), (.len false (.t s34))⟩
    (.one ⟨some s36, some (s33, false), (.bin false .eql (.t s35) (.c (.v (.int .i64 0))))⟩
    (.one ⟨some s37, none, (.pick (.t s33) (.c (.v (.bool true))) (.t s36))⟩
    (.one ⟨some s38, none, (.mv (.t s37))⟩
    (.one ⟨some s39, some (s38, false), (.mv (.t s2))⟩
    (.one ⟨some s40, some (s38, false), (.len false (.t s39))⟩
    (.one ⟨some s41, some (s38, false), (.bin false .gtr (.t s40) (.c (.v (.int .i64 24))))⟩
    (.one ⟨some s42, none, (.pick (.t s38) (.c (.v (.bool true))) (.t s41))⟩
    (.one ⟨some s43, none, (.mv (.t s42))⟩
    (.one ⟨some s44, some (s43, false), (.mv (.t s2))⟩
    (.one ⟨some s45, some (s43, false), (.mv (.t s10))⟩
    (.one ⟨some s46, some (s43, false), (.callq 46 [(.t s44), (.t s45)])⟩
    (.one ⟨some s47, none, (.pick (.t s43) (.c (.v (.bool true))) (.t s46))⟩
    (.one ⟨some s26, none, (.mv (.t s47))⟩
    .done)))))))))))))))))))))))
  (.cond (.t s26) (.seq (.reg (.one ⟨some s8, none, (.mv (.c (.slice 1 [] .full)))⟩
    (.one ⟨some s9, none, (.mv (.c (.v (.int .i64 1))))⟩
    .done)))
  .ret) .skip)))))
  (.seq (.seq (.reg (.one ⟨some s48, none, (.mv (.t s3))⟩
    .done))
  (.cond (.t s48) (.reg (.one ⟨some s49, none, (.mv (.t s0))⟩
    (.one ⟨some s50, none, (.call 47 [(.t s49)])⟩
    .done))) .skip))
  (.seq (.reg (.one ⟨some s11, none, (.mv (.c (.slice 1 [] .full)))⟩
    .done))
  (.seq (.reg (.one ⟨some s51, none, (.mv (.t s2))⟩
    (.one ⟨some s52, none, (.len false (.t s51))⟩
    (.one ⟨some s53, none, (.bin false .sub (.t s52) (.c (.v (.int .i64 1))))⟩
    (.one ⟨some s12, none, (.mv (.c (.v (.int .i64 0))))⟩
    (.one ⟨some s13, none, (.mv (.t s53))⟩
    .done))))))
  (.seq (.label 0)
  (.seq (.reg (.one ⟨some s55, none, (.mv (.t s0))⟩
    (.one ⟨some s56, none, (.mv (.t s2))⟩
    (.one ⟨some s57, none, (.mv (.t s12))⟩
    (.one ⟨some s58, none, (.iaddr 1 (.t s56) (.t s57))⟩
    (.one ⟨some s59, none, (.load none (.t s58))⟩
    (.one ⟨some s60, none, (.mv (.t s12))⟩
    (.one ⟨some s61, none, (.bin false .gtr (.t s60) (.c (.v (.int .i64 0))))⟩
    (.one ⟨some s62, none, (.mv (.t s61))⟩
    (.one ⟨some s63, some (s62, false), (.mv (.t s1))⟩
    (.one ⟨some s64, some (s62, false), (.bin false .and (.t s63) (.c (.v (.int .i64 2))))⟩
    (.one ⟨some s65, some (s62, false), (.bin false .eql (.t s64) (.c (.v (.int .i64 0))))⟩
    (.one ⟨some s66, none, (.pick (.t s62) (.c (.v (.bool true))) (.t s65))⟩
    (.one ⟨some s67, none, (.mv (.t s12))⟩
    (.one ⟨some s68, none, (.mv (.t s13))⟩
    (.one ⟨some s69, none, (.bin false .lss (.t s67) (.t s68))⟩
    (.one ⟨some s70, none, (.mv (.t s69))⟩
    (.one ⟨some s71, some (s70, false), (.mv (.t s1))⟩
    (.one ⟨some s72, some (s70, false), (.bin false .and (.t s71) (.c (.v (.int .i64 1))))⟩
    (.one ⟨some s73, some (s70, false), (.bin false .eql (.t s72) (.c (.v (.int .i64 0))))⟩
    (.one ⟨some s74, none, (.pick (.t s70) (.c (.v (.bool true))) (.t s73))⟩
    (.one ⟨some s75, none, (.call 48 [(.t s55), (.t s59), (.t s66), (.t s74)])⟩
    (.one ⟨some s54, none, (.mv (.t s75))⟩
    (.one ⟨some s76, none, (.ext (.t s54) 0)⟩
    (.one ⟨some s77, none, (.ext (.t s54) 1)⟩
    (.one ⟨some s14, none, (.mv (.t s76))⟩
    (.one ⟨some s15, none, (.mv (.t s77))⟩
    .done)))))))))))))))))))))))))))
  (.seq (.seq (.reg (.one ⟨some s78, none, (.mv (.t s15))⟩
    .done))
  (.cond (.t s78) (.reg (.one ⟨some s79, none, (.mv (.t s11))⟩
    (.one ⟨some s80, none, (.mv (.t s14))⟩
    (.one ⟨some s81, none, (.row 1 [(.t s80)])⟩
    (.one ⟨some s82, none, (.app 1 24 (.t s79) (.t s81))⟩
    (.one ⟨some s11, none, (.mv (.t s82))⟩
    .done)))))) .skip))
  (.seq (.seq (.reg (.one ⟨some s83, none, (.mv (.t s12))⟩
    (.one ⟨some s84, none, (.mv (.t s13))⟩
    (.one ⟨some s85, none, (.bin false .lss (.t s83) (.t s84))⟩
    .done))))
  (.cond (.t s85) (.seq (.reg (.one ⟨some s86, none, (.mv (.t s12))⟩
    (.one ⟨some s87, none, (.bin false .add (.t s86) (.c (.v (.int .i64 1))))⟩
    (.one ⟨some s12, none, (.mv (.t s87))⟩
    .done))))
  (.goto 0)) .skip))
  (.seq (.reg (.one ⟨some s88, none, (.mv (.t s11))⟩
    (.one ⟨some s8, none, (.mv (.t s88))⟩
    (.one ⟨some s9, none, (.mv (.c (.v (.int .i64 0))))⟩
    .done))))
  .ret))))))))))))⟩
theorem ok21 : compF Try.prog c21 Try.f21 = some ir21 := by kernel_rfl
theorem k_glue_Glue_Put {args : List AVal} {σ : AHeap} {Q : AVal → AHeap → Prop} (hl : Nat.ble args.length 89 = true) (h : argsK (Env.full 9) 0 args fun env => evC Try.prog c21 ir21.body env σ (retQ ir21 Q)) : ACalls Try.prog 21 args σ Q :=
  acalls_of Try.func21 ok21 rfl (Nat.le_of_ble_eq_true hl) h
/- glue.Glue).Held -/
def c22 : Cfg := ⟨qs, [], 10, [], ps⟩
def ir22 : IFun := ⟨1, [.tmp s2],
  (.seq (.reg (.one ⟨some s2, none, (.mv (.c (.v (.int .i64 0))))⟩
    .done))
  (.seq (.seq (.reg (.one ⟨some s3, none, (.mv (.t s0))⟩
    (.one ⟨some s4, none, (.eqNil 1 false (.t s3))⟩
    .done)))
  (.cond (.t s4) (.seq (.reg (.one ⟨some s2, none, (.mv (.c (.v (.int .i64 0))))⟩
    .done))
  .ret) .skip))
  (.seq (.reg (.one ⟨some s5, none, (.mv (.t s0))⟩
    (.one ⟨some s6, none, (.nilchk (.t s5))⟩
    (.one ⟨some s7, none, (.faddr 1 (.t s6))⟩
    (.one ⟨some s8, none, (.load none (.t s7))⟩
    (.one ⟨some s9, none, (.len false (.t s8))⟩
    (.one ⟨some s2, none, (.mv (.t s9))⟩
    .done)))))))
  .ret)))⟩
theorem ok22 : compF Try.prog c22 Try.f22 = some ir22 := by kernel_rfl
theorem k_glue_Glue_Held {args : List AVal} {σ : AHeap} {Q : AVal → AHeap → Prop} (hl : Nat.ble args.length 10 = true) (h : argsK (Env.full 9) 0 args fun env => evC Try.prog c22 ir22.body env σ (retQ ir22 Q)) : ACalls Try.prog 22 args σ Q :=
  acalls_of Try.func22 ok22 rfl (Nat.le_of_ble_eq_true hl) h
/- glue.Glue).Lost -/
def c23 : Cfg := ⟨qs, [], 9, [], ps⟩
def ir23 : IFun := ⟨1, [.tmp s2],
  (.seq (.reg (.one ⟨some s2, none, (.mv (.c (.v (.int .i64 0))))⟩
    .done))
  (.seq (.seq (.reg (.one ⟨some s3, none, (.mv (.t s0))⟩
    (.one ⟨some s4, none, (.eqNil 1 false (.t s3))⟩
    .done)))
  (.cond (.t s4) (.seq (.reg (.one ⟨some s2, none, (.mv (.c (.v (.int .i64 0))))⟩
    .done))
  .ret) .skip))
  (.seq (.reg (.one ⟨some s5, none, (.mv (.t s0))⟩
    (.one ⟨some s6, none, (.nilchk (.t s5))⟩
    (.one ⟨some s7, none, (.faddr 3 (.t s6))⟩
    (.one ⟨some s8, none, (.load none (.t s7))⟩
    (.one ⟨some s2, none, (.mv (.t s8))⟩
    .done))))))
  .ret)))⟩
theorem ok23 : compF Try.prog c23 Try.f23 = some ir23 := by kernel_rfl
theorem k_glue_Glue_Lost {args : List AVal} {σ : AHeap} {Q : AVal → AHeap → Prop} (hl : Nat.ble args.length 9 = true) (h : argsK (Env.full 9) 0 args fun env => evC Try.prog c23 ir23.body env σ (retQ ir23 Q)) : ACalls Try.prog 23 args σ Q :=
  acalls_of Try.func23 ok23 rfl (Nat.le_of_ble_eq_true hl) h
/- glue.Glue).Put$1 -/
def c45 : Cfg := ⟨qs, [], 6, [], ps⟩
def ir45 : IFun := ⟨1, [.tmp s2],
  (.seq (.reg (.one ⟨some s2, none, (.mv (.c (.v (.bool false))))⟩
    .done))
  (.seq (.reg (.one ⟨some s3, none, (.mv (.t s0))⟩
    (.one ⟨some s4, none, (.len false (.t s3))⟩
    (.one ⟨some s5, none, (.bin false .eql (.t s4) (.c (.v (.int .i64 0))))⟩
    (.one ⟨some s2, none, (.mv (.t s5))⟩
    .done)))))
  .ret))⟩
theorem ok45 : compF Try.prog c45 Try.f45 = some ir45 := by kernel_rfl
theorem k_glue_Glue_Put_1 {args : List AVal} {σ : AHeap} {Q : AVal → AHeap → Prop} (hl : Nat.ble args.length 6 = true) (h : argsK (Env.full 9) 0 args fun env => evC Try.prog c45 ir45.body env σ (retQ ir45 Q)) : ACalls Try.prog 45 args σ Q :=
  acalls_of Try.func45 ok45 rfl (Nat.le_of_ble_eq_true hl) h
/- glue.Glue).lose -/
def c47 : Cfg := ⟨qs, [], 15, [], ps⟩
def ir47 : IFun := ⟨1, [],
  (.seq (.seq (.reg (.one ⟨some s2, none, (.mv (.t s0))⟩
    (.one ⟨some s3, none, (.nilchk (.t s2))⟩
    (.one ⟨some s4, none, (.faddr 2 (.t s3))⟩
    (.one ⟨some s5, none, (.load none (.t s4))⟩
    .done)))))
  (.cond (.t s5) (.reg (.one ⟨some s6, none, (.mv (.t s0))⟩
    (.one ⟨some s7, none, (.nilchk (.t s6))⟩
    (.one ⟨some s8, none, (.faddr 3 (.t s7))⟩
    (.one ⟨some s9, none, (.load none (.t s8))⟩
    (.one ⟨some s10, none, (.bin false .add (.t s9) (.c (.v (.int .i64 1))))⟩
    (.one ⟨some s11, none, (.nilchk (.t s6))⟩
    (.one ⟨some s12, none, (.faddr 3 (.t s11))⟩
    (.one ⟨none, none, (.store 1 (.t s12) (.t s10))⟩
    .done))))))))) .skip))
  (.reg (.one ⟨some s13, none, (.mv (.t s0))⟩
    (.one ⟨some s14, none, (.call 67 [(.t s13)])⟩
    .done))))⟩
theorem ok47 : compF Try.prog c47 Try.f47 = some ir47 := by kernel_rfl
theorem k_glue_Glue_lose {args : List AVal} {σ : AHeap} {Q : AVal → AHeap → Prop} (hl : Nat.ble args.length 15 = true) (h : argsK (Env.full 9) 0 args fun env => evC Try.prog c47 ir47.body env σ (retQ ir47 Q)) : ACalls Try.prog 47 args σ Q :=
  acalls_of Try.func47 ok47 rfl (Nat.le_of_ble_eq_true hl) h
/- glue.Glue).field -/
def c48 : Cfg := ⟨qs, [], 81, [], ps⟩
def ir48 : IFun := ⟨4, [.tmp s8, .tmp s9],
  (.seq (.reg (.one ⟨some s8, none, (.mv (.c (.slice 1 [] .full)))⟩
    (.one ⟨some s9, none, (.mv (.c (.v (.bool false))))⟩
    .done)))
  (.seq (.block 0 (.seq (.reg (.one ⟨some s12, none, (.mv (.t s2))⟩
    (.one ⟨some s11, none, (.mv (.t s12))⟩
    .done)))
  (.cond (.t s11) (.seq (.reg (.one ⟨some s13, none, (.mv (.t s0))⟩
    (.one ⟨some s14, none, (.call 47 [(.t s13)])⟩
    .done)))
  (.reg (.one ⟨some s15, none, (.mv (.t s0))⟩
    (.one ⟨some s16, none, (.mv (.t s0))⟩
    (.one ⟨some s17, none, (.mv (.t s1))⟩
    (.one ⟨some s18, none, (.callq 68 [(.t s17)])⟩
    (.one ⟨some s19, none, (.nilchk (.t s15))⟩
    (.one ⟨some s20, none, (.faddr 1 (.t s19))⟩
    (.one ⟨none, none, (.store 1 (.t s20) (.t s18))⟩
    (.one ⟨some s21, none, (.nilchk (.t s16))⟩
    (.one ⟨some s22, none, (.faddr 2 (.t s21))⟩
    (.one ⟨none, none, (.store 1 (.t s22) (.c (.v (.bool true))))⟩
    .done)))))))))))) (.seq (.reg (.one ⟨some s24, none, (.mv (.t s0))⟩
    (.one ⟨some s25, none, (.nilchk (.t s24))⟩
    (.one ⟨some s26, none, (.faddr 2 (.t s25))⟩
    (.one ⟨some s27, none, (.load none (.t s26))⟩
    (.one ⟨some s23, none, (.mv (.t s27))⟩
    .done))))))
  (.cond (.t s23) (.reg (.one ⟨some s28, none, (.mv (.t s0))⟩
    (.one ⟨some s29, none, (.mv (.t s0))⟩
    (.one ⟨some s30, none, (.nilchk (.t s29))⟩
    (.one ⟨some s31, none, (.faddr 1 (.t s30))⟩
    (.one ⟨some s32, none, (.load none (.t s31))⟩
    (.one ⟨some s33, none, (.mv (.t s0))⟩
    (.one ⟨some s34, none, (.nilchk (.t s33))⟩
    (.one ⟨some s35, none, (.faddr 1 (.t s34))⟩
    (.one ⟨some s36, none, (.load none (.t s35))⟩
    (.one ⟨some s37, none, (.len false (.t s36))⟩
    (.one ⟨some s38, none, (.mv (.t s0))⟩
    (.one ⟨some s39, none, (.nilchk (.t s38))⟩
    (.one ⟨some s40, none, (.faddr 1 (.t s39))⟩
    (.one ⟨some s41, none, (.load none (.t s40))⟩
    (.one ⟨some s42, none, (.len false (.t s41))⟩
    (.one ⟨some s43, none, (.cut 1 (.t s32) none (some (.t s37)) (some (.t s42)))⟩
    (.one ⟨some s44, none, (.mv (.t s1))⟩
    (.one ⟨some s45, none, (.app 1 1 (.t s43) (.t s44))⟩
    (.one ⟨some s46, none, (.nilchk (.t s28))⟩
    (.one ⟨some s47, none, (.faddr 1 (.t s46))⟩
    (.one ⟨none, none, (.store 1 (.t s47) (.t s45))⟩
    .done)))))))))))))))))))))) (.seq (.reg (.one ⟨some s49, none, (.mv (.t s3))⟩
    (.one ⟨some s48, none, (.mv (.t s49))⟩
    .done)))
  (.cond (.t s48) (.reg (.one ⟨some s50, none, (.mv (.t s0))⟩
    (.one ⟨some s51, none, (.nilchk (.t s50))⟩
    (.one ⟨some s52, none, (.faddr 3 (.t s51))⟩
    (.one ⟨some s53, none, (.load none (.t s52))⟩
    (.one ⟨some s54, none, (.bin false .add (.t s53) (.c (.v (.int .i64 1))))⟩
    (.one ⟨some s55, none, (.nilchk (.t s50))⟩
    (.one ⟨some s56, none, (.faddr 3 (.t s55))⟩
    (.one ⟨none, none, (.store 1 (.t s56) (.t s54))⟩
    .done))))))))) .skip)))))))
  (.seq (.seq (.reg (.one ⟨some s57, none, (.mv (.t s0))⟩
    (.one ⟨some s58, none, (.nilchk (.t s57))⟩
    (.one ⟨some s59, none, (.faddr 1 (.t s58))⟩
    (.one ⟨some s60, none, (.load none (.t s59))⟩
    (.one ⟨some s61, none, (.len false (.t s60))⟩
    (.one ⟨some s62, none, (.bin false .gtr (.t s61) (.c (.v (.int .i64 1000))))⟩
    .done)))))))
  (.cond (.t s62) (.reg (.one ⟨some s63, none, (.mv (.t s0))⟩
    (.one ⟨some s64, none, (.call 47 [(.t s63)])⟩
    .done))) .skip))
  (.seq (.seq (.reg (.one ⟨some s65, none, (.mv (.t s3))⟩
    (.one ⟨some s66, none, (.not (.t s65))⟩
    (.one ⟨some s67, none, (.mv (.t s66))⟩
    (.one ⟨some s68, some (s67, false), (.mv (.t s0))⟩
    (.one ⟨some s69, some (s67, false), (.nilchk (.t s68))⟩
    (.one ⟨some s70, some (s67, false), (.faddr 2 (.t s69))⟩
    (.one ⟨some s71, some (s67, false), (.load none (.t s70))⟩
    (.one ⟨some s72, some (s67, false), (.not (.t s71))⟩
    (.one ⟨some s73, none, (.pick (.t s67) (.c (.v (.bool true))) (.t s72))⟩
    .done))))))))))
  (.cond (.t s73) (.seq (.reg (.one ⟨some s8, none, (.mv (.c (.slice 1 [] .full)))⟩
    (.one ⟨some s9, none, (.mv (.c (.v (.bool false))))⟩
    .done)))
  .ret) .skip))
  (.seq (.reg (.one ⟨some s74, none, (.mv (.t s0))⟩
    (.one ⟨some s75, none, (.nilchk (.t s74))⟩
    (.one ⟨some s76, none, (.faddr 1 (.t s75))⟩
    (.one ⟨some s77, none, (.load none (.t s76))⟩
    (.one ⟨some s10, none, (.mv (.t s77))⟩
    .done))))))
  (.seq (.reg (.one ⟨some s78, none, (.mv (.t s0))⟩
    (.one ⟨some s79, none, (.call 67 [(.t s78)])⟩
    .done)))
  (.seq (.reg (.one ⟨some s80, none, (.mv (.t s10))⟩
    (.one ⟨some s8, none, (.mv (.t s80))⟩
    (.one ⟨some s9, none, (.mv (.c (.v (.bool true))))⟩
    .done))))
  .ret)))))))⟩
theorem ok48 : compF Try.prog c48 Try.f48 = some ir48 := by kernel_rfl
theorem k_glue_Glue_field {args : List AVal} {σ : AHeap} {Q : AVal → AHeap → Prop} (hl : Nat.ble args.length 81 = true) (h : argsK (Env.full 9) 0 args fun env => evC Try.prog c48 ir48.body env σ (retQ ir48 Q)) : ACalls Try.prog 48 args σ Q :=
  acalls_of Try.func48 ok48 rfl (Nat.le_of_ble_eq_true hl) h
/- glue.Glue).Drop -/
def c67 : Cfg := ⟨qs, [], 10, [], ps⟩
def ir67 : IFun := ⟨1, [],
  (.seq (.reg (.one ⟨some s2, none, (.mv (.t s0))⟩
    (.one ⟨some s3, none, (.eqNil 1 true (.t s2))⟩
    .done)))
  (.cond (.t s3) (.reg (.one ⟨some s4, none, (.mv (.t s0))⟩
    (.one ⟨some s5, none, (.mv (.t s0))⟩
    (.one ⟨some s6, none, (.nilchk (.t s4))⟩
    (.one ⟨some s7, none, (.faddr 1 (.t s6))⟩
    (.one ⟨none, none, (.store 1 (.t s7) (.c (.slice 1 [] .full)))⟩
    (.one ⟨some s8, none, (.nilchk (.t s5))⟩
    (.one ⟨some s9, none, (.faddr 2 (.t s8))⟩
    (.one ⟨none, none, (.store 1 (.t s9) (.c (.v (.bool false))))⟩
    .done))))))))) .skip))⟩
theorem ok67 : compF Try.prog c67 Try.f67 = some ir67 := by kernel_rfl
theorem k_glue_Glue_Drop {args : List AVal} {σ : AHeap} {Q : AVal → AHeap → Prop} (hl : Nat.ble args.length 10 = true) (h : argsK (Env.full 9) 0 args fun env => evC Try.prog c67 ir67.body env σ (retQ ir67 Q)) : ACalls Try.prog 67 args σ Q :=
  acalls_of Try.func67 ok67 rfl (Nat.le_of_ble_eq_true hl) h
end Go.Proofs.Ytgipkpghabelkaa
