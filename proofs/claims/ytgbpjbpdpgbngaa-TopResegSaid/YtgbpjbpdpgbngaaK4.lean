/-
  Texts of this claim, pack 4: Irglue, Irtop.
-/
import Derived.Test.YtgbpjbpdpgbngaaK2
set_option linter.unusedSimpArgs false
set_option linter.unusedVariables false
/-
  The bodies of one package, compiled to the framework's language (printed by a program of this session).
-/
namespace Go.Proofs.Ytgbpjbpdpgbngaa
open Go Go.Am
/- glue.New -/
def c13 : Cfg := ⟨qs, [], 3, [], ps⟩
def ir13 : IFun := ⟨0, [.tmp s0],
  (.seq (.reg (.one ⟨some s0, none, (.mv (.c (.v (.pointer none))))⟩
    .done))
  (.seq (.reg (.one ⟨some s1, none, (.build [(.v (.bool false)), (.slice 1 [] .full), (.v (.bool false)), (.v (.int .i64 0))] [(0, 1, (.c (.v (.bool true))))])⟩
    (.one ⟨some s2, none, (.box 4 (.t s1))⟩
    (.one ⟨some s0, none, (.mv (.t s2))⟩
    .done))))
  .ret))⟩
theorem ok13 : compF Try.prog c13 Try.f13 = some ir13 := by kernel_rfl
theorem k_glue_New {args : List AVal} {σ : AHeap} {Q : AVal → AHeap → Prop} (hl : Nat.ble args.length 3 = true) (h : argsK (Env.full 9) 0 args fun env => evC Try.prog c13 ir13.body env σ (retQ ir13 Q)) : ACalls Try.prog 13 args σ Q :=
  acalls_of Try.func13 ok13 rfl (Nat.le_of_ble_eq_true hl) h
/- glue.Glue).Put -/
def c15 : Cfg := ⟨qs, [], 89, [], ps⟩
def ir15 : IFun := ⟨4, [.tmp s8, .tmp s9],
  (.seq (.reg (.one ⟨some s8, none, (.mv (.c (.slice 1 [] .full)))⟩
    (.one ⟨some s9, none, (.mv (.c (.v (.int .i64 0))))⟩
    .done)))
  (.scope (.seq (.reg (.one ⟨some s10, none, (.mv (.c (.func 42 [] [])))⟩
    .done))
  (.seq (.block 0 (.seq (.reg (.one ⟨some s17, none, (.mv (.t s0))⟩
    (.one ⟨some s18, none, (.eqNil 1 false (.t s17))⟩
    (.one ⟨some s19, none, (.mv (.t s18))⟩
    (.one ⟨some s20, some (s19, false), (.mv (.t s0))⟩
    (.one ⟨some s21, some (s19, false), (.nilchk (.t s20))⟩
    (.one ⟨some s22, some (s19, false), (.faddr 0 (.t s21))⟩
    (.one ⟨some s23, some (s19, false), (.load none (.t s22))⟩
    (.one ⟨some s24, some (s19, false), (.not (.t s23))⟩
    (.one ⟨some s25, none, (.pick (.t s19) (.c (.v (.bool true))) (.t s24))⟩
    (.one ⟨some s16, none, (.mv (.t s25))⟩
    .done)))))))))))
  (.cond (.t s16) (.seq (.reg (.one ⟨some s8, none, (.mv (.c (.slice 1 [] .full)))⟩
    (.one ⟨some s9, none, (.mv (.c (.v (.int .i64 6))))⟩
    .done)))
  .ret) (.seq (.reg (.one ⟨some s27, none, (.mv (.t s1))⟩
    (.one ⟨some s28, none, (.bin false .lss (.t s27) (.c (.v (.int .i64 0))))⟩
    (.one ⟨some s29, none, (.mv (.t s28))⟩
    (.one ⟨some s30, some (s29, false), (.mv (.t s1))⟩
    (.one ⟨some s31, some (s29, false), (.bin false .gtr (.t s30) (.c (.v (.int .i64 3))))⟩
    (.one ⟨some s32, none, (.pick (.t s29) (.c (.v (.bool true))) (.t s31))⟩
    (.one ⟨some s33, none, (.mv (.t s32))⟩
    (.one ⟨some s34, some (s33, false), (.mv (.t s2))⟩
    (.one ⟨some s35, some (s33, false), (.len false (.t s34))⟩
    (.one ⟨some s36, some (s33, false), (.bin false .eql (.t s35) (.c (.v (.int .i64 0))))⟩
    (.one ⟨some s37, none, (.pick (.t s33) (.c (.v (.bool true))) (.t s36))⟩
    (.one ⟨some s38, none, (.mv (.t s37))⟩
    (.one ⟨some s39, some (s38, false), (.mv (.t s2))⟩
    (.one ⟨some s40, some (s38, false), (.len false (.t s39))⟩
    (.one ⟨some s41, some (s38, false), (.bin false .gtr (.t s40) (.c (.v (.int .i64 24))))⟩
    (.one ⟨some s42, none, (.pick (.t s38) (.c (.v (.bool true))) (.t s41))⟩
    (.one ⟨some s43, none, (.mv (.t s42))⟩
    (.one ⟨some s44, some (s43, false), (.mv (.t s2))⟩
    (.one ⟨some s45, some (s43, false), (.mv (.t s10))⟩
    (.one ⟨some s46, some (s43, false), (.callq 43 [(.t s44), (.t s45)])⟩
    (.one ⟨some s47, none, (.pick (.t s43) (.c (.v (.bool true))) (.t s46))⟩
    (.one ⟨some s26, none, (.mv (.t s47))⟩
    .done)))))))))))))))))))))))
  (.cond (.t s26) (.seq (.reg (.one ⟨some s8, none, (.mv (.c (.slice 1 [] .full)))⟩
    (.one ⟨some s9, none, (.mv (.c (.v (.int .i64 1))))⟩
    .done)))
  .ret) .skip)))))
  (.seq (.seq (.reg (.one ⟨some s48, none, (.mv (.t s3))⟩
    .done))
  (.cond (.t s48) (.reg (.one ⟨some s49, none, (.mv (.t s0))⟩
    (.one ⟨some s50, none, (.call 44 [(.t s49)])⟩
    .done))) .skip))
  (.seq (.reg (.one ⟨some s11, none, (.mv (.c (.slice 1 [] .full)))⟩
    .done))
  (.seq (.reg (.one ⟨some s51, none, (.mv (.t s2))⟩
    (.one ⟨some s52, none, (.len false (.t s51))⟩
    (.one ⟨some s53, none, (.bin false .sub (.t s52) (.c (.v (.int .i64 1))))⟩
    (.one ⟨some s12, none, (.mv (.c (.v (.int .i64 0))))⟩
    (.one ⟨some s13, none, (.mv (.t s53))⟩
    .done))))))
  (.seq (.label 0)
  (.seq (.reg (.one ⟨some s55, none, (.mv (.t s0))⟩
    (.one ⟨some s56, none, (.mv (.t s2))⟩
    (.one ⟨some s57, none, (.mv (.t s12))⟩
    (.one ⟨some s58, none, (.iaddr 1 (.t s56) (.t s57))⟩
    (.one ⟨some s59, none, (.load none (.t s58))⟩
    (.one ⟨some s60, none, (.mv (.t s12))⟩
    (.one ⟨some s61, none, (.bin false .gtr (.t s60) (.c (.v (.int .i64 0))))⟩
    (.one ⟨some s62, none, (.mv (.t s61))⟩
    (.one ⟨some s63, some (s62, false), (.mv (.t s1))⟩
    (.one ⟨some s64, some (s62, false), (.bin false .and (.t s63) (.c (.v (.int .i64 2))))⟩
    (.one ⟨some s65, some (s62, false), (.bin false .eql (.t s64) (.c (.v (.int .i64 0))))⟩
    (.one ⟨some s66, none, (.pick (.t s62) (.c (.v (.bool true))) (.t s65))⟩
    (.one ⟨some s67, none, (.mv (.t s12))⟩
    (.one ⟨some s68, none, (.mv (.t s13))⟩
    (.one ⟨some s69, none, (.bin false .lss (.t s67) (.t s68))⟩
    (.one ⟨some s70, none, (.mv (.t s69))⟩
    (.one ⟨some s71, some (s70, false), (.mv (.t s1))⟩
    (.one ⟨some s72, some (s70, false), (.bin false .and (.t s71) (.c (.v (.int .i64 1))))⟩
    (.one ⟨some s73, some (s70, false), (.bin false .eql (.t s72) (.c (.v (.int .i64 0))))⟩
    (.one ⟨some s74, none, (.pick (.t s70) (.c (.v (.bool true))) (.t s73))⟩
    (.one ⟨some s75, none, (.call 45 [(.t s55), (.t s59), (.t s66), (.t s74)])⟩
    (.one ⟨some s54, none, (.mv (.t s75))⟩
    (.one ⟨some s76, none, (.ext (.t s54) 0)⟩
    (.one ⟨some s77, none, (.ext (.t s54) 1)⟩
    (.one ⟨some s14, none, (.mv (.t s76))⟩
    (.one ⟨some s15, none, (.mv (.t s77))⟩
    .done)))))))))))))))))))))))))))
  (.seq (.seq (.reg (.one ⟨some s78, none, (.mv (.t s15))⟩
    .done))
  (.cond (.t s78) (.reg (.one ⟨some s79, none, (.mv (.t s11))⟩
    (.one ⟨some s80, none, (.mv (.t s14))⟩
    (.one ⟨some s81, none, (.row 1 [(.t s80)])⟩
    (.one ⟨some s82, none, (.app 1 24 (.t s79) (.t s81))⟩
    (.one ⟨some s11, none, (.mv (.t s82))⟩
    .done)))))) .skip))
  (.seq (.seq (.reg (.one ⟨some s83, none, (.mv (.t s12))⟩
    (.one ⟨some s84, none, (.mv (.t s13))⟩
    (.one ⟨some s85, none, (.bin false .lss (.t s83) (.t s84))⟩
    .done))))
  (.cond (.t s85) (.seq (.reg (.one ⟨some s86, none, (.mv (.t s12))⟩
    (.one ⟨some s87, none, (.bin false .add (.t s86) (.c (.v (.int .i64 1))))⟩
    (.one ⟨some s12, none, (.mv (.t s87))⟩
    .done))))
  (.goto 0)) .skip))
  (.seq (.reg (.one ⟨some s88, none, (.mv (.t s11))⟩
    (.one ⟨some s8, none, (.mv (.t s88))⟩
    (.one ⟨some s9, none, (.mv (.c (.v (.int .i64 0))))⟩
    .done))))
  .ret))))))))))))⟩
theorem ok15 : compF Try.prog c15 Try.f15 = some ir15 := by kernel_rfl
theorem k_glue_Glue_Put {args : List AVal} {σ : AHeap} {Q : AVal → AHeap → Prop} (hl : Nat.ble args.length 89 = true) (h : argsK (Env.full 9) 0 args fun env => evC Try.prog c15 ir15.body env σ (retQ ir15 Q)) : ACalls Try.prog 15 args σ Q :=
  acalls_of Try.func15 ok15 rfl (Nat.le_of_ble_eq_true hl) h
/- glue.Glue).Held -/
def c16 : Cfg := ⟨qs, [], 10, [], ps⟩
def ir16 : IFun := ⟨1, [.tmp s2],
  (.seq (.reg (.one ⟨some s2, none, (.mv (.c (.v (.int .i64 0))))⟩
    .done))
  (.seq (.seq (.reg (.one ⟨some s3, none, (.mv (.t s0))⟩
    (.one ⟨some s4, none, (.eqNil 1 false (.t s3))⟩
    .done)))
  (.cond (.t s4) (.seq (.reg (.one ⟨some s2, none, (.mv (.c (.v (.int .i64 0))))⟩
    .done))
  .ret) .skip))
  (.seq (.reg (.one ⟨some s5, none, (.mv (.t s0))⟩
    (.one ⟨some s6, none, (.nilchk (.t s5))⟩
    (.one ⟨some s7, none, (.faddr 1 (.t s6))⟩
    (.one ⟨some s8, none, (.load none (.t s7))⟩
    (.one ⟨some s9, none, (.len false (.t s8))⟩
    (.one ⟨some s2, none, (.mv (.t s9))⟩
    .done)))))))
  .ret)))⟩
theorem ok16 : compF Try.prog c16 Try.f16 = some ir16 := by kernel_rfl
theorem k_glue_Glue_Held {args : List AVal} {σ : AHeap} {Q : AVal → AHeap → Prop} (hl : Nat.ble args.length 10 = true) (h : argsK (Env.full 9) 0 args fun env => evC Try.prog c16 ir16.body env σ (retQ ir16 Q)) : ACalls Try.prog 16 args σ Q :=
  acalls_of Try.func16 ok16 rfl (Nat.le_of_ble_eq_true hl) h
/- glue.Glue).Put$1 -/
def c42 : Cfg := ⟨qs, [], 6, [], ps⟩
def ir42 : IFun := ⟨1, [.tmp s2],
  (.seq (.reg (.one ⟨some s2, none, (.mv (.c (.v (.bool false))))⟩
    .done))
  (.seq (.reg (.one ⟨some s3, none, (.mv (.t s0))⟩
    (.one ⟨some s4, none, (.len false (.t s3))⟩
    (.one ⟨some s5, none, (.bin false .eql (.t s4) (.c (.v (.int .i64 0))))⟩
    (.one ⟨some s2, none, (.mv (.t s5))⟩
    .done)))))
  .ret))⟩
theorem ok42 : compF Try.prog c42 Try.f42 = some ir42 := by kernel_rfl
theorem k_glue_Glue_Put_1 {args : List AVal} {σ : AHeap} {Q : AVal → AHeap → Prop} (hl : Nat.ble args.length 6 = true) (h : argsK (Env.full 9) 0 args fun env => evC Try.prog c42 ir42.body env σ (retQ ir42 Q)) : ACalls Try.prog 42 args σ Q :=
  acalls_of Try.func42 ok42 rfl (Nat.le_of_ble_eq_true hl) h
/- glue.Glue).lose -/
def c44 : Cfg := ⟨qs, [], 15, [], ps⟩
def ir44 : IFun := ⟨1, [],
  (.seq (.seq (.reg (.one ⟨some s2, none, (.mv (.t s0))⟩
    (.one ⟨some s3, none, (.nilchk (.t s2))⟩
    (.one ⟨some s4, none, (.faddr 2 (.t s3))⟩
    (.one ⟨some s5, none, (.load none (.t s4))⟩
    .done)))))
  (.cond (.t s5) (.reg (.one ⟨some s6, none, (.mv (.t s0))⟩
    (.one ⟨some s7, none, (.nilchk (.t s6))⟩
    (.one ⟨some s8, none, (.faddr 3 (.t s7))⟩
    (.one ⟨some s9, none, (.load none (.t s8))⟩
    (.one ⟨some s10, none, (.bin false .add (.t s9) (.c (.v (.int .i64 1))))⟩
    (.one ⟨some s11, none, (.nilchk (.t s6))⟩
    (.one ⟨some s12, none, (.faddr 3 (.t s11))⟩
    (.one ⟨none, none, (.store 1 (.t s12) (.t s10))⟩
    .done))))))))) .skip))
  (.reg (.one ⟨some s13, none, (.mv (.t s0))⟩
    (.one ⟨some s14, none, (.call 67 [(.t s13)])⟩
    .done))))⟩
theorem ok44 : compF Try.prog c44 Try.f44 = some ir44 := by kernel_rfl
theorem k_glue_Glue_lose {args : List AVal} {σ : AHeap} {Q : AVal → AHeap → Prop} (hl : Nat.ble args.length 15 = true) (h : argsK (Env.full 9) 0 args fun env => evC Try.prog c44 ir44.body env σ (retQ ir44 Q)) : ACalls Try.prog 44 args σ Q :=
  acalls_of Try.func44 ok44 rfl (Nat.le_of_ble_eq_true hl) h
/- glue.Glue).field -/
def c45 : Cfg := ⟨qs, [], 81, [], ps⟩
def ir45 : IFun := ⟨4, [.tmp s8, .tmp s9],
  (.seq (.reg (.one ⟨some s8, none, (.mv (.c (.slice 1 [] .full)))⟩
    (.one ⟨some s9, none, (.mv (.c (.v (.bool false))))⟩
    .done)))
  (.seq (.block 0 (.seq (.reg (.one ⟨some s12, none, (.mv (.t s2))⟩
    (.one ⟨some s11, none, (.mv (.t s12))⟩
    .done)))
  (.cond (.t s11) (.seq (.reg (.one ⟨some s13, none, (.mv (.t s0))⟩
    (.one ⟨some s14, none, (.call 44 [(.t s13)])⟩
    .done)))
  (.reg (.one ⟨some s15, none, (.mv (.t s0))⟩
    (.one ⟨some s16, none, (.mv (.t s0))⟩
    (.one ⟨some s17, none, (.mv (.t s1))⟩
    (.one ⟨some s18, none, (.callq 36 [(.t s17)])⟩
    (.one ⟨some s19, none, (.nilchk (.t s15))⟩
    (.one ⟨some s20, none, (.faddr 1 (.t s19))⟩
    (.one ⟨none, none, (.store 1 (.t s20) (.t s18))⟩
    (.one ⟨some s21, none, (.nilchk (.t s16))⟩
    (.one ⟨some s22, none, (.faddr 2 (.t s21))⟩
    (.one ⟨none, none, (.store 1 (.t s22) (.c (.v (.bool true))))⟩
    .done)))))))))))) (.seq (.reg (.one ⟨some s24, none, (.mv (.t s0))⟩
    (.one ⟨some s25, none, (.nilchk (.t s24))⟩
    (.one ⟨some s26, none, (.faddr 2 (.t s25))⟩
    (.one ⟨some s27, none, (.load none (.t s26))⟩
    (.one ⟨some s23, none, (.mv (.t s27))⟩
    .done))))))
  (.cond (.t s23) (.reg (.one ⟨some s28, none, (.mv (.t s0))⟩
    (.one ⟨some s29, none, (.mv (.t s0))⟩
    (.one ⟨some s30, none, (.nilchk (.t s29))⟩
    (.one ⟨some s31, none, (.faddr 1 (.t s30))⟩
    (.one ⟨some s32, none, (.load none (.t s31))⟩
    (.one ⟨some s33, none, (.mv (.t s0))⟩
    (.one ⟨some s34, none, (.nilchk (.t s33))⟩
    (.one ⟨some s35, none, (.faddr 1 (.t s34))⟩
    (.one ⟨some s36, none, (.load none (.t s35))⟩
    (.one ⟨some s37, none, (.len false (.t s36))⟩
    (.one ⟨some s38, none, (.mv (.t s0))⟩
    (.one ⟨some s39, none, (.nilchk (.t s38))⟩
    (.one ⟨some s40, none, (.faddr 1 (.t s39))⟩
    (.one ⟨some s41, none, (.load none (.t s40))⟩
    (.one ⟨some s42, none, (.len false (.t s41))⟩
    (.one ⟨some s43, none, (.cut 1 (.t s32) none (some (.t s37)) (some (.t s42)))⟩
    (.one ⟨some s44, none, (.mv (.t s1))⟩
    (.one ⟨some s45, none, (.app 1 1 (.t s43) (.t s44))⟩
    (.one ⟨some s46, none, (.nilchk (.t s28))⟩
    (.one ⟨some s47, none, (.faddr 1 (.t s46))⟩
    (.one ⟨none, none, (.store 1 (.t s47) (.t s45))⟩
    .done)))))))))))))))))))))) (.seq (.reg (.one ⟨some s49, none, (.mv (.t s3))⟩
    (.one ⟨some s48, none, (.mv (.t s49))⟩
    .done)))
  (.cond (.t s48) (.reg (.one ⟨some s50, none, (.mv (.t s0))⟩
    (.one ⟨some s51, none, (.nilchk (.t s50))⟩
    (.one ⟨some s52, none, (.faddr 3 (.t s51))⟩
    (.one ⟨some s53, none, (.load none (.t s52))⟩
    (.one ⟨some s54, none, (.bin false .add (.t s53) (.c (.v (.int .i64 1))))⟩
    (.one ⟨some s55, none, (.nilchk (.t s50))⟩
    (.one ⟨some s56, none, (.faddr 3 (.t s55))⟩
    (.one ⟨none, none, (.store 1 (.t s56) (.t s54))⟩
    .done))))))))) .skip)))))))
  (.seq (.seq (.reg (.one ⟨some s57, none, (.mv (.t s0))⟩
    (.one ⟨some s58, none, (.nilchk (.t s57))⟩
    (.one ⟨some s59, none, (.faddr 1 (.t s58))⟩
    (.one ⟨some s60, none, (.load none (.t s59))⟩
    (.one ⟨some s61, none, (.len false (.t s60))⟩
    (.one ⟨some s62, none, (.bin false .gtr (.t s61) (.c (.v (.int .i64 1000))))⟩
    .done)))))))
  (.cond (.t s62) (.reg (.one ⟨some s63, none, (.mv (.t s0))⟩
    (.one ⟨some s64, none, (.call 44 [(.t s63)])⟩
    .done))) .skip))
  (.seq (.seq (.reg (.one ⟨some s65, none, (.mv (.t s3))⟩
    (.one ⟨some s66, none, (.not (.t s65))⟩
    (.one ⟨some s67, none, (.mv (.t s66))⟩
    (.one ⟨some s68, some (s67, false), (.mv (.t s0))⟩
    (.one ⟨some s69, some (s67, false), (.nilchk (.t s68))⟩
    (.one ⟨some s70, some (s67, false), (.faddr 2 (.t s69))⟩
    (.one ⟨some s71, some (s67, false), (.load none (.t s70))⟩
    (.one ⟨some s72, some (s67, false), (.not (.t s71))⟩
    (.one ⟨some s73, none, (.pick (.t s67) (.c (.v (.bool true))) (.t s72))⟩
    .done))))))))))
  (.cond (.t s73) (.seq (.reg (.one ⟨some s8, none, (.mv (.c (.slice 1 [] .full)))⟩
    (.one ⟨some s9, none, (.mv (.c (.v (.bool false))))⟩
    .done)))
  .ret) .skip))
  (.seq (.reg (.one ⟨some s74, none, (.mv (.t s0))⟩
    (.one ⟨some s75, none, (.nilchk (.t s74))⟩
    (.one ⟨some s76, none, (.faddr 1 (.t s75))⟩
    (.one ⟨some s77, none, (.load none (.t s76))⟩
    (.one ⟨some s10, none, (.mv (.t s77))⟩
    .done))))))
  (.seq (.reg (.one ⟨some s78, none, (.mv (.t s0))⟩
    (.one ⟨some s79, none, (.call 67 [(.t s78)])⟩
    .done)))
  (.seq (.reg (.one ⟨some s80, none, (.mv (.t s10))⟩
    (.one ⟨some s8, none, (.mv (.t s80))⟩
    (.one ⟨some s9, none, (.mv (.c (.v (.bool true))))⟩
    .done))))
  .ret)))))))⟩
theorem ok45 : compF Try.prog c45 Try.f45 = some ir45 := by kernel_rfl
theorem k_glue_Glue_field {args : List AVal} {σ : AHeap} {Q : AVal → AHeap → Prop} (hl : Nat.ble args.length 81 = true) (h : argsK (Env.full 9) 0 args fun env => evC Try.prog c45 ir45.body env σ (retQ ir45 Q)) : ACalls Try.prog 45 args σ Q :=
  acalls_of Try.func45 ok45 rfl (Nat.le_of_ble_eq_true hl) h
/- glue.Glue).Drop -/
def c67 : Cfg := ⟨qs, [], 10, [], ps⟩
def ir67 : IFun := ⟨1, [],
  (.seq (.reg (.one ⟨some s2, none, (.mv (.t s0))⟩
    (.one ⟨some s3, none, (.eqNil 1 true (.t s2))⟩
    .done)))
  (.cond (.t s3) (.reg (.one ⟨some s4, none, (.mv (.t s0))⟩
    (.one ⟨some s5, none, (.mv (.t s0))⟩
    (.one ⟨some s6, none, (.nilchk (.t s4))⟩
    (.one ⟨some s7, none, (.faddr 1 (.t s6))⟩
    (.one ⟨none, none, (.store 1 (.t s7) (.c (.slice 1 [] .full)))⟩
    (.one ⟨some s8, none, (.nilchk (.t s5))⟩
    (.one ⟨some s9, none, (.faddr 2 (.t s8))⟩
    (.one ⟨none, none, (.store 1 (.t s9) (.c (.v (.bool false))))⟩
    .done))))))))) .skip))⟩
theorem ok67 : compF Try.prog c67 Try.f67 = some ir67 := by kernel_rfl
theorem k_glue_Glue_Drop {args : List AVal} {σ : AHeap} {Q : AVal → AHeap → Prop} (hl : Nat.ble args.length 10 = true) (h : argsK (Env.full 9) 0 args fun env => evC Try.prog c67 ir67.body env σ (retQ ir67 Q)) : ACalls Try.prog 67 args σ Q :=
  acalls_of Try.func67 ok67 rfl (Nat.le_of_ble_eq_true hl) h
end Go.Proofs.Ytgbpjbpdpgbngaa
/-
  The bodies of one package, compiled to the framework's language (printed by a program of this session).
-/
namespace Go.Proofs.Ytgbpjbpdpgbngaa
open Go Go.Am
/- bowlinetop.TopReseg -/
def c3 : Cfg := ⟨qs, [], 269, [], ps⟩
def ir3 : IFun := ⟨5, [.tmp s10],
  (.seq (.reg (.one ⟨some s5, none, (.box 7 (.t s0))⟩
    (.one ⟨some s6, none, (.box 7 (.t s1))⟩
    (.one ⟨some s10, none, (.mv (.c (.v (.bool false))))⟩
    .done))))
  (.seq (.reg (.one ⟨some s39, none, (.faddr 2 (.t s5))⟩
    (.one ⟨none, none, (.store 1 (.t s39) (.c (.v (.int .i64 1))))⟩
    (.one ⟨some s40, none, (.faddr 2 (.t s6))⟩
    (.one ⟨none, none, (.store 1 (.t s40) (.c (.v (.int .i64 2))))⟩
    .done)))))
  (.seq (.seq (.reg (.one ⟨some s41, none, (.faddr 6 (.t s5))⟩
    (.one ⟨some s42, none, (.load none (.t s41))⟩
    (.one ⟨some s43, none, (.len false (.t s42))⟩
    (.one ⟨some s44, none, (.faddr 6 (.t s6))⟩
    (.one ⟨some s45, none, (.load none (.t s44))⟩
    (.one ⟨some s46, none, (.len false (.t s45))⟩
    (.one ⟨some s47, none, (.bin false .add (.t s43) (.t s46))⟩
    (.one ⟨some s48, none, (.bin false .gtr (.t s47) (.c (.v (.int .i64 30))))⟩
    (.one ⟨some s49, none, (.mv (.t s48))⟩
    (.one ⟨some s50, some (s49, false), (.load (some 7) (.t s5))⟩
    (.one ⟨some s51, some (s49, false), (.mv (.t s4))⟩
    (.one ⟨some s52, some (s49, false), (.callq 4 [(.t s50), (.t s51)])⟩
    (.one ⟨some s53, some (s49, false), (.not (.t s52))⟩
    (.one ⟨some s54, none, (.pick (.t s49) (.c (.v (.bool true))) (.t s53))⟩
    (.one ⟨some s55, none, (.mv (.t s54))⟩
    (.one ⟨some s56, some (s55, false), (.load (some 7) (.t s6))⟩
    (.one ⟨some s57, some (s55, false), (.mv (.t s4))⟩
    (.one ⟨some s58, some (s55, false), (.callq 4 [(.t s56), (.t s57)])⟩
    (.one ⟨some s59, some (s55, false), (.not (.t s58))⟩
    (.one ⟨some s60, none, (.pick (.t s55) (.c (.v (.bool true))) (.t s59))⟩
    (.one ⟨some s61, none, (.mv (.t s60))⟩
    (.one ⟨some s62, some (s61, false), (.faddr 3 (.t s5))⟩
    (.one ⟨some s63, some (s61, false), (.load none (.t s62))⟩
    (.one ⟨some s64, none, (.pick (.t s61) (.c (.v (.bool true))) (.t s63))⟩
    (.one ⟨some s65, none, (.mv (.t s64))⟩
    (.one ⟨some s66, some (s65, false), (.faddr 3 (.t s6))⟩
    (.one ⟨some s67, some (s65, false), (.load none (.t s66))⟩
    (.one ⟨some s68, none, (.pick (.t s65) (.c (.v (.bool true))) (.t s67))⟩
    (.one ⟨some s69, none, (.mv (.t s68))⟩
    (.one ⟨some s70, some (s69, false), (.mv (.t s2))⟩
    (.one ⟨some s71, some (s69, false), (.len false (.t s70))⟩
    (.one ⟨some s72, some (s69, false), (.bin false .eql (.t s71) (.c (.v (.int .i64 0))))⟩
    (.one ⟨some s73, none, (.pick (.t s69) (.c (.v (.bool true))) (.t s72))⟩
    .done))))))))))))))))))))))))))))))))))
  (.cond (.t s73) (.seq (.reg (.one ⟨some s74, none, (.callq 5 [])⟩
    (.one ⟨some s10, none, (.mv (.t s74))⟩
    .done)))
  .ret) .skip))
  (.seq (.seq (.reg (.one ⟨some s75, none, (.load (some 7) (.t s5))⟩
    (.one ⟨some s78, none, (.load (some 7) (.t s6))⟩
    (.one ⟨some s76, none, (.callq 6 [(.t s75)])⟩
    (.one ⟨some s77, none, (.len false (.t s76))⟩
    (.one ⟨some s79, none, (.callq 6 [(.t s78)])⟩
    (.one ⟨some s80, none, (.len false (.t s79))⟩
    (.one ⟨some s81, none, (.bin false .add (.t s77) (.t s80))⟩
    (.one ⟨some s82, none, (.bin false .gtr (.t s81) (.c (.v (.int .i64 1000))))⟩
    .done)))))))))
  (.cond (.t s82) (.seq (.reg (.one ⟨some s83, none, (.callq 5 [])⟩
    (.one ⟨some s10, none, (.mv (.t s83))⟩
    .done)))
  .ret) .skip))
  (.seq (.reg (.one ⟨some s11, none, (.mv (.c (.slice 1 [] .full)))⟩
    .done))
  (.seq (.seq (.reg (.one ⟨some s12, none, (.mv (.c (.v (.int .i64 0))))⟩
    .done))
  (.block 0 (.loop (.seq (.seq (.reg (.one ⟨some s84, none, (.mv (.t s12))⟩
    (.one ⟨some s85, none, (.bin false .lss (.t s84) (.c (.v (.int .i64 2))))⟩
    .done)))
  (.cond (.t s85) .skip (.exit 0)))
  (.seq (.block 1 (.seq (.reg (.one ⟨some s88, none, (.load (some 7) (.t s5))⟩
    (.one ⟨some s13, none, (.new [(.v (.bool false)), (.v (.int .i64 0)), (.v (.int .i64 0)), (.v (.bool false)), (.v (.bool false)), (.v (.int .i64 0)), (.slice 1 [] .full)])⟩
    (.one ⟨none, none, (.store 7 (.t s13) (.t s88))⟩
    .done))))
  (.seq (.seq (.reg (.one ⟨some s89, none, (.mv (.t s12))⟩
    (.one ⟨some s90, none, (.bin false .eql (.t s89) (.c (.v (.int .i64 1))))⟩
    .done)))
  (.cond (.t s90) (.reg (.one ⟨some s91, none, (.load (some 7) (.t s6))⟩
    (.one ⟨none, none, (.store 7 (.t s13) (.t s91))⟩
    .done))) .skip))
  (.seq (.reg (.one ⟨some s92, none, (.load (some 7) (.t s13))⟩
    (.one ⟨some s93, none, (.callq 6 [(.t s92)])⟩
    (.one ⟨some s94, none, (.len false (.t s93))⟩
    (.one ⟨some s14, none, (.mv (.t s94))⟩
    .done)))))
  (.seq (.reg (.one ⟨some s15, none, (.mv (.c (.v (.int .i64 0))))⟩
    .done))
  (.block 2 (.loop (.seq (.seq (.reg (.one ⟨some s95, none, (.mv (.t s15))⟩
    (.one ⟨some s96, none, (.mv (.t s14))⟩
    (.one ⟨some s97, none, (.bin false .lss (.t s95) (.t s96))⟩
    .done))))
  (.cond (.t s97) .skip (.exit 2)))
  (.block 3 (.seq (.reg (.one ⟨some s99, none, (.load (some 7) (.t s13))⟩
    (.one ⟨some s100, none, (.mv (.t s15))⟩
    (.one ⟨some s101, none, (.mv (.t s14))⟩
    (.one ⟨some s102, none, (.mv (.t s4))⟩
    (.one ⟨some s103, none, (.callp 8 [(.t s102)])⟩
    (.one ⟨some s104, none, (.mv (.t s2))⟩
    (.one ⟨some s105, none, (.mv (.t s11))⟩
    (.one ⟨some s106, none, (.len false (.t s105))⟩
    (.one ⟨some s107, none, (.mv (.t s2))⟩
    (.one ⟨some s108, none, (.len false (.t s107))⟩
    (.one ⟨some s109, none, (.bin false .rem (.t s106) (.t s108))⟩
    (.one ⟨some s110, none, (.iaddr 1 (.t s104) (.t s109))⟩
    (.one ⟨some s111, none, (.load none (.t s110))⟩
    (.one ⟨some s112, none, (.conv .i64 (.t s111))⟩
    (.one ⟨some s113, none, (.bin false .rem (.t s112) (.c (.v (.int .i64 50))))⟩
    (.one ⟨some s114, none, (.bin false .add (.t s103) (.t s113))⟩
    (.one ⟨some s115, none, (.mv (.t s4))⟩
    (.one ⟨some s116, none, (.callp 7 [(.t s99), (.t s100), (.t s101), (.t s114), (.t s115)])⟩
    (.one ⟨some s98, none, (.mv (.t s116))⟩
    (.one ⟨some s117, none, (.ext (.t s98) 0)⟩
    (.one ⟨some s118, none, (.ext (.t s98) 1)⟩
    (.one ⟨some s119, none, (.ext (.t s98) 2)⟩
    (.one ⟨some s16, none, (.new [(.v (.bool false)), (.v (.int .i64 0)), (.v (.int .i64 0)), (.v (.bool false)), (.v (.bool false)), (.v (.int .i64 0)), (.slice 1 [] .full)])⟩
    (.one ⟨none, none, (.store 7 (.t s16) (.t s117))⟩
    (.one ⟨some s17, none, (.mv (.t s118))⟩
    (.one ⟨some s18, none, (.mv (.t s119))⟩
    .done)))))))))))))))))))))))))))
  (.seq (.seq (.reg (.one ⟨some s120, none, (.mv (.t s18))⟩
    (.one ⟨some s121, none, (.bin false .neq (.t s120) (.c (.v (.int .i64 0))))⟩
    (.one ⟨some s122, none, (.mv (.t s121))⟩
    (.one ⟨some s123, some (s122, false), (.mv (.t s17))⟩
    (.one ⟨some s124, some (s122, false), (.mv (.t s15))⟩
    (.one ⟨some s125, some (s122, false), (.bin false .leq (.t s123) (.t s124))⟩
    (.one ⟨some s126, none, (.pick (.t s122) (.c (.v (.bool true))) (.t s125))⟩
    .done))))))))
  (.cond (.t s126) (.seq (.reg (.one ⟨some s10, none, (.mv (.c (.v (.bool false))))⟩
    .done))
  .ret) .skip))
  (.seq (.reg (.one ⟨some s128, none, (.load (some 7) (.t s16))⟩
    (.one ⟨some s129, none, (.mv (.t s4))⟩
    (.one ⟨some s130, none, (.callq 9 [(.t s128), (.t s129)])⟩
    (.one ⟨some s127, none, (.mv (.t s130))⟩
    (.one ⟨some s131, none, (.ext (.t s127) 0)⟩
    (.one ⟨some s132, none, (.ext (.t s127) 1)⟩
    (.one ⟨some s19, none, (.mv (.t s131))⟩
    (.one ⟨some s20, none, (.mv (.t s132))⟩
    .done)))))))))
  (.seq (.seq (.reg (.one ⟨some s133, none, (.mv (.t s20))⟩
    (.one ⟨some s134, none, (.bin false .neq (.t s133) (.c (.v (.int .i64 0))))⟩
    .done)))
  (.cond (.t s134) (.seq (.reg (.one ⟨some s10, none, (.mv (.c (.v (.bool false))))⟩
    .done))
  .ret) .skip))
  (.seq (.reg (.one ⟨some s135, none, (.mv (.t s11))⟩
    (.one ⟨some s136, none, (.mv (.t s19))⟩
    (.one ⟨some s137, none, (.row 1 [(.t s136)])⟩
    (.one ⟨some s138, none, (.app 1 24 (.t s135) (.t s137))⟩
    (.one ⟨some s11, none, (.mv (.t s138))⟩
    .done))))))
  (.reg (.one ⟨some s139, none, (.mv (.t s17))⟩
    (.one ⟨some s15, none, (.mv (.t s139))⟩
    .done)))))))))))))))))
  (.reg (.one ⟨some s86, none, (.mv (.t s12))⟩
    (.one ⟨some s87, none, (.bin false .add (.t s86) (.c (.v (.int .i64 1))))⟩
    (.one ⟨some s12, none, (.mv (.t s87))⟩
    .done)))))))))
  (.seq (.reg (.one ⟨some s140, none, (.callq 10 [])⟩
    (.one ⟨some s21, none, (.mv (.t s140))⟩
    .done)))
  (.seq (.seq (.reg (.one ⟨some s22, none, (.mv (.c (.v (.int .i64 0))))⟩
    .done))
  (.block 4 (.loop (.seq (.seq (.reg (.one ⟨some s141, none, (.mv (.t s22))⟩
    (.one ⟨some s142, none, (.mv (.t s3))⟩
    (.one ⟨some s143, none, (.len false (.t s142))⟩
    (.one ⟨some s144, none, (.mv (.t s11))⟩
    (.one ⟨some s145, none, (.len false (.t s144))⟩
    (.one ⟨some s146, none, (.bin false .add (.t s143) (.t s145))⟩
    (.one ⟨some s147, none, (.bin false .lss (.t s141) (.t s146))⟩
    .done))))))))
  (.cond (.t s147) .skip (.exit 4)))
  (.seq (.block 5 (.seq (.reg (.one ⟨some s150, none, (.mv (.t s22))⟩
    (.one ⟨some s151, none, (.mv (.t s3))⟩
    (.one ⟨some s152, none, (.len false (.t s151))⟩
    (.one ⟨some s153, none, (.bin false .sub (.t s150) (.t s152))⟩
    (.one ⟨some s23, none, (.mv (.t s153))⟩
    .done))))))
  (.seq (.seq (.reg (.one ⟨some s154, none, (.mv (.t s22))⟩
    (.one ⟨some s155, none, (.mv (.t s3))⟩
    (.one ⟨some s156, none, (.len false (.t s155))⟩
    (.one ⟨some s157, none, (.bin false .lss (.t s154) (.t s156))⟩
    .done)))))
  (.cond (.t s157) (.reg (.one ⟨some s158, none, (.mv (.t s3))⟩
    (.one ⟨some s159, none, (.mv (.t s22))⟩
    (.one ⟨some s160, none, (.iaddr 1 (.t s158) (.t s159))⟩
    (.one ⟨some s161, none, (.load none (.t s160))⟩
    (.one ⟨some s162, none, (.conv .i64 (.t s161))⟩
    (.one ⟨some s163, none, (.mv (.t s11))⟩
    (.one ⟨some s164, none, (.len false (.t s163))⟩
    (.one ⟨some s165, none, (.bin false .rem (.t s162) (.t s164))⟩
    (.one ⟨some s23, none, (.mv (.t s165))⟩
    .done)))))))))) .skip))
  (.seq (.reg (.one ⟨some s167, none, (.mv (.t s11))⟩
    (.one ⟨some s168, none, (.mv (.t s23))⟩
    (.one ⟨some s169, none, (.iaddr 1 (.t s167) (.t s168))⟩
    (.one ⟨some s170, none, (.load none (.t s169))⟩
    (.one ⟨some s171, none, (.mv (.t s4))⟩
    (.one ⟨some s172, none, (.callq 11 [(.t s170), (.t s171)])⟩
    (.one ⟨some s166, none, (.mv (.t s172))⟩
    (.one ⟨some s173, none, (.ext (.t s166) 0)⟩
    (.one ⟨some s174, none, (.ext (.t s166) 1)⟩
    (.one ⟨some s24, none, (.new [(.v (.bool false)), (.v (.int .i64 0)), (.v (.int .i64 0)), (.v (.bool false)), (.v (.bool false)), (.v (.int .i64 0)), (.slice 1 [] .full)])⟩
    (.one ⟨none, none, (.store 7 (.t s24) (.t s173))⟩
    (.one ⟨some s25, none, (.mv (.t s174))⟩
    .done)))))))))))))
  (.seq (.reg (.one ⟨some s175, none, (.mv (.t s21))⟩
    (.one ⟨some s176, none, (.load (some 7) (.t s24))⟩
    (.one ⟨some s177, none, (.call 12 [(.t s175), (.t s176)])⟩
    (.one ⟨some s26, none, (.mv (.t s177))⟩
    .done)))))
  (.seq (.reg (.one ⟨some s178, none, (.mv (.t s25))⟩
    (.one ⟨some s179, none, (.bin false .neq (.t s178) (.c (.v (.int .i64 0))))⟩
    (.one ⟨some s180, none, (.mv (.t s179))⟩
    (.one ⟨some s181, some (s180, false), (.mv (.t s26))⟩
    (.one ⟨some s182, some (s180, false), (.bin false .neq (.t s181) (.c (.v (.int .i64 0))))⟩
    (.one ⟨some s183, some (s180, false), (.mv (.t s182))⟩
    (.one ⟨some s184, some (s183, true), (.mv (.t s26))⟩
    (.one ⟨some s185, some (s183, true), (.bin false .neq (.t s184) (.c (.v (.int .i64 12))))⟩
    (.one ⟨some s186, some (s180, false), (.pick (.t s183) (.t s185) (.c (.v (.bool false))))⟩
    (.one ⟨some s187, none, (.pick (.t s180) (.c (.v (.bool true))) (.t s186))⟩
    .done)))))))))))
  (.cond (.t s187) (.seq (.reg (.one ⟨some s10, none, (.mv (.c (.v (.bool false))))⟩
    .done))
  .ret) .skip)))))))
  (.reg (.one ⟨some s148, none, (.mv (.t s22))⟩
    (.one ⟨some s149, none, (.bin false .add (.t s148) (.c (.v (.int .i64 1))))⟩
    (.one ⟨some s22, none, (.mv (.t s149))⟩
    .done)))))))))
  (.seq (.reg (.one ⟨some s188, none, (.callq 13 [])⟩
    (.one ⟨some s189, none, (.callq 13 [])⟩
    (.one ⟨some s27, none, (.mv (.t s188))⟩
    (.one ⟨some s28, none, (.mv (.t s189))⟩
    .done)))))
  (.seq (.seq (.reg (.one ⟨some s29, none, (.mv (.c (.v (.int .i64 0))))⟩
    .done))
  (.block 6 (.loop (.seq (.seq (.reg (.one ⟨some s190, none, (.mv (.t s29))⟩
    (.one ⟨some s191, none, (.bin false .lss (.t s190) (.c (.v (.int .i64 2))))⟩
    .done)))
  (.cond (.t s191) .skip (.exit 6)))
  (.seq (.block 7 (.seq (.reg (.one ⟨some s194, none, (.load (some 7) (.t s5))⟩
    (.one ⟨some s30, none, (.new [(.v (.bool false)), (.v (.int .i64 0)), (.v (.int .i64 0)), (.v (.bool false)), (.v (.bool false)), (.v (.int .i64 0)), (.slice 1 [] .full)])⟩
    (.one ⟨none, none, (.store 7 (.t s30) (.t s194))⟩
    .done))))
  (.seq (.seq (.reg (.one ⟨some s195, none, (.mv (.t s29))⟩
    (.one ⟨some s196, none, (.bin false .eql (.t s195) (.c (.v (.int .i64 1))))⟩
    .done)))
  (.cond (.t s196) (.reg (.one ⟨some s197, none, (.load (some 7) (.t s6))⟩
    (.one ⟨none, none, (.store 7 (.t s30) (.t s197))⟩
    .done))) .skip))
  (.seq (.reg (.one ⟨some s199, none, (.mv (.t s21))⟩
    (.one ⟨some s200, none, (.faddr 2 (.t s30))⟩
    (.one ⟨some s201, none, (.load none (.t s200))⟩
    (.one ⟨some s202, none, (.call 14 [(.t s199), (.t s201)])⟩
    (.one ⟨some s198, none, (.mv (.t s202))⟩
    (.one ⟨some s203, none, (.ext (.t s198) 0)⟩
    (.one ⟨some s204, none, (.ext (.t s198) 1)⟩
    (.one ⟨some s205, none, (.ext (.t s198) 2)⟩
    (.one ⟨some s31, none, (.mv (.t s203))⟩
    (.one ⟨some s32, none, (.mv (.t s204))⟩
    (.one ⟨some s33, none, (.mv (.t s205))⟩
    .done))))))))))))
  (.seq (.reg (.one ⟨some s207, none, (.mv (.t s27))⟩
    (.one ⟨some s208, none, (.mv (.t s31))⟩
    (.one ⟨some s209, none, (.mv (.t s32))⟩
    (.one ⟨some s210, none, (.call 15 [(.t s207), (.t s208), (.t s209), (.c (.v (.bool false)))])⟩
    (.one ⟨some s206, none, (.mv (.t s210))⟩
    (.one ⟨some s211, none, (.ext (.t s206) 0)⟩
    (.one ⟨some s212, none, (.ext (.t s206) 1)⟩
    (.one ⟨some s34, none, (.mv (.t s211))⟩
    (.one ⟨some s35, none, (.mv (.t s212))⟩
    .done))))))))))
  (.seq (.reg (.one ⟨some s214, none, (.mv (.t s28))⟩
    (.one ⟨some s215, none, (.faddr 1 (.t s30))⟩
    (.one ⟨some s216, none, (.load none (.t s215))⟩
    (.one ⟨some s217, none, (.faddr 6 (.t s30))⟩
    (.one ⟨some s218, none, (.load none (.t s217))⟩
    (.one ⟨some s219, none, (.call 15 [(.t s214), (.t s216), (.t s218), (.c (.v (.bool false)))])⟩
    (.one ⟨some s213, none, (.mv (.t s219))⟩
    (.one ⟨some s220, none, (.ext (.t s213) 0)⟩
    (.one ⟨some s221, none, (.ext (.t s213) 1)⟩
    (.one ⟨some s36, none, (.mv (.t s220))⟩
    (.one ⟨some s37, none, (.mv (.t s221))⟩
    .done))))))))))))
  (.seq (.seq (.reg (.one ⟨some s222, none, (.mv (.t s33))⟩
    (.one ⟨some s223, none, (.bin false .neq (.t s222) (.c (.v (.int .i64 0))))⟩
    (.one ⟨some s224, none, (.mv (.t s223))⟩
    (.one ⟨some s225, some (s224, false), (.mv (.t s35))⟩
    (.one ⟨some s226, some (s224, false), (.bin false .neq (.t s225) (.c (.v (.int .i64 0))))⟩
    (.one ⟨some s227, none, (.pick (.t s224) (.c (.v (.bool true))) (.t s226))⟩
    (.one ⟨some s228, none, (.mv (.t s227))⟩
    (.one ⟨some s229, some (s228, false), (.mv (.t s37))⟩
    (.one ⟨some s230, some (s228, false), (.bin false .neq (.t s229) (.c (.v (.int .i64 0))))⟩
    (.one ⟨some s231, none, (.pick (.t s228) (.c (.v (.bool true))) (.t s230))⟩
    (.one ⟨some s232, none, (.mv (.t s231))⟩
    (.one ⟨some s233, some (s232, false), (.mv (.t s34))⟩
    (.one ⟨some s234, some (s232, false), (.len false (.t s233))⟩
    (.one ⟨some s235, some (s232, false), (.mv (.t s36))⟩
    (.one ⟨some s236, some (s232, false), (.len false (.t s235))⟩
    (.one ⟨some s237, some (s232, false), (.bin false .neq (.t s234) (.t s236))⟩
    (.one ⟨some s238, none, (.pick (.t s232) (.c (.v (.bool true))) (.t s237))⟩
    .done))))))))))))))))))
  (.cond (.t s238) (.seq (.reg (.one ⟨some s10, none, (.mv (.c (.v (.bool false))))⟩
    .done))
  .ret) .skip))
  (.seq (.reg (.one ⟨some s38, none, (.mv (.c (.v (.int .i64 0))))⟩
    .done))
  (.block 8 (.loop (.seq (.seq (.reg (.one ⟨some s239, none, (.mv (.t s38))⟩
    (.one ⟨some s240, none, (.mv (.t s34))⟩
    (.one ⟨some s241, none, (.len false (.t s240))⟩
    (.one ⟨some s242, none, (.bin false .lss (.t s239) (.t s241))⟩
    .done)))))
  (.cond (.t s242) .skip (.exit 8)))
  (.seq (.block 9 (.seq (.reg (.one ⟨some s245, none, (.mv (.t s34))⟩
    (.one ⟨some s246, none, (.mv (.t s38))⟩
    (.one ⟨some s247, none, (.iaddr 1 (.t s245) (.t s246))⟩
    (.one ⟨some s248, none, (.load none (.t s247))⟩
    (.one ⟨some s249, none, (.b2s (.t s248))⟩
    (.one ⟨some s250, none, (.mv (.t s36))⟩
    (.one ⟨some s251, none, (.mv (.t s38))⟩
    (.one ⟨some s252, none, (.iaddr 1 (.t s250) (.t s251))⟩
    (.one ⟨some s253, none, (.load none (.t s252))⟩
    (.one ⟨some s254, none, (.b2s (.t s253))⟩
    (.one ⟨some s255, none, (.bin false .neq (.t s249) (.t s254))⟩
    .done))))))))))))
  (.cond (.t s255) (.seq (.reg (.one ⟨some s10, none, (.mv (.c (.v (.bool false))))⟩
    .done))
  .ret) .skip)))
  (.reg (.one ⟨some s243, none, (.mv (.t s38))⟩
    (.one ⟨some s244, none, (.bin false .add (.t s243) (.c (.v (.int .i64 1))))⟩
    (.one ⟨some s38, none, (.mv (.t s244))⟩
    .done))))))))))))))))
  (.reg (.one ⟨some s192, none, (.mv (.t s29))⟩
    (.one ⟨some s193, none, (.bin false .add (.t s192) (.c (.v (.int .i64 1))))⟩
    (.one ⟨some s29, none, (.mv (.t s193))⟩
    .done)))))))))
  (.seq (.reg (.one ⟨some s256, none, (.callq 5 [])⟩
    (.one ⟨some s257, none, (.mv (.t s256))⟩
    (.one ⟨some s258, some (s257, true), (.mv (.t s27))⟩
    (.one ⟨some s259, some (s257, true), (.callq 16 [(.t s258)])⟩
    (.one ⟨some s260, some (s257, true), (.mv (.t s28))⟩
    (.one ⟨some s261, some (s257, true), (.callq 16 [(.t s260)])⟩
    (.one ⟨some s262, some (s257, true), (.bin false .eql (.t s259) (.t s261))⟩
    (.one ⟨some s263, none, (.pick (.t s257) (.t s262) (.c (.v (.bool false))))⟩
    (.one ⟨some s264, none, (.mv (.t s263))⟩
    (.one ⟨some s265, some (s264, true), (.mv (.t s21))⟩
    (.one ⟨some s266, some (s264, true), (.callq 17 [(.t s265)])⟩
    (.one ⟨some s267, some (s264, true), (.bin false .eql (.t s266) (.c (.v (.int .i64 0))))⟩
    (.one ⟨some s268, none, (.pick (.t s264) (.t s267) (.c (.v (.bool false))))⟩
    (.one ⟨some s10, none, (.mv (.t s268))⟩
    .done)))))))))))))))
  .ret)))))))))))⟩
theorem ok3 : compF Try.prog c3 Try.f3 = some ir3 := by kernel_rfl
theorem k_bowlinetop_TopReseg {args : List AVal} {σ : AHeap} {Q : AVal → AHeap → Prop} (hl : Nat.ble args.length 269 = true) (h : argsK (Env.full 9) 0 args fun env => evC Try.prog c3 ir3.body env σ (retQ ir3 Q)) : ACalls Try.prog 3 args σ Q :=
  acalls_of Try.func3 ok3 rfl (Nat.le_of_ble_eq_true hl) h
/- bowlinetop.alive12 -/
def c5 : Cfg := ⟨qs, [], 67, [11, 13], ps⟩
def ir5 : IFun := ⟨0, [.tmp s0],
  (.seq (.reg (.one ⟨some s0, none, (.mv (.c (.v (.bool false))))⟩
    .done))
  (.seq (.reg (.one ⟨some s11, none, (.rowT 1 [(.c (.v (.int .u8 97))), (.c (.v (.int .u8 98)))])⟩
    (.one ⟨some s12, none, (.mark (.t s11))⟩
    (.one ⟨some s13, none, (.rowT 1 [(.c (.v (.int .u8 99))), (.c (.v (.int .u8 100)))])⟩
    (.one ⟨some s14, none, (.mark (.t s13))⟩
    (.one ⟨some s15, none, (.row 1 [(.t s12), (.t s14)])⟩
    (.one ⟨some s16, none, (.build [(.v (.bool false)), (.v (.int .i64 0)), (.v (.int .i64 0)), (.v (.bool false)), (.v (.bool false)), (.v (.int .i64 0)), (.slice 1 [] .full)] [(2, 1, (.c (.v (.int .i64 1)))), (6, 1, (.t s15))])⟩
    (.one ⟨some s1, none, (.new [(.v (.bool false)), (.v (.int .i64 0)), (.v (.int .i64 0)), (.v (.bool false)), (.v (.bool false)), (.v (.int .i64 0)), (.slice 1 [] .full)])⟩
    (.one ⟨none, none, (.store 7 (.t s1) (.t s16))⟩
    .done)))))))))
  (.seq (.reg (.one ⟨some s18, none, (.load (some 7) (.t s1))⟩
    (.one ⟨some s19, none, (.callp 7 [(.t s18), (.c (.v (.int .i64 0))), (.c (.v (.int .i64 4))), (.c (.v (.int .i64 7))), (.c (.v (.int .i64 10)))])⟩
    (.one ⟨some s17, none, (.mv (.t s19))⟩
    (.one ⟨some s20, none, (.ext (.t s17) 0)⟩
    (.one ⟨some s21, none, (.ext (.t s17) 1)⟩
    (.one ⟨some s22, none, (.ext (.t s17) 2)⟩
    (.one ⟨some s2, none, (.new [(.v (.bool false)), (.v (.int .i64 0)), (.v (.int .i64 0)), (.v (.bool false)), (.v (.bool false)), (.v (.int .i64 0)), (.slice 1 [] .full)])⟩
    (.one ⟨none, none, (.store 7 (.t s2) (.t s20))⟩
    (.one ⟨some s3, none, (.mv (.t s21))⟩
    (.one ⟨some s4, none, (.mv (.t s22))⟩
    .done)))))))))))
  (.seq (.reg (.one ⟨some s23, none, (.callq 10 [])⟩
    (.one ⟨some s5, none, (.mv (.t s23))⟩
    .done)))
  (.seq (.reg (.one ⟨some s24, none, (.mv (.t s5))⟩
    (.one ⟨some s25, none, (.load (some 7) (.t s2))⟩
    (.one ⟨some s26, none, (.call 12 [(.t s24), (.t s25)])⟩
    (.one ⟨some s6, none, (.mv (.t s26))⟩
    .done)))))
  (.seq (.reg (.one ⟨some s27, none, (.mv (.t s5))⟩
    (.one ⟨some s28, none, (.load (some 7) (.t s1))⟩
    (.one ⟨some s29, none, (.call 12 [(.t s27), (.t s28)])⟩
    (.one ⟨some s7, none, (.mv (.t s29))⟩
    .done)))))
  (.seq (.reg (.one ⟨some s31, none, (.mv (.t s5))⟩
    (.one ⟨some s32, none, (.call 14 [(.t s31), (.c (.v (.int .i64 1)))])⟩
    (.one ⟨some s30, none, (.mv (.t s32))⟩
    (.one ⟨some s33, none, (.ext (.t s30) 0)⟩
    (.one ⟨some s34, none, (.ext (.t s30) 1)⟩
    (.one ⟨some s35, none, (.ext (.t s30) 2)⟩
    (.one ⟨some s8, none, (.mv (.t s33))⟩
    (.one ⟨some s9, none, (.mv (.t s34))⟩
    (.one ⟨some s10, none, (.mv (.t s35))⟩
    .done))))))))))
  (.seq (.reg (.one ⟨some s36, none, (.mv (.t s4))⟩
    (.one ⟨some s37, none, (.bin false .eql (.t s36) (.c (.v (.int .i64 0))))⟩
    (.one ⟨some s38, none, (.mv (.t s37))⟩
    (.one ⟨some s39, some (s38, true), (.mv (.t s3))⟩
    (.one ⟨some s40, some (s38, true), (.mv (.t s9))⟩
    (.one ⟨some s41, some (s38, true), (.len false (.t s40))⟩
    (.one ⟨some s42, some (s38, true), (.bin false .quo (.t s41) (.c (.v (.int .i64 2))))⟩
    (.one ⟨some s43, some (s38, true), (.bin false .add (.c (.v (.int .i64 1))) (.t s42))⟩
    (.one ⟨some s44, some (s38, true), (.bin false .eql (.t s39) (.t s43))⟩
    (.one ⟨some s45, none, (.pick (.t s38) (.t s44) (.c (.v (.bool false))))⟩
    (.one ⟨some s46, none, (.mv (.t s45))⟩
    (.one ⟨some s47, some (s46, true), (.mv (.t s6))⟩
    (.one ⟨some s48, some (s46, true), (.bin false .eql (.t s47) (.c (.v (.int .i64 0))))⟩
    (.one ⟨some s49, none, (.pick (.t s46) (.t s48) (.c (.v (.bool false))))⟩
    (.one ⟨some s50, none, (.mv (.t s49))⟩
    (.one ⟨some s51, some (s50, true), (.mv (.t s7))⟩
    (.one ⟨some s52, some (s50, true), (.bin false .eql (.t s51) (.c (.v (.int .i64 0))))⟩
    (.one ⟨some s53, none, (.pick (.t s50) (.t s52) (.c (.v (.bool false))))⟩
    (.one ⟨some s54, none, (.mv (.t s53))⟩
    (.one ⟨some s55, some (s54, true), (.mv (.t s8))⟩
    (.one ⟨some s56, some (s54, true), (.bin false .eql (.t s55) (.c (.v (.int .i64 0))))⟩
    (.one ⟨some s57, none, (.pick (.t s54) (.t s56) (.c (.v (.bool false))))⟩
    (.one ⟨some s58, none, (.mv (.t s57))⟩
    (.one ⟨some s59, some (s58, true), (.mv (.t s9))⟩
    (.one ⟨some s60, some (s58, true), (.len false (.t s59))⟩
    (.one ⟨some s61, some (s58, true), (.bin false .eql (.t s60) (.c (.v (.int .i64 2))))⟩
    (.one ⟨some s62, none, (.pick (.t s58) (.t s61) (.c (.v (.bool false))))⟩
    (.one ⟨some s63, none, (.mv (.t s62))⟩
    (.one ⟨some s64, some (s63, true), (.mv (.t s10))⟩
    (.one ⟨some s65, some (s63, true), (.bin false .eql (.t s64) (.c (.v (.int .i64 0))))⟩
    (.one ⟨some s66, none, (.pick (.t s63) (.t s65) (.c (.v (.bool false))))⟩
    (.one ⟨some s0, none, (.mv (.t s66))⟩
    .done)))))))))))))))))))))))))))))))))
  .ret))))))))⟩
theorem ok5 : compF Try.prog c5 Try.f5 = some ir5 := by kernel_rfl
theorem k_bowlinetop_alive12 {args : List AVal} {σ : AHeap} {Q : AVal → AHeap → Prop} (hl : Nat.ble args.length 67 = true) (h : argsK (Env.full 9) 0 args fun env => evC Try.prog c5 ir5.body env σ (retQ ir5 Q)) : ACalls Try.prog 5 args σ Q :=
  acalls_of Try.func5 ok5 rfl (Nat.le_of_ble_eq_true hl) h
end Go.Proofs.Ytgbpjbpdpgbngaa
