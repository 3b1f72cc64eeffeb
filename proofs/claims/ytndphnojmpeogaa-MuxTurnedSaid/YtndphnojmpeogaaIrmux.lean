/-
  The bodies of one package, compiled to the framework's language (printed by a program of this session).
-/
import Derived.Test.YtndphnojmpeogaaIr0
namespace Go.Proofs.Ytndphnojmpeogaa
set_option linter.unusedVariables false
set_option linter.unusedSimpArgs false
open Go Go.Am
/- mux.Read -/
def c13 : Cfg := ⟨qs, false, 77, []⟩
def ir13 : IFun := ⟨1, [.tmp s2, .tmp s3],
  (.seq (.reg (.one ⟨some s2, none, (.mv (.c (.slice 2 [] .full)))⟩
    (.one ⟨some s3, none, (.mv (.c (.v (.int .i64 0))))⟩
    .done)))
  (.scope (.seq (.seq (.reg (.one ⟨some s13, none, (.mv (.t s0))⟩
    (.one ⟨some s14, none, (.len false (.t s13))⟩
    (.one ⟨some s15, none, (.bin false .gtr (.t s14) (.c (.v (.int .i64 4096))))⟩
    .done))))
  (.cond (.t s15) (.seq (.reg (.one ⟨some s2, none, (.mv (.c (.slice 2 [] .full)))⟩
    (.one ⟨some s3, none, (.mv (.c (.v (.int .i64 2))))⟩
    .done)))
  .ret) .skip))
  (.seq (.reg (.one ⟨some s17, none, (.mv (.t s0))⟩
    (.one ⟨some s18, none, (.callq 34 [(.t s17)])⟩
    (.one ⟨some s16, none, (.mv (.t s18))⟩
    (.one ⟨some s19, none, (.ext (.t s16) 0)⟩
    (.one ⟨some s20, none, (.ext (.t s16) 1)⟩
    (.one ⟨some s4, none, (.mv (.t s19))⟩
    (.one ⟨some s5, none, (.mv (.t s20))⟩
    .done))))))))
  (.seq (.seq (.reg (.one ⟨some s21, none, (.mv (.t s5))⟩
    (.one ⟨some s22, none, (.bin false .neq (.t s21) (.c (.v (.int .i64 0))))⟩
    .done)))
  (.cond (.t s22) (.seq (.reg (.one ⟨some s23, none, (.mv (.t s5))⟩
    (.one ⟨some s2, none, (.mv (.c (.slice 2 [] .full)))⟩
    (.one ⟨some s3, none, (.mv (.t s23))⟩
    .done))))
  .ret) .skip))
  (.seq (.reg (.one ⟨some s6, none, (.mv (.c (.slice 2 [] .full)))⟩
    .done))
  (.seq (.label 0)
  (.seq (.block 0 (.seq (.reg (.one ⟨some s25, none, (.mv (.t s4))⟩
    (.one ⟨some s26, none, (.len false (.t s25))⟩
    (.one ⟨some s27, none, (.bin false .eql (.t s26) (.c (.v (.int .i64 0))))⟩
    (.one ⟨some s24, none, (.mv (.t s27))⟩
    .done)))))
  (.cond (.t s24) (.seq (.reg (.one ⟨some s28, none, (.mv (.t s6))⟩
    (.one ⟨some s2, none, (.mv (.t s28))⟩
    (.one ⟨some s3, none, (.mv (.c (.v (.int .i64 0))))⟩
    .done))))
  .ret) (.seq (.reg (.one ⟨some s30, none, (.mv (.t s6))⟩
    (.one ⟨some s31, none, (.len false (.t s30))⟩
    (.one ⟨some s32, none, (.bin false .eql (.t s31) (.c (.v (.int .i64 16))))⟩
    (.one ⟨some s29, none, (.mv (.t s32))⟩
    .done)))))
  (.cond (.t s29) (.seq (.reg (.one ⟨some s2, none, (.mv (.c (.slice 2 [] .full)))⟩
    (.one ⟨some s3, none, (.mv (.c (.v (.int .i64 2))))⟩
    .done)))
  .ret) (.seq (.reg (.one ⟨some s34, none, (.mv (.t s4))⟩
    (.one ⟨some s35, none, (.len false (.t s34))⟩
    (.one ⟨some s36, none, (.bin false .lss (.t s35) (.c (.v (.int .i64 2))))⟩
    (.one ⟨some s33, none, (.mv (.t s36))⟩
    .done)))))
  (.cond (.t s33) (.seq (.reg (.one ⟨some s2, none, (.mv (.c (.slice 2 [] .full)))⟩
    (.one ⟨some s3, none, (.mv (.c (.v (.int .i64 8))))⟩
    .done)))
  .ret) .skip)))))))
  (.seq (.reg (.one ⟨some s37, none, (.mv (.t s4))⟩
    (.one ⟨some s38, none, (.cut 1 (.t s37) none (some (.c (.v (.int .i64 2)))) none)⟩
    (.one ⟨some s39, none, (.callq 35 [(.t s38)])⟩
    (.one ⟨some s7, none, (.mv (.t s39))⟩
    .done)))))
  (.seq (.reg (.one ⟨some s41, none, (.mv (.t s7))⟩
    (.one ⟨some s42, none, (.call 36 [(.t s41), (.c (.v (.int .i64 5)))])⟩
    (.one ⟨some s40, none, (.mv (.t s42))⟩
    (.one ⟨some s43, none, (.ext (.t s40) 0)⟩
    (.one ⟨some s44, none, (.ext (.t s40) 1)⟩
    (.one ⟨some s8, none, (.mv (.t s43))⟩
    (.one ⟨some s9, none, (.mv (.t s44))⟩
    .done))))))))
  (.seq (.reg (.one ⟨some s46, none, (.mv (.t s7))⟩
    (.one ⟨some s47, none, (.call 36 [(.t s46), (.c (.v (.int .i64 11)))])⟩
    (.one ⟨some s45, none, (.mv (.t s47))⟩
    (.one ⟨some s48, none, (.ext (.t s45) 0)⟩
    (.one ⟨some s49, none, (.ext (.t s45) 1)⟩
    (.one ⟨some s10, none, (.mv (.t s48))⟩
    (.one ⟨some s11, none, (.mv (.t s49))⟩
    .done))))))))
  (.seq (.seq (.reg (.one ⟨some s50, none, (.mv (.t s8))⟩
    (.one ⟨some s51, none, (.bin false .eql (.t s50) (.c (.v (.int .u64 0))))⟩
    (.one ⟨some s52, none, (.mv (.t s51))⟩
    (.one ⟨some s53, some (s52, false), (.mv (.t s10))⟩
    (.one ⟨some s54, some (s52, false), (.bin false .eql (.t s53) (.c (.v (.int .u64 0))))⟩
    (.one ⟨some s55, none, (.pick (.t s52) (.c (.v (.bool true))) (.t s54))⟩
    .done)))))))
  (.cond (.t s55) (.seq (.reg (.one ⟨some s2, none, (.mv (.c (.slice 2 [] .full)))⟩
    (.one ⟨some s3, none, (.mv (.c (.v (.int .i64 3))))⟩
    .done)))
  .ret) .skip))
  (.seq (.reg (.one ⟨some s56, none, (.mv (.t s10))⟩
    (.one ⟨some s57, none, (.conv .i64 (.t s56))⟩
    (.one ⟨some s58, none, (.bin false .add (.c (.v (.int .i64 2))) (.t s57))⟩
    (.one ⟨some s12, none, (.mv (.t s58))⟩
    .done)))))
  (.seq (.seq (.reg (.one ⟨some s59, none, (.mv (.t s4))⟩
    (.one ⟨some s60, none, (.len false (.t s59))⟩
    (.one ⟨some s61, none, (.mv (.t s12))⟩
    (.one ⟨some s62, none, (.bin false .lss (.t s60) (.t s61))⟩
    .done)))))
  (.cond (.t s62) (.seq (.reg (.one ⟨some s2, none, (.mv (.c (.slice 2 [] .full)))⟩
    (.one ⟨some s3, none, (.mv (.c (.v (.int .i64 8))))⟩
    .done)))
  .ret) .skip))
  (.seq (.reg (.one ⟨some s63, none, (.mv (.t s6))⟩
    (.one ⟨some s64, none, (.mv (.t s8))⟩
    (.one ⟨some s65, none, (.conv .i64 (.t s64))⟩
    (.one ⟨some s66, none, (.mv (.t s4))⟩
    (.one ⟨some s67, none, (.mv (.t s12))⟩
    (.one ⟨some s68, none, (.mv (.t s12))⟩
    (.one ⟨some s69, none, (.cut 1 (.t s66) (some (.c (.v (.int .i64 2)))) (some (.t s67)) (some (.t s68)))⟩
    (.one ⟨some s70, none, (.callq 37 [(.t s69)])⟩
    (.one ⟨some s71, none, (.build [(.v (.int .i64 0)), (.slice 1 [] .full)] [(0, 1, (.t s65)), (1, 1, (.t s70))])⟩
    (.one ⟨some s72, none, (.row 2 [(.t s71)])⟩
    (.one ⟨some s73, none, (.app 2 32 (.t s63) (.t s72))⟩
    (.one ⟨some s6, none, (.mv (.t s73))⟩
    .done)))))))))))))
  (.seq (.reg (.one ⟨some s74, none, (.mv (.t s4))⟩
    (.one ⟨some s75, none, (.mv (.t s12))⟩
    (.one ⟨some s76, none, (.cut 1 (.t s74) (some (.t s75)) none none)⟩
    (.one ⟨some s4, none, (.mv (.t s76))⟩
    .done)))))
  (.goto 0)))))))))))))))))⟩
theorem ok13 : compF Try.prog c13 Try.f13 = some ir13 := by kernel_rfl
theorem k_mux_Read {args : List AVal} {σ : AHeap} {Q : AVal → AHeap → Prop} (hl : Nat.ble args.length 77 = true) (h : argsK (Env.full 9) 0 args fun env => evC Try.prog c13 ir13.body env σ (retQ ir13 Q)) : ACalls Try.prog 13 args σ Q :=
  acalls_of Try.func13 ok13 rfl (Nat.le_of_ble_eq_true hl) h
/- mux.Write -/
def c18 : Cfg := ⟨qs, false, 46, []⟩
def ir18 : IFun := ⟨1, [.tmp s2, .tmp s3],
  (.seq (.reg (.one ⟨some s2, none, (.mv (.c (.slice 1 [] .full)))⟩
    (.one ⟨some s3, none, (.mv (.c (.v (.int .i64 0))))⟩
    .done)))
  (.seq (.seq (.reg (.one ⟨some s11, none, (.mv (.t s0))⟩
    (.one ⟨some s12, none, (.callq 39 [(.t s11)])⟩
    (.one ⟨some s10, none, (.mv (.t s12))⟩
    (.one ⟨some s13, none, (.ext (.t s10) 0)⟩
    (.one ⟨some s14, none, (.ext (.t s10) 1)⟩
    (.one ⟨some s4, none, (.mv (.t s13))⟩
    (.one ⟨some s5, none, (.mv (.t s14))⟩
    .done))))))))
  (.seq (.reg (.one ⟨some s15, none, (.mv (.t s5))⟩
    (.one ⟨some s16, none, (.bin false .neq (.t s15) (.c (.v (.int .i64 0))))⟩
    .done)))
  (.cond (.t s16) (.seq (.reg (.one ⟨some s17, none, (.mv (.t s5))⟩
    (.one ⟨some s2, none, (.mv (.c (.slice 1 [] .full)))⟩
    (.one ⟨some s3, none, (.mv (.t s17))⟩
    .done))))
  .ret) .skip)))
  (.seq (.reg (.one ⟨some s6, none, (.mv (.c (.slice 1 [] .full)))⟩
    .done))
  (.seq (.seq (.reg (.one ⟨some s18, none, (.mv (.t s0))⟩
    (.one ⟨some s19, none, (.len false (.t s18))⟩
    (.one ⟨some s20, none, (.mv (.c (.v (.int .i64 0))))⟩
    .done))))
  (.block 0 (.loop (.seq (.reg (.one ⟨some s21, none, (.bin false .lss (.t s20) (.t s19))⟩
    .done))
  (.seq (.cond (.t s21) .skip (.exit 0))
  (.seq (.block 1 (.seq (.reg (.one ⟨some s22, none, (.iaddr 2 (.t s18) (.t s20))⟩
    (.one ⟨some s23, none, (.load (some 2) (.t s22))⟩
    (.one ⟨some s8, none, (.new [(.v (.int .i64 0)), (.slice 1 [] .full)])⟩
    (.one ⟨none, none, (.store 2 (.t s8) (.t s23))⟩
    .done)))))
  (.seq (.reg (.one ⟨some s24, none, (.callq 40 [])⟩
    (.one ⟨some s9, none, (.mv (.t s24))⟩
    .done)))
  (.seq (.reg (.one ⟨some s25, none, (.mv (.t s9))⟩
    (.one ⟨some s26, none, (.faddr 0 (.t s8))⟩
    (.one ⟨some s27, none, (.load none (.t s26))⟩
    (.one ⟨some s28, none, (.conv .u64 (.t s27))⟩
    (.one ⟨some s29, none, (.call 41 [(.t s25), (.t s28), (.c (.v (.int .i64 5)))])⟩
    .done))))))
  (.seq (.reg (.one ⟨some s30, none, (.mv (.t s9))⟩
    (.one ⟨some s31, none, (.faddr 1 (.t s8))⟩
    (.one ⟨some s32, none, (.load none (.t s31))⟩
    (.one ⟨some s33, none, (.len false (.t s32))⟩
    (.one ⟨some s34, none, (.conv .u64 (.t s33))⟩
    (.one ⟨some s35, none, (.call 41 [(.t s30), (.t s34), (.c (.v (.int .i64 11)))])⟩
    .done)))))))
  (.reg (.one ⟨some s36, none, (.mv (.t s6))⟩
    (.one ⟨some s37, none, (.mv (.t s9))⟩
    (.one ⟨some s40, none, (.faddr 1 (.t s8))⟩
    (.one ⟨some s41, none, (.load none (.t s40))⟩
    (.one ⟨some s38, none, (.callq 42 [(.t s37)])⟩
    (.one ⟨some s39, none, (.app 1 1 (.t s36) (.t s38))⟩
    (.one ⟨some s42, none, (.app 1 1 (.t s39) (.t s41))⟩
    (.one ⟨some s6, none, (.mv (.t s42))⟩
    .done))))))))))))))
  (.reg (.one ⟨some s43, none, (.bin false .add (.t s20) (.c (.v (.int .i64 1))))⟩
    (.one ⟨some s20, none, (.mv (.t s43))⟩
    .done)))))))))
  (.seq (.reg (.one ⟨some s44, none, (.mv (.t s6))⟩
    (.one ⟨some s45, none, (.callq 43 [(.t s44)])⟩
    (.one ⟨some s2, none, (.mv (.t s45))⟩
    (.one ⟨some s3, none, (.mv (.c (.v (.int .i64 0))))⟩
    .done)))))
  .ret)))))⟩
theorem ok18 : compF Try.prog c18 Try.f18 = some ir18 := by kernel_rfl
theorem k_mux_Write {args : List AVal} {σ : AHeap} {Q : AVal → AHeap → Prop} (hl : Nat.ble args.length 46 = true) (h : argsK (Env.full 9) 0 args fun env => evC Try.prog c18 ir18.body env σ (retQ ir18 Q)) : ACalls Try.prog 18 args σ Q :=
  acalls_of Try.func18 ok18 rfl (Nat.le_of_ble_eq_true hl) h
/- mux.Size -/
def c19 : Cfg := ⟨qs, false, 11, []⟩
def ir19 : IFun := ⟨1, [.tmp s2],
  (.seq (.reg (.one ⟨some s2, none, (.mv (.c (.v (.int .i64 0))))⟩
    .done))
  (.seq (.reg (.one ⟨some s6, none, (.mv (.t s0))⟩
    (.one ⟨some s7, none, (.callq 39 [(.t s6)])⟩
    (.one ⟨some s5, none, (.mv (.t s7))⟩
    (.one ⟨some s8, none, (.ext (.t s5) 0)⟩
    (.one ⟨some s9, none, (.ext (.t s5) 1)⟩
    (.one ⟨some s3, none, (.mv (.t s8))⟩
    (.one ⟨some s4, none, (.mv (.t s9))⟩
    .done))))))))
  (.seq (.reg (.one ⟨some s10, none, (.mv (.t s3))⟩
    (.one ⟨some s2, none, (.mv (.t s10))⟩
    .done)))
  .ret)))⟩
theorem ok19 : compF Try.prog c19 Try.f19 = some ir19 := by kernel_rfl
theorem k_mux_Size {args : List AVal} {σ : AHeap} {Q : AVal → AHeap → Prop} (hl : Nat.ble args.length 11 = true) (h : argsK (Env.full 9) 0 args fun env => evC Try.prog c19 ir19.body env σ (retQ ir19 Q)) : ACalls Try.prog 19 args σ Q :=
  acalls_of Try.func19 ok19 rfl (Nat.le_of_ble_eq_true hl) h
/- mux.Same -/
def c26 : Cfg := ⟨qs, false, 8, []⟩
def ir26 : IFun := ⟨2, [.tmp s4],
  (.seq (.reg (.one ⟨some s4, none, (.mv (.c (.v (.bool false))))⟩
    .done))
  (.seq (.reg (.one ⟨some s5, none, (.mv (.t s0))⟩
    (.one ⟨some s6, none, (.mv (.t s1))⟩
    (.one ⟨some s7, none, (.callq 54 [(.t s5), (.t s6), (.c (.func 55 [] []))])⟩
    (.one ⟨some s4, none, (.mv (.t s7))⟩
    .done)))))
  .ret))⟩
theorem ok26 : compF Try.prog c26 Try.f26 = some ir26 := by kernel_rfl
theorem k_mux_Same {args : List AVal} {σ : AHeap} {Q : AVal → AHeap → Prop} (hl : Nat.ble args.length 8 = true) (h : argsK (Env.full 9) 0 args fun env => evC Try.prog c26 ir26.body env σ (retQ ir26 Q)) : ACalls Try.prog 26 args σ Q :=
  acalls_of Try.func26 ok26 rfl (Nat.le_of_ble_eq_true hl) h
/- mux.ask -/
def c39 : Cfg := ⟨qs, false, 30, []⟩
def ir39 : IFun := ⟨1, [.tmp s2, .tmp s3],
  (.seq (.reg (.one ⟨some s2, none, (.mv (.c (.v (.int .i64 0))))⟩
    (.one ⟨some s3, none, (.mv (.c (.v (.int .i64 0))))⟩
    .done)))
  (.seq (.block 0 (.seq (.reg (.one ⟨some s8, none, (.mv (.t s0))⟩
    (.one ⟨some s9, none, (.callq 70 [(.t s8), (.c (.func 71 [] []))])⟩
    (.one ⟨some s7, none, (.mv (.t s9))⟩
    .done))))
  (.cond (.t s7) (.seq (.reg (.one ⟨some s2, none, (.mv (.c (.v (.int .i64 0))))⟩
    (.one ⟨some s3, none, (.mv (.c (.v (.int .i64 3))))⟩
    .done)))
  .ret) (.seq (.reg (.one ⟨some s11, none, (.mv (.t s0))⟩
    (.one ⟨some s12, none, (.len false (.t s11))⟩
    (.one ⟨some s13, none, (.bin false .gtr (.t s12) (.c (.v (.int .i64 16))))⟩
    (.one ⟨some s10, none, (.mv (.t s13))⟩
    .done)))))
  (.cond (.t s10) (.seq (.reg (.one ⟨some s2, none, (.mv (.c (.v (.int .i64 0))))⟩
    (.one ⟨some s3, none, (.mv (.c (.v (.int .i64 2))))⟩
    .done)))
  .ret) .skip)))))
  (.seq (.reg (.one ⟨some s4, none, (.mv (.c (.v (.int .i64 2))))⟩
    .done))
  (.seq (.seq (.reg (.one ⟨some s14, none, (.mv (.t s0))⟩
    (.one ⟨some s15, none, (.len false (.t s14))⟩
    (.one ⟨some s16, none, (.mv (.c (.v (.int .i64 0))))⟩
    .done))))
  (.block 1 (.loop (.seq (.reg (.one ⟨some s17, none, (.bin false .lss (.t s16) (.t s15))⟩
    .done))
  (.seq (.cond (.t s17) .skip (.exit 1))
  (.seq (.block 2 (.seq (.reg (.one ⟨some s18, none, (.iaddr 2 (.t s14) (.t s16))⟩
    (.one ⟨some s19, none, (.load (some 2) (.t s18))⟩
    (.one ⟨some s6, none, (.new [(.v (.int .i64 0)), (.slice 1 [] .full)])⟩
    (.one ⟨none, none, (.store 2 (.t s6) (.t s19))⟩
    .done)))))
  (.reg (.one ⟨some s20, none, (.mv (.t s4))⟩
    (.one ⟨some s21, none, (.faddr 1 (.t s6))⟩
    (.one ⟨some s22, none, (.load none (.t s21))⟩
    (.one ⟨some s23, none, (.len false (.t s22))⟩
    (.one ⟨some s24, none, (.bin false .add (.c (.v (.int .i64 2))) (.t s23))⟩
    (.one ⟨some s25, none, (.bin false .add (.t s20) (.t s24))⟩
    (.one ⟨some s4, none, (.mv (.t s25))⟩
    .done))))))))))
  (.reg (.one ⟨some s26, none, (.bin false .add (.t s16) (.c (.v (.int .i64 1))))⟩
    (.one ⟨some s16, none, (.mv (.t s26))⟩
    .done)))))))))
  (.seq (.seq (.reg (.one ⟨some s27, none, (.mv (.t s4))⟩
    (.one ⟨some s28, none, (.bin false .gtr (.t s27) (.c (.v (.int .i64 4096))))⟩
    .done)))
  (.cond (.t s28) (.seq (.reg (.one ⟨some s2, none, (.mv (.c (.v (.int .i64 0))))⟩
    (.one ⟨some s3, none, (.mv (.c (.v (.int .i64 2))))⟩
    .done)))
  .ret) .skip))
  (.seq (.reg (.one ⟨some s29, none, (.mv (.t s4))⟩
    (.one ⟨some s2, none, (.mv (.t s29))⟩
    (.one ⟨some s3, none, (.mv (.c (.v (.int .i64 0))))⟩
    .done))))
  .ret))))))⟩
theorem ok39 : compF Try.prog c39 Try.f39 = some ir39 := by kernel_rfl
theorem k_mux_ask {args : List AVal} {σ : AHeap} {Q : AVal → AHeap → Prop} (hl : Nat.ble args.length 30 = true) (h : argsK (Env.full 9) 0 args fun env => evC Try.prog c39 ir39.body env σ (retQ ir39 Q)) : ACalls Try.prog 39 args σ Q :=
  acalls_of Try.func39 ok39 rfl (Nat.le_of_ble_eq_true hl) h
/- mux.Part] -/
def c54 : Cfg := ⟨qs, false, 32, []⟩
def ir54 : IFun := ⟨3, [.tmp s6],
  (.seq (.reg (.one ⟨some s6, none, (.mv (.c (.v (.bool false))))⟩
    .done))
  (.seq (.seq (.reg (.one ⟨some s10, none, (.mv (.t s0))⟩
    (.one ⟨some s11, none, (.len false (.t s10))⟩
    (.one ⟨some s12, none, (.mv (.t s1))⟩
    (.one ⟨some s13, none, (.len false (.t s12))⟩
    (.one ⟨some s14, none, (.bin false .neq (.t s11) (.t s13))⟩
    .done))))))
  (.cond (.t s14) (.seq (.reg (.one ⟨some s6, none, (.mv (.c (.v (.bool false))))⟩
    .done))
  .ret) .skip))
  (.seq (.seq (.reg (.one ⟨some s15, none, (.mv (.t s0))⟩
    (.one ⟨some s16, none, (.len false (.t s15))⟩
    (.one ⟨some s17, none, (.mv (.c (.v (.int .i64 0))))⟩
    .done))))
  (.block 0 (.loop (.seq (.reg (.one ⟨some s18, none, (.bin false .lss (.t s17) (.t s16))⟩
    .done))
  (.seq (.cond (.t s18) .skip (.exit 0))
  (.seq (.block 1 (.seq (.reg (.one ⟨some s19, none, (.mv (.t s17))⟩
    (.one ⟨some s20, none, (.iaddr 2 (.t s15) (.t s17))⟩
    (.one ⟨some s21, none, (.load (some 2) (.t s20))⟩
    (.one ⟨some s8, none, (.new [(.v (.int .i64 0)), (.slice 1 [] .full)])⟩
    (.one ⟨some s7, none, (.mv (.t s19))⟩
    (.one ⟨none, none, (.store 2 (.t s8) (.t s21))⟩
    .done)))))))
  (.seq (.reg (.one ⟨some s22, none, (.mv (.t s1))⟩
    (.one ⟨some s23, none, (.mv (.t s7))⟩
    (.one ⟨some s24, none, (.iaddr 2 (.t s22) (.t s23))⟩
    (.one ⟨some s25, none, (.load (some 2) (.t s24))⟩
    (.one ⟨some s9, none, (.new [(.v (.int .i64 0)), (.slice 1 [] .full)])⟩
    (.one ⟨none, none, (.store 2 (.t s9) (.t s25))⟩
    .done)))))))
  (.seq (.reg (.one ⟨some s26, none, (.mv (.t s2))⟩
    (.one ⟨some s27, none, (.load (some 2) (.t s8))⟩
    (.one ⟨some s28, none, (.load (some 2) (.t s9))⟩
    (.one ⟨some s29, none, (.callv (.t s26) [(.t s27), (.t s28)])⟩
    (.one ⟨some s30, none, (.not (.t s29))⟩
    .done))))))
  (.cond (.t s30) (.seq (.reg (.one ⟨some s6, none, (.mv (.c (.v (.bool false))))⟩
    .done))
  .ret) .skip)))))
  (.reg (.one ⟨some s31, none, (.bin false .add (.t s17) (.c (.v (.int .i64 1))))⟩
    (.one ⟨some s17, none, (.mv (.t s31))⟩
    .done)))))))))
  (.seq (.reg (.one ⟨some s6, none, (.mv (.c (.v (.bool true))))⟩
    .done))
  .ret))))⟩
theorem ok54 : compF Try.prog c54 Try.f54 = some ir54 := by kernel_rfl
theorem k_mux_Part {args : List AVal} {σ : AHeap} {Q : AVal → AHeap → Prop} (hl : Nat.ble args.length 32 = true) (h : argsK (Env.full 9) 0 args fun env => evC Try.prog c54 ir54.body env σ (retQ ir54 Q)) : ACalls Try.prog 54 args σ Q :=
  acalls_of Try.func54 ok54 rfl (Nat.le_of_ble_eq_true hl) h
/- mux.Same$1 -/
def c55 : Cfg := ⟨qs, false, 17, []⟩
def ir55 : IFun := ⟨2, [.tmp s4],
  (.seq (.reg (.one ⟨some s2, none, (.box 2 (.t s0))⟩
    (.one ⟨some s3, none, (.box 2 (.t s1))⟩
    (.one ⟨some s4, none, (.mv (.c (.v (.bool false))))⟩
    .done))))
  (.seq (.reg (.one ⟨some s5, none, (.faddr 0 (.t s2))⟩
    (.one ⟨some s6, none, (.load none (.t s5))⟩
    (.one ⟨some s7, none, (.faddr 0 (.t s3))⟩
    (.one ⟨some s8, none, (.load none (.t s7))⟩
    (.one ⟨some s9, none, (.bin false .eql (.t s6) (.t s8))⟩
    (.one ⟨some s10, none, (.mv (.t s9))⟩
    (.one ⟨some s11, some (s10, true), (.faddr 1 (.t s2))⟩
    (.one ⟨some s12, some (s10, true), (.load none (.t s11))⟩
    (.one ⟨some s13, some (s10, true), (.faddr 1 (.t s3))⟩
    (.one ⟨some s14, some (s10, true), (.load none (.t s13))⟩
    (.one ⟨some s15, some (s10, true), (.callq 56 [(.t s12), (.t s14)])⟩
    (.one ⟨some s16, none, (.pick (.t s10) (.t s15) (.c (.v (.bool false))))⟩
    (.one ⟨some s4, none, (.mv (.t s16))⟩
    .done))))))))))))))
  .ret))⟩
theorem ok55 : compF Try.prog c55 Try.f55 = some ir55 := by kernel_rfl
theorem k_mux_Same_1 {args : List AVal} {σ : AHeap} {Q : AVal → AHeap → Prop} (hl : Nat.ble args.length 17 = true) (h : argsK (Env.full 9) 0 args fun env => evC Try.prog c55 ir55.body env σ (retQ ir55 Q)) : ACalls Try.prog 55 args σ Q :=
  acalls_of Try.func55 ok55 rfl (Nat.le_of_ble_eq_true hl) h
/- mux.Part] -/
def c70 : Cfg := ⟨qs, false, 9, []⟩
def ir70 : IFun := ⟨2, [.tmp s4],
  (.seq (.reg (.one ⟨some s4, none, (.mv (.c (.v (.bool false))))⟩
    .done))
  (.seq (.reg (.one ⟨some s5, none, (.mv (.t s0))⟩
    (.one ⟨some s6, none, (.mv (.t s1))⟩
    (.one ⟨some s7, none, (.callq 79 [(.t s5), (.t s6)])⟩
    (.one ⟨some s8, none, (.bin false .geq (.t s7) (.c (.v (.int .i64 0))))⟩
    (.one ⟨some s4, none, (.mv (.t s8))⟩
    .done))))))
  .ret))⟩
theorem ok70 : compF Try.prog c70 Try.f70 = some ir70 := by kernel_rfl
theorem k_mux_Part_70 {args : List AVal} {σ : AHeap} {Q : AVal → AHeap → Prop} (hl : Nat.ble args.length 9 = true) (h : argsK (Env.full 9) 0 args fun env => evC Try.prog c70 ir70.body env σ (retQ ir70 Q)) : ACalls Try.prog 70 args σ Q :=
  acalls_of Try.func70 ok70 rfl (Nat.le_of_ble_eq_true hl) h
/- mux.wrong -/
def c71 : Cfg := ⟨qs, false, 23, []⟩
def ir71 : IFun := ⟨1, [.tmp s2],
  (.seq (.reg (.one ⟨some s1, none, (.box 2 (.t s0))⟩
    (.one ⟨some s2, none, (.mv (.c (.v (.bool false))))⟩
    .done)))
  (.seq (.reg (.one ⟨some s3, none, (.faddr 0 (.t s1))⟩
    (.one ⟨some s4, none, (.load none (.t s3))⟩
    (.one ⟨some s5, none, (.bin false .lss (.t s4) (.c (.v (.int .i64 1))))⟩
    (.one ⟨some s6, none, (.mv (.t s5))⟩
    (.one ⟨some s7, some (s6, false), (.faddr 0 (.t s1))⟩
    (.one ⟨some s8, some (s6, false), (.load none (.t s7))⟩
    (.one ⟨some s9, some (s6, false), (.bin false .gtr (.t s8) (.c (.v (.int .i64 31))))⟩
    (.one ⟨some s10, none, (.pick (.t s6) (.c (.v (.bool true))) (.t s9))⟩
    (.one ⟨some s11, none, (.mv (.t s10))⟩
    (.one ⟨some s12, some (s11, false), (.faddr 1 (.t s1))⟩
    (.one ⟨some s13, some (s11, false), (.load none (.t s12))⟩
    (.one ⟨some s14, some (s11, false), (.len false (.t s13))⟩
    (.one ⟨some s15, some (s11, false), (.bin false .lss (.t s14) (.c (.v (.int .i64 1))))⟩
    (.one ⟨some s16, none, (.pick (.t s11) (.c (.v (.bool true))) (.t s15))⟩
    (.one ⟨some s17, none, (.mv (.t s16))⟩
    (.one ⟨some s18, some (s17, false), (.faddr 1 (.t s1))⟩
    (.one ⟨some s19, some (s17, false), (.load none (.t s18))⟩
    (.one ⟨some s20, some (s17, false), (.len false (.t s19))⟩
    (.one ⟨some s21, some (s17, false), (.bin false .gtr (.t s20) (.c (.v (.int .i64 2047))))⟩
    (.one ⟨some s22, none, (.pick (.t s17) (.c (.v (.bool true))) (.t s21))⟩
    (.one ⟨some s2, none, (.mv (.t s22))⟩
    .done))))))))))))))))))))))
  .ret))⟩
theorem ok71 : compF Try.prog c71 Try.f71 = some ir71 := by kernel_rfl
theorem k_mux_wrong {args : List AVal} {σ : AHeap} {Q : AVal → AHeap → Prop} (hl : Nat.ble args.length 23 = true) (h : argsK (Env.full 9) 0 args fun env => evC Try.prog c71 ir71.body env σ (retQ ir71 Q)) : ACalls Try.prog 71 args σ Q :=
  acalls_of Try.func71 ok71 rfl (Nat.le_of_ble_eq_true hl) h
/- mux.Part] -/
def c79 : Cfg := ⟨qs, false, 19, []⟩
def ir79 : IFun := ⟨2, [.tmp s4],
  (.seq (.reg (.one ⟨some s4, none, (.mv (.c (.v (.int .i64 0))))⟩
    .done))
  (.seq (.seq (.reg (.one ⟨some s6, none, (.mv (.t s0))⟩
    (.one ⟨some s7, none, (.len false (.t s6))⟩
    (.one ⟨some s8, none, (.mv (.c (.v (.int .i64 0))))⟩
    .done))))
  (.block 0 (.loop (.seq (.reg (.one ⟨some s9, none, (.bin false .lss (.t s8) (.t s7))⟩
    .done))
  (.seq (.cond (.t s9) .skip (.exit 0))
  (.seq (.block 1 (.seq (.reg (.one ⟨some s10, none, (.mv (.t s8))⟩
    (.one ⟨some s5, none, (.mv (.t s10))⟩
    .done)))
  (.seq (.reg (.one ⟨some s11, none, (.mv (.t s1))⟩
    (.one ⟨some s12, none, (.mv (.t s0))⟩
    (.one ⟨some s13, none, (.mv (.t s5))⟩
    (.one ⟨some s14, none, (.iaddr 2 (.t s12) (.t s13))⟩
    (.one ⟨some s15, none, (.load (some 2) (.t s14))⟩
    (.one ⟨some s16, none, (.callv (.t s11) [(.t s15)])⟩
    .done)))))))
  (.cond (.t s16) (.seq (.reg (.one ⟨some s17, none, (.mv (.t s5))⟩
    (.one ⟨some s4, none, (.mv (.t s17))⟩
    .done)))
  .ret) .skip))))
  (.reg (.one ⟨some s18, none, (.bin false .add (.t s8) (.c (.v (.int .i64 1))))⟩
    (.one ⟨some s8, none, (.mv (.t s18))⟩
    .done)))))))))
  (.seq (.reg (.one ⟨some s4, none, (.mv (.c (.v (.int .i64 (-1)))))⟩
    .done))
  .ret)))⟩
theorem ok79 : compF Try.prog c79 Try.f79 = some ir79 := by kernel_rfl
theorem k_mux_Part_79 {args : List AVal} {σ : AHeap} {Q : AVal → AHeap → Prop} (hl : Nat.ble args.length 19 = true) (h : argsK (Env.full 9) 0 args fun env => evC Try.prog c79 ir79.body env σ (retQ ir79 Q)) : ACalls Try.prog 79 args σ Q :=
  acalls_of Try.func79 ok79 rfl (Nat.le_of_ble_eq_true hl) h
end Go.Proofs.Ytndphnojmpeogaa

