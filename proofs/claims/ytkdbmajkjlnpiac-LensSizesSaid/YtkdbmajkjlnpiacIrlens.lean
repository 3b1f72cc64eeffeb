/-
  The bodies of one package, compiled to the framework's language (printed by a program of this session).
-/
import Derived.Test.YtkdbmajkjlnpiacIr0
namespace Go.Proofs.Ytkdbmajkjlnpiac
set_option linter.unusedVariables false
set_option linter.unusedSimpArgs false
open Go Go.Am
/- lens.Write -/
def c10 : Cfg := ⟨qs, false, 54, []⟩
def ir10 : IFun := ⟨2, [.tmp s4, .tmp s5],
  (.seq (.reg (.one ⟨some s4, none, (.mv (.c (.slice 1 [] .full)))⟩
    (.one ⟨some s5, none, (.mv (.c (.v (.int .i64 0))))⟩
    .done)))
  (.seq (.block 0 (.seq (.reg (.one ⟨some s11, none, (.mv (.t s1))⟩
    (.one ⟨some s12, none, (.callq 50 [(.t s11)])⟩
    (.one ⟨some s13, none, (.not (.t s12))⟩
    (.one ⟨some s10, none, (.mv (.t s13))⟩
    .done)))))
  (.cond (.t s10) (.seq (.reg (.one ⟨some s4, none, (.mv (.c (.slice 1 [] .full)))⟩
    (.one ⟨some s5, none, (.mv (.c (.v (.int .i64 9))))⟩
    .done)))
  .ret) (.seq (.reg (.one ⟨some s15, none, (.mv (.t s0))⟩
    (.one ⟨some s16, none, (.len false (.t s15))⟩
    (.one ⟨some s17, none, (.bin false .eql (.t s16) (.c (.v (.int .i64 0))))⟩
    (.one ⟨some s14, none, (.mv (.t s17))⟩
    .done)))))
  (.cond (.t s14) (.seq (.reg (.one ⟨some s4, none, (.mv (.c (.slice 1 [] .full)))⟩
    (.one ⟨some s5, none, (.mv (.c (.v (.int .i64 4))))⟩
    .done)))
  .ret) (.seq (.reg (.one ⟨some s19, none, (.mv (.t s0))⟩
    (.one ⟨some s20, none, (.len false (.t s19))⟩
    (.one ⟨some s21, none, (.bin false .gtr (.t s20) (.c (.v (.int .i64 23))))⟩
    (.one ⟨some s18, none, (.mv (.t s21))⟩
    .done)))))
  (.cond (.t s18) (.seq (.reg (.one ⟨some s4, none, (.mv (.c (.slice 1 [] .full)))⟩
    (.one ⟨some s5, none, (.mv (.c (.v (.int .i64 2))))⟩
    .done)))
  .ret) .skip)))))))
  (.seq (.reg (.one ⟨some s22, none, (.callq 51 [])⟩
    (.one ⟨some s6, none, (.mv (.t s22))⟩
    .done)))
  (.seq (.seq (.reg (.one ⟨some s23, none, (.mv (.t s0))⟩
    (.one ⟨some s24, none, (.len false (.t s23))⟩
    (.one ⟨some s25, none, (.mv (.c (.v (.int .i64 0))))⟩
    .done))))
  (.block 1 (.loop (.seq (.reg (.one ⟨some s26, none, (.bin false .lss (.t s25) (.t s24))⟩
    .done))
  (.seq (.cond (.t s26) .skip (.exit 1))
  (.seq (.block 2 (.seq (.reg (.one ⟨some s27, none, (.mv (.t s25))⟩
    (.one ⟨some s28, none, (.iaddr 1 (.t s23) (.t s25))⟩
    (.one ⟨some s29, none, (.load none (.t s28))⟩
    (.one ⟨some s7, none, (.mv (.t s27))⟩
    (.one ⟨some s8, none, (.mv (.t s29))⟩
    .done))))))
  (.seq (.seq (.reg (.one ⟨some s30, none, (.mv (.t s8))⟩
    (.one ⟨some s31, none, (.bin false .lss (.t s30) (.c (.v (.int .i64 1))))⟩
    (.one ⟨some s32, none, (.mv (.t s31))⟩
    (.one ⟨some s33, some (s32, false), (.mv (.t s8))⟩
    (.one ⟨some s34, some (s32, false), (.mv (.t s1))⟩
    (.one ⟨some s35, some (s32, false), (.bin false .shl (.c (.v (.int .i64 1))) (.t s34))⟩
    (.one ⟨some s36, some (s32, false), (.bin false .geq (.t s33) (.t s35))⟩
    (.one ⟨some s37, none, (.pick (.t s32) (.c (.v (.bool true))) (.t s36))⟩
    .done)))))))))
  (.cond (.t s37) (.seq (.reg (.one ⟨some s4, none, (.mv (.c (.slice 1 [] .full)))⟩
    (.one ⟨some s5, none, (.mv (.c (.v (.int .i64 1))))⟩
    .done)))
  .ret) .skip))
  (.seq (.reg (.one ⟨some s9, none, (.mv (.c (.v (.int .u64 0))))⟩
    .done))
  (.seq (.seq (.reg (.one ⟨some s38, none, (.mv (.t s7))⟩
    (.one ⟨some s39, none, (.mv (.t s0))⟩
    (.one ⟨some s40, none, (.len false (.t s39))⟩
    (.one ⟨some s41, none, (.bin false .sub (.t s40) (.c (.v (.int .i64 1))))⟩
    (.one ⟨some s42, none, (.bin false .lss (.t s38) (.t s41))⟩
    .done))))))
  (.cond (.t s42) (.reg (.one ⟨some s9, none, (.mv (.c (.v (.int .u64 1))))⟩
    .done)) .skip))
  (.seq (.reg (.one ⟨some s43, none, (.mv (.t s6))⟩
    (.one ⟨some s44, none, (.mv (.t s9))⟩
    (.one ⟨some s45, none, (.call 52 [(.t s43), (.t s44), (.c (.v (.int .i64 1)))])⟩
    .done))))
  (.reg (.one ⟨some s46, none, (.mv (.t s6))⟩
    (.one ⟨some s47, none, (.mv (.t s8))⟩
    (.one ⟨some s48, none, (.conv .u64 (.t s47))⟩
    (.one ⟨some s49, none, (.mv (.t s1))⟩
    (.one ⟨some s50, none, (.call 52 [(.t s46), (.t s48), (.t s49)])⟩
    .done))))))))))))
  (.reg (.one ⟨some s51, none, (.bin false .add (.t s25) (.c (.v (.int .i64 1))))⟩
    (.one ⟨some s25, none, (.mv (.t s51))⟩
    .done)))))))))
  (.seq (.reg (.one ⟨some s52, none, (.mv (.t s6))⟩
    (.one ⟨some s53, none, (.callq 53 [(.t s52)])⟩
    (.one ⟨some s4, none, (.mv (.t s53))⟩
    (.one ⟨some s5, none, (.mv (.c (.v (.int .i64 0))))⟩
    .done)))))
  .ret)))))⟩
theorem ok10 : compF Try.prog c10 Try.f10 = some ir10 := by kernel_rfl
theorem k_lens_Write {args : List AVal} {σ : AHeap} {Q : AVal → AHeap → Prop} (hl : Nat.ble args.length 54 = true) (h : argsK (Env.full 9) 0 args fun env => evC Try.prog c10 ir10.body env σ (retQ ir10 Q)) : ACalls Try.prog 10 args σ Q :=
  acalls_of Try.func10 ok10 rfl (Nat.le_of_ble_eq_true hl) h
/- lens.Read -/
def c11 : Cfg := ⟨qs, false, 69, []⟩
def ir11 : IFun := ⟨2, [.tmp s4, .tmp s5, .tmp s6],
  (.seq (.reg (.one ⟨some s4, none, (.mv (.c (.slice 1 [] .full)))⟩
    (.one ⟨some s5, none, (.mv (.c (.v (.int .i64 0))))⟩
    (.one ⟨some s6, none, (.mv (.c (.v (.int .i64 0))))⟩
    .done))))
  (.scope (.seq (.seq (.reg (.one ⟨some s14, none, (.mv (.t s1))⟩
    (.one ⟨some s15, none, (.callq 50 [(.t s14)])⟩
    (.one ⟨some s16, none, (.not (.t s15))⟩
    .done))))
  (.cond (.t s16) (.seq (.reg (.one ⟨some s4, none, (.mv (.c (.slice 1 [] .full)))⟩
    (.one ⟨some s5, none, (.mv (.c (.v (.int .i64 0))))⟩
    (.one ⟨some s6, none, (.mv (.c (.v (.int .i64 9))))⟩
    .done))))
  .ret) .skip))
  (.seq (.reg (.one ⟨some s7, none, (.mv (.c (.slice 1 [] .full)))⟩
    .done))
  (.seq (.reg (.one ⟨some s17, none, (.mv (.t s0))⟩
    (.one ⟨some s18, none, (.mv (.t s0))⟩
    (.one ⟨some s19, none, (.len false (.t s18))⟩
    (.one ⟨some s20, none, (.mv (.t s1))⟩
    (.one ⟨some s21, none, (.callq 13 [(.c (.v (.int .i64 23))), (.t s20)])⟩
    (.one ⟨some s22, none, (.mxmn false (.t s19) (.t s21))⟩
    (.one ⟨some s23, none, (.cut 1 (.t s17) none (some (.t s22)) none)⟩
    (.one ⟨some s24, none, (.callq 54 [(.t s23)])⟩
    (.one ⟨some s8, none, (.mv (.t s24))⟩
    .done))))))))))
  (.seq (.label 0)
  (.seq (.reg (.one ⟨some s26, none, (.mv (.t s8))⟩
    (.one ⟨some s27, none, (.call 55 [(.t s26), (.c (.v (.int .i64 1)))])⟩
    (.one ⟨some s25, none, (.mv (.t s27))⟩
    (.one ⟨some s28, none, (.ext (.t s25) 0)⟩
    (.one ⟨some s29, none, (.ext (.t s25) 1)⟩
    (.one ⟨some s9, none, (.mv (.t s28))⟩
    (.one ⟨some s10, none, (.mv (.t s29))⟩
    .done))))))))
  (.seq (.seq (.reg (.one ⟨some s30, none, (.mv (.t s10))⟩
    (.one ⟨some s31, none, (.bin false .neq (.t s30) (.c (.v (.int .i64 0))))⟩
    .done)))
  (.cond (.t s31) (.seq (.reg (.one ⟨some s32, none, (.mv (.t s10))⟩
    (.one ⟨some s4, none, (.mv (.c (.slice 1 [] .full)))⟩
    (.one ⟨some s5, none, (.mv (.c (.v (.int .i64 0))))⟩
    (.one ⟨some s6, none, (.mv (.t s32))⟩
    .done)))))
  .ret) .skip))
  (.seq (.reg (.one ⟨some s34, none, (.mv (.t s8))⟩
    (.one ⟨some s35, none, (.mv (.t s1))⟩
    (.one ⟨some s36, none, (.call 55 [(.t s34), (.t s35)])⟩
    (.one ⟨some s33, none, (.mv (.t s36))⟩
    (.one ⟨some s37, none, (.ext (.t s33) 0)⟩
    (.one ⟨some s38, none, (.ext (.t s33) 1)⟩
    (.one ⟨some s11, none, (.mv (.t s37))⟩
    (.one ⟨some s10, none, (.mv (.t s38))⟩
    .done)))))))))
  (.seq (.block 0 (.seq (.reg (.one ⟨some s40, none, (.mv (.t s10))⟩
    (.one ⟨some s41, none, (.bin false .neq (.t s40) (.c (.v (.int .i64 0))))⟩
    (.one ⟨some s39, none, (.mv (.t s41))⟩
    .done))))
  (.cond (.t s39) (.seq (.reg (.one ⟨some s42, none, (.mv (.t s10))⟩
    (.one ⟨some s4, none, (.mv (.c (.slice 1 [] .full)))⟩
    (.one ⟨some s5, none, (.mv (.c (.v (.int .i64 0))))⟩
    (.one ⟨some s6, none, (.mv (.t s42))⟩
    .done)))))
  .ret) (.seq (.reg (.one ⟨some s44, none, (.mv (.t s11))⟩
    (.one ⟨some s45, none, (.bin false .eql (.t s44) (.c (.v (.int .u64 0))))⟩
    (.one ⟨some s43, none, (.mv (.t s45))⟩
    .done))))
  (.cond (.t s43) (.seq (.reg (.one ⟨some s4, none, (.mv (.c (.slice 1 [] .full)))⟩
    (.one ⟨some s5, none, (.mv (.c (.v (.int .i64 0))))⟩
    (.one ⟨some s6, none, (.mv (.c (.v (.int .i64 3))))⟩
    .done))))
  .ret) .skip)))))
  (.seq (.reg (.one ⟨some s46, none, (.mv (.t s7))⟩
    (.one ⟨some s47, none, (.mv (.t s11))⟩
    (.one ⟨some s48, none, (.conv .i64 (.t s47))⟩
    (.one ⟨some s49, none, (.row 1 [(.t s48)])⟩
    (.one ⟨some s50, none, (.app 1 8 (.t s46) (.t s49))⟩
    (.one ⟨some s7, none, (.mv (.t s50))⟩
    .done)))))))
  (.seq (.seq (.reg (.one ⟨some s51, none, (.mv (.t s9))⟩
    (.one ⟨some s52, none, (.bin false .eql (.t s51) (.c (.v (.int .u64 1))))⟩
    .done)))
  (.cond (.t s52) (.seq (.seq (.reg (.one ⟨some s53, none, (.mv (.t s7))⟩
    (.one ⟨some s54, none, (.len false (.t s53))⟩
    (.one ⟨some s55, none, (.bin false .eql (.t s54) (.c (.v (.int .i64 23))))⟩
    .done))))
  (.cond (.t s55) (.seq (.reg (.one ⟨some s4, none, (.mv (.c (.slice 1 [] .full)))⟩
    (.one ⟨some s5, none, (.mv (.c (.v (.int .i64 0))))⟩
    (.one ⟨some s6, none, (.mv (.c (.v (.int .i64 2))))⟩
    .done))))
  .ret) .skip))
  (.goto 0)) .skip))
  (.seq (.seq (.reg (.one ⟨some s57, none, (.mv (.t s8))⟩
    (.one ⟨some s58, none, (.call 56 [(.t s57)])⟩
    (.one ⟨some s56, none, (.mv (.t s58))⟩
    (.one ⟨some s59, none, (.ext (.t s56) 0)⟩
    (.one ⟨some s60, none, (.ext (.t s56) 1)⟩
    (.one ⟨some s12, none, (.mv (.t s59))⟩
    (.one ⟨some s13, none, (.mv (.t s60))⟩
    .done))))))))
  (.seq (.reg (.one ⟨some s61, none, (.mv (.t s13))⟩
    (.one ⟨some s62, none, (.bin false .neq (.t s61) (.c (.v (.int .i64 0))))⟩
    .done)))
  (.cond (.t s62) (.seq (.reg (.one ⟨some s63, none, (.mv (.t s13))⟩
    (.one ⟨some s4, none, (.mv (.c (.slice 1 [] .full)))⟩
    (.one ⟨some s5, none, (.mv (.c (.v (.int .i64 0))))⟩
    (.one ⟨some s6, none, (.mv (.t s63))⟩
    .done)))))
  .ret) .skip)))
  (.seq (.reg (.one ⟨some s64, none, (.mv (.t s7))⟩
    (.one ⟨some s65, none, (.mv (.t s7))⟩
    (.one ⟨some s66, none, (.len false (.t s65))⟩
    (.one ⟨some s67, none, (.mv (.t s1))⟩
    (.one ⟨some s68, none, (.callq 13 [(.t s66), (.t s67)])⟩
    (.one ⟨some s4, none, (.mv (.t s64))⟩
    (.one ⟨some s5, none, (.mv (.t s68))⟩
    (.one ⟨some s6, none, (.mv (.c (.v (.int .i64 0))))⟩
    .done)))))))))
  .ret))))))))))))))⟩
theorem ok11 : compF Try.prog c11 Try.f11 = some ir11 := by kernel_rfl
theorem k_lens_Read {args : List AVal} {σ : AHeap} {Q : AVal → AHeap → Prop} (hl : Nat.ble args.length 69 = true) (h : argsK (Env.full 9) 0 args fun env => evC Try.prog c11 ir11.body env σ (retQ ir11 Q)) : ACalls Try.prog 11 args σ Q :=
  acalls_of Try.func11 ok11 rfl (Nat.le_of_ble_eq_true hl) h
/- lens.Size -/
def c13 : Cfg := ⟨qs, false, 23, []⟩
def ir13 : IFun := ⟨2, [.tmp s4],
  (.seq (.reg (.one ⟨some s4, none, (.mv (.c (.v (.int .i64 0))))⟩
    .done))
  (.seq (.seq (.reg (.one ⟨some s5, none, (.mv (.t s1))⟩
    (.one ⟨some s6, none, (.callq 50 [(.t s5)])⟩
    (.one ⟨some s7, none, (.not (.t s6))⟩
    (.one ⟨some s8, none, (.mv (.t s7))⟩
    (.one ⟨some s9, some (s8, false), (.mv (.t s0))⟩
    (.one ⟨some s10, some (s8, false), (.bin false .lss (.t s9) (.c (.v (.int .i64 1))))⟩
    (.one ⟨some s11, none, (.pick (.t s8) (.c (.v (.bool true))) (.t s10))⟩
    (.one ⟨some s12, none, (.mv (.t s11))⟩
    (.one ⟨some s13, some (s12, false), (.mv (.t s0))⟩
    (.one ⟨some s14, some (s12, false), (.bin false .gtr (.t s13) (.c (.v (.int .i64 23))))⟩
    (.one ⟨some s15, none, (.pick (.t s12) (.c (.v (.bool true))) (.t s14))⟩
    .done))))))))))))
  (.cond (.t s15) (.seq (.reg (.one ⟨some s4, none, (.mv (.c (.v (.int .i64 0))))⟩
    .done))
  .ret) .skip))
  (.seq (.reg (.one ⟨some s16, none, (.mv (.t s0))⟩
    (.one ⟨some s17, none, (.mv (.t s1))⟩
    (.one ⟨some s18, none, (.bin false .add (.t s17) (.c (.v (.int .i64 1))))⟩
    (.one ⟨some s19, none, (.bin false .mul (.t s16) (.t s18))⟩
    (.one ⟨some s20, none, (.bin false .add (.t s19) (.c (.v (.int .i64 8))))⟩
    (.one ⟨some s21, none, (.bin false .sub (.t s20) (.c (.v (.int .i64 1))))⟩
    (.one ⟨some s22, none, (.bin false .quo (.t s21) (.c (.v (.int .i64 8))))⟩
    (.one ⟨some s4, none, (.mv (.t s22))⟩
    .done)))))))))
  .ret)))⟩
theorem ok13 : compF Try.prog c13 Try.f13 = some ir13 := by kernel_rfl
theorem k_lens_Size {args : List AVal} {σ : AHeap} {Q : AVal → AHeap → Prop} (hl : Nat.ble args.length 23 = true) (h : argsK (Env.full 9) 0 args fun env => evC Try.prog c13 ir13.body env σ (retQ ir13 Q)) : ACalls Try.prog 13 args σ Q :=
  acalls_of Try.func13 ok13 rfl (Nat.le_of_ble_eq_true hl) h
/- lens.isWidth -/
def c50 : Cfg := ⟨qs, false, 9, []⟩
def ir50 : IFun := ⟨1, [.tmp s2],
  (.seq (.reg (.one ⟨some s2, none, (.mv (.c (.v (.bool false))))⟩
    .done))
  (.seq (.reg (.one ⟨some s3, none, (.mv (.t s0))⟩
    (.one ⟨some s4, none, (.bin false .eql (.t s3) (.c (.v (.int .i64 11))))⟩
    (.one ⟨some s5, none, (.mv (.t s4))⟩
    (.one ⟨some s6, some (s5, false), (.mv (.t s0))⟩
    (.one ⟨some s7, some (s5, false), (.bin false .eql (.t s6) (.c (.v (.int .i64 15))))⟩
    (.one ⟨some s8, none, (.pick (.t s5) (.c (.v (.bool true))) (.t s7))⟩
    (.one ⟨some s2, none, (.mv (.t s8))⟩
    .done))))))))
  .ret))⟩
theorem ok50 : compF Try.prog c50 Try.f50 = some ir50 := by kernel_rfl
theorem k_lens_isWidth {args : List AVal} {σ : AHeap} {Q : AVal → AHeap → Prop} (hl : Nat.ble args.length 9 = true) (h : argsK (Env.full 9) 0 args fun env => evC Try.prog c50 ir50.body env σ (retQ ir50 Q)) : ACalls Try.prog 50 args σ Q :=
  acalls_of Try.func50 ok50 rfl (Nat.le_of_ble_eq_true hl) h
end Go.Proofs.Ytkdbmajkjlnpiac

