/-
  The bodies of one package, compiled to the framework's language (printed by a program of this session).
-/
import Derived.Test.YtkdbmajkjlnpiabIr0
namespace Go.Proofs.Ytkdbmajkjlnpiab
set_option linter.unusedVariables false
set_option linter.unusedSimpArgs false
open Go Go.Am
/- bsr.Write -/
def c45 : Cfg := ⟨qs, false, 22, []⟩
def ir45 : IFun := ⟨1, [.tmp s2, .tmp s3],
  (.seq (.reg (.one ⟨some s1, none, (.box 4 (.t s0))⟩
    (.one ⟨some s2, none, (.mv (.c (.slice 1 [] .full)))⟩
    (.one ⟨some s3, none, (.mv (.c (.v (.int .i64 0))))⟩
    .done))))
  (.seq (.seq (.reg (.one ⟨some s7, none, (.load (some 4) (.t s1))⟩
    (.one ⟨some s8, none, (.callq 88 [(.t s7)])⟩
    (.one ⟨some s9, none, (.not (.t s8))⟩
    .done))))
  (.cond (.t s9) (.seq (.reg (.one ⟨some s2, none, (.mv (.c (.slice 1 [] .full)))⟩
    (.one ⟨some s3, none, (.mv (.c (.v (.int .i64 3))))⟩
    .done)))
  .ret) .skip))
  (.seq (.reg (.one ⟨some s10, none, (.callq 89 [])⟩
    (.one ⟨some s4, none, (.mv (.t s10))⟩
    .done)))
  (.seq (.seq (.reg (.one ⟨some s11, none, (.load (some 4) (.t s1))⟩
    (.one ⟨some s12, none, (.mv (.c (.v (.int .i64 0))))⟩
    .done)))
  (.block 0 (.loop (.seq (.reg (.one ⟨some s13, none, (.bin false .lss (.t s12) (.c (.v (.int .i64 4))))⟩
    .done))
  (.seq (.cond (.t s13) .skip (.exit 0))
  (.seq (.block 1 (.seq (.reg (.one ⟨some s14, none, (.index none 1 4 (.t s11) (.t s12))⟩
    (.one ⟨some s6, none, (.mv (.t s14))⟩
    .done)))
  (.reg (.one ⟨some s15, none, (.mv (.t s4))⟩
    (.one ⟨some s16, none, (.mv (.t s6))⟩
    (.one ⟨some s17, none, (.conv .u64 (.t s16))⟩
    (.one ⟨some s18, none, (.call 90 [(.t s15), (.t s17), (.c (.v (.int .i64 6)))])⟩
    .done)))))))
  (.reg (.one ⟨some s19, none, (.bin false .add (.t s12) (.c (.v (.int .i64 1))))⟩
    (.one ⟨some s12, none, (.mv (.t s19))⟩
    .done)))))))))
  (.seq (.reg (.one ⟨some s20, none, (.mv (.t s4))⟩
    (.one ⟨some s21, none, (.callq 91 [(.t s20)])⟩
    (.one ⟨some s2, none, (.mv (.t s21))⟩
    (.one ⟨some s3, none, (.mv (.c (.v (.int .i64 0))))⟩
    .done)))))
  .ret)))))⟩
theorem ok45 : compF Try.prog c45 Try.f45 = some ir45 := by kernel_rfl
theorem k_bsr_Write {args : List AVal} {σ : AHeap} {Q : AVal → AHeap → Prop} (hl : Nat.ble args.length 22 = true) (h : argsK (Env.full 9) 0 args fun env => evC Try.prog c45 ir45.body env σ (retQ ir45 Q)) : ACalls Try.prog 45 args σ Q :=
  acalls_of Try.func45 ok45 rfl (Nat.le_of_ble_eq_true hl) h
/- bsr.Read -/
def c46 : Cfg := ⟨qs, false, 35, []⟩
def ir46 : IFun := ⟨1, [.cell s2 (some 4), .tmp s3],
  (.seq (.reg (.one ⟨some s2, none, (.new [(.v (.int .i64 0)), (.v (.int .i64 0)), (.v (.int .i64 0)), (.v (.int .i64 0))])⟩
    (.one ⟨some s3, none, (.mv (.c (.v (.int .i64 0))))⟩
    .done)))
  (.seq (.block 0 (.seq (.reg (.one ⟨some s10, none, (.mv (.t s0))⟩
    (.one ⟨some s11, none, (.len false (.t s10))⟩
    (.one ⟨some s12, none, (.bin false .lss (.t s11) (.c (.v (.int .i64 3))))⟩
    (.one ⟨some s9, none, (.mv (.t s12))⟩
    .done)))))
  (.cond (.t s9) (.seq (.reg (.one ⟨some s13, none, (.build [(.v (.int .i64 0)), (.v (.int .i64 0)), (.v (.int .i64 0)), (.v (.int .i64 0))] [])⟩
    (.one ⟨none, none, (.store 4 (.t s2) (.t s13))⟩
    (.one ⟨some s3, none, (.mv (.c (.v (.int .i64 8))))⟩
    .done))))
  .ret) (.seq (.reg (.one ⟨some s15, none, (.mv (.t s0))⟩
    (.one ⟨some s16, none, (.len false (.t s15))⟩
    (.one ⟨some s17, none, (.bin false .gtr (.t s16) (.c (.v (.int .i64 3))))⟩
    (.one ⟨some s14, none, (.mv (.t s17))⟩
    .done)))))
  (.cond (.t s14) (.seq (.reg (.one ⟨some s18, none, (.build [(.v (.int .i64 0)), (.v (.int .i64 0)), (.v (.int .i64 0)), (.v (.int .i64 0))] [])⟩
    (.one ⟨none, none, (.store 4 (.t s2) (.t s18))⟩
    (.one ⟨some s3, none, (.mv (.c (.v (.int .i64 2))))⟩
    .done))))
  .ret) .skip)))))
  (.seq (.reg (.one ⟨some s4, none, (.new [(.v (.int .i64 0)), (.v (.int .i64 0)), (.v (.int .i64 0)), (.v (.int .i64 0))])⟩
    .done))
  (.seq (.reg (.one ⟨some s19, none, (.mv (.t s0))⟩
    (.one ⟨some s20, none, (.callq 92 [(.t s19)])⟩
    (.one ⟨some s5, none, (.mv (.t s20))⟩
    .done))))
  (.seq (.seq (.reg (.one ⟨some s21, none, (.mv (.c (.v (.int .i64 0))))⟩
    .done))
  (.block 1 (.loop (.seq (.reg (.one ⟨some s22, none, (.bin false .lss (.t s21) (.c (.v (.int .i64 4))))⟩
    .done))
  (.seq (.cond (.t s22) .skip (.exit 1))
  (.seq (.block 2 (.seq (.reg (.one ⟨some s23, none, (.mv (.t s21))⟩
    (.one ⟨some s6, none, (.mv (.t s23))⟩
    .done)))
  (.seq (.reg (.one ⟨some s25, none, (.mv (.t s5))⟩
    (.one ⟨some s26, none, (.call 93 [(.t s25), (.c (.v (.int .i64 6)))])⟩
    (.one ⟨some s24, none, (.mv (.t s26))⟩
    (.one ⟨some s27, none, (.ext (.t s24) 0)⟩
    (.one ⟨some s28, none, (.ext (.t s24) 1)⟩
    (.one ⟨some s7, none, (.mv (.t s27))⟩
    (.one ⟨some s8, none, (.mv (.t s28))⟩
    .done))))))))
  (.reg (.one ⟨some s29, none, (.mv (.t s6))⟩
    (.one ⟨some s30, none, (.mv (.t s7))⟩
    (.one ⟨some s31, none, (.conv .i64 (.t s30))⟩
    (.one ⟨some s32, none, (.iaddrA 1 4 (.t s4) (.t s29))⟩
    (.one ⟨none, none, (.store 1 (.t s32) (.t s31))⟩
    .done)))))))))
  (.reg (.one ⟨some s33, none, (.bin false .add (.t s21) (.c (.v (.int .i64 1))))⟩
    (.one ⟨some s21, none, (.mv (.t s33))⟩
    .done)))))))))
  (.seq (.reg (.one ⟨some s34, none, (.load (some 4) (.t s4))⟩
    (.one ⟨none, none, (.store 4 (.t s2) (.t s34))⟩
    (.one ⟨some s3, none, (.mv (.c (.v (.int .i64 0))))⟩
    .done))))
  .ret))))))⟩
theorem ok46 : compF Try.prog c46 Try.f46 = some ir46 := by kernel_rfl
theorem k_bsr_Read {args : List AVal} {σ : AHeap} {Q : AVal → AHeap → Prop} (hl : Nat.ble args.length 35 = true) (h : argsK (Env.full 9) 0 args fun env => evC Try.prog c46 ir46.body env σ (retQ ir46 Q)) : ACalls Try.prog 46 args σ Q :=
  acalls_of Try.func46 ok46 rfl (Nat.le_of_ble_eq_true hl) h
/- bsr.Level -/
def c50 : Cfg := ⟨qs, false, 25, []⟩
def ir50 : IFun := ⟨1, [.tmp s2, .tmp s3],
  (.seq (.reg (.one ⟨some s2, none, (.mv (.c (.v (.int .i64 0))))⟩
    (.one ⟨some s3, none, (.mv (.c (.v (.int .i64 0))))⟩
    .done)))
  (.scope (.seq (.seq (.reg (.one ⟨some s7, none, (.mv (.t s0))⟩
    (.one ⟨some s8, none, (.bin false .lss (.t s7) (.c (.v (.int .i64 0))))⟩
    .done)))
  (.cond (.t s8) (.seq (.reg (.one ⟨some s2, none, (.mv (.c (.v (.int .i64 0))))⟩
    (.one ⟨some s3, none, (.mv (.c (.v (.int .i64 1))))⟩
    .done)))
  .ret) .skip))
  (.seq (.reg (.one ⟨some s4, none, (.mv (.c (.v (.int .i64 0))))⟩
    (.one ⟨some s5, none, (.mv (.c (.v (.int .i64 0))))⟩
    .done)))
  (.seq (.label 0)
  (.seq (.reg (.one ⟨some s9, none, (.mv (.t s4))⟩
    (.one ⟨some s10, none, (.mv (.t s4))⟩
    (.one ⟨some s11, none, (.bin false .quo (.t s10) (.c (.v (.int .i64 6))))⟩
    (.one ⟨some s12, none, (.bin false .add (.t s9) (.t s11))⟩
    (.one ⟨some s13, none, (.bin false .add (.t s12) (.c (.v (.int .i64 1))))⟩
    (.one ⟨some s6, none, (.mv (.t s13))⟩
    .done)))))))
  (.seq (.seq (.reg (.one ⟨some s14, none, (.mv (.t s5))⟩
    (.one ⟨some s15, none, (.bin false .lss (.t s14) (.c (.v (.int .i64 63))))⟩
    (.one ⟨some s16, none, (.mv (.t s15))⟩
    (.one ⟨some s17, some (s16, true), (.mv (.t s6))⟩
    (.one ⟨some s18, some (s16, true), (.mv (.t s0))⟩
    (.one ⟨some s19, some (s16, true), (.bin false .leq (.t s17) (.t s18))⟩
    (.one ⟨some s20, none, (.pick (.t s16) (.t s19) (.c (.v (.bool false))))⟩
    .done))))))))
  (.cond (.t s20) (.seq (.reg (.one ⟨some s21, none, (.mv (.t s6))⟩
    (.one ⟨some s4, none, (.mv (.t s21))⟩
    .done)))
  (.seq (.reg (.one ⟨some s22, none, (.mv (.t s5))⟩
    (.one ⟨some s23, none, (.bin false .add (.t s22) (.c (.v (.int .i64 1))))⟩
    (.one ⟨some s5, none, (.mv (.t s23))⟩
    .done))))
  (.goto 0))) .skip))
  (.seq (.reg (.one ⟨some s24, none, (.mv (.t s5))⟩
    (.one ⟨some s2, none, (.mv (.t s24))⟩
    (.one ⟨some s3, none, (.mv (.c (.v (.int .i64 0))))⟩
    .done))))
  .ret))))))))⟩
theorem ok50 : compF Try.prog c50 Try.f50 = some ir50 := by kernel_rfl
theorem k_bsr_Level {args : List AVal} {σ : AHeap} {Q : AVal → AHeap → Prop} (hl : Nat.ble args.length 25 = true) (h : argsK (Env.full 9) 0 args fun env => evC Try.prog c50 ir50.body env σ (retQ ir50 Q)) : ACalls Try.prog 50 args σ Q :=
  acalls_of Try.func50 ok50 rfl (Nat.le_of_ble_eq_true hl) h
/- bsr.Least -/
def c51 : Cfg := ⟨qs, false, 20, []⟩
def ir51 : IFun := ⟨1, [.tmp s2, .tmp s3],
  (.seq (.reg (.one ⟨some s2, none, (.mv (.c (.v (.int .i64 0))))⟩
    (.one ⟨some s3, none, (.mv (.c (.v (.int .i64 0))))⟩
    .done)))
  (.scope (.seq (.seq (.reg (.one ⟨some s6, none, (.mv (.t s0))⟩
    (.one ⟨some s7, none, (.callq 98 [(.t s6)])⟩
    (.one ⟨some s8, none, (.not (.t s7))⟩
    .done))))
  (.cond (.t s8) (.seq (.reg (.one ⟨some s2, none, (.mv (.c (.v (.int .i64 0))))⟩
    (.one ⟨some s3, none, (.mv (.c (.v (.int .i64 1))))⟩
    .done)))
  .ret) .skip))
  (.seq (.reg (.one ⟨some s4, none, (.mv (.c (.v (.int .i64 0))))⟩
    (.one ⟨some s5, none, (.mv (.c (.v (.int .i64 0))))⟩
    .done)))
  (.seq (.label 0)
  (.seq (.seq (.reg (.one ⟨some s9, none, (.mv (.t s5))⟩
    (.one ⟨some s10, none, (.mv (.t s0))⟩
    (.one ⟨some s11, none, (.bin false .lss (.t s9) (.t s10))⟩
    .done))))
  (.cond (.t s11) (.seq (.reg (.one ⟨some s12, none, (.mv (.t s4))⟩
    (.one ⟨some s13, none, (.mv (.t s4))⟩
    (.one ⟨some s14, none, (.bin false .quo (.t s13) (.c (.v (.int .i64 6))))⟩
    (.one ⟨some s15, none, (.bin false .add (.t s14) (.c (.v (.int .i64 1))))⟩
    (.one ⟨some s16, none, (.bin false .add (.t s12) (.t s15))⟩
    (.one ⟨some s4, none, (.mv (.t s16))⟩
    .done)))))))
  (.seq (.reg (.one ⟨some s17, none, (.mv (.t s5))⟩
    (.one ⟨some s18, none, (.bin false .add (.t s17) (.c (.v (.int .i64 1))))⟩
    (.one ⟨some s5, none, (.mv (.t s18))⟩
    .done))))
  (.goto 0))) .skip))
  (.seq (.reg (.one ⟨some s19, none, (.mv (.t s4))⟩
    (.one ⟨some s2, none, (.mv (.t s19))⟩
    (.one ⟨some s3, none, (.mv (.c (.v (.int .i64 0))))⟩
    .done))))
  .ret)))))))⟩
theorem ok51 : compF Try.prog c51 Try.f51 = some ir51 := by kernel_rfl
theorem k_bsr_Least {args : List AVal} {σ : AHeap} {Q : AVal → AHeap → Prop} (hl : Nat.ble args.length 20 = true) (h : argsK (Env.full 9) 0 args fun env => evC Try.prog c51 ir51.body env σ (retQ ir51 Q)) : ACalls Try.prog 51 args σ Q :=
  acalls_of Try.func51 ok51 rfl (Nat.le_of_ble_eq_true hl) h
/- bsr.Right -/
def c88 : Cfg := ⟨qs, false, 13, []⟩
def ir88 : IFun := ⟨1, [.tmp s2],
  (.seq (.reg (.one ⟨some s1, none, (.box 4 (.t s0))⟩
    (.one ⟨some s2, none, (.mv (.c (.v (.bool false))))⟩
    .done)))
  (.seq (.seq (.reg (.one ⟨some s5, none, (.load (some 4) (.t s1))⟩
    (.one ⟨some s6, none, (.mv (.c (.v (.int .i64 0))))⟩
    .done)))
  (.block 0 (.loop (.seq (.reg (.one ⟨some s7, none, (.bin false .lss (.t s6) (.c (.v (.int .i64 4))))⟩
    .done))
  (.seq (.cond (.t s7) .skip (.exit 0))
  (.seq (.block 1 (.seq (.reg (.one ⟨some s8, none, (.index none 1 4 (.t s5) (.t s6))⟩
    (.one ⟨some s4, none, (.mv (.t s8))⟩
    .done)))
  (.seq (.reg (.one ⟨some s9, none, (.mv (.t s4))⟩
    (.one ⟨some s10, none, (.callq 98 [(.t s9)])⟩
    (.one ⟨some s11, none, (.not (.t s10))⟩
    .done))))
  (.cond (.t s11) (.seq (.reg (.one ⟨some s2, none, (.mv (.c (.v (.bool false))))⟩
    .done))
  .ret) .skip))))
  (.reg (.one ⟨some s12, none, (.bin false .add (.t s6) (.c (.v (.int .i64 1))))⟩
    (.one ⟨some s6, none, (.mv (.t s12))⟩
    .done)))))))))
  (.seq (.reg (.one ⟨some s2, none, (.mv (.c (.v (.bool true))))⟩
    .done))
  .ret)))⟩
theorem ok88 : compF Try.prog c88 Try.f88 = some ir88 := by kernel_rfl
theorem k_bsr_Right {args : List AVal} {σ : AHeap} {Q : AVal → AHeap → Prop} (hl : Nat.ble args.length 13 = true) (h : argsK (Env.full 9) 0 args fun env => evC Try.prog c88 ir88.body env σ (retQ ir88 Q)) : ACalls Try.prog 88 args σ Q :=
  acalls_of Try.func88 ok88 rfl (Nat.le_of_ble_eq_true hl) h
/- bsr.isLevel -/
def c98 : Cfg := ⟨qs, false, 9, []⟩
def ir98 : IFun := ⟨1, [.tmp s2],
  (.seq (.reg (.one ⟨some s2, none, (.mv (.c (.v (.bool false))))⟩
    .done))
  (.seq (.reg (.one ⟨some s3, none, (.mv (.t s0))⟩
    (.one ⟨some s4, none, (.bin false .geq (.t s3) (.c (.v (.int .i64 0))))⟩
    (.one ⟨some s5, none, (.mv (.t s4))⟩
    (.one ⟨some s6, some (s5, true), (.mv (.t s0))⟩
    (.one ⟨some s7, some (s5, true), (.bin false .leq (.t s6) (.c (.v (.int .i64 63))))⟩
    (.one ⟨some s8, none, (.pick (.t s5) (.t s7) (.c (.v (.bool false))))⟩
    (.one ⟨some s2, none, (.mv (.t s8))⟩
    .done))))))))
  .ret))⟩
theorem ok98 : compF Try.prog c98 Try.f98 = some ir98 := by kernel_rfl
theorem k_bsr_isLevel {args : List AVal} {σ : AHeap} {Q : AVal → AHeap → Prop} (hl : Nat.ble args.length 9 = true) (h : argsK (Env.full 9) 0 args fun env => evC Try.prog c98 ir98.body env σ (retQ ir98 Q)) : ACalls Try.prog 98 args σ Q :=
  acalls_of Try.func98 ok98 rfl (Nat.le_of_ble_eq_true hl) h
end Go.Proofs.Ytkdbmajkjlnpiab

