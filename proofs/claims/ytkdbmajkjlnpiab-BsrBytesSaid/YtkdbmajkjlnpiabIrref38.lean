/-
  The bodies of one package, compiled to the framework's language (printed by a program of this session).
-/
import Derived.Test.YtkdbmajkjlnpiabIr0
namespace Go.Proofs.Ytkdbmajkjlnpiab
set_option linter.unusedVariables false
set_option linter.unusedSimpArgs false
open Go Go.Am
/- bowlineref38.Read -/
def c47 : Cfg := ⟨qs, false, 38, []⟩
def ir47 : IFun := ⟨1, [.cell s2 (some 4), .tmp s3],
  (.seq (.reg (.one ⟨some s2, none, (.new [(.v (.int .i64 0)), (.v (.int .i64 0)), (.v (.int .i64 0)), (.v (.int .i64 0))])⟩
    (.one ⟨some s3, none, (.mv (.c (.v (.int .i64 0))))⟩
    .done)))
  (.seq (.reg (.one ⟨some s10, none, (.build [(.v (.int .i64 0)), (.v (.int .i64 0)), (.v (.int .i64 0)), (.v (.int .i64 0))] [])⟩
    (.one ⟨some s4, none, (.new [(.v (.int .i64 0)), (.v (.int .i64 0)), (.v (.int .i64 0)), (.v (.int .i64 0))])⟩
    (.one ⟨none, none, (.store 4 (.t s4) (.t s10))⟩
    .done))))
  (.seq (.seq (.reg (.one ⟨some s11, none, (.mv (.t s0))⟩
    (.one ⟨some s12, none, (.len false (.t s11))⟩
    (.one ⟨some s13, none, (.bin false .lss (.t s12) (.c (.v (.int .i64 3))))⟩
    .done))))
  (.cond (.t s13) (.seq (.reg (.one ⟨some s14, none, (.load (some 4) (.t s4))⟩
    (.one ⟨none, none, (.store 4 (.t s2) (.t s14))⟩
    (.one ⟨some s3, none, (.mv (.c (.v (.int .i64 8))))⟩
    .done))))
  .ret) .skip))
  (.seq (.seq (.reg (.one ⟨some s15, none, (.mv (.t s0))⟩
    (.one ⟨some s16, none, (.len false (.t s15))⟩
    (.one ⟨some s17, none, (.bin false .gtr (.t s16) (.c (.v (.int .i64 3))))⟩
    .done))))
  (.cond (.t s17) (.seq (.reg (.one ⟨some s18, none, (.load (some 4) (.t s4))⟩
    (.one ⟨none, none, (.store 4 (.t s2) (.t s18))⟩
    (.one ⟨some s3, none, (.mv (.c (.v (.int .i64 2))))⟩
    .done))))
  .ret) .skip))
  (.seq (.reg (.one ⟨some s19, none, (.mv (.t s0))⟩
    (.one ⟨some s20, none, (.callq 94 [(.t s19)])⟩
    (.one ⟨some s5, none, (.mv (.t s20))⟩
    .done))))
  (.seq (.seq (.reg (.one ⟨some s6, none, (.mv (.c (.v (.int .i64 0))))⟩
    .done))
  (.block 0 (.loop (.seq (.seq (.reg (.one ⟨some s21, none, (.mv (.t s6))⟩
    (.one ⟨some s22, none, (.bin false .lss (.t s21) (.c (.v (.int .i64 4))))⟩
    .done)))
  (.cond (.t s22) .skip (.exit 0)))
  (.seq (.block 1 (.seq (.reg (.one ⟨some s26, none, (.mv (.t s5))⟩
    (.one ⟨some s27, none, (.mv (.t s6))⟩
    (.one ⟨some s28, none, (.bin false .mul (.c (.v (.int .i64 6))) (.t s27))⟩
    (.one ⟨some s29, none, (.callq 95 [(.t s26), (.t s28), (.c (.v (.int .i64 6)))])⟩
    (.one ⟨some s25, none, (.mv (.t s29))⟩
    (.one ⟨some s30, none, (.ext (.t s25) 0)⟩
    (.one ⟨some s31, none, (.ext (.t s25) 1)⟩
    (.one ⟨some s32, none, (.ext (.t s25) 2)⟩
    (.one ⟨some s7, none, (.mv (.t s30))⟩
    (.one ⟨some s8, none, (.mv (.t s31))⟩
    (.one ⟨some s9, none, (.mv (.t s32))⟩
    .done))))))))))))
  (.reg (.one ⟨some s33, none, (.mv (.t s6))⟩
    (.one ⟨some s34, none, (.mv (.t s7))⟩
    (.one ⟨some s35, none, (.conv .i64 (.t s34))⟩
    (.one ⟨some s36, none, (.iaddrA 1 4 (.t s4) (.t s33))⟩
    (.one ⟨none, none, (.store 1 (.t s36) (.t s35))⟩
    .done))))))))
  (.reg (.one ⟨some s23, none, (.mv (.t s6))⟩
    (.one ⟨some s24, none, (.bin false .add (.t s23) (.c (.v (.int .i64 1))))⟩
    (.one ⟨some s6, none, (.mv (.t s24))⟩
    .done)))))))))
  (.seq (.reg (.one ⟨some s37, none, (.load (some 4) (.t s4))⟩
    (.one ⟨none, none, (.store 4 (.t s2) (.t s37))⟩
    (.one ⟨some s3, none, (.mv (.c (.v (.int .i64 0))))⟩
    .done))))
  .ret)))))))⟩
theorem ok47 : compF Try.prog c47 Try.f47 = some ir47 := by kernel_rfl
theorem k_bowlineref38_Read {args : List AVal} {σ : AHeap} {Q : AVal → AHeap → Prop} (hl : Nat.ble args.length 38 = true) (h : argsK (Env.full 9) 0 args fun env => evC Try.prog c47 ir47.body env σ (retQ ir47 Q)) : ACalls Try.prog 47 args σ Q :=
  acalls_of Try.func47 ok47 rfl (Nat.le_of_ble_eq_true hl) h
/- bowlineref38.Right -/
def c48 : Cfg := ⟨qs, false, 18, []⟩
def ir48 : IFun := ⟨1, [.tmp s2],
  (.seq (.reg (.one ⟨some s1, none, (.box 4 (.t s0))⟩
    (.one ⟨some s2, none, (.mv (.c (.v (.bool false))))⟩
    .done)))
  (.seq (.seq (.reg (.one ⟨some s3, none, (.mv (.c (.v (.int .i64 0))))⟩
    .done))
  (.block 0 (.loop (.seq (.seq (.reg (.one ⟨some s4, none, (.mv (.t s3))⟩
    (.one ⟨some s5, none, (.bin false .lss (.t s4) (.c (.v (.int .i64 4))))⟩
    .done)))
  (.cond (.t s5) .skip (.exit 0)))
  (.seq (.block 1 (.seq (.reg (.one ⟨some s8, none, (.mv (.t s3))⟩
    (.one ⟨some s9, none, (.iaddrA 1 4 (.t s1) (.t s8))⟩
    (.one ⟨some s10, none, (.load none (.t s9))⟩
    (.one ⟨some s11, none, (.bin false .lss (.t s10) (.c (.v (.int .i64 0))))⟩
    (.one ⟨some s12, none, (.mv (.t s11))⟩
    (.one ⟨some s13, some (s12, false), (.mv (.t s3))⟩
    (.one ⟨some s14, some (s12, false), (.iaddrA 1 4 (.t s1) (.t s13))⟩
    (.one ⟨some s15, some (s12, false), (.load none (.t s14))⟩
    (.one ⟨some s16, some (s12, false), (.bin false .gtr (.t s15) (.c (.v (.int .i64 63))))⟩
    (.one ⟨some s17, none, (.pick (.t s12) (.c (.v (.bool true))) (.t s16))⟩
    .done)))))))))))
  (.cond (.t s17) (.seq (.reg (.one ⟨some s2, none, (.mv (.c (.v (.bool false))))⟩
    .done))
  .ret) .skip)))
  (.reg (.one ⟨some s6, none, (.mv (.t s3))⟩
    (.one ⟨some s7, none, (.bin false .add (.t s6) (.c (.v (.int .i64 1))))⟩
    (.one ⟨some s3, none, (.mv (.t s7))⟩
    .done)))))))))
  (.seq (.reg (.one ⟨some s2, none, (.mv (.c (.v (.bool true))))⟩
    .done))
  .ret)))⟩
theorem ok48 : compF Try.prog c48 Try.f48 = some ir48 := by kernel_rfl
theorem k_bowlineref38_Right {args : List AVal} {σ : AHeap} {Q : AVal → AHeap → Prop} (hl : Nat.ble args.length 18 = true) (h : argsK (Env.full 9) 0 args fun env => evC Try.prog c48 ir48.body env σ (retQ ir48 Q)) : ACalls Try.prog 48 args σ Q :=
  acalls_of Try.func48 ok48 rfl (Nat.le_of_ble_eq_true hl) h
/- bowlineref38.Write -/
def c49 : Cfg := ⟨qs, false, 20, []⟩
def ir49 : IFun := ⟨1, [.tmp s2],
  (.seq (.reg (.one ⟨some s1, none, (.box 4 (.t s0))⟩
    (.one ⟨some s2, none, (.mv (.c (.slice 1 [] .full)))⟩
    .done)))
  (.seq (.reg (.one ⟨some s3, none, (.mv (.c (.slice 1 [] .full)))⟩
    .done))
  (.seq (.seq (.reg (.one ⟨some s4, none, (.mv (.c (.v (.int .i64 0))))⟩
    .done))
  (.block 0 (.loop (.seq (.seq (.reg (.one ⟨some s5, none, (.mv (.t s4))⟩
    (.one ⟨some s6, none, (.bin false .lss (.t s5) (.c (.v (.int .i64 4))))⟩
    .done)))
  (.cond (.t s6) .skip (.exit 0)))
  (.seq (.block 1 (.reg (.one ⟨some s10, none, (.mv (.t s3))⟩
    (.one ⟨some s11, none, (.mv (.t s4))⟩
    (.one ⟨some s12, none, (.iaddrA 1 4 (.t s1) (.t s11))⟩
    (.one ⟨some s13, none, (.load none (.t s12))⟩
    (.one ⟨some s14, none, (.conv .u64 (.t s13))⟩
    (.one ⟨some s15, none, (.callq 96 [(.t s10), (.t s14), (.c (.v (.int .i64 6)))])⟩
    (.one ⟨some s9, none, (.mv (.t s15))⟩
    (.one ⟨some s16, none, (.ext (.t s9) 0)⟩
    (.one ⟨some s17, none, (.ext (.t s9) 1)⟩
    (.one ⟨some s3, none, (.mv (.t s16))⟩
    .done))))))))))))
  (.reg (.one ⟨some s7, none, (.mv (.t s4))⟩
    (.one ⟨some s8, none, (.bin false .add (.t s7) (.c (.v (.int .i64 1))))⟩
    (.one ⟨some s4, none, (.mv (.t s8))⟩
    .done)))))))))
  (.seq (.reg (.one ⟨some s18, none, (.mv (.t s3))⟩
    (.one ⟨some s19, none, (.callq 97 [(.t s18)])⟩
    (.one ⟨some s2, none, (.mv (.t s19))⟩
    .done))))
  .ret))))⟩
theorem ok49 : compF Try.prog c49 Try.f49 = some ir49 := by kernel_rfl
theorem k_bowlineref38_Write {args : List AVal} {σ : AHeap} {Q : AVal → AHeap → Prop} (hl : Nat.ble args.length 20 = true) (h : argsK (Env.full 9) 0 args fun env => evC Try.prog c49 ir49.body env σ (retQ ir49 Q)) : ACalls Try.prog 49 args σ Q :=
  acalls_of Try.func49 ok49 rfl (Nat.le_of_ble_eq_true hl) h
end Go.Proofs.Ytkdbmajkjlnpiab

