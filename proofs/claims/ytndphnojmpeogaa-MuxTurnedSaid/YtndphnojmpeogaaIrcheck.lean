/-
  The bodies of one package, compiled to the framework's language (printed by a program of this session).
-/
import Derived.Test.YtndphnojmpeogaaIr0
namespace Go.Proofs.Ytndphnojmpeogaa
set_option linter.unusedVariables false
set_option linter.unusedSimpArgs false
open Go Go.Am
/- check.Open -/
def c34 : Cfg := ⟨qs, false, 23, []⟩
def ir34 : IFun := ⟨1, [.tmp s2, .tmp s3],
  (.seq (.reg (.one ⟨some s2, none, (.mv (.c (.slice 1 [] .full)))⟩
    (.one ⟨some s3, none, (.mv (.c (.v (.int .i64 0))))⟩
    .done)))
  (.seq (.reg (.one ⟨some s5, none, (.mv (.t s0))⟩
    (.one ⟨some s6, none, (.len false (.t s5))⟩
    (.one ⟨some s7, none, (.bin false .sub (.t s6) (.c (.v (.int .i64 2))))⟩
    (.one ⟨some s4, none, (.mv (.t s7))⟩
    .done)))))
  (.seq (.block 0 (.seq (.reg (.one ⟨some s9, none, (.mv (.t s4))⟩
    (.one ⟨some s10, none, (.bin false .lss (.t s9) (.c (.v (.int .i64 0))))⟩
    (.one ⟨some s8, none, (.mv (.t s10))⟩
    .done))))
  (.cond (.t s8) (.seq (.reg (.one ⟨some s2, none, (.mv (.c (.slice 1 [] .full)))⟩
    (.one ⟨some s3, none, (.mv (.c (.v (.int .i64 8))))⟩
    .done)))
  .ret) (.seq (.reg (.one ⟨some s12, none, (.mv (.t s0))⟩
    (.one ⟨some s13, none, (.mv (.t s4))⟩
    (.one ⟨some s14, none, (.cut 1 (.t s12) none (some (.t s13)) none)⟩
    (.one ⟨some s15, none, (.callq 43 [(.t s14)])⟩
    (.one ⟨some s16, none, (.mv (.t s0))⟩
    (.one ⟨some s17, none, (.callq 68 [(.t s15), (.t s16)])⟩
    (.one ⟨some s18, none, (.not (.t s17))⟩
    (.one ⟨some s11, none, (.mv (.t s18))⟩
    .done)))))))))
  (.cond (.t s11) (.seq (.reg (.one ⟨some s2, none, (.mv (.c (.slice 1 [] .full)))⟩
    (.one ⟨some s3, none, (.mv (.c (.v (.int .i64 13))))⟩
    .done)))
  .ret) .skip)))))
  (.seq (.reg (.one ⟨some s19, none, (.mv (.t s0))⟩
    (.one ⟨some s20, none, (.mv (.t s4))⟩
    (.one ⟨some s21, none, (.cut 1 (.t s19) none (some (.t s20)) none)⟩
    (.one ⟨some s22, none, (.callq 37 [(.t s21)])⟩
    (.one ⟨some s2, none, (.mv (.t s22))⟩
    (.one ⟨some s3, none, (.mv (.c (.v (.int .i64 0))))⟩
    .done)))))))
  .ret))))⟩
theorem ok34 : compF Try.prog c34 Try.f34 = some ir34 := by kernel_rfl
theorem k_check_Open {args : List AVal} {σ : AHeap} {Q : AVal → AHeap → Prop} (hl : Nat.ble args.length 23 = true) (h : argsK (Env.full 9) 0 args fun env => evC Try.prog c34 ir34.body env σ (retQ ir34 Q)) : ACalls Try.prog 34 args σ Q :=
  acalls_of Try.func34 ok34 rfl (Nat.le_of_ble_eq_true hl) h
/- check.Close -/
def c43 : Cfg := ⟨qs, false, 15, []⟩
def ir43 : IFun := ⟨1, [.tmp s2],
  (.seq (.reg (.one ⟨some s2, none, (.mv (.c (.slice 1 [] .full)))⟩
    .done))
  (.seq (.reg (.one ⟨some s4, none, (.mv (.t s0))⟩
    (.one ⟨some s5, none, (.callq 73 [(.t s4)])⟩
    (.one ⟨some s3, none, (.mv (.t s5))⟩
    .done))))
  (.seq (.reg (.one ⟨some s6, none, (.mv (.t s0))⟩
    (.one ⟨some s7, none, (.callq 37 [(.t s6)])⟩
    (.one ⟨some s8, none, (.mv (.t s3))⟩
    (.one ⟨some s9, none, (.bin false .shr (.t s8) (.c (.v (.int .u64 8))))⟩
    (.one ⟨some s10, none, (.conv .u8 (.t s9))⟩
    (.one ⟨some s11, none, (.mv (.t s3))⟩
    (.one ⟨some s12, none, (.conv .u8 (.t s11))⟩
    (.one ⟨some s13, none, (.row 1 [(.t s10), (.t s12)])⟩
    (.one ⟨some s14, none, (.app 1 1 (.t s7) (.t s13))⟩
    (.one ⟨some s2, none, (.mv (.t s14))⟩
    .done)))))))))))
  .ret)))⟩
theorem ok43 : compF Try.prog c43 Try.f43 = some ir43 := by kernel_rfl
theorem k_check_Close {args : List AVal} {σ : AHeap} {Q : AVal → AHeap → Prop} (hl : Nat.ble args.length 15 = true) (h : argsK (Env.full 9) 0 args fun env => evC Try.prog c43 ir43.body env σ (retQ ir43 Q)) : ACalls Try.prog 43 args σ Q :=
  acalls_of Try.func43 ok43 rfl (Nat.le_of_ble_eq_true hl) h
/- check.Close -/
def c43m : Cfg := ⟨qs, true, 15, []⟩
def ir43m : IFun := ⟨1, [.tmp s2],
  (.seq (.reg (.one ⟨some s2, none, (.mv (.c (.slice 1 [] .full)))⟩
    .done))
  (.seq (.reg (.one ⟨some s4, none, (.mv (.t s0))⟩
    (.one ⟨some s5, none, (.callq 73 [(.t s4)])⟩
    (.one ⟨some s3, none, (.mv (.t s5))⟩
    .done))))
  (.seq (.reg (.one ⟨some s6, none, (.mv (.t s0))⟩
    (.one ⟨some s7, none, (.callq 37 [(.t s6)])⟩
    (.one ⟨some s8, none, (.mv (.t s3))⟩
    (.one ⟨some s9, none, (.bin false .shr (.t s8) (.c (.v (.int .u64 8))))⟩
    (.one ⟨some s10, none, (.conv .u8 (.t s9))⟩
    (.one ⟨some s11, none, (.mv (.t s3))⟩
    (.one ⟨some s12, none, (.conv .u8 (.t s11))⟩
    (.one ⟨some s13, none, (.row 1 [(.t s10), (.t s12)])⟩
    (.one ⟨some s14, none, (.appm 1 1 (.t s7) (.t s13))⟩
    (.one ⟨some s2, none, (.mv (.t s14))⟩
    .done)))))))))))
  .ret)))⟩
theorem ok43m : compF Try.prog c43m Try.f43 = some ir43m := by kernel_rfl
theorem km_check_Close {args : List AVal} {σ : AHeap} {Q : AVal → AHeap → Prop} (hl : Nat.ble args.length 15 = true) (h : argsK (Env.full 9) 0 args fun env => evC Try.prog c43m ir43m.body env σ (retQ ir43m Q)) : ACalls Try.prog 43 args σ Q :=
  acalls_of Try.func43 ok43m rfl (Nat.le_of_ble_eq_true hl) h
/- check.Of -/
def c73 : Cfg := ⟨qs, false, 5, []⟩
def ir73 : IFun := ⟨1, [.tmp s2],
  (.seq (.reg (.one ⟨some s2, none, (.mv (.c (.v (.int .u16 0))))⟩
    .done))
  (.seq (.reg (.one ⟨some s3, none, (.mv (.t s0))⟩
    (.one ⟨some s4, none, (.callq 80 [(.c (.v (.int .u16 65535))), (.t s3)])⟩
    (.one ⟨some s2, none, (.mv (.t s4))⟩
    .done))))
  .ret))⟩
theorem ok73 : compF Try.prog c73 Try.f73 = some ir73 := by kernel_rfl
theorem k_check_Of {args : List AVal} {σ : AHeap} {Q : AVal → AHeap → Prop} (hl : Nat.ble args.length 5 = true) (h : argsK (Env.full 9) 0 args fun env => evC Try.prog c73 ir73.body env σ (retQ ir73 Q)) : ACalls Try.prog 73 args σ Q :=
  acalls_of Try.func73 ok73 rfl (Nat.le_of_ble_eq_true hl) h
/- check.More -/
def c80 : Cfg := ⟨qs, false, 18, []⟩
def ir80 : IFun := ⟨2, [.tmp s4],
  (.seq (.reg (.one ⟨some s4, none, (.mv (.c (.v (.int .u16 0))))⟩
    .done))
  (.seq (.seq (.reg (.one ⟨some s7, none, (.mv (.t s1))⟩
    (.one ⟨some s8, none, (.len false (.t s7))⟩
    (.one ⟨some s9, none, (.mv (.c (.v (.int .i64 0))))⟩
    .done))))
  (.block 0 (.loop (.seq (.reg (.one ⟨some s10, none, (.bin false .lss (.t s9) (.t s8))⟩
    .done))
  (.seq (.cond (.t s10) .skip (.exit 0))
  (.seq (.block 1 (.seq (.reg (.one ⟨some s11, none, (.iaddr 1 (.t s7) (.t s9))⟩
    (.one ⟨some s12, none, (.load none (.t s11))⟩
    (.one ⟨some s6, none, (.mv (.t s12))⟩
    .done))))
  (.reg (.one ⟨some s13, none, (.mv (.t s0))⟩
    (.one ⟨some s14, none, (.mv (.t s6))⟩
    (.one ⟨some s15, none, (.callq 82 [(.t s13), (.t s14)])⟩
    (.one ⟨some s0, none, (.mv (.t s15))⟩
    .done)))))))
  (.reg (.one ⟨some s16, none, (.bin false .add (.t s9) (.c (.v (.int .i64 1))))⟩
    (.one ⟨some s9, none, (.mv (.t s16))⟩
    .done)))))))))
  (.seq (.reg (.one ⟨some s17, none, (.mv (.t s0))⟩
    (.one ⟨some s4, none, (.mv (.t s17))⟩
    .done)))
  .ret)))⟩
theorem ok80 : compF Try.prog c80 Try.f80 = some ir80 := by kernel_rfl
theorem k_check_More {args : List AVal} {σ : AHeap} {Q : AVal → AHeap → Prop} (hl : Nat.ble args.length 18 = true) (h : argsK (Env.full 9) 0 args fun env => evC Try.prog c80 ir80.body env σ (retQ ir80 Q)) : ACalls Try.prog 80 args σ Q :=
  acalls_of Try.func80 ok80 rfl (Nat.le_of_ble_eq_true hl) h
/- check.byteOn -/
def c82 : Cfg := ⟨qs, false, 25, []⟩
def ir82 : IFun := ⟨2, [.tmp s4],
  (.seq (.reg (.one ⟨some s4, none, (.mv (.c (.v (.int .u16 0))))⟩
    .done))
  (.scope (.seq (.reg (.one ⟨some s7, none, (.mv (.t s0))⟩
    (.one ⟨some s8, none, (.mv (.t s1))⟩
    (.one ⟨some s9, none, (.conv .u16 (.t s8))⟩
    (.one ⟨some s10, none, (.bin false .shl (.t s9) (.c (.v (.int .u64 8))))⟩
    (.one ⟨some s11, none, (.bin false .xor (.t s7) (.t s10))⟩
    (.one ⟨some s0, none, (.mv (.t s11))⟩
    .done)))))))
  (.seq (.reg (.one ⟨some s5, none, (.mv (.c (.v (.int .i64 0))))⟩
    .done))
  (.seq (.label 0)
  (.seq (.seq (.reg (.one ⟨some s12, none, (.mv (.t s5))⟩
    (.one ⟨some s13, none, (.bin false .lss (.t s12) (.c (.v (.int .i64 8))))⟩
    .done)))
  (.cond (.t s13) (.seq (.reg (.one ⟨some s14, none, (.mv (.t s0))⟩
    (.one ⟨some s15, none, (.bin false .and (.t s14) (.c (.v (.int .u16 32768))))⟩
    (.one ⟨some s6, none, (.mv (.t s15))⟩
    .done))))
  (.seq (.reg (.one ⟨some s16, none, (.mv (.t s0))⟩
    (.one ⟨some s17, none, (.bin false .shl (.t s16) (.c (.v (.int .u64 1))))⟩
    (.one ⟨some s0, none, (.mv (.t s17))⟩
    .done))))
  (.seq (.seq (.reg (.one ⟨some s18, none, (.mv (.t s6))⟩
    (.one ⟨some s19, none, (.bin false .neq (.t s18) (.c (.v (.int .u16 0))))⟩
    .done)))
  (.cond (.t s19) (.reg (.one ⟨some s20, none, (.mv (.t s0))⟩
    (.one ⟨some s21, none, (.bin false .xor (.t s20) (.c (.v (.int .u16 4129))))⟩
    (.one ⟨some s0, none, (.mv (.t s21))⟩
    .done)))) .skip))
  (.seq (.reg (.one ⟨some s22, none, (.mv (.t s5))⟩
    (.one ⟨some s23, none, (.bin false .add (.t s22) (.c (.v (.int .i64 1))))⟩
    (.one ⟨some s5, none, (.mv (.t s23))⟩
    .done))))
  (.goto 0))))) .skip))
  (.seq (.reg (.one ⟨some s24, none, (.mv (.t s0))⟩
    (.one ⟨some s4, none, (.mv (.t s24))⟩
    .done)))
  .ret)))))))⟩
theorem ok82 : compF Try.prog c82 Try.f82 = some ir82 := by kernel_rfl
theorem k_check_byteOn {args : List AVal} {σ : AHeap} {Q : AVal → AHeap → Prop} (hl : Nat.ble args.length 25 = true) (h : argsK (Env.full 9) 0 args fun env => evC Try.prog c82 ir82.body env σ (retQ ir82 Q)) : ACalls Try.prog 82 args σ Q :=
  acalls_of Try.func82 ok82 rfl (Nat.le_of_ble_eq_true hl) h
end Go.Proofs.Ytndphnojmpeogaa

