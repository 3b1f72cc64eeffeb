/-
  The bodies of one package, compiled to the framework's language (printed by a program of this session).
-/
import Derived.Test.YtmgjkfepcejgnaaIr0
namespace Go.Proofs.Ytmgjkfepcejgnaa
set_option linter.unusedVariables false
set_option linter.unusedSimpArgs false
open Go Go.Am
/- check.Open -/
def c7 : Cfg := ⟨qs, false, 23⟩
def ir7 : IFun := ⟨1, [.tmp s2, .tmp s3],
  (.seq (.reg (.one ⟨some s2, none, (.mv (.c (.slice 1 [] .full)))⟩
    (.one ⟨some s3, none, (.mv (.c (.v (.int .i64 0))))⟩
    .done)))
  (.seq (.reg (.one ⟨some s5, none, (.mv (.t s0))⟩
    (.one ⟨some s6, none, (.len false (.t s5))⟩
    (.one ⟨some s7, none, (.bin false .sub (.t s6) (.c (.v (.int .i64 2))))⟩
    (.one ⟨some s4, none, (.mv (.t s7))⟩
    .done)))))
  (.seq (.block 0 (.seq (.reg (.one ⟨some s9, none, (.mv (.t s4))⟩
    (.one ⟨some s10, none, (.bin false .lss (.t s9) (.c (.v (.int .i64 0))))⟩
    (.one ⟨some s8, none, (.mv (.t s10))⟩
    .done))))
  (.cond (.t s8) (.seq (.reg (.one ⟨some s2, none, (.mv (.c (.slice 1 [] .full)))⟩
    (.one ⟨some s3, none, (.mv (.c (.v (.int .i64 8))))⟩
    .done)))
  .ret) (.seq (.reg (.one ⟨some s12, none, (.mv (.t s0))⟩
    (.one ⟨some s13, none, (.mv (.t s4))⟩
    (.one ⟨some s14, none, (.cut 1 (.t s12) none (some (.t s13)) none)⟩
    (.one ⟨some s15, none, (.callq 12 [(.t s14)])⟩
    (.one ⟨some s16, none, (.mv (.t s0))⟩
    (.one ⟨some s17, none, (.callq 14 [(.t s15), (.t s16)])⟩
    (.one ⟨some s18, none, (.not (.t s17))⟩
    (.one ⟨some s11, none, (.mv (.t s18))⟩
    .done)))))))))
  (.cond (.t s11) (.seq (.reg (.one ⟨some s2, none, (.mv (.c (.slice 1 [] .full)))⟩
    (.one ⟨some s3, none, (.mv (.c (.v (.int .i64 13))))⟩
    .done)))
  .ret) .skip)))))
  (.seq (.reg (.one ⟨some s19, none, (.mv (.t s0))⟩
    (.one ⟨some s20, none, (.mv (.t s4))⟩
    (.one ⟨some s21, none, (.cut 1 (.t s19) none (some (.t s20)) none)⟩
    (.one ⟨some s22, none, (.callq 15 [(.t s21)])⟩
    (.one ⟨some s2, none, (.mv (.t s22))⟩
    (.one ⟨some s3, none, (.mv (.c (.v (.int .i64 0))))⟩
    .done)))))))
  .ret))))⟩
theorem ok7 : compF Try.prog c7 Try.f7 = some ir7 := by kernel_rfl
theorem k_check_Open {args : List AVal} {σ : AHeap} {Q : AVal → AHeap → Prop} (hl : Nat.ble args.length 23 = true) (h : argsK (Env.full 9) 0 args fun env => evC Try.prog c7 ir7.body env σ (retQ ir7 Q)) : ACalls Try.prog 7 args σ Q :=
  acalls_of Try.func7 ok7 rfl (Nat.le_of_ble_eq_true hl) h
/- check.Of -/
def c9 : Cfg := ⟨qs, false, 5⟩
def ir9 : IFun := ⟨1, [.tmp s2],
  (.seq (.reg (.one ⟨some s2, none, (.mv (.c (.v (.int .u16 0))))⟩
    .done))
  (.seq (.reg (.one ⟨some s3, none, (.mv (.t s0))⟩
    (.one ⟨some s4, none, (.callq 11 [(.c (.v (.int .u16 65535))), (.t s3)])⟩
    (.one ⟨some s2, none, (.mv (.t s4))⟩
    .done))))
  .ret))⟩
theorem ok9 : compF Try.prog c9 Try.f9 = some ir9 := by kernel_rfl
theorem k_check_Of {args : List AVal} {σ : AHeap} {Q : AVal → AHeap → Prop} (hl : Nat.ble args.length 5 = true) (h : argsK (Env.full 9) 0 args fun env => evC Try.prog c9 ir9.body env σ (retQ ir9 Q)) : ACalls Try.prog 9 args σ Q :=
  acalls_of Try.func9 ok9 rfl (Nat.le_of_ble_eq_true hl) h
/- check.More -/
def c11 : Cfg := ⟨qs, false, 18⟩
def ir11 : IFun := ⟨2, [.tmp s4],
  (.seq (.reg (.one ⟨some s4, none, (.mv (.c (.v (.int .u16 0))))⟩
    .done))
  (.seq (.seq (.reg (.one ⟨some s7, none, (.mv (.t s1))⟩
    (.one ⟨some s8, none, (.len false (.t s7))⟩
    (.one ⟨some s9, none, (.mv (.c (.v (.int .i64 0))))⟩
    .done))))
  (.block 0 (.loop (.seq (.reg (.one ⟨some s10, none, (.bin false .lss (.t s9) (.t s8))⟩
    .done))
  (.seq (.cond (.t s10) .skip (.exit 0))
  (.seq (.block 1 (.seq (.reg (.one ⟨some s11, none, (.iaddr 1 (.t s7) (.t s9))⟩
    (.one ⟨some s12, none, (.load none (.t s11))⟩
    (.one ⟨some s6, none, (.mv (.t s12))⟩
    .done))))
  (.reg (.one ⟨some s13, none, (.mv (.t s0))⟩
    (.one ⟨some s14, none, (.mv (.t s6))⟩
    (.one ⟨some s15, none, (.callq 16 [(.t s13), (.t s14)])⟩
    (.one ⟨some s0, none, (.mv (.t s15))⟩
    .done)))))))
  (.reg (.one ⟨some s16, none, (.bin false .add (.t s9) (.c (.v (.int .i64 1))))⟩
    (.one ⟨some s9, none, (.mv (.t s16))⟩
    .done)))))))))
  (.seq (.reg (.one ⟨some s17, none, (.mv (.t s0))⟩
    (.one ⟨some s4, none, (.mv (.t s17))⟩
    .done)))
  .ret)))⟩
theorem ok11 : compF Try.prog c11 Try.f11 = some ir11 := by kernel_rfl
theorem k_check_More {args : List AVal} {σ : AHeap} {Q : AVal → AHeap → Prop} (hl : Nat.ble args.length 18 = true) (h : argsK (Env.full 9) 0 args fun env => evC Try.prog c11 ir11.body env σ (retQ ir11 Q)) : ACalls Try.prog 11 args σ Q :=
  acalls_of Try.func11 ok11 rfl (Nat.le_of_ble_eq_true hl) h
/- check.Close -/
def c12 : Cfg := ⟨qs, false, 15⟩
def ir12 : IFun := ⟨1, [.tmp s2],
  (.seq (.reg (.one ⟨some s2, none, (.mv (.c (.slice 1 [] .full)))⟩
    .done))
  (.seq (.reg (.one ⟨some s4, none, (.mv (.t s0))⟩
    (.one ⟨some s5, none, (.callq 9 [(.t s4)])⟩
    (.one ⟨some s3, none, (.mv (.t s5))⟩
    .done))))
  (.seq (.reg (.one ⟨some s6, none, (.mv (.t s0))⟩
    (.one ⟨some s7, none, (.callq 15 [(.t s6)])⟩
    (.one ⟨some s8, none, (.mv (.t s3))⟩
    (.one ⟨some s9, none, (.bin false .shr (.t s8) (.c (.v (.int .u64 8))))⟩
    (.one ⟨some s10, none, (.conv .u8 (.t s9))⟩
    (.one ⟨some s11, none, (.mv (.t s3))⟩
    (.one ⟨some s12, none, (.conv .u8 (.t s11))⟩
    (.one ⟨some s13, none, (.row 1 [(.t s10), (.t s12)])⟩
    (.one ⟨some s14, none, (.app 1 1 (.t s7) (.t s13))⟩
    (.one ⟨some s2, none, (.mv (.t s14))⟩
    .done)))))))))))
  .ret)))⟩
theorem ok12 : compF Try.prog c12 Try.f12 = some ir12 := by kernel_rfl
theorem k_check_Close {args : List AVal} {σ : AHeap} {Q : AVal → AHeap → Prop} (hl : Nat.ble args.length 15 = true) (h : argsK (Env.full 9) 0 args fun env => evC Try.prog c12 ir12.body env σ (retQ ir12 Q)) : ACalls Try.prog 12 args σ Q :=
  acalls_of Try.func12 ok12 rfl (Nat.le_of_ble_eq_true hl) h
/- check.Close -/
def c12m : Cfg := ⟨qs, true, 15⟩
def ir12m : IFun := ⟨1, [.tmp s2],
  (.seq (.reg (.one ⟨some s2, none, (.mv (.c (.slice 1 [] .full)))⟩
    .done))
  (.seq (.reg (.one ⟨some s4, none, (.mv (.t s0))⟩
    (.one ⟨some s5, none, (.callq 9 [(.t s4)])⟩
    (.one ⟨some s3, none, (.mv (.t s5))⟩
    .done))))
  (.seq (.reg (.one ⟨some s6, none, (.mv (.t s0))⟩
    (.one ⟨some s7, none, (.callq 15 [(.t s6)])⟩
    (.one ⟨some s8, none, (.mv (.t s3))⟩
    (.one ⟨some s9, none, (.bin false .shr (.t s8) (.c (.v (.int .u64 8))))⟩
    (.one ⟨some s10, none, (.conv .u8 (.t s9))⟩
    (.one ⟨some s11, none, (.mv (.t s3))⟩
    (.one ⟨some s12, none, (.conv .u8 (.t s11))⟩
    (.one ⟨some s13, none, (.row 1 [(.t s10), (.t s12)])⟩
    (.one ⟨some s14, none, (.appm 1 1 (.t s7) (.t s13))⟩
    (.one ⟨some s2, none, (.mv (.t s14))⟩
    .done)))))))))))
  .ret)))⟩
theorem ok12m : compF Try.prog c12m Try.f12 = some ir12m := by kernel_rfl
theorem km_check_Close {args : List AVal} {σ : AHeap} {Q : AVal → AHeap → Prop} (hl : Nat.ble args.length 15 = true) (h : argsK (Env.full 9) 0 args fun env => evC Try.prog c12m ir12m.body env σ (retQ ir12m Q)) : ACalls Try.prog 12 args σ Q :=
  acalls_of Try.func12 ok12m rfl (Nat.le_of_ble_eq_true hl) h
/- check.byteOn -/
def c16 : Cfg := ⟨qs, false, 25⟩
def ir16 : IFun := ⟨2, [.tmp s4],
  (.seq (.reg (.one ⟨some s4, none, (.mv (.c (.v (.int .u16 0))))⟩
    .done))
  (.scope (.seq (.reg (.one ⟨some s7, none, (.mv (.t s0))⟩
    (.one ⟨some s8, none, (.mv (.t s1))⟩
    (.one ⟨some s9, none, (.conv .u16 (.t s8))⟩
    (.one ⟨some s10, none, (.bin false .shl (.t s9) (.c (.v (.int .u64 8))))⟩
    (.one ⟨some s11, none, (.bin false .xor (.t s7) (.t s10))⟩
    (.one ⟨some s0, none, (.mv (.t s11))⟩
    .done)))))))
  (.seq (.reg (.one ⟨some s5, none, (.mv (.c (.v (.int .i64 0))))⟩
    .done))
  (.seq (.label 0)
  (.seq (.seq (.reg (.one ⟨some s12, none, (.mv (.t s5))⟩
    (.one ⟨some s13, none, (.bin false .lss (.t s12) (.c (.v (.int .i64 8))))⟩
    .done)))
  (.cond (.t s13) (.seq (.reg (.one ⟨some s14, none, (.mv (.t s0))⟩
    (.one ⟨some s15, none, (.bin false .and (.t s14) (.c (.v (.int .u16 32768))))⟩
    (.one ⟨some s6, none, (.mv (.t s15))⟩
    .done))))
  (.seq (.reg (.one ⟨some s16, none, (.mv (.t s0))⟩
    (.one ⟨some s17, none, (.bin false .shl (.t s16) (.c (.v (.int .u64 1))))⟩
    (.one ⟨some s0, none, (.mv (.t s17))⟩
    .done))))
  (.seq (.seq (.reg (.one ⟨some s18, none, (.mv (.t s6))⟩
    (.one ⟨some s19, none, (.bin false .neq (.t s18) (.c (.v (.int .u16 0))))⟩
    .done)))
  (.cond (.t s19) (.reg (.one ⟨some s20, none, (.mv (.t s0))⟩
    (.one ⟨some s21, none, (.bin false .xor (.t s20) (.c (.v (.int .u16 4129))))⟩
    (.one ⟨some s0, none, (.mv (.t s21))⟩
    .done)))) .skip))
  (.seq (.reg (.one ⟨some s22, none, (.mv (.t s5))⟩
    (.one ⟨some s23, none, (.bin false .add (.t s22) (.c (.v (.int .i64 1))))⟩
    (.one ⟨some s5, none, (.mv (.t s23))⟩
    .done))))
  (.goto 0))))) .skip))
  (.seq (.reg (.one ⟨some s24, none, (.mv (.t s0))⟩
    (.one ⟨some s4, none, (.mv (.t s24))⟩
    .done)))
  .ret)))))))⟩
theorem ok16 : compF Try.prog c16 Try.f16 = some ir16 := by kernel_rfl
theorem k_check_byteOn {args : List AVal} {σ : AHeap} {Q : AVal → AHeap → Prop} (hl : Nat.ble args.length 25 = true) (h : argsK (Env.full 9) 0 args fun env => evC Try.prog c16 ir16.body env σ (retQ ir16 Q)) : ACalls Try.prog 16 args σ Q :=
  acalls_of Try.func16 ok16 rfl (Nat.le_of_ble_eq_true hl) h
end Go.Proofs.Ytmgjkfepcejgnaa
