/-
  The bodies of one package, compiled to the framework's language (printed by a program of this session).
-/
import Derived.Test.YtndphnojmpeogaaIr0
namespace Go.Proofs.Ytndphnojmpeogaa
set_option linter.unusedVariables false
set_option linter.unusedSimpArgs false
open Go Go.Am
/- bits.Read -/
def c35 : Cfg := ⟨qs, false, 14, []⟩
def ir35 : IFun := ⟨1, [.tmp s2],
  (.seq (.reg (.one ⟨some s2, none, (.mv (.c (.v (.pointer none))))⟩
    .done))
  (.seq (.reg (.one ⟨some s4, none, (.mv (.t s0))⟩
    (.one ⟨some s5, none, (.len false (.t s4))⟩
    (.one ⟨some s6, none, (.mxmn false (.t s5) (.c (.v (.int .i64 8192))))⟩
    (.one ⟨some s3, none, (.mv (.t s6))⟩
    .done)))))
  (.seq (.reg (.one ⟨some s7, none, (.mv (.t s0))⟩
    (.one ⟨some s8, none, (.mv (.t s3))⟩
    (.one ⟨some s9, none, (.mv (.t s3))⟩
    (.one ⟨some s10, none, (.cut 1 (.t s7) none (some (.t s8)) (some (.t s9)))⟩
    (.one ⟨some s11, none, (.callq 37 [(.t s10)])⟩
    (.one ⟨some s12, none, (.build [(.slice 1 [] .full), (.v (.int .i64 0))] [(0, 1, (.t s11))])⟩
    (.one ⟨some s13, none, (.box 2 (.t s12))⟩
    (.one ⟨some s2, none, (.mv (.t s13))⟩
    .done)))))))))
  .ret)))⟩
theorem ok35 : compF Try.prog c35 Try.f35 = some ir35 := by kernel_rfl
theorem k_bits_Read {args : List AVal} {σ : AHeap} {Q : AVal → AHeap → Prop} (hl : Nat.ble args.length 14 = true) (h : argsK (Env.full 9) 0 args fun env => evC Try.prog c35 ir35.body env σ (retQ ir35 Q)) : ACalls Try.prog 35 args σ Q :=
  acalls_of Try.func35 ok35 rfl (Nat.le_of_ble_eq_true hl) h
/- bits.Reader).Get -/
def c36 : Cfg := ⟨qs, false, 66, []⟩
def ir36 : IFun := ⟨2, [.tmp s4, .tmp s5],
  (.seq (.reg (.one ⟨some s4, none, (.mv (.c (.v (.int .u64 0))))⟩
    (.one ⟨some s5, none, (.mv (.c (.v (.int .i64 0))))⟩
    .done)))
  (.scope (.seq (.block 0 (.seq (.reg (.one ⟨some s9, none, (.mv (.t s0))⟩
    (.one ⟨some s10, none, (.eqNil 1 false (.t s9))⟩
    (.one ⟨some s8, none, (.mv (.t s10))⟩
    .done))))
  (.cond (.t s8) (.seq (.reg (.one ⟨some s4, none, (.mv (.c (.v (.int .u64 0))))⟩
    (.one ⟨some s5, none, (.mv (.c (.v (.int .i64 6))))⟩
    .done)))
  .ret) (.seq (.reg (.one ⟨some s12, none, (.mv (.t s1))⟩
    (.one ⟨some s13, none, (.bin false .lss (.t s12) (.c (.v (.int .i64 0))))⟩
    (.one ⟨some s14, none, (.mv (.t s13))⟩
    (.one ⟨some s15, some (s14, false), (.mv (.t s1))⟩
    (.one ⟨some s16, some (s14, false), (.bin false .gtr (.t s15) (.c (.v (.int .i64 64))))⟩
    (.one ⟨some s17, none, (.pick (.t s14) (.c (.v (.bool true))) (.t s16))⟩
    (.one ⟨some s11, none, (.mv (.t s17))⟩
    .done))))))))
  (.cond (.t s11) (.seq (.reg (.one ⟨some s4, none, (.mv (.c (.v (.int .u64 0))))⟩
    (.one ⟨some s5, none, (.mv (.c (.v (.int .i64 1))))⟩
    .done)))
  .ret) (.seq (.reg (.one ⟨some s19, none, (.mv (.t s1))⟩
    (.one ⟨some s20, none, (.mv (.t s0))⟩
    (.one ⟨some s21, none, (.callq 69 [(.t s20)])⟩
    (.one ⟨some s22, none, (.bin false .gtr (.t s19) (.t s21))⟩
    (.one ⟨some s18, none, (.mv (.t s22))⟩
    .done))))))
  (.cond (.t s18) (.seq (.reg (.one ⟨some s4, none, (.mv (.c (.v (.int .u64 0))))⟩
    (.one ⟨some s5, none, (.mv (.c (.v (.int .i64 8))))⟩
    .done)))
  .ret) .skip)))))))
  (.seq (.reg (.one ⟨some s6, none, (.mv (.c (.v (.int .u64 0))))⟩
    .done))
  (.seq (.reg (.one ⟨some s23, none, (.mv (.t s0))⟩
    (.one ⟨some s24, none, (.nilchk (.t s23))⟩
    (.one ⟨some s25, none, (.faddr 1 (.t s24))⟩
    (.one ⟨some s26, none, (.load none (.t s25))⟩
    (.one ⟨some s27, none, (.mv (.t s1))⟩
    (.one ⟨some s28, none, (.bin false .add (.t s26) (.t s27))⟩
    (.one ⟨some s7, none, (.mv (.t s28))⟩
    .done))))))))
  (.seq (.label 0)
  (.seq (.seq (.reg (.one ⟨some s29, none, (.mv (.t s0))⟩
    (.one ⟨some s30, none, (.nilchk (.t s29))⟩
    (.one ⟨some s31, none, (.faddr 1 (.t s30))⟩
    (.one ⟨some s32, none, (.load none (.t s31))⟩
    (.one ⟨some s33, none, (.mv (.t s7))⟩
    (.one ⟨some s34, none, (.bin false .lss (.t s32) (.t s33))⟩
    .done)))))))
  (.cond (.t s34) (.seq (.reg (.one ⟨some s35, none, (.mv (.t s6))⟩
    (.one ⟨some s36, none, (.bin false .shl (.t s35) (.c (.v (.int .u64 1))))⟩
    (.one ⟨some s37, none, (.mv (.t s0))⟩
    (.one ⟨some s38, none, (.nilchk (.t s37))⟩
    (.one ⟨some s39, none, (.faddr 0 (.t s38))⟩
    (.one ⟨some s40, none, (.load none (.t s39))⟩
    (.one ⟨some s41, none, (.mv (.t s0))⟩
    (.one ⟨some s42, none, (.nilchk (.t s41))⟩
    (.one ⟨some s43, none, (.faddr 1 (.t s42))⟩
    (.one ⟨some s44, none, (.load none (.t s43))⟩
    (.one ⟨some s45, none, (.bin false .quo (.t s44) (.c (.v (.int .i64 8))))⟩
    (.one ⟨some s46, none, (.iaddr 1 (.t s40) (.t s45))⟩
    (.one ⟨some s47, none, (.load none (.t s46))⟩
    (.one ⟨some s48, none, (.mv (.t s0))⟩
    (.one ⟨some s49, none, (.nilchk (.t s48))⟩
    (.one ⟨some s50, none, (.faddr 1 (.t s49))⟩
    (.one ⟨some s51, none, (.load none (.t s50))⟩
    (.one ⟨some s52, none, (.bin false .rem (.t s51) (.c (.v (.int .i64 8))))⟩
    (.one ⟨some s53, none, (.bin false .sub (.c (.v (.int .i64 7))) (.t s52))⟩
    (.one ⟨some s54, none, (.bin false .shr (.t s47) (.t s53))⟩
    (.one ⟨some s55, none, (.bin false .and (.t s54) (.c (.v (.int .u8 1))))⟩
    (.one ⟨some s56, none, (.conv .u64 (.t s55))⟩
    (.one ⟨some s57, none, (.bin false .or (.t s36) (.t s56))⟩
    (.one ⟨some s6, none, (.mv (.t s57))⟩
    .done)))))))))))))))))))))))))
  (.seq (.reg (.one ⟨some s58, none, (.mv (.t s0))⟩
    (.one ⟨some s59, none, (.nilchk (.t s58))⟩
    (.one ⟨some s60, none, (.faddr 1 (.t s59))⟩
    (.one ⟨some s61, none, (.load none (.t s60))⟩
    (.one ⟨some s62, none, (.bin false .add (.t s61) (.c (.v (.int .i64 1))))⟩
    (.one ⟨some s63, none, (.nilchk (.t s58))⟩
    (.one ⟨some s64, none, (.faddr 1 (.t s63))⟩
    (.one ⟨none, none, (.store 1 (.t s64) (.t s62))⟩
    .done)))))))))
  (.goto 0))) .skip))
  (.seq (.reg (.one ⟨some s65, none, (.mv (.t s6))⟩
    (.one ⟨some s4, none, (.mv (.t s65))⟩
    (.one ⟨some s5, none, (.mv (.c (.v (.int .i64 0))))⟩
    .done))))
  .ret))))))))⟩
theorem ok36 : compF Try.prog c36 Try.f36 = some ir36 := by kernel_rfl
theorem k_bits_Reader_Get {args : List AVal} {σ : AHeap} {Q : AVal → AHeap → Prop} (hl : Nat.ble args.length 66 = true) (h : argsK (Env.full 9) 0 args fun env => evC Try.prog c36 ir36.body env σ (retQ ir36 Q)) : ACalls Try.prog 36 args σ Q :=
  acalls_of Try.func36 ok36 rfl (Nat.le_of_ble_eq_true hl) h
/- bits.New -/
def c40 : Cfg := ⟨qs, false, 3, []⟩
def ir40 : IFun := ⟨0, [.tmp s0],
  (.seq (.reg (.one ⟨some s0, none, (.mv (.c (.v (.pointer none))))⟩
    .done))
  (.seq (.reg (.one ⟨some s1, none, (.build [(.slice 1 [] .full), (.v (.int .i64 0))] [])⟩
    (.one ⟨some s2, none, (.box 2 (.t s1))⟩
    (.one ⟨some s0, none, (.mv (.t s2))⟩
    .done))))
  .ret))⟩
theorem ok40 : compF Try.prog c40 Try.f40 = some ir40 := by kernel_rfl
theorem k_bits_New {args : List AVal} {σ : AHeap} {Q : AVal → AHeap → Prop} (hl : Nat.ble args.length 3 = true) (h : argsK (Env.full 9) 0 args fun env => evC Try.prog c40 ir40.body env σ (retQ ir40 Q)) : ACalls Try.prog 40 args σ Q :=
  acalls_of Try.func40 ok40 rfl (Nat.le_of_ble_eq_true hl) h
/- bits.Writer).Put -/
def c41 : Cfg := ⟨qs, false, 48, []⟩
def ir41 : IFun := ⟨3, [.tmp s6],
  (.seq (.reg (.one ⟨some s6, none, (.mv (.c (.v (.int .i64 0))))⟩
    .done))
  (.scope (.seq (.block 0 (.seq (.reg (.one ⟨some s9, none, (.mv (.t s0))⟩
    (.one ⟨some s10, none, (.eqNil 1 false (.t s9))⟩
    (.one ⟨some s8, none, (.mv (.t s10))⟩
    .done))))
  (.cond (.t s8) (.seq (.reg (.one ⟨some s6, none, (.mv (.c (.v (.int .i64 6))))⟩
    .done))
  .ret) (.seq (.reg (.one ⟨some s12, none, (.mv (.t s2))⟩
    (.one ⟨some s13, none, (.bin false .lss (.t s12) (.c (.v (.int .i64 0))))⟩
    (.one ⟨some s14, none, (.mv (.t s13))⟩
    (.one ⟨some s15, some (s14, false), (.mv (.t s2))⟩
    (.one ⟨some s16, some (s14, false), (.bin false .gtr (.t s15) (.c (.v (.int .i64 64))))⟩
    (.one ⟨some s17, none, (.pick (.t s14) (.c (.v (.bool true))) (.t s16))⟩
    (.one ⟨some s18, none, (.mv (.t s17))⟩
    (.one ⟨some s19, some (s18, false), (.mv (.t s2))⟩
    (.one ⟨some s20, some (s18, false), (.bin false .lss (.t s19) (.c (.v (.int .i64 64))))⟩
    (.one ⟨some s21, some (s18, false), (.mv (.t s20))⟩
    (.one ⟨some s22, some (s21, true), (.mv (.t s1))⟩
    (.one ⟨some s23, some (s21, true), (.mv (.t s2))⟩
    (.one ⟨some s24, some (s21, true), (.bin false .shr (.t s22) (.t s23))⟩
    (.one ⟨some s25, some (s21, true), (.bin false .neq (.t s24) (.c (.v (.int .u64 0))))⟩
    (.one ⟨some s26, some (s18, false), (.pick (.t s21) (.t s25) (.c (.v (.bool false))))⟩
    (.one ⟨some s27, none, (.pick (.t s18) (.c (.v (.bool true))) (.t s26))⟩
    (.one ⟨some s11, none, (.mv (.t s27))⟩
    .done))))))))))))))))))
  (.cond (.t s11) (.seq (.reg (.one ⟨some s6, none, (.mv (.c (.v (.int .i64 1))))⟩
    .done))
  .ret) (.seq (.reg (.one ⟨some s29, none, (.mv (.t s2))⟩
    (.one ⟨some s30, none, (.mv (.t s0))⟩
    (.one ⟨some s31, none, (.nilchk (.t s30))⟩
    (.one ⟨some s32, none, (.faddr 1 (.t s31))⟩
    (.one ⟨some s33, none, (.load none (.t s32))⟩
    (.one ⟨some s34, none, (.bin false .sub (.c (.v (.int .i64 65536))) (.t s33))⟩
    (.one ⟨some s35, none, (.bin false .gtr (.t s29) (.t s34))⟩
    (.one ⟨some s28, none, (.mv (.t s35))⟩
    .done)))))))))
  (.cond (.t s28) (.seq (.reg (.one ⟨some s6, none, (.mv (.c (.v (.int .i64 5))))⟩
    .done))
  .ret) .skip)))))))
  (.seq (.reg (.one ⟨some s36, none, (.mv (.t s2))⟩
    (.one ⟨some s7, none, (.mv (.t s36))⟩
    .done)))
  (.seq (.label 0)
  (.seq (.seq (.reg (.one ⟨some s37, none, (.mv (.t s7))⟩
    (.one ⟨some s38, none, (.bin false .gtr (.t s37) (.c (.v (.int .i64 0))))⟩
    .done)))
  (.cond (.t s38) (.seq (.reg (.one ⟨some s39, none, (.mv (.t s7))⟩
    (.one ⟨some s40, none, (.bin false .sub (.t s39) (.c (.v (.int .i64 1))))⟩
    (.one ⟨some s7, none, (.mv (.t s40))⟩
    .done))))
  (.seq (.reg (.one ⟨some s41, none, (.mv (.t s0))⟩
    (.one ⟨some s42, none, (.mv (.t s1))⟩
    (.one ⟨some s43, none, (.mv (.t s7))⟩
    (.one ⟨some s44, none, (.bin false .shr (.t s42) (.t s43))⟩
    (.one ⟨some s45, none, (.bin false .and (.t s44) (.c (.v (.int .u64 1))))⟩
    (.one ⟨some s46, none, (.conv .u8 (.t s45))⟩
    (.one ⟨some s47, none, (.call 72 [(.t s41), (.t s46)])⟩
    .done))))))))
  (.goto 0))) .skip))
  (.seq (.reg (.one ⟨some s6, none, (.mv (.c (.v (.int .i64 0))))⟩
    .done))
  .ret)))))))⟩
theorem ok41 : compF Try.prog c41 Try.f41 = some ir41 := by kernel_rfl
theorem k_bits_Writer_Put {args : List AVal} {σ : AHeap} {Q : AVal → AHeap → Prop} (hl : Nat.ble args.length 48 = true) (h : argsK (Env.full 9) 0 args fun env => evC Try.prog c41 ir41.body env σ (retQ ir41 Q)) : ACalls Try.prog 41 args σ Q :=
  acalls_of Try.func41 ok41 rfl (Nat.le_of_ble_eq_true hl) h
/- bits.Writer).Bytes -/
def c42 : Cfg := ⟨qs, false, 10, []⟩
def ir42 : IFun := ⟨1, [.tmp s2],
  (.seq (.reg (.one ⟨some s2, none, (.mv (.c (.slice 1 [] .full)))⟩
    .done))
  (.seq (.seq (.reg (.one ⟨some s3, none, (.mv (.t s0))⟩
    (.one ⟨some s4, none, (.eqNil 1 false (.t s3))⟩
    .done)))
  (.cond (.t s4) (.seq (.reg (.one ⟨some s2, none, (.mv (.c (.slice 1 [] .full)))⟩
    .done))
  .ret) .skip))
  (.seq (.reg (.one ⟨some s5, none, (.mv (.t s0))⟩
    (.one ⟨some s6, none, (.nilchk (.t s5))⟩
    (.one ⟨some s7, none, (.faddr 0 (.t s6))⟩
    (.one ⟨some s8, none, (.load none (.t s7))⟩
    (.one ⟨some s9, none, (.callq 37 [(.t s8)])⟩
    (.one ⟨some s2, none, (.mv (.t s9))⟩
    .done)))))))
  .ret)))⟩
theorem ok42 : compF Try.prog c42 Try.f42 = some ir42 := by kernel_rfl
theorem k_bits_Writer_Bytes {args : List AVal} {σ : AHeap} {Q : AVal → AHeap → Prop} (hl : Nat.ble args.length 10 = true) (h : argsK (Env.full 9) 0 args fun env => evC Try.prog c42 ir42.body env σ (retQ ir42 Q)) : ACalls Try.prog 42 args σ Q :=
  acalls_of Try.func42 ok42 rfl (Nat.le_of_ble_eq_true hl) h
/- bits.Reader).Rest -/
def c48 : Cfg := ⟨qs, false, 53, []⟩
def ir48 : IFun := ⟨1, [.tmp s2, .tmp s3],
  (.seq (.reg (.one ⟨some s2, none, (.mv (.c (.slice 1 [] .full)))⟩
    (.one ⟨some s3, none, (.mv (.c (.v (.int .i64 0))))⟩
    .done)))
  (.seq (.seq (.reg (.one ⟨some s8, none, (.mv (.t s0))⟩
    (.one ⟨some s9, none, (.eqNil 1 false (.t s8))⟩
    .done)))
  (.cond (.t s9) (.seq (.reg (.one ⟨some s2, none, (.mv (.c (.slice 1 [] .full)))⟩
    (.one ⟨some s3, none, (.mv (.c (.v (.int .i64 6))))⟩
    .done)))
  .ret) .skip))
  (.seq (.reg (.one ⟨some s10, none, (.mv (.t s0))⟩
    (.one ⟨some s11, none, (.nilchk (.t s10))⟩
    (.one ⟨some s12, none, (.faddr 1 (.t s11))⟩
    (.one ⟨some s13, none, (.load none (.t s12))⟩
    (.one ⟨some s4, none, (.mv (.t s13))⟩
    .done))))))
  (.seq (.reg (.one ⟨some s15, none, (.mv (.t s0))⟩
    (.one ⟨some s16, none, (.mv (.t s0))⟩
    (.one ⟨some s17, none, (.nilchk (.t s16))⟩
    (.one ⟨some s18, none, (.faddr 1 (.t s17))⟩
    (.one ⟨some s19, none, (.load none (.t s18))⟩
    (.one ⟨some s20, none, (.bin false .rem (.t s19) (.c (.v (.int .i64 8))))⟩
    (.one ⟨some s21, none, (.bin false .sub (.c (.v (.int .i64 8))) (.t s20))⟩
    (.one ⟨some s22, none, (.bin false .rem (.t s21) (.c (.v (.int .i64 8))))⟩
    (.one ⟨some s23, none, (.call 36 [(.t s15), (.t s22)])⟩
    (.one ⟨some s14, none, (.mv (.t s23))⟩
    (.one ⟨some s24, none, (.ext (.t s14) 0)⟩
    (.one ⟨some s25, none, (.ext (.t s14) 1)⟩
    (.one ⟨some s5, none, (.mv (.t s24))⟩
    (.one ⟨some s6, none, (.mv (.t s25))⟩
    .done)))))))))))))))
  (.seq (.seq (.reg (.one ⟨some s26, none, (.mv (.t s5))⟩
    (.one ⟨some s27, none, (.bin false .neq (.t s26) (.c (.v (.int .u64 0))))⟩
    .done)))
  (.cond (.t s27) (.seq (.reg (.one ⟨some s28, none, (.mv (.t s0))⟩
    (.one ⟨some s29, none, (.mv (.t s4))⟩
    (.one ⟨some s30, none, (.nilchk (.t s28))⟩
    (.one ⟨some s31, none, (.faddr 1 (.t s30))⟩
    (.one ⟨none, none, (.store 1 (.t s31) (.t s29))⟩
    .done))))))
  (.seq (.reg (.one ⟨some s2, none, (.mv (.c (.slice 1 [] .full)))⟩
    (.one ⟨some s3, none, (.mv (.c (.v (.int .i64 3))))⟩
    .done)))
  .ret)) .skip))
  (.seq (.reg (.one ⟨some s32, none, (.mv (.t s0))⟩
    (.one ⟨some s33, none, (.nilchk (.t s32))⟩
    (.one ⟨some s34, none, (.faddr 0 (.t s33))⟩
    (.one ⟨some s35, none, (.load none (.t s34))⟩
    (.one ⟨some s36, none, (.mv (.t s0))⟩
    (.one ⟨some s37, none, (.nilchk (.t s36))⟩
    (.one ⟨some s38, none, (.faddr 1 (.t s37))⟩
    (.one ⟨some s39, none, (.load none (.t s38))⟩
    (.one ⟨some s40, none, (.bin false .quo (.t s39) (.c (.v (.int .i64 8))))⟩
    (.one ⟨some s41, none, (.cut 1 (.t s35) (some (.t s40)) none none)⟩
    (.one ⟨some s42, none, (.callq 37 [(.t s41)])⟩
    (.one ⟨some s7, none, (.mv (.t s42))⟩
    .done)))))))))))))
  (.seq (.reg (.one ⟨some s43, none, (.mv (.t s0))⟩
    (.one ⟨some s44, none, (.mv (.t s0))⟩
    (.one ⟨some s45, none, (.nilchk (.t s44))⟩
    (.one ⟨some s46, none, (.faddr 0 (.t s45))⟩
    (.one ⟨some s47, none, (.load none (.t s46))⟩
    (.one ⟨some s48, none, (.len false (.t s47))⟩
    (.one ⟨some s49, none, (.bin false .mul (.t s48) (.c (.v (.int .i64 8))))⟩
    (.one ⟨some s50, none, (.nilchk (.t s43))⟩
    (.one ⟨some s51, none, (.faddr 1 (.t s50))⟩
    (.one ⟨none, none, (.store 1 (.t s51) (.t s49))⟩
    .done)))))))))))
  (.seq (.reg (.one ⟨some s52, none, (.mv (.t s7))⟩
    (.one ⟨some s2, none, (.mv (.t s52))⟩
    (.one ⟨some s3, none, (.mv (.c (.v (.int .i64 0))))⟩
    .done))))
  .ret))))))))⟩
theorem ok48 : compF Try.prog c48 Try.f48 = some ir48 := by kernel_rfl
theorem k_bits_Reader_Rest {args : List AVal} {σ : AHeap} {Q : AVal → AHeap → Prop} (hl : Nat.ble args.length 53 = true) (h : argsK (Env.full 9) 0 args fun env => evC Try.prog c48 ir48.body env σ (retQ ir48 Q)) : ACalls Try.prog 48 args σ Q :=
  acalls_of Try.func48 ok48 rfl (Nat.le_of_ble_eq_true hl) h
/- bits.Reader).Left -/
def c69 : Cfg := ⟨qs, false, 16, []⟩
def ir69 : IFun := ⟨1, [.tmp s2],
  (.seq (.reg (.one ⟨some s2, none, (.mv (.c (.v (.int .i64 0))))⟩
    .done))
  (.seq (.seq (.reg (.one ⟨some s3, none, (.mv (.t s0))⟩
    (.one ⟨some s4, none, (.eqNil 1 false (.t s3))⟩
    .done)))
  (.cond (.t s4) (.seq (.reg (.one ⟨some s2, none, (.mv (.c (.v (.int .i64 0))))⟩
    .done))
  .ret) .skip))
  (.seq (.reg (.one ⟨some s5, none, (.mv (.t s0))⟩
    (.one ⟨some s6, none, (.nilchk (.t s5))⟩
    (.one ⟨some s7, none, (.faddr 0 (.t s6))⟩
    (.one ⟨some s8, none, (.load none (.t s7))⟩
    (.one ⟨some s9, none, (.len false (.t s8))⟩
    (.one ⟨some s10, none, (.bin false .mul (.t s9) (.c (.v (.int .i64 8))))⟩
    (.one ⟨some s11, none, (.mv (.t s0))⟩
    (.one ⟨some s12, none, (.nilchk (.t s11))⟩
    (.one ⟨some s13, none, (.faddr 1 (.t s12))⟩
    (.one ⟨some s14, none, (.load none (.t s13))⟩
    (.one ⟨some s15, none, (.bin false .sub (.t s10) (.t s14))⟩
    (.one ⟨some s2, none, (.mv (.t s15))⟩
    .done)))))))))))))
  .ret)))⟩
theorem ok69 : compF Try.prog c69 Try.f69 = some ir69 := by kernel_rfl
theorem k_bits_Reader_Left {args : List AVal} {σ : AHeap} {Q : AVal → AHeap → Prop} (hl : Nat.ble args.length 16 = true) (h : argsK (Env.full 9) 0 args fun env => evC Try.prog c69 ir69.body env σ (retQ ir69 Q)) : ACalls Try.prog 69 args σ Q :=
  acalls_of Try.func69 ok69 rfl (Nat.le_of_ble_eq_true hl) h
/- bits.Writer).one -/
def c72 : Cfg := ⟨qs, false, 47, []⟩
def ir72 : IFun := ⟨2, [],
  (.seq (.seq (.reg (.one ⟨some s4, none, (.mv (.t s0))⟩
    (.one ⟨some s5, none, (.nilchk (.t s4))⟩
    (.one ⟨some s6, none, (.faddr 1 (.t s5))⟩
    (.one ⟨some s7, none, (.load none (.t s6))⟩
    (.one ⟨some s8, none, (.bin false .rem (.t s7) (.c (.v (.int .i64 8))))⟩
    (.one ⟨some s9, none, (.bin false .eql (.t s8) (.c (.v (.int .i64 0))))⟩
    .done)))))))
  (.cond (.t s9) (.reg (.one ⟨some s10, none, (.mv (.t s0))⟩
    (.one ⟨some s11, none, (.mv (.t s0))⟩
    (.one ⟨some s12, none, (.nilchk (.t s11))⟩
    (.one ⟨some s13, none, (.faddr 0 (.t s12))⟩
    (.one ⟨some s14, none, (.load none (.t s13))⟩
    (.one ⟨some s15, none, (.row 1 [(.c (.v (.int .u8 0)))])⟩
    (.one ⟨some s16, none, (.app 1 1 (.t s14) (.t s15))⟩
    (.one ⟨some s17, none, (.nilchk (.t s10))⟩
    (.one ⟨some s18, none, (.faddr 0 (.t s17))⟩
    (.one ⟨none, none, (.store 1 (.t s18) (.t s16))⟩
    .done))))))))))) .skip))
  (.seq (.reg (.one ⟨some s19, none, (.mv (.t s0))⟩
    (.one ⟨some s20, none, (.nilchk (.t s19))⟩
    (.one ⟨some s21, none, (.faddr 0 (.t s20))⟩
    (.one ⟨some s22, none, (.load none (.t s21))⟩
    (.one ⟨some s23, none, (.mv (.t s0))⟩
    (.one ⟨some s24, none, (.nilchk (.t s23))⟩
    (.one ⟨some s25, none, (.faddr 1 (.t s24))⟩
    (.one ⟨some s26, none, (.load none (.t s25))⟩
    (.one ⟨some s27, none, (.bin false .quo (.t s26) (.c (.v (.int .i64 8))))⟩
    (.one ⟨some s28, none, (.iaddr 1 (.t s22) (.t s27))⟩
    (.one ⟨some s29, none, (.load none (.t s28))⟩
    (.one ⟨some s30, none, (.mv (.t s1))⟩
    (.one ⟨some s31, none, (.mv (.t s0))⟩
    (.one ⟨some s32, none, (.nilchk (.t s31))⟩
    (.one ⟨some s33, none, (.faddr 1 (.t s32))⟩
    (.one ⟨some s34, none, (.load none (.t s33))⟩
    (.one ⟨some s35, none, (.bin false .rem (.t s34) (.c (.v (.int .i64 8))))⟩
    (.one ⟨some s36, none, (.bin false .sub (.c (.v (.int .i64 7))) (.t s35))⟩
    (.one ⟨some s37, none, (.bin false .shl (.t s30) (.t s36))⟩
    (.one ⟨some s38, none, (.bin false .or (.t s29) (.t s37))⟩
    (.one ⟨some s39, none, (.iaddr 1 (.t s22) (.t s27))⟩
    (.one ⟨none, none, (.store 1 (.t s39) (.t s38))⟩
    .done)))))))))))))))))))))))
  (.reg (.one ⟨some s40, none, (.mv (.t s0))⟩
    (.one ⟨some s41, none, (.nilchk (.t s40))⟩
    (.one ⟨some s42, none, (.faddr 1 (.t s41))⟩
    (.one ⟨some s43, none, (.load none (.t s42))⟩
    (.one ⟨some s44, none, (.bin false .add (.t s43) (.c (.v (.int .i64 1))))⟩
    (.one ⟨some s45, none, (.nilchk (.t s40))⟩
    (.one ⟨some s46, none, (.faddr 1 (.t s45))⟩
    (.one ⟨none, none, (.store 1 (.t s46) (.t s44))⟩
    .done)))))))))))⟩
theorem ok72 : compF Try.prog c72 Try.f72 = some ir72 := by kernel_rfl
theorem k_bits_Writer_one {args : List AVal} {σ : AHeap} {Q : AVal → AHeap → Prop} (hl : Nat.ble args.length 47 = true) (h : argsK (Env.full 9) 0 args fun env => evC Try.prog c72 ir72.body env σ (retQ ir72 Q)) : ACalls Try.prog 72 args σ Q :=
  acalls_of Try.func72 ok72 rfl (Nat.le_of_ble_eq_true hl) h
/- bits.Writer).one -/
def c72m : Cfg := ⟨qs, true, 47, []⟩
def ir72m : IFun := ⟨2, [],
  (.seq (.seq (.reg (.one ⟨some s4, none, (.mv (.t s0))⟩
    (.one ⟨some s5, none, (.nilchk (.t s4))⟩
    (.one ⟨some s6, none, (.faddr 1 (.t s5))⟩
    (.one ⟨some s7, none, (.load none (.t s6))⟩
    (.one ⟨some s8, none, (.bin false .rem (.t s7) (.c (.v (.int .i64 8))))⟩
    (.one ⟨some s9, none, (.bin false .eql (.t s8) (.c (.v (.int .i64 0))))⟩
    .done)))))))
  (.cond (.t s9) (.reg (.one ⟨some s10, none, (.mv (.t s0))⟩
    (.one ⟨some s11, none, (.mv (.t s0))⟩
    (.one ⟨some s12, none, (.nilchk (.t s11))⟩
    (.one ⟨some s13, none, (.faddr 0 (.t s12))⟩
    (.one ⟨some s14, none, (.load none (.t s13))⟩
    (.one ⟨some s15, none, (.row 1 [(.c (.v (.int .u8 0)))])⟩
    (.one ⟨some s16, none, (.appm 1 1 (.t s14) (.t s15))⟩
    (.one ⟨some s17, none, (.nilchk (.t s10))⟩
    (.one ⟨some s18, none, (.faddr 0 (.t s17))⟩
    (.one ⟨none, none, (.store 1 (.t s18) (.t s16))⟩
    .done))))))))))) .skip))
  (.seq (.reg (.one ⟨some s19, none, (.mv (.t s0))⟩
    (.one ⟨some s20, none, (.nilchk (.t s19))⟩
    (.one ⟨some s21, none, (.faddr 0 (.t s20))⟩
    (.one ⟨some s22, none, (.load none (.t s21))⟩
    (.one ⟨some s23, none, (.mv (.t s0))⟩
    (.one ⟨some s24, none, (.nilchk (.t s23))⟩
    (.one ⟨some s25, none, (.faddr 1 (.t s24))⟩
    (.one ⟨some s26, none, (.load none (.t s25))⟩
    (.one ⟨some s27, none, (.bin false .quo (.t s26) (.c (.v (.int .i64 8))))⟩
    (.one ⟨some s28, none, (.iaddr 1 (.t s22) (.t s27))⟩
    (.one ⟨some s29, none, (.load none (.t s28))⟩
    (.one ⟨some s30, none, (.mv (.t s1))⟩
    (.one ⟨some s31, none, (.mv (.t s0))⟩
    (.one ⟨some s32, none, (.nilchk (.t s31))⟩
    (.one ⟨some s33, none, (.faddr 1 (.t s32))⟩
    (.one ⟨some s34, none, (.load none (.t s33))⟩
    (.one ⟨some s35, none, (.bin false .rem (.t s34) (.c (.v (.int .i64 8))))⟩
    (.one ⟨some s36, none, (.bin false .sub (.c (.v (.int .i64 7))) (.t s35))⟩
    (.one ⟨some s37, none, (.bin false .shl (.t s30) (.t s36))⟩
    (.one ⟨some s38, none, (.bin false .or (.t s29) (.t s37))⟩
    (.one ⟨some s39, none, (.iaddr 1 (.t s22) (.t s27))⟩
    (.one ⟨none, none, (.store 1 (.t s39) (.t s38))⟩
    .done)))))))))))))))))))))))
  (.reg (.one ⟨some s40, none, (.mv (.t s0))⟩
    (.one ⟨some s41, none, (.nilchk (.t s40))⟩
    (.one ⟨some s42, none, (.faddr 1 (.t s41))⟩
    (.one ⟨some s43, none, (.load none (.t s42))⟩
    (.one ⟨some s44, none, (.bin false .add (.t s43) (.c (.v (.int .i64 1))))⟩
    (.one ⟨some s45, none, (.nilchk (.t s40))⟩
    (.one ⟨some s46, none, (.faddr 1 (.t s45))⟩
    (.one ⟨none, none, (.store 1 (.t s46) (.t s44))⟩
    .done)))))))))))⟩
theorem ok72m : compF Try.prog c72m Try.f72 = some ir72m := by kernel_rfl
theorem km_bits_Writer_one {args : List AVal} {σ : AHeap} {Q : AVal → AHeap → Prop} (hl : Nat.ble args.length 47 = true) (h : argsK (Env.full 9) 0 args fun env => evC Try.prog c72m ir72m.body env σ (retQ ir72m Q)) : ACalls Try.prog 72 args σ Q :=
  acalls_of Try.func72 ok72m rfl (Nat.le_of_ble_eq_true hl) h
end Go.Proofs.Ytndphnojmpeogaa

