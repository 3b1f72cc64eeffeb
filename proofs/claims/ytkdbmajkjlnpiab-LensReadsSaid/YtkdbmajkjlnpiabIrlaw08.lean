/-
  The bodies of one package, compiled to the framework's language (printed by a program of this session).
-/
import Derived.Test.YtkdbmajkjlnpiabIr0
namespace Go.Proofs.Ytkdbmajkjlnpiab
set_option linter.unusedVariables false
set_option linter.unusedSimpArgs false
open Go Go.Am
/- bowlinelaw08.LensWrites -/
def c13 : Cfg := ⟨qs, false, 62, []⟩
def ir13 : IFun := ⟨3, [.tmp s6],
  (.seq (.reg (.one ⟨some s6, none, (.mv (.c (.v (.bool false))))⟩
    .done))
  (.seq (.seq (.reg (.one ⟨some s11, none, (.mv (.t s0))⟩
    (.one ⟨some s12, none, (.len false (.t s11))⟩
    (.one ⟨some s13, none, (.bin false .gtr (.t s12) (.c (.v (.int .i64 60))))⟩
    .done))))
  (.cond (.t s13) (.seq (.reg (.one ⟨some s14, none, (.callq 62 [])⟩
    (.one ⟨some s6, none, (.mv (.t s14))⟩
    .done)))
  .ret) .skip))
  (.seq (.reg (.one ⟨some s16, none, (.mv (.t s0))⟩
    (.one ⟨some s17, none, (.mv (.t s1))⟩
    (.one ⟨some s18, none, (.callq 63 [(.t s16), (.t s17)])⟩
    (.one ⟨some s15, none, (.mv (.t s18))⟩
    (.one ⟨some s19, none, (.ext (.t s15) 0)⟩
    (.one ⟨some s20, none, (.ext (.t s15) 1)⟩
    (.one ⟨some s7, none, (.mv (.t s19))⟩
    (.one ⟨some s8, none, (.mv (.t s20))⟩
    .done)))))))))
  (.seq (.reg (.one ⟨some s22, none, (.mv (.t s0))⟩
    (.one ⟨some s23, none, (.mv (.t s1))⟩
    (.one ⟨some s24, none, (.callq 64 [(.t s22), (.t s23)])⟩
    (.one ⟨some s21, none, (.mv (.t s24))⟩
    (.one ⟨some s25, none, (.ext (.t s21) 0)⟩
    (.one ⟨some s26, none, (.ext (.t s21) 1)⟩
    (.one ⟨some s9, none, (.mv (.t s25))⟩
    (.one ⟨some s10, none, (.mv (.t s26))⟩
    .done)))))))))
  (.seq (.reg (.one ⟨some s27, none, (.callq 62 [])⟩
    (.one ⟨some s28, none, (.mv (.t s27))⟩
    (.one ⟨some s29, some (s28, true), (.mv (.t s7))⟩
    (.one ⟨some s30, some (s28, true), (.b2s (.t s29))⟩
    (.one ⟨some s31, some (s28, true), (.mv (.t s9))⟩
    (.one ⟨some s32, some (s28, true), (.b2s (.t s31))⟩
    (.one ⟨some s33, some (s28, true), (.bin false .eql (.t s30) (.t s32))⟩
    (.one ⟨some s34, none, (.pick (.t s28) (.t s33) (.c (.v (.bool false))))⟩
    (.one ⟨some s35, none, (.mv (.t s34))⟩
    (.one ⟨some s36, some (s35, true), (.mv (.t s8))⟩
    (.one ⟨some s37, some (s35, true), (.mv (.t s10))⟩
    (.one ⟨some s38, some (s35, true), (.bin false .eql (.t s36) (.t s37))⟩
    (.one ⟨some s39, none, (.pick (.t s35) (.t s38) (.c (.v (.bool false))))⟩
    (.one ⟨some s40, none, (.mv (.t s39))⟩
    (.one ⟨some s41, some (s40, true), (.mv (.t s2))⟩
    (.one ⟨some s42, some (s40, true), (.mv (.t s1))⟩
    (.one ⟨some s43, some (s40, true), (.callq 65 [(.t s41), (.t s42)])⟩
    (.one ⟨some s44, some (s40, true), (.mv (.t s2))⟩
    (.one ⟨some s45, some (s40, true), (.mv (.t s1))⟩
    (.one ⟨some s46, some (s40, true), (.callq 66 [(.t s44), (.t s45)])⟩
    (.one ⟨some s47, some (s40, true), (.bin false .eql (.t s43) (.t s46))⟩
    (.one ⟨some s48, none, (.pick (.t s40) (.t s47) (.c (.v (.bool false))))⟩
    (.one ⟨some s49, none, (.mv (.t s48))⟩
    (.one ⟨some s50, some (s49, true), (.mv (.t s8))⟩
    (.one ⟨some s51, some (s49, true), (.bin false .neq (.t s50) (.c (.v (.int .i64 0))))⟩
    (.one ⟨some s52, some (s49, true), (.mv (.t s51))⟩
    (.one ⟨some s53, some (s52, false), (.mv (.t s0))⟩
    (.one ⟨some s54, some (s52, false), (.len false (.t s53))⟩
    (.one ⟨some s55, some (s52, false), (.mv (.t s1))⟩
    (.one ⟨some s56, some (s52, false), (.callq 65 [(.t s54), (.t s55)])⟩
    (.one ⟨some s57, some (s52, false), (.mv (.t s7))⟩
    (.one ⟨some s58, some (s52, false), (.len false (.t s57))⟩
    (.one ⟨some s59, some (s52, false), (.bin false .eql (.t s56) (.t s58))⟩
    (.one ⟨some s60, some (s49, true), (.pick (.t s52) (.c (.v (.bool true))) (.t s59))⟩
    (.one ⟨some s61, none, (.pick (.t s49) (.t s60) (.c (.v (.bool false))))⟩
    (.one ⟨some s6, none, (.mv (.t s61))⟩
    .done)))))))))))))))))))))))))))))))))))))
  .ret)))))⟩
theorem ok13 : compF Try.prog c13 Try.f13 = some ir13 := by kernel_rfl
theorem k_bowlinelaw08_LensWrites {args : List AVal} {σ : AHeap} {Q : AVal → AHeap → Prop} (hl : Nat.ble args.length 62 = true) (h : argsK (Env.full 9) 0 args fun env => evC Try.prog c13 ir13.body env σ (retQ ir13 Q)) : ACalls Try.prog 13 args σ Q :=
  acalls_of Try.func13 ok13 rfl (Nat.le_of_ble_eq_true hl) h
/- bowlinelaw08.LensReads -/
def c14 : Cfg := ⟨qs, false, 45, []⟩
def ir14 : IFun := ⟨2, [.tmp s4],
  (.seq (.reg (.one ⟨some s4, none, (.mv (.c (.v (.bool false))))⟩
    .done))
  (.seq (.seq (.reg (.one ⟨some s11, none, (.mv (.t s0))⟩
    (.one ⟨some s12, none, (.len false (.t s11))⟩
    (.one ⟨some s13, none, (.bin false .gtr (.t s12) (.c (.v (.int .i64 200))))⟩
    .done))))
  (.cond (.t s13) (.seq (.reg (.one ⟨some s14, none, (.callq 62 [])⟩
    (.one ⟨some s4, none, (.mv (.t s14))⟩
    .done)))
  .ret) .skip))
  (.seq (.reg (.one ⟨some s16, none, (.mv (.t s0))⟩
    (.one ⟨some s17, none, (.mv (.t s1))⟩
    (.one ⟨some s18, none, (.callq 67 [(.t s16), (.t s17)])⟩
    (.one ⟨some s15, none, (.mv (.t s18))⟩
    (.one ⟨some s19, none, (.ext (.t s15) 0)⟩
    (.one ⟨some s20, none, (.ext (.t s15) 1)⟩
    (.one ⟨some s21, none, (.ext (.t s15) 2)⟩
    (.one ⟨some s5, none, (.mv (.t s19))⟩
    (.one ⟨some s6, none, (.mv (.t s20))⟩
    (.one ⟨some s7, none, (.mv (.t s21))⟩
    .done)))))))))))
  (.seq (.reg (.one ⟨some s23, none, (.mv (.t s0))⟩
    (.one ⟨some s24, none, (.mv (.t s1))⟩
    (.one ⟨some s25, none, (.callq 68 [(.t s23), (.t s24)])⟩
    (.one ⟨some s22, none, (.mv (.t s25))⟩
    (.one ⟨some s26, none, (.ext (.t s22) 0)⟩
    (.one ⟨some s27, none, (.ext (.t s22) 1)⟩
    (.one ⟨some s28, none, (.ext (.t s22) 2)⟩
    (.one ⟨some s8, none, (.mv (.t s26))⟩
    (.one ⟨some s9, none, (.mv (.t s27))⟩
    (.one ⟨some s10, none, (.mv (.t s28))⟩
    .done)))))))))))
  (.seq (.reg (.one ⟨some s29, none, (.callq 62 [])⟩
    (.one ⟨some s30, none, (.mv (.t s29))⟩
    (.one ⟨some s31, some (s30, true), (.mv (.t s5))⟩
    (.one ⟨some s32, some (s30, true), (.mv (.t s8))⟩
    (.one ⟨some s33, some (s30, true), (.callq 69 [(.t s31), (.t s32)])⟩
    (.one ⟨some s34, none, (.pick (.t s30) (.t s33) (.c (.v (.bool false))))⟩
    (.one ⟨some s35, none, (.mv (.t s34))⟩
    (.one ⟨some s36, some (s35, true), (.mv (.t s6))⟩
    (.one ⟨some s37, some (s35, true), (.mv (.t s9))⟩
    (.one ⟨some s38, some (s35, true), (.bin false .eql (.t s36) (.t s37))⟩
    (.one ⟨some s39, none, (.pick (.t s35) (.t s38) (.c (.v (.bool false))))⟩
    (.one ⟨some s40, none, (.mv (.t s39))⟩
    (.one ⟨some s41, some (s40, true), (.mv (.t s7))⟩
    (.one ⟨some s42, some (s40, true), (.mv (.t s10))⟩
    (.one ⟨some s43, some (s40, true), (.bin false .eql (.t s41) (.t s42))⟩
    (.one ⟨some s44, none, (.pick (.t s40) (.t s43) (.c (.v (.bool false))))⟩
    (.one ⟨some s4, none, (.mv (.t s44))⟩
    .done))))))))))))))))))
  .ret)))))⟩
theorem ok14 : compF Try.prog c14 Try.f14 = some ir14 := by kernel_rfl
theorem k_bowlinelaw08_LensReads {args : List AVal} {σ : AHeap} {Q : AVal → AHeap → Prop} (hl : Nat.ble args.length 45 = true) (h : argsK (Env.full 9) 0 args fun env => evC Try.prog c14 ir14.body env σ (retQ ir14 Q)) : ACalls Try.prog 14 args σ Q :=
  acalls_of Try.func14 ok14 rfl (Nat.le_of_ble_eq_true hl) h
/- bowlinelaw08.alive -/
def c62 : Cfg := ⟨qs, false, 77, []⟩
def ir62 : IFun := ⟨0, [.tmp s0],
  (.seq (.reg (.one ⟨some s0, none, (.mv (.c (.v (.bool false))))⟩
    .done))
  (.seq (.reg (.one ⟨some s12, none, (.row 1 [(.c (.v (.int .i64 5)))])⟩
    (.one ⟨some s13, none, (.callq 63 [(.t s12), (.c (.v (.int .i64 11)))])⟩
    (.one ⟨some s11, none, (.mv (.t s13))⟩
    (.one ⟨some s14, none, (.ext (.t s11) 0)⟩
    (.one ⟨some s15, none, (.ext (.t s11) 1)⟩
    (.one ⟨some s1, none, (.mv (.t s14))⟩
    (.one ⟨some s2, none, (.mv (.t s15))⟩
    .done))))))))
  (.seq (.reg (.one ⟨some s17, none, (.row 1 [(.c (.v (.int .u8 128))), (.c (.v (.int .u8 80))), (.c (.v (.int .u8 7))), (.c (.v (.int .u8 9)))])⟩
    (.one ⟨some s18, none, (.callq 67 [(.t s17), (.c (.v (.int .i64 11)))])⟩
    (.one ⟨some s16, none, (.mv (.t s18))⟩
    (.one ⟨some s19, none, (.ext (.t s16) 0)⟩
    (.one ⟨some s20, none, (.ext (.t s16) 1)⟩
    (.one ⟨some s21, none, (.ext (.t s16) 2)⟩
    (.one ⟨some s3, none, (.mv (.t s19))⟩
    (.one ⟨some s4, none, (.mv (.t s20))⟩
    (.one ⟨some s5, none, (.mv (.t s21))⟩
    .done))))))))))
  (.seq (.reg (.one ⟨some s23, none, (.row 1 [(.c (.v (.int .u8 0))), (.c (.v (.int .u8 81)))])⟩
    (.one ⟨some s24, none, (.callq 67 [(.t s23), (.c (.v (.int .i64 11)))])⟩
    (.one ⟨some s22, none, (.mv (.t s24))⟩
    (.one ⟨some s25, none, (.ext (.t s22) 0)⟩
    (.one ⟨some s26, none, (.ext (.t s22) 1)⟩
    (.one ⟨some s27, none, (.ext (.t s22) 2)⟩
    (.one ⟨some s6, none, (.mv (.t s25))⟩
    (.one ⟨some s7, none, (.mv (.t s26))⟩
    (.one ⟨some s8, none, (.mv (.t s27))⟩
    .done))))))))))
  (.seq (.reg (.one ⟨some s29, none, (.row 1 [(.c (.v (.int .i64 5)))])⟩
    (.one ⟨some s30, none, (.callq 63 [(.t s29), (.c (.v (.int .i64 12)))])⟩
    (.one ⟨some s28, none, (.mv (.t s30))⟩
    (.one ⟨some s31, none, (.ext (.t s28) 0)⟩
    (.one ⟨some s32, none, (.ext (.t s28) 1)⟩
    (.one ⟨some s9, none, (.mv (.t s31))⟩
    (.one ⟨some s10, none, (.mv (.t s32))⟩
    .done))))))))
  (.seq (.reg (.one ⟨some s33, none, (.mv (.t s1))⟩
    (.one ⟨some s34, none, (.b2s (.t s33))⟩
    (.one ⟨some s35, none, (.bin false .eql (.t s34) (.c (.v (.string ⟨#[0, 80]⟩))))⟩
    (.one ⟨some s36, none, (.mv (.t s35))⟩
    (.one ⟨some s37, some (s36, true), (.mv (.t s2))⟩
    (.one ⟨some s38, some (s36, true), (.bin false .eql (.t s37) (.c (.v (.int .i64 0))))⟩
    (.one ⟨some s39, none, (.pick (.t s36) (.t s38) (.c (.v (.bool false))))⟩
    (.one ⟨some s40, none, (.mv (.t s39))⟩
    (.one ⟨some s41, some (s40, true), (.mv (.t s3))⟩
    (.one ⟨some s42, some (s40, true), (.len false (.t s41))⟩
    (.one ⟨some s43, some (s40, true), (.bin false .eql (.t s42) (.c (.v (.int .i64 2))))⟩
    (.one ⟨some s44, none, (.pick (.t s40) (.t s43) (.c (.v (.bool false))))⟩
    (.one ⟨some s45, none, (.mv (.t s44))⟩
    (.one ⟨some s46, some (s45, true), (.mv (.t s3))⟩
    (.one ⟨some s47, some (s45, true), (.iaddr 1 (.t s46) (.c (.v (.int .i64 0))))⟩
    (.one ⟨some s48, some (s45, true), (.load none (.t s47))⟩
    (.one ⟨some s49, some (s45, true), (.bin false .eql (.t s48) (.c (.v (.int .i64 5))))⟩
    (.one ⟨some s50, none, (.pick (.t s45) (.t s49) (.c (.v (.bool false))))⟩
    (.one ⟨some s51, none, (.mv (.t s50))⟩
    (.one ⟨some s52, some (s51, true), (.mv (.t s3))⟩
    (.one ⟨some s53, some (s51, true), (.iaddr 1 (.t s52) (.c (.v (.int .i64 1))))⟩
    (.one ⟨some s54, some (s51, true), (.load none (.t s53))⟩
    (.one ⟨some s55, some (s51, true), (.bin false .eql (.t s54) (.c (.v (.int .i64 7))))⟩
    (.one ⟨some s56, none, (.pick (.t s51) (.t s55) (.c (.v (.bool false))))⟩
    (.one ⟨some s57, none, (.mv (.t s56))⟩
    (.one ⟨some s58, some (s57, true), (.mv (.t s4))⟩
    (.one ⟨some s59, some (s57, true), (.bin false .eql (.t s58) (.c (.v (.int .i64 3))))⟩
    (.one ⟨some s60, none, (.pick (.t s57) (.t s59) (.c (.v (.bool false))))⟩
    (.one ⟨some s61, none, (.mv (.t s60))⟩
    (.one ⟨some s62, some (s61, true), (.mv (.t s5))⟩
    (.one ⟨some s63, some (s61, true), (.bin false .eql (.t s62) (.c (.v (.int .i64 0))))⟩
    (.one ⟨some s64, none, (.pick (.t s61) (.t s63) (.c (.v (.bool false))))⟩
    (.one ⟨some s65, none, (.mv (.t s64))⟩
    (.one ⟨some s66, some (s65, true), (.mv (.t s8))⟩
    (.one ⟨some s67, some (s65, true), (.bin false .eql (.t s66) (.c (.v (.int .i64 3))))⟩
    (.one ⟨some s68, none, (.pick (.t s65) (.t s67) (.c (.v (.bool false))))⟩
    (.one ⟨some s69, none, (.mv (.t s68))⟩
    (.one ⟨some s70, some (s69, true), (.mv (.t s10))⟩
    (.one ⟨some s71, some (s69, true), (.bin false .eql (.t s70) (.c (.v (.int .i64 9))))⟩
    (.one ⟨some s72, none, (.pick (.t s69) (.t s71) (.c (.v (.bool false))))⟩
    (.one ⟨some s73, none, (.mv (.t s72))⟩
    (.one ⟨some s74, some (s73, true), (.callq 65 [(.c (.v (.int .i64 3))), (.c (.v (.int .i64 15)))])⟩
    (.one ⟨some s75, some (s73, true), (.bin false .eql (.t s74) (.c (.v (.int .i64 6))))⟩
    (.one ⟨some s76, none, (.pick (.t s73) (.t s75) (.c (.v (.bool false))))⟩
    (.one ⟨some s0, none, (.mv (.t s76))⟩
    .done))))))))))))))))))))))))))))))))))))))))))))))
  .ret))))))⟩
theorem ok62 : compF Try.prog c62 Try.f62 = some ir62 := by kernel_rfl
theorem k_bowlinelaw08_alive {args : List AVal} {σ : AHeap} {Q : AVal → AHeap → Prop} (hl : Nat.ble args.length 77 = true) (h : argsK (Env.full 9) 0 args fun env => evC Try.prog c62 ir62.body env σ (retQ ir62 Q)) : ACalls Try.prog 62 args σ Q :=
  acalls_of Try.func62 ok62 rfl (Nat.le_of_ble_eq_true hl) h
/- bowlinelaw08.same -/
def c69 : Cfg := ⟨qs, false, 26, []⟩
def ir69 : IFun := ⟨2, [.tmp s4],
  (.seq (.reg (.one ⟨some s4, none, (.mv (.c (.v (.bool false))))⟩
    .done))
  (.seq (.seq (.reg (.one ⟨some s6, none, (.mv (.t s0))⟩
    (.one ⟨some s7, none, (.len false (.t s6))⟩
    (.one ⟨some s8, none, (.mv (.t s1))⟩
    (.one ⟨some s9, none, (.len false (.t s8))⟩
    (.one ⟨some s10, none, (.bin false .neq (.t s7) (.t s9))⟩
    .done))))))
  (.cond (.t s10) (.seq (.reg (.one ⟨some s4, none, (.mv (.c (.v (.bool false))))⟩
    .done))
  .ret) .skip))
  (.seq (.seq (.reg (.one ⟨some s5, none, (.mv (.c (.v (.int .i64 0))))⟩
    .done))
  (.block 0 (.loop (.seq (.seq (.reg (.one ⟨some s11, none, (.mv (.t s5))⟩
    (.one ⟨some s12, none, (.mv (.t s0))⟩
    (.one ⟨some s13, none, (.len false (.t s12))⟩
    (.one ⟨some s14, none, (.bin false .lss (.t s11) (.t s13))⟩
    .done)))))
  (.cond (.t s14) .skip (.exit 0)))
  (.seq (.block 1 (.seq (.reg (.one ⟨some s17, none, (.mv (.t s0))⟩
    (.one ⟨some s18, none, (.mv (.t s5))⟩
    (.one ⟨some s19, none, (.iaddr 1 (.t s17) (.t s18))⟩
    (.one ⟨some s20, none, (.load none (.t s19))⟩
    (.one ⟨some s21, none, (.mv (.t s1))⟩
    (.one ⟨some s22, none, (.mv (.t s5))⟩
    (.one ⟨some s23, none, (.iaddr 1 (.t s21) (.t s22))⟩
    (.one ⟨some s24, none, (.load none (.t s23))⟩
    (.one ⟨some s25, none, (.bin false .neq (.t s20) (.t s24))⟩
    .done))))))))))
  (.cond (.t s25) (.seq (.reg (.one ⟨some s4, none, (.mv (.c (.v (.bool false))))⟩
    .done))
  .ret) .skip)))
  (.reg (.one ⟨some s15, none, (.mv (.t s5))⟩
    (.one ⟨some s16, none, (.bin false .add (.t s15) (.c (.v (.int .i64 1))))⟩
    (.one ⟨some s5, none, (.mv (.t s16))⟩
    .done)))))))))
  (.seq (.reg (.one ⟨some s4, none, (.mv (.c (.v (.bool true))))⟩
    .done))
  .ret))))⟩
theorem ok69 : compF Try.prog c69 Try.f69 = some ir69 := by kernel_rfl
theorem k_bowlinelaw08_same {args : List AVal} {σ : AHeap} {Q : AVal → AHeap → Prop} (hl : Nat.ble args.length 26 = true) (h : argsK (Env.full 9) 0 args fun env => evC Try.prog c69 ir69.body env σ (retQ ir69 Q)) : ACalls Try.prog 69 args σ Q :=
  acalls_of Try.func69 ok69 rfl (Nat.le_of_ble_eq_true hl) h
end Go.Proofs.Ytkdbmajkjlnpiab

