/-
  Texts of this claim, pack 4: Irlaw09, Irlaw20.
-/
import Derived.Test.YtgipkpghabelkaaK2
/-
  The bodies of one package, compiled to the framework's language (printed by a program of this session).
-/
namespace Go.Proofs.Ytgipkpghabelkaa
set_option linter.unusedVariables false
set_option linter.unusedSimpArgs false
open Go Go.Am
/- bowlinelaw09.UmdReads -/
def c7 : Cfg := ⟨[], [], 56, [], []⟩
def ir7 : IFun := ⟨2, [.tmp s4],
  (.seq (.reg (.one ⟨some s4, none, (.mv (.c (.v (.bool false))))⟩
    .done))
  (.seq (.seq (.reg (.one ⟨some s11, none, (.mv (.t s0))⟩
    (.one ⟨some s12, none, (.len false (.t s11))⟩
    (.one ⟨some s13, none, (.bin false .gtr (.t s12) (.c (.v (.int .i64 4100))))⟩
    .done))))
  (.cond (.t s13) (.seq (.reg (.one ⟨some s14, none, (.call 24 [])⟩
    (.one ⟨some s4, none, (.mv (.t s14))⟩
    .done)))
  .ret) .skip))
  (.seq (.reg (.one ⟨some s15, none, (.row 1 [])⟩
    (.one ⟨some s16, none, (.mv (.t s0))⟩
    (.one ⟨some s17, none, (.app 1 1 (.t s15) (.t s16))⟩
    (.one ⟨some s5, none, (.mv (.t s17))⟩
    .done)))))
  (.seq (.reg (.one ⟨some s19, none, (.mv (.t s5))⟩
    (.one ⟨some s20, none, (.mv (.t s1))⟩
    (.one ⟨some s21, none, (.call 25 [(.t s19), (.t s20)])⟩
    (.one ⟨some s18, none, (.mv (.t s21))⟩
    (.one ⟨some s22, none, (.ext (.t s18) 0)⟩
    (.one ⟨some s23, none, (.ext (.t s18) 1)⟩
    (.one ⟨some s6, none, (.new [(.v (.int .i64 0)), (.v (.int .i64 0)), (.slice 1 [] .full)])⟩
    (.one ⟨none, none, (.store 3 (.t s6) (.t s22))⟩
    (.one ⟨some s7, none, (.mv (.t s23))⟩
    .done))))))))))
  (.seq (.seq (.reg (.one ⟨some s8, none, (.mv (.c (.v (.int .i64 0))))⟩
    .done))
  (.block 0 (.loop (.seq (.seq (.reg (.one ⟨some s24, none, (.mv (.t s8))⟩
    (.one ⟨some s25, none, (.mv (.t s5))⟩
    (.one ⟨some s26, none, (.len false (.t s25))⟩
    (.one ⟨some s27, none, (.bin false .lss (.t s24) (.t s26))⟩
    .done)))))
  (.cond (.t s27) .skip (.exit 0)))
  (.seq (.block 1 (.reg (.one ⟨some s30, none, (.mv (.t s5))⟩
    (.one ⟨some s31, none, (.mv (.t s8))⟩
    (.one ⟨some s32, none, (.mv (.t s5))⟩
    (.one ⟨some s33, none, (.mv (.t s8))⟩
    (.one ⟨some s34, none, (.iaddr 1 (.t s32) (.t s33))⟩
    (.one ⟨some s35, none, (.load none (.t s34))⟩
    (.one ⟨some s36, none, (.bin false .xor (.t s35) (.c (.v (.int .u8 255))))⟩
    (.one ⟨some s37, none, (.iaddr 1 (.t s30) (.t s31))⟩
    (.one ⟨none, none, (.store 1 (.t s37) (.t s36))⟩
    .done)))))))))))
  (.reg (.one ⟨some s28, none, (.mv (.t s8))⟩
    (.one ⟨some s29, none, (.bin false .add (.t s28) (.c (.v (.int .i64 1))))⟩
    (.one ⟨some s8, none, (.mv (.t s29))⟩
    .done)))))))))
  (.seq (.reg (.one ⟨some s39, none, (.mv (.t s0))⟩
    (.one ⟨some s40, none, (.mv (.t s1))⟩
    (.one ⟨some s41, none, (.call 26 [(.t s39), (.t s40)])⟩
    (.one ⟨some s38, none, (.mv (.t s41))⟩
    (.one ⟨some s42, none, (.ext (.t s38) 0)⟩
    (.one ⟨some s43, none, (.ext (.t s38) 1)⟩
    (.one ⟨some s9, none, (.new [(.v (.int .i64 0)), (.v (.int .i64 0)), (.slice 1 [] .full)])⟩
    (.one ⟨none, none, (.store 3 (.t s9) (.t s42))⟩
    (.one ⟨some s10, none, (.mv (.t s43))⟩
    .done))))))))))
  (.seq (.reg (.one ⟨some s44, none, (.call 24 [])⟩
    (.one ⟨some s45, none, (.mv (.t s44))⟩
    (.one ⟨some s46, some (s45, true), (.mv (.t s7))⟩
    (.one ⟨some s47, some (s45, true), (.mv (.t s10))⟩
    (.one ⟨some s48, some (s45, true), (.bin false .eql (.t s46) (.t s47))⟩
    (.one ⟨some s49, none, (.pick (.t s45) (.t s48) (.c (.v (.bool false))))⟩
    (.one ⟨some s50, none, (.mv (.t s49))⟩
    (.one ⟨some s51, some (s50, true), (.load (some 3) (.t s6))⟩
    (.both (.one ⟨some s52, some (s50, true), (.call 28 [(.t s51)])⟩
    (.one ⟨some s53, some (s50, true), (.load (some 3) (.t s9))⟩
    (.one ⟨some s54, some (s50, true), (.call 27 [(.t s52), (.t s53)])⟩
    (.one ⟨some s55, none, (.pick (.t s50) (.t s54) (.c (.v (.bool false))))⟩
    (.one ⟨some s4, none, (.mv (.t s55))⟩
    .done))))) (.one ⟨some s53, some (s50, true), (.load (some 3) (.t s9))⟩
    (.one ⟨some s52, some (s50, true), (.call 28 [(.t s51)])⟩
    (.one ⟨some s54, some (s50, true), (.call 27 [(.t s52), (.t s53)])⟩
    (.one ⟨some s55, none, (.pick (.t s50) (.t s54) (.c (.v (.bool false))))⟩
    (.one ⟨some s4, none, (.mv (.t s55))⟩
    .done)))))))))))))))
  .ret)))))))⟩
theorem ok7 : compF Try.prog c7 Try.f7 = some ir7 := by kernel_rfl
theorem k_bowlinelaw09_UmdReads {args : List AVal} {σ : AHeap} {Q : AVal → AHeap → Prop} (hl : Nat.ble args.length 56 = true) (h : argsK (Env.full 9) 0 args fun env => evC Try.prog c7 ir7.body env σ (retQ ir7 Q)) : ACalls Try.prog 7 args σ Q :=
  acalls_of Try.func7 ok7 rfl (Nat.le_of_ble_eq_true hl) h
/- bowlinelaw09.UmdReads -/
def c7m : Cfg := ⟨[], [39], 56, [], []⟩
def ir7m : IFun := ⟨2, [.tmp s4],
  (.seq (.reg (.one ⟨some s4, none, (.mv (.c (.v (.bool false))))⟩
    .done))
  (.seq (.seq (.reg (.one ⟨some s11, none, (.mv (.t s0))⟩
    (.one ⟨some s12, none, (.len false (.t s11))⟩
    (.one ⟨some s13, none, (.bin false .gtr (.t s12) (.c (.v (.int .i64 4100))))⟩
    .done))))
  (.cond (.t s13) (.seq (.reg (.one ⟨some s14, none, (.call 24 [])⟩
    (.one ⟨some s4, none, (.mv (.t s14))⟩
    .done)))
  .ret) .skip))
  (.seq (.reg (.one ⟨some s15, none, (.row 1 [])⟩
    (.one ⟨some s16, none, (.mv (.t s0))⟩
    (.one ⟨some s17, none, (.appm 1 1 (.t s15) (.t s16))⟩
    (.one ⟨some s5, none, (.mv (.t s17))⟩
    .done)))))
  (.seq (.reg (.one ⟨some s19, none, (.mv (.t s5))⟩
    (.one ⟨some s20, none, (.mv (.t s1))⟩
    (.one ⟨some s21, none, (.call 25 [(.t s19), (.t s20)])⟩
    (.one ⟨some s18, none, (.mv (.t s21))⟩
    (.one ⟨some s22, none, (.ext (.t s18) 0)⟩
    (.one ⟨some s23, none, (.ext (.t s18) 1)⟩
    (.one ⟨some s6, none, (.new [(.v (.int .i64 0)), (.v (.int .i64 0)), (.slice 1 [] .full)])⟩
    (.one ⟨none, none, (.store 3 (.t s6) (.t s22))⟩
    (.one ⟨some s7, none, (.mv (.t s23))⟩
    .done))))))))))
  (.seq (.seq (.reg (.one ⟨some s8, none, (.mv (.c (.v (.int .i64 0))))⟩
    .done))
  (.block 0 (.loop (.seq (.seq (.reg (.one ⟨some s24, none, (.mv (.t s8))⟩
    (.one ⟨some s25, none, (.mv (.t s5))⟩
    (.one ⟨some s26, none, (.len false (.t s25))⟩
    (.one ⟨some s27, none, (.bin false .lss (.t s24) (.t s26))⟩
    .done)))))
  (.cond (.t s27) .skip (.exit 0)))
  (.seq (.block 1 (.reg (.one ⟨some s30, none, (.mv (.t s5))⟩
    (.one ⟨some s31, none, (.mv (.t s8))⟩
    (.one ⟨some s32, none, (.mv (.t s5))⟩
    (.one ⟨some s33, none, (.mv (.t s8))⟩
    (.one ⟨some s34, none, (.iaddr 1 (.t s32) (.t s33))⟩
    (.one ⟨some s35, none, (.load none (.t s34))⟩
    (.one ⟨some s36, none, (.bin false .xor (.t s35) (.c (.v (.int .u8 255))))⟩
    (.one ⟨some s37, none, (.iaddr 1 (.t s30) (.t s31))⟩
    (.one ⟨none, none, (.store 1 (.t s37) (.t s36))⟩
    .done)))))))))))
  (.reg (.one ⟨some s28, none, (.mv (.t s8))⟩
    (.one ⟨some s29, none, (.bin false .add (.t s28) (.c (.v (.int .i64 1))))⟩
    (.one ⟨some s8, none, (.mv (.t s29))⟩
    .done)))))))))
  (.seq (.reg (.one ⟨some s39, none, (.mv (.t s0))⟩
    (.one ⟨some s40, none, (.mv (.t s1))⟩
    (.one ⟨some s41, none, (.call 26 [(.t s39), (.t s40)])⟩
    (.one ⟨some s38, none, (.mv (.t s41))⟩
    (.one ⟨some s42, none, (.ext (.t s38) 0)⟩
    (.one ⟨some s43, none, (.ext (.t s38) 1)⟩
    (.one ⟨some s9, none, (.new [(.v (.int .i64 0)), (.v (.int .i64 0)), (.slice 1 [] .full)])⟩
    (.one ⟨none, none, (.store 3 (.t s9) (.t s42))⟩
    (.one ⟨some s10, none, (.mv (.t s43))⟩
    .done))))))))))
  (.seq (.reg (.one ⟨some s44, none, (.call 24 [])⟩
    (.one ⟨some s45, none, (.mv (.t s44))⟩
    (.one ⟨some s46, some (s45, true), (.mv (.t s7))⟩
    (.one ⟨some s47, some (s45, true), (.mv (.t s10))⟩
    (.one ⟨some s48, some (s45, true), (.bin false .eql (.t s46) (.t s47))⟩
    (.one ⟨some s49, none, (.pick (.t s45) (.t s48) (.c (.v (.bool false))))⟩
    (.one ⟨some s50, none, (.mv (.t s49))⟩
    (.one ⟨some s51, some (s50, true), (.load (some 3) (.t s6))⟩
    (.both (.one ⟨some s52, some (s50, true), (.call 28 [(.t s51)])⟩
    (.one ⟨some s53, some (s50, true), (.load (some 3) (.t s9))⟩
    (.one ⟨some s54, some (s50, true), (.call 27 [(.t s52), (.t s53)])⟩
    (.one ⟨some s55, none, (.pick (.t s50) (.t s54) (.c (.v (.bool false))))⟩
    (.one ⟨some s4, none, (.mv (.t s55))⟩
    .done))))) (.one ⟨some s53, some (s50, true), (.load (some 3) (.t s9))⟩
    (.one ⟨some s52, some (s50, true), (.call 28 [(.t s51)])⟩
    (.one ⟨some s54, some (s50, true), (.call 27 [(.t s52), (.t s53)])⟩
    (.one ⟨some s55, none, (.pick (.t s50) (.t s54) (.c (.v (.bool false))))⟩
    (.one ⟨some s4, none, (.mv (.t s55))⟩
    .done)))))))))))))))
  .ret)))))))⟩
theorem ok7m : compF Try.prog c7m Try.f7 = some ir7m := by kernel_rfl
theorem km_bowlinelaw09_UmdReads {args : List AVal} {σ : AHeap} {Q : AVal → AHeap → Prop} (hl : Nat.ble args.length 56 = true) (h : argsK (Env.full 9) 0 args fun env => evC Try.prog c7m ir7m.body env σ (retQ ir7m Q)) : ACalls Try.prog 7 args σ Q :=
  acalls_of Try.func7 ok7m rfl (Nat.le_of_ble_eq_true hl) h
/- bowlinelaw09.Great -/
def c8 : Cfg := ⟨qs, [], 31, [], ps⟩
def ir8 : IFun := ⟨1, [.tmp s2],
  (.seq (.reg (.one ⟨some s2, none, (.mv (.c (.v (.bool false))))⟩
    .done))
  (.seq (.reg (.one ⟨some s3, none, (.mv (.c (.v (.int .i64 0))))⟩
    .done))
  (.seq (.seq (.reg (.one ⟨some s4, none, (.mv (.c (.v (.int .i64 0))))⟩
    .done))
  (.block 0 (.loop (.seq (.seq (.reg (.one ⟨some s5, none, (.mv (.t s4))⟩
    (.one ⟨some s6, none, (.mv (.t s0))⟩
    (.one ⟨some s7, none, (.len false (.t s6))⟩
    (.one ⟨some s8, none, (.bin false .lss (.t s5) (.t s7))⟩
    .done)))))
  (.cond (.t s8) .skip (.exit 0)))
  (.seq (.block 1 (.seq (.seq (.reg (.one ⟨some s11, none, (.mv (.t s0))⟩
    (.one ⟨some s12, none, (.len false (.t s11))⟩
    (.one ⟨some s13, none, (.bin false .gtr (.t s12) (.c (.v (.int .i64 40))))⟩
    (.one ⟨some s14, none, (.mv (.t s13))⟩
    (.one ⟨some s15, some (s14, false), (.mv (.t s0))⟩
    (.one ⟨some s16, some (s14, false), (.mv (.t s4))⟩
    (.one ⟨some s17, some (s14, false), (.iaddr 1 (.t s15) (.t s16))⟩
    (.one ⟨some s18, some (s14, false), (.load none (.t s17))⟩
    (.one ⟨some s19, some (s14, false), (.len false (.t s18))⟩
    (.one ⟨some s20, some (s14, false), (.bin false .gtr (.t s19) (.c (.v (.int .i64 4200))))⟩
    (.one ⟨some s21, none, (.pick (.t s14) (.c (.v (.bool true))) (.t s20))⟩
    .done))))))))))))
  (.cond (.t s21) (.seq (.reg (.one ⟨some s2, none, (.mv (.c (.v (.bool true))))⟩
    .done))
  .ret) .skip))
  (.reg (.one ⟨some s22, none, (.mv (.t s3))⟩
    (.one ⟨some s23, none, (.mv (.t s0))⟩
    (.one ⟨some s24, none, (.mv (.t s4))⟩
    (.one ⟨some s25, none, (.iaddr 1 (.t s23) (.t s24))⟩
    (.one ⟨some s26, none, (.load none (.t s25))⟩
    (.one ⟨some s27, none, (.len false (.t s26))⟩
    (.one ⟨some s28, none, (.bin false .add (.t s22) (.t s27))⟩
    (.one ⟨some s3, none, (.mv (.t s28))⟩
    .done)))))))))))
  (.reg (.one ⟨some s9, none, (.mv (.t s4))⟩
    (.one ⟨some s10, none, (.bin false .add (.t s9) (.c (.v (.int .i64 1))))⟩
    (.one ⟨some s4, none, (.mv (.t s10))⟩
    .done)))))))))
  (.seq (.reg (.one ⟨some s29, none, (.mv (.t s3))⟩
    (.one ⟨some s30, none, (.bin false .gtr (.t s29) (.c (.v (.int .i64 9000))))⟩
    (.one ⟨some s2, none, (.mv (.t s30))⟩
    .done))))
  .ret))))⟩
theorem ok8 : compF Try.prog c8 Try.f8 = some ir8 := by kernel_rfl
theorem k_bowlinelaw09_Great {args : List AVal} {σ : AHeap} {Q : AVal → AHeap → Prop} (hl : Nat.ble args.length 31 = true) (h : argsK (Env.full 9) 0 args fun env => evC Try.prog c8 ir8.body env σ (retQ ir8 Q)) : ACalls Try.prog 8 args σ Q :=
  acalls_of Try.func8 ok8 rfl (Nat.le_of_ble_eq_true hl) h
/- bowlinelaw09.alive -/
def c24 : Cfg := ⟨qs, [], 87, [], ps⟩
def ir24 : IFun := ⟨0, [.tmp s0],
  (.seq (.reg (.one ⟨some s0, none, (.mv (.c (.v (.bool false))))⟩
    .done))
  (.seq (.reg (.one ⟨some s12, none, (.row 1 [(.c (.v (.int .u8 65)))])⟩
    (.one ⟨some s13, none, (.row 1 [(.t s12)])⟩
    (.one ⟨some s14, none, (.build [(.v (.int .i64 0)), (.v (.int .i64 0)), (.slice 1 [] .full)] [(1, 1, (.c (.v (.int .i64 3)))), (2, 1, (.t s13))])⟩
    (.one ⟨some s15, none, (.callq 49 [(.t s14), (.c (.v (.int .i64 5)))])⟩
    (.one ⟨some s11, none, (.mv (.t s15))⟩
    (.one ⟨some s16, none, (.ext (.t s11) 0)⟩
    (.one ⟨some s17, none, (.ext (.t s11) 1)⟩
    (.one ⟨some s1, none, (.mv (.t s16))⟩
    (.one ⟨some s2, none, (.mv (.t s17))⟩
    .done))))))))))
  (.seq (.reg (.one ⟨some s19, none, (.row 1 [(.c (.v (.int .u8 1))), (.c (.v (.int .u8 2)))])⟩
    (.one ⟨some s20, none, (.row 1 [(.c (.v (.int .u8 3)))])⟩
    (.one ⟨some s21, none, (.row 1 [(.t s19), (.t s20)])⟩
    (.one ⟨some s22, none, (.build [(.v (.int .i64 0)), (.v (.int .i64 0)), (.slice 1 [] .full)] [(0, 1, (.c (.v (.int .i64 3)))), (1, 1, (.c (.v (.int .i64 700)))), (2, 1, (.t s21))])⟩
    (.one ⟨some s23, none, (.callq 49 [(.t s22), (.c (.v (.int .i64 10)))])⟩
    (.one ⟨some s18, none, (.mv (.t s23))⟩
    (.one ⟨some s24, none, (.ext (.t s18) 0)⟩
    (.one ⟨some s25, none, (.ext (.t s18) 1)⟩
    (.one ⟨some s3, none, (.mv (.t s24))⟩
    (.one ⟨some s4, none, (.mv (.t s25))⟩
    .done)))))))))))
  (.seq (.reg (.one ⟨some s27, none, (.mv (.t s3))⟩
    (.one ⟨some s28, none, (.callq 25 [(.t s27), (.c (.v (.int .i64 10)))])⟩
    (.one ⟨some s26, none, (.mv (.t s28))⟩
    (.one ⟨some s29, none, (.ext (.t s26) 0)⟩
    (.one ⟨some s30, none, (.ext (.t s26) 1)⟩
    (.one ⟨some s5, none, (.new [(.v (.int .i64 0)), (.v (.int .i64 0)), (.slice 1 [] .full)])⟩
    (.one ⟨none, none, (.store 3 (.t s5) (.t s29))⟩
    (.one ⟨some s6, none, (.mv (.t s30))⟩
    .done)))))))))
  (.seq (.reg (.one ⟨some s32, none, (.row 1 [(.c (.v (.int .u8 3)))])⟩
    (.one ⟨some s33, none, (.callq 25 [(.t s32), (.c (.v (.int .i64 5)))])⟩
    (.one ⟨some s31, none, (.mv (.t s33))⟩
    (.one ⟨some s34, none, (.ext (.t s31) 0)⟩
    (.one ⟨some s35, none, (.ext (.t s31) 1)⟩
    (.one ⟨some s7, none, (.new [(.v (.int .i64 0)), (.v (.int .i64 0)), (.slice 1 [] .full)])⟩
    (.one ⟨none, none, (.store 3 (.t s7) (.t s34))⟩
    (.one ⟨some s8, none, (.mv (.t s35))⟩
    .done)))))))))
  (.seq (.reg (.one ⟨some s37, none, (.row 1 [(.c (.v (.int .u8 1)))])⟩
    (.one ⟨some s38, none, (.row 1 [(.t s37)])⟩
    (.one ⟨some s39, none, (.build [(.v (.int .i64 0)), (.v (.int .i64 0)), (.slice 1 [] .full)] [(1, 1, (.c (.v (.int .i64 32)))), (2, 1, (.t s38))])⟩
    (.one ⟨some s40, none, (.callq 49 [(.t s39), (.c (.v (.int .i64 5)))])⟩
    (.one ⟨some s36, none, (.mv (.t s40))⟩
    (.one ⟨some s41, none, (.ext (.t s36) 0)⟩
    (.one ⟨some s42, none, (.ext (.t s36) 1)⟩
    (.one ⟨some s9, none, (.mv (.t s41))⟩
    (.one ⟨some s10, none, (.mv (.t s42))⟩
    .done))))))))))
  (.seq (.reg (.one ⟨some s43, none, (.mv (.t s1))⟩
    (.one ⟨some s44, none, (.b2s (.t s43))⟩
    (.one ⟨some s45, none, (.bin false .eql (.t s44) (.c (.v (.string ⟨#[3, 65]⟩))))⟩
    (.one ⟨some s46, none, (.mv (.t s45))⟩
    (.one ⟨some s47, some (s46, true), (.mv (.t s2))⟩
    (.one ⟨some s48, some (s46, true), (.bin false .eql (.t s47) (.c (.v (.int .i64 0))))⟩
    (.one ⟨some s49, none, (.pick (.t s46) (.t s48) (.c (.v (.bool false))))⟩
    (.one ⟨some s50, none, (.mv (.t s49))⟩
    (.one ⟨some s51, some (s50, true), (.mv (.t s3))⟩
    (.one ⟨some s52, some (s50, true), (.b2s (.t s51))⟩
    (.one ⟨some s53, some (s50, true), (.bin false .eql (.t s52) (.c (.v (.string ⟨#[30, 188, 0, 32, 1, 2, 3]⟩))))⟩
    (.one ⟨some s54, none, (.pick (.t s50) (.t s53) (.c (.v (.bool false))))⟩
    (.one ⟨some s55, none, (.mv (.t s54))⟩
    (.one ⟨some s56, some (s55, true), (.mv (.t s4))⟩
    (.one ⟨some s57, some (s55, true), (.bin false .eql (.t s56) (.c (.v (.int .i64 0))))⟩
    (.one ⟨some s58, none, (.pick (.t s55) (.t s57) (.c (.v (.bool false))))⟩
    (.one ⟨some s59, none, (.mv (.t s58))⟩
    (.one ⟨some s60, some (s59, true), (.mv (.t s6))⟩
    (.one ⟨some s61, some (s59, true), (.bin false .eql (.t s60) (.c (.v (.int .i64 0))))⟩
    (.one ⟨some s62, none, (.pick (.t s59) (.t s61) (.c (.v (.bool false))))⟩
    (.one ⟨some s63, none, (.mv (.t s62))⟩
    (.one ⟨some s64, some (s63, true), (.faddr 1 (.t s5))⟩
    (.one ⟨some s65, some (s63, true), (.load none (.t s64))⟩
    (.one ⟨some s66, some (s63, true), (.bin false .eql (.t s65) (.c (.v (.int .i64 700))))⟩
    (.one ⟨some s67, none, (.pick (.t s63) (.t s66) (.c (.v (.bool false))))⟩
    (.one ⟨some s68, none, (.mv (.t s67))⟩
    (.one ⟨some s69, some (s68, true), (.faddr 0 (.t s5))⟩
    (.one ⟨some s70, some (s68, true), (.load none (.t s69))⟩
    (.one ⟨some s71, some (s68, true), (.bin false .eql (.t s70) (.c (.v (.int .i64 3))))⟩
    (.one ⟨some s72, none, (.pick (.t s68) (.t s71) (.c (.v (.bool false))))⟩
    (.one ⟨some s73, none, (.mv (.t s72))⟩
    (.one ⟨some s74, some (s73, true), (.faddr 2 (.t s5))⟩
    (.one ⟨some s75, some (s73, true), (.load none (.t s74))⟩
    (.one ⟨some s76, some (s73, true), (.len false (.t s75))⟩
    (.one ⟨some s77, some (s73, true), (.bin false .eql (.t s76) (.c (.v (.int .i64 2))))⟩
    (.one ⟨some s78, none, (.pick (.t s73) (.t s77) (.c (.v (.bool false))))⟩
    (.one ⟨some s79, none, (.mv (.t s78))⟩
    (.one ⟨some s80, some (s79, true), (.mv (.t s8))⟩
    (.one ⟨some s81, some (s79, true), (.bin false .eql (.t s80) (.c (.v (.int .i64 8))))⟩
    (.one ⟨some s82, none, (.pick (.t s79) (.t s81) (.c (.v (.bool false))))⟩
    (.one ⟨some s83, none, (.mv (.t s82))⟩
    (.one ⟨some s84, some (s83, true), (.mv (.t s10))⟩
    (.one ⟨some s85, some (s83, true), (.bin false .eql (.t s84) (.c (.v (.int .i64 3))))⟩
    (.one ⟨some s86, none, (.pick (.t s83) (.t s85) (.c (.v (.bool false))))⟩
    (.one ⟨some s0, none, (.mv (.t s86))⟩
    .done))))))))))))))))))))))))))))))))))))))))))))))
  .ret)))))))⟩
theorem ok24 : compF Try.prog c24 Try.f24 = some ir24 := by kernel_rfl
theorem k_bowlinelaw09_alive {args : List AVal} {σ : AHeap} {Q : AVal → AHeap → Prop} (hl : Nat.ble args.length 87 = true) (h : argsK (Env.full 9) 0 args fun env => evC Try.prog c24 ir24.body env σ (retQ ir24 Q)) : ACalls Try.prog 24 args σ Q :=
  acalls_of Try.func24 ok24 rfl (Nat.le_of_ble_eq_true hl) h
/- bowlinelaw09.as -/
def c28 : Cfg := ⟨qs, [], 10, [], ps⟩
def ir28 : IFun := ⟨1, [.cell s2 (some 3)],
  (.seq (.reg (.one ⟨some s1, none, (.box 3 (.t s0))⟩
    (.one ⟨some s2, none, (.new [(.v (.int .i64 0)), (.v (.int .i64 0)), (.slice 1 [] .full)])⟩
    .done)))
  (.seq (.reg (.one ⟨some s3, none, (.faddr 0 (.t s1))⟩
    (.one ⟨some s4, none, (.load none (.t s3))⟩
    (.one ⟨some s5, none, (.faddr 1 (.t s1))⟩
    (.one ⟨some s6, none, (.load none (.t s5))⟩
    (.one ⟨some s7, none, (.faddr 2 (.t s1))⟩
    (.one ⟨some s8, none, (.load none (.t s7))⟩
    (.one ⟨some s9, none, (.build [(.v (.int .i64 0)), (.v (.int .i64 0)), (.slice 1 [] .full)] [(0, 1, (.t s4)), (1, 1, (.t s6)), (2, 1, (.t s8))])⟩
    (.one ⟨none, none, (.store 3 (.t s2) (.t s9))⟩
    .done)))))))))
  .ret))⟩
theorem ok28 : compF Try.prog c28 Try.f28 = some ir28 := by kernel_rfl
theorem k_bowlinelaw09_as {args : List AVal} {σ : AHeap} {Q : AVal → AHeap → Prop} (hl : Nat.ble args.length 10 = true) (h : argsK (Env.full 9) 0 args fun env => evC Try.prog c28 ir28.body env σ (retQ ir28 Q)) : ACalls Try.prog 28 args σ Q :=
  acalls_of Try.func28 ok28 rfl (Nat.le_of_ble_eq_true hl) h
end Go.Proofs.Ytgipkpghabelkaa
/-
  The bodies of one package, compiled to the framework's language (printed by a program of this session).
-/
namespace Go.Proofs.Ytgipkpghabelkaa
set_option linter.unusedVariables false
set_option linter.unusedSimpArgs false
open Go Go.Am
/- bowlinelaw20.ResegCuts -/
def c3 : Cfg := ⟨qs, [], 72, [], ps⟩
def ir3 : IFun := ⟨5, [.tmp s10],
  (.seq (.reg (.one ⟨some s5, none, (.box 7 (.t s0))⟩
    (.one ⟨some s10, none, (.mv (.c (.v (.bool false))))⟩
    .done)))
  (.seq (.seq (.reg (.one ⟨some s18, none, (.faddr 6 (.t s5))⟩
    (.one ⟨some s19, none, (.load none (.t s18))⟩
    (.one ⟨some s20, none, (.callq 8 [(.t s19)])⟩
    .done))))
  (.cond (.t s20) (.seq (.reg (.one ⟨some s21, none, (.callq 9 [])⟩
    (.one ⟨some s10, none, (.mv (.t s21))⟩
    .done)))
  .ret) .skip))
  (.seq (.reg (.one ⟨some s23, none, (.load (some 7) (.t s5))⟩
    (.one ⟨some s24, none, (.mv (.t s1))⟩
    (.one ⟨some s25, none, (.mv (.t s2))⟩
    (.one ⟨some s26, none, (.mv (.t s3))⟩
    (.one ⟨some s27, none, (.mv (.t s4))⟩
    (.one ⟨some s28, none, (.callq 10 [(.t s23), (.t s24), (.t s25), (.t s26), (.t s27)])⟩
    (.one ⟨some s22, none, (.mv (.t s28))⟩
    (.one ⟨some s29, none, (.ext (.t s22) 0)⟩
    (.one ⟨some s30, none, (.ext (.t s22) 1)⟩
    (.one ⟨some s31, none, (.ext (.t s22) 2)⟩
    (.one ⟨some s11, none, (.new [(.v (.bool false)), (.v (.int .i64 0)), (.v (.int .i64 0)), (.v (.bool false)), (.v (.bool false)), (.v (.int .i64 0)), (.slice 1 [] .full)])⟩
    (.one ⟨none, none, (.store 7 (.t s11) (.t s29))⟩
    (.one ⟨some s12, none, (.mv (.t s30))⟩
    (.one ⟨some s13, none, (.mv (.t s31))⟩
    .done)))))))))))))))
  (.seq (.reg (.one ⟨some s33, none, (.load (some 7) (.t s5))⟩
    (.one ⟨some s34, none, (.callq 12 [(.t s33)])⟩
    (.one ⟨some s35, none, (.mv (.t s1))⟩
    (.one ⟨some s36, none, (.mv (.t s2))⟩
    (.one ⟨some s37, none, (.mv (.t s3))⟩
    (.one ⟨some s38, none, (.mv (.t s4))⟩
    (.one ⟨some s39, none, (.callq 11 [(.t s34), (.t s35), (.t s36), (.t s37), (.t s38)])⟩
    (.one ⟨some s32, none, (.mv (.t s39))⟩
    (.one ⟨some s40, none, (.ext (.t s32) 0)⟩
    (.one ⟨some s41, none, (.ext (.t s32) 1)⟩
    (.one ⟨some s42, none, (.ext (.t s32) 2)⟩
    (.one ⟨some s14, none, (.new [(.v (.bool false)), (.v (.int .i64 0)), (.v (.int .i64 0)), (.v (.bool false)), (.v (.bool false)), (.v (.int .i64 0)), (.slice 1 [] .full)])⟩
    (.one ⟨none, none, (.store 7 (.t s14) (.t s40))⟩
    (.one ⟨some s15, none, (.mv (.t s41))⟩
    (.one ⟨some s16, none, (.mv (.t s42))⟩
    .done))))))))))))))))
  (.seq (.reg (.one ⟨some s17, none, (.mv (.c (.v (.int .i64 0))))⟩
    .done))
  (.seq (.seq (.reg (.one ⟨some s43, none, (.mv (.t s4))⟩
    (.one ⟨some s44, none, (.callq 13 [(.c (.v (.bool true))), (.t s43)])⟩
    (.one ⟨some s45, none, (.bin false .gtr (.t s44) (.c (.v (.int .i64 0))))⟩
    .done))))
  (.cond (.t s45) (.reg (.one ⟨some s46, none, (.mv (.t s4))⟩
    (.one ⟨some s47, none, (.callq 13 [(.c (.v (.bool true))), (.t s46)])⟩
    (.one ⟨some s48, none, (.bin false .add (.t s47) (.c (.v (.int .i64 1))))⟩
    (.one ⟨some s17, none, (.mv (.t s48))⟩
    .done))))) .skip))
  (.seq (.reg (.one ⟨some s49, none, (.callq 9 [])⟩
    (.one ⟨some s50, none, (.mv (.t s49))⟩
    (.one ⟨some s51, some (s50, true), (.load (some 7) (.t s11))⟩
    (.one ⟨some s53, some (s50, true), (.load (some 7) (.t s14))⟩
    (.one ⟨some s52, some (s50, true), (.callq 12 [(.t s51)])⟩
    (.one ⟨some s54, some (s50, true), (.callq 14 [(.t s52), (.t s53)])⟩
    (.one ⟨some s55, none, (.pick (.t s50) (.t s54) (.c (.v (.bool false))))⟩
    (.one ⟨some s56, none, (.mv (.t s55))⟩
    (.one ⟨some s57, some (s56, true), (.mv (.t s12))⟩
    (.one ⟨some s58, some (s56, true), (.mv (.t s15))⟩
    (.one ⟨some s59, some (s56, true), (.bin false .eql (.t s57) (.t s58))⟩
    (.one ⟨some s60, none, (.pick (.t s56) (.t s59) (.c (.v (.bool false))))⟩
    (.one ⟨some s61, none, (.mv (.t s60))⟩
    (.one ⟨some s62, some (s61, true), (.mv (.t s13))⟩
    (.one ⟨some s63, some (s61, true), (.mv (.t s16))⟩
    (.one ⟨some s64, some (s61, true), (.bin false .eql (.t s62) (.t s63))⟩
    (.one ⟨some s65, none, (.pick (.t s61) (.t s64) (.c (.v (.bool false))))⟩
    (.one ⟨some s66, none, (.mv (.t s65))⟩
    (.one ⟨some s67, some (s66, true), (.mv (.t s4))⟩
    (.one ⟨some s69, some (s66, true), (.mv (.t s17))⟩
    (.one ⟨some s68, some (s66, true), (.callq 15 [(.t s67)])⟩
    (.one ⟨some s70, some (s66, true), (.bin false .eql (.t s68) (.t s69))⟩
    (.one ⟨some s71, none, (.pick (.t s66) (.t s70) (.c (.v (.bool false))))⟩
    (.one ⟨some s10, none, (.mv (.t s71))⟩
    .done)))))))))))))))))))))))))
  .ret)))))))⟩
theorem ok3 : compF Try.prog c3 Try.f3 = some ir3 := by kernel_rfl
theorem k_bowlinelaw20_ResegCuts {args : List AVal} {σ : AHeap} {Q : AVal → AHeap → Prop} (hl : Nat.ble args.length 72 = true) (h : argsK (Env.full 9) 0 args fun env => evC Try.prog c3 ir3.body env σ (retQ ir3 Q)) : ACalls Try.prog 3 args σ Q :=
  acalls_of Try.func3 ok3 rfl (Nat.le_of_ble_eq_true hl) h
/- bowlinelaw20.ResegFits -/
def c4 : Cfg := ⟨qs, [], 135, [], ps⟩
def ir4 : IFun := ⟨5, [.tmp s10],
  (.seq (.reg (.one ⟨some s5, none, (.box 7 (.t s0))⟩
    (.one ⟨some s10, none, (.mv (.c (.v (.bool false))))⟩
    .done)))
  (.seq (.seq (.reg (.one ⟨some s16, none, (.faddr 6 (.t s5))⟩
    (.one ⟨some s17, none, (.load none (.t s16))⟩
    (.one ⟨some s18, none, (.callq 8 [(.t s17)])⟩
    .done))))
  (.cond (.t s18) (.seq (.reg (.one ⟨some s19, none, (.callq 9 [])⟩
    (.one ⟨some s10, none, (.mv (.t s19))⟩
    .done)))
  .ret) .skip))
  (.seq (.reg (.one ⟨some s21, none, (.load (some 7) (.t s5))⟩
    (.one ⟨some s22, none, (.mv (.t s1))⟩
    (.one ⟨some s23, none, (.mv (.t s2))⟩
    (.one ⟨some s24, none, (.mv (.t s3))⟩
    (.one ⟨some s25, none, (.mv (.t s4))⟩
    (.one ⟨some s26, none, (.callq 10 [(.t s21), (.t s22), (.t s23), (.t s24), (.t s25)])⟩
    (.one ⟨some s20, none, (.mv (.t s26))⟩
    (.one ⟨some s27, none, (.ext (.t s20) 0)⟩
    (.one ⟨some s28, none, (.ext (.t s20) 1)⟩
    (.one ⟨some s29, none, (.ext (.t s20) 2)⟩
    (.one ⟨some s11, none, (.new [(.v (.bool false)), (.v (.int .i64 0)), (.v (.int .i64 0)), (.v (.bool false)), (.v (.bool false)), (.v (.int .i64 0)), (.slice 1 [] .full)])⟩
    (.one ⟨none, none, (.store 7 (.t s11) (.t s27))⟩
    (.one ⟨some s12, none, (.mv (.t s28))⟩
    (.one ⟨some s13, none, (.mv (.t s29))⟩
    .done)))))))))))))))
  (.seq (.seq (.reg (.one ⟨some s30, none, (.mv (.t s13))⟩
    (.one ⟨some s31, none, (.bin false .neq (.t s30) (.c (.v (.int .i64 0))))⟩
    .done)))
  (.cond (.t s31) (.seq (.reg (.one ⟨some s32, none, (.callq 9 [])⟩
    (.one ⟨some s33, none, (.mv (.t s32))⟩
    (.one ⟨some s34, some (s33, true), (.mv (.t s12))⟩
    (.one ⟨some s35, some (s33, true), (.bin false .eql (.t s34) (.c (.v (.int .i64 0))))⟩
    (.one ⟨some s36, none, (.pick (.t s33) (.t s35) (.c (.v (.bool false))))⟩
    (.one ⟨some s37, none, (.mv (.t s36))⟩
    (.one ⟨some s38, some (s37, true), (.faddr 6 (.t s11))⟩
    (.one ⟨some s39, some (s37, true), (.load none (.t s38))⟩
    (.one ⟨some s40, some (s37, true), (.len false (.t s39))⟩
    (.one ⟨some s41, some (s37, true), (.bin false .eql (.t s40) (.c (.v (.int .i64 0))))⟩
    (.one ⟨some s42, none, (.pick (.t s37) (.t s41) (.c (.v (.bool false))))⟩
    (.one ⟨some s43, none, (.mv (.t s42))⟩
    (.one ⟨some s44, some (s43, true), (.mv (.t s13))⟩
    (.one ⟨some s45, some (s43, true), (.bin false .neq (.t s44) (.c (.v (.int .i64 16))))⟩
    (.one ⟨some s46, some (s43, true), (.mv (.t s45))⟩
    (.one ⟨some s47, some (s46, false), (.mv (.t s3))⟩
    (.one ⟨some s48, some (s46, false), (.mv (.t s4))⟩
    (.one ⟨some s49, some (s46, false), (.callq 15 [(.t s48)])⟩
    (.one ⟨some s50, some (s46, false), (.bin false .lss (.t s47) (.t s49))⟩
    (.one ⟨some s51, some (s43, true), (.pick (.t s46) (.c (.v (.bool true))) (.t s50))⟩
    (.one ⟨some s52, none, (.pick (.t s43) (.t s51) (.c (.v (.bool false))))⟩
    (.one ⟨some s10, none, (.mv (.t s52))⟩
    .done)))))))))))))))))))))))
  .ret) .skip))
  (.seq (.reg (.one ⟨some s53, none, (.load (some 7) (.t s11))⟩
    (.one ⟨some s54, none, (.mv (.t s4))⟩
    (.one ⟨some s55, none, (.callq 16 [(.t s53), (.t s54)])⟩
    (.one ⟨some s14, none, (.mv (.t s55))⟩
    .done)))))
  (.seq (.reg (.one ⟨some s56, none, (.load (some 7) (.t s5))⟩
    (.one ⟨some s57, none, (.callq 17 [(.t s56)])⟩
    (.one ⟨some s15, none, (.mv (.t s57))⟩
    .done))))
  (.seq (.seq (.reg (.one ⟨some s58, none, (.mv (.t s14))⟩
    (.one ⟨some s59, none, (.bin false .eql (.t s58) (.c (.v (.int .i64 0))))⟩
    (.one ⟨some s60, none, (.mv (.t s59))⟩
    (.one ⟨some s61, some (s60, false), (.mv (.t s14))⟩
    (.one ⟨some s62, some (s60, false), (.mv (.t s3))⟩
    (.one ⟨some s63, some (s60, false), (.bin false .gtr (.t s61) (.t s62))⟩
    (.one ⟨some s64, none, (.pick (.t s60) (.c (.v (.bool true))) (.t s63))⟩
    (.one ⟨some s65, none, (.mv (.t s64))⟩
    (.one ⟨some s66, some (s65, false), (.mv (.t s12))⟩
    (.one ⟨some s67, some (s65, false), (.mv (.t s1))⟩
    (.one ⟨some s68, some (s65, false), (.bin false .leq (.t s66) (.t s67))⟩
    (.one ⟨some s69, none, (.pick (.t s65) (.c (.v (.bool true))) (.t s68))⟩
    (.one ⟨some s70, none, (.mv (.t s69))⟩
    (.one ⟨some s71, some (s70, false), (.mv (.t s12))⟩
    (.one ⟨some s72, some (s70, false), (.mv (.t s2))⟩
    (.one ⟨some s73, some (s70, false), (.bin false .gtr (.t s71) (.t s72))⟩
    (.one ⟨some s74, none, (.pick (.t s70) (.c (.v (.bool true))) (.t s73))⟩
    (.one ⟨some s75, none, (.mv (.t s74))⟩
    (.one ⟨some s76, some (s75, false), (.mv (.t s15))⟩
    (.one ⟨some s77, some (s75, false), (.len false (.t s76))⟩
    (.one ⟨some s78, some (s75, false), (.mv (.t s12))⟩
    (.one ⟨some s79, some (s75, false), (.bin false .lss (.t s77) (.t s78))⟩
    (.one ⟨some s80, none, (.pick (.t s75) (.c (.v (.bool true))) (.t s79))⟩
    (.one ⟨some s81, none, (.mv (.t s80))⟩
    (.one ⟨some s82, some (s81, false), (.load (some 7) (.t s11))⟩
    (.one ⟨some s85, some (s81, false), (.mv (.t s15))⟩
    (.one ⟨some s86, some (s81, false), (.mv (.t s1))⟩
    (.one ⟨some s87, some (s81, false), (.mv (.t s12))⟩
    (.one ⟨some s88, some (s81, false), (.cut 1 (.t s85) (some (.t s86)) (some (.t s87)) none)⟩
    (.one ⟨some s89, some (s81, false), (.b2s (.t s88))⟩
    (.one ⟨some s83, some (s81, false), (.callq 17 [(.t s82)])⟩
    (.one ⟨some s84, some (s81, false), (.b2s (.t s83))⟩
    (.one ⟨some s90, some (s81, false), (.bin false .neq (.t s84) (.t s89))⟩
    (.one ⟨some s91, none, (.pick (.t s81) (.c (.v (.bool true))) (.t s90))⟩
    .done)))))))))))))))))))))))))))))))))))
  (.cond (.t s91) (.seq (.reg (.one ⟨some s10, none, (.mv (.c (.v (.bool false))))⟩
    .done))
  .ret) .skip))
  (.seq (.reg (.one ⟨some s92, none, (.callq 9 [])⟩
    (.one ⟨some s93, none, (.mv (.t s92))⟩
    (.one ⟨some s94, some (s93, true), (.faddr 2 (.t s11))⟩
    (.one ⟨some s95, some (s93, true), (.load none (.t s94))⟩
    (.one ⟨some s96, some (s93, true), (.faddr 2 (.t s5))⟩
    (.one ⟨some s97, some (s93, true), (.load none (.t s96))⟩
    (.one ⟨some s98, some (s93, true), (.bin false .eql (.t s95) (.t s97))⟩
    (.one ⟨some s99, none, (.pick (.t s93) (.t s98) (.c (.v (.bool false))))⟩
    (.one ⟨some s100, none, (.mv (.t s99))⟩
    (.one ⟨some s101, some (s100, true), (.faddr 3 (.t s11))⟩
    (.one ⟨some s102, some (s100, true), (.load none (.t s101))⟩
    (.one ⟨some s103, some (s100, true), (.mv (.t s102))⟩
    (.one ⟨some s104, some (s103, false), (.mv (.t s1))⟩
    (.one ⟨some s105, some (s103, false), (.bin false .eql (.t s104) (.c (.v (.int .i64 0))))⟩
    (.one ⟨some s106, some (s103, false), (.mv (.t s105))⟩
    (.one ⟨some s107, some (s106, true), (.mv (.t s12))⟩
    (.one ⟨some s108, some (s106, true), (.mv (.t s15))⟩
    (.one ⟨some s109, some (s106, true), (.len false (.t s108))⟩
    (.one ⟨some s110, some (s106, true), (.bin false .eql (.t s107) (.t s109))⟩
    (.one ⟨some s111, some (s103, false), (.pick (.t s106) (.t s110) (.c (.v (.bool false))))⟩
    (.one ⟨some s112, some (s103, false), (.mv (.t s111))⟩
    (.one ⟨some s113, some (s112, true), (.faddr 1 (.t s11))⟩
    (.one ⟨some s114, some (s112, true), (.load none (.t s113))⟩
    (.one ⟨some s115, some (s112, true), (.faddr 1 (.t s5))⟩
    (.one ⟨some s116, some (s112, true), (.load none (.t s115))⟩
    (.one ⟨some s117, some (s112, true), (.bin false .eql (.t s114) (.t s116))⟩
    (.one ⟨some s118, some (s103, false), (.pick (.t s112) (.t s117) (.c (.v (.bool false))))⟩
    (.one ⟨some s119, some (s100, true), (.pick (.t s103) (.c (.v (.bool true))) (.t s118))⟩
    (.one ⟨some s120, none, (.pick (.t s100) (.t s119) (.c (.v (.bool false))))⟩
    (.one ⟨some s121, none, (.mv (.t s120))⟩
    (.one ⟨some s122, some (s121, true), (.faddr 3 (.t s11))⟩
    (.one ⟨some s123, some (s121, true), (.load none (.t s122))⟩
    (.one ⟨some s124, some (s121, true), (.not (.t s123))⟩
    (.one ⟨some s125, some (s121, true), (.mv (.t s124))⟩
    (.one ⟨some s126, some (s125, false), (.faddr 4 (.t s11))⟩
    (.one ⟨some s127, some (s125, false), (.load none (.t s126))⟩
    (.one ⟨some s128, some (s125, false), (.mv (.t s12))⟩
    (.one ⟨some s129, some (s125, false), (.mv (.t s15))⟩
    (.one ⟨some s130, some (s125, false), (.len false (.t s129))⟩
    (.one ⟨some s131, some (s125, false), (.bin false .eql (.t s128) (.t s130))⟩
    (.one ⟨some s132, some (s125, false), (.bin true .eql (.t s127) (.t s131))⟩
    (.one ⟨some s133, some (s121, true), (.pick (.t s125) (.c (.v (.bool true))) (.t s132))⟩
    (.one ⟨some s134, none, (.pick (.t s121) (.t s133) (.c (.v (.bool false))))⟩
    (.one ⟨some s10, none, (.mv (.t s134))⟩
    .done)))))))))))))))))))))))))))))))))))))))))))))
  .ret))))))))⟩
theorem ok4 : compF Try.prog c4 Try.f4 = some ir4 := by kernel_rfl
theorem k_bowlinelaw20_ResegFits {args : List AVal} {σ : AHeap} {Q : AVal → AHeap → Prop} (hl : Nat.ble args.length 135 = true) (h : argsK (Env.full 9) 0 args fun env => evC Try.prog c4 ir4.body env σ (retQ ir4 Q)) : ACalls Try.prog 4 args σ Q :=
  acalls_of Try.func4 ok4 rfl (Nat.le_of_ble_eq_true hl) h
/- bowlinelaw20.ResegSame -/
def c5 : Cfg := ⟨qs, [], 94, [], ps⟩
def ir5 : IFun := ⟨2, [.tmp s4],
  (.seq (.reg (.one ⟨some s2, none, (.box 7 (.t s0))⟩
    (.one ⟨some s4, none, (.mv (.c (.v (.bool false))))⟩
    .done)))
  (.seq (.seq (.reg (.one ⟨some s14, none, (.faddr 6 (.t s2))⟩
    (.one ⟨some s15, none, (.load none (.t s14))⟩
    (.one ⟨some s16, none, (.callq 8 [(.t s15)])⟩
    (.one ⟨some s17, none, (.mv (.t s16))⟩
    (.one ⟨some s18, some (s17, false), (.faddr 3 (.t s2))⟩
    (.one ⟨some s19, some (s17, false), (.load none (.t s18))⟩
    (.one ⟨some s20, none, (.pick (.t s17) (.c (.v (.bool true))) (.t s19))⟩
    (.one ⟨some s21, none, (.mv (.t s20))⟩
    (.one ⟨some s22, some (s21, false), (.load (some 7) (.t s2))⟩
    (.one ⟨some s23, some (s21, false), (.mv (.t s1))⟩
    (.one ⟨some s24, some (s21, false), (.callq 18 [(.t s22), (.t s23)])⟩
    (.one ⟨some s25, some (s21, false), (.not (.t s24))⟩
    (.one ⟨some s26, none, (.pick (.t s21) (.c (.v (.bool true))) (.t s25))⟩
    .done))))))))))))))
  (.cond (.t s26) (.seq (.reg (.one ⟨some s27, none, (.callq 9 [])⟩
    (.one ⟨some s4, none, (.mv (.t s27))⟩
    .done)))
  .ret) .skip))
  (.seq (.reg (.one ⟨some s28, none, (.load (some 7) (.t s2))⟩
    (.one ⟨some s29, none, (.mv (.t s1))⟩
    (.one ⟨some s31, none, (.load (some 7) (.t s2))⟩
    (.one ⟨some s30, none, (.callq 16 [(.t s28), (.t s29)])⟩
    (.one ⟨some s32, none, (.callq 17 [(.t s31)])⟩
    (.one ⟨some s33, none, (.len false (.t s32))⟩
    (.one ⟨some s5, none, (.mv (.t s30))⟩
    (.one ⟨some s6, none, (.mv (.t s33))⟩
    .done)))))))))
  (.seq (.reg (.one ⟨some s35, none, (.load (some 7) (.t s2))⟩
    (.one ⟨some s36, none, (.mv (.t s6))⟩
    (.one ⟨some s37, none, (.mv (.t s5))⟩
    (.one ⟨some s38, none, (.mv (.t s1))⟩
    (.one ⟨some s39, none, (.callq 10 [(.t s35), (.c (.v (.int .i64 0))), (.t s36), (.t s37), (.t s38)])⟩
    (.one ⟨some s34, none, (.mv (.t s39))⟩
    (.one ⟨some s40, none, (.ext (.t s34) 0)⟩
    (.one ⟨some s41, none, (.ext (.t s34) 1)⟩
    (.one ⟨some s42, none, (.ext (.t s34) 2)⟩
    (.one ⟨some s7, none, (.new [(.v (.bool false)), (.v (.int .i64 0)), (.v (.int .i64 0)), (.v (.bool false)), (.v (.bool false)), (.v (.int .i64 0)), (.slice 1 [] .full)])⟩
    (.one ⟨none, none, (.store 7 (.t s7) (.t s40))⟩
    (.one ⟨some s8, none, (.mv (.t s41))⟩
    (.one ⟨some s9, none, (.mv (.t s42))⟩
    .done))))))))))))))
  (.seq (.reg (.one ⟨some s43, none, (.load (some 7) (.t s2))⟩
    (.one ⟨some s10, none, (.new [(.v (.bool false)), (.v (.int .i64 0)), (.v (.int .i64 0)), (.v (.bool false)), (.v (.bool false)), (.v (.int .i64 0)), (.slice 1 [] .full)])⟩
    (.one ⟨none, none, (.store 7 (.t s10) (.t s43))⟩
    .done))))
  (.seq (.reg (.one ⟨some s44, none, (.faddr 0 (.t s10))⟩
    (.one ⟨none, none, (.store 1 (.t s44) (.c (.v (.bool false))))⟩
    .done)))
  (.seq (.reg (.one ⟨some s46, none, (.load (some 7) (.t s2))⟩
    (.one ⟨some s47, none, (.mv (.t s6))⟩
    (.one ⟨some s48, none, (.mv (.t s5))⟩
    (.one ⟨some s49, none, (.bin false .sub (.t s48) (.c (.v (.int .i64 1))))⟩
    (.one ⟨some s50, none, (.mv (.t s1))⟩
    (.one ⟨some s51, none, (.callq 10 [(.t s46), (.c (.v (.int .i64 0))), (.t s47), (.t s49), (.t s50)])⟩
    (.one ⟨some s45, none, (.mv (.t s51))⟩
    (.one ⟨some s52, none, (.ext (.t s45) 0)⟩
    (.one ⟨some s53, none, (.ext (.t s45) 1)⟩
    (.one ⟨some s54, none, (.ext (.t s45) 2)⟩
    (.one ⟨some s11, none, (.new [(.v (.bool false)), (.v (.int .i64 0)), (.v (.int .i64 0)), (.v (.bool false)), (.v (.bool false)), (.v (.int .i64 0)), (.slice 1 [] .full)])⟩
    (.one ⟨none, none, (.store 7 (.t s11) (.t s52))⟩
    (.one ⟨some s12, none, (.mv (.t s53))⟩
    (.one ⟨some s13, none, (.mv (.t s54))⟩
    .done)))))))))))))))
  (.seq (.reg (.one ⟨some s55, none, (.callq 9 [])⟩
    (.one ⟨some s56, none, (.mv (.t s55))⟩
    (.one ⟨some s57, some (s56, true), (.mv (.t s9))⟩
    (.one ⟨some s58, some (s56, true), (.bin false .eql (.t s57) (.c (.v (.int .i64 0))))⟩
    (.one ⟨some s59, none, (.pick (.t s56) (.t s58) (.c (.v (.bool false))))⟩
    (.one ⟨some s60, none, (.mv (.t s59))⟩
    (.one ⟨some s61, some (s60, true), (.mv (.t s8))⟩
    (.one ⟨some s62, some (s60, true), (.mv (.t s6))⟩
    (.one ⟨some s63, some (s60, true), (.bin false .eql (.t s61) (.t s62))⟩
    (.one ⟨some s64, none, (.pick (.t s60) (.t s63) (.c (.v (.bool false))))⟩
    (.one ⟨some s65, none, (.mv (.t s64))⟩
    (.one ⟨some s66, some (s65, true), (.load (some 7) (.t s7))⟩
    (.one ⟨some s67, some (s65, true), (.load (some 7) (.t s10))⟩
    (.one ⟨some s68, some (s65, true), (.callq 19 [(.t s66), (.t s67)])⟩
    (.one ⟨some s69, none, (.pick (.t s65) (.t s68) (.c (.v (.bool false))))⟩
    (.one ⟨some s70, none, (.mv (.t s69))⟩
    (.one ⟨some s71, some (s70, true), (.mv (.t s13))⟩
    (.one ⟨some s72, some (s70, true), (.bin false .eql (.t s71) (.c (.v (.int .i64 0))))⟩
    (.one ⟨some s73, some (s70, true), (.mv (.t s72))⟩
    (.one ⟨some s74, some (s73, true), (.faddr 3 (.t s11))⟩
    (.one ⟨some s75, some (s73, true), (.load none (.t s74))⟩
    (.one ⟨some s76, some (s70, true), (.pick (.t s73) (.t s75) (.c (.v (.bool false))))⟩
    (.one ⟨some s77, some (s70, true), (.mv (.t s76))⟩
    (.one ⟨some s78, some (s77, true), (.mv (.t s12))⟩
    (.one ⟨some s79, some (s77, true), (.mv (.t s6))⟩
    (.one ⟨some s80, some (s77, true), (.bin false .lss (.t s78) (.t s79))⟩
    (.one ⟨some s81, some (s70, true), (.pick (.t s77) (.t s80) (.c (.v (.bool false))))⟩
    (.one ⟨some s82, some (s70, true), (.mv (.t s81))⟩
    (.one ⟨some s83, some (s82, false), (.mv (.t s13))⟩
    (.one ⟨some s84, some (s82, false), (.bin false .eql (.t s83) (.c (.v (.int .i64 16))))⟩
    (.one ⟨some s85, some (s82, false), (.mv (.t s84))⟩
    (.one ⟨some s86, some (s85, true), (.mv (.t s5))⟩
    (.one ⟨some s87, some (s85, true), (.bin false .sub (.t s86) (.c (.v (.int .i64 1))))⟩
    (.one ⟨some s88, some (s85, true), (.mv (.t s1))⟩
    (.one ⟨some s89, some (s85, true), (.callq 15 [(.t s88)])⟩
    (.one ⟨some s90, some (s85, true), (.bin false .lss (.t s87) (.t s89))⟩
    (.one ⟨some s91, some (s82, false), (.pick (.t s85) (.t s90) (.c (.v (.bool false))))⟩
    (.one ⟨some s92, some (s70, true), (.pick (.t s82) (.c (.v (.bool true))) (.t s91))⟩
    (.one ⟨some s93, none, (.pick (.t s70) (.t s92) (.c (.v (.bool false))))⟩
    (.one ⟨some s4, none, (.mv (.t s93))⟩
    .done)))))))))))))))))))))))))))))))))))))))))
  .ret))))))))⟩
theorem ok5 : compF Try.prog c5 Try.f5 = some ir5 := by kernel_rfl
theorem k_bowlinelaw20_ResegSame {args : List AVal} {σ : AHeap} {Q : AVal → AHeap → Prop} (hl : Nat.ble args.length 94 = true) (h : argsK (Env.full 9) 0 args fun env => evC Try.prog c5 ir5.body env σ (retQ ir5 Q)) : ACalls Try.prog 5 args σ Q :=
  acalls_of Try.func5 ok5 rfl (Nat.le_of_ble_eq_true hl) h
/- bowlinelaw20.ResegWhole -/
def c6 : Cfg := ⟨qs, [], 169, [], ps⟩
def ir6 : IFun := ⟨4, [.tmp s8],
  (.seq (.reg (.one ⟨some s4, none, (.box 7 (.t s0))⟩
    (.one ⟨some s8, none, (.mv (.c (.v (.bool false))))⟩
    .done)))
  (.seq (.seq (.reg (.one ⟨some s23, none, (.faddr 6 (.t s4))⟩
    (.one ⟨some s24, none, (.load none (.t s23))⟩
    (.one ⟨some s25, none, (.callq 8 [(.t s24)])⟩
    (.one ⟨some s26, none, (.mv (.t s25))⟩
    (.one ⟨some s27, some (s26, false), (.faddr 3 (.t s4))⟩
    (.one ⟨some s28, some (s26, false), (.load none (.t s27))⟩
    (.one ⟨some s29, none, (.pick (.t s26) (.c (.v (.bool true))) (.t s28))⟩
    (.one ⟨some s30, none, (.mv (.t s29))⟩
    (.one ⟨some s31, some (s30, false), (.load (some 7) (.t s4))⟩
    (.one ⟨some s32, some (s30, false), (.mv (.t s2))⟩
    (.one ⟨some s33, some (s30, false), (.callq 18 [(.t s31), (.t s32)])⟩
    (.one ⟨some s34, some (s30, false), (.not (.t s33))⟩
    (.one ⟨some s35, none, (.pick (.t s30) (.c (.v (.bool true))) (.t s34))⟩
    (.one ⟨some s36, none, (.mv (.t s35))⟩
    (.one ⟨some s37, some (s36, false), (.mv (.t s1))⟩
    (.one ⟨some s38, some (s36, false), (.len false (.t s37))⟩
    (.one ⟨some s39, some (s36, false), (.bin false .eql (.t s38) (.c (.v (.int .i64 0))))⟩
    (.one ⟨some s40, none, (.pick (.t s36) (.c (.v (.bool true))) (.t s39))⟩
    (.one ⟨some s41, none, (.mv (.t s40))⟩
    (.one ⟨some s42, some (s41, false), (.mv (.t s3))⟩
    (.one ⟨some s43, some (s41, false), (.len false (.t s42))⟩
    (.one ⟨some s44, some (s41, false), (.bin false .gtr (.t s43) (.c (.v (.int .i64 500))))⟩
    (.one ⟨some s45, none, (.pick (.t s41) (.c (.v (.bool true))) (.t s44))⟩
    .done))))))))))))))))))))))))
  (.cond (.t s45) (.seq (.reg (.one ⟨some s46, none, (.callq 9 [])⟩
    (.one ⟨some s8, none, (.mv (.t s46))⟩
    .done)))
  .ret) .skip))
  (.seq (.reg (.one ⟨some s47, none, (.callq 20 [])⟩
    (.one ⟨some s48, none, (.callq 20 [])⟩
    (.one ⟨some s9, none, (.mv (.t s47))⟩
    (.one ⟨some s10, none, (.mv (.t s48))⟩
    .done)))))
  (.seq (.seq (.reg (.one ⟨some s49, none, (.mv (.t s3))⟩
    (.one ⟨some s50, none, (.len false (.t s49))⟩
    (.one ⟨some s51, none, (.bin false .gtr (.t s50) (.c (.v (.int .i64 0))))⟩
    .done))))
  (.cond (.t s51) (.seq (.reg (.one ⟨some s52, none, (.mv (.t s9))⟩
    (.one ⟨some s53, none, (.mv (.t s3))⟩
    (.one ⟨some s54, none, (.row 1 [(.t s53)])⟩
    (.one ⟨some s55, none, (.call 21 [(.t s52), (.c (.v (.int .i64 1))), (.t s54), (.c (.v (.bool false)))])⟩
    .done)))))
  (.reg (.one ⟨some s56, none, (.mv (.t s10))⟩
    (.one ⟨some s57, none, (.mv (.t s3))⟩
    (.one ⟨some s58, none, (.row 1 [(.t s57)])⟩
    (.one ⟨some s59, none, (.call 21 [(.t s56), (.c (.v (.int .i64 1))), (.t s58), (.c (.v (.bool false)))])⟩
    .done)))))) .skip))
  (.seq (.reg (.one ⟨some s61, none, (.mv (.t s9))⟩
    (.one ⟨some s62, none, (.faddr 1 (.t s4))⟩
    (.one ⟨some s63, none, (.load none (.t s62))⟩
    (.one ⟨some s64, none, (.faddr 6 (.t s4))⟩
    (.one ⟨some s65, none, (.load none (.t s64))⟩
    (.one ⟨some s66, none, (.call 21 [(.t s61), (.t s63), (.t s65), (.c (.v (.bool false)))])⟩
    (.one ⟨some s60, none, (.mv (.t s66))⟩
    (.one ⟨some s67, none, (.ext (.t s60) 0)⟩
    (.one ⟨some s68, none, (.ext (.t s60) 1)⟩
    (.one ⟨some s11, none, (.mv (.t s67))⟩
    (.one ⟨some s12, none, (.mv (.t s68))⟩
    .done))))))))))))
  (.seq (.reg (.one ⟨some s69, none, (.load (some 7) (.t s4))⟩
    (.one ⟨some s70, none, (.callq 17 [(.t s69)])⟩
    (.one ⟨some s71, none, (.len false (.t s70))⟩
    (.one ⟨some s13, none, (.mv (.t s71))⟩
    .done)))))
  (.seq (.seq (.reg (.one ⟨some s72, none, (.mv (.t s12))⟩
    (.one ⟨some s73, none, (.bin false .neq (.t s72) (.c (.v (.int .i64 0))))⟩
    (.one ⟨some s74, none, (.mv (.t s73))⟩
    (.one ⟨some s75, some (s74, false), (.mv (.t s13))⟩
    (.one ⟨some s76, some (s74, false), (.bin false .eql (.t s75) (.c (.v (.int .i64 0))))⟩
    (.one ⟨some s77, none, (.pick (.t s74) (.c (.v (.bool true))) (.t s76))⟩
    .done)))))))
  (.cond (.t s77) (.seq (.reg (.one ⟨some s8, none, (.mv (.c (.v (.bool false))))⟩
    .done))
  .ret) .skip))
  (.seq (.seq (.reg (.one ⟨some s78, none, (.mv (.t s13))⟩
    (.one ⟨some s79, none, (.mv (.t s3))⟩
    (.one ⟨some s80, none, (.len false (.t s79))⟩
    (.one ⟨some s81, none, (.bin false .sub (.c (.v (.int .i64 1000))) (.t s80))⟩
    (.one ⟨some s82, none, (.bin false .gtr (.t s78) (.t s81))⟩
    .done))))))
  (.cond (.t s82) (.seq (.reg (.one ⟨some s83, none, (.callq 9 [])⟩
    (.one ⟨some s8, none, (.mv (.t s83))⟩
    .done)))
  .ret) .skip))
  (.seq (.reg (.one ⟨some s14, none, (.mv (.c (.slice 1 [] .full)))⟩
    .done))
  (.seq (.reg (.one ⟨some s15, none, (.mv (.c (.v (.int .i64 0))))⟩
    .done))
  (.seq (.seq (.reg (.one ⟨some s16, none, (.mv (.c (.v (.int .i64 0))))⟩
    .done))
  (.block 0 (.loop (.seq (.seq (.reg (.one ⟨some s84, none, (.mv (.t s15))⟩
    (.one ⟨some s85, none, (.mv (.t s13))⟩
    (.one ⟨some s86, none, (.bin false .lss (.t s84) (.t s85))⟩
    .done))))
  (.cond (.t s86) .skip (.exit 0)))
  (.seq (.block 1 (.seq (.reg (.one ⟨some s90, none, (.load (some 7) (.t s4))⟩
    (.one ⟨some s91, none, (.mv (.t s15))⟩
    (.one ⟨some s92, none, (.mv (.t s13))⟩
    (.one ⟨some s93, none, (.mv (.t s2))⟩
    (.one ⟨some s95, none, (.mv (.t s1))⟩
    (.one ⟨some s96, none, (.mv (.t s16))⟩
    (.one ⟨some s97, none, (.mv (.t s1))⟩
    (.one ⟨some s98, none, (.len false (.t s97))⟩
    (.one ⟨some s99, none, (.bin false .rem (.t s96) (.t s98))⟩
    (.one ⟨some s100, none, (.iaddr 1 (.t s95) (.t s99))⟩
    (.one ⟨some s101, none, (.load none (.t s100))⟩
    (.one ⟨some s102, none, (.conv .i64 (.t s101))⟩
    (.one ⟨some s103, none, (.bin false .rem (.t s102) (.c (.v (.int .i64 64))))⟩
    (.one ⟨some s105, none, (.mv (.t s2))⟩
    (.both (.one ⟨some s94, none, (.callq 15 [(.t s93)])⟩
    (.one ⟨some s104, none, (.bin false .add (.t s94) (.t s103))⟩
    (.both (.one ⟨some s106, none, (.callq 10 [(.t s90), (.t s91), (.t s92), (.t s104), (.t s105)])⟩
    (.one ⟨some s89, none, (.mv (.t s106))⟩
    (.one ⟨some s107, none, (.ext (.t s89) 0)⟩
    (.one ⟨some s108, none, (.ext (.t s89) 1)⟩
    (.one ⟨some s109, none, (.ext (.t s89) 2)⟩
    (.one ⟨some s17, none, (.new [(.v (.bool false)), (.v (.int .i64 0)), (.v (.int .i64 0)), (.v (.bool false)), (.v (.bool false)), (.v (.int .i64 0)), (.slice 1 [] .full)])⟩
    (.one ⟨none, none, (.store 7 (.t s17) (.t s107))⟩
    (.one ⟨some s18, none, (.mv (.t s108))⟩
    (.one ⟨some s19, none, (.mv (.t s109))⟩
    .done))))))))) (.one ⟨some s17, none, (.new [(.v (.bool false)), (.v (.int .i64 0)), (.v (.int .i64 0)), (.v (.bool false)), (.v (.bool false)), (.v (.int .i64 0)), (.slice 1 [] .full)])⟩
    (.one ⟨some s106, none, (.callq 10 [(.t s90), (.t s91), (.t s92), (.t s104), (.t s105)])⟩
    (.one ⟨some s89, none, (.mv (.t s106))⟩
    (.one ⟨some s107, none, (.ext (.t s89) 0)⟩
    (.one ⟨some s108, none, (.ext (.t s89) 1)⟩
    (.one ⟨some s109, none, (.ext (.t s89) 2)⟩
    (.one ⟨none, none, (.store 7 (.t s17) (.t s107))⟩
    (.one ⟨some s18, none, (.mv (.t s108))⟩
    (.one ⟨some s19, none, (.mv (.t s109))⟩
    .done)))))))))))) (.one ⟨some s17, none, (.new [(.v (.bool false)), (.v (.int .i64 0)), (.v (.int .i64 0)), (.v (.bool false)), (.v (.bool false)), (.v (.int .i64 0)), (.slice 1 [] .full)])⟩
    (.one ⟨some s94, none, (.callq 15 [(.t s93)])⟩
    (.one ⟨some s104, none, (.bin false .add (.t s94) (.t s103))⟩
    (.one ⟨some s106, none, (.callq 10 [(.t s90), (.t s91), (.t s92), (.t s104), (.t s105)])⟩
    (.one ⟨some s89, none, (.mv (.t s106))⟩
    (.one ⟨some s107, none, (.ext (.t s89) 0)⟩
    (.one ⟨some s108, none, (.ext (.t s89) 1)⟩
    (.one ⟨some s109, none, (.ext (.t s89) 2)⟩
    (.one ⟨none, none, (.store 7 (.t s17) (.t s107))⟩
    (.one ⟨some s18, none, (.mv (.t s108))⟩
    (.one ⟨some s19, none, (.mv (.t s109))⟩
    .done)))))))))))))))))))))))))))
  (.seq (.seq (.reg (.one ⟨some s110, none, (.mv (.t s19))⟩
    (.one ⟨some s111, none, (.bin false .neq (.t s110) (.c (.v (.int .i64 0))))⟩
    (.one ⟨some s112, none, (.mv (.t s111))⟩
    (.one ⟨some s113, some (s112, false), (.mv (.t s18))⟩
    (.one ⟨some s114, some (s112, false), (.mv (.t s15))⟩
    (.one ⟨some s115, some (s112, false), (.bin false .leq (.t s113) (.t s114))⟩
    (.one ⟨some s116, none, (.pick (.t s112) (.c (.v (.bool true))) (.t s115))⟩
    .done))))))))
  (.cond (.t s116) (.seq (.reg (.one ⟨some s8, none, (.mv (.c (.v (.bool false))))⟩
    .done))
  .ret) .skip))
  (.seq (.reg (.one ⟨some s118, none, (.mv (.t s10))⟩
    (.one ⟨some s119, none, (.faddr 1 (.t s17))⟩
    (.one ⟨some s120, none, (.load none (.t s119))⟩
    (.one ⟨some s121, none, (.faddr 6 (.t s17))⟩
    (.one ⟨some s122, none, (.load none (.t s121))⟩
    (.one ⟨some s123, none, (.call 21 [(.t s118), (.t s120), (.t s122), (.c (.v (.bool false)))])⟩
    (.one ⟨some s117, none, (.mv (.t s123))⟩
    (.one ⟨some s124, none, (.ext (.t s117) 0)⟩
    (.one ⟨some s125, none, (.ext (.t s117) 1)⟩
    (.one ⟨some s20, none, (.mv (.t s124))⟩
    (.one ⟨some s21, none, (.mv (.t s125))⟩
    .done))))))))))))
  (.seq (.seq (.reg (.one ⟨some s126, none, (.mv (.t s21))⟩
    (.one ⟨some s127, none, (.bin false .neq (.t s126) (.c (.v (.int .i64 0))))⟩
    .done)))
  (.cond (.t s127) (.seq (.reg (.one ⟨some s8, none, (.mv (.c (.v (.bool false))))⟩
    .done))
  .ret) .skip))
  (.seq (.reg (.one ⟨some s128, none, (.mv (.t s14))⟩
    (.one ⟨some s129, none, (.mv (.t s20))⟩
    (.one ⟨some s130, none, (.app 1 24 (.t s128) (.t s129))⟩
    (.one ⟨some s14, none, (.mv (.t s130))⟩
    .done)))))
  (.reg (.one ⟨some s131, none, (.mv (.t s18))⟩
    (.one ⟨some s15, none, (.mv (.t s131))⟩
    .done)))))))))
  (.reg (.one ⟨some s87, none, (.mv (.t s16))⟩
    (.one ⟨some s88, none, (.bin false .add (.t s87) (.c (.v (.int .i64 1))))⟩
    (.one ⟨some s16, none, (.mv (.t s88))⟩
    .done)))))))))
  (.seq (.seq (.reg (.one ⟨some s132, none, (.mv (.t s14))⟩
    (.one ⟨some s133, none, (.len false (.t s132))⟩
    (.one ⟨some s134, none, (.mv (.t s11))⟩
    (.one ⟨some s135, none, (.len false (.t s134))⟩
    (.one ⟨some s136, none, (.bin false .neq (.t s133) (.t s135))⟩
    (.one ⟨some s137, none, (.mv (.t s136))⟩
    (.one ⟨some s138, some (s137, false), (.mv (.t s9))⟩
    (.one ⟨some s139, some (s137, false), (.callq 22 [(.t s138)])⟩
    (.one ⟨some s140, some (s137, false), (.mv (.t s10))⟩
    (.one ⟨some s141, some (s137, false), (.callq 22 [(.t s140)])⟩
    (.one ⟨some s142, some (s137, false), (.bin false .neq (.t s139) (.t s141))⟩
    (.one ⟨some s143, none, (.pick (.t s137) (.c (.v (.bool true))) (.t s142))⟩
    (.one ⟨some s144, none, (.mv (.t s143))⟩
    (.one ⟨some s145, some (s144, false), (.mv (.t s9))⟩
    (.one ⟨some s146, some (s144, false), (.callq 23 [(.t s145)])⟩
    (.one ⟨some s147, some (s144, false), (.mv (.t s10))⟩
    (.one ⟨some s148, some (s144, false), (.callq 23 [(.t s147)])⟩
    (.one ⟨some s149, some (s144, false), (.bin false .neq (.t s146) (.t s148))⟩
    (.one ⟨some s150, none, (.pick (.t s144) (.c (.v (.bool true))) (.t s149))⟩
    .done))))))))))))))))))))
  (.cond (.t s150) (.seq (.reg (.one ⟨some s8, none, (.mv (.c (.v (.bool false))))⟩
    .done))
  .ret) .skip))
  (.seq (.seq (.reg (.one ⟨some s22, none, (.mv (.c (.v (.int .i64 0))))⟩
    .done))
  (.block 2 (.loop (.seq (.seq (.reg (.one ⟨some s151, none, (.mv (.t s22))⟩
    (.one ⟨some s152, none, (.mv (.t s14))⟩
    (.one ⟨some s153, none, (.len false (.t s152))⟩
    (.one ⟨some s154, none, (.bin false .lss (.t s151) (.t s153))⟩
    .done)))))
  (.cond (.t s154) .skip (.exit 2)))
  (.seq (.block 3 (.seq (.reg (.one ⟨some s157, none, (.mv (.t s14))⟩
    (.one ⟨some s158, none, (.mv (.t s22))⟩
    (.one ⟨some s159, none, (.iaddr 1 (.t s157) (.t s158))⟩
    (.one ⟨some s160, none, (.load none (.t s159))⟩
    (.one ⟨some s161, none, (.b2s (.t s160))⟩
    (.one ⟨some s162, none, (.mv (.t s11))⟩
    (.one ⟨some s163, none, (.mv (.t s22))⟩
    (.one ⟨some s164, none, (.iaddr 1 (.t s162) (.t s163))⟩
    (.one ⟨some s165, none, (.load none (.t s164))⟩
    (.one ⟨some s166, none, (.b2s (.t s165))⟩
    (.one ⟨some s167, none, (.bin false .neq (.t s161) (.t s166))⟩
    .done))))))))))))
  (.cond (.t s167) (.seq (.reg (.one ⟨some s8, none, (.mv (.c (.v (.bool false))))⟩
    .done))
  .ret) .skip)))
  (.reg (.one ⟨some s155, none, (.mv (.t s22))⟩
    (.one ⟨some s156, none, (.bin false .add (.t s155) (.c (.v (.int .i64 1))))⟩
    (.one ⟨some s22, none, (.mv (.t s156))⟩
    .done)))))))))
  (.seq (.reg (.one ⟨some s168, none, (.callq 9 [])⟩
    (.one ⟨some s8, none, (.mv (.t s168))⟩
    .done)))
  .ret))))))))))))))⟩
theorem ok6 : compF Try.prog c6 Try.f6 = some ir6 := by kernel_rfl
theorem k_bowlinelaw20_ResegWhole {args : List AVal} {σ : AHeap} {Q : AVal → AHeap → Prop} (hl : Nat.ble args.length 169 = true) (h : argsK (Env.full 9) 0 args fun env => evC Try.prog c6 ir6.body env σ (retQ ir6 Q)) : ACalls Try.prog 6 args σ Q :=
  acalls_of Try.func6 ok6 rfl (Nat.le_of_ble_eq_true hl) h
/- bowlinelaw20.alive -/
def c9 : Cfg := ⟨qs, [], 107, [14, 16], ps⟩
def ir9 : IFun := ⟨0, [.tmp s0],
  (.seq (.reg (.one ⟨some s0, none, (.mv (.c (.v (.bool false))))⟩
    .done))
  (.seq (.reg (.one ⟨some s14, none, (.rowT 1 [(.c (.v (.int .u8 97))), (.c (.v (.int .u8 98)))])⟩
    (.one ⟨some s15, none, (.mark (.t s14))⟩
    (.one ⟨some s16, none, (.rowT 1 [(.c (.v (.int .u8 99))), (.c (.v (.int .u8 100)))])⟩
    (.one ⟨some s17, none, (.mark (.t s16))⟩
    (.one ⟨some s18, none, (.row 1 [(.t s15), (.t s17)])⟩
    (.one ⟨some s19, none, (.build [(.v (.bool false)), (.v (.int .i64 0)), (.v (.int .i64 0)), (.v (.bool false)), (.v (.bool false)), (.v (.int .i64 0)), (.slice 1 [] .full)] [(2, 1, (.c (.v (.int .i64 3)))), (6, 1, (.t s18))])⟩
    (.one ⟨some s1, none, (.new [(.v (.bool false)), (.v (.int .i64 0)), (.v (.int .i64 0)), (.v (.bool false)), (.v (.bool false)), (.v (.int .i64 0)), (.slice 1 [] .full)])⟩
    (.one ⟨none, none, (.store 7 (.t s1) (.t s19))⟩
    .done)))))))))
  (.seq (.reg (.one ⟨some s21, none, (.load (some 7) (.t s1))⟩
    (.one ⟨some s22, none, (.callq 10 [(.t s21), (.c (.v (.int .i64 1))), (.c (.v (.int .i64 4))), (.c (.v (.int .i64 9))), (.c (.v (.int .i64 10)))])⟩
    (.one ⟨some s20, none, (.mv (.t s22))⟩
    (.one ⟨some s23, none, (.ext (.t s20) 0)⟩
    (.one ⟨some s24, none, (.ext (.t s20) 1)⟩
    (.one ⟨some s25, none, (.ext (.t s20) 2)⟩
    (.one ⟨some s2, none, (.new [(.v (.bool false)), (.v (.int .i64 0)), (.v (.int .i64 0)), (.v (.bool false)), (.v (.bool false)), (.v (.int .i64 0)), (.slice 1 [] .full)])⟩
    (.one ⟨none, none, (.store 7 (.t s2) (.t s23))⟩
    (.one ⟨some s3, none, (.mv (.t s24))⟩
    (.one ⟨some s4, none, (.mv (.t s25))⟩
    .done)))))))))))
  (.seq (.reg (.one ⟨some s27, none, (.load (some 7) (.t s1))⟩
    (.one ⟨some s28, none, (.callq 10 [(.t s27), (.c (.v (.int .i64 0))), (.c (.v (.int .i64 4))), (.c (.v (.int .i64 8))), (.c (.v (.int .i64 10)))])⟩
    (.one ⟨some s26, none, (.mv (.t s28))⟩
    (.one ⟨some s29, none, (.ext (.t s26) 0)⟩
    (.one ⟨some s30, none, (.ext (.t s26) 1)⟩
    (.one ⟨some s31, none, (.ext (.t s26) 2)⟩
    (.one ⟨some s5, none, (.new [(.v (.bool false)), (.v (.int .i64 0)), (.v (.int .i64 0)), (.v (.bool false)), (.v (.bool false)), (.v (.int .i64 0)), (.slice 1 [] .full)])⟩
    (.one ⟨none, none, (.store 7 (.t s5) (.t s29))⟩
    (.one ⟨some s6, none, (.mv (.t s30))⟩
    (.one ⟨some s7, none, (.mv (.t s31))⟩
    .done)))))))))))
  (.seq (.reg (.one ⟨some s33, none, (.load (some 7) (.t s1))⟩
    (.one ⟨some s34, none, (.callq 10 [(.t s33), (.c (.v (.int .i64 1))), (.c (.v (.int .i64 4))), (.c (.v (.int .i64 4))), (.c (.v (.int .i64 10)))])⟩
    (.one ⟨some s32, none, (.mv (.t s34))⟩
    (.one ⟨some s35, none, (.ext (.t s32) 0)⟩
    (.one ⟨some s36, none, (.ext (.t s32) 1)⟩
    (.one ⟨some s37, none, (.ext (.t s32) 2)⟩
    (.one ⟨some s8, none, (.new [(.v (.bool false)), (.v (.int .i64 0)), (.v (.int .i64 0)), (.v (.bool false)), (.v (.bool false)), (.v (.int .i64 0)), (.slice 1 [] .full)])⟩
    (.one ⟨none, none, (.store 7 (.t s8) (.t s35))⟩
    (.one ⟨some s9, none, (.mv (.t s36))⟩
    (.one ⟨some s10, none, (.mv (.t s37))⟩
    .done)))))))))))
  (.seq (.reg (.one ⟨some s39, none, (.load (some 7) (.t s1))⟩
    (.one ⟨some s40, none, (.callq 10 [(.t s39), (.c (.v (.int .i64 4))), (.c (.v (.int .i64 4))), (.c (.v (.int .i64 9))), (.c (.v (.int .i64 10)))])⟩
    (.one ⟨some s38, none, (.mv (.t s40))⟩
    (.one ⟨some s41, none, (.ext (.t s38) 0)⟩
    (.one ⟨some s42, none, (.ext (.t s38) 1)⟩
    (.one ⟨some s43, none, (.ext (.t s38) 2)⟩
    (.one ⟨some s11, none, (.new [(.v (.bool false)), (.v (.int .i64 0)), (.v (.int .i64 0)), (.v (.bool false)), (.v (.bool false)), (.v (.int .i64 0)), (.slice 1 [] .full)])⟩
    (.one ⟨none, none, (.store 7 (.t s11) (.t s41))⟩
    (.one ⟨some s12, none, (.mv (.t s42))⟩
    (.one ⟨some s13, none, (.mv (.t s43))⟩
    .done)))))))))))
  (.seq (.reg (.one ⟨some s44, none, (.mv (.t s4))⟩
    (.one ⟨some s45, none, (.bin false .eql (.t s44) (.c (.v (.int .i64 0))))⟩
    (.one ⟨some s46, none, (.mv (.t s45))⟩
    (.one ⟨some s47, some (s46, true), (.mv (.t s3))⟩
    (.one ⟨some s48, some (s46, true), (.bin false .eql (.t s47) (.c (.v (.int .i64 4))))⟩
    (.one ⟨some s49, none, (.pick (.t s46) (.t s48) (.c (.v (.bool false))))⟩
    (.one ⟨some s50, none, (.mv (.t s49))⟩
    (.one ⟨some s51, some (s50, true), (.faddr 6 (.t s2))⟩
    (.one ⟨some s52, some (s50, true), (.load none (.t s51))⟩
    (.one ⟨some s53, some (s50, true), (.len false (.t s52))⟩
    (.one ⟨some s54, some (s50, true), (.bin false .eql (.t s53) (.c (.v (.int .i64 2))))⟩
    (.one ⟨some s55, none, (.pick (.t s50) (.t s54) (.c (.v (.bool false))))⟩
    (.one ⟨some s56, none, (.mv (.t s55))⟩
    (.one ⟨some s57, some (s56, true), (.faddr 6 (.t s2))⟩
    (.one ⟨some s58, some (s56, true), (.load none (.t s57))⟩
    (.one ⟨some s59, some (s56, true), (.iaddr 1 (.t s58) (.c (.v (.int .i64 0))))⟩
    (.one ⟨some s60, some (s56, true), (.load none (.t s59))⟩
    (.one ⟨some s61, some (s56, true), (.b2s (.t s60))⟩
    (.one ⟨some s62, some (s56, true), (.bin false .eql (.t s61) (.c (.v (.string ⟨#[98]⟩))))⟩
    (.one ⟨some s63, none, (.pick (.t s56) (.t s62) (.c (.v (.bool false))))⟩
    (.one ⟨some s64, none, (.mv (.t s63))⟩
    (.one ⟨some s65, some (s64, true), (.faddr 1 (.t s2))⟩
    (.one ⟨some s66, some (s64, true), (.load none (.t s65))⟩
    (.one ⟨some s67, some (s64, true), (.bin false .eql (.t s66) (.c (.v (.int .i64 2))))⟩
    (.one ⟨some s68, none, (.pick (.t s64) (.t s67) (.c (.v (.bool false))))⟩
    (.one ⟨some s69, none, (.mv (.t s68))⟩
    (.one ⟨some s70, some (s69, true), (.faddr 5 (.t s2))⟩
    (.one ⟨some s71, some (s69, true), (.load none (.t s70))⟩
    (.one ⟨some s72, some (s69, true), (.bin false .eql (.t s71) (.c (.v (.int .i64 1))))⟩
    (.one ⟨some s73, none, (.pick (.t s69) (.t s72) (.c (.v (.bool false))))⟩
    (.one ⟨some s74, none, (.mv (.t s73))⟩
    (.one ⟨some s75, some (s74, true), (.faddr 4 (.t s2))⟩
    (.one ⟨some s76, some (s74, true), (.load none (.t s75))⟩
    (.one ⟨some s77, none, (.pick (.t s74) (.t s76) (.c (.v (.bool false))))⟩
    (.one ⟨some s78, none, (.mv (.t s77))⟩
    (.one ⟨some s79, some (s78, true), (.faddr 3 (.t s2))⟩
    (.one ⟨some s80, some (s78, true), (.load none (.t s79))⟩
    (.one ⟨some s81, none, (.pick (.t s78) (.t s80) (.c (.v (.bool false))))⟩
    (.one ⟨some s82, none, (.mv (.t s81))⟩
    (.one ⟨some s83, some (s82, true), (.mv (.t s7))⟩
    (.one ⟨some s84, some (s82, true), (.bin false .eql (.t s83) (.c (.v (.int .i64 0))))⟩
    (.one ⟨some s85, none, (.pick (.t s82) (.t s84) (.c (.v (.bool false))))⟩
    (.one ⟨some s86, none, (.mv (.t s85))⟩
    (.one ⟨some s87, some (s86, true), (.mv (.t s6))⟩
    (.one ⟨some s88, some (s86, true), (.bin false .eql (.t s87) (.c (.v (.int .i64 4))))⟩
    (.one ⟨some s89, none, (.pick (.t s86) (.t s88) (.c (.v (.bool false))))⟩
    (.one ⟨some s90, none, (.mv (.t s89))⟩
    (.one ⟨some s91, some (s90, true), (.faddr 3 (.t s5))⟩
    (.one ⟨some s92, some (s90, true), (.load none (.t s91))⟩
    (.one ⟨some s93, some (s90, true), (.not (.t s92))⟩
    (.one ⟨some s94, none, (.pick (.t s90) (.t s93) (.c (.v (.bool false))))⟩
    (.one ⟨some s95, none, (.mv (.t s94))⟩
    (.one ⟨some s96, some (s95, true), (.mv (.t s10))⟩
    (.one ⟨some s97, some (s95, true), (.bin false .eql (.t s96) (.c (.v (.int .i64 16))))⟩
    (.one ⟨some s98, none, (.pick (.t s95) (.t s97) (.c (.v (.bool false))))⟩
    (.one ⟨some s99, none, (.mv (.t s98))⟩
    (.one ⟨some s100, some (s99, true), (.mv (.t s13))⟩
    (.one ⟨some s101, some (s99, true), (.bin false .eql (.t s100) (.c (.v (.int .i64 1))))⟩
    (.one ⟨some s102, none, (.pick (.t s99) (.t s101) (.c (.v (.bool false))))⟩
    (.one ⟨some s103, none, (.mv (.t s102))⟩
    (.one ⟨some s104, some (s103, true), (.callq 15 [(.c (.v (.int .i64 16)))])⟩
    (.one ⟨some s105, some (s103, true), (.bin false .eql (.t s104) (.c (.v (.int .i64 6))))⟩
    (.one ⟨some s106, none, (.pick (.t s103) (.t s105) (.c (.v (.bool false))))⟩
    (.one ⟨some s0, none, (.mv (.t s106))⟩
    .done)))))))))))))))))))))))))))))))))))))))))))))))))))))))))))))))))
  .ret)))))))⟩
theorem ok9 : compF Try.prog c9 Try.f9 = some ir9 := by kernel_rfl
theorem k_bowlinelaw20_alive {args : List AVal} {σ : AHeap} {Q : AVal → AHeap → Prop} (hl : Nat.ble args.length 107 = true) (h : argsK (Env.full 9) 0 args fun env => evC Try.prog c9 ir9.body env σ (retQ ir9 Q)) : ACalls Try.prog 9 args σ Q :=
  acalls_of Try.func9 ok9 rfl (Nat.le_of_ble_eq_true hl) h
end Go.Proofs.Ytgipkpghabelkaa
