/-
  The bodies of one package, compiled to the framework's language (printed by a program of this session).
-/
import Derived.Test.YtkdbmajkjlnpiaaIr0
namespace Go.Proofs.Ytkdbmajkjlnpiaa
set_option linter.unusedVariables false
set_option linter.unusedSimpArgs false
open Go Go.Am
/- queue.New -/
def c40 : Cfg := ⟨qs, false, 13, []⟩
def ir40 : IFun := ⟨1, [.tmp s2, .tmp s3],
  (.seq (.reg (.one ⟨some s2, none, (.mv (.c (.v (.pointer none))))⟩
    (.one ⟨some s3, none, (.mv (.c (.v (.int .i64 0))))⟩
    .done)))
  (.seq (.seq (.reg (.one ⟨some s4, none, (.mv (.t s0))⟩
    (.one ⟨some s5, none, (.bin false .lss (.t s4) (.c (.v (.int .i64 1))))⟩
    (.one ⟨some s6, none, (.mv (.t s5))⟩
    (.one ⟨some s7, some (s6, false), (.mv (.t s0))⟩
    (.one ⟨some s8, some (s6, false), (.bin false .gtr (.t s7) (.c (.v (.int .i64 20000))))⟩
    (.one ⟨some s9, none, (.pick (.t s6) (.c (.v (.bool true))) (.t s8))⟩
    .done)))))))
  (.cond (.t s9) (.seq (.reg (.one ⟨some s2, none, (.mv (.c (.v (.pointer none))))⟩
    (.one ⟨some s3, none, (.mv (.c (.v (.int .i64 1))))⟩
    .done)))
  .ret) .skip))
  (.seq (.reg (.one ⟨some s10, none, (.mv (.t s0))⟩
    (.one ⟨some s11, none, (.build [(.v (.int .i64 0)), (.slice 2 [] .full), (.v (.int .i64 0)), (.v (.int .u64 0)), (.v (.int .i64 0))] [(0, 1, (.t s10))])⟩
    (.one ⟨some s12, none, (.box 5 (.t s11))⟩
    (.one ⟨some s2, none, (.mv (.t s12))⟩
    (.one ⟨some s3, none, (.mv (.c (.v (.int .i64 0))))⟩
    .done))))))
  .ret)))⟩
theorem ok40 : compF Try.prog c40 Try.f40 = some ir40 := by kernel_rfl
theorem k_queue_New {args : List AVal} {σ : AHeap} {Q : AVal → AHeap → Prop} (hl : Nat.ble args.length 13 = true) (h : argsK (Env.full 9) 0 args fun env => evC Try.prog c40 ir40.body env σ (retQ ir40 Q)) : ACalls Try.prog 40 args σ Q :=
  acalls_of Try.func40 ok40 rfl (Nat.le_of_ble_eq_true hl) h
/- queue.Queue).Push -/
def c42 : Cfg := ⟨qs, false, 86, []⟩
def ir42 : IFun := ⟨2, [.tmp s4, .tmp s5],
  (.seq (.reg (.one ⟨some s4, none, (.mv (.c (.v (.int .u64 0))))⟩
    (.one ⟨some s5, none, (.mv (.c (.v (.int .i64 0))))⟩
    .done)))
  (.seq (.block 0 (.seq (.reg (.one ⟨some s7, none, (.mv (.t s0))⟩
    (.one ⟨some s8, none, (.callq 72 [(.t s7)])⟩
    (.one ⟨some s9, none, (.not (.t s8))⟩
    (.one ⟨some s6, none, (.mv (.t s9))⟩
    .done)))))
  (.cond (.t s6) (.seq (.reg (.one ⟨some s4, none, (.mv (.c (.v (.int .u64 0))))⟩
    (.one ⟨some s5, none, (.mv (.c (.v (.int .i64 6))))⟩
    .done)))
  .ret) (.seq (.reg (.one ⟨some s11, none, (.mv (.t s1))⟩
    (.one ⟨some s12, none, (.len false (.t s11))⟩
    (.one ⟨some s13, none, (.bin false .eql (.t s12) (.c (.v (.int .i64 0))))⟩
    (.one ⟨some s10, none, (.mv (.t s13))⟩
    .done)))))
  (.cond (.t s10) (.seq (.reg (.one ⟨some s4, none, (.mv (.c (.v (.int .u64 0))))⟩
    (.one ⟨some s5, none, (.mv (.c (.v (.int .i64 1))))⟩
    .done)))
  .ret) (.seq (.reg (.one ⟨some s15, none, (.mv (.t s1))⟩
    (.one ⟨some s16, none, (.len false (.t s15))⟩
    (.one ⟨some s17, none, (.bin false .gtr (.t s16) (.c (.v (.int .i64 1000))))⟩
    (.one ⟨some s14, none, (.mv (.t s17))⟩
    .done)))))
  (.cond (.t s14) (.seq (.reg (.one ⟨some s4, none, (.mv (.c (.v (.int .u64 0))))⟩
    (.one ⟨some s5, none, (.mv (.c (.v (.int .i64 2))))⟩
    .done)))
  .ret) (.seq (.reg (.one ⟨some s19, none, (.mv (.t s0))⟩
    (.one ⟨some s20, none, (.nilchk (.t s19))⟩
    (.one ⟨some s21, none, (.faddr 1 (.t s20))⟩
    (.one ⟨some s22, none, (.load none (.t s21))⟩
    (.one ⟨some s23, none, (.len false (.t s22))⟩
    (.one ⟨some s24, none, (.bin false .geq (.t s23) (.c (.v (.int .i64 64))))⟩
    (.one ⟨some s25, none, (.mv (.t s24))⟩
    (.one ⟨some s26, some (s25, false), (.mv (.t s1))⟩
    (.one ⟨some s27, some (s25, false), (.len false (.t s26))⟩
    (.one ⟨some s28, some (s25, false), (.mv (.t s0))⟩
    (.one ⟨some s29, some (s25, false), (.nilchk (.t s28))⟩
    (.one ⟨some s30, some (s25, false), (.faddr 0 (.t s29))⟩
    (.one ⟨some s31, some (s25, false), (.load none (.t s30))⟩
    (.one ⟨some s32, some (s25, false), (.mv (.t s0))⟩
    (.one ⟨some s33, some (s25, false), (.nilchk (.t s32))⟩
    (.one ⟨some s34, some (s25, false), (.faddr 4 (.t s33))⟩
    (.one ⟨some s35, some (s25, false), (.load none (.t s34))⟩
    (.one ⟨some s36, some (s25, false), (.bin false .sub (.t s31) (.t s35))⟩
    (.one ⟨some s37, some (s25, false), (.bin false .gtr (.t s27) (.t s36))⟩
    (.one ⟨some s38, none, (.pick (.t s25) (.c (.v (.bool true))) (.t s37))⟩
    (.one ⟨some s18, none, (.mv (.t s38))⟩
    .done))))))))))))))))))))))
  (.cond (.t s18) (.seq (.reg (.one ⟨some s4, none, (.mv (.c (.v (.int .u64 0))))⟩
    (.one ⟨some s5, none, (.mv (.c (.v (.int .i64 5))))⟩
    .done)))
  .ret) .skip)))))))))
  (.seq (.reg (.one ⟨some s39, none, (.mv (.t s0))⟩
    (.one ⟨some s40, none, (.nilchk (.t s39))⟩
    (.one ⟨some s41, none, (.faddr 3 (.t s40))⟩
    (.one ⟨some s42, none, (.load none (.t s41))⟩
    (.one ⟨some s43, none, (.bin false .add (.t s42) (.c (.v (.int .u64 1))))⟩
    (.one ⟨some s44, none, (.nilchk (.t s39))⟩
    (.one ⟨some s45, none, (.faddr 3 (.t s44))⟩
    (.one ⟨none, none, (.store 1 (.t s45) (.t s43))⟩
    .done)))))))))
  (.seq (.reg (.one ⟨some s46, none, (.mv (.t s0))⟩
    (.one ⟨some s47, none, (.mv (.t s0))⟩
    (.one ⟨some s48, none, (.nilchk (.t s47))⟩
    (.one ⟨some s49, none, (.faddr 1 (.t s48))⟩
    (.one ⟨some s50, none, (.load none (.t s49))⟩
    (.one ⟨some s51, none, (.mv (.t s0))⟩
    (.one ⟨some s52, none, (.nilchk (.t s51))⟩
    (.one ⟨some s53, none, (.faddr 1 (.t s52))⟩
    (.one ⟨some s54, none, (.load none (.t s53))⟩
    (.one ⟨some s55, none, (.len false (.t s54))⟩
    (.one ⟨some s56, none, (.mv (.t s0))⟩
    (.one ⟨some s57, none, (.nilchk (.t s56))⟩
    (.one ⟨some s58, none, (.faddr 1 (.t s57))⟩
    (.one ⟨some s59, none, (.load none (.t s58))⟩
    (.one ⟨some s60, none, (.len false (.t s59))⟩
    (.one ⟨some s61, none, (.cut 2 (.t s50) none (some (.t s55)) (some (.t s60)))⟩
    (.one ⟨some s62, none, (.mv (.t s0))⟩
    (.one ⟨some s63, none, (.nilchk (.t s62))⟩
    (.one ⟨some s64, none, (.faddr 3 (.t s63))⟩
    (.one ⟨some s65, none, (.load none (.t s64))⟩
    (.one ⟨some s66, none, (.mv (.t s1))⟩
    (.one ⟨some s67, none, (.callq 62 [(.t s66)])⟩
    (.one ⟨some s68, none, (.build [(.v (.int .u64 0)), (.slice 1 [] .full)] [(0, 1, (.t s65)), (1, 1, (.t s67))])⟩
    (.one ⟨some s69, none, (.row 2 [(.t s68)])⟩
    (.one ⟨some s70, none, (.app 2 32 (.t s61) (.t s69))⟩
    (.one ⟨some s71, none, (.nilchk (.t s46))⟩
    (.one ⟨some s72, none, (.faddr 1 (.t s71))⟩
    (.one ⟨none, none, (.store 1 (.t s72) (.t s70))⟩
    .done)))))))))))))))))))))))))))))
  (.seq (.reg (.one ⟨some s73, none, (.mv (.t s0))⟩
    (.one ⟨some s74, none, (.nilchk (.t s73))⟩
    (.one ⟨some s75, none, (.faddr 4 (.t s74))⟩
    (.one ⟨some s76, none, (.load none (.t s75))⟩
    (.one ⟨some s77, none, (.mv (.t s1))⟩
    (.one ⟨some s78, none, (.len false (.t s77))⟩
    (.one ⟨some s79, none, (.bin false .add (.t s76) (.t s78))⟩
    (.one ⟨some s80, none, (.nilchk (.t s73))⟩
    (.one ⟨some s81, none, (.faddr 4 (.t s80))⟩
    (.one ⟨none, none, (.store 1 (.t s81) (.t s79))⟩
    .done)))))))))))
  (.seq (.reg (.one ⟨some s82, none, (.mv (.t s0))⟩
    (.one ⟨some s83, none, (.nilchk (.t s82))⟩
    (.one ⟨some s84, none, (.faddr 3 (.t s83))⟩
    (.one ⟨some s85, none, (.load none (.t s84))⟩
    (.one ⟨some s4, none, (.mv (.t s85))⟩
    (.one ⟨some s5, none, (.mv (.c (.v (.int .i64 0))))⟩
    .done)))))))
  .ret))))))⟩
theorem ok42 : compF Try.prog c42 Try.f42 = some ir42 := by kernel_rfl
theorem k_queue_Queue_Push {args : List AVal} {σ : AHeap} {Q : AVal → AHeap → Prop} (hl : Nat.ble args.length 86 = true) (h : argsK (Env.full 9) 0 args fun env => evC Try.prog c42 ir42.body env σ (retQ ir42 Q)) : ACalls Try.prog 42 args σ Q :=
  acalls_of Try.func42 ok42 rfl (Nat.le_of_ble_eq_true hl) h
/- queue.Queue).Take -/
def c43 : Cfg := ⟨qs, false, 79, []⟩
def ir43 : IFun := ⟨2, [.tmp s4, .tmp s5, .tmp s6],
  (.seq (.reg (.one ⟨some s4, none, (.mv (.c (.slice 1 [] .full)))⟩
    (.one ⟨some s5, none, (.mv (.c (.v (.bool false))))⟩
    (.one ⟨some s6, none, (.mv (.c (.v (.int .i64 0))))⟩
    .done))))
  (.seq (.block 0 (.seq (.reg (.one ⟨some s10, none, (.mv (.t s0))⟩
    (.one ⟨some s11, none, (.callq 72 [(.t s10)])⟩
    (.one ⟨some s12, none, (.not (.t s11))⟩
    (.one ⟨some s9, none, (.mv (.t s12))⟩
    .done)))))
  (.cond (.t s9) (.seq (.reg (.one ⟨some s4, none, (.mv (.c (.slice 1 [] .full)))⟩
    (.one ⟨some s5, none, (.mv (.c (.v (.bool false))))⟩
    (.one ⟨some s6, none, (.mv (.c (.v (.int .i64 6))))⟩
    .done))))
  .ret) (.seq (.reg (.one ⟨some s14, none, (.mv (.t s0))⟩
    (.one ⟨some s15, none, (.nilchk (.t s14))⟩
    (.one ⟨some s16, none, (.faddr 1 (.t s15))⟩
    (.one ⟨some s17, none, (.load none (.t s16))⟩
    (.one ⟨some s18, none, (.len false (.t s17))⟩
    (.one ⟨some s19, none, (.bin false .eql (.t s18) (.c (.v (.int .i64 0))))⟩
    (.one ⟨some s13, none, (.mv (.t s19))⟩
    .done))))))))
  (.cond (.t s13) (.seq (.reg (.one ⟨some s4, none, (.mv (.c (.slice 1 [] .full)))⟩
    (.one ⟨some s5, none, (.mv (.c (.v (.bool false))))⟩
    (.one ⟨some s6, none, (.mv (.c (.v (.int .i64 4))))⟩
    .done))))
  .ret) .skip)))))
  (.seq (.reg (.one ⟨some s20, none, (.mv (.t s0))⟩
    (.one ⟨some s21, none, (.nilchk (.t s20))⟩
    (.one ⟨some s22, none, (.faddr 1 (.t s21))⟩
    (.one ⟨some s23, none, (.load none (.t s22))⟩
    (.one ⟨some s24, none, (.iaddr 2 (.t s23) (.c (.v (.int .i64 0))))⟩
    (.one ⟨some s25, none, (.faddr 1 (.t s24))⟩
    (.one ⟨some s26, none, (.load none (.t s25))⟩
    (.one ⟨some s27, none, (.mv (.t s0))⟩
    (.one ⟨some s28, none, (.nilchk (.t s27))⟩
    (.one ⟨some s29, none, (.faddr 2 (.t s28))⟩
    (.one ⟨some s30, none, (.load none (.t s29))⟩
    (.one ⟨some s31, none, (.cut 1 (.t s26) (some (.t s30)) none none)⟩
    (.one ⟨some s7, none, (.mv (.t s31))⟩
    .done))))))))))))))
  (.seq (.seq (.reg (.one ⟨some s32, none, (.mv (.t s1))⟩
    (.one ⟨some s33, none, (.bin false .lss (.t s32) (.c (.v (.int .i64 1))))⟩
    (.one ⟨some s34, none, (.mv (.t s33))⟩
    (.one ⟨some s35, some (s34, false), (.mv (.t s1))⟩
    (.one ⟨some s36, some (s34, false), (.mv (.t s7))⟩
    (.one ⟨some s37, some (s34, false), (.len false (.t s36))⟩
    (.one ⟨some s38, some (s34, false), (.bin false .gtr (.t s35) (.t s37))⟩
    (.one ⟨some s39, none, (.pick (.t s34) (.c (.v (.bool true))) (.t s38))⟩
    .done)))))))))
  (.cond (.t s39) (.seq (.reg (.one ⟨some s4, none, (.mv (.c (.slice 1 [] .full)))⟩
    (.one ⟨some s5, none, (.mv (.c (.v (.bool false))))⟩
    (.one ⟨some s6, none, (.mv (.c (.v (.int .i64 1))))⟩
    .done))))
  .ret) .skip))
  (.seq (.reg (.one ⟨some s40, none, (.mv (.t s7))⟩
    (.one ⟨some s41, none, (.mv (.t s1))⟩
    (.one ⟨some s42, none, (.mv (.t s1))⟩
    (.one ⟨some s43, none, (.cut 1 (.t s40) none (some (.t s41)) (some (.t s42)))⟩
    (.one ⟨some s44, none, (.callq 62 [(.t s43)])⟩
    (.one ⟨some s8, none, (.mv (.t s44))⟩
    .done)))))))
  (.seq (.reg (.one ⟨some s45, none, (.mv (.t s0))⟩
    (.one ⟨some s46, none, (.nilchk (.t s45))⟩
    (.one ⟨some s47, none, (.faddr 2 (.t s46))⟩
    (.one ⟨some s48, none, (.load none (.t s47))⟩
    (.one ⟨some s49, none, (.mv (.t s1))⟩
    (.one ⟨some s50, none, (.bin false .add (.t s48) (.t s49))⟩
    (.one ⟨some s51, none, (.nilchk (.t s45))⟩
    (.one ⟨some s52, none, (.faddr 2 (.t s51))⟩
    (.one ⟨none, none, (.store 1 (.t s52) (.t s50))⟩
    .done))))))))))
  (.seq (.reg (.one ⟨some s53, none, (.mv (.t s0))⟩
    (.one ⟨some s54, none, (.nilchk (.t s53))⟩
    (.one ⟨some s55, none, (.faddr 4 (.t s54))⟩
    (.one ⟨some s56, none, (.load none (.t s55))⟩
    (.one ⟨some s57, none, (.mv (.t s1))⟩
    (.one ⟨some s58, none, (.bin false .sub (.t s56) (.t s57))⟩
    (.one ⟨some s59, none, (.nilchk (.t s53))⟩
    (.one ⟨some s60, none, (.faddr 4 (.t s59))⟩
    (.one ⟨none, none, (.store 1 (.t s60) (.t s58))⟩
    .done))))))))))
  (.seq (.seq (.reg (.one ⟨some s61, none, (.mv (.t s1))⟩
    (.one ⟨some s62, none, (.mv (.t s7))⟩
    (.one ⟨some s63, none, (.len false (.t s62))⟩
    (.one ⟨some s64, none, (.bin false .lss (.t s61) (.t s63))⟩
    .done)))))
  (.cond (.t s64) (.seq (.reg (.one ⟨some s65, none, (.mv (.t s8))⟩
    (.one ⟨some s4, none, (.mv (.t s65))⟩
    (.one ⟨some s5, none, (.mv (.c (.v (.bool false))))⟩
    (.one ⟨some s6, none, (.mv (.c (.v (.int .i64 0))))⟩
    .done)))))
  .ret) .skip))
  (.seq (.reg (.one ⟨some s66, none, (.mv (.t s0))⟩
    (.one ⟨some s67, none, (.mv (.t s0))⟩
    (.one ⟨some s68, none, (.mv (.t s0))⟩
    (.one ⟨some s69, none, (.nilchk (.t s68))⟩
    (.one ⟨some s70, none, (.faddr 1 (.t s69))⟩
    (.one ⟨some s71, none, (.load none (.t s70))⟩
    (.one ⟨some s72, none, (.cut 2 (.t s71) (some (.c (.v (.int .i64 1)))) none none)⟩
    (.one ⟨some s73, none, (.callq 73 [(.t s72)])⟩
    (.one ⟨some s74, none, (.nilchk (.t s66))⟩
    (.one ⟨some s75, none, (.faddr 2 (.t s74))⟩
    (.one ⟨none, none, (.store 1 (.t s75) (.c (.v (.int .i64 0))))⟩
    (.one ⟨some s76, none, (.nilchk (.t s67))⟩
    (.one ⟨some s77, none, (.faddr 1 (.t s76))⟩
    (.one ⟨none, none, (.store 1 (.t s77) (.t s73))⟩
    .done)))))))))))))))
  (.seq (.reg (.one ⟨some s78, none, (.mv (.t s8))⟩
    (.one ⟨some s4, none, (.mv (.t s78))⟩
    (.one ⟨some s5, none, (.mv (.c (.v (.bool true))))⟩
    (.one ⟨some s6, none, (.mv (.c (.v (.int .i64 0))))⟩
    .done)))))
  .ret))))))))))⟩
theorem ok43 : compF Try.prog c43 Try.f43 = some ir43 := by kernel_rfl
theorem k_queue_Queue_Take {args : List AVal} {σ : AHeap} {Q : AVal → AHeap → Prop} (hl : Nat.ble args.length 79 = true) (h : argsK (Env.full 9) 0 args fun env => evC Try.prog c43 ir43.body env σ (retQ ir43 Q)) : ACalls Try.prog 43 args σ Q :=
  acalls_of Try.func43 ok43 rfl (Nat.le_of_ble_eq_true hl) h
/- queue.Queue).Bytes -/
def c44 : Cfg := ⟨qs, false, 9, []⟩
def ir44 : IFun := ⟨1, [.tmp s2],
  (.seq (.reg (.one ⟨some s2, none, (.mv (.c (.v (.int .i64 0))))⟩
    .done))
  (.seq (.seq (.reg (.one ⟨some s3, none, (.mv (.t s0))⟩
    (.one ⟨some s4, none, (.eqNil 1 false (.t s3))⟩
    .done)))
  (.cond (.t s4) (.seq (.reg (.one ⟨some s2, none, (.mv (.c (.v (.int .i64 0))))⟩
    .done))
  .ret) .skip))
  (.seq (.reg (.one ⟨some s5, none, (.mv (.t s0))⟩
    (.one ⟨some s6, none, (.nilchk (.t s5))⟩
    (.one ⟨some s7, none, (.faddr 4 (.t s6))⟩
    (.one ⟨some s8, none, (.load none (.t s7))⟩
    (.one ⟨some s2, none, (.mv (.t s8))⟩
    .done))))))
  .ret)))⟩
theorem ok44 : compF Try.prog c44 Try.f44 = some ir44 := by kernel_rfl
theorem k_queue_Queue_Bytes {args : List AVal} {σ : AHeap} {Q : AVal → AHeap → Prop} (hl : Nat.ble args.length 9 = true) (h : argsK (Env.full 9) 0 args fun env => evC Try.prog c44 ir44.body env σ (retQ ir44 Q)) : ACalls Try.prog 44 args σ Q :=
  acalls_of Try.func44 ok44 rfl (Nat.le_of_ble_eq_true hl) h
/- queue.Queue).Front -/
def c45 : Cfg := ⟨qs, false, 41, []⟩
def ir45 : IFun := ⟨1, [.tmp s2, .tmp s3, .tmp s4],
  (.seq (.reg (.one ⟨some s2, none, (.mv (.c (.v (.int .u64 0))))⟩
    (.one ⟨some s3, none, (.mv (.c (.slice 1 [] .full)))⟩
    (.one ⟨some s4, none, (.mv (.c (.v (.bool false))))⟩
    .done))))
  (.seq (.seq (.reg (.one ⟨some s5, none, (.mv (.t s0))⟩
    (.one ⟨some s6, none, (.callq 72 [(.t s5)])⟩
    (.one ⟨some s7, none, (.not (.t s6))⟩
    (.one ⟨some s8, none, (.mv (.t s7))⟩
    (.one ⟨some s9, some (s8, false), (.mv (.t s0))⟩
    (.one ⟨some s10, some (s8, false), (.nilchk (.t s9))⟩
    (.one ⟨some s11, some (s8, false), (.faddr 1 (.t s10))⟩
    (.one ⟨some s12, some (s8, false), (.load none (.t s11))⟩
    (.one ⟨some s13, some (s8, false), (.len false (.t s12))⟩
    (.one ⟨some s14, some (s8, false), (.bin false .eql (.t s13) (.c (.v (.int .i64 0))))⟩
    (.one ⟨some s15, none, (.pick (.t s8) (.c (.v (.bool true))) (.t s14))⟩
    .done))))))))))))
  (.cond (.t s15) (.seq (.reg (.one ⟨some s2, none, (.mv (.c (.v (.int .u64 0))))⟩
    (.one ⟨some s3, none, (.mv (.c (.slice 1 [] .full)))⟩
    (.one ⟨some s4, none, (.mv (.c (.v (.bool false))))⟩
    .done))))
  .ret) .skip))
  (.seq (.reg (.one ⟨some s16, none, (.mv (.t s0))⟩
    (.one ⟨some s17, none, (.nilchk (.t s16))⟩
    (.one ⟨some s18, none, (.faddr 1 (.t s17))⟩
    (.one ⟨some s19, none, (.load none (.t s18))⟩
    (.one ⟨some s20, none, (.iaddr 2 (.t s19) (.c (.v (.int .i64 0))))⟩
    (.one ⟨some s21, none, (.faddr 0 (.t s20))⟩
    (.one ⟨some s22, none, (.load none (.t s21))⟩
    (.one ⟨some s23, none, (.mv (.t s0))⟩
    (.one ⟨some s24, none, (.nilchk (.t s23))⟩
    (.one ⟨some s25, none, (.faddr 1 (.t s24))⟩
    (.one ⟨some s26, none, (.load none (.t s25))⟩
    (.one ⟨some s27, none, (.iaddr 2 (.t s26) (.c (.v (.int .i64 0))))⟩
    (.one ⟨some s28, none, (.faddr 1 (.t s27))⟩
    (.one ⟨some s29, none, (.load none (.t s28))⟩
    (.one ⟨some s30, none, (.mv (.t s0))⟩
    (.one ⟨some s31, none, (.nilchk (.t s30))⟩
    (.one ⟨some s32, none, (.faddr 2 (.t s31))⟩
    (.one ⟨some s33, none, (.load none (.t s32))⟩
    (.one ⟨some s34, none, (.cut 1 (.t s29) (some (.t s33)) none none)⟩
    (.one ⟨some s36, none, (.mv (.t s0))⟩
    (.one ⟨some s37, none, (.nilchk (.t s36))⟩
    (.one ⟨some s38, none, (.faddr 2 (.t s37))⟩
    (.one ⟨some s39, none, (.load none (.t s38))⟩
    (.one ⟨some s40, none, (.bin false .gtr (.t s39) (.c (.v (.int .i64 0))))⟩
    (.one ⟨some s35, none, (.callq 62 [(.t s34)])⟩
    (.one ⟨some s2, none, (.mv (.t s22))⟩
    (.one ⟨some s3, none, (.mv (.t s35))⟩
    (.one ⟨some s4, none, (.mv (.t s40))⟩
    .done)))))))))))))))))))))))))))))
  .ret)))⟩
theorem ok45 : compF Try.prog c45 Try.f45 = some ir45 := by kernel_rfl
theorem k_queue_Queue_Front {args : List AVal} {σ : AHeap} {Q : AVal → AHeap → Prop} (hl : Nat.ble args.length 41 = true) (h : argsK (Env.full 9) 0 args fun env => evC Try.prog c45 ir45.body env σ (retQ ir45 Q)) : ACalls Try.prog 45 args σ Q :=
  acalls_of Try.func45 ok45 rfl (Nat.le_of_ble_eq_true hl) h
/- queue.Queue).Discard -/
def c46 : Cfg := ⟨qs, false, 74, []⟩
def ir46 : IFun := ⟨2, [.tmp s4],
  (.seq (.reg (.one ⟨some s4, none, (.mv (.c (.v (.int .i64 0))))⟩
    .done))
  (.scope (.seq (.seq (.reg (.one ⟨some s6, none, (.mv (.t s0))⟩
    (.one ⟨some s7, none, (.callq 72 [(.t s6)])⟩
    (.one ⟨some s8, none, (.not (.t s7))⟩
    .done))))
  (.cond (.t s8) (.seq (.reg (.one ⟨some s4, none, (.mv (.c (.v (.int .i64 6))))⟩
    .done))
  .ret) .skip))
  (.seq (.reg (.one ⟨some s5, none, (.mv (.c (.v (.int .i64 0))))⟩
    .done))
  (.seq (.label 0)
  (.seq (.block 0 (.seq (.reg (.one ⟨some s10, none, (.mv (.t s5))⟩
    (.one ⟨some s11, none, (.mv (.t s0))⟩
    (.one ⟨some s12, none, (.nilchk (.t s11))⟩
    (.one ⟨some s13, none, (.faddr 1 (.t s12))⟩
    (.one ⟨some s14, none, (.load none (.t s13))⟩
    (.one ⟨some s15, none, (.len false (.t s14))⟩
    (.one ⟨some s16, none, (.bin false .eql (.t s10) (.t s15))⟩
    (.one ⟨some s9, none, (.mv (.t s16))⟩
    .done)))))))))
  (.cond (.t s9) (.seq (.reg (.one ⟨some s4, none, (.mv (.c (.v (.int .i64 4))))⟩
    .done))
  .ret) (.seq (.reg (.one ⟨some s18, none, (.mv (.t s0))⟩
    (.one ⟨some s19, none, (.nilchk (.t s18))⟩
    (.one ⟨some s20, none, (.faddr 1 (.t s19))⟩
    (.one ⟨some s21, none, (.load none (.t s20))⟩
    (.one ⟨some s22, none, (.mv (.t s5))⟩
    (.one ⟨some s23, none, (.iaddr 2 (.t s21) (.t s22))⟩
    (.one ⟨some s24, none, (.faddr 0 (.t s23))⟩
    (.one ⟨some s25, none, (.load none (.t s24))⟩
    (.one ⟨some s26, none, (.mv (.t s1))⟩
    (.one ⟨some s27, none, (.bin false .neq (.t s25) (.t s26))⟩
    (.one ⟨some s17, none, (.mv (.t s27))⟩
    .done))))))))))))
  (.cond (.t s17) (.seq (.reg (.one ⟨some s28, none, (.mv (.t s5))⟩
    (.one ⟨some s29, none, (.bin false .add (.t s28) (.c (.v (.int .i64 1))))⟩
    (.one ⟨some s5, none, (.mv (.t s29))⟩
    .done))))
  (.goto 0)) (.seq (.reg (.one ⟨some s31, none, (.mv (.t s5))⟩
    (.one ⟨some s32, none, (.bin false .eql (.t s31) (.c (.v (.int .i64 0))))⟩
    (.one ⟨some s33, none, (.mv (.t s32))⟩
    (.one ⟨some s34, some (s33, true), (.mv (.t s0))⟩
    (.one ⟨some s35, some (s33, true), (.nilchk (.t s34))⟩
    (.one ⟨some s36, some (s33, true), (.faddr 2 (.t s35))⟩
    (.one ⟨some s37, some (s33, true), (.load none (.t s36))⟩
    (.one ⟨some s38, some (s33, true), (.bin false .gtr (.t s37) (.c (.v (.int .i64 0))))⟩
    (.one ⟨some s39, none, (.pick (.t s33) (.t s38) (.c (.v (.bool false))))⟩
    (.one ⟨some s30, none, (.mv (.t s39))⟩
    .done)))))))))))
  (.cond (.t s30) (.seq (.reg (.one ⟨some s4, none, (.mv (.c (.v (.int .i64 7))))⟩
    .done))
  .ret) .skip)))))))
  (.seq (.reg (.one ⟨some s40, none, (.mv (.t s0))⟩
    (.one ⟨some s41, none, (.nilchk (.t s40))⟩
    (.one ⟨some s42, none, (.faddr 4 (.t s41))⟩
    (.one ⟨some s43, none, (.load none (.t s42))⟩
    (.one ⟨some s44, none, (.mv (.t s0))⟩
    (.one ⟨some s45, none, (.nilchk (.t s44))⟩
    (.one ⟨some s46, none, (.faddr 1 (.t s45))⟩
    (.one ⟨some s47, none, (.load none (.t s46))⟩
    (.one ⟨some s48, none, (.mv (.t s5))⟩
    (.one ⟨some s49, none, (.iaddr 2 (.t s47) (.t s48))⟩
    (.one ⟨some s50, none, (.faddr 1 (.t s49))⟩
    (.one ⟨some s51, none, (.load none (.t s50))⟩
    (.one ⟨some s52, none, (.len false (.t s51))⟩
    (.one ⟨some s53, none, (.bin false .sub (.t s43) (.t s52))⟩
    (.one ⟨some s54, none, (.nilchk (.t s40))⟩
    (.one ⟨some s55, none, (.faddr 4 (.t s54))⟩
    (.one ⟨none, none, (.store 1 (.t s55) (.t s53))⟩
    .done))))))))))))))))))
  (.seq (.reg (.one ⟨some s56, none, (.mv (.t s0))⟩
    (.one ⟨some s57, none, (.mv (.t s0))⟩
    (.one ⟨some s58, none, (.nilchk (.t s57))⟩
    (.one ⟨some s59, none, (.faddr 1 (.t s58))⟩
    (.one ⟨some s60, none, (.load none (.t s59))⟩
    (.one ⟨some s61, none, (.mv (.t s5))⟩
    (.one ⟨some s62, none, (.cut 2 (.t s60) none (some (.t s61)) none)⟩
    (.one ⟨some s63, none, (.mv (.t s0))⟩
    (.one ⟨some s64, none, (.nilchk (.t s63))⟩
    (.one ⟨some s65, none, (.faddr 1 (.t s64))⟩
    (.one ⟨some s66, none, (.load none (.t s65))⟩
    (.one ⟨some s67, none, (.mv (.t s5))⟩
    (.one ⟨some s68, none, (.bin false .add (.t s67) (.c (.v (.int .i64 1))))⟩
    (.one ⟨some s69, none, (.cut 2 (.t s66) (some (.t s68)) none none)⟩
    (.one ⟨some s70, none, (.row 1 [(.t s62), (.t s69)])⟩
    (.one ⟨some s71, none, (.callq 74 [(.t s70)])⟩
    (.one ⟨some s72, none, (.nilchk (.t s56))⟩
    (.one ⟨some s73, none, (.faddr 1 (.t s72))⟩
    (.one ⟨none, none, (.store 1 (.t s73) (.t s71))⟩
    .done))))))))))))))))))))
  (.seq (.reg (.one ⟨some s4, none, (.mv (.c (.v (.int .i64 0))))⟩
    .done))
  .ret)))))))))⟩
theorem ok46 : compF Try.prog c46 Try.f46 = some ir46 := by kernel_rfl
theorem k_queue_Queue_Discard {args : List AVal} {σ : AHeap} {Q : AVal → AHeap → Prop} (hl : Nat.ble args.length 74 = true) (h : argsK (Env.full 9) 0 args fun env => evC Try.prog c46 ir46.body env σ (retQ ir46 Q)) : ACalls Try.prog 46 args σ Q :=
  acalls_of Try.func46 ok46 rfl (Nat.le_of_ble_eq_true hl) h
/- queue.Queue).IDs -/
def c50 : Cfg := ⟨qs, false, 24, []⟩
def ir50 : IFun := ⟨1, [.tmp s2],
  (.seq (.reg (.one ⟨some s2, none, (.mv (.c (.slice 1 [] .full)))⟩
    .done))
  (.seq (.reg (.one ⟨some s3, none, (.mv (.c (.slice 1 [] .full)))⟩
    .done))
  (.seq (.seq (.reg (.one ⟨some s6, none, (.mv (.t s0))⟩
    (.one ⟨some s7, none, (.eqNil 1 true (.t s6))⟩
    .done)))
  (.cond (.t s7) (.seq (.reg (.one ⟨some s8, none, (.mv (.t s0))⟩
    (.one ⟨some s9, none, (.nilchk (.t s8))⟩
    (.one ⟨some s10, none, (.faddr 1 (.t s9))⟩
    (.one ⟨some s11, none, (.load none (.t s10))⟩
    (.one ⟨some s12, none, (.len false (.t s11))⟩
    (.one ⟨some s13, none, (.mv (.c (.v (.int .i64 0))))⟩
    .done)))))))
  (.block 0 (.loop (.seq (.reg (.one ⟨some s14, none, (.bin false .lss (.t s13) (.t s12))⟩
    .done))
  (.seq (.cond (.t s14) .skip (.exit 0))
  (.seq (.block 1 (.seq (.reg (.one ⟨some s15, none, (.iaddr 2 (.t s11) (.t s13))⟩
    (.one ⟨some s16, none, (.load (some 2) (.t s15))⟩
    (.one ⟨some s5, none, (.new [(.v (.int .u64 0)), (.slice 1 [] .full)])⟩
    (.one ⟨none, none, (.store 2 (.t s5) (.t s16))⟩
    .done)))))
  (.reg (.one ⟨some s17, none, (.mv (.t s3))⟩
    (.one ⟨some s18, none, (.faddr 0 (.t s5))⟩
    (.one ⟨some s19, none, (.load none (.t s18))⟩
    (.one ⟨some s20, none, (.row 1 [(.t s19)])⟩
    (.one ⟨some s21, none, (.app 1 8 (.t s17) (.t s20))⟩
    (.one ⟨some s3, none, (.mv (.t s21))⟩
    .done)))))))))
  (.reg (.one ⟨some s22, none, (.bin false .add (.t s13) (.c (.v (.int .i64 1))))⟩
    (.one ⟨some s13, none, (.mv (.t s22))⟩
    .done))))))))) .skip))
  (.seq (.reg (.one ⟨some s23, none, (.mv (.t s3))⟩
    (.one ⟨some s2, none, (.mv (.t s23))⟩
    .done)))
  .ret))))⟩
theorem ok50 : compF Try.prog c50 Try.f50 = some ir50 := by kernel_rfl
theorem k_queue_Queue_IDs {args : List AVal} {σ : AHeap} {Q : AVal → AHeap → Prop} (hl : Nat.ble args.length 24 = true) (h : argsK (Env.full 9) 0 args fun env => evC Try.prog c50 ir50.body env σ (retQ ir50 Q)) : ACalls Try.prog 50 args σ Q :=
  acalls_of Try.func50 ok50 rfl (Nat.le_of_ble_eq_true hl) h
/- queue.Queue).Clear -/
def c55 : Cfg := ⟨qs, false, 18, []⟩
def ir55 : IFun := ⟨1, [.tmp s2],
  (.seq (.reg (.one ⟨some s2, none, (.mv (.c (.slice 1 [] .full)))⟩
    .done))
  (.seq (.reg (.one ⟨some s4, none, (.mv (.t s0))⟩
    (.one ⟨some s5, none, (.callq 50 [(.t s4)])⟩
    (.one ⟨some s3, none, (.mv (.t s5))⟩
    .done))))
  (.seq (.seq (.reg (.one ⟨some s6, none, (.mv (.t s0))⟩
    (.one ⟨some s7, none, (.callq 72 [(.t s6)])⟩
    .done)))
  (.cond (.t s7) (.reg (.one ⟨some s8, none, (.mv (.t s0))⟩
    (.one ⟨some s9, none, (.mv (.t s0))⟩
    (.one ⟨some s10, none, (.mv (.t s0))⟩
    (.one ⟨some s11, none, (.nilchk (.t s8))⟩
    (.one ⟨some s12, none, (.faddr 1 (.t s11))⟩
    (.one ⟨none, none, (.store 1 (.t s12) (.c (.slice 2 [] .full)))⟩
    (.one ⟨some s13, none, (.nilchk (.t s9))⟩
    (.one ⟨some s14, none, (.faddr 2 (.t s13))⟩
    (.one ⟨none, none, (.store 1 (.t s14) (.c (.v (.int .i64 0))))⟩
    (.one ⟨some s15, none, (.nilchk (.t s10))⟩
    (.one ⟨some s16, none, (.faddr 4 (.t s15))⟩
    (.one ⟨none, none, (.store 1 (.t s16) (.c (.v (.int .i64 0))))⟩
    .done))))))))))))) .skip))
  (.seq (.reg (.one ⟨some s17, none, (.mv (.t s3))⟩
    (.one ⟨some s2, none, (.mv (.t s17))⟩
    .done)))
  .ret))))⟩
theorem ok55 : compF Try.prog c55 Try.f55 = some ir55 := by kernel_rfl
theorem k_queue_Queue_Clear {args : List AVal} {σ : AHeap} {Q : AVal → AHeap → Prop} (hl : Nat.ble args.length 18 = true) (h : argsK (Env.full 9) 0 args fun env => evC Try.prog c55 ir55.body env σ (retQ ir55 Q)) : ACalls Try.prog 55 args σ Q :=
  acalls_of Try.func55 ok55 rfl (Nat.le_of_ble_eq_true hl) h
/- queue.Queue).made -/
def c72 : Cfg := ⟨qs, false, 12, []⟩
def ir72 : IFun := ⟨1, [.tmp s2],
  (.seq (.reg (.one ⟨some s2, none, (.mv (.c (.v (.bool false))))⟩
    .done))
  (.seq (.reg (.one ⟨some s3, none, (.mv (.t s0))⟩
    (.one ⟨some s4, none, (.eqNil 1 true (.t s3))⟩
    (.one ⟨some s5, none, (.mv (.t s4))⟩
    (.one ⟨some s6, some (s5, true), (.mv (.t s0))⟩
    (.one ⟨some s7, some (s5, true), (.nilchk (.t s6))⟩
    (.one ⟨some s8, some (s5, true), (.faddr 0 (.t s7))⟩
    (.one ⟨some s9, some (s5, true), (.load none (.t s8))⟩
    (.one ⟨some s10, some (s5, true), (.bin false .gtr (.t s9) (.c (.v (.int .i64 0))))⟩
    (.one ⟨some s11, none, (.pick (.t s5) (.t s10) (.c (.v (.bool false))))⟩
    (.one ⟨some s2, none, (.mv (.t s11))⟩
    .done)))))))))))
  .ret))⟩
theorem ok72 : compF Try.prog c72 Try.f72 = some ir72 := by kernel_rfl
theorem k_queue_Queue_made {args : List AVal} {σ : AHeap} {Q : AVal → AHeap → Prop} (hl : Nat.ble args.length 12 = true) (h : argsK (Env.full 9) 0 args fun env => evC Try.prog c72 ir72.body env σ (retQ ir72 Q)) : ACalls Try.prog 72 args σ Q :=
  acalls_of Try.func72 ok72 rfl (Nat.le_of_ble_eq_true hl) h
/- queue.text] -/
def c73 : Cfg := ⟨qs, false, 8, []⟩
def ir73 : IFun := ⟨1, [.tmp s2],
  (.seq (.reg (.one ⟨some s2, none, (.mv (.c (.slice 2 [] .full)))⟩
    .done))
  (.seq (.seq (.reg (.one ⟨some s3, none, (.mv (.t s0))⟩
    (.one ⟨some s4, none, (.eqNil 0 false (.t s3))⟩
    .done)))
  (.cond (.t s4) (.seq (.reg (.one ⟨some s2, none, (.mv (.c (.slice 2 [] .full)))⟩
    .done))
  .ret) .skip))
  (.seq (.reg (.one ⟨some s5, none, (.row 2 [])⟩
    (.one ⟨some s6, none, (.mv (.t s0))⟩
    (.one ⟨some s7, none, (.app 2 32 (.t s5) (.t s6))⟩
    (.one ⟨some s2, none, (.mv (.t s7))⟩
    .done)))))
  .ret)))⟩
theorem ok73 : compF Try.prog c73 Try.f73 = some ir73 := by kernel_rfl
theorem k_queue_text {args : List AVal} {σ : AHeap} {Q : AVal → AHeap → Prop} (hl : Nat.ble args.length 8 = true) (h : argsK (Env.full 9) 0 args fun env => evC Try.prog c73 ir73.body env σ (retQ ir73 Q)) : ACalls Try.prog 73 args σ Q :=
  acalls_of Try.func73 ok73 rfl (Nat.le_of_ble_eq_true hl) h
end Go.Proofs.Ytkdbmajkjlnpiaa

