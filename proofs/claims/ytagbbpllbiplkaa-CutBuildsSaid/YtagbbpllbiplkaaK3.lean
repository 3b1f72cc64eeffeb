/-
  Texts of this claim, pack 3: Irslices, Irqueue, Irlaw04, Irref04.
-/
import Derived.Test.YtagbbpllbiplkaaK2
/-
  The bodies of one package, compiled to the framework's language (printed by a program of this session).
-/
namespace Go.Proofs.Ytagbbpllbiplkaa
set_option linter.unusedVariables false
set_option linter.unusedSimpArgs false
open Go Go.Am
/- slices.Clone[[]byte,byte] -/
def c29 : Cfg := ⟨qs, [], 8, [], ps⟩
def ir29 : IFun := ⟨1, [.tmp s2],
  (.seq (.reg (.one ⟨some s2, none, (.mv (.c (.slice 1 [] .full)))⟩
    .done))
  (.seq (.seq (.reg (.one ⟨some s3, none, (.mv (.t s0))⟩
    (.one ⟨some s4, none, (.eqNil 0 false (.t s3))⟩
    .done)))
  (.cond (.t s4) (.seq (.reg (.one ⟨some s2, none, (.mv (.c (.slice 1 [] .full)))⟩
    .done))
  .ret) .skip))
  (.seq (.reg (.one ⟨some s5, none, (.row 1 [])⟩
    (.one ⟨some s6, none, (.mv (.t s0))⟩
    (.one ⟨some s7, none, (.app 1 1 (.t s5) (.t s6))⟩
    (.one ⟨some s2, none, (.mv (.t s7))⟩
    .done)))))
  .ret)))⟩
theorem ok29 : compF Try.prog c29 Try.f29 = some ir29 := by kernel_rfl
theorem k_slices_Clone_byte_byte {args : List AVal} {σ : AHeap} {Q : AVal → AHeap → Prop} (hl : Nat.ble args.length 8 = true) (h : argsK (Env.full 9) 0 args fun env => evC Try.prog c29 ir29.body env σ (retQ ir29 Q)) : ACalls Try.prog 29 args σ Q :=
  acalls_of Try.func29 ok29 rfl (Nat.le_of_ble_eq_true hl) h
/- slices.Clone[[]byte,byte] -/
def c29m : Cfg := ⟨qs, [22, 29, 30, 31, 34, 44, 49, 53, 76], 8, [], ps⟩
def ir29m : IFun := ⟨1, [.tmp s2],
  (.seq (.reg (.one ⟨some s2, none, (.mv (.c (.slice 1 [] .full)))⟩
    .done))
  (.seq (.seq (.reg (.one ⟨some s3, none, (.mv (.t s0))⟩
    (.one ⟨some s4, none, (.eqNil 0 false (.t s3))⟩
    .done)))
  (.cond (.t s4) (.seq (.reg (.one ⟨some s2, none, (.mv (.c (.slice 1 [] .full)))⟩
    .done))
  .ret) .skip))
  (.seq (.reg (.one ⟨some s5, none, (.row 1 [])⟩
    (.one ⟨some s6, none, (.mv (.t s0))⟩
    (.one ⟨some s7, none, (.appm 1 1 (.t s5) (.t s6))⟩
    (.one ⟨some s2, none, (.mv (.t s7))⟩
    .done)))))
  .ret)))⟩
theorem ok29m : compF Try.prog c29m Try.f29 = some ir29m := by kernel_rfl
theorem km_slices_Clone_byte_byte {args : List AVal} {σ : AHeap} {Q : AVal → AHeap → Prop} (hl : Nat.ble args.length 8 = true) (h : argsK (Env.full 9) 0 args fun env => evC Try.prog c29m ir29m.body env σ (retQ ir29m Q)) : ACalls Try.prog 29 args σ Q :=
  acalls_of Try.func29 ok29m rfl (Nat.le_of_ble_eq_true hl) h
end Go.Proofs.Ytagbbpllbiplkaa
/-
  The bodies of one package, compiled to the framework's language (printed by a program of this session).
-/
namespace Go.Proofs.Ytagbbpllbiplkaa
set_option linter.unusedVariables false
set_option linter.unusedSimpArgs false
open Go Go.Am
/- queue.New -/
def c5 : Cfg := ⟨qs, [], 13, [], ps⟩
def ir5 : IFun := ⟨1, [.tmp s2, .tmp s3],
  (.seq (.reg (.one ⟨some s2, none, (.mv (.c (.v (.pointer none))))⟩
    (.one ⟨some s3, none, (.mv (.c (.v (.int .i64 0))))⟩
    .done)))
  (.seq (.seq (.reg (.one ⟨some s4, none, (.mv (.t s0))⟩
    (.one ⟨some s5, none, (.bin false .lss (.t s4) (.c (.v (.int .i64 1))))⟩
    (.one ⟨some s6, none, (.mv (.t s5))⟩
    (.one ⟨some s7, some (s6, false), (.mv (.t s0))⟩
    (.one ⟨some s8, some (s6, false), (.bin false .gtr (.t s7) (.c (.v (.int .i64 20000))))⟩
    (.one ⟨some s9, none, (.pick (.t s6) (.c (.v (.bool true))) (.t s8))⟩
    .done)))))))
  (.cond (.t s9) (.seq (.reg (.one ⟨some s2, none, (.mv (.c (.v (.pointer none))))⟩
    (.one ⟨some s3, none, (.mv (.c (.v (.int .i64 1))))⟩
    .done)))
  .ret) .skip))
  (.seq (.reg (.one ⟨some s10, none, (.mv (.t s0))⟩
    (.one ⟨some s11, none, (.build [(.v (.int .i64 0)), (.slice 2 [] .full), (.v (.int .i64 0)), (.v (.int .u64 0)), (.v (.int .i64 0))] [(0, 1, (.t s10))])⟩
    (.one ⟨some s12, none, (.box 5 (.t s11))⟩
    (.one ⟨some s2, none, (.mv (.t s12))⟩
    (.one ⟨some s3, none, (.mv (.c (.v (.int .i64 0))))⟩
    .done))))))
  .ret)))⟩
theorem ok5 : compF Try.prog c5 Try.f5 = some ir5 := by kernel_rfl
theorem k_queue_New {args : List AVal} {σ : AHeap} {Q : AVal → AHeap → Prop} (hl : Nat.ble args.length 13 = true) (h : argsK (Env.full 9) 0 args fun env => evC Try.prog c5 ir5.body env σ (retQ ir5 Q)) : ACalls Try.prog 5 args σ Q :=
  acalls_of Try.func5 ok5 rfl (Nat.le_of_ble_eq_true hl) h
/- queue.Queue).Push -/
def c7 : Cfg := ⟨qs, [], 86, [], ps⟩
def ir7 : IFun := ⟨2, [.tmp s4, .tmp s5],
  (.seq (.reg (.one ⟨some s4, none, (.mv (.c (.v (.int .u64 0))))⟩
    (.one ⟨some s5, none, (.mv (.c (.v (.int .i64 0))))⟩
    .done)))
  (.seq (.block 0 (.seq (.reg (.one ⟨some s7, none, (.mv (.t s0))⟩
    (.one ⟨some s8, none, (.callq 28 [(.t s7)])⟩
    (.one ⟨some s9, none, (.not (.t s8))⟩
    (.one ⟨some s6, none, (.mv (.t s9))⟩
    .done)))))
  (.cond (.t s6) (.seq (.reg (.one ⟨some s4, none, (.mv (.c (.v (.int .u64 0))))⟩
    (.one ⟨some s5, none, (.mv (.c (.v (.int .i64 6))))⟩
    .done)))
  .ret) (.seq (.reg (.one ⟨some s11, none, (.mv (.t s1))⟩
    (.one ⟨some s12, none, (.len false (.t s11))⟩
    (.one ⟨some s13, none, (.bin false .eql (.t s12) (.c (.v (.int .i64 0))))⟩
    (.one ⟨some s10, none, (.mv (.t s13))⟩
    .done)))))
  (.cond (.t s10) (.seq (.reg (.one ⟨some s4, none, (.mv (.c (.v (.int .u64 0))))⟩
    (.one ⟨some s5, none, (.mv (.c (.v (.int .i64 1))))⟩
    .done)))
  .ret) (.seq (.reg (.one ⟨some s15, none, (.mv (.t s1))⟩
    (.one ⟨some s16, none, (.len false (.t s15))⟩
    (.one ⟨some s17, none, (.bin false .gtr (.t s16) (.c (.v (.int .i64 1000))))⟩
    (.one ⟨some s14, none, (.mv (.t s17))⟩
    .done)))))
  (.cond (.t s14) (.seq (.reg (.one ⟨some s4, none, (.mv (.c (.v (.int .u64 0))))⟩
    (.one ⟨some s5, none, (.mv (.c (.v (.int .i64 2))))⟩
    .done)))
  .ret) (.seq (.reg (.one ⟨some s19, none, (.mv (.t s0))⟩
    (.one ⟨some s20, none, (.nilchk (.t s19))⟩
    (.one ⟨some s21, none, (.faddr 1 (.t s20))⟩
    (.one ⟨some s22, none, (.load none (.t s21))⟩
    (.one ⟨some s23, none, (.len false (.t s22))⟩
    (.one ⟨some s24, none, (.bin false .geq (.t s23) (.c (.v (.int .i64 64))))⟩
    (.one ⟨some s25, none, (.mv (.t s24))⟩
    (.one ⟨some s26, some (s25, false), (.mv (.t s1))⟩
    (.one ⟨some s27, some (s25, false), (.len false (.t s26))⟩
    (.one ⟨some s28, some (s25, false), (.mv (.t s0))⟩
    (.one ⟨some s29, some (s25, false), (.nilchk (.t s28))⟩
    (.one ⟨some s30, some (s25, false), (.faddr 0 (.t s29))⟩
    (.one ⟨some s31, some (s25, false), (.load none (.t s30))⟩
    (.one ⟨some s32, some (s25, false), (.mv (.t s0))⟩
    (.one ⟨some s33, some (s25, false), (.nilchk (.t s32))⟩
    (.one ⟨some s34, some (s25, false), (.faddr 4 (.t s33))⟩
    (.one ⟨some s35, some (s25, false), (.load none (.t s34))⟩
    (.one ⟨some s36, some (s25, false), (.bin false .sub (.t s31) (.t s35))⟩
    (.one ⟨some s37, some (s25, false), (.bin false .gtr (.t s27) (.t s36))⟩
    (.one ⟨some s38, none, (.pick (.t s25) (.c (.v (.bool true))) (.t s37))⟩
    (.one ⟨some s18, none, (.mv (.t s38))⟩
    .done))))))))))))))))))))))
  (.cond (.t s18) (.seq (.reg (.one ⟨some s4, none, (.mv (.c (.v (.int .u64 0))))⟩
    (.one ⟨some s5, none, (.mv (.c (.v (.int .i64 5))))⟩
    .done)))
  .ret) .skip)))))))))
  (.seq (.reg (.one ⟨some s39, none, (.mv (.t s0))⟩
    (.one ⟨some s40, none, (.nilchk (.t s39))⟩
    (.one ⟨some s41, none, (.faddr 3 (.t s40))⟩
    (.one ⟨some s42, none, (.load none (.t s41))⟩
    (.one ⟨some s43, none, (.bin false .add (.t s42) (.c (.v (.int .u64 1))))⟩
    (.one ⟨some s44, none, (.nilchk (.t s39))⟩
    (.one ⟨some s45, none, (.faddr 3 (.t s44))⟩
    (.one ⟨none, none, (.store 1 (.t s45) (.t s43))⟩
    .done)))))))))
  (.seq (.reg (.one ⟨some s46, none, (.mv (.t s0))⟩
    (.one ⟨some s47, none, (.mv (.t s0))⟩
    (.one ⟨some s48, none, (.nilchk (.t s47))⟩
    (.one ⟨some s49, none, (.faddr 1 (.t s48))⟩
    (.one ⟨some s50, none, (.load none (.t s49))⟩
    (.one ⟨some s51, none, (.mv (.t s0))⟩
    (.one ⟨some s52, none, (.nilchk (.t s51))⟩
    (.one ⟨some s53, none, (.faddr 1 (.t s52))⟩
    (.one ⟨some s54, none, (.load none (.t s53))⟩
    (.one ⟨some s55, none, (.len false (.t s54))⟩
    (.one ⟨some s56, none, (.mv (.t s0))⟩
    (.one ⟨some s57, none, (.nilchk (.t s56))⟩
    (.one ⟨some s58, none, (.faddr 1 (.t s57))⟩
    (.one ⟨some s59, none, (.load none (.t s58))⟩
    (.one ⟨some s60, none, (.len false (.t s59))⟩
    (.one ⟨some s61, none, (.cut 2 (.t s50) none (some (.t s55)) (some (.t s60)))⟩
    (.one ⟨some s62, none, (.mv (.t s0))⟩
    (.one ⟨some s63, none, (.nilchk (.t s62))⟩
    (.one ⟨some s64, none, (.faddr 3 (.t s63))⟩
    (.one ⟨some s65, none, (.load none (.t s64))⟩
    (.one ⟨some s66, none, (.mv (.t s1))⟩
    (.one ⟨some s67, none, (.callq 29 [(.t s66)])⟩
    (.one ⟨some s68, none, (.build [(.v (.int .u64 0)), (.slice 1 [] .full)] [(0, 1, (.t s65)), (1, 1, (.t s67))])⟩
    (.one ⟨some s69, none, (.row 2 [(.t s68)])⟩
    (.one ⟨some s70, none, (.app 2 32 (.t s61) (.t s69))⟩
    (.one ⟨some s71, none, (.nilchk (.t s46))⟩
    (.one ⟨some s72, none, (.faddr 1 (.t s71))⟩
    (.one ⟨none, none, (.store 1 (.t s72) (.t s70))⟩
    .done)))))))))))))))))))))))))))))
  (.seq (.reg (.one ⟨some s73, none, (.mv (.t s0))⟩
    (.one ⟨some s74, none, (.nilchk (.t s73))⟩
    (.one ⟨some s75, none, (.faddr 4 (.t s74))⟩
    (.one ⟨some s76, none, (.load none (.t s75))⟩
    (.one ⟨some s77, none, (.mv (.t s1))⟩
    (.one ⟨some s78, none, (.len false (.t s77))⟩
    (.one ⟨some s79, none, (.bin false .add (.t s76) (.t s78))⟩
    (.one ⟨some s80, none, (.nilchk (.t s73))⟩
    (.one ⟨some s81, none, (.faddr 4 (.t s80))⟩
    (.one ⟨none, none, (.store 1 (.t s81) (.t s79))⟩
    .done)))))))))))
  (.seq (.reg (.one ⟨some s82, none, (.mv (.t s0))⟩
    (.one ⟨some s83, none, (.nilchk (.t s82))⟩
    (.one ⟨some s84, none, (.faddr 3 (.t s83))⟩
    (.one ⟨some s85, none, (.load none (.t s84))⟩
    (.one ⟨some s4, none, (.mv (.t s85))⟩
    (.one ⟨some s5, none, (.mv (.c (.v (.int .i64 0))))⟩
    .done)))))))
  .ret))))))⟩
theorem ok7 : compF Try.prog c7 Try.f7 = some ir7 := by kernel_rfl
theorem k_queue_Queue_Push {args : List AVal} {σ : AHeap} {Q : AVal → AHeap → Prop} (hl : Nat.ble args.length 86 = true) (h : argsK (Env.full 9) 0 args fun env => evC Try.prog c7 ir7.body env σ (retQ ir7 Q)) : ACalls Try.prog 7 args σ Q :=
  acalls_of Try.func7 ok7 rfl (Nat.le_of_ble_eq_true hl) h
/- queue.Queue).Take -/
def c9 : Cfg := ⟨qs, [], 79, [], ps⟩
def ir9 : IFun := ⟨2, [.tmp s4, .tmp s5, .tmp s6],
  (.seq (.reg (.one ⟨some s4, none, (.mv (.c (.slice 1 [] .full)))⟩
    (.one ⟨some s5, none, (.mv (.c (.v (.bool false))))⟩
    (.one ⟨some s6, none, (.mv (.c (.v (.int .i64 0))))⟩
    .done))))
  (.seq (.block 0 (.seq (.reg (.one ⟨some s10, none, (.mv (.t s0))⟩
    (.one ⟨some s11, none, (.callq 28 [(.t s10)])⟩
    (.one ⟨some s12, none, (.not (.t s11))⟩
    (.one ⟨some s9, none, (.mv (.t s12))⟩
    .done)))))
  (.cond (.t s9) (.seq (.reg (.one ⟨some s4, none, (.mv (.c (.slice 1 [] .full)))⟩
    (.one ⟨some s5, none, (.mv (.c (.v (.bool false))))⟩
    (.one ⟨some s6, none, (.mv (.c (.v (.int .i64 6))))⟩
    .done))))
  .ret) (.seq (.reg (.one ⟨some s14, none, (.mv (.t s0))⟩
    (.one ⟨some s15, none, (.nilchk (.t s14))⟩
    (.one ⟨some s16, none, (.faddr 1 (.t s15))⟩
    (.one ⟨some s17, none, (.load none (.t s16))⟩
    (.one ⟨some s18, none, (.len false (.t s17))⟩
    (.one ⟨some s19, none, (.bin false .eql (.t s18) (.c (.v (.int .i64 0))))⟩
    (.one ⟨some s13, none, (.mv (.t s19))⟩
    .done))))))))
  (.cond (.t s13) (.seq (.reg (.one ⟨some s4, none, (.mv (.c (.slice 1 [] .full)))⟩
    (.one ⟨some s5, none, (.mv (.c (.v (.bool false))))⟩
    (.one ⟨some s6, none, (.mv (.c (.v (.int .i64 4))))⟩
    .done))))
  .ret) .skip)))))
  (.seq (.reg (.one ⟨some s20, none, (.mv (.t s0))⟩
    (.one ⟨some s21, none, (.nilchk (.t s20))⟩
    (.one ⟨some s22, none, (.faddr 1 (.t s21))⟩
    (.one ⟨some s23, none, (.load none (.t s22))⟩
    (.one ⟨some s24, none, (.iaddr 2 (.t s23) (.c (.v (.int .i64 0))))⟩
    (.one ⟨some s25, none, (.faddr 1 (.t s24))⟩
    (.one ⟨some s26, none, (.load none (.t s25))⟩
    (.one ⟨some s27, none, (.mv (.t s0))⟩
    (.one ⟨some s28, none, (.nilchk (.t s27))⟩
    (.one ⟨some s29, none, (.faddr 2 (.t s28))⟩
    (.one ⟨some s30, none, (.load none (.t s29))⟩
    (.one ⟨some s31, none, (.cut 1 (.t s26) (some (.t s30)) none none)⟩
    (.one ⟨some s7, none, (.mv (.t s31))⟩
    .done))))))))))))))
  (.seq (.seq (.reg (.one ⟨some s32, none, (.mv (.t s1))⟩
    (.one ⟨some s33, none, (.bin false .lss (.t s32) (.c (.v (.int .i64 1))))⟩
    (.one ⟨some s34, none, (.mv (.t s33))⟩
    (.one ⟨some s35, some (s34, false), (.mv (.t s1))⟩
    (.one ⟨some s36, some (s34, false), (.mv (.t s7))⟩
    (.one ⟨some s37, some (s34, false), (.len false (.t s36))⟩
    (.one ⟨some s38, some (s34, false), (.bin false .gtr (.t s35) (.t s37))⟩
    (.one ⟨some s39, none, (.pick (.t s34) (.c (.v (.bool true))) (.t s38))⟩
    .done)))))))))
  (.cond (.t s39) (.seq (.reg (.one ⟨some s4, none, (.mv (.c (.slice 1 [] .full)))⟩
    (.one ⟨some s5, none, (.mv (.c (.v (.bool false))))⟩
    (.one ⟨some s6, none, (.mv (.c (.v (.int .i64 1))))⟩
    .done))))
  .ret) .skip))
  (.seq (.reg (.one ⟨some s40, none, (.mv (.t s7))⟩
    (.one ⟨some s41, none, (.mv (.t s1))⟩
    (.one ⟨some s42, none, (.mv (.t s1))⟩
    (.one ⟨some s43, none, (.cut 1 (.t s40) none (some (.t s41)) (some (.t s42)))⟩
    (.one ⟨some s44, none, (.callq 29 [(.t s43)])⟩
    (.one ⟨some s8, none, (.mv (.t s44))⟩
    .done)))))))
  (.seq (.reg (.one ⟨some s45, none, (.mv (.t s0))⟩
    (.one ⟨some s46, none, (.nilchk (.t s45))⟩
    (.one ⟨some s47, none, (.faddr 2 (.t s46))⟩
    (.one ⟨some s48, none, (.load none (.t s47))⟩
    (.one ⟨some s49, none, (.mv (.t s1))⟩
    (.one ⟨some s50, none, (.bin false .add (.t s48) (.t s49))⟩
    (.one ⟨some s51, none, (.nilchk (.t s45))⟩
    (.one ⟨some s52, none, (.faddr 2 (.t s51))⟩
    (.one ⟨none, none, (.store 1 (.t s52) (.t s50))⟩
    .done))))))))))
  (.seq (.reg (.one ⟨some s53, none, (.mv (.t s0))⟩
    (.one ⟨some s54, none, (.nilchk (.t s53))⟩
    (.one ⟨some s55, none, (.faddr 4 (.t s54))⟩
    (.one ⟨some s56, none, (.load none (.t s55))⟩
    (.one ⟨some s57, none, (.mv (.t s1))⟩
    (.one ⟨some s58, none, (.bin false .sub (.t s56) (.t s57))⟩
    (.one ⟨some s59, none, (.nilchk (.t s53))⟩
    (.one ⟨some s60, none, (.faddr 4 (.t s59))⟩
    (.one ⟨none, none, (.store 1 (.t s60) (.t s58))⟩
    .done))))))))))
  (.seq (.seq (.reg (.one ⟨some s61, none, (.mv (.t s1))⟩
    (.one ⟨some s62, none, (.mv (.t s7))⟩
    (.one ⟨some s63, none, (.len false (.t s62))⟩
    (.one ⟨some s64, none, (.bin false .lss (.t s61) (.t s63))⟩
    .done)))))
  (.cond (.t s64) (.seq (.reg (.one ⟨some s65, none, (.mv (.t s8))⟩
    (.one ⟨some s4, none, (.mv (.t s65))⟩
    (.one ⟨some s5, none, (.mv (.c (.v (.bool false))))⟩
    (.one ⟨some s6, none, (.mv (.c (.v (.int .i64 0))))⟩
    .done)))))
  .ret) .skip))
  (.seq (.reg (.one ⟨some s66, none, (.mv (.t s0))⟩
    (.one ⟨some s67, none, (.mv (.t s0))⟩
    (.one ⟨some s68, none, (.mv (.t s0))⟩
    (.one ⟨some s69, none, (.nilchk (.t s68))⟩
    (.one ⟨some s70, none, (.faddr 1 (.t s69))⟩
    (.one ⟨some s71, none, (.load none (.t s70))⟩
    (.one ⟨some s72, none, (.cut 2 (.t s71) (some (.c (.v (.int .i64 1)))) none none)⟩
    (.one ⟨some s73, none, (.callq 30 [(.t s72)])⟩
    (.one ⟨some s74, none, (.nilchk (.t s66))⟩
    (.one ⟨some s75, none, (.faddr 2 (.t s74))⟩
    (.one ⟨none, none, (.store 1 (.t s75) (.c (.v (.int .i64 0))))⟩
    (.one ⟨some s76, none, (.nilchk (.t s67))⟩
    (.one ⟨some s77, none, (.faddr 1 (.t s76))⟩
    (.one ⟨none, none, (.store 1 (.t s77) (.t s73))⟩
    .done)))))))))))))))
  (.seq (.reg (.one ⟨some s78, none, (.mv (.t s8))⟩
    (.one ⟨some s4, none, (.mv (.t s78))⟩
    (.one ⟨some s5, none, (.mv (.c (.v (.bool true))))⟩
    (.one ⟨some s6, none, (.mv (.c (.v (.int .i64 0))))⟩
    .done)))))
  .ret))))))))))⟩
theorem ok9 : compF Try.prog c9 Try.f9 = some ir9 := by kernel_rfl
theorem k_queue_Queue_Take {args : List AVal} {σ : AHeap} {Q : AVal → AHeap → Prop} (hl : Nat.ble args.length 79 = true) (h : argsK (Env.full 9) 0 args fun env => evC Try.prog c9 ir9.body env σ (retQ ir9 Q)) : ACalls Try.prog 9 args σ Q :=
  acalls_of Try.func9 ok9 rfl (Nat.le_of_ble_eq_true hl) h
/- queue.Queue).Discard -/
def c11 : Cfg := ⟨qs, [], 74, [], ps⟩
def ir11 : IFun := ⟨2, [.tmp s4],
  (.seq (.reg (.one ⟨some s4, none, (.mv (.c (.v (.int .i64 0))))⟩
    .done))
  (.scope (.seq (.seq (.reg (.one ⟨some s6, none, (.mv (.t s0))⟩
    (.one ⟨some s7, none, (.callq 28 [(.t s6)])⟩
    (.one ⟨some s8, none, (.not (.t s7))⟩
    .done))))
  (.cond (.t s8) (.seq (.reg (.one ⟨some s4, none, (.mv (.c (.v (.int .i64 6))))⟩
    .done))
  .ret) .skip))
  (.seq (.reg (.one ⟨some s5, none, (.mv (.c (.v (.int .i64 0))))⟩
    .done))
  (.seq (.label 0)
  (.seq (.block 0 (.seq (.reg (.one ⟨some s10, none, (.mv (.t s5))⟩
    (.one ⟨some s11, none, (.mv (.t s0))⟩
    (.one ⟨some s12, none, (.nilchk (.t s11))⟩
    (.one ⟨some s13, none, (.faddr 1 (.t s12))⟩
    (.one ⟨some s14, none, (.load none (.t s13))⟩
    (.one ⟨some s15, none, (.len false (.t s14))⟩
    (.one ⟨some s16, none, (.bin false .eql (.t s10) (.t s15))⟩
    (.one ⟨some s9, none, (.mv (.t s16))⟩
    .done)))))))))
  (.cond (.t s9) (.seq (.reg (.one ⟨some s4, none, (.mv (.c (.v (.int .i64 4))))⟩
    .done))
  .ret) (.seq (.reg (.one ⟨some s18, none, (.mv (.t s0))⟩
    (.one ⟨some s19, none, (.nilchk (.t s18))⟩
    (.one ⟨some s20, none, (.faddr 1 (.t s19))⟩
    (.one ⟨some s21, none, (.load none (.t s20))⟩
    (.one ⟨some s22, none, (.mv (.t s5))⟩
    (.one ⟨some s23, none, (.iaddr 2 (.t s21) (.t s22))⟩
    (.one ⟨some s24, none, (.faddr 0 (.t s23))⟩
    (.one ⟨some s25, none, (.load none (.t s24))⟩
    (.one ⟨some s26, none, (.mv (.t s1))⟩
    (.one ⟨some s27, none, (.bin false .neq (.t s25) (.t s26))⟩
    (.one ⟨some s17, none, (.mv (.t s27))⟩
    .done))))))))))))
  (.cond (.t s17) (.seq (.reg (.one ⟨some s28, none, (.mv (.t s5))⟩
    (.one ⟨some s29, none, (.bin false .add (.t s28) (.c (.v (.int .i64 1))))⟩
    (.one ⟨some s5, none, (.mv (.t s29))⟩
    .done))))
  (.goto 0)) (.seq (.reg (.one ⟨some s31, none, (.mv (.t s5))⟩
    (.one ⟨some s32, none, (.bin false .eql (.t s31) (.c (.v (.int .i64 0))))⟩
    (.one ⟨some s33, none, (.mv (.t s32))⟩
    (.one ⟨some s34, some (s33, true), (.mv (.t s0))⟩
    (.one ⟨some s35, some (s33, true), (.nilchk (.t s34))⟩
    (.one ⟨some s36, some (s33, true), (.faddr 2 (.t s35))⟩
    (.one ⟨some s37, some (s33, true), (.load none (.t s36))⟩
    (.one ⟨some s38, some (s33, true), (.bin false .gtr (.t s37) (.c (.v (.int .i64 0))))⟩
    (.one ⟨some s39, none, (.pick (.t s33) (.t s38) (.c (.v (.bool false))))⟩
    (.one ⟨some s30, none, (.mv (.t s39))⟩
    .done)))))))))))
  (.cond (.t s30) (.seq (.reg (.one ⟨some s4, none, (.mv (.c (.v (.int .i64 7))))⟩
    .done))
  .ret) .skip)))))))
  (.seq (.reg (.one ⟨some s40, none, (.mv (.t s0))⟩
    (.one ⟨some s41, none, (.nilchk (.t s40))⟩
    (.one ⟨some s42, none, (.faddr 4 (.t s41))⟩
    (.one ⟨some s43, none, (.load none (.t s42))⟩
    (.one ⟨some s44, none, (.mv (.t s0))⟩
    (.one ⟨some s45, none, (.nilchk (.t s44))⟩
    (.one ⟨some s46, none, (.faddr 1 (.t s45))⟩
    (.one ⟨some s47, none, (.load none (.t s46))⟩
    (.one ⟨some s48, none, (.mv (.t s5))⟩
    (.one ⟨some s49, none, (.iaddr 2 (.t s47) (.t s48))⟩
    (.one ⟨some s50, none, (.faddr 1 (.t s49))⟩
    (.one ⟨some s51, none, (.load none (.t s50))⟩
    (.one ⟨some s52, none, (.len false (.t s51))⟩
    (.one ⟨some s53, none, (.bin false .sub (.t s43) (.t s52))⟩
    (.one ⟨some s54, none, (.nilchk (.t s40))⟩
    (.one ⟨some s55, none, (.faddr 4 (.t s54))⟩
    (.one ⟨none, none, (.store 1 (.t s55) (.t s53))⟩
    .done))))))))))))))))))
  (.seq (.reg (.one ⟨some s56, none, (.mv (.t s0))⟩
    (.one ⟨some s57, none, (.mv (.t s0))⟩
    (.one ⟨some s58, none, (.nilchk (.t s57))⟩
    (.one ⟨some s59, none, (.faddr 1 (.t s58))⟩
    (.one ⟨some s60, none, (.load none (.t s59))⟩
    (.one ⟨some s61, none, (.mv (.t s5))⟩
    (.one ⟨some s62, none, (.cut 2 (.t s60) none (some (.t s61)) none)⟩
    (.one ⟨some s63, none, (.mv (.t s0))⟩
    (.one ⟨some s64, none, (.nilchk (.t s63))⟩
    (.one ⟨some s65, none, (.faddr 1 (.t s64))⟩
    (.one ⟨some s66, none, (.load none (.t s65))⟩
    (.one ⟨some s67, none, (.mv (.t s5))⟩
    (.one ⟨some s68, none, (.bin false .add (.t s67) (.c (.v (.int .i64 1))))⟩
    (.one ⟨some s69, none, (.cut 2 (.t s66) (some (.t s68)) none none)⟩
    (.one ⟨some s70, none, (.row 1 [(.t s62), (.t s69)])⟩
    (.one ⟨some s71, none, (.callq 32 [(.t s70)])⟩
    (.one ⟨some s72, none, (.nilchk (.t s56))⟩
    (.one ⟨some s73, none, (.faddr 1 (.t s72))⟩
    (.one ⟨none, none, (.store 1 (.t s73) (.t s71))⟩
    .done))))))))))))))))))))
  (.seq (.reg (.one ⟨some s4, none, (.mv (.c (.v (.int .i64 0))))⟩
    .done))
  .ret)))))))))⟩
theorem ok11 : compF Try.prog c11 Try.f11 = some ir11 := by kernel_rfl
theorem k_queue_Queue_Discard {args : List AVal} {σ : AHeap} {Q : AVal → AHeap → Prop} (hl : Nat.ble args.length 74 = true) (h : argsK (Env.full 9) 0 args fun env => evC Try.prog c11 ir11.body env σ (retQ ir11 Q)) : ACalls Try.prog 11 args σ Q :=
  acalls_of Try.func11 ok11 rfl (Nat.le_of_ble_eq_true hl) h
/- queue.Queue).Clear -/
def c14 : Cfg := ⟨qs, [], 18, [], ps⟩
def ir14 : IFun := ⟨1, [.tmp s2],
  (.seq (.reg (.one ⟨some s2, none, (.mv (.c (.slice 1 [] .full)))⟩
    .done))
  (.seq (.reg (.one ⟨some s4, none, (.mv (.t s0))⟩
    (.one ⟨some s5, none, (.callq 20 [(.t s4)])⟩
    (.one ⟨some s3, none, (.mv (.t s5))⟩
    .done))))
  (.seq (.seq (.reg (.one ⟨some s6, none, (.mv (.t s0))⟩
    (.one ⟨some s7, none, (.callq 28 [(.t s6)])⟩
    .done)))
  (.cond (.t s7) (.reg (.one ⟨some s8, none, (.mv (.t s0))⟩
    (.one ⟨some s9, none, (.mv (.t s0))⟩
    (.one ⟨some s10, none, (.mv (.t s0))⟩
    (.one ⟨some s11, none, (.nilchk (.t s8))⟩
    (.one ⟨some s12, none, (.faddr 1 (.t s11))⟩
    (.one ⟨none, none, (.store 1 (.t s12) (.c (.slice 2 [] .full)))⟩
    (.one ⟨some s13, none, (.nilchk (.t s9))⟩
    (.one ⟨some s14, none, (.faddr 2 (.t s13))⟩
    (.one ⟨none, none, (.store 1 (.t s14) (.c (.v (.int .i64 0))))⟩
    (.one ⟨some s15, none, (.nilchk (.t s10))⟩
    (.one ⟨some s16, none, (.faddr 4 (.t s15))⟩
    (.one ⟨none, none, (.store 1 (.t s16) (.c (.v (.int .i64 0))))⟩
    .done))))))))))))) .skip))
  (.seq (.reg (.one ⟨some s17, none, (.mv (.t s3))⟩
    (.one ⟨some s2, none, (.mv (.t s17))⟩
    .done)))
  .ret))))⟩
theorem ok14 : compF Try.prog c14 Try.f14 = some ir14 := by kernel_rfl
theorem k_queue_Queue_Clear {args : List AVal} {σ : AHeap} {Q : AVal → AHeap → Prop} (hl : Nat.ble args.length 18 = true) (h : argsK (Env.full 9) 0 args fun env => evC Try.prog c14 ir14.body env σ (retQ ir14 Q)) : ACalls Try.prog 14 args σ Q :=
  acalls_of Try.func14 ok14 rfl (Nat.le_of_ble_eq_true hl) h
/- queue.Queue).Front -/
def c16 : Cfg := ⟨qs, [], 41, [], ps⟩
def ir16 : IFun := ⟨1, [.tmp s2, .tmp s3, .tmp s4],
  (.seq (.reg (.one ⟨some s2, none, (.mv (.c (.v (.int .u64 0))))⟩
    (.one ⟨some s3, none, (.mv (.c (.slice 1 [] .full)))⟩
    (.one ⟨some s4, none, (.mv (.c (.v (.bool false))))⟩
    .done))))
  (.seq (.seq (.reg (.one ⟨some s5, none, (.mv (.t s0))⟩
    (.one ⟨some s6, none, (.callq 28 [(.t s5)])⟩
    (.one ⟨some s7, none, (.not (.t s6))⟩
    (.one ⟨some s8, none, (.mv (.t s7))⟩
    (.one ⟨some s9, some (s8, false), (.mv (.t s0))⟩
    (.one ⟨some s10, some (s8, false), (.nilchk (.t s9))⟩
    (.one ⟨some s11, some (s8, false), (.faddr 1 (.t s10))⟩
    (.one ⟨some s12, some (s8, false), (.load none (.t s11))⟩
    (.one ⟨some s13, some (s8, false), (.len false (.t s12))⟩
    (.one ⟨some s14, some (s8, false), (.bin false .eql (.t s13) (.c (.v (.int .i64 0))))⟩
    (.one ⟨some s15, none, (.pick (.t s8) (.c (.v (.bool true))) (.t s14))⟩
    .done))))))))))))
  (.cond (.t s15) (.seq (.reg (.one ⟨some s2, none, (.mv (.c (.v (.int .u64 0))))⟩
    (.one ⟨some s3, none, (.mv (.c (.slice 1 [] .full)))⟩
    (.one ⟨some s4, none, (.mv (.c (.v (.bool false))))⟩
    .done))))
  .ret) .skip))
  (.seq (.reg (.one ⟨some s16, none, (.mv (.t s0))⟩
    (.one ⟨some s17, none, (.nilchk (.t s16))⟩
    (.one ⟨some s18, none, (.faddr 1 (.t s17))⟩
    (.one ⟨some s19, none, (.load none (.t s18))⟩
    (.one ⟨some s20, none, (.iaddr 2 (.t s19) (.c (.v (.int .i64 0))))⟩
    (.one ⟨some s21, none, (.faddr 0 (.t s20))⟩
    (.one ⟨some s22, none, (.load none (.t s21))⟩
    (.one ⟨some s23, none, (.mv (.t s0))⟩
    (.one ⟨some s24, none, (.nilchk (.t s23))⟩
    (.one ⟨some s25, none, (.faddr 1 (.t s24))⟩
    (.one ⟨some s26, none, (.load none (.t s25))⟩
    (.one ⟨some s27, none, (.iaddr 2 (.t s26) (.c (.v (.int .i64 0))))⟩
    (.one ⟨some s28, none, (.faddr 1 (.t s27))⟩
    (.one ⟨some s29, none, (.load none (.t s28))⟩
    (.one ⟨some s30, none, (.mv (.t s0))⟩
    (.one ⟨some s31, none, (.nilchk (.t s30))⟩
    (.one ⟨some s32, none, (.faddr 2 (.t s31))⟩
    (.one ⟨some s33, none, (.load none (.t s32))⟩
    (.one ⟨some s34, none, (.cut 1 (.t s29) (some (.t s33)) none none)⟩
    (.one ⟨some s36, none, (.mv (.t s0))⟩
    (.one ⟨some s37, none, (.nilchk (.t s36))⟩
    (.one ⟨some s38, none, (.faddr 2 (.t s37))⟩
    (.one ⟨some s39, none, (.load none (.t s38))⟩
    (.one ⟨some s40, none, (.bin false .gtr (.t s39) (.c (.v (.int .i64 0))))⟩
    (.one ⟨some s35, none, (.callq 29 [(.t s34)])⟩
    (.one ⟨some s2, none, (.mv (.t s22))⟩
    (.one ⟨some s3, none, (.mv (.t s35))⟩
    (.one ⟨some s4, none, (.mv (.t s40))⟩
    .done)))))))))))))))))))))))))))))
  .ret)))⟩
theorem ok16 : compF Try.prog c16 Try.f16 = some ir16 := by kernel_rfl
theorem k_queue_Queue_Front {args : List AVal} {σ : AHeap} {Q : AVal → AHeap → Prop} (hl : Nat.ble args.length 41 = true) (h : argsK (Env.full 9) 0 args fun env => evC Try.prog c16 ir16.body env σ (retQ ir16 Q)) : ACalls Try.prog 16 args σ Q :=
  acalls_of Try.func16 ok16 rfl (Nat.le_of_ble_eq_true hl) h
/- queue.Queue).Bytes -/
def c18 : Cfg := ⟨qs, [], 9, [], ps⟩
def ir18 : IFun := ⟨1, [.tmp s2],
  (.seq (.reg (.one ⟨some s2, none, (.mv (.c (.v (.int .i64 0))))⟩
    .done))
  (.seq (.seq (.reg (.one ⟨some s3, none, (.mv (.t s0))⟩
    (.one ⟨some s4, none, (.eqNil 1 false (.t s3))⟩
    .done)))
  (.cond (.t s4) (.seq (.reg (.one ⟨some s2, none, (.mv (.c (.v (.int .i64 0))))⟩
    .done))
  .ret) .skip))
  (.seq (.reg (.one ⟨some s5, none, (.mv (.t s0))⟩
    (.one ⟨some s6, none, (.nilchk (.t s5))⟩
    (.one ⟨some s7, none, (.faddr 4 (.t s6))⟩
    (.one ⟨some s8, none, (.load none (.t s7))⟩
    (.one ⟨some s2, none, (.mv (.t s8))⟩
    .done))))))
  .ret)))⟩
theorem ok18 : compF Try.prog c18 Try.f18 = some ir18 := by kernel_rfl
theorem k_queue_Queue_Bytes {args : List AVal} {σ : AHeap} {Q : AVal → AHeap → Prop} (hl : Nat.ble args.length 9 = true) (h : argsK (Env.full 9) 0 args fun env => evC Try.prog c18 ir18.body env σ (retQ ir18 Q)) : ACalls Try.prog 18 args σ Q :=
  acalls_of Try.func18 ok18 rfl (Nat.le_of_ble_eq_true hl) h
/- queue.Queue).IDs -/
def c20 : Cfg := ⟨qs, [], 24, [], ps⟩
def ir20 : IFun := ⟨1, [.tmp s2],
  (.seq (.reg (.one ⟨some s2, none, (.mv (.c (.slice 1 [] .full)))⟩
    .done))
  (.seq (.reg (.one ⟨some s3, none, (.mv (.c (.slice 1 [] .full)))⟩
    .done))
  (.seq (.seq (.reg (.one ⟨some s6, none, (.mv (.t s0))⟩
    (.one ⟨some s7, none, (.eqNil 1 true (.t s6))⟩
    .done)))
  (.cond (.t s7) (.seq (.reg (.one ⟨some s8, none, (.mv (.t s0))⟩
    (.one ⟨some s9, none, (.nilchk (.t s8))⟩
    (.one ⟨some s10, none, (.faddr 1 (.t s9))⟩
    (.one ⟨some s11, none, (.load none (.t s10))⟩
    (.one ⟨some s12, none, (.len false (.t s11))⟩
    (.one ⟨some s13, none, (.mv (.c (.v (.int .i64 0))))⟩
    .done)))))))
  (.block 0 (.loop (.seq (.reg (.one ⟨some s14, none, (.bin false .lss (.t s13) (.t s12))⟩
    .done))
  (.seq (.cond (.t s14) .skip (.exit 0))
  (.seq (.block 1 (.seq (.reg (.one ⟨some s15, none, (.iaddr 2 (.t s11) (.t s13))⟩
    (.one ⟨some s16, none, (.load (some 2) (.t s15))⟩
    (.one ⟨some s5, none, (.new [(.v (.int .u64 0)), (.slice 1 [] .full)])⟩
    (.one ⟨none, none, (.store 2 (.t s5) (.t s16))⟩
    .done)))))
  (.reg (.one ⟨some s17, none, (.mv (.t s3))⟩
    (.one ⟨some s18, none, (.faddr 0 (.t s5))⟩
    (.one ⟨some s19, none, (.load none (.t s18))⟩
    (.one ⟨some s20, none, (.row 1 [(.t s19)])⟩
    (.one ⟨some s21, none, (.app 1 8 (.t s17) (.t s20))⟩
    (.one ⟨some s3, none, (.mv (.t s21))⟩
    .done)))))))))
  (.reg (.one ⟨some s22, none, (.bin false .add (.t s13) (.c (.v (.int .i64 1))))⟩
    (.one ⟨some s13, none, (.mv (.t s22))⟩
    .done))))))))) .skip))
  (.seq (.reg (.one ⟨some s23, none, (.mv (.t s3))⟩
    (.one ⟨some s2, none, (.mv (.t s23))⟩
    .done)))
  .ret))))⟩
theorem ok20 : compF Try.prog c20 Try.f20 = some ir20 := by kernel_rfl
theorem k_queue_Queue_IDs {args : List AVal} {σ : AHeap} {Q : AVal → AHeap → Prop} (hl : Nat.ble args.length 24 = true) (h : argsK (Env.full 9) 0 args fun env => evC Try.prog c20 ir20.body env σ (retQ ir20 Q)) : ACalls Try.prog 20 args σ Q :=
  acalls_of Try.func20 ok20 rfl (Nat.le_of_ble_eq_true hl) h
/- queue.Queue).made -/
def c28 : Cfg := ⟨qs, [], 12, [], ps⟩
def ir28 : IFun := ⟨1, [.tmp s2],
  (.seq (.reg (.one ⟨some s2, none, (.mv (.c (.v (.bool false))))⟩
    .done))
  (.seq (.reg (.one ⟨some s3, none, (.mv (.t s0))⟩
    (.one ⟨some s4, none, (.eqNil 1 true (.t s3))⟩
    (.one ⟨some s5, none, (.mv (.t s4))⟩
    (.one ⟨some s6, some (s5, true), (.mv (.t s0))⟩
    (.one ⟨some s7, some (s5, true), (.nilchk (.t s6))⟩
    (.one ⟨some s8, some (s5, true), (.faddr 0 (.t s7))⟩
    (.one ⟨some s9, some (s5, true), (.load none (.t s8))⟩
    (.one ⟨some s10, some (s5, true), (.bin false .gtr (.t s9) (.c (.v (.int .i64 0))))⟩
    (.one ⟨some s11, none, (.pick (.t s5) (.t s10) (.c (.v (.bool false))))⟩
    (.one ⟨some s2, none, (.mv (.t s11))⟩
    .done)))))))))))
  .ret))⟩
theorem ok28 : compF Try.prog c28 Try.f28 = some ir28 := by kernel_rfl
theorem k_queue_Queue_made {args : List AVal} {σ : AHeap} {Q : AVal → AHeap → Prop} (hl : Nat.ble args.length 12 = true) (h : argsK (Env.full 9) 0 args fun env => evC Try.prog c28 ir28.body env σ (retQ ir28 Q)) : ACalls Try.prog 28 args σ Q :=
  acalls_of Try.func28 ok28 rfl (Nat.le_of_ble_eq_true hl) h
/- queue.text] -/
def c30 : Cfg := ⟨qs, [], 8, [], ps⟩
def ir30 : IFun := ⟨1, [.tmp s2],
  (.seq (.reg (.one ⟨some s2, none, (.mv (.c (.slice 2 [] .full)))⟩
    .done))
  (.seq (.seq (.reg (.one ⟨some s3, none, (.mv (.t s0))⟩
    (.one ⟨some s4, none, (.eqNil 0 false (.t s3))⟩
    .done)))
  (.cond (.t s4) (.seq (.reg (.one ⟨some s2, none, (.mv (.c (.slice 2 [] .full)))⟩
    .done))
  .ret) .skip))
  (.seq (.reg (.one ⟨some s5, none, (.row 2 [])⟩
    (.one ⟨some s6, none, (.mv (.t s0))⟩
    (.one ⟨some s7, none, (.app 2 32 (.t s5) (.t s6))⟩
    (.one ⟨some s2, none, (.mv (.t s7))⟩
    .done)))))
  .ret)))⟩
theorem ok30 : compF Try.prog c30 Try.f30 = some ir30 := by kernel_rfl
theorem k_queue_text {args : List AVal} {σ : AHeap} {Q : AVal → AHeap → Prop} (hl : Nat.ble args.length 8 = true) (h : argsK (Env.full 9) 0 args fun env => evC Try.prog c30 ir30.body env σ (retQ ir30 Q)) : ACalls Try.prog 30 args σ Q :=
  acalls_of Try.func30 ok30 rfl (Nat.le_of_ble_eq_true hl) h
/- queue.text] -/
def c32 : Cfg := ⟨qs, [], 36, [], ps⟩
def ir32 : IFun := ⟨1, [.tmp s2],
  (.seq (.reg (.one ⟨some s2, none, (.mv (.c (.slice 2 [] .full)))⟩
    .done))
  (.seq (.reg (.one ⟨some s3, none, (.mv (.c (.v (.int .i64 0))))⟩
    .done))
  (.seq (.seq (.reg (.one ⟨some s9, none, (.mv (.t s0))⟩
    (.one ⟨some s10, none, (.len false (.t s9))⟩
    (.one ⟨some s11, none, (.mv (.c (.v (.int .i64 0))))⟩
    .done))))
  (.block 0 (.loop (.seq (.reg (.one ⟨some s12, none, (.bin false .lss (.t s11) (.t s10))⟩
    .done))
  (.seq (.cond (.t s12) .skip (.exit 0))
  (.seq (.block 1 (.seq (.reg (.one ⟨some s13, none, (.iaddr 1 (.t s9) (.t s11))⟩
    (.one ⟨some s14, none, (.load none (.t s13))⟩
    (.one ⟨some s5, none, (.mv (.t s14))⟩
    .done))))
  (.seq (.reg (.one ⟨some s15, none, (.mv (.t s3))⟩
    (.one ⟨some s16, none, (.mv (.t s5))⟩
    (.one ⟨some s17, none, (.len false (.t s16))⟩
    (.one ⟨some s18, none, (.bin false .add (.t s15) (.t s17))⟩
    (.one ⟨some s3, none, (.mv (.t s18))⟩
    .done))))))
  (.seq (.reg (.one ⟨some s19, none, (.mv (.t s3))⟩
    (.one ⟨some s20, none, (.bin false .lss (.t s19) (.c (.v (.int .i64 0))))⟩
    .done)))
  (.cond (.t s20) (.reg (.one ⟨some s21, none, .never⟩
    (.one ⟨none, none, .never⟩
    .done))) .skip)))))
  (.reg (.one ⟨some s22, none, (.bin false .add (.t s11) (.c (.v (.int .i64 1))))⟩
    (.one ⟨some s11, none, (.mv (.t s22))⟩
    .done)))))))))
  (.seq (.reg (.one ⟨some s23, none, (.mv (.t s3))⟩
    (.one ⟨some s24, none, (.callq 38 [(.c (.slice 2 [] .full)), (.t s23)])⟩
    (.one ⟨some s6, none, (.mv (.t s24))⟩
    .done))))
  (.seq (.seq (.reg (.one ⟨some s25, none, (.mv (.t s0))⟩
    (.one ⟨some s26, none, (.len false (.t s25))⟩
    (.one ⟨some s27, none, (.mv (.c (.v (.int .i64 0))))⟩
    .done))))
  (.block 2 (.loop (.seq (.reg (.one ⟨some s28, none, (.bin false .lss (.t s27) (.t s26))⟩
    .done))
  (.seq (.cond (.t s28) .skip (.exit 2))
  (.seq (.block 3 (.seq (.reg (.one ⟨some s29, none, (.iaddr 1 (.t s25) (.t s27))⟩
    (.one ⟨some s30, none, (.load none (.t s29))⟩
    (.one ⟨some s8, none, (.mv (.t s30))⟩
    .done))))
  (.reg (.one ⟨some s31, none, (.mv (.t s6))⟩
    (.one ⟨some s32, none, (.mv (.t s8))⟩
    (.one ⟨some s33, none, (.app 2 32 (.t s31) (.t s32))⟩
    (.one ⟨some s6, none, (.mv (.t s33))⟩
    .done)))))))
  (.reg (.one ⟨some s34, none, (.bin false .add (.t s27) (.c (.v (.int .i64 1))))⟩
    (.one ⟨some s27, none, (.mv (.t s34))⟩
    .done)))))))))
  (.seq (.reg (.one ⟨some s35, none, (.mv (.t s6))⟩
    (.one ⟨some s2, none, (.mv (.t s35))⟩
    .done)))
  .ret))))))⟩
theorem ok32 : compF Try.prog c32 Try.f32 = some ir32 := by kernel_rfl
theorem k_slices_Concat_queue_text {args : List AVal} {σ : AHeap} {Q : AVal → AHeap → Prop} (hl : Nat.ble args.length 36 = true) (h : argsK (Env.full 9) 0 args fun env => evC Try.prog c32 ir32.body env σ (retQ ir32 Q)) : ACalls Try.prog 32 args σ Q :=
  acalls_of Try.func32 ok32 rfl (Nat.le_of_ble_eq_true hl) h
/- queue.text] -/
def c32m : Cfg := ⟨qs, [22, 29, 30, 31, 34, 44, 49, 53, 76], 36, [], ps⟩
def ir32m : IFun := ⟨1, [.tmp s2],
  (.seq (.reg (.one ⟨some s2, none, (.mv (.c (.slice 2 [] .full)))⟩
    .done))
  (.seq (.reg (.one ⟨some s3, none, (.mv (.c (.v (.int .i64 0))))⟩
    .done))
  (.seq (.seq (.reg (.one ⟨some s9, none, (.mv (.t s0))⟩
    (.one ⟨some s10, none, (.len false (.t s9))⟩
    (.one ⟨some s11, none, (.mv (.c (.v (.int .i64 0))))⟩
    .done))))
  (.block 0 (.loop (.seq (.reg (.one ⟨some s12, none, (.bin false .lss (.t s11) (.t s10))⟩
    .done))
  (.seq (.cond (.t s12) .skip (.exit 0))
  (.seq (.block 1 (.seq (.reg (.one ⟨some s13, none, (.iaddr 1 (.t s9) (.t s11))⟩
    (.one ⟨some s14, none, (.load none (.t s13))⟩
    (.one ⟨some s5, none, (.mv (.t s14))⟩
    .done))))
  (.seq (.reg (.one ⟨some s15, none, (.mv (.t s3))⟩
    (.one ⟨some s16, none, (.mv (.t s5))⟩
    (.one ⟨some s17, none, (.len false (.t s16))⟩
    (.one ⟨some s18, none, (.bin false .add (.t s15) (.t s17))⟩
    (.one ⟨some s3, none, (.mv (.t s18))⟩
    .done))))))
  (.seq (.reg (.one ⟨some s19, none, (.mv (.t s3))⟩
    (.one ⟨some s20, none, (.bin false .lss (.t s19) (.c (.v (.int .i64 0))))⟩
    .done)))
  (.cond (.t s20) (.reg (.one ⟨some s21, none, .never⟩
    (.one ⟨none, none, .never⟩
    .done))) .skip)))))
  (.reg (.one ⟨some s22, none, (.bin false .add (.t s11) (.c (.v (.int .i64 1))))⟩
    (.one ⟨some s11, none, (.mv (.t s22))⟩
    .done)))))))))
  (.seq (.reg (.one ⟨some s23, none, (.mv (.t s3))⟩
    (.one ⟨some s24, none, (.callq 38 [(.c (.slice 2 [] .full)), (.t s23)])⟩
    (.one ⟨some s6, none, (.mv (.t s24))⟩
    .done))))
  (.seq (.seq (.reg (.one ⟨some s25, none, (.mv (.t s0))⟩
    (.one ⟨some s26, none, (.len false (.t s25))⟩
    (.one ⟨some s27, none, (.mv (.c (.v (.int .i64 0))))⟩
    .done))))
  (.block 2 (.loop (.seq (.reg (.one ⟨some s28, none, (.bin false .lss (.t s27) (.t s26))⟩
    .done))
  (.seq (.cond (.t s28) .skip (.exit 2))
  (.seq (.block 3 (.seq (.reg (.one ⟨some s29, none, (.iaddr 1 (.t s25) (.t s27))⟩
    (.one ⟨some s30, none, (.load none (.t s29))⟩
    (.one ⟨some s8, none, (.mv (.t s30))⟩
    .done))))
  (.reg (.one ⟨some s31, none, (.mv (.t s6))⟩
    (.one ⟨some s32, none, (.mv (.t s8))⟩
    (.one ⟨some s33, none, (.appm 2 32 (.t s31) (.t s32))⟩
    (.one ⟨some s6, none, (.mv (.t s33))⟩
    .done)))))))
  (.reg (.one ⟨some s34, none, (.bin false .add (.t s27) (.c (.v (.int .i64 1))))⟩
    (.one ⟨some s27, none, (.mv (.t s34))⟩
    .done)))))))))
  (.seq (.reg (.one ⟨some s35, none, (.mv (.t s6))⟩
    (.one ⟨some s2, none, (.mv (.t s35))⟩
    .done)))
  .ret))))))⟩
theorem ok32m : compF Try.prog c32m Try.f32 = some ir32m := by kernel_rfl
theorem km_slices_Concat_queue_text {args : List AVal} {σ : AHeap} {Q : AVal → AHeap → Prop} (hl : Nat.ble args.length 36 = true) (h : argsK (Env.full 9) 0 args fun env => evC Try.prog c32m ir32m.body env σ (retQ ir32m Q)) : ACalls Try.prog 32 args σ Q :=
  acalls_of Try.func32 ok32m rfl (Nat.le_of_ble_eq_true hl) h
/- queue.text] -/
def c38 : Cfg := ⟨qs, [], 27, [], ps⟩
def ir38 : IFun := ⟨2, [.tmp s4],
  (.seq (.reg (.one ⟨some s4, none, (.mv (.c (.slice 2 [] .full)))⟩
    .done))
  (.seq (.seq (.reg (.one ⟨some s5, none, (.mv (.t s1))⟩
    (.one ⟨some s6, none, (.bin false .lss (.t s5) (.c (.v (.int .i64 0))))⟩
    .done)))
  (.cond (.t s6) (.reg (.one ⟨some s7, none, .never⟩
    (.one ⟨none, none, .never⟩
    .done))) .skip))
  (.seq (.seq (.reg (.one ⟨some s8, none, (.mv (.t s1))⟩
    (.one ⟨some s9, none, (.mv (.t s0))⟩
    (.one ⟨some s10, none, (.cap (.t s9))⟩
    (.one ⟨some s11, none, (.mv (.t s0))⟩
    (.one ⟨some s12, none, (.len false (.t s11))⟩
    (.one ⟨some s13, none, (.bin false .sub (.t s10) (.t s12))⟩
    (.one ⟨some s14, none, (.bin false .sub (.t s8) (.t s13))⟩
    (.one ⟨some s1, none, (.mv (.t s14))⟩
    .done)))))))))
  (.seq (.reg (.one ⟨some s15, none, (.mv (.t s1))⟩
    (.one ⟨some s16, none, (.bin false .gtr (.t s15) (.c (.v (.int .i64 0))))⟩
    .done)))
  (.cond (.t s16) (.reg (.one ⟨some s17, none, (.mv (.t s0))⟩
    (.one ⟨some s18, none, (.mv (.t s0))⟩
    (.one ⟨some s19, none, (.cap (.t s18))⟩
    (.one ⟨some s20, none, (.cut 2 (.t s17) none (some (.t s19)) none)⟩
    (.one ⟨some s21, none, (.mv (.t s1))⟩
    (.one ⟨some s22, none, (.app0 2 32 (.agg [(.v (.int .u64 0)), (.slice 1 [] .full)]) (.t s20) (.t s21))⟩
    (.one ⟨some s23, none, (.mv (.t s0))⟩
    (.one ⟨some s24, none, (.len false (.t s23))⟩
    (.one ⟨some s25, none, (.cut 2 (.t s22) none (some (.t s24)) none)⟩
    (.one ⟨some s0, none, (.mv (.t s25))⟩
    .done))))))))))) .skip)))
  (.seq (.reg (.one ⟨some s26, none, (.mv (.t s0))⟩
    (.one ⟨some s4, none, (.mv (.t s26))⟩
    .done)))
  .ret))))⟩
theorem ok38 : compF Try.prog c38 Try.f38 = some ir38 := by kernel_rfl
theorem k_slices_Grow_queue_text {args : List AVal} {σ : AHeap} {Q : AVal → AHeap → Prop} (hl : Nat.ble args.length 27 = true) (h : argsK (Env.full 9) 0 args fun env => evC Try.prog c38 ir38.body env σ (retQ ir38 Q)) : ACalls Try.prog 38 args σ Q :=
  acalls_of Try.func38 ok38 rfl (Nat.le_of_ble_eq_true hl) h
/- queue.text] -/
def c38m : Cfg := ⟨qs, [22, 29, 30, 31, 34, 44, 49, 53, 76], 27, [], ps⟩
def ir38m : IFun := ⟨2, [.tmp s4],
  (.seq (.reg (.one ⟨some s4, none, (.mv (.c (.slice 2 [] .full)))⟩
    .done))
  (.seq (.seq (.reg (.one ⟨some s5, none, (.mv (.t s1))⟩
    (.one ⟨some s6, none, (.bin false .lss (.t s5) (.c (.v (.int .i64 0))))⟩
    .done)))
  (.cond (.t s6) (.reg (.one ⟨some s7, none, .never⟩
    (.one ⟨none, none, .never⟩
    .done))) .skip))
  (.seq (.seq (.reg (.one ⟨some s8, none, (.mv (.t s1))⟩
    (.one ⟨some s9, none, (.mv (.t s0))⟩
    (.one ⟨some s10, none, (.cap (.t s9))⟩
    (.one ⟨some s11, none, (.mv (.t s0))⟩
    (.one ⟨some s12, none, (.len false (.t s11))⟩
    (.one ⟨some s13, none, (.bin false .sub (.t s10) (.t s12))⟩
    (.one ⟨some s14, none, (.bin false .sub (.t s8) (.t s13))⟩
    (.one ⟨some s1, none, (.mv (.t s14))⟩
    .done)))))))))
  (.seq (.reg (.one ⟨some s15, none, (.mv (.t s1))⟩
    (.one ⟨some s16, none, (.bin false .gtr (.t s15) (.c (.v (.int .i64 0))))⟩
    .done)))
  (.cond (.t s16) (.reg (.one ⟨some s17, none, (.mv (.t s0))⟩
    (.one ⟨some s18, none, (.mv (.t s0))⟩
    (.one ⟨some s19, none, (.cap (.t s18))⟩
    (.one ⟨some s20, none, (.cutc 2 (.t s17) (.t s19))⟩
    (.one ⟨some s21, none, (.mv (.t s1))⟩
    (.one ⟨some s22, none, (.app0 2 32 (.agg [(.v (.int .u64 0)), (.slice 1 [] .full)]) (.t s20) (.t s21))⟩
    (.one ⟨some s23, none, (.mv (.t s0))⟩
    (.one ⟨some s24, none, (.len false (.t s23))⟩
    (.one ⟨some s25, none, (.cutc 2 (.t s22) (.t s24))⟩
    (.one ⟨some s0, none, (.mv (.t s25))⟩
    .done))))))))))) .skip)))
  (.seq (.reg (.one ⟨some s26, none, (.mv (.t s0))⟩
    (.one ⟨some s4, none, (.mv (.t s26))⟩
    .done)))
  .ret))))⟩
theorem ok38m : compF Try.prog c38m Try.f38 = some ir38m := by kernel_rfl
theorem km_slices_Grow_queue_text {args : List AVal} {σ : AHeap} {Q : AVal → AHeap → Prop} (hl : Nat.ble args.length 27 = true) (h : argsK (Env.full 9) 0 args fun env => evC Try.prog c38m ir38m.body env σ (retQ ir38m Q)) : ACalls Try.prog 38 args σ Q :=
  acalls_of Try.func38 ok38m rfl (Nat.le_of_ble_eq_true hl) h
end Go.Proofs.Ytagbbpllbiplkaa
/-
  The bodies of one package, compiled to the framework's language (printed by a program of this session).
-/
namespace Go.Proofs.Ytagbbpllbiplkaa
set_option linter.unusedVariables false
set_option linter.unusedSimpArgs false
open Go Go.Am
/- bowlinelaw04.QueueLives -/
def c3 : Cfg := ⟨qs, [], 272, [], ps⟩
def ir3 : IFun := ⟨2, [.tmp s4],
  (.seq (.reg (.one ⟨some s4, none, (.mv (.c (.v (.bool false))))⟩
    .done))
  (.seq (.reg (.one ⟨some s38, none, (.mv (.t s0))⟩
    (.one ⟨some s39, none, (.callq 5 [(.t s38)])⟩
    (.one ⟨some s37, none, (.mv (.t s39))⟩
    (.one ⟨some s40, none, (.ext (.t s37) 0)⟩
    (.one ⟨some s41, none, (.ext (.t s37) 1)⟩
    (.one ⟨some s5, none, (.mv (.t s40))⟩
    (.one ⟨some s6, none, (.mv (.t s41))⟩
    .done))))))))
  (.seq (.seq (.reg (.one ⟨some s42, none, (.mv (.t s0))⟩
    (.one ⟨some s43, none, (.bin false .lss (.t s42) (.c (.v (.int .i64 1))))⟩
    (.one ⟨some s44, none, (.mv (.t s43))⟩
    (.one ⟨some s45, some (s44, false), (.mv (.t s0))⟩
    (.one ⟨some s46, some (s44, false), (.bin false .gtr (.t s45) (.c (.v (.int .i64 20000))))⟩
    (.one ⟨some s47, none, (.pick (.t s44) (.c (.v (.bool true))) (.t s46))⟩
    .done)))))))
  (.cond (.t s47) (.seq (.reg (.one ⟨some s48, none, (.callq 6 [])⟩
    (.one ⟨some s49, none, (.mv (.t s48))⟩
    (.one ⟨some s50, some (s49, true), (.mv (.t s5))⟩
    (.one ⟨some s51, some (s49, true), (.eqNil 1 false (.t s50))⟩
    (.one ⟨some s52, none, (.pick (.t s49) (.t s51) (.c (.v (.bool false))))⟩
    (.one ⟨some s53, none, (.mv (.t s52))⟩
    (.one ⟨some s54, some (s53, true), (.mv (.t s6))⟩
    (.one ⟨some s55, some (s53, true), (.bin false .eql (.t s54) (.c (.v (.int .i64 1))))⟩
    (.one ⟨some s56, none, (.pick (.t s53) (.t s55) (.c (.v (.bool false))))⟩
    (.one ⟨some s4, none, (.mv (.t s56))⟩
    .done)))))))))))
  .ret) .skip))
  (.seq (.seq (.reg (.one ⟨some s57, none, (.mv (.t s6))⟩
    (.one ⟨some s58, none, (.bin false .neq (.t s57) (.c (.v (.int .i64 0))))⟩
    (.one ⟨some s59, none, (.mv (.t s58))⟩
    (.one ⟨some s60, some (s59, false), (.mv (.t s5))⟩
    (.one ⟨some s61, some (s59, false), (.eqNil 1 false (.t s60))⟩
    (.one ⟨some s62, none, (.pick (.t s59) (.c (.v (.bool true))) (.t s61))⟩
    .done)))))))
  (.cond (.t s62) (.seq (.reg (.one ⟨some s4, none, (.mv (.c (.v (.bool false))))⟩
    .done))
  .ret) .skip))
  (.seq (.reg (.one ⟨some s63, none, (.mv (.t s0))⟩
    (.one ⟨some s64, none, (.build [(.v (.int .i64 0)), (.slice 1 [] .full), (.slice 1 [] .full), (.slice 1 [] .full)] [(0, 1, (.t s63))])⟩
    (.one ⟨some s65, none, (.box 4 (.t s64))⟩
    (.one ⟨some s7, none, (.mv (.t s65))⟩
    .done)))))
  (.seq (.seq (.reg (.one ⟨some s8, none, (.mv (.c (.v (.int .i64 0))))⟩
    .done))
  (.block 0 (.loop (.seq (.seq (.reg (.one ⟨some s66, none, (.mv (.t s8))⟩
    (.one ⟨some s67, none, (.mv (.t s1))⟩
    (.one ⟨some s68, none, (.len false (.t s67))⟩
    (.one ⟨some s69, none, (.bin false .lss (.t s66) (.t s68))⟩
    (.one ⟨some s70, none, (.mv (.t s69))⟩
    (.one ⟨some s71, some (s70, true), (.mv (.t s8))⟩
    (.one ⟨some s72, some (s70, true), (.bin false .lss (.t s71) (.c (.v (.int .i64 100))))⟩
    (.one ⟨some s73, none, (.pick (.t s70) (.t s72) (.c (.v (.bool false))))⟩
    .done)))))))))
  (.cond (.t s73) .skip (.exit 0)))
  (.seq (.block 1 (.seq (.reg (.one ⟨some s76, none, (.mv (.t s1))⟩
    (.one ⟨some s77, none, (.mv (.t s8))⟩
    (.one ⟨some s78, none, (.iaddr 3 (.t s76) (.t s77))⟩
    (.one ⟨some s79, none, (.load (some 3) (.t s78))⟩
    (.one ⟨some s9, none, (.new [(.v (.int .i64 0)), (.v (.int .i64 0)), (.slice 1 [] .full)])⟩
    (.one ⟨none, none, (.store 3 (.t s9) (.t s79))⟩
    .done)))))))
  (.seq (.seq (.reg (.one ⟨some s80, none, (.faddr 2 (.t s9))⟩
    (.one ⟨some s81, none, (.load none (.t s80))⟩
    (.one ⟨some s82, none, (.len false (.t s81))⟩
    (.one ⟨some s83, none, (.bin false .gtr (.t s82) (.c (.v (.int .i64 1100))))⟩
    .done)))))
  (.cond (.t s83) (.seq (.reg (.one ⟨some s84, none, (.callq 6 [])⟩
    (.one ⟨some s4, none, (.mv (.t s84))⟩
    .done)))
  .ret) .skip))
  (.seq (.reg (.one ⟨some s10, none, (.mv (.c (.v (.bool true))))⟩
    .done))
  (.seq (.seq (.reg (.one ⟨some s85, none, (.faddr 0 (.t s9))⟩
    (.one ⟨some s86, none, (.load none (.t s85))⟩
    .done)))
  (.block 2 (.seq (.reg (.one ⟨some s88, none, (.bin false .eql (.t s86) (.c (.v (.int .i64 0))))⟩
    (.one ⟨some s87, none, (.mv (.t s88))⟩
    .done)))
  (.cond (.t s87) (.seq (.reg (.one ⟨some s90, none, (.mv (.t s5))⟩
    (.one ⟨some s91, none, (.faddr 2 (.t s9))⟩
    (.one ⟨some s92, none, (.load none (.t s91))⟩
    (.one ⟨some s93, none, (.call 7 [(.t s90), (.t s92)])⟩
    (.one ⟨some s89, none, (.mv (.t s93))⟩
    (.one ⟨some s94, none, (.ext (.t s89) 0)⟩
    (.one ⟨some s95, none, (.ext (.t s89) 1)⟩
    (.one ⟨some s11, none, (.mv (.t s94))⟩
    (.one ⟨some s12, none, (.mv (.t s95))⟩
    .done))))))))))
  (.seq (.reg (.one ⟨some s97, none, (.mv (.t s7))⟩
    (.one ⟨some s98, none, (.faddr 2 (.t s9))⟩
    (.one ⟨some s99, none, (.load none (.t s98))⟩
    (.one ⟨some s100, none, (.call 8 [(.t s97), (.t s99)])⟩
    (.one ⟨some s96, none, (.mv (.t s100))⟩
    (.one ⟨some s101, none, (.ext (.t s96) 0)⟩
    (.one ⟨some s102, none, (.ext (.t s96) 1)⟩
    (.one ⟨some s13, none, (.mv (.t s101))⟩
    (.one ⟨some s14, none, (.mv (.t s102))⟩
    .done))))))))))
  (.reg (.one ⟨some s103, none, (.mv (.t s11))⟩
    (.one ⟨some s104, none, (.mv (.t s13))⟩
    (.one ⟨some s105, none, (.bin false .eql (.t s103) (.t s104))⟩
    (.one ⟨some s106, none, (.mv (.t s105))⟩
    (.one ⟨some s107, some (s106, true), (.mv (.t s12))⟩
    (.one ⟨some s108, some (s106, true), (.mv (.t s14))⟩
    (.one ⟨some s109, some (s106, true), (.bin false .eql (.t s107) (.t s108))⟩
    (.one ⟨some s110, none, (.pick (.t s106) (.t s109) (.c (.v (.bool false))))⟩
    (.one ⟨some s10, none, (.mv (.t s110))⟩
    .done)))))))))))) (.seq (.reg (.one ⟨some s112, none, (.bin false .eql (.t s86) (.c (.v (.int .i64 1))))⟩
    (.one ⟨some s111, none, (.mv (.t s112))⟩
    .done)))
  (.cond (.t s111) (.seq (.reg (.one ⟨some s114, none, (.mv (.t s5))⟩
    (.one ⟨some s115, none, (.faddr 1 (.t s9))⟩
    (.one ⟨some s116, none, (.load none (.t s115))⟩
    (.one ⟨some s117, none, (.call 9 [(.t s114), (.t s116)])⟩
    (.one ⟨some s113, none, (.mv (.t s117))⟩
    (.one ⟨some s118, none, (.ext (.t s113) 0)⟩
    (.one ⟨some s119, none, (.ext (.t s113) 1)⟩
    (.one ⟨some s120, none, (.ext (.t s113) 2)⟩
    (.one ⟨some s15, none, (.mv (.t s118))⟩
    (.one ⟨some s16, none, (.mv (.t s119))⟩
    (.one ⟨some s17, none, (.mv (.t s120))⟩
    .done))))))))))))
  (.seq (.reg (.one ⟨some s122, none, (.mv (.t s7))⟩
    (.one ⟨some s123, none, (.faddr 1 (.t s9))⟩
    (.one ⟨some s124, none, (.load none (.t s123))⟩
    (.one ⟨some s125, none, (.call 10 [(.t s122), (.t s124)])⟩
    (.one ⟨some s121, none, (.mv (.t s125))⟩
    (.one ⟨some s126, none, (.ext (.t s121) 0)⟩
    (.one ⟨some s127, none, (.ext (.t s121) 1)⟩
    (.one ⟨some s128, none, (.ext (.t s121) 2)⟩
    (.one ⟨some s18, none, (.mv (.t s126))⟩
    (.one ⟨some s19, none, (.mv (.t s127))⟩
    (.one ⟨some s20, none, (.mv (.t s128))⟩
    .done))))))))))))
  (.reg (.one ⟨some s129, none, (.mv (.t s15))⟩
    (.one ⟨some s130, none, (.b2s (.t s129))⟩
    (.one ⟨some s131, none, (.mv (.t s18))⟩
    (.one ⟨some s132, none, (.b2s (.t s131))⟩
    (.one ⟨some s133, none, (.bin false .eql (.t s130) (.t s132))⟩
    (.one ⟨some s134, none, (.mv (.t s133))⟩
    (.one ⟨some s135, some (s134, true), (.mv (.t s16))⟩
    (.one ⟨some s136, some (s134, true), (.mv (.t s19))⟩
    (.one ⟨some s137, some (s134, true), (.bin true .eql (.t s135) (.t s136))⟩
    (.one ⟨some s138, none, (.pick (.t s134) (.t s137) (.c (.v (.bool false))))⟩
    (.one ⟨some s139, none, (.mv (.t s138))⟩
    (.one ⟨some s140, some (s139, true), (.mv (.t s17))⟩
    (.one ⟨some s141, some (s139, true), (.mv (.t s20))⟩
    (.one ⟨some s142, some (s139, true), (.bin false .eql (.t s140) (.t s141))⟩
    (.one ⟨some s143, none, (.pick (.t s139) (.t s142) (.c (.v (.bool false))))⟩
    (.one ⟨some s10, none, (.mv (.t s143))⟩
    .done))))))))))))))))))) (.seq (.reg (.one ⟨some s145, none, (.bin false .eql (.t s86) (.c (.v (.int .i64 2))))⟩
    (.one ⟨some s144, none, (.mv (.t s145))⟩
    .done)))
  (.cond (.t s144) (.reg (.one ⟨some s146, none, (.faddr 1 (.t s9))⟩
    (.one ⟨some s147, none, (.load none (.t s146))⟩
    (.one ⟨some s148, none, (.bin false .lss (.t s147) (.c (.v (.int .i64 0))))⟩
    (.one ⟨some s149, none, (.mv (.t s148))⟩
    (.one ⟨some s150, some (s149, false), (.mv (.t s5))⟩
    (.one ⟨some s151, some (s149, false), (.faddr 1 (.t s9))⟩
    (.one ⟨some s152, some (s149, false), (.load none (.t s151))⟩
    (.one ⟨some s153, some (s149, false), (.conv .u64 (.t s152))⟩
    (.one ⟨some s155, some (s149, false), (.mv (.t s7))⟩
    (.one ⟨some s156, some (s149, false), (.faddr 1 (.t s9))⟩
    (.both (.one ⟨some s154, some (s149, false), (.call 11 [(.t s150), (.t s153)])⟩
    (.one ⟨some s157, some (s149, false), (.load none (.t s156))⟩
    (.one ⟨some s158, some (s149, false), (.conv .u64 (.t s157))⟩
    (.one ⟨some s159, some (s149, false), (.call 12 [(.t s155), (.t s158)])⟩
    (.one ⟨some s160, some (s149, false), (.bin false .eql (.t s154) (.t s159))⟩
    (.one ⟨some s161, none, (.pick (.t s149) (.c (.v (.bool true))) (.t s160))⟩
    (.one ⟨some s10, none, (.mv (.t s161))⟩
    .done))))))) (.one ⟨some s157, some (s149, false), (.load none (.t s156))⟩
    (.one ⟨some s158, some (s149, false), (.conv .u64 (.t s157))⟩
    (.one ⟨some s154, some (s149, false), (.call 11 [(.t s150), (.t s153)])⟩
    (.one ⟨some s159, some (s149, false), (.call 12 [(.t s155), (.t s158)])⟩
    (.one ⟨some s160, some (s149, false), (.bin false .eql (.t s154) (.t s159))⟩
    (.one ⟨some s161, none, (.pick (.t s149) (.c (.v (.bool true))) (.t s160))⟩
    (.one ⟨some s10, none, (.mv (.t s161))⟩
    .done))))))))))))))))))) (.seq (.reg (.one ⟨some s163, none, (.bin false .eql (.t s86) (.c (.v (.int .i64 3))))⟩
    (.one ⟨some s162, none, (.mv (.t s163))⟩
    .done)))
  (.cond (.t s162) (.reg (.one ⟨some s164, none, (.mv (.t s5))⟩
    (.one ⟨some s165, none, (.call 14 [(.t s164)])⟩
    (.one ⟨some s166, none, (.mv (.t s7))⟩
    (.one ⟨some s167, none, (.call 15 [(.t s166)])⟩
    (.one ⟨some s168, none, (.callq 13 [(.t s165), (.t s167)])⟩
    (.one ⟨some s10, none, (.mv (.t s168))⟩
    .done))))))) .skip))))))))))
  (.seq (.reg (.one ⟨some s170, none, (.mv (.t s5))⟩
    (.one ⟨some s171, none, (.callq 16 [(.t s170)])⟩
    (.one ⟨some s169, none, (.mv (.t s171))⟩
    (.one ⟨some s172, none, (.ext (.t s169) 0)⟩
    (.one ⟨some s173, none, (.ext (.t s169) 1)⟩
    (.one ⟨some s174, none, (.ext (.t s169) 2)⟩
    (.one ⟨some s21, none, (.mv (.t s172))⟩
    (.one ⟨some s22, none, (.mv (.t s173))⟩
    (.one ⟨some s23, none, (.mv (.t s174))⟩
    .done))))))))))
  (.seq (.reg (.one ⟨some s176, none, (.mv (.t s7))⟩
    (.one ⟨some s177, none, (.callq 17 [(.t s176)])⟩
    (.one ⟨some s175, none, (.mv (.t s177))⟩
    (.one ⟨some s178, none, (.ext (.t s175) 0)⟩
    (.one ⟨some s179, none, (.ext (.t s175) 1)⟩
    (.one ⟨some s180, none, (.ext (.t s175) 2)⟩
    (.one ⟨some s24, none, (.mv (.t s178))⟩
    (.one ⟨some s25, none, (.mv (.t s179))⟩
    (.one ⟨some s26, none, (.mv (.t s180))⟩
    .done))))))))))
  (.seq (.reg (.one ⟨some s181, none, (.mv (.t s10))⟩
    (.one ⟨some s182, none, (.not (.t s181))⟩
    (.one ⟨some s183, none, (.mv (.t s182))⟩
    (.one ⟨some s184, some (s183, false), (.mv (.t s21))⟩
    (.one ⟨some s185, some (s183, false), (.mv (.t s24))⟩
    (.one ⟨some s186, some (s183, false), (.bin false .neq (.t s184) (.t s185))⟩
    (.one ⟨some s187, none, (.pick (.t s183) (.c (.v (.bool true))) (.t s186))⟩
    (.one ⟨some s188, none, (.mv (.t s187))⟩
    (.one ⟨some s189, some (s188, false), (.mv (.t s22))⟩
    (.one ⟨some s190, some (s188, false), (.b2s (.t s189))⟩
    (.one ⟨some s191, some (s188, false), (.mv (.t s25))⟩
    (.one ⟨some s192, some (s188, false), (.b2s (.t s191))⟩
    (.one ⟨some s193, some (s188, false), (.bin false .neq (.t s190) (.t s192))⟩
    (.one ⟨some s194, none, (.pick (.t s188) (.c (.v (.bool true))) (.t s193))⟩
    (.one ⟨some s195, none, (.mv (.t s194))⟩
    (.one ⟨some s196, some (s195, false), (.mv (.t s23))⟩
    (.one ⟨some s197, some (s195, false), (.mv (.t s26))⟩
    (.one ⟨some s198, some (s195, false), (.bin true .neq (.t s196) (.t s197))⟩
    (.one ⟨some s199, none, (.pick (.t s195) (.c (.v (.bool true))) (.t s198))⟩
    (.one ⟨some s200, none, (.mv (.t s199))⟩
    (.one ⟨some s201, some (s200, false), (.mv (.t s5))⟩
    (.one ⟨some s202, some (s200, false), (.callq 18 [(.t s201)])⟩
    (.one ⟨some s203, some (s200, false), (.mv (.t s7))⟩
    (.one ⟨some s204, some (s200, false), (.callq 19 [(.t s203)])⟩
    (.one ⟨some s205, some (s200, false), (.bin false .neq (.t s202) (.t s204))⟩
    (.one ⟨some s206, none, (.pick (.t s200) (.c (.v (.bool true))) (.t s205))⟩
    (.one ⟨some s207, none, (.mv (.t s206))⟩
    (.one ⟨some s208, some (s207, false), (.mv (.t s5))⟩
    (.one ⟨some s209, some (s207, false), (.callq 20 [(.t s208)])⟩
    (.one ⟨some s210, some (s207, false), (.mv (.t s7))⟩
    (.one ⟨some s211, some (s207, false), (.callq 21 [(.t s210)])⟩
    (.one ⟨some s212, some (s207, false), (.callq 13 [(.t s209), (.t s211)])⟩
    (.one ⟨some s213, some (s207, false), (.not (.t s212))⟩
    (.one ⟨some s214, none, (.pick (.t s207) (.c (.v (.bool true))) (.t s213))⟩
    .done)))))))))))))))))))))))))))))))))))
  (.cond (.t s214) (.seq (.reg (.one ⟨some s4, none, (.mv (.c (.v (.bool false))))⟩
    .done))
  .ret) .skip)))))))))
  (.reg (.one ⟨some s74, none, (.mv (.t s8))⟩
    (.one ⟨some s75, none, (.bin false .add (.t s74) (.c (.v (.int .i64 1))))⟩
    (.one ⟨some s8, none, (.mv (.t s75))⟩
    .done)))))))))
  (.seq (.reg (.one ⟨some s27, none, (.mv (.c (.v (.pointer none))))⟩
    .done))
  (.seq (.reg (.one ⟨some s28, none, (.new [(.v (.int .i64 0)), (.slice 2 [] .full), (.v (.int .i64 0)), (.v (.int .u64 0)), (.v (.int .i64 0))])⟩
    .done))
  (.seq (.reg (.one ⟨some s216, none, (.mv (.t s27))⟩
    (.one ⟨some s217, none, (.row 1 [(.c (.v (.int .u8 1)))])⟩
    (.one ⟨some s218, none, (.call 7 [(.t s216), (.t s217)])⟩
    (.one ⟨some s215, none, (.mv (.t s218))⟩
    (.one ⟨some s219, none, (.ext (.t s215) 0)⟩
    (.one ⟨some s220, none, (.ext (.t s215) 1)⟩
    (.one ⟨some s29, none, (.mv (.t s219))⟩
    (.one ⟨some s30, none, (.mv (.t s220))⟩
    .done)))))))))
  (.seq (.reg (.one ⟨some s222, none, (.call 9 [(.t s28), (.c (.v (.int .i64 1)))])⟩
    (.one ⟨some s221, none, (.mv (.t s222))⟩
    (.one ⟨some s223, none, (.ext (.t s221) 0)⟩
    (.one ⟨some s224, none, (.ext (.t s221) 1)⟩
    (.one ⟨some s225, none, (.ext (.t s221) 2)⟩
    (.one ⟨some s31, none, (.mv (.t s223))⟩
    (.one ⟨some s32, none, (.mv (.t s224))⟩
    (.one ⟨some s33, none, (.mv (.t s225))⟩
    .done)))))))))
  (.seq (.reg (.one ⟨some s227, none, (.mv (.t s27))⟩
    (.one ⟨some s228, none, (.callq 16 [(.t s227)])⟩
    (.one ⟨some s226, none, (.mv (.t s228))⟩
    (.one ⟨some s229, none, (.ext (.t s226) 0)⟩
    (.one ⟨some s230, none, (.ext (.t s226) 1)⟩
    (.one ⟨some s231, none, (.ext (.t s226) 2)⟩
    (.one ⟨some s34, none, (.mv (.t s229))⟩
    (.one ⟨some s35, none, (.mv (.t s230))⟩
    (.one ⟨some s36, none, (.mv (.t s231))⟩
    .done))))))))))
  (.seq (.reg (.one ⟨some s232, none, (.callq 6 [])⟩
    (.one ⟨some s233, none, (.mv (.t s232))⟩
    (.one ⟨some s234, some (s233, true), (.mv (.t s30))⟩
    (.one ⟨some s235, some (s233, true), (.bin false .eql (.t s234) (.c (.v (.int .i64 6))))⟩
    (.one ⟨some s236, none, (.pick (.t s233) (.t s235) (.c (.v (.bool false))))⟩
    (.one ⟨some s237, none, (.mv (.t s236))⟩
    (.one ⟨some s238, some (s237, true), (.mv (.t s33))⟩
    (.one ⟨some s239, some (s237, true), (.bin false .eql (.t s238) (.c (.v (.int .i64 6))))⟩
    (.one ⟨some s240, none, (.pick (.t s237) (.t s239) (.c (.v (.bool false))))⟩
    (.one ⟨some s241, none, (.mv (.t s240))⟩
    (.one ⟨some s242, some (s241, true), (.mv (.t s27))⟩
    (.one ⟨some s243, some (s241, true), (.call 11 [(.t s242), (.c (.v (.int .u64 1)))])⟩
    (.one ⟨some s244, some (s241, true), (.bin false .eql (.t s243) (.c (.v (.int .i64 6))))⟩
    (.one ⟨some s245, none, (.pick (.t s241) (.t s244) (.c (.v (.bool false))))⟩
    (.one ⟨some s246, none, (.mv (.t s245))⟩
    (.one ⟨some s247, some (s246, true), (.call 11 [(.t s28), (.c (.v (.int .u64 1)))])⟩
    (.one ⟨some s248, some (s246, true), (.bin false .eql (.t s247) (.c (.v (.int .i64 6))))⟩
    (.one ⟨some s249, none, (.pick (.t s246) (.t s248) (.c (.v (.bool false))))⟩
    (.one ⟨some s250, none, (.mv (.t s249))⟩
    (.one ⟨some s251, some (s250, true), (.mv (.t s34))⟩
    (.one ⟨some s252, some (s250, true), (.bin false .eql (.t s251) (.c (.v (.int .u64 0))))⟩
    (.one ⟨some s253, none, (.pick (.t s250) (.t s252) (.c (.v (.bool false))))⟩
    (.one ⟨some s254, none, (.mv (.t s253))⟩
    (.one ⟨some s255, some (s254, true), (.mv (.t s27))⟩
    (.one ⟨some s256, some (s254, true), (.callq 18 [(.t s255)])⟩
    (.one ⟨some s257, some (s254, true), (.bin false .eql (.t s256) (.c (.v (.int .i64 0))))⟩
    (.one ⟨some s258, none, (.pick (.t s254) (.t s257) (.c (.v (.bool false))))⟩
    (.one ⟨some s259, none, (.mv (.t s258))⟩
    (.one ⟨some s260, some (s259, true), (.mv (.t s27))⟩
    (.one ⟨some s261, some (s259, true), (.callq 20 [(.t s260)])⟩
    (.one ⟨some s262, some (s259, true), (.len false (.t s261))⟩
    (.one ⟨some s263, some (s259, true), (.call 14 [(.t s28)])⟩
    (.one ⟨some s264, some (s259, true), (.len false (.t s263))⟩
    (.one ⟨some s265, some (s259, true), (.bin false .add (.t s262) (.t s264))⟩
    (.one ⟨some s266, some (s259, true), (.mv (.t s27))⟩
    (.one ⟨some s267, some (s259, true), (.call 14 [(.t s266)])⟩
    (.one ⟨some s268, some (s259, true), (.len false (.t s267))⟩
    (.one ⟨some s269, some (s259, true), (.bin false .add (.t s265) (.t s268))⟩
    (.one ⟨some s270, some (s259, true), (.bin false .eql (.t s269) (.c (.v (.int .i64 0))))⟩
    (.one ⟨some s271, none, (.pick (.t s259) (.t s270) (.c (.v (.bool false))))⟩
    (.one ⟨some s4, none, (.mv (.t s271))⟩
    .done))))))))))))))))))))))))))))))))))))))))))
  .ret))))))))))))⟩
theorem ok3 : compF Try.prog c3 Try.f3 = some ir3 := by kernel_rfl
theorem k_bowlinelaw04_QueueLives {args : List AVal} {σ : AHeap} {Q : AVal → AHeap → Prop} (hl : Nat.ble args.length 272 = true) (h : argsK (Env.full 9) 0 args fun env => evC Try.prog c3 ir3.body env σ (retQ ir3 Q)) : ACalls Try.prog 3 args σ Q :=
  acalls_of Try.func3 ok3 rfl (Nat.le_of_ble_eq_true hl) h
/- bowlinelaw04.alive -/
def c6 : Cfg := ⟨qs, [], 107, [29], ps⟩
def ir6 : IFun := ⟨0, [.tmp s0],
  (.seq (.reg (.one ⟨some s0, none, (.mv (.c (.v (.bool false))))⟩
    .done))
  (.seq (.reg (.one ⟨some s18, none, (.callq 5 [(.c (.v (.int .i64 10)))])⟩
    (.one ⟨some s17, none, (.mv (.t s18))⟩
    (.one ⟨some s19, none, (.ext (.t s17) 0)⟩
    (.one ⟨some s20, none, (.ext (.t s17) 1)⟩
    (.one ⟨some s1, none, (.mv (.t s19))⟩
    (.one ⟨some s2, none, (.mv (.t s20))⟩
    .done)))))))
  (.seq (.seq (.reg (.one ⟨some s21, none, (.mv (.t s2))⟩
    (.one ⟨some s22, none, (.bin false .neq (.t s21) (.c (.v (.int .i64 0))))⟩
    (.one ⟨some s23, none, (.mv (.t s22))⟩
    (.one ⟨some s24, some (s23, false), (.mv (.t s1))⟩
    (.one ⟨some s25, some (s23, false), (.eqNil 1 false (.t s24))⟩
    (.one ⟨some s26, none, (.pick (.t s23) (.c (.v (.bool true))) (.t s25))⟩
    .done)))))))
  (.cond (.t s26) (.seq (.reg (.one ⟨some s0, none, (.mv (.c (.v (.bool false))))⟩
    .done))
  .ret) .skip))
  (.seq (.reg (.one ⟨some s28, none, (.mv (.t s1))⟩
    (.one ⟨some s29, none, (.rowT 1 [(.c (.v (.int .u8 97))), (.c (.v (.int .u8 98)))])⟩
    (.one ⟨some s30, none, (.mark (.t s29))⟩
    (.one ⟨some s31, none, (.call 7 [(.t s28), (.t s30)])⟩
    (.one ⟨some s27, none, (.mv (.t s31))⟩
    (.one ⟨some s32, none, (.ext (.t s27) 0)⟩
    (.one ⟨some s33, none, (.ext (.t s27) 1)⟩
    (.one ⟨some s3, none, (.mv (.t s32))⟩
    (.one ⟨some s4, none, (.mv (.t s33))⟩
    .done))))))))))
  (.seq (.reg (.one ⟨some s35, none, (.mv (.t s1))⟩
    (.one ⟨some s36, none, (.call 9 [(.t s35), (.c (.v (.int .i64 1)))])⟩
    (.one ⟨some s34, none, (.mv (.t s36))⟩
    (.one ⟨some s37, none, (.ext (.t s34) 0)⟩
    (.one ⟨some s38, none, (.ext (.t s34) 1)⟩
    (.one ⟨some s39, none, (.ext (.t s34) 2)⟩
    (.one ⟨some s5, none, (.mv (.t s37))⟩
    (.one ⟨some s6, none, (.mv (.t s38))⟩
    (.one ⟨some s7, none, (.mv (.t s39))⟩
    .done))))))))))
  (.seq (.reg (.one ⟨some s41, none, (.mv (.t s1))⟩
    (.one ⟨some s42, none, (.callq 16 [(.t s41)])⟩
    (.one ⟨some s40, none, (.mv (.t s42))⟩
    (.one ⟨some s43, none, (.ext (.t s40) 0)⟩
    (.one ⟨some s44, none, (.ext (.t s40) 1)⟩
    (.one ⟨some s45, none, (.ext (.t s40) 2)⟩
    (.one ⟨some s8, none, (.mv (.t s43))⟩
    (.one ⟨some s9, none, (.mv (.t s44))⟩
    (.one ⟨some s10, none, (.mv (.t s45))⟩
    .done))))))))))
  (.seq (.reg (.one ⟨some s46, none, (.mv (.t s1))⟩
    (.one ⟨some s47, none, (.call 11 [(.t s46), (.c (.v (.int .u64 1)))])⟩
    (.one ⟨some s11, none, (.mv (.t s47))⟩
    .done))))
  (.seq (.reg (.one ⟨some s49, none, (.mv (.t s1))⟩
    (.one ⟨some s50, none, (.call 9 [(.t s49), (.c (.v (.int .i64 1)))])⟩
    (.one ⟨some s48, none, (.mv (.t s50))⟩
    (.one ⟨some s51, none, (.ext (.t s48) 0)⟩
    (.one ⟨some s52, none, (.ext (.t s48) 1)⟩
    (.one ⟨some s53, none, (.ext (.t s48) 2)⟩
    (.one ⟨some s12, none, (.mv (.t s51))⟩
    (.one ⟨some s13, none, (.mv (.t s52))⟩
    (.one ⟨some s14, none, (.mv (.t s53))⟩
    .done))))))))))
  (.seq (.reg (.one ⟨some s55, none, (.mv (.t s1))⟩
    (.one ⟨some s56, none, (.mk 1 (.v (.int .u8 0)) (.c (.v (.int .i64 11))) (.c (.v (.int .i64 11))))⟩
    (.one ⟨some s57, none, (.call 7 [(.t s55), (.t s56)])⟩
    (.one ⟨some s54, none, (.mv (.t s57))⟩
    (.one ⟨some s58, none, (.ext (.t s54) 0)⟩
    (.one ⟨some s59, none, (.ext (.t s54) 1)⟩
    (.one ⟨some s15, none, (.mv (.t s58))⟩
    (.one ⟨some s16, none, (.mv (.t s59))⟩
    .done)))))))))
  (.seq (.reg (.one ⟨some s60, none, (.mv (.t s3))⟩
    (.one ⟨some s61, none, (.bin false .eql (.t s60) (.c (.v (.int .u64 1))))⟩
    (.one ⟨some s62, none, (.mv (.t s61))⟩
    (.one ⟨some s63, some (s62, true), (.mv (.t s4))⟩
    (.one ⟨some s64, some (s62, true), (.bin false .eql (.t s63) (.c (.v (.int .i64 0))))⟩
    (.one ⟨some s65, none, (.pick (.t s62) (.t s64) (.c (.v (.bool false))))⟩
    (.one ⟨some s66, none, (.mv (.t s65))⟩
    (.one ⟨some s67, some (s66, true), (.mv (.t s5))⟩
    (.one ⟨some s68, some (s66, true), (.b2s (.t s67))⟩
    (.one ⟨some s69, some (s66, true), (.bin false .eql (.t s68) (.c (.v (.string ⟨#[97]⟩))))⟩
    (.one ⟨some s70, none, (.pick (.t s66) (.t s69) (.c (.v (.bool false))))⟩
    (.one ⟨some s71, none, (.mv (.t s70))⟩
    (.one ⟨some s72, some (s71, true), (.mv (.t s6))⟩
    (.one ⟨some s73, some (s71, true), (.not (.t s72))⟩
    (.one ⟨some s74, none, (.pick (.t s71) (.t s73) (.c (.v (.bool false))))⟩
    (.one ⟨some s75, none, (.mv (.t s74))⟩
    (.one ⟨some s76, some (s75, true), (.mv (.t s7))⟩
    (.one ⟨some s77, some (s75, true), (.bin false .eql (.t s76) (.c (.v (.int .i64 0))))⟩
    (.one ⟨some s78, none, (.pick (.t s75) (.t s77) (.c (.v (.bool false))))⟩
    (.one ⟨some s79, none, (.mv (.t s78))⟩
    (.one ⟨some s80, some (s79, true), (.mv (.t s10))⟩
    (.one ⟨some s81, none, (.pick (.t s79) (.t s80) (.c (.v (.bool false))))⟩
    (.one ⟨some s82, none, (.mv (.t s81))⟩
    (.one ⟨some s83, some (s82, true), (.mv (.t s11))⟩
    (.one ⟨some s84, some (s82, true), (.bin false .eql (.t s83) (.c (.v (.int .i64 7))))⟩
    (.one ⟨some s85, none, (.pick (.t s82) (.t s84) (.c (.v (.bool false))))⟩
    (.one ⟨some s86, none, (.mv (.t s85))⟩
    (.one ⟨some s87, some (s86, true), (.mv (.t s12))⟩
    (.one ⟨some s88, some (s86, true), (.b2s (.t s87))⟩
    (.one ⟨some s89, some (s86, true), (.bin false .eql (.t s88) (.c (.v (.string ⟨#[98]⟩))))⟩
    (.one ⟨some s90, none, (.pick (.t s86) (.t s89) (.c (.v (.bool false))))⟩
    (.one ⟨some s91, none, (.mv (.t s90))⟩
    (.one ⟨some s92, some (s91, true), (.mv (.t s13))⟩
    (.one ⟨some s93, none, (.pick (.t s91) (.t s92) (.c (.v (.bool false))))⟩
    (.one ⟨some s94, none, (.mv (.t s93))⟩
    (.one ⟨some s95, some (s94, true), (.mv (.t s14))⟩
    (.one ⟨some s96, some (s94, true), (.bin false .eql (.t s95) (.c (.v (.int .i64 0))))⟩
    (.one ⟨some s97, none, (.pick (.t s94) (.t s96) (.c (.v (.bool false))))⟩
    (.one ⟨some s98, none, (.mv (.t s97))⟩
    (.one ⟨some s99, some (s98, true), (.mv (.t s16))⟩
    (.one ⟨some s100, some (s98, true), (.bin false .eql (.t s99) (.c (.v (.int .i64 5))))⟩
    (.one ⟨some s101, none, (.pick (.t s98) (.t s100) (.c (.v (.bool false))))⟩
    (.one ⟨some s102, none, (.mv (.t s101))⟩
    (.one ⟨some s103, some (s102, true), (.mv (.t s1))⟩
    (.one ⟨some s104, some (s102, true), (.callq 18 [(.t s103)])⟩
    (.one ⟨some s105, some (s102, true), (.bin false .eql (.t s104) (.c (.v (.int .i64 0))))⟩
    (.one ⟨some s106, none, (.pick (.t s102) (.t s105) (.c (.v (.bool false))))⟩
    (.one ⟨some s0, none, (.mv (.t s106))⟩
    .done)))))))))))))))))))))))))))))))))))))))))))))))))
  .ret))))))))))⟩
theorem ok6 : compF Try.prog c6 Try.f6 = some ir6 := by kernel_rfl
theorem k_bowlinelaw04_alive {args : List AVal} {σ : AHeap} {Q : AVal → AHeap → Prop} (hl : Nat.ble args.length 107 = true) (h : argsK (Env.full 9) 0 args fun env => evC Try.prog c6 ir6.body env σ (retQ ir6 Q)) : ACalls Try.prog 6 args σ Q :=
  acalls_of Try.func6 ok6 rfl (Nat.le_of_ble_eq_true hl) h
/- bowlinelaw04.same -/
def c13 : Cfg := ⟨qs, [], 26, [], ps⟩
def ir13 : IFun := ⟨2, [.tmp s4],
  (.seq (.reg (.one ⟨some s4, none, (.mv (.c (.v (.bool false))))⟩
    .done))
  (.seq (.seq (.reg (.one ⟨some s6, none, (.mv (.t s0))⟩
    (.one ⟨some s7, none, (.len false (.t s6))⟩
    (.one ⟨some s8, none, (.mv (.t s1))⟩
    (.one ⟨some s9, none, (.len false (.t s8))⟩
    (.one ⟨some s10, none, (.bin false .neq (.t s7) (.t s9))⟩
    .done))))))
  (.cond (.t s10) (.seq (.reg (.one ⟨some s4, none, (.mv (.c (.v (.bool false))))⟩
    .done))
  .ret) .skip))
  (.seq (.seq (.reg (.one ⟨some s5, none, (.mv (.c (.v (.int .i64 0))))⟩
    .done))
  (.block 0 (.loop (.seq (.seq (.reg (.one ⟨some s11, none, (.mv (.t s5))⟩
    (.one ⟨some s12, none, (.mv (.t s0))⟩
    (.one ⟨some s13, none, (.len false (.t s12))⟩
    (.one ⟨some s14, none, (.bin false .lss (.t s11) (.t s13))⟩
    .done)))))
  (.cond (.t s14) .skip (.exit 0)))
  (.seq (.block 1 (.seq (.reg (.one ⟨some s17, none, (.mv (.t s0))⟩
    (.one ⟨some s18, none, (.mv (.t s5))⟩
    (.one ⟨some s19, none, (.iaddr 1 (.t s17) (.t s18))⟩
    (.one ⟨some s20, none, (.load none (.t s19))⟩
    (.one ⟨some s21, none, (.mv (.t s1))⟩
    (.one ⟨some s22, none, (.mv (.t s5))⟩
    (.one ⟨some s23, none, (.iaddr 1 (.t s21) (.t s22))⟩
    (.one ⟨some s24, none, (.load none (.t s23))⟩
    (.one ⟨some s25, none, (.bin false .neq (.t s20) (.t s24))⟩
    .done))))))))))
  (.cond (.t s25) (.seq (.reg (.one ⟨some s4, none, (.mv (.c (.v (.bool false))))⟩
    .done))
  .ret) .skip)))
  (.reg (.one ⟨some s15, none, (.mv (.t s5))⟩
    (.one ⟨some s16, none, (.bin false .add (.t s15) (.c (.v (.int .i64 1))))⟩
    (.one ⟨some s5, none, (.mv (.t s16))⟩
    .done)))))))))
  (.seq (.reg (.one ⟨some s4, none, (.mv (.c (.v (.bool true))))⟩
    .done))
  .ret))))⟩
theorem ok13 : compF Try.prog c13 Try.f13 = some ir13 := by kernel_rfl
theorem k_bowlinelaw04_same {args : List AVal} {σ : AHeap} {Q : AVal → AHeap → Prop} (hl : Nat.ble args.length 26 = true) (h : argsK (Env.full 9) 0 args fun env => evC Try.prog c13 ir13.body env σ (retQ ir13 Q)) : ACalls Try.prog 13 args σ Q :=
  acalls_of Try.func13 ok13 rfl (Nat.le_of_ble_eq_true hl) h
end Go.Proofs.Ytagbbpllbiplkaa
/-
  The bodies of one package, compiled to the framework's language (printed by a program of this session).
-/
namespace Go.Proofs.Ytagbbpllbiplkaa
set_option linter.unusedVariables false
set_option linter.unusedSimpArgs false
open Go Go.Am
/- bowlineref04.Queue).Push -/
def c8 : Cfg := ⟨qs, [], 65, [], ps⟩
def ir8 : IFun := ⟨2, [.tmp s4, .tmp s5],
  (.seq (.reg (.one ⟨some s4, none, (.mv (.c (.v (.int .u64 0))))⟩
    (.one ⟨some s5, none, (.mv (.c (.v (.int .i64 0))))⟩
    .done)))
  (.seq (.seq (.reg (.one ⟨some s7, none, (.mv (.t s1))⟩
    (.one ⟨some s8, none, (.len false (.t s7))⟩
    (.one ⟨some s9, none, (.bin false .eql (.t s8) (.c (.v (.int .i64 0))))⟩
    .done))))
  (.cond (.t s9) (.seq (.reg (.one ⟨some s4, none, (.mv (.c (.v (.int .u64 0))))⟩
    (.one ⟨some s5, none, (.mv (.c (.v (.int .i64 1))))⟩
    .done)))
  .ret) .skip))
  (.seq (.seq (.reg (.one ⟨some s10, none, (.mv (.t s1))⟩
    (.one ⟨some s11, none, (.len false (.t s10))⟩
    (.one ⟨some s12, none, (.bin false .gtr (.t s11) (.c (.v (.int .i64 1000))))⟩
    .done))))
  (.cond (.t s12) (.seq (.reg (.one ⟨some s4, none, (.mv (.c (.v (.int .u64 0))))⟩
    (.one ⟨some s5, none, (.mv (.c (.v (.int .i64 2))))⟩
    .done)))
  .ret) .skip))
  (.seq (.seq (.reg (.one ⟨some s13, none, (.mv (.t s0))⟩
    (.one ⟨some s14, none, (.callq 21 [(.t s13)])⟩
    (.one ⟨some s15, none, (.len false (.t s14))⟩
    (.one ⟨some s16, none, (.bin false .geq (.t s15) (.c (.v (.int .i64 64))))⟩
    (.one ⟨some s17, none, (.mv (.t s16))⟩
    (.one ⟨some s18, some (s17, false), (.mv (.t s0))⟩
    (.one ⟨some s20, some (s17, false), (.mv (.t s1))⟩
    (.one ⟨some s21, some (s17, false), (.len false (.t s20))⟩
    (.one ⟨some s23, some (s17, false), (.mv (.t s0))⟩
    (.one ⟨some s24, some (s17, false), (.nilchk (.t s23))⟩
    (.one ⟨some s25, some (s17, false), (.faddr 0 (.t s24))⟩
    (.one ⟨some s26, some (s17, false), (.load none (.t s25))⟩
    (.one ⟨some s19, some (s17, false), (.callq 19 [(.t s18)])⟩
    (.one ⟨some s22, some (s17, false), (.bin false .add (.t s19) (.t s21))⟩
    (.one ⟨some s27, some (s17, false), (.bin false .gtr (.t s22) (.t s26))⟩
    (.one ⟨some s28, none, (.pick (.t s17) (.c (.v (.bool true))) (.t s27))⟩
    .done)))))))))))))))))
  (.cond (.t s28) (.seq (.reg (.one ⟨some s4, none, (.mv (.c (.v (.int .u64 0))))⟩
    (.one ⟨some s5, none, (.mv (.c (.v (.int .i64 5))))⟩
    .done)))
  .ret) .skip))
  (.seq (.reg (.one ⟨some s6, none, (.mv (.c (.slice 1 [] .full)))⟩
    .done))
  (.seq (.reg (.one ⟨some s29, none, (.mv (.t s0))⟩
    (.one ⟨some s30, none, (.mv (.t s0))⟩
    (.one ⟨some s31, none, (.mv (.t s0))⟩
    (.one ⟨some s32, none, (.mv (.t s0))⟩
    (.one ⟨some s33, none, (.nilchk (.t s32))⟩
    (.one ⟨some s34, none, (.faddr 1 (.t s33))⟩
    (.one ⟨some s35, none, (.load none (.t s34))⟩
    (.one ⟨some s36, none, (.mv (.t s6))⟩
    (.one ⟨some s37, none, (.mv (.t s1))⟩
    (.one ⟨some s41, none, (.mv (.t s0))⟩
    (.one ⟨some s42, none, (.nilchk (.t s41))⟩
    (.one ⟨some s43, none, (.faddr 2 (.t s42))⟩
    (.one ⟨some s44, none, (.load none (.t s43))⟩
    (.one ⟨some s45, none, (.row 1 [(.c (.v (.int .i64 0)))])⟩
    (.one ⟨some s47, none, (.mv (.t s0))⟩
    (.one ⟨some s48, none, (.nilchk (.t s47))⟩
    (.one ⟨some s49, none, (.faddr 3 (.t s48))⟩
    (.one ⟨some s50, none, (.load none (.t s49))⟩
    (.one ⟨some s51, none, (.row 1 [(.c (.v (.bool false)))])⟩
    (.one ⟨some s38, none, (.app 1 1 (.t s36) (.t s37))⟩
    (.one ⟨some s39, none, (.row 1 [(.t s38)])⟩
    (.one ⟨some s40, none, (.app 1 24 (.t s35) (.t s39))⟩
    (.one ⟨some s46, none, (.app 1 8 (.t s44) (.t s45))⟩
    (.one ⟨some s52, none, (.app 1 1 (.t s50) (.t s51))⟩
    (.one ⟨some s53, none, (.nilchk (.t s29))⟩
    (.one ⟨some s54, none, (.faddr 1 (.t s53))⟩
    (.one ⟨none, none, (.store 1 (.t s54) (.t s40))⟩
    (.one ⟨some s55, none, (.nilchk (.t s30))⟩
    (.one ⟨some s56, none, (.faddr 2 (.t s55))⟩
    (.one ⟨none, none, (.store 1 (.t s56) (.t s46))⟩
    (.one ⟨some s57, none, (.nilchk (.t s31))⟩
    (.one ⟨some s58, none, (.faddr 3 (.t s57))⟩
    (.one ⟨none, none, (.store 1 (.t s58) (.t s52))⟩
    .done))))))))))))))))))))))))))))))))))
  (.seq (.reg (.one ⟨some s59, none, (.mv (.t s0))⟩
    (.one ⟨some s60, none, (.nilchk (.t s59))⟩
    (.one ⟨some s61, none, (.faddr 1 (.t s60))⟩
    (.one ⟨some s62, none, (.load none (.t s61))⟩
    (.one ⟨some s63, none, (.len false (.t s62))⟩
    (.one ⟨some s64, none, (.conv .u64 (.t s63))⟩
    (.one ⟨some s4, none, (.mv (.t s64))⟩
    (.one ⟨some s5, none, (.mv (.c (.v (.int .i64 0))))⟩
    .done)))))))))
  .ret)))))))⟩
theorem ok8 : compF Try.prog c8 Try.f8 = some ir8 := by kernel_rfl
theorem k_bowlineref04_Queue_Push {args : List AVal} {σ : AHeap} {Q : AVal → AHeap → Prop} (hl : Nat.ble args.length 65 = true) (h : argsK (Env.full 9) 0 args fun env => evC Try.prog c8 ir8.body env σ (retQ ir8 Q)) : ACalls Try.prog 8 args σ Q :=
  acalls_of Try.func8 ok8 rfl (Nat.le_of_ble_eq_true hl) h
/- bowlineref04.Queue).Push -/
def c8m : Cfg := ⟨qs, [30, 31], 65, [], ps⟩
def ir8m : IFun := ⟨2, [.tmp s4, .tmp s5],
  (.seq (.reg (.one ⟨some s4, none, (.mv (.c (.v (.int .u64 0))))⟩
    (.one ⟨some s5, none, (.mv (.c (.v (.int .i64 0))))⟩
    .done)))
  (.seq (.seq (.reg (.one ⟨some s7, none, (.mv (.t s1))⟩
    (.one ⟨some s8, none, (.len false (.t s7))⟩
    (.one ⟨some s9, none, (.bin false .eql (.t s8) (.c (.v (.int .i64 0))))⟩
    .done))))
  (.cond (.t s9) (.seq (.reg (.one ⟨some s4, none, (.mv (.c (.v (.int .u64 0))))⟩
    (.one ⟨some s5, none, (.mv (.c (.v (.int .i64 1))))⟩
    .done)))
  .ret) .skip))
  (.seq (.seq (.reg (.one ⟨some s10, none, (.mv (.t s1))⟩
    (.one ⟨some s11, none, (.len false (.t s10))⟩
    (.one ⟨some s12, none, (.bin false .gtr (.t s11) (.c (.v (.int .i64 1000))))⟩
    .done))))
  (.cond (.t s12) (.seq (.reg (.one ⟨some s4, none, (.mv (.c (.v (.int .u64 0))))⟩
    (.one ⟨some s5, none, (.mv (.c (.v (.int .i64 2))))⟩
    .done)))
  .ret) .skip))
  (.seq (.seq (.reg (.one ⟨some s13, none, (.mv (.t s0))⟩
    (.one ⟨some s14, none, (.callq 21 [(.t s13)])⟩
    (.one ⟨some s15, none, (.len false (.t s14))⟩
    (.one ⟨some s16, none, (.bin false .geq (.t s15) (.c (.v (.int .i64 64))))⟩
    (.one ⟨some s17, none, (.mv (.t s16))⟩
    (.one ⟨some s18, some (s17, false), (.mv (.t s0))⟩
    (.one ⟨some s20, some (s17, false), (.mv (.t s1))⟩
    (.one ⟨some s21, some (s17, false), (.len false (.t s20))⟩
    (.one ⟨some s23, some (s17, false), (.mv (.t s0))⟩
    (.one ⟨some s24, some (s17, false), (.nilchk (.t s23))⟩
    (.one ⟨some s25, some (s17, false), (.faddr 0 (.t s24))⟩
    (.one ⟨some s26, some (s17, false), (.load none (.t s25))⟩
    (.one ⟨some s19, some (s17, false), (.callq 19 [(.t s18)])⟩
    (.one ⟨some s22, some (s17, false), (.bin false .add (.t s19) (.t s21))⟩
    (.one ⟨some s27, some (s17, false), (.bin false .gtr (.t s22) (.t s26))⟩
    (.one ⟨some s28, none, (.pick (.t s17) (.c (.v (.bool true))) (.t s27))⟩
    .done)))))))))))))))))
  (.cond (.t s28) (.seq (.reg (.one ⟨some s4, none, (.mv (.c (.v (.int .u64 0))))⟩
    (.one ⟨some s5, none, (.mv (.c (.v (.int .i64 5))))⟩
    .done)))
  .ret) .skip))
  (.seq (.reg (.one ⟨some s6, none, (.mv (.c (.slice 1 [] .full)))⟩
    .done))
  (.seq (.reg (.one ⟨some s29, none, (.mv (.t s0))⟩
    (.one ⟨some s30, none, (.mv (.t s0))⟩
    (.one ⟨some s31, none, (.mv (.t s0))⟩
    (.one ⟨some s32, none, (.mv (.t s0))⟩
    (.one ⟨some s33, none, (.nilchk (.t s32))⟩
    (.one ⟨some s34, none, (.faddr 1 (.t s33))⟩
    (.one ⟨some s35, none, (.load none (.t s34))⟩
    (.one ⟨some s36, none, (.mv (.t s6))⟩
    (.one ⟨some s37, none, (.mv (.t s1))⟩
    (.one ⟨some s41, none, (.mv (.t s0))⟩
    (.one ⟨some s42, none, (.nilchk (.t s41))⟩
    (.one ⟨some s43, none, (.faddr 2 (.t s42))⟩
    (.one ⟨some s44, none, (.load none (.t s43))⟩
    (.one ⟨some s45, none, (.row 1 [(.c (.v (.int .i64 0)))])⟩
    (.one ⟨some s47, none, (.mv (.t s0))⟩
    (.one ⟨some s48, none, (.nilchk (.t s47))⟩
    (.one ⟨some s49, none, (.faddr 3 (.t s48))⟩
    (.one ⟨some s51, none, (.row 1 [(.c (.v (.bool false)))])⟩
    (.both (.one ⟨some s38, none, (.app 1 1 (.t s36) (.t s37))⟩
    (.one ⟨some s39, none, (.row 1 [(.t s38)])⟩
    (.both (.one ⟨some s40, none, (.app 1 24 (.t s35) (.t s39))⟩
    (.both (.one ⟨some s46, none, (.appm 1 8 (.t s44) (.t s45))⟩
    (.one ⟨some s50, none, (.load none (.t s49))⟩
    (.one ⟨some s52, none, (.appm 1 1 (.t s50) (.t s51))⟩
    (.one ⟨some s53, none, (.nilchk (.t s29))⟩
    (.one ⟨some s54, none, (.faddr 1 (.t s53))⟩
    (.one ⟨none, none, (.store 1 (.t s54) (.t s40))⟩
    (.one ⟨some s55, none, (.nilchk (.t s30))⟩
    (.one ⟨some s56, none, (.faddr 2 (.t s55))⟩
    (.one ⟨none, none, (.store 1 (.t s56) (.t s46))⟩
    (.one ⟨some s57, none, (.nilchk (.t s31))⟩
    (.one ⟨some s58, none, (.faddr 3 (.t s57))⟩
    (.one ⟨none, none, (.store 1 (.t s58) (.t s52))⟩
    .done)))))))))))) (.one ⟨some s50, none, (.load none (.t s49))⟩
    (.one ⟨some s46, none, (.appm 1 8 (.t s44) (.t s45))⟩
    (.one ⟨some s52, none, (.appm 1 1 (.t s50) (.t s51))⟩
    (.one ⟨some s53, none, (.nilchk (.t s29))⟩
    (.one ⟨some s54, none, (.faddr 1 (.t s53))⟩
    (.one ⟨none, none, (.store 1 (.t s54) (.t s40))⟩
    (.one ⟨some s55, none, (.nilchk (.t s30))⟩
    (.one ⟨some s56, none, (.faddr 2 (.t s55))⟩
    (.one ⟨none, none, (.store 1 (.t s56) (.t s46))⟩
    (.one ⟨some s57, none, (.nilchk (.t s31))⟩
    (.one ⟨some s58, none, (.faddr 3 (.t s57))⟩
    (.one ⟨none, none, (.store 1 (.t s58) (.t s52))⟩
    .done)))))))))))))) (.one ⟨some s50, none, (.load none (.t s49))⟩
    (.one ⟨some s40, none, (.app 1 24 (.t s35) (.t s39))⟩
    (.one ⟨some s46, none, (.appm 1 8 (.t s44) (.t s45))⟩
    (.one ⟨some s52, none, (.appm 1 1 (.t s50) (.t s51))⟩
    (.one ⟨some s53, none, (.nilchk (.t s29))⟩
    (.one ⟨some s54, none, (.faddr 1 (.t s53))⟩
    (.one ⟨none, none, (.store 1 (.t s54) (.t s40))⟩
    (.one ⟨some s55, none, (.nilchk (.t s30))⟩
    (.one ⟨some s56, none, (.faddr 2 (.t s55))⟩
    (.one ⟨none, none, (.store 1 (.t s56) (.t s46))⟩
    (.one ⟨some s57, none, (.nilchk (.t s31))⟩
    (.one ⟨some s58, none, (.faddr 3 (.t s57))⟩
    (.one ⟨none, none, (.store 1 (.t s58) (.t s52))⟩
    .done)))))))))))))))) (.one ⟨some s50, none, (.load none (.t s49))⟩
    (.one ⟨some s38, none, (.app 1 1 (.t s36) (.t s37))⟩
    (.one ⟨some s39, none, (.row 1 [(.t s38)])⟩
    (.one ⟨some s40, none, (.app 1 24 (.t s35) (.t s39))⟩
    (.one ⟨some s46, none, (.appm 1 8 (.t s44) (.t s45))⟩
    (.one ⟨some s52, none, (.appm 1 1 (.t s50) (.t s51))⟩
    (.one ⟨some s53, none, (.nilchk (.t s29))⟩
    (.one ⟨some s54, none, (.faddr 1 (.t s53))⟩
    (.one ⟨none, none, (.store 1 (.t s54) (.t s40))⟩
    (.one ⟨some s55, none, (.nilchk (.t s30))⟩
    (.one ⟨some s56, none, (.faddr 2 (.t s55))⟩
    (.one ⟨none, none, (.store 1 (.t s56) (.t s46))⟩
    (.one ⟨some s57, none, (.nilchk (.t s31))⟩
    (.one ⟨some s58, none, (.faddr 3 (.t s57))⟩
    (.one ⟨none, none, (.store 1 (.t s58) (.t s52))⟩
    .done)))))))))))))))))))))))))))))))))))
  (.seq (.reg (.one ⟨some s59, none, (.mv (.t s0))⟩
    (.one ⟨some s60, none, (.nilchk (.t s59))⟩
    (.one ⟨some s61, none, (.faddr 1 (.t s60))⟩
    (.one ⟨some s62, none, (.load none (.t s61))⟩
    (.one ⟨some s63, none, (.len false (.t s62))⟩
    (.one ⟨some s64, none, (.conv .u64 (.t s63))⟩
    (.one ⟨some s4, none, (.mv (.t s64))⟩
    (.one ⟨some s5, none, (.mv (.c (.v (.int .i64 0))))⟩
    .done)))))))))
  .ret)))))))⟩
theorem ok8m : compF Try.prog c8m Try.f8 = some ir8m := by kernel_rfl
theorem km_bowlineref04_Queue_Push {args : List AVal} {σ : AHeap} {Q : AVal → AHeap → Prop} (hl : Nat.ble args.length 65 = true) (h : argsK (Env.full 9) 0 args fun env => evC Try.prog c8m ir8m.body env σ (retQ ir8m Q)) : ACalls Try.prog 8 args σ Q :=
  acalls_of Try.func8 ok8m rfl (Nat.le_of_ble_eq_true hl) h
/- bowlineref04.Queue).Take -/
def c10 : Cfg := ⟨qs, [], 89, [], ps⟩
def ir10 : IFun := ⟨2, [.tmp s4, .tmp s5, .tmp s6],
  (.seq (.reg (.one ⟨some s4, none, (.mv (.c (.slice 1 [] .full)))⟩
    (.one ⟨some s5, none, (.mv (.c (.v (.bool false))))⟩
    (.one ⟨some s6, none, (.mv (.c (.v (.int .i64 0))))⟩
    .done))))
  (.seq (.reg (.one ⟨some s10, none, (.mv (.t s0))⟩
    (.one ⟨some s11, none, (.callq 31 [(.t s10)])⟩
    (.one ⟨some s7, none, (.mv (.t s11))⟩
    .done))))
  (.seq (.seq (.reg (.one ⟨some s12, none, (.mv (.t s7))⟩
    (.one ⟨some s13, none, (.bin false .lss (.t s12) (.c (.v (.int .i64 0))))⟩
    .done)))
  (.cond (.t s13) (.seq (.reg (.one ⟨some s4, none, (.mv (.c (.slice 1 [] .full)))⟩
    (.one ⟨some s5, none, (.mv (.c (.v (.bool false))))⟩
    (.one ⟨some s6, none, (.mv (.c (.v (.int .i64 4))))⟩
    .done))))
  .ret) .skip))
  (.seq (.reg (.one ⟨some s14, none, (.mv (.t s0))⟩
    (.one ⟨some s15, none, (.nilchk (.t s14))⟩
    (.one ⟨some s16, none, (.faddr 1 (.t s15))⟩
    (.one ⟨some s17, none, (.load none (.t s16))⟩
    (.one ⟨some s18, none, (.mv (.t s7))⟩
    (.one ⟨some s19, none, (.iaddr 1 (.t s17) (.t s18))⟩
    (.one ⟨some s20, none, (.load none (.t s19))⟩
    (.one ⟨some s21, none, (.len false (.t s20))⟩
    (.one ⟨some s22, none, (.mv (.t s0))⟩
    (.one ⟨some s23, none, (.nilchk (.t s22))⟩
    (.one ⟨some s24, none, (.faddr 2 (.t s23))⟩
    (.one ⟨some s25, none, (.load none (.t s24))⟩
    (.one ⟨some s26, none, (.mv (.t s7))⟩
    (.one ⟨some s27, none, (.iaddr 1 (.t s25) (.t s26))⟩
    (.one ⟨some s28, none, (.load none (.t s27))⟩
    (.one ⟨some s29, none, (.bin false .sub (.t s21) (.t s28))⟩
    (.one ⟨some s8, none, (.mv (.t s29))⟩
    .done))))))))))))))))))
  (.seq (.seq (.reg (.one ⟨some s30, none, (.mv (.t s1))⟩
    (.one ⟨some s31, none, (.bin false .lss (.t s30) (.c (.v (.int .i64 1))))⟩
    (.one ⟨some s32, none, (.mv (.t s31))⟩
    (.one ⟨some s33, some (s32, false), (.mv (.t s1))⟩
    (.one ⟨some s34, some (s32, false), (.mv (.t s8))⟩
    (.one ⟨some s35, some (s32, false), (.bin false .gtr (.t s33) (.t s34))⟩
    (.one ⟨some s36, none, (.pick (.t s32) (.c (.v (.bool true))) (.t s35))⟩
    .done))))))))
  (.cond (.t s36) (.seq (.reg (.one ⟨some s4, none, (.mv (.c (.slice 1 [] .full)))⟩
    (.one ⟨some s5, none, (.mv (.c (.v (.bool false))))⟩
    (.one ⟨some s6, none, (.mv (.c (.v (.int .i64 1))))⟩
    .done))))
  .ret) .skip))
  (.seq (.reg (.one ⟨some s37, none, (.mv (.t s0))⟩
    (.one ⟨some s38, none, (.nilchk (.t s37))⟩
    (.one ⟨some s39, none, (.faddr 1 (.t s38))⟩
    (.one ⟨some s40, none, (.load none (.t s39))⟩
    (.one ⟨some s41, none, (.mv (.t s7))⟩
    (.one ⟨some s42, none, (.iaddr 1 (.t s40) (.t s41))⟩
    (.one ⟨some s43, none, (.load none (.t s42))⟩
    (.one ⟨some s44, none, (.mv (.t s0))⟩
    (.one ⟨some s45, none, (.nilchk (.t s44))⟩
    (.one ⟨some s46, none, (.faddr 2 (.t s45))⟩
    (.one ⟨some s47, none, (.load none (.t s46))⟩
    (.one ⟨some s48, none, (.mv (.t s7))⟩
    (.one ⟨some s49, none, (.iaddr 1 (.t s47) (.t s48))⟩
    (.one ⟨some s50, none, (.load none (.t s49))⟩
    (.one ⟨some s51, none, (.mv (.t s0))⟩
    (.one ⟨some s52, none, (.nilchk (.t s51))⟩
    (.one ⟨some s53, none, (.faddr 2 (.t s52))⟩
    (.one ⟨some s54, none, (.load none (.t s53))⟩
    (.one ⟨some s55, none, (.mv (.t s7))⟩
    (.one ⟨some s56, none, (.iaddr 1 (.t s54) (.t s55))⟩
    (.one ⟨some s57, none, (.load none (.t s56))⟩
    (.one ⟨some s58, none, (.mv (.t s1))⟩
    (.one ⟨some s59, none, (.bin false .add (.t s57) (.t s58))⟩
    (.one ⟨some s60, none, (.cut 1 (.t s43) (some (.t s50)) (some (.t s59)) none)⟩
    (.one ⟨some s9, none, (.mv (.t s60))⟩
    .done))))))))))))))))))))))))))
  (.seq (.reg (.one ⟨some s61, none, (.mv (.t s0))⟩
    (.one ⟨some s62, none, (.nilchk (.t s61))⟩
    (.one ⟨some s63, none, (.faddr 2 (.t s62))⟩
    (.one ⟨some s64, none, (.load none (.t s63))⟩
    (.one ⟨some s65, none, (.mv (.t s7))⟩
    (.one ⟨some s66, none, (.mv (.t s0))⟩
    (.one ⟨some s67, none, (.nilchk (.t s66))⟩
    (.one ⟨some s68, none, (.faddr 2 (.t s67))⟩
    (.one ⟨some s69, none, (.load none (.t s68))⟩
    (.one ⟨some s70, none, (.mv (.t s7))⟩
    (.one ⟨some s71, none, (.iaddr 1 (.t s69) (.t s70))⟩
    (.one ⟨some s72, none, (.load none (.t s71))⟩
    (.one ⟨some s73, none, (.mv (.t s1))⟩
    (.one ⟨some s74, none, (.bin false .add (.t s72) (.t s73))⟩
    (.one ⟨some s75, none, (.iaddr 1 (.t s64) (.t s65))⟩
    (.one ⟨none, none, (.store 1 (.t s75) (.t s74))⟩
    .done)))))))))))))))))
  (.seq (.reg (.one ⟨some s76, none, (.mv (.t s0))⟩
    (.one ⟨some s77, none, (.nilchk (.t s76))⟩
    (.one ⟨some s78, none, (.faddr 3 (.t s77))⟩
    (.one ⟨some s79, none, (.load none (.t s78))⟩
    (.one ⟨some s80, none, (.mv (.t s7))⟩
    (.one ⟨some s81, none, (.mv (.t s1))⟩
    (.one ⟨some s82, none, (.mv (.t s8))⟩
    (.one ⟨some s83, none, (.bin false .eql (.t s81) (.t s82))⟩
    (.one ⟨some s84, none, (.iaddr 1 (.t s79) (.t s80))⟩
    (.one ⟨none, none, (.store 1 (.t s84) (.t s83))⟩
    .done)))))))))))
  (.seq (.reg (.one ⟨some s85, none, (.mv (.t s9))⟩
    (.one ⟨some s86, none, (.mv (.t s1))⟩
    (.one ⟨some s87, none, (.mv (.t s8))⟩
    (.one ⟨some s88, none, (.bin false .eql (.t s86) (.t s87))⟩
    (.one ⟨some s4, none, (.mv (.t s85))⟩
    (.one ⟨some s5, none, (.mv (.t s88))⟩
    (.one ⟨some s6, none, (.mv (.c (.v (.int .i64 0))))⟩
    .done))))))))
  .ret)))))))))⟩
theorem ok10 : compF Try.prog c10 Try.f10 = some ir10 := by kernel_rfl
theorem k_bowlineref04_Queue_Take {args : List AVal} {σ : AHeap} {Q : AVal → AHeap → Prop} (hl : Nat.ble args.length 89 = true) (h : argsK (Env.full 9) 0 args fun env => evC Try.prog c10 ir10.body env σ (retQ ir10 Q)) : ACalls Try.prog 10 args σ Q :=
  acalls_of Try.func10 ok10 rfl (Nat.le_of_ble_eq_true hl) h
/- bowlineref04.Queue).Discard -/
def c12 : Cfg := ⟨qs, [], 43, [], ps⟩
def ir12 : IFun := ⟨2, [.tmp s4],
  (.seq (.reg (.one ⟨some s4, none, (.mv (.c (.v (.int .i64 0))))⟩
    .done))
  (.seq (.seq (.reg (.one ⟨some s5, none, (.mv (.t s1))⟩
    (.one ⟨some s6, none, (.bin false .lss (.t s5) (.c (.v (.int .u64 1))))⟩
    (.one ⟨some s7, none, (.mv (.t s6))⟩
    (.one ⟨some s8, some (s7, false), (.mv (.t s1))⟩
    (.one ⟨some s9, some (s7, false), (.mv (.t s0))⟩
    (.one ⟨some s10, some (s7, false), (.nilchk (.t s9))⟩
    (.one ⟨some s11, some (s7, false), (.faddr 1 (.t s10))⟩
    (.one ⟨some s12, some (s7, false), (.load none (.t s11))⟩
    (.one ⟨some s13, some (s7, false), (.len false (.t s12))⟩
    (.one ⟨some s14, some (s7, false), (.conv .u64 (.t s13))⟩
    (.one ⟨some s15, some (s7, false), (.bin false .gtr (.t s8) (.t s14))⟩
    (.one ⟨some s16, none, (.pick (.t s7) (.c (.v (.bool true))) (.t s15))⟩
    (.one ⟨some s17, none, (.mv (.t s16))⟩
    (.one ⟨some s18, some (s17, false), (.mv (.t s0))⟩
    (.one ⟨some s19, some (s17, false), (.nilchk (.t s18))⟩
    (.one ⟨some s20, some (s17, false), (.faddr 3 (.t s19))⟩
    (.one ⟨some s21, some (s17, false), (.load none (.t s20))⟩
    (.one ⟨some s22, some (s17, false), (.mv (.t s1))⟩
    (.one ⟨some s23, some (s17, false), (.bin false .sub (.t s22) (.c (.v (.int .u64 1))))⟩
    (.one ⟨some s24, some (s17, false), (.iaddr 1 (.t s21) (.t s23))⟩
    (.one ⟨some s25, some (s17, false), (.load none (.t s24))⟩
    (.one ⟨some s26, none, (.pick (.t s17) (.c (.v (.bool true))) (.t s25))⟩
    .done)))))))))))))))))))))))
  (.cond (.t s26) (.seq (.reg (.one ⟨some s4, none, (.mv (.c (.v (.int .i64 4))))⟩
    .done))
  .ret) .skip))
  (.seq (.seq (.reg (.one ⟨some s27, none, (.mv (.t s0))⟩
    (.one ⟨some s28, none, (.nilchk (.t s27))⟩
    (.one ⟨some s29, none, (.faddr 2 (.t s28))⟩
    (.one ⟨some s30, none, (.load none (.t s29))⟩
    (.one ⟨some s31, none, (.mv (.t s1))⟩
    (.one ⟨some s32, none, (.bin false .sub (.t s31) (.c (.v (.int .u64 1))))⟩
    (.one ⟨some s33, none, (.iaddr 1 (.t s30) (.t s32))⟩
    (.one ⟨some s34, none, (.load none (.t s33))⟩
    (.one ⟨some s35, none, (.bin false .gtr (.t s34) (.c (.v (.int .i64 0))))⟩
    .done))))))))))
  (.cond (.t s35) (.seq (.reg (.one ⟨some s4, none, (.mv (.c (.v (.int .i64 7))))⟩
    .done))
  .ret) .skip))
  (.seq (.reg (.one ⟨some s36, none, (.mv (.t s0))⟩
    (.one ⟨some s37, none, (.nilchk (.t s36))⟩
    (.one ⟨some s38, none, (.faddr 3 (.t s37))⟩
    (.one ⟨some s39, none, (.load none (.t s38))⟩
    (.one ⟨some s40, none, (.mv (.t s1))⟩
    (.one ⟨some s41, none, (.bin false .sub (.t s40) (.c (.v (.int .u64 1))))⟩
    (.one ⟨some s42, none, (.iaddr 1 (.t s39) (.t s41))⟩
    (.one ⟨none, none, (.store 1 (.t s42) (.c (.v (.bool true))))⟩
    .done)))))))))
  (.seq (.reg (.one ⟨some s4, none, (.mv (.c (.v (.int .i64 0))))⟩
    .done))
  .ret)))))⟩
theorem ok12 : compF Try.prog c12 Try.f12 = some ir12 := by kernel_rfl
theorem k_bowlineref04_Queue_Discard {args : List AVal} {σ : AHeap} {Q : AVal → AHeap → Prop} (hl : Nat.ble args.length 43 = true) (h : argsK (Env.full 9) 0 args fun env => evC Try.prog c12 ir12.body env σ (retQ ir12 Q)) : ACalls Try.prog 12 args σ Q :=
  acalls_of Try.func12 ok12 rfl (Nat.le_of_ble_eq_true hl) h
/- bowlineref04.Queue).Clear -/
def c15 : Cfg := ⟨qs, [], 23, [], ps⟩
def ir15 : IFun := ⟨1, [.tmp s2],
  (.seq (.reg (.one ⟨some s2, none, (.mv (.c (.slice 1 [] .full)))⟩
    .done))
  (.seq (.reg (.one ⟨some s5, none, (.mv (.t s0))⟩
    (.one ⟨some s6, none, (.callq 21 [(.t s5)])⟩
    (.one ⟨some s3, none, (.mv (.t s6))⟩
    .done))))
  (.seq (.seq (.reg (.one ⟨some s4, none, (.mv (.c (.v (.int .i64 0))))⟩
    .done))
  (.block 0 (.loop (.seq (.seq (.reg (.one ⟨some s7, none, (.mv (.t s4))⟩
    (.one ⟨some s8, none, (.mv (.t s0))⟩
    (.one ⟨some s9, none, (.nilchk (.t s8))⟩
    (.one ⟨some s10, none, (.faddr 1 (.t s9))⟩
    (.one ⟨some s11, none, (.load none (.t s10))⟩
    (.one ⟨some s12, none, (.len false (.t s11))⟩
    (.one ⟨some s13, none, (.bin false .lss (.t s7) (.t s12))⟩
    .done))))))))
  (.cond (.t s13) .skip (.exit 0)))
  (.seq (.block 1 (.reg (.one ⟨some s16, none, (.mv (.t s0))⟩
    (.one ⟨some s17, none, (.nilchk (.t s16))⟩
    (.one ⟨some s18, none, (.faddr 3 (.t s17))⟩
    (.one ⟨some s19, none, (.load none (.t s18))⟩
    (.one ⟨some s20, none, (.mv (.t s4))⟩
    (.one ⟨some s21, none, (.iaddr 1 (.t s19) (.t s20))⟩
    (.one ⟨none, none, (.store 1 (.t s21) (.c (.v (.bool true))))⟩
    .done)))))))))
  (.reg (.one ⟨some s14, none, (.mv (.t s4))⟩
    (.one ⟨some s15, none, (.bin false .add (.t s14) (.c (.v (.int .i64 1))))⟩
    (.one ⟨some s4, none, (.mv (.t s15))⟩
    .done)))))))))
  (.seq (.reg (.one ⟨some s22, none, (.mv (.t s3))⟩
    (.one ⟨some s2, none, (.mv (.t s22))⟩
    .done)))
  .ret))))⟩
theorem ok15 : compF Try.prog c15 Try.f15 = some ir15 := by kernel_rfl
theorem k_bowlineref04_Queue_Clear {args : List AVal} {σ : AHeap} {Q : AVal → AHeap → Prop} (hl : Nat.ble args.length 23 = true) (h : argsK (Env.full 9) 0 args fun env => evC Try.prog c15 ir15.body env σ (retQ ir15 Q)) : ACalls Try.prog 15 args σ Q :=
  acalls_of Try.func15 ok15 rfl (Nat.le_of_ble_eq_true hl) h
/- bowlineref04.Queue).Front -/
def c17 : Cfg := ⟨qs, [], 36, [], ps⟩
def ir17 : IFun := ⟨1, [.tmp s2, .tmp s3, .tmp s4],
  (.seq (.reg (.one ⟨some s2, none, (.mv (.c (.v (.int .u64 0))))⟩
    (.one ⟨some s3, none, (.mv (.c (.slice 1 [] .full)))⟩
    (.one ⟨some s4, none, (.mv (.c (.v (.bool false))))⟩
    .done))))
  (.seq (.reg (.one ⟨some s6, none, (.mv (.t s0))⟩
    (.one ⟨some s7, none, (.callq 31 [(.t s6)])⟩
    (.one ⟨some s5, none, (.mv (.t s7))⟩
    .done))))
  (.seq (.seq (.reg (.one ⟨some s8, none, (.mv (.t s5))⟩
    (.one ⟨some s9, none, (.bin false .lss (.t s8) (.c (.v (.int .i64 0))))⟩
    .done)))
  (.cond (.t s9) (.seq (.reg (.one ⟨some s2, none, (.mv (.c (.v (.int .u64 0))))⟩
    (.one ⟨some s3, none, (.mv (.c (.slice 1 [] .full)))⟩
    (.one ⟨some s4, none, (.mv (.c (.v (.bool false))))⟩
    .done))))
  .ret) .skip))
  (.seq (.reg (.one ⟨some s10, none, (.mv (.t s5))⟩
    (.one ⟨some s11, none, (.conv .u64 (.t s10))⟩
    (.one ⟨some s12, none, (.bin false .add (.t s11) (.c (.v (.int .u64 1))))⟩
    (.one ⟨some s13, none, (.mv (.t s0))⟩
    (.one ⟨some s14, none, (.nilchk (.t s13))⟩
    (.one ⟨some s15, none, (.faddr 1 (.t s14))⟩
    (.one ⟨some s16, none, (.load none (.t s15))⟩
    (.one ⟨some s17, none, (.mv (.t s5))⟩
    (.one ⟨some s18, none, (.iaddr 1 (.t s16) (.t s17))⟩
    (.one ⟨some s19, none, (.load none (.t s18))⟩
    (.one ⟨some s20, none, (.mv (.t s0))⟩
    (.one ⟨some s21, none, (.nilchk (.t s20))⟩
    (.one ⟨some s22, none, (.faddr 2 (.t s21))⟩
    (.one ⟨some s23, none, (.load none (.t s22))⟩
    (.one ⟨some s24, none, (.mv (.t s5))⟩
    (.one ⟨some s25, none, (.iaddr 1 (.t s23) (.t s24))⟩
    (.one ⟨some s26, none, (.load none (.t s25))⟩
    (.one ⟨some s27, none, (.cut 1 (.t s19) (some (.t s26)) none none)⟩
    (.one ⟨some s28, none, (.mv (.t s0))⟩
    (.one ⟨some s29, none, (.nilchk (.t s28))⟩
    (.one ⟨some s30, none, (.faddr 2 (.t s29))⟩
    (.one ⟨some s31, none, (.load none (.t s30))⟩
    (.one ⟨some s32, none, (.mv (.t s5))⟩
    (.one ⟨some s33, none, (.iaddr 1 (.t s31) (.t s32))⟩
    (.one ⟨some s34, none, (.load none (.t s33))⟩
    (.one ⟨some s35, none, (.bin false .gtr (.t s34) (.c (.v (.int .i64 0))))⟩
    (.one ⟨some s2, none, (.mv (.t s12))⟩
    (.one ⟨some s3, none, (.mv (.t s27))⟩
    (.one ⟨some s4, none, (.mv (.t s35))⟩
    .done))))))))))))))))))))))))))))))
  .ret))))⟩
theorem ok17 : compF Try.prog c17 Try.f17 = some ir17 := by kernel_rfl
theorem k_bowlineref04_Queue_Front {args : List AVal} {σ : AHeap} {Q : AVal → AHeap → Prop} (hl : Nat.ble args.length 36 = true) (h : argsK (Env.full 9) 0 args fun env => evC Try.prog c17 ir17.body env σ (retQ ir17 Q)) : ACalls Try.prog 17 args σ Q :=
  acalls_of Try.func17 ok17 rfl (Nat.le_of_ble_eq_true hl) h
/- bowlineref04.Queue).Bytes -/
def c19 : Cfg := ⟨qs, [], 41, [], ps⟩
def ir19 : IFun := ⟨1, [.tmp s2],
  (.seq (.reg (.one ⟨some s2, none, (.mv (.c (.v (.int .i64 0))))⟩
    .done))
  (.seq (.reg (.one ⟨some s3, none, (.mv (.c (.v (.int .i64 0))))⟩
    .done))
  (.seq (.seq (.reg (.one ⟨some s4, none, (.mv (.c (.v (.int .i64 0))))⟩
    .done))
  (.block 0 (.loop (.seq (.seq (.reg (.one ⟨some s5, none, (.mv (.t s4))⟩
    (.one ⟨some s6, none, (.mv (.t s0))⟩
    (.one ⟨some s7, none, (.nilchk (.t s6))⟩
    (.one ⟨some s8, none, (.faddr 1 (.t s7))⟩
    (.one ⟨some s9, none, (.load none (.t s8))⟩
    (.one ⟨some s10, none, (.len false (.t s9))⟩
    (.one ⟨some s11, none, (.bin false .lss (.t s5) (.t s10))⟩
    .done))))))))
  (.cond (.t s11) .skip (.exit 0)))
  (.seq (.block 1 (.seq (.reg (.one ⟨some s14, none, (.mv (.t s0))⟩
    (.one ⟨some s15, none, (.nilchk (.t s14))⟩
    (.one ⟨some s16, none, (.faddr 3 (.t s15))⟩
    (.one ⟨some s17, none, (.load none (.t s16))⟩
    (.one ⟨some s18, none, (.mv (.t s4))⟩
    (.one ⟨some s19, none, (.iaddr 1 (.t s17) (.t s18))⟩
    (.one ⟨some s20, none, (.load none (.t s19))⟩
    (.one ⟨some s21, none, (.not (.t s20))⟩
    .done)))))))))
  (.cond (.t s21) (.reg (.one ⟨some s22, none, (.mv (.t s3))⟩
    (.one ⟨some s23, none, (.mv (.t s0))⟩
    (.one ⟨some s24, none, (.nilchk (.t s23))⟩
    (.one ⟨some s25, none, (.faddr 1 (.t s24))⟩
    (.one ⟨some s26, none, (.load none (.t s25))⟩
    (.one ⟨some s27, none, (.mv (.t s4))⟩
    (.one ⟨some s28, none, (.iaddr 1 (.t s26) (.t s27))⟩
    (.one ⟨some s29, none, (.load none (.t s28))⟩
    (.one ⟨some s30, none, (.len false (.t s29))⟩
    (.one ⟨some s31, none, (.bin false .add (.t s22) (.t s30))⟩
    (.one ⟨some s32, none, (.mv (.t s0))⟩
    (.one ⟨some s33, none, (.nilchk (.t s32))⟩
    (.one ⟨some s34, none, (.faddr 2 (.t s33))⟩
    (.one ⟨some s35, none, (.load none (.t s34))⟩
    (.one ⟨some s36, none, (.mv (.t s4))⟩
    (.one ⟨some s37, none, (.iaddr 1 (.t s35) (.t s36))⟩
    (.one ⟨some s38, none, (.load none (.t s37))⟩
    (.one ⟨some s39, none, (.bin false .sub (.t s31) (.t s38))⟩
    (.one ⟨some s3, none, (.mv (.t s39))⟩
    .done)))))))))))))))))))) .skip)))
  (.reg (.one ⟨some s12, none, (.mv (.t s4))⟩
    (.one ⟨some s13, none, (.bin false .add (.t s12) (.c (.v (.int .i64 1))))⟩
    (.one ⟨some s4, none, (.mv (.t s13))⟩
    .done)))))))))
  (.seq (.reg (.one ⟨some s40, none, (.mv (.t s3))⟩
    (.one ⟨some s2, none, (.mv (.t s40))⟩
    .done)))
  .ret))))⟩
theorem ok19 : compF Try.prog c19 Try.f19 = some ir19 := by kernel_rfl
theorem k_bowlineref04_Queue_Bytes {args : List AVal} {σ : AHeap} {Q : AVal → AHeap → Prop} (hl : Nat.ble args.length 41 = true) (h : argsK (Env.full 9) 0 args fun env => evC Try.prog c19 ir19.body env σ (retQ ir19 Q)) : ACalls Try.prog 19 args σ Q :=
  acalls_of Try.func19 ok19 rfl (Nat.le_of_ble_eq_true hl) h
/- bowlineref04.Queue).IDs -/
def c21 : Cfg := ⟨qs, [], 29, [], ps⟩
def ir21 : IFun := ⟨1, [.tmp s2],
  (.seq (.reg (.one ⟨some s2, none, (.mv (.c (.slice 1 [] .full)))⟩
    .done))
  (.seq (.reg (.one ⟨some s3, none, (.mv (.c (.slice 1 [] .full)))⟩
    .done))
  (.seq (.seq (.reg (.one ⟨some s4, none, (.mv (.c (.v (.int .i64 0))))⟩
    .done))
  (.block 0 (.loop (.seq (.seq (.reg (.one ⟨some s5, none, (.mv (.t s4))⟩
    (.one ⟨some s6, none, (.mv (.t s0))⟩
    (.one ⟨some s7, none, (.nilchk (.t s6))⟩
    (.one ⟨some s8, none, (.faddr 1 (.t s7))⟩
    (.one ⟨some s9, none, (.load none (.t s8))⟩
    (.one ⟨some s10, none, (.len false (.t s9))⟩
    (.one ⟨some s11, none, (.bin false .lss (.t s5) (.t s10))⟩
    .done))))))))
  (.cond (.t s11) .skip (.exit 0)))
  (.seq (.block 1 (.seq (.reg (.one ⟨some s14, none, (.mv (.t s0))⟩
    (.one ⟨some s15, none, (.nilchk (.t s14))⟩
    (.one ⟨some s16, none, (.faddr 3 (.t s15))⟩
    (.one ⟨some s17, none, (.load none (.t s16))⟩
    (.one ⟨some s18, none, (.mv (.t s4))⟩
    (.one ⟨some s19, none, (.iaddr 1 (.t s17) (.t s18))⟩
    (.one ⟨some s20, none, (.load none (.t s19))⟩
    (.one ⟨some s21, none, (.not (.t s20))⟩
    .done)))))))))
  (.cond (.t s21) (.reg (.one ⟨some s22, none, (.mv (.t s3))⟩
    (.one ⟨some s23, none, (.mv (.t s4))⟩
    (.one ⟨some s24, none, (.conv .u64 (.t s23))⟩
    (.one ⟨some s25, none, (.bin false .add (.t s24) (.c (.v (.int .u64 1))))⟩
    (.one ⟨some s26, none, (.row 1 [(.t s25)])⟩
    (.one ⟨some s27, none, (.app 1 8 (.t s22) (.t s26))⟩
    (.one ⟨some s3, none, (.mv (.t s27))⟩
    .done)))))))) .skip)))
  (.reg (.one ⟨some s12, none, (.mv (.t s4))⟩
    (.one ⟨some s13, none, (.bin false .add (.t s12) (.c (.v (.int .i64 1))))⟩
    (.one ⟨some s4, none, (.mv (.t s13))⟩
    .done)))))))))
  (.seq (.reg (.one ⟨some s28, none, (.mv (.t s3))⟩
    (.one ⟨some s2, none, (.mv (.t s28))⟩
    .done)))
  .ret))))⟩
theorem ok21 : compF Try.prog c21 Try.f21 = some ir21 := by kernel_rfl
theorem k_bowlineref04_Queue_IDs {args : List AVal} {σ : AHeap} {Q : AVal → AHeap → Prop} (hl : Nat.ble args.length 29 = true) (h : argsK (Env.full 9) 0 args fun env => evC Try.prog c21 ir21.body env σ (retQ ir21 Q)) : ACalls Try.prog 21 args σ Q :=
  acalls_of Try.func21 ok21 rfl (Nat.le_of_ble_eq_true hl) h
/- bowlineref04.Queue).first -/
def c31 : Cfg := ⟨qs, [], 22, [], ps⟩
def ir31 : IFun := ⟨1, [.tmp s2],
  (.seq (.reg (.one ⟨some s2, none, (.mv (.c (.v (.int .i64 0))))⟩
    .done))
  (.seq (.seq (.reg (.one ⟨some s3, none, (.mv (.c (.v (.int .i64 0))))⟩
    .done))
  (.block 0 (.loop (.seq (.seq (.reg (.one ⟨some s4, none, (.mv (.t s3))⟩
    (.one ⟨some s5, none, (.mv (.t s0))⟩
    (.one ⟨some s6, none, (.nilchk (.t s5))⟩
    (.one ⟨some s7, none, (.faddr 1 (.t s6))⟩
    (.one ⟨some s8, none, (.load none (.t s7))⟩
    (.one ⟨some s9, none, (.len false (.t s8))⟩
    (.one ⟨some s10, none, (.bin false .lss (.t s4) (.t s9))⟩
    .done))))))))
  (.cond (.t s10) .skip (.exit 0)))
  (.seq (.block 1 (.seq (.reg (.one ⟨some s13, none, (.mv (.t s0))⟩
    (.one ⟨some s14, none, (.nilchk (.t s13))⟩
    (.one ⟨some s15, none, (.faddr 3 (.t s14))⟩
    (.one ⟨some s16, none, (.load none (.t s15))⟩
    (.one ⟨some s17, none, (.mv (.t s3))⟩
    (.one ⟨some s18, none, (.iaddr 1 (.t s16) (.t s17))⟩
    (.one ⟨some s19, none, (.load none (.t s18))⟩
    (.one ⟨some s20, none, (.not (.t s19))⟩
    .done)))))))))
  (.cond (.t s20) (.seq (.reg (.one ⟨some s21, none, (.mv (.t s3))⟩
    (.one ⟨some s2, none, (.mv (.t s21))⟩
    .done)))
  .ret) .skip)))
  (.reg (.one ⟨some s11, none, (.mv (.t s3))⟩
    (.one ⟨some s12, none, (.bin false .add (.t s11) (.c (.v (.int .i64 1))))⟩
    (.one ⟨some s3, none, (.mv (.t s12))⟩
    .done)))))))))
  (.seq (.reg (.one ⟨some s2, none, (.mv (.c (.v (.int .i64 (-1)))))⟩
    .done))
  .ret)))⟩
theorem ok31 : compF Try.prog c31 Try.f31 = some ir31 := by kernel_rfl
theorem k_bowlineref04_Queue_first {args : List AVal} {σ : AHeap} {Q : AVal → AHeap → Prop} (hl : Nat.ble args.length 22 = true) (h : argsK (Env.full 9) 0 args fun env => evC Try.prog c31 ir31.body env σ (retQ ir31 Q)) : ACalls Try.prog 31 args σ Q :=
  acalls_of Try.func31 ok31 rfl (Nat.le_of_ble_eq_true hl) h
end Go.Proofs.Ytagbbpllbiplkaa
