/-
  Texts of this claim, pack 3: Irslices, Irspans, Irseqnum, Irref02, Iramd, Irrxbuf, Irref03, Irref10, Irref24, Irlaw10, Irstatus, Iramstat.
-/
import Derived.Test.YtgbpjbpdpgbngaaGreatK2
set_option linter.unusedSimpArgs false
set_option linter.unusedVariables false
/-
  The bodies of one package, compiled to the framework's language (printed by a program of this session).
-/
namespace Go.Proofs.YtgbpjbpdpgbngaaGreat
open Go Go.Am
/- slices.Clone[[]byte,byte] -/
def c47 : Cfg := ⟨qs, [], 8, [], ps⟩
def ir47 : IFun := ⟨1, [.tmp s2],
  (.seq (.reg (.one ⟨some s2, none, (.mv (.c (.slice 1 [] .full)))⟩
    .done))
  (.seq (.seq (.reg (.one ⟨some s3, none, (.mv (.t s0))⟩
    (.one ⟨some s4, none, (.eqNil 0 false (.t s3))⟩
    .done)))
  (.cond (.t s4) (.seq (.reg (.one ⟨some s2, none, (.mv (.c (.slice 1 [] .full)))⟩
    .done))
  .ret) .skip))
  (.seq (.reg (.one ⟨some s5, none, (.row 1 [])⟩
    (.one ⟨some s6, none, (.mv (.t s0))⟩
    (.one ⟨some s7, none, (.app 1 1 (.t s5) (.t s6))⟩
    (.one ⟨some s2, none, (.mv (.t s7))⟩
    .done)))))
  .ret)))⟩
theorem ok47 : compF Tryz.prog c47 Tryz.f47 = some ir47 := by kernel_rfl
theorem k_slices_Clone_byte_byte {args : List AVal} {σ : AHeap} {Q : AVal → AHeap → Prop} (hl : Nat.ble args.length 8 = true) (h : argsK (Env.full 9) 0 args fun env => evC Tryz.prog c47 ir47.body env σ (retQ ir47 Q)) : ACalls Tryz.prog 47 args σ Q :=
  acalls_of Tryz.func47 ok47 rfl (Nat.le_of_ble_eq_true hl) h
/- slices.Clone[[]byte,byte] -/
def c47m : Cfg := ⟨qs, [22, 32, 38, 59, 62, 65, 75, 80, 89, 93], 8, [], ps⟩
def ir47m : IFun := ⟨1, [.tmp s2],
  (.seq (.reg (.one ⟨some s2, none, (.mv (.c (.slice 1 [] .full)))⟩
    .done))
  (.seq (.seq (.reg (.one ⟨some s3, none, (.mv (.t s0))⟩
    (.one ⟨some s4, none, (.eqNil 0 false (.t s3))⟩
    .done)))
  (.cond (.t s4) (.seq (.reg (.one ⟨some s2, none, (.mv (.c (.slice 1 [] .full)))⟩
    .done))
  .ret) .skip))
  (.seq (.reg (.one ⟨some s5, none, (.row 1 [])⟩
    (.one ⟨some s6, none, (.mv (.t s0))⟩
    (.one ⟨some s7, none, (.appm 1 1 (.t s5) (.t s6))⟩
    (.one ⟨some s2, none, (.mv (.t s7))⟩
    .done)))))
  .ret)))⟩
theorem ok47m : compF Tryz.prog c47m Tryz.f47 = some ir47m := by kernel_rfl
theorem km_slices_Clone_byte_byte {args : List AVal} {σ : AHeap} {Q : AVal → AHeap → Prop} (hl : Nat.ble args.length 8 = true) (h : argsK (Env.full 9) 0 args fun env => evC Tryz.prog c47m ir47m.body env σ (retQ ir47m Q)) : ACalls Tryz.prog 47 args σ Q :=
  acalls_of Tryz.func47 ok47m rfl (Nat.le_of_ble_eq_true hl) h
/- slices.ContainsFunc[[][]byte,[]byte] -/
def c82 : Cfg := ⟨qs, [], 9, [], ps⟩
def ir82 : IFun := ⟨2, [.tmp s4],
  (.seq (.reg (.one ⟨some s4, none, (.mv (.c (.v (.bool false))))⟩
    .done))
  (.seq (.reg (.one ⟨some s5, none, (.mv (.t s0))⟩
    (.one ⟨some s6, none, (.mv (.t s1))⟩
    (.one ⟨some s7, none, (.callq 104 [(.t s5), (.t s6)])⟩
    (.one ⟨some s8, none, (.bin false .geq (.t s7) (.c (.v (.int .i64 0))))⟩
    (.one ⟨some s4, none, (.mv (.t s8))⟩
    .done))))))
  .ret))⟩
theorem ok82 : compF Tryz.prog c82 Tryz.f82 = some ir82 := by kernel_rfl
theorem k_slices_ContainsFunc_byte_byte {args : List AVal} {σ : AHeap} {Q : AVal → AHeap → Prop} (hl : Nat.ble args.length 9 = true) (h : argsK (Env.full 9) 0 args fun env => evC Tryz.prog c82 ir82.body env σ (retQ ir82 Q)) : ACalls Tryz.prog 82 args σ Q :=
  acalls_of Tryz.func82 ok82 rfl (Nat.le_of_ble_eq_true hl) h
/- slices.IndexFunc[[][]byte,[]byte] -/
def c104 : Cfg := ⟨qs, [], 19, [], ps⟩
def ir104 : IFun := ⟨2, [.tmp s4],
  (.seq (.reg (.one ⟨some s4, none, (.mv (.c (.v (.int .i64 0))))⟩
    .done))
  (.seq (.seq (.reg (.one ⟨some s6, none, (.mv (.t s0))⟩
    (.one ⟨some s7, none, (.len false (.t s6))⟩
    (.one ⟨some s8, none, (.mv (.c (.v (.int .i64 0))))⟩
    .done))))
  (.block 0 (.loop (.seq (.reg (.one ⟨some s9, none, (.bin false .lss (.t s8) (.t s7))⟩
    .done))
  (.seq (.cond (.t s9) .skip (.exit 0))
  (.seq (.block 1 (.seq (.reg (.one ⟨some s10, none, (.mv (.t s8))⟩
    (.one ⟨some s5, none, (.mv (.t s10))⟩
    .done)))
  (.seq (.reg (.one ⟨some s11, none, (.mv (.t s1))⟩
    (.one ⟨some s12, none, (.mv (.t s0))⟩
    (.one ⟨some s13, none, (.mv (.t s5))⟩
    (.one ⟨some s14, none, (.iaddr 1 (.t s12) (.t s13))⟩
    (.one ⟨some s15, none, (.load none (.t s14))⟩
    (.one ⟨some s16, none, (.callv (.t s11) [(.t s15)])⟩
    .done)))))))
  (.cond (.t s16) (.seq (.reg (.one ⟨some s17, none, (.mv (.t s5))⟩
    (.one ⟨some s4, none, (.mv (.t s17))⟩
    .done)))
  .ret) .skip))))
  (.reg (.one ⟨some s18, none, (.bin false .add (.t s8) (.c (.v (.int .i64 1))))⟩
    (.one ⟨some s8, none, (.mv (.t s18))⟩
    .done)))))))))
  (.seq (.reg (.one ⟨some s4, none, (.mv (.c (.v (.int .i64 (-1)))))⟩
    .done))
  .ret)))⟩
theorem ok104 : compF Tryz.prog c104 Tryz.f104 = some ir104 := by kernel_rfl
theorem k_slices_IndexFunc_byte_byte {args : List AVal} {σ : AHeap} {Q : AVal → AHeap → Prop} (hl : Nat.ble args.length 19 = true) (h : argsK (Env.full 9) 0 args fun env => evC Tryz.prog c104 ir104.body env σ (retQ ir104 Q)) : ACalls Tryz.prog 104 args σ Q :=
  acalls_of Tryz.func104 ok104 rfl (Nat.le_of_ble_eq_true hl) h
end Go.Proofs.YtgbpjbpdpgbngaaGreat
/-
  The bodies of one package, compiled to the framework's language (printed by a program of this session).
-/
namespace Go.Proofs.YtgbpjbpdpgbngaaGreat
open Go Go.Am
/- spans.New -/
def c45 : Cfg := ⟨qs, [], 24, [], ps⟩
def ir45 : IFun := ⟨1, [.tmp s2, .tmp s3],
  (.seq (.reg (.one ⟨some s2, none, (.mv (.c (.v (.pointer none))))⟩
    (.one ⟨some s3, none, (.mv (.c (.v (.int .i64 0))))⟩
    .done)))
  (.seq (.reg (.one ⟨some s8, none, (.build [(.slice 2 [] .full)] [])⟩
    (.one ⟨some s9, none, (.box 1 (.t s8))⟩
    (.one ⟨some s4, none, (.mv (.t s9))⟩
    .done))))
  (.seq (.seq (.reg (.one ⟨some s10, none, (.mv (.t s0))⟩
    (.one ⟨some s11, none, (.len false (.t s10))⟩
    (.one ⟨some s12, none, (.mv (.c (.v (.int .i64 0))))⟩
    .done))))
  (.block 0 (.loop (.seq (.reg (.one ⟨some s13, none, (.bin false .lss (.t s12) (.t s11))⟩
    .done))
  (.seq (.cond (.t s13) .skip (.exit 0))
  (.seq (.block 1 (.seq (.reg (.one ⟨some s14, none, (.iaddr 2 (.t s10) (.t s12))⟩
    (.one ⟨some s15, none, (.load (some 2) (.t s14))⟩
    (.one ⟨some s6, none, (.new [(.v (.int .i64 0)), (.v (.int .i64 0))])⟩
    (.one ⟨none, none, (.store 2 (.t s6) (.t s15))⟩
    .done)))))
  (.seq (.reg (.one ⟨some s16, none, (.mv (.t s4))⟩
    (.one ⟨some s17, none, (.load (some 2) (.t s6))⟩
    (.one ⟨some s18, none, (.call 49 [(.t s16), (.t s17)])⟩
    (.one ⟨some s7, none, (.mv (.t s18))⟩
    .done)))))
  (.seq (.reg (.one ⟨some s19, none, (.mv (.t s7))⟩
    (.one ⟨some s20, none, (.bin false .neq (.t s19) (.c (.v (.int .i64 0))))⟩
    .done)))
  (.cond (.t s20) (.seq (.reg (.one ⟨some s21, none, (.mv (.t s7))⟩
    (.one ⟨some s2, none, (.mv (.c (.v (.pointer none))))⟩
    (.one ⟨some s3, none, (.mv (.t s21))⟩
    .done))))
  .ret) .skip)))))
  (.reg (.one ⟨some s22, none, (.bin false .add (.t s12) (.c (.v (.int .i64 1))))⟩
    (.one ⟨some s12, none, (.mv (.t s22))⟩
    .done)))))))))
  (.seq (.reg (.one ⟨some s23, none, (.mv (.t s4))⟩
    (.one ⟨some s2, none, (.mv (.t s23))⟩
    (.one ⟨some s3, none, (.mv (.c (.v (.int .i64 0))))⟩
    .done))))
  .ret))))⟩
theorem ok45 : compF Tryz.prog c45 Tryz.f45 = some ir45 := by kernel_rfl
theorem k_spans_New {args : List AVal} {σ : AHeap} {Q : AVal → AHeap → Prop} (hl : Nat.ble args.length 24 = true) (h : argsK (Env.full 9) 0 args fun env => evC Tryz.prog c45 ir45.body env σ (retQ ir45 Q)) : ACalls Tryz.prog 45 args σ Q :=
  acalls_of Tryz.func45 ok45 rfl (Nat.le_of_ble_eq_true hl) h
/- spans.Set).Add -/
def c49 : Cfg := ⟨qs, [], 78, [], ps⟩
def ir49 : IFun := ⟨2, [.tmp s4],
  (.seq (.reg (.one ⟨some s3, none, (.box 2 (.t s1))⟩
    (.one ⟨some s4, none, (.mv (.c (.v (.int .i64 0))))⟩
    .done)))
  (.scope (.seq (.seq (.reg (.one ⟨some s10, none, (.mv (.t s0))⟩
    (.one ⟨some s11, none, (.load (some 2) (.t s3))⟩
    (.one ⟨some s12, none, (.callq 85 [(.t s10), (.t s11)])⟩
    (.one ⟨some s5, none, (.mv (.t s12))⟩
    .done)))))
  (.seq (.reg (.one ⟨some s13, none, (.mv (.t s5))⟩
    (.one ⟨some s14, none, (.bin false .neq (.t s13) (.c (.v (.int .i64 0))))⟩
    .done)))
  (.cond (.t s14) (.seq (.reg (.one ⟨some s15, none, (.mv (.t s5))⟩
    (.one ⟨some s4, none, (.mv (.t s15))⟩
    .done)))
  .ret) .skip)))
  (.seq (.reg (.one ⟨some s6, none, (.mv (.c (.slice 2 [] .full)))⟩
    .done))
  (.seq (.reg (.one ⟨some s7, none, (.mv (.c (.v (.int .i64 0))))⟩
    (.one ⟨some s8, none, (.mv (.c (.v (.bool false))))⟩
    .done)))
  (.seq (.label 0)
  (.seq (.seq (.reg (.one ⟨some s16, none, (.mv (.t s7))⟩
    (.one ⟨some s17, none, (.mv (.t s0))⟩
    (.one ⟨some s18, none, (.nilchk (.t s17))⟩
    (.one ⟨some s19, none, (.faddr 0 (.t s18))⟩
    (.one ⟨some s20, none, (.load none (.t s19))⟩
    (.one ⟨some s21, none, (.len false (.t s20))⟩
    (.one ⟨some s22, none, (.bin false .lss (.t s16) (.t s21))⟩
    .done))))))))
  (.cond (.t s22) (.seq (.reg (.one ⟨some s23, none, (.mv (.t s0))⟩
    (.one ⟨some s24, none, (.nilchk (.t s23))⟩
    (.one ⟨some s25, none, (.faddr 0 (.t s24))⟩
    (.one ⟨some s26, none, (.load none (.t s25))⟩
    (.one ⟨some s27, none, (.mv (.t s7))⟩
    (.one ⟨some s28, none, (.iaddr 2 (.t s26) (.t s27))⟩
    (.one ⟨some s29, none, (.load (some 2) (.t s28))⟩
    (.one ⟨some s9, none, (.new [(.v (.int .i64 0)), (.v (.int .i64 0))])⟩
    (.one ⟨none, none, (.store 2 (.t s9) (.t s29))⟩
    .done))))))))))
  (.seq (.block 0 (.seq (.reg (.one ⟨some s42, none, (.faddr 1 (.t s9))⟩
    (.one ⟨some s43, none, (.load none (.t s42))⟩
    (.one ⟨some s44, none, (.faddr 0 (.t s3))⟩
    (.one ⟨some s45, none, (.load none (.t s44))⟩
    (.one ⟨some s46, none, (.bin false .lss (.t s43) (.t s45))⟩
    (.one ⟨some s41, none, (.mv (.t s46))⟩
    .done)))))))
  (.cond (.t s41) (.reg (.one ⟨some s47, none, (.mv (.t s6))⟩
    (.one ⟨some s48, none, (.load (some 2) (.t s9))⟩
    (.one ⟨some s49, none, (.row 2 [(.t s48)])⟩
    (.one ⟨some s50, none, (.app 2 16 (.t s47) (.t s49))⟩
    (.one ⟨some s6, none, (.mv (.t s50))⟩
    .done)))))) (.seq (.reg (.one ⟨some s52, none, (.faddr 0 (.t s9))⟩
    (.one ⟨some s53, none, (.load none (.t s52))⟩
    (.one ⟨some s54, none, (.faddr 1 (.t s3))⟩
    (.one ⟨some s55, none, (.load none (.t s54))⟩
    (.one ⟨some s56, none, (.bin false .gtr (.t s53) (.t s55))⟩
    (.one ⟨some s51, none, (.mv (.t s56))⟩
    .done)))))))
  (.cond (.t s51) (.seq (.seq (.reg (.one ⟨some s57, none, (.mv (.t s8))⟩
    (.one ⟨some s58, none, (.not (.t s57))⟩
    .done)))
  (.cond (.t s58) (.reg (.one ⟨some s59, none, (.mv (.t s6))⟩
    (.one ⟨some s60, none, (.load (some 2) (.t s3))⟩
    (.one ⟨some s61, none, (.row 2 [(.t s60)])⟩
    (.one ⟨some s62, none, (.app 2 16 (.t s59) (.t s61))⟩
    (.one ⟨some s6, none, (.mv (.t s62))⟩
    (.one ⟨some s8, none, (.mv (.c (.v (.bool true))))⟩
    .done))))))) .skip))
  (.reg (.one ⟨some s63, none, (.mv (.t s6))⟩
    (.one ⟨some s64, none, (.load (some 2) (.t s9))⟩
    (.one ⟨some s65, none, (.row 2 [(.t s64)])⟩
    (.one ⟨some s66, none, (.app 2 16 (.t s63) (.t s65))⟩
    (.one ⟨some s6, none, (.mv (.t s66))⟩
    .done))))))) (.reg (.one ⟨some s30, none, (.faddr 0 (.t s3))⟩
    (.one ⟨some s31, none, (.load none (.t s30))⟩
    (.one ⟨some s32, none, (.faddr 0 (.t s9))⟩
    (.one ⟨some s33, none, (.load none (.t s32))⟩
    (.one ⟨some s34, none, (.mxmn false (.t s31) (.t s33))⟩
    (.one ⟨some s35, none, (.faddr 1 (.t s3))⟩
    (.one ⟨some s36, none, (.load none (.t s35))⟩
    (.one ⟨some s37, none, (.faddr 1 (.t s9))⟩
    (.one ⟨some s38, none, (.load none (.t s37))⟩
    (.one ⟨some s39, none, (.mxmn true (.t s36) (.t s38))⟩
    (.one ⟨some s40, none, (.build [(.v (.int .i64 0)), (.v (.int .i64 0))] [(0, 1, (.t s34)), (1, 1, (.t s39))])⟩
    (.one ⟨none, none, (.store 2 (.t s3) (.t s40))⟩
    .done))))))))))))))))))
  (.seq (.reg (.one ⟨some s67, none, (.mv (.t s7))⟩
    (.one ⟨some s68, none, (.bin false .add (.t s67) (.c (.v (.int .i64 1))))⟩
    (.one ⟨some s7, none, (.mv (.t s68))⟩
    .done))))
  (.goto 0)))) .skip))
  (.seq (.seq (.reg (.one ⟨some s69, none, (.mv (.t s8))⟩
    (.one ⟨some s70, none, (.not (.t s69))⟩
    .done)))
  (.cond (.t s70) (.reg (.one ⟨some s71, none, (.mv (.t s6))⟩
    (.one ⟨some s72, none, (.load (some 2) (.t s3))⟩
    (.one ⟨some s73, none, (.row 2 [(.t s72)])⟩
    (.one ⟨some s74, none, (.app 2 16 (.t s71) (.t s73))⟩
    (.one ⟨some s6, none, (.mv (.t s74))⟩
    .done)))))) .skip))
  (.seq (.reg (.one ⟨some s75, none, (.mv (.t s0))⟩
    (.one ⟨some s76, none, (.mv (.t s6))⟩
    (.one ⟨some s77, none, (.call 86 [(.t s75), (.t s76)])⟩
    (.one ⟨some s4, none, (.mv (.t s77))⟩
    .done)))))
  .ret)))))))))⟩
theorem ok49 : compF Tryz.prog c49 Tryz.f49 = some ir49 := by kernel_rfl
theorem k_spans_Set_Add {args : List AVal} {σ : AHeap} {Q : AVal → AHeap → Prop} (hl : Nat.ble args.length 78 = true) (h : argsK (Env.full 9) 0 args fun env => evC Tryz.prog c49 ir49.body env σ (retQ ir49 Q)) : ACalls Tryz.prog 49 args σ Q :=
  acalls_of Tryz.func49 ok49 rfl (Nat.le_of_ble_eq_true hl) h
/- spans.Set).Gaps -/
def c77 : Cfg := ⟨qs, [], 59, [], ps⟩
def ir77 : IFun := ⟨2, [.tmp s4],
  (.seq (.reg (.one ⟨some s4, none, (.mv (.c (.slice 2 [] .full)))⟩
    .done))
  (.seq (.seq (.reg (.one ⟨some s9, none, (.mv (.t s0))⟩
    (.one ⟨some s10, none, (.eqNil 1 false (.t s9))⟩
    (.one ⟨some s11, none, (.mv (.t s10))⟩
    (.one ⟨some s12, some (s11, false), (.mv (.t s1))⟩
    (.one ⟨some s13, some (s11, false), (.bin false .lss (.t s12) (.c (.v (.int .i64 1))))⟩
    (.one ⟨some s14, none, (.pick (.t s11) (.c (.v (.bool true))) (.t s13))⟩
    (.one ⟨some s15, none, (.mv (.t s14))⟩
    (.one ⟨some s16, some (s15, false), (.mv (.t s1))⟩
    (.one ⟨some s17, some (s15, false), (.bin false .gtr (.t s16) (.c (.v (.int .i64 65536))))⟩
    (.one ⟨some s18, none, (.pick (.t s15) (.c (.v (.bool true))) (.t s17))⟩
    .done)))))))))))
  (.cond (.t s18) (.seq (.reg (.one ⟨some s4, none, (.mv (.c (.slice 2 [] .full)))⟩
    .done))
  .ret) .skip))
  (.seq (.reg (.one ⟨some s5, none, (.mv (.c (.slice 2 [] .full)))⟩
    .done))
  (.seq (.reg (.one ⟨some s6, none, (.mv (.c (.v (.int .i64 0))))⟩
    .done))
  (.seq (.seq (.reg (.one ⟨some s19, none, (.mv (.t s0))⟩
    (.one ⟨some s20, none, (.nilchk (.t s19))⟩
    (.one ⟨some s21, none, (.faddr 0 (.t s20))⟩
    (.one ⟨some s22, none, (.load none (.t s21))⟩
    (.one ⟨some s23, none, (.len false (.t s22))⟩
    (.one ⟨some s24, none, (.mv (.c (.v (.int .i64 0))))⟩
    .done)))))))
  (.block 0 (.loop (.seq (.reg (.one ⟨some s25, none, (.bin false .lss (.t s24) (.t s23))⟩
    .done))
  (.seq (.cond (.t s25) .skip (.exit 0))
  (.seq (.block 1 (.seq (.reg (.one ⟨some s26, none, (.iaddr 2 (.t s22) (.t s24))⟩
    (.one ⟨some s27, none, (.load (some 2) (.t s26))⟩
    (.one ⟨some s8, none, (.new [(.v (.int .i64 0)), (.v (.int .i64 0))])⟩
    (.one ⟨none, none, (.store 2 (.t s8) (.t s27))⟩
    .done)))))
  (.seq (.seq (.reg (.one ⟨some s28, none, (.faddr 0 (.t s8))⟩
    (.one ⟨some s29, none, (.load none (.t s28))⟩
    (.one ⟨some s30, none, (.mv (.t s6))⟩
    (.one ⟨some s31, none, (.bin false .gtr (.t s29) (.t s30))⟩
    (.one ⟨some s32, none, (.mv (.t s31))⟩
    (.one ⟨some s33, some (s32, true), (.mv (.t s6))⟩
    (.one ⟨some s34, some (s32, true), (.mv (.t s1))⟩
    (.one ⟨some s35, some (s32, true), (.bin false .lss (.t s33) (.t s34))⟩
    (.one ⟨some s36, none, (.pick (.t s32) (.t s35) (.c (.v (.bool false))))⟩
    .done))))))))))
  (.cond (.t s36) (.reg (.one ⟨some s37, none, (.mv (.t s5))⟩
    (.one ⟨some s38, none, (.mv (.t s6))⟩
    (.one ⟨some s39, none, (.faddr 0 (.t s8))⟩
    (.one ⟨some s40, none, (.load none (.t s39))⟩
    (.one ⟨some s41, none, (.mv (.t s1))⟩
    (.one ⟨some s42, none, (.mxmn false (.t s40) (.t s41))⟩
    (.one ⟨some s43, none, (.build [(.v (.int .i64 0)), (.v (.int .i64 0))] [(0, 1, (.t s38)), (1, 1, (.t s42))])⟩
    (.one ⟨some s44, none, (.row 2 [(.t s43)])⟩
    (.one ⟨some s45, none, (.app 2 16 (.t s37) (.t s44))⟩
    (.one ⟨some s5, none, (.mv (.t s45))⟩
    .done))))))))))) .skip))
  (.reg (.one ⟨some s46, none, (.faddr 1 (.t s8))⟩
    (.one ⟨some s47, none, (.load none (.t s46))⟩
    (.one ⟨some s6, none, (.mv (.t s47))⟩
    .done)))))))
  (.reg (.one ⟨some s48, none, (.bin false .add (.t s24) (.c (.v (.int .i64 1))))⟩
    (.one ⟨some s24, none, (.mv (.t s48))⟩
    .done)))))))))
  (.seq (.seq (.reg (.one ⟨some s49, none, (.mv (.t s6))⟩
    (.one ⟨some s50, none, (.mv (.t s1))⟩
    (.one ⟨some s51, none, (.bin false .lss (.t s49) (.t s50))⟩
    .done))))
  (.cond (.t s51) (.reg (.one ⟨some s52, none, (.mv (.t s5))⟩
    (.one ⟨some s53, none, (.mv (.t s6))⟩
    (.one ⟨some s54, none, (.mv (.t s1))⟩
    (.one ⟨some s55, none, (.build [(.v (.int .i64 0)), (.v (.int .i64 0))] [(0, 1, (.t s53)), (1, 1, (.t s54))])⟩
    (.one ⟨some s56, none, (.row 2 [(.t s55)])⟩
    (.one ⟨some s57, none, (.app 2 16 (.t s52) (.t s56))⟩
    (.one ⟨some s5, none, (.mv (.t s57))⟩
    .done)))))))) .skip))
  (.seq (.reg (.one ⟨some s58, none, (.mv (.t s5))⟩
    (.one ⟨some s4, none, (.mv (.t s58))⟩
    .done)))
  .ret)))))))⟩
theorem ok77 : compF Tryz.prog c77 Tryz.f77 = some ir77 := by kernel_rfl
theorem k_spans_Set_Gaps {args : List AVal} {σ : AHeap} {Q : AVal → AHeap → Prop} (hl : Nat.ble args.length 59 = true) (h : argsK (Env.full 9) 0 args fun env => evC Tryz.prog c77 ir77.body env σ (retQ ir77 Q)) : ACalls Tryz.prog 77 args σ Q :=
  acalls_of Tryz.func77 ok77 rfl (Nat.le_of_ble_eq_true hl) h
/- spans.Set).Has -/
def c84 : Cfg := ⟨qs, [], 17, [], ps⟩
def ir84 : IFun := ⟨2, [.tmp s4],
  (.seq (.reg (.one ⟨some s3, none, (.box 2 (.t s1))⟩
    (.one ⟨some s4, none, (.mv (.c (.v (.bool false))))⟩
    .done)))
  (.seq (.reg (.one ⟨some s5, none, (.mv (.t s0))⟩
    (.one ⟨some s6, none, (.load (some 2) (.t s3))⟩
    (.one ⟨some s7, none, (.callq 85 [(.t s5), (.t s6)])⟩
    (.one ⟨some s8, none, (.bin false .eql (.t s7) (.c (.v (.int .i64 0))))⟩
    (.one ⟨some s9, none, (.mv (.t s8))⟩
    (.one ⟨some s10, some (s9, true), (.mv (.t s0))⟩
    (.one ⟨some s11, some (s9, true), (.nilchk (.t s10))⟩
    (.one ⟨some s12, some (s9, true), (.faddr 0 (.t s11))⟩
    (.one ⟨some s13, some (s9, true), (.load none (.t s12))⟩
    (.one ⟨some s14, some (s9, true), (.fn 107 [] [(.t s3)])⟩
    (.one ⟨some s15, some (s9, true), (.callq 106 [(.t s13), (.t s14)])⟩
    (.one ⟨some s16, none, (.pick (.t s9) (.t s15) (.c (.v (.bool false))))⟩
    (.one ⟨some s4, none, (.mv (.t s16))⟩
    .done))))))))))))))
  .ret))⟩
theorem ok84 : compF Tryz.prog c84 Tryz.f84 = some ir84 := by kernel_rfl
theorem k_spans_Set_Has {args : List AVal} {σ : AHeap} {Q : AVal → AHeap → Prop} (hl : Nat.ble args.length 17 = true) (h : argsK (Env.full 9) 0 args fun env => evC Tryz.prog c84 ir84.body env σ (retQ ir84 Q)) : ACalls Tryz.prog 84 args σ Q :=
  acalls_of Tryz.func84 ok84 rfl (Nat.le_of_ble_eq_true hl) h
/- spans.Set).ask -/
def c85 : Cfg := ⟨qs, [], 12, [], ps⟩
def ir85 : IFun := ⟨2, [.tmp s4],
  (.seq (.reg (.one ⟨some s3, none, (.box 2 (.t s1))⟩
    (.one ⟨some s4, none, (.mv (.c (.v (.int .i64 0))))⟩
    .done)))
  (.seq (.block 0 (.seq (.reg (.one ⟨some s6, none, (.mv (.t s0))⟩
    (.one ⟨some s7, none, (.eqNil 1 false (.t s6))⟩
    (.one ⟨some s5, none, (.mv (.t s7))⟩
    .done))))
  (.cond (.t s5) (.seq (.reg (.one ⟨some s4, none, (.mv (.c (.v (.int .i64 6))))⟩
    .done))
  .ret) (.seq (.reg (.one ⟨some s9, none, (.load (some 2) (.t s3))⟩
    (.one ⟨some s10, none, (.callq 108 [(.t s9)])⟩
    (.one ⟨some s11, none, (.not (.t s10))⟩
    (.one ⟨some s8, none, (.mv (.t s11))⟩
    .done)))))
  (.cond (.t s8) (.seq (.reg (.one ⟨some s4, none, (.mv (.c (.v (.int .i64 1))))⟩
    .done))
  .ret) .skip)))))
  (.seq (.reg (.one ⟨some s4, none, (.mv (.c (.v (.int .i64 0))))⟩
    .done))
  .ret)))⟩
theorem ok85 : compF Tryz.prog c85 Tryz.f85 = some ir85 := by kernel_rfl
theorem k_spans_Set_ask {args : List AVal} {σ : AHeap} {Q : AVal → AHeap → Prop} (hl : Nat.ble args.length 12 = true) (h : argsK (Env.full 9) 0 args fun env => evC Tryz.prog c85 ir85.body env σ (retQ ir85 Q)) : ACalls Tryz.prog 85 args σ Q :=
  acalls_of Tryz.func85 ok85 rfl (Nat.le_of_ble_eq_true hl) h
/- spans.Set).keep -/
def c86 : Cfg := ⟨qs, [], 12, [], ps⟩
def ir86 : IFun := ⟨2, [.tmp s4],
  (.seq (.reg (.one ⟨some s4, none, (.mv (.c (.v (.int .i64 0))))⟩
    .done))
  (.seq (.seq (.reg (.one ⟨some s5, none, (.mv (.t s1))⟩
    (.one ⟨some s6, none, (.len false (.t s5))⟩
    (.one ⟨some s7, none, (.bin false .gtr (.t s6) (.c (.v (.int .i64 2048))))⟩
    .done))))
  (.cond (.t s7) (.seq (.reg (.one ⟨some s4, none, (.mv (.c (.v (.int .i64 5))))⟩
    .done))
  .ret) .skip))
  (.seq (.reg (.one ⟨some s8, none, (.mv (.t s0))⟩
    (.one ⟨some s9, none, (.mv (.t s1))⟩
    (.one ⟨some s10, none, (.nilchk (.t s8))⟩
    (.one ⟨some s11, none, (.faddr 0 (.t s10))⟩
    (.one ⟨none, none, (.store 1 (.t s11) (.t s9))⟩
    .done))))))
  (.seq (.reg (.one ⟨some s4, none, (.mv (.c (.v (.int .i64 0))))⟩
    .done))
  .ret))))⟩
theorem ok86 : compF Tryz.prog c86 Tryz.f86 = some ir86 := by kernel_rfl
theorem k_spans_Set_keep {args : List AVal} {σ : AHeap} {Q : AVal → AHeap → Prop} (hl : Nat.ble args.length 12 = true) (h : argsK (Env.full 9) 0 args fun env => evC Tryz.prog c86 ir86.body env σ (retQ ir86 Q)) : ACalls Tryz.prog 86 args σ Q :=
  acalls_of Tryz.func86 ok86 rfl (Nat.le_of_ble_eq_true hl) h
/- spans.Set).Spans -/
def c102 : Cfg := ⟨qs, [], 10, [], ps⟩
def ir102 : IFun := ⟨1, [.tmp s2],
  (.seq (.reg (.one ⟨some s2, none, (.mv (.c (.slice 2 [] .full)))⟩
    .done))
  (.seq (.seq (.reg (.one ⟨some s3, none, (.mv (.t s0))⟩
    (.one ⟨some s4, none, (.eqNil 1 false (.t s3))⟩
    .done)))
  (.cond (.t s4) (.seq (.reg (.one ⟨some s2, none, (.mv (.c (.slice 2 [] .full)))⟩
    .done))
  .ret) .skip))
  (.seq (.reg (.one ⟨some s5, none, (.mv (.t s0))⟩
    (.one ⟨some s6, none, (.nilchk (.t s5))⟩
    (.one ⟨some s7, none, (.faddr 0 (.t s6))⟩
    (.one ⟨some s8, none, (.load none (.t s7))⟩
    (.one ⟨some s9, none, (.callq 112 [(.t s8)])⟩
    (.one ⟨some s2, none, (.mv (.t s9))⟩
    .done)))))))
  .ret)))⟩
theorem ok102 : compF Tryz.prog c102 Tryz.f102 = some ir102 := by kernel_rfl
theorem k_spans_Set_Spans {args : List AVal} {σ : AHeap} {Q : AVal → AHeap → Prop} (hl : Nat.ble args.length 10 = true) (h : argsK (Env.full 9) 0 args fun env => evC Tryz.prog c102 ir102.body env σ (retQ ir102 Q)) : ACalls Tryz.prog 102 args σ Q :=
  acalls_of Tryz.func102 ok102 rfl (Nat.le_of_ble_eq_true hl) h
/- spans.Span] -/
def c106 : Cfg := ⟨qs, [], 9, [], ps⟩
def ir106 : IFun := ⟨2, [.tmp s4],
  (.seq (.reg (.one ⟨some s4, none, (.mv (.c (.v (.bool false))))⟩
    .done))
  (.seq (.reg (.one ⟨some s5, none, (.mv (.t s0))⟩
    (.one ⟨some s6, none, (.mv (.t s1))⟩
    (.one ⟨some s7, none, (.callq 113 [(.t s5), (.t s6)])⟩
    (.one ⟨some s8, none, (.bin false .geq (.t s7) (.c (.v (.int .i64 0))))⟩
    (.one ⟨some s4, none, (.mv (.t s8))⟩
    .done))))))
  .ret))⟩
theorem ok106 : compF Tryz.prog c106 Tryz.f106 = some ir106 := by kernel_rfl
theorem k_slices_ContainsFunc_spans_Span {args : List AVal} {σ : AHeap} {Q : AVal → AHeap → Prop} (hl : Nat.ble args.length 9 = true) (h : argsK (Env.full 9) 0 args fun env => evC Tryz.prog c106 ir106.body env σ (retQ ir106 Q)) : ACalls Tryz.prog 106 args σ Q :=
  acalls_of Tryz.func106 ok106 rfl (Nat.le_of_ble_eq_true hl) h
/- spans.Set).Has$1 -/
def c107 : Cfg := ⟨qs, [], 16, [], ps⟩
def ir107 : IFun := ⟨2, [.tmp s3],
  (.seq (.reg (.one ⟨some s2, none, (.box 2 (.t s0))⟩
    (.one ⟨some s3, none, (.mv (.c (.v (.bool false))))⟩
    .done)))
  (.seq (.reg (.one ⟨some s4, none, (.faddr 0 (.t s2))⟩
    (.one ⟨some s5, none, (.load none (.t s4))⟩
    (.one ⟨some s6, none, (.faddr 0 (.t s1))⟩
    (.one ⟨some s7, none, (.load none (.t s6))⟩
    (.one ⟨some s8, none, (.bin false .leq (.t s5) (.t s7))⟩
    (.one ⟨some s9, none, (.mv (.t s8))⟩
    (.one ⟨some s10, some (s9, true), (.faddr 1 (.t s1))⟩
    (.one ⟨some s11, some (s9, true), (.load none (.t s10))⟩
    (.one ⟨some s12, some (s9, true), (.faddr 1 (.t s2))⟩
    (.one ⟨some s13, some (s9, true), (.load none (.t s12))⟩
    (.one ⟨some s14, some (s9, true), (.bin false .leq (.t s11) (.t s13))⟩
    (.one ⟨some s15, none, (.pick (.t s9) (.t s14) (.c (.v (.bool false))))⟩
    (.one ⟨some s3, none, (.mv (.t s15))⟩
    .done))))))))))))))
  .ret))⟩
theorem ok107 : compF Tryz.prog c107 Tryz.f107 = some ir107 := by kernel_rfl
theorem k_spans_Set_Has_1 {args : List AVal} {σ : AHeap} {Q : AVal → AHeap → Prop} (hl : Nat.ble args.length 16 = true) (h : argsK (Env.full 9) 0 args fun env => evC Tryz.prog c107 ir107.body env σ (retQ ir107 Q)) : ACalls Tryz.prog 107 args σ Q :=
  acalls_of Tryz.func107 ok107 rfl (Nat.le_of_ble_eq_true hl) h
/- spans.Right -/
def c108 : Cfg := ⟨qs, [], 18, [], ps⟩
def ir108 : IFun := ⟨1, [.tmp s2],
  (.seq (.reg (.one ⟨some s1, none, (.box 2 (.t s0))⟩
    (.one ⟨some s2, none, (.mv (.c (.v (.bool false))))⟩
    .done)))
  (.seq (.reg (.one ⟨some s3, none, (.faddr 0 (.t s1))⟩
    (.one ⟨some s4, none, (.load none (.t s3))⟩
    (.one ⟨some s5, none, (.bin false .geq (.t s4) (.c (.v (.int .i64 0))))⟩
    (.one ⟨some s6, none, (.mv (.t s5))⟩
    (.one ⟨some s7, some (s6, true), (.faddr 0 (.t s1))⟩
    (.one ⟨some s8, some (s6, true), (.load none (.t s7))⟩
    (.one ⟨some s9, some (s6, true), (.faddr 1 (.t s1))⟩
    (.one ⟨some s10, some (s6, true), (.load none (.t s9))⟩
    (.one ⟨some s11, some (s6, true), (.bin false .lss (.t s8) (.t s10))⟩
    (.one ⟨some s12, none, (.pick (.t s6) (.t s11) (.c (.v (.bool false))))⟩
    (.one ⟨some s13, none, (.mv (.t s12))⟩
    (.one ⟨some s14, some (s13, true), (.faddr 1 (.t s1))⟩
    (.one ⟨some s15, some (s13, true), (.load none (.t s14))⟩
    (.one ⟨some s16, some (s13, true), (.bin false .leq (.t s15) (.c (.v (.int .i64 65536))))⟩
    (.one ⟨some s17, none, (.pick (.t s13) (.t s16) (.c (.v (.bool false))))⟩
    (.one ⟨some s2, none, (.mv (.t s17))⟩
    .done)))))))))))))))))
  .ret))⟩
theorem ok108 : compF Tryz.prog c108 Tryz.f108 = some ir108 := by kernel_rfl
theorem k_spans_Right {args : List AVal} {σ : AHeap} {Q : AVal → AHeap → Prop} (hl : Nat.ble args.length 18 = true) (h : argsK (Env.full 9) 0 args fun env => evC Tryz.prog c108 ir108.body env σ (retQ ir108 Q)) : ACalls Tryz.prog 108 args σ Q :=
  acalls_of Tryz.func108 ok108 rfl (Nat.le_of_ble_eq_true hl) h
/- spans.Span] -/
def c112 : Cfg := ⟨qs, [], 8, [], ps⟩
def ir112 : IFun := ⟨1, [.tmp s2],
  (.seq (.reg (.one ⟨some s2, none, (.mv (.c (.slice 2 [] .full)))⟩
    .done))
  (.seq (.seq (.reg (.one ⟨some s3, none, (.mv (.t s0))⟩
    (.one ⟨some s4, none, (.eqNil 0 false (.t s3))⟩
    .done)))
  (.cond (.t s4) (.seq (.reg (.one ⟨some s2, none, (.mv (.c (.slice 2 [] .full)))⟩
    .done))
  .ret) .skip))
  (.seq (.reg (.one ⟨some s5, none, (.row 2 [])⟩
    (.one ⟨some s6, none, (.mv (.t s0))⟩
    (.one ⟨some s7, none, (.app 2 16 (.t s5) (.t s6))⟩
    (.one ⟨some s2, none, (.mv (.t s7))⟩
    .done)))))
  .ret)))⟩
theorem ok112 : compF Tryz.prog c112 Tryz.f112 = some ir112 := by kernel_rfl
theorem k_spans_Span {args : List AVal} {σ : AHeap} {Q : AVal → AHeap → Prop} (hl : Nat.ble args.length 8 = true) (h : argsK (Env.full 9) 0 args fun env => evC Tryz.prog c112 ir112.body env σ (retQ ir112 Q)) : ACalls Tryz.prog 112 args σ Q :=
  acalls_of Tryz.func112 ok112 rfl (Nat.le_of_ble_eq_true hl) h
/- spans.Span] -/
def c113 : Cfg := ⟨qs, [], 19, [], ps⟩
def ir113 : IFun := ⟨2, [.tmp s4],
  (.seq (.reg (.one ⟨some s4, none, (.mv (.c (.v (.int .i64 0))))⟩
    .done))
  (.seq (.seq (.reg (.one ⟨some s6, none, (.mv (.t s0))⟩
    (.one ⟨some s7, none, (.len false (.t s6))⟩
    (.one ⟨some s8, none, (.mv (.c (.v (.int .i64 0))))⟩
    .done))))
  (.block 0 (.loop (.seq (.reg (.one ⟨some s9, none, (.bin false .lss (.t s8) (.t s7))⟩
    .done))
  (.seq (.cond (.t s9) .skip (.exit 0))
  (.seq (.block 1 (.seq (.reg (.one ⟨some s10, none, (.mv (.t s8))⟩
    (.one ⟨some s5, none, (.mv (.t s10))⟩
    .done)))
  (.seq (.reg (.one ⟨some s11, none, (.mv (.t s1))⟩
    (.one ⟨some s12, none, (.mv (.t s0))⟩
    (.one ⟨some s13, none, (.mv (.t s5))⟩
    (.one ⟨some s14, none, (.iaddr 2 (.t s12) (.t s13))⟩
    (.one ⟨some s15, none, (.load (some 2) (.t s14))⟩
    (.one ⟨some s16, none, (.callv (.t s11) [(.t s15)])⟩
    .done)))))))
  (.cond (.t s16) (.seq (.reg (.one ⟨some s17, none, (.mv (.t s5))⟩
    (.one ⟨some s4, none, (.mv (.t s17))⟩
    .done)))
  .ret) .skip))))
  (.reg (.one ⟨some s18, none, (.bin false .add (.t s8) (.c (.v (.int .i64 1))))⟩
    (.one ⟨some s8, none, (.mv (.t s18))⟩
    .done)))))))))
  (.seq (.reg (.one ⟨some s4, none, (.mv (.c (.v (.int .i64 (-1)))))⟩
    .done))
  .ret)))⟩
theorem ok113 : compF Tryz.prog c113 Tryz.f113 = some ir113 := by kernel_rfl
theorem k_slices_IndexFunc_spans_Span {args : List AVal} {σ : AHeap} {Q : AVal → AHeap → Prop} (hl : Nat.ble args.length 19 = true) (h : argsK (Env.full 9) 0 args fun env => evC Tryz.prog c113 ir113.body env σ (retQ ir113 Q)) : ACalls Tryz.prog 113 args σ Q :=
  acalls_of Tryz.func113 ok113 rfl (Nat.le_of_ble_eq_true hl) h
end Go.Proofs.YtgbpjbpdpgbngaaGreat
/-
  The bodies of one package, compiled to the framework's language (printed by a program of this session).
-/
namespace Go.Proofs.YtgbpjbpdpgbngaaGreat
open Go Go.Am
/- seqnum.Right -/
def c38 : Cfg := ⟨qs, [], 16, [], ps⟩
def ir38 : IFun := ⟨1, [.tmp s2],
  (.seq (.reg (.one ⟨some s1, none, (.box 1 (.t s0))⟩
    (.one ⟨some s2, none, (.mv (.c (.v (.bool false))))⟩
    .done)))
  (.seq (.reg (.one ⟨some s3, none, (.load (some 1) (.t s1))⟩
    (.one ⟨some s4, none, (.build [(.v (.int .i64 0))] [])⟩
    (.one ⟨some s5, none, (.eqAgg true [false] (.t s3) (.t s4))⟩
    (.one ⟨some s6, none, (.mv (.t s5))⟩
    (.one ⟨some s7, some (s6, true), (.faddr 0 (.t s1))⟩
    (.one ⟨some s8, some (s6, true), (.load none (.t s7))⟩
    (.one ⟨some s9, some (s6, true), (.bin false .geq (.t s8) (.c (.v (.int .i64 1))))⟩
    (.one ⟨some s10, none, (.pick (.t s6) (.t s9) (.c (.v (.bool false))))⟩
    (.one ⟨some s11, none, (.mv (.t s10))⟩
    (.one ⟨some s12, some (s11, true), (.faddr 0 (.t s1))⟩
    (.one ⟨some s13, some (s11, true), (.load none (.t s12))⟩
    (.one ⟨some s14, some (s11, true), (.bin false .leq (.t s13) (.c (.v (.int .i64 16))))⟩
    (.one ⟨some s15, none, (.pick (.t s11) (.t s14) (.c (.v (.bool false))))⟩
    (.one ⟨some s2, none, (.mv (.t s15))⟩
    .done)))))))))))))))
  .ret))⟩
theorem ok38 : compF Tryz.prog c38 Tryz.f38 = some ir38 := by kernel_rfl
theorem k_seqnum_Right {args : List AVal} {σ : AHeap} {Q : AVal → AHeap → Prop} (hl : Nat.ble args.length 16 = true) (h : argsK (Env.full 9) 0 args fun env => evC Tryz.prog c38 ir38.body env σ (retQ ir38 Q)) : ACalls Tryz.prog 38 args σ Q :=
  acalls_of Tryz.func38 ok38 rfl (Nat.le_of_ble_eq_true hl) h
/- seqnum.Space).Size -/
def c39 : Cfg := ⟨qs, [], 9, [], ps⟩
def ir39 : IFun := ⟨1, [.tmp s2],
  (.seq (.reg (.one ⟨some s1, none, (.box 1 (.t s0))⟩
    (.one ⟨some s2, none, (.mv (.c (.v (.int .i64 0))))⟩
    .done)))
  (.seq (.seq (.reg (.one ⟨some s3, none, (.load (some 1) (.t s1))⟩
    (.one ⟨some s4, none, (.callq 38 [(.t s3)])⟩
    (.one ⟨some s5, none, (.not (.t s4))⟩
    .done))))
  (.cond (.t s5) (.seq (.reg (.one ⟨some s2, none, (.mv (.c (.v (.int .i64 0))))⟩
    .done))
  .ret) .skip))
  (.seq (.reg (.one ⟨some s6, none, (.faddr 0 (.t s1))⟩
    (.one ⟨some s7, none, (.load none (.t s6))⟩
    (.one ⟨some s8, none, (.bin false .shl (.c (.v (.int .i64 1))) (.t s7))⟩
    (.one ⟨some s2, none, (.mv (.t s8))⟩
    .done)))))
  .ret)))⟩
theorem ok39 : compF Tryz.prog c39 Tryz.f39 = some ir39 := by kernel_rfl
theorem k_seqnum_Space_Size {args : List AVal} {σ : AHeap} {Q : AVal → AHeap → Prop} (hl : Nat.ble args.length 9 = true) (h : argsK (Env.full 9) 0 args fun env => evC Tryz.prog c39 ir39.body env σ (retQ ir39 Q)) : ACalls Tryz.prog 39 args σ Q :=
  acalls_of Tryz.func39 ok39 rfl (Nat.le_of_ble_eq_true hl) h
/- seqnum.Space).Far -/
def c80 : Cfg := ⟨qs, [], 24, [], ps⟩
def ir80 : IFun := ⟨3, [.tmp s6, .tmp s7],
  (.seq (.reg (.one ⟨some s3, none, (.box 1 (.t s0))⟩
    (.one ⟨some s6, none, (.mv (.c (.v (.int .i64 0))))⟩
    (.one ⟨some s7, none, (.mv (.c (.v (.int .i64 0))))⟩
    .done))))
  (.seq (.seq (.reg (.one ⟨some s9, none, (.load (some 1) (.t s3))⟩
    (.one ⟨some s10, none, (.mv (.t s1))⟩
    (.one ⟨some s11, none, (.mv (.t s2))⟩
    (.one ⟨some s12, none, (.row 1 [(.t s10), (.t s11)])⟩
    (.one ⟨some s13, none, (.callq 103 [(.t s9), (.t s12)])⟩
    (.one ⟨some s8, none, (.mv (.t s13))⟩
    .done)))))))
  (.seq (.reg (.one ⟨some s14, none, (.mv (.t s8))⟩
    (.one ⟨some s15, none, (.bin false .neq (.t s14) (.c (.v (.int .i64 0))))⟩
    .done)))
  (.cond (.t s15) (.seq (.reg (.one ⟨some s16, none, (.mv (.t s8))⟩
    (.one ⟨some s6, none, (.mv (.c (.v (.int .i64 0))))⟩
    (.one ⟨some s7, none, (.mv (.t s16))⟩
    .done))))
  .ret) .skip)))
  (.seq (.reg (.one ⟨some s17, none, (.mv (.t s2))⟩
    (.one ⟨some s18, none, (.mv (.t s1))⟩
    (.one ⟨some s19, none, (.bin false .sub (.t s17) (.t s18))⟩
    (.one ⟨some s20, none, (.load (some 1) (.t s3))⟩
    (.one ⟨some s21, none, (.callq 39 [(.t s20)])⟩
    (.one ⟨some s22, none, (.bin false .sub (.t s21) (.c (.v (.int .i64 1))))⟩
    (.one ⟨some s23, none, (.bin false .and (.t s19) (.t s22))⟩
    (.one ⟨some s6, none, (.mv (.t s23))⟩
    (.one ⟨some s7, none, (.mv (.c (.v (.int .i64 0))))⟩
    .done))))))))))
  .ret)))⟩
theorem ok80 : compF Tryz.prog c80 Tryz.f80 = some ir80 := by kernel_rfl
theorem k_seqnum_Space_Far {args : List AVal} {σ : AHeap} {Q : AVal → AHeap → Prop} (hl : Nat.ble args.length 24 = true) (h : argsK (Env.full 9) 0 args fun env => evC Tryz.prog c80 ir80.body env σ (retQ ir80 Q)) : ACalls Tryz.prog 80 args σ Q :=
  acalls_of Tryz.func80 ok80 rfl (Nat.le_of_ble_eq_true hl) h
/- seqnum.Space).Go -/
def c88 : Cfg := ⟨qs, [], 30, [], ps⟩
def ir88 : IFun := ⟨3, [.tmp s6, .tmp s7],
  (.seq (.reg (.one ⟨some s3, none, (.box 1 (.t s0))⟩
    (.one ⟨some s6, none, (.mv (.c (.v (.int .i64 0))))⟩
    (.one ⟨some s7, none, (.mv (.c (.v (.int .i64 0))))⟩
    .done))))
  (.seq (.seq (.reg (.one ⟨some s9, none, (.load (some 1) (.t s3))⟩
    (.one ⟨some s10, none, (.mv (.t s1))⟩
    (.one ⟨some s11, none, (.row 1 [(.t s10)])⟩
    (.one ⟨some s12, none, (.callq 103 [(.t s9), (.t s11)])⟩
    (.one ⟨some s8, none, (.mv (.t s12))⟩
    .done))))))
  (.seq (.reg (.one ⟨some s13, none, (.mv (.t s8))⟩
    (.one ⟨some s14, none, (.bin false .neq (.t s13) (.c (.v (.int .i64 0))))⟩
    .done)))
  (.cond (.t s14) (.seq (.reg (.one ⟨some s15, none, (.mv (.t s8))⟩
    (.one ⟨some s6, none, (.mv (.c (.v (.int .i64 0))))⟩
    (.one ⟨some s7, none, (.mv (.t s15))⟩
    .done))))
  .ret) .skip)))
  (.seq (.seq (.reg (.one ⟨some s16, none, (.mv (.t s2))⟩
    (.one ⟨some s17, none, (.bin false .lss (.t s16) (.c (.v (.int .i64 (-65536)))))⟩
    (.one ⟨some s18, none, (.mv (.t s17))⟩
    (.one ⟨some s19, some (s18, false), (.mv (.t s2))⟩
    (.one ⟨some s20, some (s18, false), (.bin false .gtr (.t s19) (.c (.v (.int .i64 65536))))⟩
    (.one ⟨some s21, none, (.pick (.t s18) (.c (.v (.bool true))) (.t s20))⟩
    .done)))))))
  (.cond (.t s21) (.seq (.reg (.one ⟨some s6, none, (.mv (.c (.v (.int .i64 0))))⟩
    (.one ⟨some s7, none, (.mv (.c (.v (.int .i64 1))))⟩
    .done)))
  .ret) .skip))
  (.seq (.reg (.one ⟨some s22, none, (.mv (.t s1))⟩
    (.one ⟨some s23, none, (.mv (.t s2))⟩
    (.one ⟨some s24, none, (.bin false .add (.t s22) (.t s23))⟩
    (.one ⟨some s25, none, (.bin false .add (.t s24) (.c (.v (.int .i64 65536))))⟩
    (.one ⟨some s26, none, (.load (some 1) (.t s3))⟩
    (.one ⟨some s27, none, (.callq 39 [(.t s26)])⟩
    (.one ⟨some s28, none, (.bin false .sub (.t s27) (.c (.v (.int .i64 1))))⟩
    (.one ⟨some s29, none, (.bin false .and (.t s25) (.t s28))⟩
    (.one ⟨some s6, none, (.mv (.t s29))⟩
    (.one ⟨some s7, none, (.mv (.c (.v (.int .i64 0))))⟩
    .done)))))))))))
  .ret))))⟩
theorem ok88 : compF Tryz.prog c88 Tryz.f88 = some ir88 := by kernel_rfl
theorem k_seqnum_Space_Go {args : List AVal} {σ : AHeap} {Q : AVal → AHeap → Prop} (hl : Nat.ble args.length 30 = true) (h : argsK (Env.full 9) 0 args fun env => evC Tryz.prog c88 ir88.body env σ (retQ ir88 Q)) : ACalls Tryz.prog 88 args σ Q :=
  acalls_of Tryz.func88 ok88 rfl (Nat.le_of_ble_eq_true hl) h
/- seqnum.Space).Is -/
def c93 : Cfg := ⟨qs, [], 13, [], ps⟩
def ir93 : IFun := ⟨2, [.tmp s4],
  (.seq (.reg (.one ⟨some s2, none, (.box 1 (.t s0))⟩
    (.one ⟨some s4, none, (.mv (.c (.v (.bool false))))⟩
    .done)))
  (.seq (.reg (.one ⟨some s5, none, (.mv (.t s1))⟩
    (.one ⟨some s6, none, (.bin false .geq (.t s5) (.c (.v (.int .i64 0))))⟩
    (.one ⟨some s7, none, (.mv (.t s6))⟩
    (.one ⟨some s8, some (s7, true), (.mv (.t s1))⟩
    (.one ⟨some s9, some (s7, true), (.load (some 1) (.t s2))⟩
    (.one ⟨some s10, some (s7, true), (.callq 39 [(.t s9)])⟩
    (.one ⟨some s11, some (s7, true), (.bin false .lss (.t s8) (.t s10))⟩
    (.one ⟨some s12, none, (.pick (.t s7) (.t s11) (.c (.v (.bool false))))⟩
    (.one ⟨some s4, none, (.mv (.t s12))⟩
    .done))))))))))
  .ret))⟩
theorem ok93 : compF Tryz.prog c93 Tryz.f93 = some ir93 := by kernel_rfl
theorem k_seqnum_Space_Is {args : List AVal} {σ : AHeap} {Q : AVal → AHeap → Prop} (hl : Nat.ble args.length 13 = true) (h : argsK (Env.full 9) 0 args fun env => evC Tryz.prog c93 ir93.body env σ (retQ ir93 Q)) : ACalls Tryz.prog 93 args σ Q :=
  acalls_of Tryz.func93 ok93 rfl (Nat.le_of_ble_eq_true hl) h
/- seqnum.Space).ask -/
def c103 : Cfg := ⟨qs, [], 22, [], ps⟩
def ir103 : IFun := ⟨2, [.tmp s4],
  (.seq (.reg (.one ⟨some s2, none, (.box 1 (.t s0))⟩
    (.one ⟨some s4, none, (.mv (.c (.v (.int .i64 0))))⟩
    .done)))
  (.scope (.seq (.seq (.reg (.one ⟨some s6, none, (.load (some 1) (.t s2))⟩
    (.one ⟨some s7, none, (.callq 38 [(.t s6)])⟩
    (.one ⟨some s8, none, (.not (.t s7))⟩
    .done))))
  (.cond (.t s8) (.seq (.reg (.one ⟨some s4, none, (.mv (.c (.v (.int .i64 3))))⟩
    .done))
  .ret) .skip))
  (.seq (.reg (.one ⟨some s5, none, (.mv (.c (.v (.int .i64 0))))⟩
    .done))
  (.seq (.label 0)
  (.seq (.seq (.reg (.one ⟨some s9, none, (.mv (.t s5))⟩
    (.one ⟨some s10, none, (.mv (.t s1))⟩
    (.one ⟨some s11, none, (.len false (.t s10))⟩
    (.one ⟨some s12, none, (.bin false .lss (.t s9) (.t s11))⟩
    .done)))))
  (.cond (.t s12) (.seq (.seq (.reg (.one ⟨some s13, none, (.load (some 1) (.t s2))⟩
    (.one ⟨some s14, none, (.mv (.t s1))⟩
    (.one ⟨some s15, none, (.mv (.t s5))⟩
    (.one ⟨some s16, none, (.iaddr 1 (.t s14) (.t s15))⟩
    (.one ⟨some s17, none, (.load none (.t s16))⟩
    (.one ⟨some s18, none, (.callq 93 [(.t s13), (.t s17)])⟩
    (.one ⟨some s19, none, (.not (.t s18))⟩
    .done))))))))
  (.cond (.t s19) (.seq (.reg (.one ⟨some s4, none, (.mv (.c (.v (.int .i64 1))))⟩
    .done))
  .ret) .skip))
  (.seq (.reg (.one ⟨some s20, none, (.mv (.t s5))⟩
    (.one ⟨some s21, none, (.bin false .add (.t s20) (.c (.v (.int .i64 1))))⟩
    (.one ⟨some s5, none, (.mv (.t s21))⟩
    .done))))
  (.goto 0))) .skip))
  (.seq (.reg (.one ⟨some s4, none, (.mv (.c (.v (.int .i64 0))))⟩
    .done))
  .ret)))))))⟩
theorem ok103 : compF Tryz.prog c103 Tryz.f103 = some ir103 := by kernel_rfl
theorem k_seqnum_Space_ask {args : List AVal} {σ : AHeap} {Q : AVal → AHeap → Prop} (hl : Nat.ble args.length 22 = true) (h : argsK (Env.full 9) 0 args fun env => evC Tryz.prog c103 ir103.body env σ (retQ ir103 Q)) : ACalls Tryz.prog 103 args σ Q :=
  acalls_of Tryz.func103 ok103 rfl (Nat.le_of_ble_eq_true hl) h
end Go.Proofs.YtgbpjbpdpgbngaaGreat
/-
  The bodies of one package, compiled to the framework's language (printed by a program of this session).
-/
namespace Go.Proofs.YtgbpjbpdpgbngaaGreat
open Go Go.Am
/- bowlineref02.Is -/
def c71 : Cfg := ⟨qs, [], 13, [], ps⟩
def ir71 : IFun := ⟨2, [.tmp s4],
  (.seq (.reg (.one ⟨some s4, none, (.mv (.c (.v (.bool false))))⟩
    .done))
  (.seq (.reg (.one ⟨some s5, none, (.mv (.t s1))⟩
    (.one ⟨some s6, none, (.bin false .geq (.t s5) (.c (.v (.int .i64 0))))⟩
    (.one ⟨some s7, none, (.mv (.t s6))⟩
    (.one ⟨some s8, some (s7, true), (.mv (.t s1))⟩
    (.one ⟨some s9, some (s7, true), (.mv (.t s0))⟩
    (.one ⟨some s10, some (s7, true), (.callq 91 [(.t s9)])⟩
    (.one ⟨some s11, some (s7, true), (.bin false .lss (.t s8) (.t s10))⟩
    (.one ⟨some s12, none, (.pick (.t s7) (.t s11) (.c (.v (.bool false))))⟩
    (.one ⟨some s4, none, (.mv (.t s12))⟩
    .done))))))))))
  .ret))⟩
theorem ok71 : compF Tryz.prog c71 Tryz.f71 = some ir71 := by kernel_rfl
theorem k_bowlineref02_Is {args : List AVal} {σ : AHeap} {Q : AVal → AHeap → Prop} (hl : Nat.ble args.length 13 = true) (h : argsK (Env.full 9) 0 args fun env => evC Tryz.prog c71 ir71.body env σ (retQ ir71 Q)) : ACalls Tryz.prog 71 args σ Q :=
  acalls_of Tryz.func71 ok71 rfl (Nat.le_of_ble_eq_true hl) h
/- bowlineref02.Far -/
def c90 : Cfg := ⟨qs, [], 27, [], ps⟩
def ir90 : IFun := ⟨3, [.tmp s6, .tmp s7],
  (.seq (.reg (.one ⟨some s6, none, (.mv (.c (.v (.int .i64 0))))⟩
    (.one ⟨some s7, none, (.mv (.c (.v (.int .i64 0))))⟩
    .done)))
  (.seq (.seq (.reg (.one ⟨some s8, none, (.mv (.t s0))⟩
    (.one ⟨some s9, none, (.callq 91 [(.t s8)])⟩
    (.one ⟨some s10, none, (.bin false .eql (.t s9) (.c (.v (.int .i64 0))))⟩
    .done))))
  (.cond (.t s10) (.seq (.reg (.one ⟨some s6, none, (.mv (.c (.v (.int .i64 0))))⟩
    (.one ⟨some s7, none, (.mv (.c (.v (.int .i64 3))))⟩
    .done)))
  .ret) .skip))
  (.seq (.seq (.reg (.one ⟨some s11, none, (.mv (.t s0))⟩
    (.one ⟨some s12, none, (.mv (.t s1))⟩
    (.one ⟨some s13, none, (.callq 71 [(.t s11), (.t s12)])⟩
    (.one ⟨some s14, none, (.not (.t s13))⟩
    (.one ⟨some s15, none, (.mv (.t s14))⟩
    (.one ⟨some s16, some (s15, false), (.mv (.t s0))⟩
    (.one ⟨some s17, some (s15, false), (.mv (.t s2))⟩
    (.one ⟨some s18, some (s15, false), (.callq 71 [(.t s16), (.t s17)])⟩
    (.one ⟨some s19, some (s15, false), (.not (.t s18))⟩
    (.one ⟨some s20, none, (.pick (.t s15) (.c (.v (.bool true))) (.t s19))⟩
    .done)))))))))))
  (.cond (.t s20) (.seq (.reg (.one ⟨some s6, none, (.mv (.c (.v (.int .i64 0))))⟩
    (.one ⟨some s7, none, (.mv (.c (.v (.int .i64 1))))⟩
    .done)))
  .ret) .skip))
  (.seq (.reg (.one ⟨some s21, none, (.mv (.t s2))⟩
    (.one ⟨some s22, none, (.mv (.t s1))⟩
    (.one ⟨some s23, none, (.bin false .sub (.t s21) (.t s22))⟩
    (.one ⟨some s24, none, (.mv (.t s0))⟩
    (.one ⟨some s25, none, (.callq 91 [(.t s24)])⟩
    (.one ⟨some s26, none, (.callq 109 [(.t s23), (.t s25)])⟩
    (.one ⟨some s6, none, (.mv (.t s26))⟩
    (.one ⟨some s7, none, (.mv (.c (.v (.int .i64 0))))⟩
    .done)))))))))
  .ret))))⟩
theorem ok90 : compF Tryz.prog c90 Tryz.f90 = some ir90 := by kernel_rfl
theorem k_bowlineref02_Far {args : List AVal} {σ : AHeap} {Q : AVal → AHeap → Prop} (hl : Nat.ble args.length 27 = true) (h : argsK (Env.full 9) 0 args fun env => evC Tryz.prog c90 ir90.body env σ (retQ ir90 Q)) : ACalls Tryz.prog 90 args σ Q :=
  acalls_of Tryz.func90 ok90 rfl (Nat.le_of_ble_eq_true hl) h
/- bowlineref02.Size -/
def c91 : Cfg := ⟨qs, [], 19, [], ps⟩
def ir91 : IFun := ⟨1, [.tmp s2],
  (.seq (.reg (.one ⟨some s2, none, (.mv (.c (.v (.int .i64 0))))⟩
    .done))
  (.seq (.seq (.reg (.one ⟨some s5, none, (.mv (.t s0))⟩
    (.one ⟨some s6, none, (.bin false .lss (.t s5) (.c (.v (.int .i64 1))))⟩
    (.one ⟨some s7, none, (.mv (.t s6))⟩
    (.one ⟨some s8, some (s7, false), (.mv (.t s0))⟩
    (.one ⟨some s9, some (s7, false), (.bin false .gtr (.t s8) (.c (.v (.int .i64 16))))⟩
    (.one ⟨some s10, none, (.pick (.t s7) (.c (.v (.bool true))) (.t s9))⟩
    .done)))))))
  (.cond (.t s10) (.seq (.reg (.one ⟨some s2, none, (.mv (.c (.v (.int .i64 0))))⟩
    .done))
  .ret) .skip))
  (.seq (.reg (.one ⟨some s3, none, (.mv (.c (.v (.int .i64 1))))⟩
    .done))
  (.seq (.seq (.reg (.one ⟨some s4, none, (.mv (.c (.v (.int .i64 0))))⟩
    .done))
  (.block 0 (.loop (.seq (.seq (.reg (.one ⟨some s11, none, (.mv (.t s4))⟩
    (.one ⟨some s12, none, (.mv (.t s0))⟩
    (.one ⟨some s13, none, (.bin false .lss (.t s11) (.t s12))⟩
    .done))))
  (.cond (.t s13) .skip (.exit 0)))
  (.seq (.block 1 (.reg (.one ⟨some s16, none, (.mv (.t s3))⟩
    (.one ⟨some s17, none, (.bin false .mul (.c (.v (.int .i64 2))) (.t s16))⟩
    (.one ⟨some s3, none, (.mv (.t s17))⟩
    .done)))))
  (.reg (.one ⟨some s14, none, (.mv (.t s4))⟩
    (.one ⟨some s15, none, (.bin false .add (.t s14) (.c (.v (.int .i64 1))))⟩
    (.one ⟨some s4, none, (.mv (.t s15))⟩
    .done)))))))))
  (.seq (.reg (.one ⟨some s18, none, (.mv (.t s3))⟩
    (.one ⟨some s2, none, (.mv (.t s18))⟩
    .done)))
  .ret)))))⟩
theorem ok91 : compF Tryz.prog c91 Tryz.f91 = some ir91 := by kernel_rfl
theorem k_bowlineref02_Size {args : List AVal} {σ : AHeap} {Q : AVal → AHeap → Prop} (hl : Nat.ble args.length 19 = true) (h : argsK (Env.full 9) 0 args fun env => evC Tryz.prog c91 ir91.body env σ (retQ ir91 Q)) : ACalls Tryz.prog 91 args σ Q :=
  acalls_of Tryz.func91 ok91 rfl (Nat.le_of_ble_eq_true hl) h
/- bowlineref02.mod -/
def c109 : Cfg := ⟨qs, [], 14, [], ps⟩
def ir109 : IFun := ⟨2, [.tmp s4],
  (.seq (.reg (.one ⟨some s4, none, (.mv (.c (.v (.int .i64 0))))⟩
    .done))
  (.seq (.reg (.one ⟨some s5, none, (.mv (.t s0))⟩
    (.one ⟨some s6, none, (.mv (.t s1))⟩
    (.one ⟨some s7, none, (.bin false .rem (.t s5) (.t s6))⟩
    (.one ⟨some s0, none, (.mv (.t s7))⟩
    .done)))))
  (.seq (.seq (.reg (.one ⟨some s8, none, (.mv (.t s0))⟩
    (.one ⟨some s9, none, (.bin false .lss (.t s8) (.c (.v (.int .i64 0))))⟩
    .done)))
  (.cond (.t s9) (.reg (.one ⟨some s10, none, (.mv (.t s0))⟩
    (.one ⟨some s11, none, (.mv (.t s1))⟩
    (.one ⟨some s12, none, (.bin false .add (.t s10) (.t s11))⟩
    (.one ⟨some s0, none, (.mv (.t s12))⟩
    .done))))) .skip))
  (.seq (.reg (.one ⟨some s13, none, (.mv (.t s0))⟩
    (.one ⟨some s4, none, (.mv (.t s13))⟩
    .done)))
  .ret))))⟩
theorem ok109 : compF Tryz.prog c109 Tryz.f109 = some ir109 := by kernel_rfl
theorem k_bowlineref02_mod {args : List AVal} {σ : AHeap} {Q : AVal → AHeap → Prop} (hl : Nat.ble args.length 14 = true) (h : argsK (Env.full 9) 0 args fun env => evC Tryz.prog c109 ir109.body env σ (retQ ir109 Q)) : ACalls Tryz.prog 109 args σ Q :=
  acalls_of Tryz.func109 ok109 rfl (Nat.le_of_ble_eq_true hl) h
end Go.Proofs.YtgbpjbpdpgbngaaGreat
/-
  The bodies of one package, compiled to the framework's language (printed by a program of this session).
-/
namespace Go.Proofs.YtgbpjbpdpgbngaaGreat
open Go Go.Am
/- amd.Data -/
def c44 : Cfg := ⟨qs, [], 6, [], ps⟩
def ir44 : IFun := ⟨1, [.tmp s2],
  (.seq (.reg (.one ⟨some s1, none, (.box 7 (.t s0))⟩
    (.one ⟨some s2, none, (.mv (.c (.slice 1 [] .full)))⟩
    .done)))
  (.seq (.reg (.one ⟨some s3, none, (.faddr 6 (.t s1))⟩
    (.one ⟨some s4, none, (.load none (.t s3))⟩
    (.one ⟨some s5, none, (.callq 83 [(.t s4), (.c (.slice 1 [] .full))])⟩
    (.one ⟨some s2, none, (.mv (.t s5))⟩
    .done)))))
  .ret))⟩
theorem ok44 : compF Tryz.prog c44 Tryz.f44 = some ir44 := by kernel_rfl
theorem k_amd_Data {args : List AVal} {σ : AHeap} {Q : AVal → AHeap → Prop} (hl : Nat.ble args.length 6 = true) (h : argsK (Env.full 9) 0 args fun env => evC Tryz.prog c44 ir44.body env σ (retQ ir44 Q)) : ACalls Tryz.prog 44 args σ Q :=
  acalls_of Tryz.func44 ok44 rfl (Nat.le_of_ble_eq_true hl) h
end Go.Proofs.YtgbpjbpdpgbngaaGreat
/-
  The bodies of one package, compiled to the framework's language (printed by a program of this session).
-/
namespace Go.Proofs.YtgbpjbpdpgbngaaGreat
open Go Go.Am
/- rxbuf.New -/
def c13 : Cfg := ⟨qs, [], 4, [], ps⟩
def ir13 : IFun := ⟨0, [.tmp s0],
  (.seq (.reg (.one ⟨some s0, none, (.mv (.c (.v (.pointer none))))⟩
    .done))
  (.seq (.reg (.one ⟨some s1, none, .mkmap⟩
    (.one ⟨some s2, none, (.build [(.v (.map none))] [(0, 1, (.t s1))])⟩
    (.one ⟨some s3, none, (.box 1 (.t s2))⟩
    (.one ⟨some s0, none, (.mv (.t s3))⟩
    .done)))))
  .ret))⟩
theorem ok13 : compF Tryz.prog c13 Tryz.f13 = some ir13 := by kernel_rfl
theorem k_rxbuf_New {args : List AVal} {σ : AHeap} {Q : AVal → AHeap → Prop} (hl : Nat.ble args.length 4 = true) (h : argsK (Env.full 9) 0 args fun env => evC Tryz.prog c13 ir13.body env σ (retQ ir13 Q)) : ACalls Tryz.prog 13 args σ Q :=
  acalls_of Tryz.func13 ok13 rfl (Nat.le_of_ble_eq_true hl) h
/- rxbuf.Buffer).Put -/
def c17 : Cfg := ⟨qs, [], 104, [], ps⟩
def ir17 : IFun := ⟨2, [.tmp s4],
  (.seq (.reg (.one ⟨some s3, none, (.box 7 (.t s1))⟩
    (.one ⟨some s4, none, (.mv (.c (.v (.int .i64 0))))⟩
    .done)))
  (.seq (.block 0 (.seq (.reg (.one ⟨some s15, none, (.mv (.t s0))⟩
    (.one ⟨some s16, none, (.callq 42 [(.t s15)])⟩
    (.one ⟨some s17, none, (.not (.t s16))⟩
    (.one ⟨some s14, none, (.mv (.t s17))⟩
    .done)))))
  (.cond (.t s14) (.seq (.reg (.one ⟨some s4, none, (.mv (.c (.v (.int .i64 6))))⟩
    .done))
  .ret) (.seq (.reg (.one ⟨some s19, none, (.load (some 7) (.t s3))⟩
    (.one ⟨some s20, none, (.callq 43 [(.t s19)])⟩
    (.one ⟨some s21, none, (.not (.t s20))⟩
    (.one ⟨some s18, none, (.mv (.t s21))⟩
    .done)))))
  (.cond (.t s18) (.seq (.reg (.one ⟨some s4, none, (.mv (.c (.v (.int .i64 1))))⟩
    .done))
  .ret) .skip)))))
  (.seq (.reg (.one ⟨some s22, none, (.load (some 7) (.t s3))⟩
    (.one ⟨some s23, none, (.callq 44 [(.t s22)])⟩
    (.one ⟨some s5, none, (.mv (.t s23))⟩
    .done))))
  (.seq (.reg (.one ⟨some s24, none, (.faddr 5 (.t s3))⟩
    (.one ⟨some s25, none, (.load none (.t s24))⟩
    (.one ⟨some s26, none, (.faddr 5 (.t s3))⟩
    (.one ⟨some s27, none, (.load none (.t s26))⟩
    (.one ⟨some s28, none, (.mv (.t s5))⟩
    (.one ⟨some s29, none, (.len false (.t s28))⟩
    (.one ⟨some s30, none, (.bin false .add (.t s27) (.t s29))⟩
    (.one ⟨some s31, none, (.build [(.v (.int .i64 0)), (.v (.int .i64 0))] [(0, 1, (.t s25)), (1, 1, (.t s30))])⟩
    (.one ⟨some s6, none, (.new [(.v (.int .i64 0)), (.v (.int .i64 0))])⟩
    (.one ⟨none, none, (.store 2 (.t s6) (.t s31))⟩
    .done)))))))))))
  (.seq (.reg (.one ⟨some s32, none, (.faddr 3 (.t s3))⟩
    (.one ⟨some s33, none, (.load none (.t s32))⟩
    (.one ⟨some s34, none, (.not (.t s33))⟩
    (.one ⟨some s35, none, (.mv (.t s34))⟩
    (.one ⟨some s36, some (s35, false), (.faddr 4 (.t s3))⟩
    (.one ⟨some s37, some (s35, false), (.load none (.t s36))⟩
    (.one ⟨some s38, none, (.pick (.t s35) (.c (.v (.bool true))) (.t s37))⟩
    (.one ⟨some s7, none, (.mv (.t s38))⟩
    .done)))))))))
  (.seq (.reg (.one ⟨some s39, none, (.mv (.t s0))⟩
    (.one ⟨some s40, none, (.nilchk (.t s39))⟩
    (.one ⟨some s41, none, (.faddr 0 (.t s40))⟩
    (.one ⟨some s42, none, (.load none (.t s41))⟩
    (.one ⟨some s43, none, (.faddr 2 (.t s3))⟩
    (.one ⟨some s44, none, (.load none (.t s43))⟩
    (.one ⟨some s45, none, (.look (.v (.pointer none)) (.t s42) (.t s44))⟩
    (.one ⟨some s8, none, (.mv (.t s45))⟩
    .done)))))))))
  (.seq (.seq (.reg (.one ⟨some s46, none, (.mv (.t s8))⟩
    (.one ⟨some s47, none, (.eqNil 1 false (.t s46))⟩
    .done)))
  (.cond (.t s47) (.seq (.reg (.one ⟨some s49, none, (.callq 45 [(.c (.slice 2 [] .full))])⟩
    (.one ⟨some s48, none, (.mv (.t s49))⟩
    (.one ⟨some s50, none, (.ext (.t s48) 0)⟩
    (.one ⟨some s51, none, (.ext (.t s48) 1)⟩
    (.one ⟨some s9, none, (.mv (.t s50))⟩
    (.one ⟨some s10, none, (.mv (.t s51))⟩
    .done)))))))
  (.seq (.seq (.reg (.one ⟨some s52, none, (.mv (.t s10))⟩
    (.one ⟨some s53, none, (.bin false .neq (.t s52) (.c (.v (.int .i64 0))))⟩
    .done)))
  (.cond (.t s53) (.seq (.reg (.one ⟨some s54, none, (.mv (.t s10))⟩
    (.one ⟨some s4, none, (.mv (.t s54))⟩
    .done)))
  .ret) .skip))
  (.reg (.one ⟨some s55, none, (.mv (.t s9))⟩
    (.one ⟨some s56, none, .mkmap⟩
    (.one ⟨some s57, none, (.build [(.slice 1 [] .full), (.v (.pointer none)), (.v (.int .i64 0)), (.v (.map none)), (.v (.int .i64 0))] [(1, 1, (.t s55)), (2, 1, (.c (.v (.int .i64 (-1))))), (3, 1, (.t s56))])⟩
    (.one ⟨some s58, none, (.box 5 (.t s57))⟩
    (.one ⟨some s8, none, (.mv (.t s58))⟩
    .done)))))))) .skip))
  (.seq (.seq (.reg (.one ⟨some s59, none, (.mv (.t s8))⟩
    (.one ⟨some s60, none, (.load (some 2) (.t s6))⟩
    (.one ⟨some s61, none, (.mv (.t s7))⟩
    (.one ⟨some s62, none, (.callq 46 [(.t s59), (.t s60), (.t s61)])⟩
    (.one ⟨some s11, none, (.mv (.t s62))⟩
    .done))))))
  (.seq (.reg (.one ⟨some s63, none, (.mv (.t s11))⟩
    (.one ⟨some s64, none, (.bin false .neq (.t s63) (.c (.v (.int .i64 0))))⟩
    .done)))
  (.cond (.t s64) (.seq (.reg (.one ⟨some s65, none, (.mv (.t s11))⟩
    (.one ⟨some s4, none, (.mv (.t s65))⟩
    .done)))
  .ret) .skip)))
  (.seq (.reg (.one ⟨some s66, none, (.mv (.t s8))⟩
    (.one ⟨some s67, none, (.nilchk (.t s66))⟩
    (.one ⟨some s68, none, (.faddr 0 (.t s67))⟩
    (.one ⟨some s69, none, (.load none (.t s68))⟩
    (.one ⟨some s12, none, (.mv (.t s69))⟩
    .done))))))
  (.seq (.reg (.one ⟨some s70, none, (.mv (.t s8))⟩
    (.one ⟨some s71, none, (.mv (.t s12))⟩
    (.one ⟨some s72, none, (.callq 47 [(.t s71)])⟩
    (.one ⟨some s73, none, (.nilchk (.t s70))⟩
    (.one ⟨some s74, none, (.faddr 0 (.t s73))⟩
    (.one ⟨none, none, (.store 1 (.t s74) (.t s72))⟩
    .done)))))))
  (.seq (.reg (.one ⟨some s75, none, (.mv (.t s8))⟩
    (.one ⟨some s76, none, (.faddr 5 (.t s3))⟩
    (.one ⟨some s77, none, (.load none (.t s76))⟩
    (.one ⟨some s78, none, (.mv (.t s5))⟩
    (.one ⟨some s79, none, (.call 48 [(.t s75), (.t s77), (.t s78)])⟩
    .done))))))
  (.seq (.seq (.reg (.one ⟨some s80, none, (.mv (.t s8))⟩
    (.one ⟨some s81, none, (.nilchk (.t s80))⟩
    (.one ⟨some s82, none, (.faddr 1 (.t s81))⟩
    (.one ⟨some s83, none, (.load none (.t s82))⟩
    (.one ⟨some s84, none, (.load (some 2) (.t s6))⟩
    (.one ⟨some s85, none, (.call 49 [(.t s83), (.t s84)])⟩
    (.one ⟨some s13, none, (.mv (.t s85))⟩
    .done))))))))
  (.seq (.reg (.one ⟨some s86, none, (.mv (.t s13))⟩
    (.one ⟨some s87, none, (.bin false .neq (.t s86) (.c (.v (.int .i64 0))))⟩
    .done)))
  (.cond (.t s87) (.seq (.reg (.one ⟨some s88, none, (.mv (.t s8))⟩
    (.one ⟨some s89, none, (.mv (.t s12))⟩
    (.one ⟨some s90, none, (.nilchk (.t s88))⟩
    (.one ⟨some s91, none, (.faddr 0 (.t s90))⟩
    (.one ⟨none, none, (.store 1 (.t s91) (.t s89))⟩
    .done))))))
  (.seq (.reg (.one ⟨some s92, none, (.mv (.t s13))⟩
    (.one ⟨some s4, none, (.mv (.t s92))⟩
    .done)))
  .ret)) .skip)))
  (.seq (.reg (.one ⟨some s93, none, (.mv (.t s8))⟩
    (.one ⟨some s94, none, (.load (some 7) (.t s3))⟩
    (.one ⟨some s95, none, (.mv (.t s7))⟩
    (.one ⟨some s96, none, (.call 50 [(.t s93), (.t s94), (.t s95)])⟩
    .done)))))
  (.seq (.reg (.one ⟨some s97, none, (.mv (.t s0))⟩
    (.one ⟨some s98, none, (.nilchk (.t s97))⟩
    (.one ⟨some s99, none, (.faddr 0 (.t s98))⟩
    (.one ⟨some s100, none, (.load none (.t s99))⟩
    (.one ⟨some s101, none, (.faddr 2 (.t s3))⟩
    (.one ⟨some s102, none, (.load none (.t s101))⟩
    (.one ⟨some s103, none, (.mv (.t s8))⟩
    (.one ⟨none, none, (.mset (.t s100) (.t s102) (.t s103))⟩
    .done)))))))))
  (.seq (.reg (.one ⟨some s4, none, (.mv (.c (.v (.int .i64 0))))⟩
    .done))
  .ret)))))))))))))))⟩
theorem ok17 : compF Tryz.prog c17 Tryz.f17 = some ir17 := by kernel_rfl
theorem k_rxbuf_Buffer_Put {args : List AVal} {σ : AHeap} {Q : AVal → AHeap → Prop} (hl : Nat.ble args.length 104 = true) (h : argsK (Env.full 9) 0 args fun env => evC Tryz.prog c17 ir17.body env σ (retQ ir17 Q)) : ACalls Tryz.prog 17 args σ Q :=
  acalls_of Tryz.func17 ok17 rfl (Nat.le_of_ble_eq_true hl) h
/- rxbuf.Buffer).Whole -/
def c22 : Cfg := ⟨qs, [], 19, [], ps⟩
def ir22 : IFun := ⟨2, [.tmp s4],
  (.seq (.reg (.one ⟨some s4, none, (.mv (.c (.v (.bool false))))⟩
    .done))
  (.seq (.reg (.one ⟨some s8, none, (.mv (.t s0))⟩
    (.one ⟨some s9, none, (.mv (.t s1))⟩
    (.one ⟨some s10, none, (.callq 63 [(.t s8), (.t s9)])⟩
    (.one ⟨some s7, none, (.mv (.t s10))⟩
    (.one ⟨some s11, none, (.ext (.t s7) 0)⟩
    (.one ⟨some s12, none, (.ext (.t s7) 1)⟩
    (.one ⟨some s5, none, (.mv (.t s11))⟩
    (.one ⟨some s6, none, (.mv (.t s12))⟩
    .done)))))))))
  (.seq (.reg (.one ⟨some s13, none, (.mv (.t s6))⟩
    (.one ⟨some s14, none, (.bin false .eql (.t s13) (.c (.v (.int .i64 0))))⟩
    (.one ⟨some s15, none, (.mv (.t s14))⟩
    (.one ⟨some s16, some (s15, true), (.mv (.t s5))⟩
    (.one ⟨some s17, some (s15, true), (.callq 64 [(.t s16)])⟩
    (.one ⟨some s18, none, (.pick (.t s15) (.t s17) (.c (.v (.bool false))))⟩
    (.one ⟨some s4, none, (.mv (.t s18))⟩
    .done))))))))
  .ret)))⟩
theorem ok22 : compF Tryz.prog c22 Tryz.f22 = some ir22 := by kernel_rfl
theorem k_rxbuf_Buffer_Whole {args : List AVal} {σ : AHeap} {Q : AVal → AHeap → Prop} (hl : Nat.ble args.length 19 = true) (h : argsK (Env.full 9) 0 args fun env => evC Tryz.prog c22 ir22.body env σ (retQ ir22 Q)) : ACalls Tryz.prog 22 args σ Q :=
  acalls_of Tryz.func22 ok22 rfl (Nat.le_of_ble_eq_true hl) h
/- rxbuf.Buffer).Take -/
def c25 : Cfg := ⟨qs, [], 70, [], ps⟩
def ir25 : IFun := ⟨2, [.tmp s4, .tmp s5, .tmp s6],
  (.seq (.reg (.one ⟨some s4, none, (.mv (.c (.v (.int .i64 0))))⟩
    (.one ⟨some s5, none, (.mv (.c (.slice 1 [] .full)))⟩
    (.one ⟨some s6, none, (.mv (.c (.v (.int .i64 0))))⟩
    .done))))
  (.seq (.reg (.one ⟨some s13, none, (.mv (.t s0))⟩
    (.one ⟨some s14, none, (.mv (.t s1))⟩
    (.one ⟨some s15, none, (.callq 63 [(.t s13), (.t s14)])⟩
    (.one ⟨some s12, none, (.mv (.t s15))⟩
    (.one ⟨some s16, none, (.ext (.t s12) 0)⟩
    (.one ⟨some s17, none, (.ext (.t s12) 1)⟩
    (.one ⟨some s7, none, (.mv (.t s16))⟩
    (.one ⟨some s8, none, (.mv (.t s17))⟩
    .done)))))))))
  (.seq (.block 0 (.seq (.reg (.one ⟨some s19, none, (.mv (.t s8))⟩
    (.one ⟨some s20, none, (.bin false .neq (.t s19) (.c (.v (.int .i64 0))))⟩
    (.one ⟨some s18, none, (.mv (.t s20))⟩
    .done))))
  (.cond (.t s18) (.seq (.reg (.one ⟨some s21, none, (.mv (.t s8))⟩
    (.one ⟨some s4, none, (.mv (.c (.v (.int .i64 0))))⟩
    (.one ⟨some s5, none, (.mv (.c (.slice 1 [] .full)))⟩
    (.one ⟨some s6, none, (.mv (.t s21))⟩
    .done)))))
  .ret) (.seq (.reg (.one ⟨some s23, none, (.mv (.t s7))⟩
    (.one ⟨some s24, none, (.callq 64 [(.t s23)])⟩
    (.one ⟨some s25, none, (.not (.t s24))⟩
    (.one ⟨some s22, none, (.mv (.t s25))⟩
    .done)))))
  (.cond (.t s22) (.seq (.reg (.one ⟨some s4, none, (.mv (.c (.v (.int .i64 0))))⟩
    (.one ⟨some s5, none, (.mv (.c (.slice 1 [] .full)))⟩
    (.one ⟨some s6, none, (.mv (.c (.v (.int .i64 8))))⟩
    .done))))
  .ret) .skip)))))
  (.seq (.reg (.one ⟨some s9, none, (.mv (.c (.slice 1 [] .full)))⟩
    .done))
  (.seq (.reg (.one ⟨some s10, none, (.mv (.c (.v (.int .i64 0))))⟩
    .done))
  (.seq (.seq (.reg (.one ⟨some s11, none, (.mv (.c (.v (.int .i64 1))))⟩
    .done))
  (.block 1 (.loop (.seq (.seq (.reg (.one ⟨some s26, none, (.mv (.t s11))⟩
    (.one ⟨some s27, none, (.mv (.t s7))⟩
    (.one ⟨some s28, none, (.nilchk (.t s27))⟩
    (.one ⟨some s29, none, (.faddr 2 (.t s28))⟩
    (.one ⟨some s30, none, (.load none (.t s29))⟩
    (.one ⟨some s31, none, (.bin false .leq (.t s26) (.t s30))⟩
    .done)))))))
  (.cond (.t s31) .skip (.exit 1)))
  (.seq (.block 2 (.seq (.reg (.one ⟨some s34, none, (.mv (.t s11))⟩
    (.one ⟨some s35, none, (.mv (.t s7))⟩
    (.one ⟨some s36, none, (.nilchk (.t s35))⟩
    (.one ⟨some s37, none, (.faddr 2 (.t s36))⟩
    (.one ⟨some s38, none, (.load none (.t s37))⟩
    (.one ⟨some s39, none, (.bin false .eql (.t s34) (.t s38))⟩
    (.one ⟨some s40, none, (.mv (.t s39))⟩
    (.one ⟨some s41, some (s40, false), (.mv (.t s7))⟩
    (.one ⟨some s42, some (s40, false), (.nilchk (.t s41))⟩
    (.one ⟨some s43, some (s40, false), (.faddr 3 (.t s42))⟩
    (.one ⟨some s44, some (s40, false), (.load none (.t s43))⟩
    (.one ⟨some s45, some (s40, false), (.mv (.t s11))⟩
    (.one ⟨some s46, some (s40, false), (.look (.v (.bool false)) (.t s44) (.t s45))⟩
    (.one ⟨some s47, none, (.pick (.t s40) (.c (.v (.bool true))) (.t s46))⟩
    .done)))))))))))))))
  (.cond (.t s47) (.seq (.reg (.one ⟨some s48, none, (.mv (.t s9))⟩
    (.one ⟨some s49, none, (.mv (.t s7))⟩
    (.one ⟨some s50, none, (.nilchk (.t s49))⟩
    (.one ⟨some s51, none, (.faddr 0 (.t s50))⟩
    (.one ⟨some s52, none, (.load none (.t s51))⟩
    (.one ⟨some s53, none, (.mv (.t s10))⟩
    (.one ⟨some s54, none, (.mv (.t s11))⟩
    (.one ⟨some s55, none, (.cut 1 (.t s52) (some (.t s53)) (some (.t s54)) none)⟩
    (.one ⟨some s56, none, (.callq 47 [(.t s55)])⟩
    (.one ⟨some s57, none, (.row 1 [(.t s56)])⟩
    (.one ⟨some s58, none, (.app 1 24 (.t s48) (.t s57))⟩
    (.one ⟨some s9, none, (.mv (.t s58))⟩
    .done)))))))))))))
  (.reg (.one ⟨some s59, none, (.mv (.t s11))⟩
    (.one ⟨some s10, none, (.mv (.t s59))⟩
    .done)))) .skip)))
  (.reg (.one ⟨some s32, none, (.mv (.t s11))⟩
    (.one ⟨some s33, none, (.bin false .add (.t s32) (.c (.v (.int .i64 1))))⟩
    (.one ⟨some s11, none, (.mv (.t s33))⟩
    .done)))))))))
  (.seq (.reg (.one ⟨some s60, none, (.mv (.t s0))⟩
    (.one ⟨some s61, none, (.nilchk (.t s60))⟩
    (.one ⟨some s62, none, (.faddr 0 (.t s61))⟩
    (.one ⟨some s63, none, (.load none (.t s62))⟩
    (.one ⟨some s64, none, (.mv (.t s1))⟩
    (.one ⟨none, none, (.mdel (.t s63) (.t s64))⟩
    .done)))))))
  (.seq (.reg (.one ⟨some s65, none, (.mv (.t s7))⟩
    (.one ⟨some s66, none, (.nilchk (.t s65))⟩
    (.one ⟨some s67, none, (.faddr 4 (.t s66))⟩
    (.one ⟨some s68, none, (.load none (.t s67))⟩
    (.one ⟨some s69, none, (.mv (.t s9))⟩
    (.one ⟨some s4, none, (.mv (.t s68))⟩
    (.one ⟨some s5, none, (.mv (.t s69))⟩
    (.one ⟨some s6, none, (.mv (.c (.v (.int .i64 0))))⟩
    .done)))))))))
  .ret))))))))⟩
theorem ok25 : compF Tryz.prog c25 Tryz.f25 = some ir25 := by kernel_rfl
theorem k_rxbuf_Buffer_Take {args : List AVal} {σ : AHeap} {Q : AVal → AHeap → Prop} (hl : Nat.ble args.length 70 = true) (h : argsK (Env.full 9) 0 args fun env => evC Tryz.prog c25 ir25.body env σ (retQ ir25 Q)) : ACalls Tryz.prog 25 args σ Q :=
  acalls_of Tryz.func25 ok25 rfl (Nat.le_of_ble_eq_true hl) h
/- rxbuf.Buffer).Missing -/
def c36 : Cfg := ⟨qs, [], 41, [], ps⟩
def ir36 : IFun := ⟨2, [.tmp s4],
  (.seq (.reg (.one ⟨some s4, none, (.mv (.c (.slice 2 [] .full)))⟩
    .done))
  (.seq (.reg (.one ⟨some s8, none, (.mv (.t s0))⟩
    (.one ⟨some s9, none, (.mv (.t s1))⟩
    (.one ⟨some s10, none, (.callq 63 [(.t s8), (.t s9)])⟩
    (.one ⟨some s7, none, (.mv (.t s10))⟩
    (.one ⟨some s11, none, (.ext (.t s7) 0)⟩
    (.one ⟨some s12, none, (.ext (.t s7) 1)⟩
    (.one ⟨some s5, none, (.mv (.t s11))⟩
    (.one ⟨some s6, none, (.mv (.t s12))⟩
    .done)))))))))
  (.seq (.seq (.reg (.one ⟨some s13, none, (.mv (.t s6))⟩
    (.one ⟨some s14, none, (.bin false .neq (.t s13) (.c (.v (.int .i64 0))))⟩
    .done)))
  (.cond (.t s14) (.seq (.reg (.one ⟨some s4, none, (.mv (.c (.slice 2 [] .full)))⟩
    .done))
  .ret) .skip))
  (.seq (.seq (.reg (.one ⟨some s15, none, (.mv (.t s5))⟩
    (.one ⟨some s16, none, (.nilchk (.t s15))⟩
    (.one ⟨some s17, none, (.faddr 2 (.t s16))⟩
    (.one ⟨some s18, none, (.load none (.t s17))⟩
    (.one ⟨some s19, none, (.bin false .neq (.t s18) (.c (.v (.int .i64 (-1)))))⟩
    .done))))))
  (.cond (.t s19) (.seq (.reg (.one ⟨some s20, none, (.mv (.t s5))⟩
    (.one ⟨some s21, none, (.nilchk (.t s20))⟩
    (.one ⟨some s22, none, (.faddr 1 (.t s21))⟩
    (.one ⟨some s23, none, (.load none (.t s22))⟩
    (.one ⟨some s24, none, (.mv (.t s5))⟩
    (.one ⟨some s25, none, (.nilchk (.t s24))⟩
    (.one ⟨some s26, none, (.faddr 2 (.t s25))⟩
    (.one ⟨some s27, none, (.load none (.t s26))⟩
    (.one ⟨some s28, none, (.callq 77 [(.t s23), (.t s27)])⟩
    (.one ⟨some s4, none, (.mv (.t s28))⟩
    .done)))))))))))
  .ret) .skip))
  (.seq (.reg (.one ⟨some s29, none, (.mv (.t s5))⟩
    (.one ⟨some s30, none, (.nilchk (.t s29))⟩
    (.one ⟨some s31, none, (.faddr 1 (.t s30))⟩
    (.one ⟨some s32, none, (.load none (.t s31))⟩
    (.one ⟨some s33, none, (.mv (.t s5))⟩
    (.one ⟨some s36, none, (.mv (.t s5))⟩
    (.one ⟨some s34, none, (.callq 78 [(.t s33)])⟩
    (.one ⟨some s35, none, (.callq 77 [(.t s32), (.t s34)])⟩
    (.one ⟨some s37, none, (.callq 78 [(.t s36)])⟩
    (.one ⟨some s38, none, (.build [(.v (.int .i64 0)), (.v (.int .i64 0))] [(0, 1, (.t s37))])⟩
    (.one ⟨some s39, none, (.row 2 [(.t s38)])⟩
    (.one ⟨some s40, none, (.app 2 16 (.t s35) (.t s39))⟩
    (.one ⟨some s4, none, (.mv (.t s40))⟩
    .done))))))))))))))
  .ret)))))⟩
theorem ok36 : compF Tryz.prog c36 Tryz.f36 = some ir36 := by kernel_rfl
theorem k_rxbuf_Buffer_Missing {args : List AVal} {σ : AHeap} {Q : AVal → AHeap → Prop} (hl : Nat.ble args.length 41 = true) (h : argsK (Env.full 9) 0 args fun env => evC Tryz.prog c36 ir36.body env σ (retQ ir36 Q)) : ACalls Tryz.prog 36 args σ Q :=
  acalls_of Tryz.func36 ok36 rfl (Nat.le_of_ble_eq_true hl) h
/- rxbuf.Buffer).made -/
def c42 : Cfg := ⟨qs, [], 12, [], ps⟩
def ir42 : IFun := ⟨1, [.tmp s2],
  (.seq (.reg (.one ⟨some s2, none, (.mv (.c (.v (.bool false))))⟩
    .done))
  (.seq (.reg (.one ⟨some s3, none, (.mv (.t s0))⟩
    (.one ⟨some s4, none, (.eqNil 1 true (.t s3))⟩
    (.one ⟨some s5, none, (.mv (.t s4))⟩
    (.one ⟨some s6, some (s5, true), (.mv (.t s0))⟩
    (.one ⟨some s7, some (s5, true), (.nilchk (.t s6))⟩
    (.one ⟨some s8, some (s5, true), (.faddr 0 (.t s7))⟩
    (.one ⟨some s9, some (s5, true), (.load none (.t s8))⟩
    (.one ⟨some s10, some (s5, true), (.eqNil 2 true (.t s9))⟩
    (.one ⟨some s11, none, (.pick (.t s5) (.t s10) (.c (.v (.bool false))))⟩
    (.one ⟨some s2, none, (.mv (.t s11))⟩
    .done)))))))))))
  .ret))⟩
theorem ok42 : compF Tryz.prog c42 Tryz.f42 = some ir42 := by kernel_rfl
theorem k_rxbuf_Buffer_made {args : List AVal} {σ : AHeap} {Q : AVal → AHeap → Prop} (hl : Nat.ble args.length 12 = true) (h : argsK (Env.full 9) 0 args fun env => evC Tryz.prog c42 ir42.body env σ (retQ ir42 Q)) : ACalls Tryz.prog 42 args σ Q :=
  acalls_of Tryz.func42 ok42 rfl (Nat.le_of_ble_eq_true hl) h
/- rxbuf.right -/
def c43 : Cfg := ⟨qs, [], 56, [], ps⟩
def ir43 : IFun := ⟨1, [.tmp s2],
  (.seq (.reg (.one ⟨some s1, none, (.box 7 (.t s0))⟩
    (.one ⟨some s2, none, (.mv (.c (.v (.bool false))))⟩
    .done)))
  (.seq (.reg (.one ⟨some s3, none, (.mv (.c (.func 81 [] [])))⟩
    .done))
  (.seq (.reg (.one ⟨some s5, none, (.faddr 6 (.t s1))⟩
    (.one ⟨some s6, none, (.load none (.t s5))⟩
    (.one ⟨some s7, none, (.len false (.t s6))⟩
    (.one ⟨some s4, none, (.mv (.t s7))⟩
    .done)))))
  (.seq (.seq (.reg (.one ⟨some s8, none, (.mv (.t s4))⟩
    (.one ⟨some s9, none, (.bin false .lss (.t s8) (.c (.v (.int .i64 1))))⟩
    (.one ⟨some s10, none, (.mv (.t s9))⟩
    (.one ⟨some s11, some (s10, false), (.mv (.t s4))⟩
    (.one ⟨some s12, some (s10, false), (.bin false .gtr (.t s11) (.c (.v (.int .i64 24))))⟩
    (.one ⟨some s13, none, (.pick (.t s10) (.c (.v (.bool true))) (.t s12))⟩
    (.one ⟨some s14, none, (.mv (.t s13))⟩
    (.one ⟨some s15, some (s14, false), (.faddr 6 (.t s1))⟩
    (.one ⟨some s16, some (s14, false), (.load none (.t s15))⟩
    (.one ⟨some s17, some (s14, false), (.mv (.t s3))⟩
    (.one ⟨some s18, some (s14, false), (.callq 82 [(.t s16), (.t s17)])⟩
    (.one ⟨some s19, none, (.pick (.t s14) (.c (.v (.bool true))) (.t s18))⟩
    (.one ⟨some s20, none, (.mv (.t s19))⟩
    (.one ⟨some s21, some (s20, false), (.faddr 1 (.t s1))⟩
    (.one ⟨some s22, some (s20, false), (.load none (.t s21))⟩
    (.one ⟨some s23, some (s20, false), (.bin false .lss (.t s22) (.c (.v (.int .i64 0))))⟩
    (.one ⟨some s24, none, (.pick (.t s20) (.c (.v (.bool true))) (.t s23))⟩
    (.one ⟨some s25, none, (.mv (.t s24))⟩
    (.one ⟨some s26, some (s25, false), (.faddr 1 (.t s1))⟩
    (.one ⟨some s27, some (s25, false), (.load none (.t s26))⟩
    (.one ⟨some s28, some (s25, false), (.bin false .gtr (.t s27) (.c (.v (.int .i64 3))))⟩
    (.one ⟨some s29, none, (.pick (.t s25) (.c (.v (.bool true))) (.t s28))⟩
    .done)))))))))))))))))))))))
  (.cond (.t s29) (.seq (.reg (.one ⟨some s2, none, (.mv (.c (.v (.bool false))))⟩
    .done))
  .ret) .skip))
  (.seq (.reg (.one ⟨some s30, none, (.faddr 5 (.t s1))⟩
    (.one ⟨some s31, none, (.load none (.t s30))⟩
    (.one ⟨some s32, none, (.bin false .geq (.t s31) (.c (.v (.int .i64 0))))⟩
    (.one ⟨some s33, none, (.mv (.t s32))⟩
    (.one ⟨some s34, some (s33, true), (.faddr 5 (.t s1))⟩
    (.one ⟨some s35, some (s33, true), (.load none (.t s34))⟩
    (.one ⟨some s36, some (s33, true), (.bin false .leq (.t s35) (.c (.v (.int .i64 4000))))⟩
    (.one ⟨some s37, none, (.pick (.t s33) (.t s36) (.c (.v (.bool false))))⟩
    (.one ⟨some s38, none, (.mv (.t s37))⟩
    (.one ⟨some s39, some (s38, true), (.faddr 3 (.t s1))⟩
    (.one ⟨some s40, some (s38, true), (.load none (.t s39))⟩
    (.one ⟨some s41, some (s38, true), (.mv (.t s40))⟩
    (.one ⟨some s42, some (s41, false), (.faddr 5 (.t s1))⟩
    (.one ⟨some s43, some (s41, false), (.load none (.t s42))⟩
    (.one ⟨some s44, some (s41, false), (.bin false .eql (.t s43) (.c (.v (.int .i64 0))))⟩
    (.one ⟨some s45, some (s38, true), (.pick (.t s41) (.c (.v (.bool true))) (.t s44))⟩
    (.one ⟨some s46, none, (.pick (.t s38) (.t s45) (.c (.v (.bool false))))⟩
    (.one ⟨some s47, none, (.mv (.t s46))⟩
    (.one ⟨some s48, some (s47, true), (.load (some 7) (.t s1))⟩
    (.one ⟨some s51, some (s47, true), (.faddr 5 (.t s1))⟩
    (.one ⟨some s52, some (s47, true), (.load none (.t s51))⟩
    (.one ⟨some s53, some (s47, true), (.bin false .sub (.c (.v (.int .i64 4000))) (.t s52))⟩
    (.one ⟨some s49, some (s47, true), (.callq 44 [(.t s48)])⟩
    (.one ⟨some s50, some (s47, true), (.len false (.t s49))⟩
    (.one ⟨some s54, some (s47, true), (.bin false .leq (.t s50) (.t s53))⟩
    (.one ⟨some s55, none, (.pick (.t s47) (.t s54) (.c (.v (.bool false))))⟩
    (.one ⟨some s2, none, (.mv (.t s55))⟩
    .done))))))))))))))))))))))))))))
  .ret)))))⟩
theorem ok43 : compF Tryz.prog c43 Tryz.f43 = some ir43 := by kernel_rfl
theorem k_rxbuf_right {args : List AVal} {σ : AHeap} {Q : AVal → AHeap → Prop} (hl : Nat.ble args.length 56 = true) (h : argsK (Env.full 9) 0 args fun env => evC Tryz.prog c43 ir43.body env σ (retQ ir43 Q)) : ACalls Tryz.prog 43 args σ Q :=
  acalls_of Tryz.func43 ok43 rfl (Nat.le_of_ble_eq_true hl) h
/- rxbuf.piece).fits -/
def c46 : Cfg := ⟨qs, [], 49, [], ps⟩
def ir46 : IFun := ⟨3, [.tmp s6],
  (.seq (.reg (.one ⟨some s4, none, (.box 2 (.t s1))⟩
    (.one ⟨some s6, none, (.mv (.c (.v (.int .i64 0))))⟩
    .done)))
  (.seq (.block 0 (.seq (.seq (.reg (.one ⟨some s8, none, (.mv (.t s0))⟩
    (.one ⟨some s9, none, (.nilchk (.t s8))⟩
    (.one ⟨some s10, none, (.faddr 2 (.t s9))⟩
    (.one ⟨some s11, none, (.load none (.t s10))⟩
    (.one ⟨some s12, none, (.bin false .neq (.t s11) (.c (.v (.int .i64 (-1)))))⟩
    (.one ⟨some s13, none, (.mv (.t s12))⟩
    (.one ⟨some s14, some (s13, true), (.faddr 1 (.t s4))⟩
    (.one ⟨some s15, some (s13, true), (.load none (.t s14))⟩
    (.one ⟨some s16, some (s13, true), (.mv (.t s0))⟩
    (.one ⟨some s17, some (s13, true), (.nilchk (.t s16))⟩
    (.one ⟨some s18, some (s13, true), (.faddr 2 (.t s17))⟩
    (.one ⟨some s19, some (s13, true), (.load none (.t s18))⟩
    (.one ⟨some s20, some (s13, true), (.bin false .gtr (.t s15) (.t s19))⟩
    (.one ⟨some s21, some (s13, true), (.mv (.t s20))⟩
    (.one ⟨some s22, some (s21, false), (.mv (.t s2))⟩
    (.one ⟨some s23, some (s21, false), (.mv (.t s22))⟩
    (.one ⟨some s24, some (s23, true), (.faddr 1 (.t s4))⟩
    (.one ⟨some s25, some (s23, true), (.load none (.t s24))⟩
    (.one ⟨some s26, some (s23, true), (.mv (.t s0))⟩
    (.one ⟨some s27, some (s23, true), (.nilchk (.t s26))⟩
    (.one ⟨some s28, some (s23, true), (.faddr 2 (.t s27))⟩
    (.one ⟨some s29, some (s23, true), (.load none (.t s28))⟩
    (.one ⟨some s30, some (s23, true), (.bin false .neq (.t s25) (.t s29))⟩
    (.one ⟨some s31, some (s21, false), (.pick (.t s23) (.t s30) (.c (.v (.bool false))))⟩
    (.one ⟨some s32, some (s13, true), (.pick (.t s21) (.c (.v (.bool true))) (.t s31))⟩
    (.one ⟨some s33, none, (.pick (.t s13) (.t s32) (.c (.v (.bool false))))⟩
    (.one ⟨some s7, none, (.mv (.t s33))⟩
    .done))))))))))))))))))))))))))))
  (.cond (.t s7) .skip (.reg (.one ⟨some s34, none, (.mv (.t s2))⟩
    (.one ⟨some s35, none, (.mv (.t s34))⟩
    (.one ⟨some s36, some (s35, true), (.mv (.t s0))⟩
    (.one ⟨some s38, some (s35, true), (.faddr 1 (.t s4))⟩
    (.one ⟨some s39, some (s35, true), (.load none (.t s38))⟩
    (.one ⟨some s37, some (s35, true), (.callq 78 [(.t s36)])⟩
    (.one ⟨some s40, some (s35, true), (.bin false .gtr (.t s37) (.t s39))⟩
    (.one ⟨some s41, none, (.pick (.t s35) (.t s40) (.c (.v (.bool false))))⟩
    (.one ⟨some s7, none, (.mv (.t s41))⟩
    .done))))))))))))
  (.cond (.t s7) (.seq (.reg (.one ⟨some s6, none, (.mv (.c (.v (.int .i64 3))))⟩
    .done))
  .ret) (.seq (.reg (.one ⟨some s43, none, (.mv (.t s0))⟩
    (.one ⟨some s44, none, (.nilchk (.t s43))⟩
    (.one ⟨some s45, none, (.faddr 1 (.t s44))⟩
    (.one ⟨some s46, none, (.load none (.t s45))⟩
    (.one ⟨some s47, none, (.load (some 2) (.t s4))⟩
    (.one ⟨some s48, none, (.callq 84 [(.t s46), (.t s47)])⟩
    (.one ⟨some s42, none, (.mv (.t s48))⟩
    .done))))))))
  (.cond (.t s42) (.seq (.reg (.one ⟨some s6, none, (.mv (.c (.v (.int .i64 12))))⟩
    .done))
  .ret) .skip)))))
  (.seq (.reg (.one ⟨some s6, none, (.mv (.c (.v (.int .i64 0))))⟩
    .done))
  .ret)))⟩
theorem ok46 : compF Tryz.prog c46 Tryz.f46 = some ir46 := by kernel_rfl
theorem k_rxbuf_piece_fits {args : List AVal} {σ : AHeap} {Q : AVal → AHeap → Prop} (hl : Nat.ble args.length 49 = true) (h : argsK (Env.full 9) 0 args fun env => evC Tryz.prog c46 ir46.body env σ (retQ ir46 Q)) : ACalls Tryz.prog 46 args σ Q :=
  acalls_of Tryz.func46 ok46 rfl (Nat.le_of_ble_eq_true hl) h
/- rxbuf.piece).fill -/
def c48m : Cfg := ⟨qs, [22, 32, 38, 59, 62, 65, 75, 80, 89, 93], 66, [], ps⟩
def ir48m : IFun := ⟨3, [],
  (.seq (.reg (.one ⟨some s9, none, (.mv (.t s1))⟩
    (.one ⟨some s10, none, (.mv (.t s2))⟩
    (.one ⟨some s11, none, (.len false (.t s10))⟩
    (.one ⟨some s12, none, (.bin false .add (.t s9) (.t s11))⟩
    (.one ⟨some s6, none, (.mv (.t s12))⟩
    .done))))))
  (.seq (.seq (.reg (.one ⟨some s13, none, (.mv (.t s0))⟩
    (.one ⟨some s14, none, (.nilchk (.t s13))⟩
    (.one ⟨some s15, none, (.faddr 0 (.t s14))⟩
    (.one ⟨some s16, none, (.load none (.t s15))⟩
    (.one ⟨some s17, none, (.len false (.t s16))⟩
    (.one ⟨some s18, none, (.mv (.t s6))⟩
    (.one ⟨some s19, none, (.bin false .lss (.t s17) (.t s18))⟩
    .done))))))))
  (.cond (.t s19) (.reg (.one ⟨some s20, none, (.mv (.t s0))⟩
    (.one ⟨some s21, none, (.mv (.t s0))⟩
    (.one ⟨some s22, none, (.nilchk (.t s21))⟩
    (.one ⟨some s23, none, (.faddr 0 (.t s22))⟩
    (.one ⟨some s24, none, (.load none (.t s23))⟩
    (.one ⟨some s25, none, (.mv (.t s6))⟩
    (.one ⟨some s26, none, (.mv (.t s0))⟩
    (.one ⟨some s27, none, (.nilchk (.t s26))⟩
    (.one ⟨some s28, none, (.faddr 0 (.t s27))⟩
    (.one ⟨some s29, none, (.load none (.t s28))⟩
    (.one ⟨some s30, none, (.len false (.t s29))⟩
    (.one ⟨some s31, none, (.bin false .sub (.t s25) (.t s30))⟩
    (.one ⟨some s32, none, (.app0 1 1 (.v (.int .u8 0)) (.t s24) (.t s31))⟩
    (.one ⟨some s33, none, (.nilchk (.t s20))⟩
    (.one ⟨some s34, none, (.faddr 0 (.t s33))⟩
    (.one ⟨none, none, (.store 1 (.t s34) (.t s32))⟩
    .done))))))))))))))))) .skip))
  (.seq (.reg (.one ⟨some s35, none, (.mv (.t s2))⟩
    (.one ⟨some s36, none, (.len false (.t s35))⟩
    (.one ⟨some s37, none, (.mv (.c (.v (.int .i64 0))))⟩
    .done))))
  (.block 0 (.loop (.seq (.reg (.one ⟨some s38, none, (.bin false .lss (.t s37) (.t s36))⟩
    .done))
  (.seq (.cond (.t s38) .skip (.exit 0))
  (.seq (.block 1 (.seq (.reg (.one ⟨some s39, none, (.mv (.t s37))⟩
    (.one ⟨some s40, none, (.iaddr 1 (.t s35) (.t s37))⟩
    (.one ⟨some s41, none, (.load none (.t s40))⟩
    (.one ⟨some s7, none, (.mv (.t s39))⟩
    (.one ⟨some s8, none, (.mv (.t s41))⟩
    .done))))))
  (.seq (.reg (.one ⟨some s42, none, (.mv (.t s0))⟩
    (.one ⟨some s43, none, (.nilchk (.t s42))⟩
    (.one ⟨some s44, none, (.faddr 1 (.t s43))⟩
    (.one ⟨some s45, none, (.load none (.t s44))⟩
    (.one ⟨some s46, none, (.mv (.t s1))⟩
    (.one ⟨some s47, none, (.mv (.t s7))⟩
    (.one ⟨some s48, none, (.bin false .add (.t s46) (.t s47))⟩
    (.one ⟨some s49, none, (.mv (.t s1))⟩
    (.one ⟨some s50, none, (.mv (.t s7))⟩
    (.one ⟨some s51, none, (.bin false .add (.t s49) (.t s50))⟩
    (.one ⟨some s52, none, (.bin false .add (.t s51) (.c (.v (.int .i64 1))))⟩
    (.one ⟨some s53, none, (.build [(.v (.int .i64 0)), (.v (.int .i64 0))] [(0, 1, (.t s48)), (1, 1, (.t s52))])⟩
    (.one ⟨some s54, none, (.callq 84 [(.t s45), (.t s53)])⟩
    (.one ⟨some s55, none, (.not (.t s54))⟩
    .done)))))))))))))))
  (.cond (.t s55) (.reg (.one ⟨some s56, none, (.mv (.t s0))⟩
    (.one ⟨some s57, none, (.nilchk (.t s56))⟩
    (.one ⟨some s58, none, (.faddr 0 (.t s57))⟩
    (.one ⟨some s59, none, (.load none (.t s58))⟩
    (.one ⟨some s60, none, (.mv (.t s1))⟩
    (.one ⟨some s61, none, (.mv (.t s7))⟩
    (.one ⟨some s62, none, (.bin false .add (.t s60) (.t s61))⟩
    (.one ⟨some s63, none, (.mv (.t s8))⟩
    (.one ⟨some s64, none, (.iaddr 1 (.t s59) (.t s62))⟩
    (.one ⟨none, none, (.store 1 (.t s64) (.t s63))⟩
    .done))))))))))) .skip))))
  (.reg (.one ⟨some s65, none, (.bin false .add (.t s37) (.c (.v (.int .i64 1))))⟩
    (.one ⟨some s37, none, (.mv (.t s65))⟩
    .done)))))))))))⟩
theorem ok48m : compF Tryz.prog c48m Tryz.f48 = some ir48m := by kernel_rfl
theorem km_rxbuf_piece_fill {args : List AVal} {σ : AHeap} {Q : AVal → AHeap → Prop} (hl : Nat.ble args.length 66 = true) (h : argsK (Env.full 9) 0 args fun env => evC Tryz.prog c48m ir48m.body env σ (retQ ir48m Q)) : ACalls Tryz.prog 48 args σ Q :=
  acalls_of Tryz.func48 ok48m rfl (Nat.le_of_ble_eq_true hl) h
/- rxbuf.piece).note -/
def c50 : Cfg := ⟨qs, [], 78, [], ps⟩
def ir50 : IFun := ⟨3, [],
  (.seq (.reg (.one ⟨some s4, none, (.box 7 (.t s1))⟩
    .done))
  (.seq (.reg (.one ⟨some s9, none, (.faddr 5 (.t s4))⟩
    (.one ⟨some s10, none, (.load none (.t s9))⟩
    (.one ⟨some s6, none, (.mv (.t s10))⟩
    .done))))
  (.seq (.seq (.reg (.one ⟨some s11, none, (.mv (.t s6))⟩
    (.one ⟨some s12, none, (.bin false .eql (.t s11) (.c (.v (.int .i64 0))))⟩
    .done)))
  (.cond (.t s12) (.reg (.one ⟨some s13, none, (.mv (.t s0))⟩
    (.one ⟨some s14, none, (.nilchk (.t s13))⟩
    (.one ⟨some s15, none, (.faddr 4 (.t s14))⟩
    (.one ⟨some s16, none, (.load none (.t s15))⟩
    (.one ⟨some s17, none, (.faddr 1 (.t s4))⟩
    (.one ⟨some s18, none, (.load none (.t s17))⟩
    (.one ⟨some s19, none, (.bin false .and (.t s18) (.c (.v (.int .i64 2))))⟩
    (.one ⟨some s20, none, (.bin false .or (.t s16) (.t s19))⟩
    (.one ⟨some s21, none, (.nilchk (.t s13))⟩
    (.one ⟨some s22, none, (.faddr 4 (.t s21))⟩
    (.one ⟨none, none, (.store 1 (.t s22) (.t s20))⟩
    .done)))))))))))) (.seq (.reg (.one ⟨some s23, none, (.faddr 1 (.t s4))⟩
    (.one ⟨some s24, none, (.load none (.t s23))⟩
    (.one ⟨some s25, none, (.bin false .and (.t s24) (.c (.v (.int .i64 2))))⟩
    (.one ⟨some s26, none, (.bin false .eql (.t s25) (.c (.v (.int .i64 0))))⟩
    .done)))))
  (.cond (.t s26) (.reg (.one ⟨some s27, none, (.mv (.t s0))⟩
    (.one ⟨some s28, none, (.nilchk (.t s27))⟩
    (.one ⟨some s29, none, (.faddr 3 (.t s28))⟩
    (.one ⟨some s30, none, (.load none (.t s29))⟩
    (.one ⟨some s31, none, (.mv (.t s6))⟩
    (.one ⟨none, none, (.mset (.t s30) (.t s31) (.c (.v (.bool true))))⟩
    .done))))))) .skip))))
  (.seq (.seq (.reg (.one ⟨some s32, none, (.faddr 6 (.t s4))⟩
    (.one ⟨some s33, none, (.load none (.t s32))⟩
    (.one ⟨some s34, none, (.len false (.t s33))⟩
    (.one ⟨some s35, none, (.mv (.c (.v (.int .i64 0))))⟩
    .done)))))
  (.block 0 (.loop (.seq (.reg (.one ⟨some s36, none, (.bin false .lss (.t s35) (.t s34))⟩
    .done))
  (.seq (.cond (.t s36) .skip (.exit 0))
  (.seq (.block 1 (.seq (.reg (.one ⟨some s37, none, (.mv (.t s35))⟩
    (.one ⟨some s38, none, (.iaddr 1 (.t s33) (.t s35))⟩
    (.one ⟨some s39, none, (.load none (.t s38))⟩
    (.one ⟨some s7, none, (.mv (.t s37))⟩
    (.one ⟨some s8, none, (.mv (.t s39))⟩
    .done))))))
  (.seq (.seq (.reg (.one ⟨some s40, none, (.mv (.t s7))⟩
    (.one ⟨some s41, none, (.bin false .gtr (.t s40) (.c (.v (.int .i64 0))))⟩
    .done)))
  (.cond (.t s41) (.reg (.one ⟨some s42, none, (.mv (.t s0))⟩
    (.one ⟨some s43, none, (.nilchk (.t s42))⟩
    (.one ⟨some s44, none, (.faddr 3 (.t s43))⟩
    (.one ⟨some s45, none, (.load none (.t s44))⟩
    (.one ⟨some s46, none, (.mv (.t s6))⟩
    (.one ⟨none, none, (.mset (.t s45) (.t s46) (.c (.v (.bool true))))⟩
    .done))))))) .skip))
  (.reg (.one ⟨some s47, none, (.mv (.t s6))⟩
    (.one ⟨some s48, none, (.mv (.t s8))⟩
    (.one ⟨some s49, none, (.len false (.t s48))⟩
    (.one ⟨some s50, none, (.bin false .add (.t s47) (.t s49))⟩
    (.one ⟨some s6, none, (.mv (.t s50))⟩
    .done)))))))))
  (.reg (.one ⟨some s51, none, (.bin false .add (.t s35) (.c (.v (.int .i64 1))))⟩
    (.one ⟨some s35, none, (.mv (.t s51))⟩
    .done)))))))))
  (.block 2 (.seq (.reg (.one ⟨some s53, none, (.mv (.t s2))⟩
    (.one ⟨some s52, none, (.mv (.t s53))⟩
    .done)))
  (.cond (.t s52) (.seq (.reg (.one ⟨some s54, none, (.mv (.t s0))⟩
    (.one ⟨some s55, none, (.mv (.t s6))⟩
    (.one ⟨some s56, none, (.nilchk (.t s54))⟩
    (.one ⟨some s57, none, (.faddr 2 (.t s56))⟩
    (.one ⟨none, none, (.store 1 (.t s57) (.t s55))⟩
    .done))))))
  (.reg (.one ⟨some s58, none, (.mv (.t s0))⟩
    (.one ⟨some s59, none, (.nilchk (.t s58))⟩
    (.one ⟨some s60, none, (.faddr 4 (.t s59))⟩
    (.one ⟨some s61, none, (.load none (.t s60))⟩
    (.one ⟨some s62, none, (.faddr 1 (.t s4))⟩
    (.one ⟨some s63, none, (.load none (.t s62))⟩
    (.one ⟨some s64, none, (.bin false .and (.t s63) (.c (.v (.int .i64 1))))⟩
    (.one ⟨some s65, none, (.bin false .or (.t s61) (.t s64))⟩
    (.one ⟨some s66, none, (.nilchk (.t s58))⟩
    (.one ⟨some s67, none, (.faddr 4 (.t s66))⟩
    (.one ⟨none, none, (.store 1 (.t s67) (.t s65))⟩
    .done))))))))))))) (.seq (.reg (.one ⟨some s69, none, (.faddr 1 (.t s4))⟩
    (.one ⟨some s70, none, (.load none (.t s69))⟩
    (.one ⟨some s71, none, (.bin false .and (.t s70) (.c (.v (.int .i64 1))))⟩
    (.one ⟨some s72, none, (.bin false .eql (.t s71) (.c (.v (.int .i64 0))))⟩
    (.one ⟨some s68, none, (.mv (.t s72))⟩
    .done))))))
  (.cond (.t s68) (.reg (.one ⟨some s73, none, (.mv (.t s0))⟩
    (.one ⟨some s74, none, (.nilchk (.t s73))⟩
    (.one ⟨some s75, none, (.faddr 3 (.t s74))⟩
    (.one ⟨some s76, none, (.load none (.t s75))⟩
    (.one ⟨some s77, none, (.mv (.t s6))⟩
    (.one ⟨none, none, (.mset (.t s76) (.t s77) (.c (.v (.bool true))))⟩
    .done))))))) .skip)))))))))⟩
theorem ok50 : compF Tryz.prog c50 Tryz.f50 = some ir50 := by kernel_rfl
theorem k_rxbuf_piece_note {args : List AVal} {σ : AHeap} {Q : AVal → AHeap → Prop} (hl : Nat.ble args.length 78 = true) (h : argsK (Env.full 9) 0 args fun env => evC Tryz.prog c50 ir50.body env σ (retQ ir50 Q)) : ACalls Tryz.prog 50 args σ Q :=
  acalls_of Tryz.func50 ok50 rfl (Nat.le_of_ble_eq_true hl) h
/- rxbuf.Buffer).find -/
def c63 : Cfg := ⟨qs, [], 19, [], ps⟩
def ir63 : IFun := ⟨2, [.tmp s4, .tmp s5],
  (.seq (.reg (.one ⟨some s4, none, (.mv (.c (.v (.pointer none))))⟩
    (.one ⟨some s5, none, (.mv (.c (.v (.int .i64 0))))⟩
    .done)))
  (.seq (.seq (.reg (.one ⟨some s7, none, (.mv (.t s0))⟩
    (.one ⟨some s8, none, (.callq 42 [(.t s7)])⟩
    (.one ⟨some s9, none, (.not (.t s8))⟩
    .done))))
  (.cond (.t s9) (.seq (.reg (.one ⟨some s4, none, (.mv (.c (.v (.pointer none))))⟩
    (.one ⟨some s5, none, (.mv (.c (.v (.int .i64 6))))⟩
    .done)))
  .ret) .skip))
  (.seq (.reg (.one ⟨some s10, none, (.mv (.t s0))⟩
    (.one ⟨some s11, none, (.nilchk (.t s10))⟩
    (.one ⟨some s12, none, (.faddr 0 (.t s11))⟩
    (.one ⟨some s13, none, (.load none (.t s12))⟩
    (.one ⟨some s14, none, (.mv (.t s1))⟩
    (.one ⟨some s15, none, (.look (.v (.pointer none)) (.t s13) (.t s14))⟩
    (.one ⟨some s6, none, (.mv (.t s15))⟩
    .done))))))))
  (.seq (.seq (.reg (.one ⟨some s16, none, (.mv (.t s6))⟩
    (.one ⟨some s17, none, (.eqNil 1 false (.t s16))⟩
    .done)))
  (.cond (.t s17) (.seq (.reg (.one ⟨some s4, none, (.mv (.c (.v (.pointer none))))⟩
    (.one ⟨some s5, none, (.mv (.c (.v (.int .i64 4))))⟩
    .done)))
  .ret) .skip))
  (.seq (.reg (.one ⟨some s18, none, (.mv (.t s6))⟩
    (.one ⟨some s4, none, (.mv (.t s18))⟩
    (.one ⟨some s5, none, (.mv (.c (.v (.int .i64 0))))⟩
    .done))))
  .ret)))))⟩
theorem ok63 : compF Tryz.prog c63 Tryz.f63 = some ir63 := by kernel_rfl
theorem k_rxbuf_Buffer_find {args : List AVal} {σ : AHeap} {Q : AVal → AHeap → Prop} (hl : Nat.ble args.length 19 = true) (h : argsK (Env.full 9) 0 args fun env => evC Tryz.prog c63 ir63.body env σ (retQ ir63 Q)) : ACalls Tryz.prog 63 args σ Q :=
  acalls_of Tryz.func63 ok63 rfl (Nat.le_of_ble_eq_true hl) h
/- rxbuf.piece).whole -/
def c64 : Cfg := ⟨qs, [], 20, [], ps⟩
def ir64 : IFun := ⟨1, [.tmp s2],
  (.seq (.reg (.one ⟨some s2, none, (.mv (.c (.v (.bool false))))⟩
    .done))
  (.seq (.reg (.one ⟨some s3, none, (.mv (.t s0))⟩
    (.one ⟨some s4, none, (.nilchk (.t s3))⟩
    (.one ⟨some s5, none, (.faddr 2 (.t s4))⟩
    (.one ⟨some s6, none, (.load none (.t s5))⟩
    (.one ⟨some s7, none, (.bin false .gtr (.t s6) (.c (.v (.int .i64 0))))⟩
    (.one ⟨some s8, none, (.mv (.t s7))⟩
    (.one ⟨some s9, some (s8, true), (.mv (.t s0))⟩
    (.one ⟨some s10, some (s8, true), (.nilchk (.t s9))⟩
    (.one ⟨some s11, some (s8, true), (.faddr 1 (.t s10))⟩
    (.one ⟨some s12, some (s8, true), (.load none (.t s11))⟩
    (.one ⟨some s13, some (s8, true), (.mv (.t s0))⟩
    (.one ⟨some s14, some (s8, true), (.nilchk (.t s13))⟩
    (.one ⟨some s15, some (s8, true), (.faddr 2 (.t s14))⟩
    (.one ⟨some s16, some (s8, true), (.load none (.t s15))⟩
    (.one ⟨some s17, some (s8, true), (.build [(.v (.int .i64 0)), (.v (.int .i64 0))] [(0, 1, (.c (.v (.int .i64 0)))), (1, 1, (.t s16))])⟩
    (.one ⟨some s18, some (s8, true), (.callq 84 [(.t s12), (.t s17)])⟩
    (.one ⟨some s19, none, (.pick (.t s8) (.t s18) (.c (.v (.bool false))))⟩
    (.one ⟨some s2, none, (.mv (.t s19))⟩
    .done)))))))))))))))))))
  .ret))⟩
theorem ok64 : compF Tryz.prog c64 Tryz.f64 = some ir64 := by kernel_rfl
theorem k_rxbuf_piece_whole {args : List AVal} {σ : AHeap} {Q : AVal → AHeap → Prop} (hl : Nat.ble args.length 20 = true) (h : argsK (Env.full 9) 0 args fun env => evC Tryz.prog c64 ir64.body env σ (retQ ir64 Q)) : ACalls Tryz.prog 64 args σ Q :=
  acalls_of Tryz.func64 ok64 rfl (Nat.le_of_ble_eq_true hl) h
/- rxbuf.Buffer).Drop -/
def c72 : Cfg := ⟨qs, [], 21, [], ps⟩
def ir72 : IFun := ⟨2, [.tmp s4],
  (.seq (.reg (.one ⟨some s4, none, (.mv (.c (.v (.int .i64 0))))⟩
    .done))
  (.seq (.reg (.one ⟨some s8, none, (.mv (.t s0))⟩
    (.one ⟨some s9, none, (.mv (.t s1))⟩
    (.one ⟨some s10, none, (.callq 63 [(.t s8), (.t s9)])⟩
    (.one ⟨some s7, none, (.mv (.t s10))⟩
    (.one ⟨some s11, none, (.ext (.t s7) 0)⟩
    (.one ⟨some s12, none, (.ext (.t s7) 1)⟩
    (.one ⟨some s5, none, (.mv (.t s11))⟩
    (.one ⟨some s6, none, (.mv (.t s12))⟩
    .done)))))))))
  (.seq (.seq (.reg (.one ⟨some s13, none, (.mv (.t s6))⟩
    (.one ⟨some s14, none, (.bin false .eql (.t s13) (.c (.v (.int .i64 0))))⟩
    .done)))
  (.cond (.t s14) (.reg (.one ⟨some s15, none, (.mv (.t s0))⟩
    (.one ⟨some s16, none, (.nilchk (.t s15))⟩
    (.one ⟨some s17, none, (.faddr 0 (.t s16))⟩
    (.one ⟨some s18, none, (.load none (.t s17))⟩
    (.one ⟨some s19, none, (.mv (.t s1))⟩
    (.one ⟨none, none, (.mdel (.t s18) (.t s19))⟩
    .done))))))) .skip))
  (.seq (.reg (.one ⟨some s20, none, (.mv (.t s6))⟩
    (.one ⟨some s4, none, (.mv (.t s20))⟩
    .done)))
  .ret))))⟩
theorem ok72 : compF Tryz.prog c72 Tryz.f72 = some ir72 := by kernel_rfl
theorem k_rxbuf_Buffer_Drop {args : List AVal} {σ : AHeap} {Q : AVal → AHeap → Prop} (hl : Nat.ble args.length 21 = true) (h : argsK (Env.full 9) 0 args fun env => evC Tryz.prog c72 ir72.body env σ (retQ ir72 Q)) : ACalls Tryz.prog 72 args σ Q :=
  acalls_of Tryz.func72 ok72 rfl (Nat.le_of_ble_eq_true hl) h
/- rxbuf.piece).top -/
def c78 : Cfg := ⟨qs, [], 19, [], ps⟩
def ir78 : IFun := ⟨1, [.tmp s2],
  (.seq (.reg (.one ⟨some s2, none, (.mv (.c (.v (.int .i64 0))))⟩
    .done))
  (.seq (.reg (.one ⟨some s4, none, (.mv (.t s0))⟩
    (.one ⟨some s5, none, (.nilchk (.t s4))⟩
    (.one ⟨some s6, none, (.faddr 1 (.t s5))⟩
    (.one ⟨some s7, none, (.load none (.t s6))⟩
    (.one ⟨some s8, none, (.callq 102 [(.t s7)])⟩
    (.one ⟨some s3, none, (.mv (.t s8))⟩
    .done)))))))
  (.seq (.seq (.reg (.one ⟨some s9, none, (.mv (.t s3))⟩
    (.one ⟨some s10, none, (.len false (.t s9))⟩
    (.one ⟨some s11, none, (.bin false .eql (.t s10) (.c (.v (.int .i64 0))))⟩
    .done))))
  (.cond (.t s11) (.seq (.reg (.one ⟨some s2, none, (.mv (.c (.v (.int .i64 0))))⟩
    .done))
  .ret) .skip))
  (.seq (.reg (.one ⟨some s12, none, (.mv (.t s3))⟩
    (.one ⟨some s13, none, (.mv (.t s3))⟩
    (.one ⟨some s14, none, (.len false (.t s13))⟩
    (.one ⟨some s15, none, (.bin false .sub (.t s14) (.c (.v (.int .i64 1))))⟩
    (.one ⟨some s16, none, (.iaddr 2 (.t s12) (.t s15))⟩
    (.one ⟨some s17, none, (.faddr 1 (.t s16))⟩
    (.one ⟨some s18, none, (.load none (.t s17))⟩
    (.one ⟨some s2, none, (.mv (.t s18))⟩
    .done)))))))))
  .ret))))⟩
theorem ok78 : compF Tryz.prog c78 Tryz.f78 = some ir78 := by kernel_rfl
theorem k_rxbuf_piece_top {args : List AVal} {σ : AHeap} {Q : AVal → AHeap → Prop} (hl : Nat.ble args.length 19 = true) (h : argsK (Env.full 9) 0 args fun env => evC Tryz.prog c78 ir78.body env σ (retQ ir78 Q)) : ACalls Tryz.prog 78 args σ Q :=
  acalls_of Tryz.func78 ok78 rfl (Nat.le_of_ble_eq_true hl) h
/- rxbuf.right$1 -/
def c81 : Cfg := ⟨qs, [], 6, [], ps⟩
def ir81 : IFun := ⟨1, [.tmp s2],
  (.seq (.reg (.one ⟨some s2, none, (.mv (.c (.v (.bool false))))⟩
    .done))
  (.seq (.reg (.one ⟨some s3, none, (.mv (.t s0))⟩
    (.one ⟨some s4, none, (.len false (.t s3))⟩
    (.one ⟨some s5, none, (.bin false .eql (.t s4) (.c (.v (.int .i64 0))))⟩
    (.one ⟨some s2, none, (.mv (.t s5))⟩
    .done)))))
  .ret))⟩
theorem ok81 : compF Tryz.prog c81 Tryz.f81 = some ir81 := by kernel_rfl
theorem k_rxbuf_right_1 {args : List AVal} {σ : AHeap} {Q : AVal → AHeap → Prop} (hl : Nat.ble args.length 6 = true) (h : argsK (Env.full 9) 0 args fun env => evC Tryz.prog c81 ir81.body env σ (retQ ir81 Q)) : ACalls Tryz.prog 81 args σ Q :=
  acalls_of Tryz.func81 ok81 rfl (Nat.le_of_ble_eq_true hl) h
end Go.Proofs.YtgbpjbpdpgbngaaGreat
/-
  The bodies of one package, compiled to the framework's language (printed by a program of this session).
-/
namespace Go.Proofs.YtgbpjbpdpgbngaaGreat
open Go Go.Am
/- bowlineref03.Set).Count -/
def c56 : Cfg := ⟨qs, [], 30, [], ps⟩
def ir56 : IFun := ⟨2, [.tmp s4],
  (.seq (.reg (.one ⟨some s2, none, (.box 1 (.t s0))⟩
    (.one ⟨some s3, none, (.box 2 (.t s1))⟩
    (.one ⟨some s4, none, (.mv (.c (.v (.int .i64 0))))⟩
    .done))))
  (.seq (.reg (.one ⟨some s5, none, (.mv (.c (.v (.int .i64 0))))⟩
    .done))
  (.seq (.seq (.reg (.one ⟨some s7, none, (.faddr 0 (.t s3))⟩
    (.one ⟨some s8, none, (.load none (.t s7))⟩
    (.one ⟨some s6, none, (.mv (.t s8))⟩
    .done))))
  (.block 0 (.loop (.seq (.seq (.reg (.one ⟨some s9, none, (.mv (.t s6))⟩
    (.one ⟨some s10, none, (.faddr 1 (.t s3))⟩
    (.one ⟨some s11, none, (.load none (.t s10))⟩
    (.one ⟨some s12, none, (.bin false .lss (.t s9) (.t s11))⟩
    (.one ⟨some s13, none, (.mv (.t s12))⟩
    (.one ⟨some s14, some (s13, true), (.mv (.t s6))⟩
    (.one ⟨some s15, some (s13, true), (.faddr 0 (.t s2))⟩
    (.one ⟨some s16, some (s13, true), (.load none (.t s15))⟩
    (.one ⟨some s17, some (s13, true), (.len false (.t s16))⟩
    (.one ⟨some s18, some (s13, true), (.bin false .lss (.t s14) (.t s17))⟩
    (.one ⟨some s19, none, (.pick (.t s13) (.t s18) (.c (.v (.bool false))))⟩
    .done))))))))))))
  (.cond (.t s19) .skip (.exit 0)))
  (.seq (.block 1 (.seq (.reg (.one ⟨some s22, none, (.faddr 0 (.t s2))⟩
    (.one ⟨some s23, none, (.load none (.t s22))⟩
    (.one ⟨some s24, none, (.mv (.t s6))⟩
    (.one ⟨some s25, none, (.iaddr 1 (.t s23) (.t s24))⟩
    (.one ⟨some s26, none, (.load none (.t s25))⟩
    .done))))))
  (.cond (.t s26) (.reg (.one ⟨some s27, none, (.mv (.t s5))⟩
    (.one ⟨some s28, none, (.bin false .add (.t s27) (.c (.v (.int .i64 1))))⟩
    (.one ⟨some s5, none, (.mv (.t s28))⟩
    .done)))) .skip)))
  (.reg (.one ⟨some s20, none, (.mv (.t s6))⟩
    (.one ⟨some s21, none, (.bin false .add (.t s20) (.c (.v (.int .i64 1))))⟩
    (.one ⟨some s6, none, (.mv (.t s21))⟩
    .done)))))))))
  (.seq (.reg (.one ⟨some s29, none, (.mv (.t s5))⟩
    (.one ⟨some s4, none, (.mv (.t s29))⟩
    .done)))
  .ret))))⟩
theorem ok56 : compF Tryz.prog c56 Tryz.f56 = some ir56 := by kernel_rfl
theorem k_bowlineref03_Set_Count {args : List AVal} {σ : AHeap} {Q : AVal → AHeap → Prop} (hl : Nat.ble args.length 30 = true) (h : argsK (Env.full 9) 0 args fun env => evC Tryz.prog c56 ir56.body env σ (retQ ir56 Q)) : ACalls Tryz.prog 56 args σ Q :=
  acalls_of Tryz.func56 ok56 rfl (Nat.le_of_ble_eq_true hl) h
/- bowlineref03.Set).Spans -/
def c58 : Cfg := ⟨qs, [], 8, [], ps⟩
def ir58 : IFun := ⟨1, [.tmp s2],
  (.seq (.reg (.one ⟨some s1, none, (.box 1 (.t s0))⟩
    (.one ⟨some s2, none, (.mv (.c (.slice 2 [] .full)))⟩
    .done)))
  (.seq (.reg (.one ⟨some s3, none, (.load (some 1) (.t s1))⟩
    (.one ⟨some s4, none, (.faddr 0 (.t s1))⟩
    (.one ⟨some s5, none, (.load none (.t s4))⟩
    (.one ⟨some s6, none, (.len false (.t s5))⟩
    (.one ⟨some s7, none, (.callq 87 [(.t s3), (.c (.v (.bool true))), (.t s6)])⟩
    (.one ⟨some s2, none, (.mv (.t s7))⟩
    .done)))))))
  .ret))⟩
theorem ok58 : compF Tryz.prog c58 Tryz.f58 = some ir58 := by kernel_rfl
theorem k_bowlineref03_Set_Spans {args : List AVal} {σ : AHeap} {Q : AVal → AHeap → Prop} (hl : Nat.ble args.length 8 = true) (h : argsK (Env.full 9) 0 args fun env => evC Tryz.prog c58 ir58.body env σ (retQ ir58 Q)) : ACalls Tryz.prog 58 args σ Q :=
  acalls_of Tryz.func58 ok58 rfl (Nat.le_of_ble_eq_true hl) h
/- bowlineref03.Set).Gaps -/
def c79 : Cfg := ⟨qs, [], 14, [], ps⟩
def ir79 : IFun := ⟨2, [.tmp s4],
  (.seq (.reg (.one ⟨some s2, none, (.box 1 (.t s0))⟩
    (.one ⟨some s4, none, (.mv (.c (.slice 2 [] .full)))⟩
    .done)))
  (.seq (.seq (.reg (.one ⟨some s5, none, (.mv (.t s1))⟩
    (.one ⟨some s6, none, (.bin false .lss (.t s5) (.c (.v (.int .i64 1))))⟩
    (.one ⟨some s7, none, (.mv (.t s6))⟩
    (.one ⟨some s8, some (s7, false), (.mv (.t s1))⟩
    (.one ⟨some s9, some (s7, false), (.bin false .gtr (.t s8) (.c (.v (.int .i64 65536))))⟩
    (.one ⟨some s10, none, (.pick (.t s7) (.c (.v (.bool true))) (.t s9))⟩
    .done)))))))
  (.cond (.t s10) (.seq (.reg (.one ⟨some s4, none, (.mv (.c (.slice 2 [] .full)))⟩
    .done))
  .ret) .skip))
  (.seq (.reg (.one ⟨some s11, none, (.load (some 1) (.t s2))⟩
    (.one ⟨some s12, none, (.mv (.t s1))⟩
    (.one ⟨some s13, none, (.callq 87 [(.t s11), (.c (.v (.bool false))), (.t s12)])⟩
    (.one ⟨some s4, none, (.mv (.t s13))⟩
    .done)))))
  .ret)))⟩
theorem ok79 : compF Tryz.prog c79 Tryz.f79 = some ir79 := by kernel_rfl
theorem k_bowlineref03_Set_Gaps {args : List AVal} {σ : AHeap} {Q : AVal → AHeap → Prop} (hl : Nat.ble args.length 14 = true) (h : argsK (Env.full 9) 0 args fun env => evC Tryz.prog c79 ir79.body env σ (retQ ir79 Q)) : ACalls Tryz.prog 79 args σ Q :=
  acalls_of Tryz.func79 ok79 rfl (Nat.le_of_ble_eq_true hl) h
/- bowlineref03.Set).runs -/
def c87m : Cfg := ⟨qs, [22, 32, 38, 59, 62, 65, 75, 80, 89, 93], 60, [], ps⟩
def ir87m : IFun := ⟨3, [.tmp s6],
  (.seq (.reg (.one ⟨some s3, none, (.box 1 (.t s0))⟩
    (.one ⟨some s6, none, (.mv (.c (.slice 2 [] .full)))⟩
    .done)))
  (.seq (.reg (.one ⟨some s7, none, (.mv (.c (.slice 2 [] .full)))⟩
    .done))
  (.seq (.seq (.reg (.one ⟨some s8, none, (.mv (.c (.v (.int .i64 0))))⟩
    .done))
  (.block 0 (.loop (.seq (.seq (.reg (.one ⟨some s10, none, (.mv (.t s8))⟩
    (.one ⟨some s11, none, (.mv (.t s2))⟩
    (.one ⟨some s12, none, (.bin false .lss (.t s10) (.t s11))⟩
    .done))))
  (.cond (.t s12) .skip (.exit 0)))
  (.seq (.block 1 (.seq (.reg (.one ⟨some s15, none, (.mv (.t s8))⟩
    (.one ⟨some s16, none, (.faddr 0 (.t s3))⟩
    (.one ⟨some s17, none, (.load none (.t s16))⟩
    (.one ⟨some s18, none, (.len false (.t s17))⟩
    (.one ⟨some s19, none, (.bin false .lss (.t s15) (.t s18))⟩
    (.one ⟨some s20, none, (.mv (.t s19))⟩
    (.one ⟨some s21, some (s20, true), (.faddr 0 (.t s3))⟩
    (.one ⟨some s22, some (s20, true), (.load none (.t s21))⟩
    (.one ⟨some s23, some (s20, true), (.mv (.t s8))⟩
    (.one ⟨some s24, some (s20, true), (.iaddr 1 (.t s22) (.t s23))⟩
    (.one ⟨some s25, some (s20, true), (.load none (.t s24))⟩
    (.one ⟨some s26, none, (.pick (.t s20) (.t s25) (.c (.v (.bool false))))⟩
    (.one ⟨some s9, none, (.mv (.t s26))⟩
    .done))))))))))))))
  (.seq (.seq (.reg (.one ⟨some s27, none, (.mv (.t s9))⟩
    (.one ⟨some s28, none, (.mv (.t s1))⟩
    (.one ⟨some s29, none, (.bin true .neq (.t s27) (.t s28))⟩
    .done))))
  (.cond (.t s29) (.exit 1) .skip))
  (.seq (.reg (.one ⟨some s30, none, (.mv (.t s7))⟩
    (.one ⟨some s31, none, (.len false (.t s30))⟩
    (.one ⟨some s32, none, (.bin false .gtr (.t s31) (.c (.v (.int .i64 0))))⟩
    (.one ⟨some s33, none, (.mv (.t s32))⟩
    (.one ⟨some s34, some (s33, true), (.mv (.t s7))⟩
    (.one ⟨some s35, some (s33, true), (.mv (.t s7))⟩
    (.one ⟨some s36, some (s33, true), (.len false (.t s35))⟩
    (.one ⟨some s37, some (s33, true), (.bin false .sub (.t s36) (.c (.v (.int .i64 1))))⟩
    (.one ⟨some s38, some (s33, true), (.iaddr 2 (.t s34) (.t s37))⟩
    (.one ⟨some s39, some (s33, true), (.faddr 1 (.t s38))⟩
    (.one ⟨some s40, some (s33, true), (.load none (.t s39))⟩
    (.one ⟨some s41, some (s33, true), (.mv (.t s8))⟩
    (.one ⟨some s42, some (s33, true), (.bin false .eql (.t s40) (.t s41))⟩
    (.one ⟨some s43, none, (.pick (.t s33) (.t s42) (.c (.v (.bool false))))⟩
    .done)))))))))))))))
  (.cond (.t s43) (.reg (.one ⟨some s44, none, (.mv (.t s7))⟩
    (.one ⟨some s45, none, (.mv (.t s7))⟩
    (.one ⟨some s46, none, (.len false (.t s45))⟩
    (.one ⟨some s47, none, (.bin false .sub (.t s46) (.c (.v (.int .i64 1))))⟩
    (.one ⟨some s48, none, (.mv (.t s8))⟩
    (.one ⟨some s49, none, (.bin false .add (.t s48) (.c (.v (.int .i64 1))))⟩
    (.one ⟨some s50, none, (.iaddr 2 (.t s44) (.t s47))⟩
    (.one ⟨some s51, none, (.faddr 1 (.t s50))⟩
    (.one ⟨none, none, (.store 1 (.t s51) (.t s49))⟩
    .done)))))))))) (.reg (.one ⟨some s52, none, (.mv (.t s7))⟩
    (.one ⟨some s53, none, (.mv (.t s8))⟩
    (.one ⟨some s54, none, (.mv (.t s8))⟩
    (.one ⟨some s55, none, (.bin false .add (.t s54) (.c (.v (.int .i64 1))))⟩
    (.one ⟨some s56, none, (.build [(.v (.int .i64 0)), (.v (.int .i64 0))] [(0, 1, (.t s53)), (1, 1, (.t s55))])⟩
    (.one ⟨some s57, none, (.row 2 [(.t s56)])⟩
    (.one ⟨some s58, none, (.appm 2 16 (.t s52) (.t s57))⟩
    (.one ⟨some s7, none, (.mv (.t s58))⟩
    .done))))))))))))))
  (.reg (.one ⟨some s13, none, (.mv (.t s8))⟩
    (.one ⟨some s14, none, (.bin false .add (.t s13) (.c (.v (.int .i64 1))))⟩
    (.one ⟨some s8, none, (.mv (.t s14))⟩
    .done)))))))))
  (.seq (.reg (.one ⟨some s59, none, (.mv (.t s7))⟩
    (.one ⟨some s6, none, (.mv (.t s59))⟩
    .done)))
  .ret))))⟩
theorem ok87m : compF Tryz.prog c87m Tryz.f87 = some ir87m := by kernel_rfl
theorem km_bowlineref03_Set_runs {args : List AVal} {σ : AHeap} {Q : AVal → AHeap → Prop} (hl : Nat.ble args.length 60 = true) (h : argsK (Env.full 9) 0 args fun env => evC Tryz.prog c87m ir87m.body env σ (retQ ir87m Q)) : ACalls Tryz.prog 87 args σ Q :=
  acalls_of Tryz.func87 ok87m rfl (Nat.le_of_ble_eq_true hl) h
end Go.Proofs.YtgbpjbpdpgbngaaGreat
/-
  The bodies of one package, compiled to the framework's language (printed by a program of this session).
-/
namespace Go.Proofs.YtgbpjbpdpgbngaaGreat
open Go Go.Am
/- bowlineref10.Data -/
def c52 : Cfg := ⟨qs, [], 20, [], ps⟩
def ir52 : IFun := ⟨1, [.tmp s2],
  (.seq (.reg (.one ⟨some s1, none, (.box 7 (.t s0))⟩
    (.one ⟨some s2, none, (.mv (.c (.slice 1 [] .full)))⟩
    .done)))
  (.seq (.reg (.one ⟨some s3, none, (.mv (.c (.slice 1 [] .full)))⟩
    .done))
  (.seq (.seq (.reg (.one ⟨some s4, none, (.mv (.c (.v (.int .i64 0))))⟩
    .done))
  (.block 0 (.loop (.seq (.seq (.reg (.one ⟨some s5, none, (.mv (.t s4))⟩
    (.one ⟨some s6, none, (.faddr 6 (.t s1))⟩
    (.one ⟨some s7, none, (.load none (.t s6))⟩
    (.one ⟨some s8, none, (.len false (.t s7))⟩
    (.one ⟨some s9, none, (.bin false .lss (.t s5) (.t s8))⟩
    .done))))))
  (.cond (.t s9) .skip (.exit 0)))
  (.seq (.block 1 (.reg (.one ⟨some s12, none, (.mv (.t s3))⟩
    (.one ⟨some s13, none, (.faddr 6 (.t s1))⟩
    (.one ⟨some s14, none, (.load none (.t s13))⟩
    (.one ⟨some s15, none, (.mv (.t s4))⟩
    (.one ⟨some s16, none, (.iaddr 1 (.t s14) (.t s15))⟩
    (.one ⟨some s17, none, (.load none (.t s16))⟩
    (.one ⟨some s18, none, (.app 1 1 (.t s12) (.t s17))⟩
    (.one ⟨some s3, none, (.mv (.t s18))⟩
    .done))))))))))
  (.reg (.one ⟨some s10, none, (.mv (.t s4))⟩
    (.one ⟨some s11, none, (.bin false .add (.t s10) (.c (.v (.int .i64 1))))⟩
    (.one ⟨some s4, none, (.mv (.t s11))⟩
    .done)))))))))
  (.seq (.reg (.one ⟨some s19, none, (.mv (.t s3))⟩
    (.one ⟨some s2, none, (.mv (.t s19))⟩
    .done)))
  .ret))))⟩
theorem ok52 : compF Tryz.prog c52 Tryz.f52 = some ir52 := by kernel_rfl
theorem k_bowlineref10_Data {args : List AVal} {σ : AHeap} {Q : AVal → AHeap → Prop} (hl : Nat.ble args.length 20 = true) (h : argsK (Env.full 9) 0 args fun env => evC Tryz.prog c52 ir52.body env σ (retQ ir52 Q)) : ACalls Tryz.prog 52 args σ Q :=
  acalls_of Tryz.func52 ok52 rfl (Nat.le_of_ble_eq_true hl) h
end Go.Proofs.YtgbpjbpdpgbngaaGreat
/-
  The bodies of one package, compiled to the framework's language (printed by a program of this session).
-/
namespace Go.Proofs.YtgbpjbpdpgbngaaGreat
open Go Go.Am
/- bowlineref24.Buffer).Put -/
def c18 : Cfg := ⟨qs, [], 144, [], ps⟩
def ir18 : IFun := ⟨2, [.tmp s4],
  (.seq (.reg (.one ⟨some s3, none, (.box 7 (.t s1))⟩
    (.one ⟨some s4, none, (.mv (.c (.v (.int .i64 0))))⟩
    .done)))
  (.seq (.seq (.reg (.one ⟨some s13, none, (.load (some 7) (.t s3))⟩
    (.one ⟨some s14, none, (.callq 51 [(.t s13)])⟩
    (.one ⟨some s15, none, (.not (.t s14))⟩
    .done))))
  (.cond (.t s15) (.seq (.reg (.one ⟨some s4, none, (.mv (.c (.v (.int .i64 1))))⟩
    .done))
  .ret) .skip))
  (.seq (.reg (.one ⟨some s16, none, (.load (some 7) (.t s3))⟩
    (.one ⟨some s17, none, (.callq 52 [(.t s16)])⟩
    (.one ⟨some s5, none, (.mv (.t s17))⟩
    .done))))
  (.seq (.reg (.one ⟨some s18, none, (.faddr 5 (.t s3))⟩
    (.one ⟨some s19, none, (.load none (.t s18))⟩
    (.one ⟨some s20, none, (.mv (.t s5))⟩
    (.one ⟨some s21, none, (.len false (.t s20))⟩
    (.one ⟨some s22, none, (.bin false .add (.t s19) (.t s21))⟩
    (.one ⟨some s6, none, (.mv (.t s22))⟩
    .done)))))))
  (.seq (.reg (.one ⟨some s23, none, (.faddr 3 (.t s3))⟩
    (.one ⟨some s24, none, (.load none (.t s23))⟩
    (.one ⟨some s25, none, (.not (.t s24))⟩
    (.one ⟨some s26, none, (.mv (.t s25))⟩
    (.one ⟨some s27, some (s26, false), (.faddr 4 (.t s3))⟩
    (.one ⟨some s28, some (s26, false), (.load none (.t s27))⟩
    (.one ⟨some s29, none, (.pick (.t s26) (.c (.v (.bool true))) (.t s28))⟩
    (.one ⟨some s7, none, (.mv (.t s29))⟩
    .done)))))))))
  (.seq (.reg (.one ⟨some s30, none, (.mv (.t s0))⟩
    (.one ⟨some s31, none, (.faddr 2 (.t s3))⟩
    (.one ⟨some s32, none, (.load none (.t s31))⟩
    (.one ⟨some s33, none, (.callq 53 [(.t s30), (.t s32)])⟩
    (.one ⟨some s8, none, (.mv (.t s33))⟩
    .done))))))
  (.seq (.reg (.one ⟨some s34, none, (.faddr 2 (.t s3))⟩
    (.one ⟨some s35, none, (.load none (.t s34))⟩
    (.one ⟨some s36, none, (.build [(.v (.int .i64 0)), (.slice 1 [] .full), (.v (.int .i64 0)), (.slice 1 [] .full), (.v (.bool false)), (.v (.bool false))] [(0, 1, (.t s35)), (2, 1, (.c (.v (.int .i64 (-1)))))])⟩
    (.one ⟨some s9, none, (.new [(.v (.int .i64 0)), (.slice 1 [] .full), (.v (.int .i64 0)), (.slice 1 [] .full), (.v (.bool false)), (.v (.bool false))])⟩
    (.one ⟨none, none, (.store 6 (.t s9) (.t s36))⟩
    .done))))))
  (.seq (.seq (.reg (.one ⟨some s37, none, (.mv (.t s8))⟩
    (.one ⟨some s38, none, (.bin false .geq (.t s37) (.c (.v (.int .i64 0))))⟩
    .done)))
  (.cond (.t s38) (.reg (.one ⟨some s39, none, (.mv (.t s0))⟩
    (.one ⟨some s40, none, (.nilchk (.t s39))⟩
    (.one ⟨some s41, none, (.faddr 0 (.t s40))⟩
    (.one ⟨some s42, none, (.load none (.t s41))⟩
    (.one ⟨some s43, none, (.mv (.t s8))⟩
    (.one ⟨some s44, none, (.iaddr 6 (.t s42) (.t s43))⟩
    (.one ⟨some s45, none, (.load (some 6) (.t s44))⟩
    (.one ⟨none, none, (.store 6 (.t s9) (.t s45))⟩
    .done))))))))) .skip))
  (.seq (.seq (.reg (.one ⟨some s46, none, (.faddr 2 (.t s9))⟩
    (.one ⟨some s47, none, (.load none (.t s46))⟩
    (.one ⟨some s48, none, (.bin false .geq (.t s47) (.c (.v (.int .i64 0))))⟩
    (.one ⟨some s49, none, (.mv (.t s48))⟩
    (.one ⟨some s50, some (s49, true), (.mv (.t s6))⟩
    (.one ⟨some s51, some (s49, true), (.faddr 2 (.t s9))⟩
    (.one ⟨some s52, some (s49, true), (.load none (.t s51))⟩
    (.one ⟨some s53, some (s49, true), (.bin false .gtr (.t s50) (.t s52))⟩
    (.one ⟨some s54, some (s49, true), (.mv (.t s53))⟩
    (.one ⟨some s55, some (s54, false), (.mv (.t s7))⟩
    (.one ⟨some s56, some (s54, false), (.mv (.t s55))⟩
    (.one ⟨some s57, some (s56, true), (.mv (.t s6))⟩
    (.one ⟨some s58, some (s56, true), (.faddr 2 (.t s9))⟩
    (.one ⟨some s59, some (s56, true), (.load none (.t s58))⟩
    (.one ⟨some s60, some (s56, true), (.bin false .neq (.t s57) (.t s59))⟩
    (.one ⟨some s61, some (s54, false), (.pick (.t s56) (.t s60) (.c (.v (.bool false))))⟩
    (.one ⟨some s62, some (s49, true), (.pick (.t s54) (.c (.v (.bool true))) (.t s61))⟩
    (.one ⟨some s63, none, (.pick (.t s49) (.t s62) (.c (.v (.bool false))))⟩
    (.one ⟨some s64, none, (.mv (.t s63))⟩
    (.one ⟨some s65, some (s64, false), (.mv (.t s7))⟩
    (.one ⟨some s66, some (s64, false), (.mv (.t s65))⟩
    (.one ⟨some s67, some (s66, true), (.load (some 6) (.t s9))⟩
    (.one ⟨some s68, some (s66, true), (.callq 54 [(.t s67)])⟩
    (.one ⟨some s69, some (s66, true), (.mv (.t s6))⟩
    (.one ⟨some s70, some (s66, true), (.bin false .gtr (.t s68) (.t s69))⟩
    (.one ⟨some s71, some (s64, false), (.pick (.t s66) (.t s70) (.c (.v (.bool false))))⟩
    (.one ⟨some s72, none, (.pick (.t s64) (.c (.v (.bool true))) (.t s71))⟩
    .done))))))))))))))))))))))))))))
  (.cond (.t s72) (.seq (.reg (.one ⟨some s4, none, (.mv (.c (.v (.int .i64 3))))⟩
    .done))
  .ret) .skip))
  (.seq (.seq (.reg (.one ⟨some s73, none, (.load (some 6) (.t s9))⟩
    (.one ⟨some s75, none, (.faddr 5 (.t s3))⟩
    (.one ⟨some s76, none, (.load none (.t s75))⟩
    (.one ⟨some s77, none, (.mv (.t s6))⟩
    (.one ⟨some s78, none, (.build [(.v (.int .i64 0)), (.v (.int .i64 0))] [(0, 1, (.t s76)), (1, 1, (.t s77))])⟩
    (.one ⟨some s80, none, (.mv (.t s5))⟩
    (.one ⟨some s81, none, (.len false (.t s80))⟩
    (.one ⟨some s74, none, (.callq 55 [(.t s73)])⟩
    (.one ⟨some s79, none, (.callq 56 [(.t s74), (.t s78)])⟩
    (.one ⟨some s82, none, (.bin false .eql (.t s79) (.t s81))⟩
    .done)))))))))))
  (.cond (.t s82) (.seq (.reg (.one ⟨some s4, none, (.mv (.c (.v (.int .i64 12))))⟩
    .done))
  .ret) .skip))
  (.seq (.reg (.one ⟨some s83, none, (.load (some 6) (.t s9))⟩
    (.one ⟨some s84, none, (.load (some 7) (.t s3))⟩
    (.one ⟨some s85, none, (.mv (.t s5))⟩
    (.one ⟨some s86, none, (.mv (.t s7))⟩
    (.one ⟨some s87, none, (.callq 57 [(.t s83), (.t s84), (.t s85), (.t s86)])⟩
    (.one ⟨some s10, none, (.new [(.v (.int .i64 0)), (.slice 1 [] .full), (.v (.int .i64 0)), (.slice 1 [] .full), (.v (.bool false)), (.v (.bool false))])⟩
    (.one ⟨none, none, (.store 6 (.t s10) (.t s87))⟩
    .done))))))))
  (.seq (.seq (.reg (.one ⟨some s88, none, (.load (some 6) (.t s10))⟩
    (.one ⟨some s89, none, (.callq 55 [(.t s88)])⟩
    (.one ⟨some s90, none, (.callq 58 [(.t s89)])⟩
    (.one ⟨some s91, none, (.len false (.t s90))⟩
    (.one ⟨some s92, none, (.bin false .gtr (.t s91) (.c (.v (.int .i64 2048))))⟩
    .done))))))
  (.cond (.t s92) (.seq (.reg (.one ⟨some s4, none, (.mv (.c (.v (.int .i64 5))))⟩
    .done))
  .ret) .skip))
  (.seq (.reg (.one ⟨some s11, none, (.mv (.c (.slice 6 [] .full)))⟩
    .done))
  (.seq (.reg (.one ⟨some s12, none, (.mv (.c (.v (.int .i64 0))))⟩
    .done))
  (.seq (.block 0 (.loop (.seq (.seq (.reg (.one ⟨some s93, none, (.mv (.t s12))⟩
    (.one ⟨some s94, none, (.mv (.t s0))⟩
    (.one ⟨some s95, none, (.nilchk (.t s94))⟩
    (.one ⟨some s96, none, (.faddr 0 (.t s95))⟩
    (.one ⟨some s97, none, (.load none (.t s96))⟩
    (.one ⟨some s98, none, (.len false (.t s97))⟩
    (.one ⟨some s99, none, (.bin false .lss (.t s93) (.t s98))⟩
    (.one ⟨some s100, none, (.mv (.t s99))⟩
    (.one ⟨some s101, some (s100, true), (.mv (.t s0))⟩
    (.one ⟨some s102, some (s100, true), (.nilchk (.t s101))⟩
    (.one ⟨some s103, some (s100, true), (.faddr 0 (.t s102))⟩
    (.one ⟨some s104, some (s100, true), (.load none (.t s103))⟩
    (.one ⟨some s105, some (s100, true), (.mv (.t s12))⟩
    (.one ⟨some s106, some (s100, true), (.iaddr 6 (.t s104) (.t s105))⟩
    (.one ⟨some s107, some (s100, true), (.faddr 0 (.t s106))⟩
    (.one ⟨some s108, some (s100, true), (.load none (.t s107))⟩
    (.one ⟨some s109, some (s100, true), (.faddr 2 (.t s3))⟩
    (.one ⟨some s110, some (s100, true), (.load none (.t s109))⟩
    (.one ⟨some s111, some (s100, true), (.bin false .lss (.t s108) (.t s110))⟩
    (.one ⟨some s112, none, (.pick (.t s100) (.t s111) (.c (.v (.bool false))))⟩
    .done)))))))))))))))))))))
  (.cond (.t s112) .skip (.exit 0)))
  (.block 1 (.seq (.reg (.one ⟨some s113, none, (.mv (.t s11))⟩
    (.one ⟨some s114, none, (.mv (.t s0))⟩
    (.one ⟨some s115, none, (.nilchk (.t s114))⟩
    (.one ⟨some s116, none, (.faddr 0 (.t s115))⟩
    (.one ⟨some s117, none, (.load none (.t s116))⟩
    (.one ⟨some s118, none, (.mv (.t s12))⟩
    (.one ⟨some s119, none, (.iaddr 6 (.t s117) (.t s118))⟩
    (.one ⟨some s120, none, (.load (some 6) (.t s119))⟩
    (.one ⟨some s121, none, (.row 6 [(.t s120)])⟩
    (.one ⟨some s122, none, (.app 6 72 (.t s113) (.t s121))⟩
    (.one ⟨some s11, none, (.mv (.t s122))⟩
    .done))))))))))))
  (.reg (.one ⟨some s123, none, (.mv (.t s12))⟩
    (.one ⟨some s124, none, (.bin false .add (.t s123) (.c (.v (.int .i64 1))))⟩
    (.one ⟨some s12, none, (.mv (.t s124))⟩
    .done)))))))))
  (.seq (.reg (.one ⟨some s125, none, (.mv (.t s11))⟩
    (.one ⟨some s126, none, (.load (some 6) (.t s10))⟩
    (.one ⟨some s127, none, (.row 6 [(.t s126)])⟩
    (.one ⟨some s128, none, (.app 6 72 (.t s125) (.t s127))⟩
    (.one ⟨some s11, none, (.mv (.t s128))⟩
    .done))))))
  (.seq (.seq (.reg (.one ⟨some s129, none, (.mv (.t s8))⟩
    (.one ⟨some s130, none, (.bin false .geq (.t s129) (.c (.v (.int .i64 0))))⟩
    .done)))
  (.cond (.t s130) (.reg (.one ⟨some s131, none, (.mv (.t s12))⟩
    (.one ⟨some s132, none, (.bin false .add (.t s131) (.c (.v (.int .i64 1))))⟩
    (.one ⟨some s12, none, (.mv (.t s132))⟩
    .done)))) .skip))
  (.seq (.reg (.one ⟨some s133, none, (.mv (.t s0))⟩
    (.one ⟨some s134, none, (.mv (.t s11))⟩
    (.one ⟨some s135, none, (.mv (.t s0))⟩
    (.one ⟨some s136, none, (.nilchk (.t s135))⟩
    (.one ⟨some s137, none, (.faddr 0 (.t s136))⟩
    (.one ⟨some s138, none, (.load none (.t s137))⟩
    (.one ⟨some s139, none, (.mv (.t s12))⟩
    (.one ⟨some s140, none, (.cut 6 (.t s138) (some (.t s139)) none none)⟩
    (.one ⟨some s141, none, (.app 6 72 (.t s134) (.t s140))⟩
    (.one ⟨some s142, none, (.nilchk (.t s133))⟩
    (.one ⟨some s143, none, (.faddr 0 (.t s142))⟩
    (.one ⟨none, none, (.store 1 (.t s143) (.t s141))⟩
    .done)))))))))))))
  (.seq (.reg (.one ⟨some s4, none, (.mv (.c (.v (.int .i64 0))))⟩
    .done))
  .ret)))))))))))))))))))⟩
theorem ok18 : compF Tryz.prog c18 Tryz.f18 = some ir18 := by kernel_rfl
theorem k_bowlineref24_Buffer_Put {args : List AVal} {σ : AHeap} {Q : AVal → AHeap → Prop} (hl : Nat.ble args.length 144 = true) (h : argsK (Env.full 9) 0 args fun env => evC Tryz.prog c18 ir18.body env σ (retQ ir18 Q)) : ACalls Tryz.prog 18 args σ Q :=
  acalls_of Tryz.func18 ok18 rfl (Nat.le_of_ble_eq_true hl) h
/- bowlineref24.Buffer).Take -/
def c26m : Cfg := ⟨qs, [65], 75, [], ps⟩
def ir26m : IFun := ⟨2, [.tmp s4, .tmp s5, .tmp s6],
  (.seq (.reg (.one ⟨some s4, none, (.mv (.c (.v (.int .i64 0))))⟩
    (.one ⟨some s5, none, (.mv (.c (.slice 1 [] .full)))⟩
    (.one ⟨some s6, none, (.mv (.c (.v (.int .i64 0))))⟩
    .done))))
  (.seq (.reg (.one ⟨some s13, none, (.mv (.t s0))⟩
    (.one ⟨some s14, none, (.mv (.t s1))⟩
    (.one ⟨some s15, none, (.callq 53 [(.t s13), (.t s14)])⟩
    (.one ⟨some s7, none, (.mv (.t s15))⟩
    .done)))))
  (.seq (.seq (.reg (.one ⟨some s16, none, (.mv (.t s7))⟩
    (.one ⟨some s17, none, (.bin false .lss (.t s16) (.c (.v (.int .i64 0))))⟩
    .done)))
  (.cond (.t s17) (.seq (.reg (.one ⟨some s4, none, (.mv (.c (.v (.int .i64 0))))⟩
    (.one ⟨some s5, none, (.mv (.c (.slice 1 [] .full)))⟩
    (.one ⟨some s6, none, (.mv (.c (.v (.int .i64 4))))⟩
    .done))))
  .ret) .skip))
  (.seq (.reg (.one ⟨some s18, none, (.mv (.t s0))⟩
    (.one ⟨some s19, none, (.nilchk (.t s18))⟩
    (.one ⟨some s20, none, (.faddr 0 (.t s19))⟩
    (.one ⟨some s21, none, (.load none (.t s20))⟩
    (.one ⟨some s22, none, (.mv (.t s7))⟩
    (.one ⟨some s23, none, (.iaddr 6 (.t s21) (.t s22))⟩
    (.one ⟨some s24, none, (.load (some 6) (.t s23))⟩
    (.one ⟨some s8, none, (.new [(.v (.int .i64 0)), (.slice 1 [] .full), (.v (.int .i64 0)), (.slice 1 [] .full), (.v (.bool false)), (.v (.bool false))])⟩
    (.one ⟨none, none, (.store 6 (.t s8) (.t s24))⟩
    .done))))))))))
  (.seq (.seq (.reg (.one ⟨some s25, none, (.load (some 6) (.t s8))⟩
    (.one ⟨some s26, none, (.callq 69 [(.t s25)])⟩
    (.one ⟨some s27, none, (.not (.t s26))⟩
    .done))))
  (.cond (.t s27) (.seq (.reg (.one ⟨some s4, none, (.mv (.c (.v (.int .i64 0))))⟩
    (.one ⟨some s5, none, (.mv (.c (.slice 1 [] .full)))⟩
    (.one ⟨some s6, none, (.mv (.c (.v (.int .i64 8))))⟩
    .done))))
  .ret) .skip))
  (.seq (.reg (.one ⟨some s9, none, (.mv (.c (.slice 1 [] .full)))⟩
    .done))
  (.seq (.seq (.reg (.one ⟨some s10, none, (.mv (.c (.v (.int .i64 0))))⟩
    .done))
  (.block 0 (.loop (.seq (.seq (.reg (.one ⟨some s28, none, (.mv (.t s10))⟩
    (.one ⟨some s29, none, (.faddr 2 (.t s8))⟩
    (.one ⟨some s30, none, (.load none (.t s29))⟩
    (.one ⟨some s31, none, (.bin false .lss (.t s28) (.t s30))⟩
    .done)))))
  (.cond (.t s31) .skip (.exit 0)))
  (.seq (.block 1 (.seq (.seq (.reg (.one ⟨some s34, none, (.mv (.t s10))⟩
    (.one ⟨some s35, none, (.bin false .eql (.t s34) (.c (.v (.int .i64 0))))⟩
    (.one ⟨some s36, none, (.mv (.t s35))⟩
    (.one ⟨some s37, some (s36, false), (.faddr 3 (.t s8))⟩
    (.one ⟨some s38, some (s36, false), (.load none (.t s37))⟩
    (.one ⟨some s39, some (s36, false), (.mv (.t s10))⟩
    (.one ⟨some s40, some (s36, false), (.iaddr 1 (.t s38) (.t s39))⟩
    (.one ⟨some s41, some (s36, false), (.load none (.t s40))⟩
    (.one ⟨some s42, none, (.pick (.t s36) (.c (.v (.bool true))) (.t s41))⟩
    .done))))))))))
  (.cond (.t s42) (.reg (.one ⟨some s43, none, (.mv (.t s9))⟩
    (.one ⟨some s44, none, (.row 1 [(.c (.slice 1 [] .full))])⟩
    (.one ⟨some s45, none, (.appm 1 24 (.t s43) (.t s44))⟩
    (.one ⟨some s9, none, (.mv (.t s45))⟩
    .done))))) .skip))
  (.seq (.reg (.one ⟨some s46, none, (.mv (.t s9))⟩
    (.one ⟨some s47, none, (.len false (.t s46))⟩
    (.one ⟨some s48, none, (.bin false .sub (.t s47) (.c (.v (.int .i64 1))))⟩
    (.one ⟨some s11, none, (.mv (.t s48))⟩
    .done)))))
  (.reg (.one ⟨some s49, none, (.mv (.t s9))⟩
    (.one ⟨some s50, none, (.mv (.t s11))⟩
    (.one ⟨some s51, none, (.mv (.t s9))⟩
    (.one ⟨some s52, none, (.mv (.t s11))⟩
    (.one ⟨some s53, none, (.iaddr 1 (.t s51) (.t s52))⟩
    (.one ⟨some s54, none, (.load none (.t s53))⟩
    (.one ⟨some s55, none, (.faddr 1 (.t s8))⟩
    (.one ⟨some s56, none, (.load none (.t s55))⟩
    (.one ⟨some s57, none, (.mv (.t s10))⟩
    (.one ⟨some s58, none, (.iaddr 1 (.t s56) (.t s57))⟩
    (.one ⟨some s59, none, (.load none (.t s58))⟩
    (.one ⟨some s60, none, (.conv .u8 (.t s59))⟩
    (.one ⟨some s61, none, (.row 1 [(.t s60)])⟩
    (.one ⟨some s62, none, (.app 1 1 (.t s54) (.t s61))⟩
    (.one ⟨some s63, none, (.iaddr 1 (.t s49) (.t s50))⟩
    (.one ⟨none, none, (.store 1 (.t s63) (.t s62))⟩
    .done))))))))))))))))))))
  (.reg (.one ⟨some s32, none, (.mv (.t s10))⟩
    (.one ⟨some s33, none, (.bin false .add (.t s32) (.c (.v (.int .i64 1))))⟩
    (.one ⟨some s10, none, (.mv (.t s33))⟩
    .done)))))))))
  (.seq (.reg (.one ⟨some s12, none, (.mv (.c (.v (.int .i64 0))))⟩
    .done))
  (.seq (.seq (.reg (.one ⟨some s64, none, (.faddr 4 (.t s8))⟩
    (.one ⟨some s65, none, (.load none (.t s64))⟩
    .done)))
  (.cond (.t s65) (.reg (.one ⟨some s12, none, (.mv (.c (.v (.int .i64 2))))⟩
    .done)) .skip))
  (.seq (.seq (.reg (.one ⟨some s66, none, (.faddr 5 (.t s8))⟩
    (.one ⟨some s67, none, (.load none (.t s66))⟩
    .done)))
  (.cond (.t s67) (.reg (.one ⟨some s68, none, (.mv (.t s12))⟩
    (.one ⟨some s69, none, (.bin false .add (.t s68) (.c (.v (.int .i64 1))))⟩
    (.one ⟨some s12, none, (.mv (.t s69))⟩
    .done)))) .skip))
  (.seq (.reg (.one ⟨some s70, none, (.mv (.t s0))⟩
    (.one ⟨some s71, none, (.mv (.t s1))⟩
    (.one ⟨some s72, none, (.call 70 [(.t s70), (.t s71)])⟩
    .done))))
  (.seq (.reg (.one ⟨some s73, none, (.mv (.t s12))⟩
    (.one ⟨some s74, none, (.mv (.t s9))⟩
    (.one ⟨some s4, none, (.mv (.t s73))⟩
    (.one ⟨some s5, none, (.mv (.t s74))⟩
    (.one ⟨some s6, none, (.mv (.c (.v (.int .i64 0))))⟩
    .done))))))
  .ret))))))))))))⟩
theorem ok26m : compF Tryz.prog c26m Tryz.f26 = some ir26m := by kernel_rfl
theorem km_bowlineref24_Buffer_Take {args : List AVal} {σ : AHeap} {Q : AVal → AHeap → Prop} (hl : Nat.ble args.length 75 = true) (h : argsK (Env.full 9) 0 args fun env => evC Tryz.prog c26m ir26m.body env σ (retQ ir26m Q)) : ACalls Tryz.prog 26 args σ Q :=
  acalls_of Tryz.func26 ok26m rfl (Nat.le_of_ble_eq_true hl) h
/- bowlineref24.Buffer).Missing -/
def c37m : Cfg := ⟨qs, [22, 32, 38, 59, 62, 65, 75, 80, 89, 93], 37, [], ps⟩
def ir37m : IFun := ⟨2, [.tmp s4],
  (.seq (.reg (.one ⟨some s4, none, (.mv (.c (.slice 2 [] .full)))⟩
    .done))
  (.seq (.reg (.one ⟨some s7, none, (.mv (.t s0))⟩
    (.one ⟨some s8, none, (.mv (.t s1))⟩
    (.one ⟨some s9, none, (.callq 53 [(.t s7), (.t s8)])⟩
    (.one ⟨some s5, none, (.mv (.t s9))⟩
    .done)))))
  (.seq (.seq (.reg (.one ⟨some s10, none, (.mv (.t s5))⟩
    (.one ⟨some s11, none, (.bin false .lss (.t s10) (.c (.v (.int .i64 0))))⟩
    .done)))
  (.cond (.t s11) (.seq (.reg (.one ⟨some s4, none, (.mv (.c (.slice 2 [] .full)))⟩
    .done))
  .ret) .skip))
  (.seq (.reg (.one ⟨some s12, none, (.mv (.t s0))⟩
    (.one ⟨some s13, none, (.nilchk (.t s12))⟩
    (.one ⟨some s14, none, (.faddr 0 (.t s13))⟩
    (.one ⟨some s15, none, (.load none (.t s14))⟩
    (.one ⟨some s16, none, (.mv (.t s5))⟩
    (.one ⟨some s17, none, (.iaddr 6 (.t s15) (.t s16))⟩
    (.one ⟨some s18, none, (.load (some 6) (.t s17))⟩
    (.one ⟨some s6, none, (.new [(.v (.int .i64 0)), (.slice 1 [] .full), (.v (.int .i64 0)), (.slice 1 [] .full), (.v (.bool false)), (.v (.bool false))])⟩
    (.one ⟨none, none, (.store 6 (.t s6) (.t s18))⟩
    .done))))))))))
  (.seq (.seq (.reg (.one ⟨some s19, none, (.faddr 2 (.t s6))⟩
    (.one ⟨some s20, none, (.load none (.t s19))⟩
    (.one ⟨some s21, none, (.bin false .geq (.t s20) (.c (.v (.int .i64 0))))⟩
    .done))))
  (.cond (.t s21) (.seq (.reg (.one ⟨some s22, none, (.load (some 6) (.t s6))⟩
    (.one ⟨some s24, none, (.faddr 2 (.t s6))⟩
    (.one ⟨some s25, none, (.load none (.t s24))⟩
    (.one ⟨some s23, none, (.callq 55 [(.t s22)])⟩
    (.one ⟨some s26, none, (.callq 79 [(.t s23), (.t s25)])⟩
    (.one ⟨some s4, none, (.mv (.t s26))⟩
    .done)))))))
  .ret) .skip))
  (.seq (.reg (.one ⟨some s27, none, (.load (some 6) (.t s6))⟩
    (.one ⟨some s29, none, (.load (some 6) (.t s6))⟩
    (.one ⟨some s32, none, (.load (some 6) (.t s6))⟩
    (.one ⟨some s28, none, (.callq 55 [(.t s27)])⟩
    (.one ⟨some s30, none, (.callq 54 [(.t s29)])⟩
    (.one ⟨some s31, none, (.callq 79 [(.t s28), (.t s30)])⟩
    (.one ⟨some s33, none, (.callq 54 [(.t s32)])⟩
    (.one ⟨some s34, none, (.build [(.v (.int .i64 0)), (.v (.int .i64 0))] [(0, 1, (.t s33))])⟩
    (.one ⟨some s35, none, (.row 2 [(.t s34)])⟩
    (.one ⟨some s36, none, (.appm 2 16 (.t s31) (.t s35))⟩
    (.one ⟨some s4, none, (.mv (.t s36))⟩
    .done))))))))))))
  .ret))))))⟩
theorem ok37m : compF Tryz.prog c37m Tryz.f37 = some ir37m := by kernel_rfl
theorem km_bowlineref24_Buffer_Missing {args : List AVal} {σ : AHeap} {Q : AVal → AHeap → Prop} (hl : Nat.ble args.length 37 = true) (h : argsK (Env.full 9) 0 args fun env => evC Tryz.prog c37m ir37m.body env σ (retQ ir37m Q)) : ACalls Tryz.prog 37 args σ Q :=
  acalls_of Tryz.func37 ok37m rfl (Nat.le_of_ble_eq_true hl) h
/- bowlineref24.right -/
def c51 : Cfg := ⟨qs, [], 65, [], ps⟩
def ir51 : IFun := ⟨1, [.tmp s2],
  (.seq (.reg (.one ⟨some s1, none, (.box 7 (.t s0))⟩
    (.one ⟨some s2, none, (.mv (.c (.v (.bool false))))⟩
    .done)))
  (.seq (.seq (.reg (.one ⟨some s4, none, (.faddr 6 (.t s1))⟩
    (.one ⟨some s5, none, (.load none (.t s4))⟩
    (.one ⟨some s6, none, (.len false (.t s5))⟩
    (.one ⟨some s7, none, (.bin false .lss (.t s6) (.c (.v (.int .i64 1))))⟩
    (.one ⟨some s8, none, (.mv (.t s7))⟩
    (.one ⟨some s9, some (s8, false), (.faddr 6 (.t s1))⟩
    (.one ⟨some s10, some (s8, false), (.load none (.t s9))⟩
    (.one ⟨some s11, some (s8, false), (.len false (.t s10))⟩
    (.one ⟨some s12, some (s8, false), (.bin false .gtr (.t s11) (.c (.v (.int .i64 24))))⟩
    (.one ⟨some s13, none, (.pick (.t s8) (.c (.v (.bool true))) (.t s12))⟩
    (.one ⟨some s14, none, (.mv (.t s13))⟩
    (.one ⟨some s15, some (s14, false), (.faddr 1 (.t s1))⟩
    (.one ⟨some s16, some (s14, false), (.load none (.t s15))⟩
    (.one ⟨some s17, some (s14, false), (.bin false .lss (.t s16) (.c (.v (.int .i64 0))))⟩
    (.one ⟨some s18, none, (.pick (.t s14) (.c (.v (.bool true))) (.t s17))⟩
    (.one ⟨some s19, none, (.mv (.t s18))⟩
    (.one ⟨some s20, some (s19, false), (.faddr 1 (.t s1))⟩
    (.one ⟨some s21, some (s19, false), (.load none (.t s20))⟩
    (.one ⟨some s22, some (s19, false), (.bin false .gtr (.t s21) (.c (.v (.int .i64 3))))⟩
    (.one ⟨some s23, none, (.pick (.t s19) (.c (.v (.bool true))) (.t s22))⟩
    (.one ⟨some s24, none, (.mv (.t s23))⟩
    (.one ⟨some s25, some (s24, false), (.faddr 5 (.t s1))⟩
    (.one ⟨some s26, some (s24, false), (.load none (.t s25))⟩
    (.one ⟨some s27, some (s24, false), (.bin false .lss (.t s26) (.c (.v (.int .i64 0))))⟩
    (.one ⟨some s28, none, (.pick (.t s24) (.c (.v (.bool true))) (.t s27))⟩
    (.one ⟨some s29, none, (.mv (.t s28))⟩
    (.one ⟨some s30, some (s29, false), (.faddr 5 (.t s1))⟩
    (.one ⟨some s31, some (s29, false), (.load none (.t s30))⟩
    (.one ⟨some s32, some (s29, false), (.bin false .gtr (.t s31) (.c (.v (.int .i64 4000))))⟩
    (.one ⟨some s33, none, (.pick (.t s29) (.c (.v (.bool true))) (.t s32))⟩
    (.one ⟨some s34, none, (.mv (.t s33))⟩
    (.one ⟨some s35, some (s34, false), (.faddr 3 (.t s1))⟩
    (.one ⟨some s36, some (s34, false), (.load none (.t s35))⟩
    (.one ⟨some s37, some (s34, false), (.not (.t s36))⟩
    (.one ⟨some s38, some (s34, false), (.mv (.t s37))⟩
    (.one ⟨some s39, some (s38, true), (.faddr 5 (.t s1))⟩
    (.one ⟨some s40, some (s38, true), (.load none (.t s39))⟩
    (.one ⟨some s41, some (s38, true), (.bin false .neq (.t s40) (.c (.v (.int .i64 0))))⟩
    (.one ⟨some s42, some (s34, false), (.pick (.t s38) (.t s41) (.c (.v (.bool false))))⟩
    (.one ⟨some s43, none, (.pick (.t s34) (.c (.v (.bool true))) (.t s42))⟩
    .done)))))))))))))))))))))))))))))))))))))))))
  (.cond (.t s43) (.seq (.reg (.one ⟨some s2, none, (.mv (.c (.v (.bool false))))⟩
    .done))
  .ret) .skip))
  (.seq (.seq (.reg (.one ⟨some s3, none, (.mv (.c (.v (.int .i64 0))))⟩
    .done))
  (.block 0 (.loop (.seq (.seq (.reg (.one ⟨some s44, none, (.mv (.t s3))⟩
    (.one ⟨some s45, none, (.faddr 6 (.t s1))⟩
    (.one ⟨some s46, none, (.load none (.t s45))⟩
    (.one ⟨some s47, none, (.len false (.t s46))⟩
    (.one ⟨some s48, none, (.bin false .lss (.t s44) (.t s47))⟩
    .done))))))
  (.cond (.t s48) .skip (.exit 0)))
  (.seq (.block 1 (.seq (.reg (.one ⟨some s51, none, (.faddr 6 (.t s1))⟩
    (.one ⟨some s52, none, (.load none (.t s51))⟩
    (.one ⟨some s53, none, (.mv (.t s3))⟩
    (.one ⟨some s54, none, (.iaddr 1 (.t s52) (.t s53))⟩
    (.one ⟨some s55, none, (.load none (.t s54))⟩
    (.one ⟨some s56, none, (.len false (.t s55))⟩
    (.one ⟨some s57, none, (.bin false .eql (.t s56) (.c (.v (.int .i64 0))))⟩
    .done))))))))
  (.cond (.t s57) (.seq (.reg (.one ⟨some s2, none, (.mv (.c (.v (.bool false))))⟩
    .done))
  .ret) .skip)))
  (.reg (.one ⟨some s49, none, (.mv (.t s3))⟩
    (.one ⟨some s50, none, (.bin false .add (.t s49) (.c (.v (.int .i64 1))))⟩
    (.one ⟨some s3, none, (.mv (.t s50))⟩
    .done)))))))))
  (.seq (.reg (.one ⟨some s58, none, (.faddr 5 (.t s1))⟩
    (.one ⟨some s59, none, (.load none (.t s58))⟩
    (.one ⟨some s60, none, (.load (some 7) (.t s1))⟩
    (.one ⟨some s61, none, (.callq 52 [(.t s60)])⟩
    (.one ⟨some s62, none, (.len false (.t s61))⟩
    (.one ⟨some s63, none, (.bin false .add (.t s59) (.t s62))⟩
    (.one ⟨some s64, none, (.bin false .leq (.t s63) (.c (.v (.int .i64 4000))))⟩
    (.one ⟨some s2, none, (.mv (.t s64))⟩
    .done)))))))))
  .ret))))⟩
theorem ok51 : compF Tryz.prog c51 Tryz.f51 = some ir51 := by kernel_rfl
theorem k_bowlineref24_right {args : List AVal} {σ : AHeap} {Q : AVal → AHeap → Prop} (hl : Nat.ble args.length 65 = true) (h : argsK (Env.full 9) 0 args fun env => evC Tryz.prog c51 ir51.body env σ (retQ ir51 Q)) : ACalls Tryz.prog 51 args σ Q :=
  acalls_of Tryz.func51 ok51 rfl (Nat.le_of_ble_eq_true hl) h
/- bowlineref24.Buffer).Find -/
def c53 : Cfg := ⟨qs, [], 26, [], ps⟩
def ir53 : IFun := ⟨2, [.tmp s4],
  (.seq (.reg (.one ⟨some s4, none, (.mv (.c (.v (.int .i64 0))))⟩
    .done))
  (.seq (.seq (.reg (.one ⟨some s5, none, (.mv (.c (.v (.int .i64 0))))⟩
    .done))
  (.block 0 (.loop (.seq (.seq (.reg (.one ⟨some s6, none, (.mv (.t s5))⟩
    (.one ⟨some s7, none, (.mv (.t s0))⟩
    (.one ⟨some s8, none, (.nilchk (.t s7))⟩
    (.one ⟨some s9, none, (.faddr 0 (.t s8))⟩
    (.one ⟨some s10, none, (.load none (.t s9))⟩
    (.one ⟨some s11, none, (.len false (.t s10))⟩
    (.one ⟨some s12, none, (.bin false .lss (.t s6) (.t s11))⟩
    .done))))))))
  (.cond (.t s12) .skip (.exit 0)))
  (.seq (.block 1 (.seq (.reg (.one ⟨some s15, none, (.mv (.t s0))⟩
    (.one ⟨some s16, none, (.nilchk (.t s15))⟩
    (.one ⟨some s17, none, (.faddr 0 (.t s16))⟩
    (.one ⟨some s18, none, (.load none (.t s17))⟩
    (.one ⟨some s19, none, (.mv (.t s5))⟩
    (.one ⟨some s20, none, (.iaddr 6 (.t s18) (.t s19))⟩
    (.one ⟨some s21, none, (.faddr 0 (.t s20))⟩
    (.one ⟨some s22, none, (.load none (.t s21))⟩
    (.one ⟨some s23, none, (.mv (.t s1))⟩
    (.one ⟨some s24, none, (.bin false .eql (.t s22) (.t s23))⟩
    .done)))))))))))
  (.cond (.t s24) (.seq (.reg (.one ⟨some s25, none, (.mv (.t s5))⟩
    (.one ⟨some s4, none, (.mv (.t s25))⟩
    .done)))
  .ret) .skip)))
  (.reg (.one ⟨some s13, none, (.mv (.t s5))⟩
    (.one ⟨some s14, none, (.bin false .add (.t s13) (.c (.v (.int .i64 1))))⟩
    (.one ⟨some s5, none, (.mv (.t s14))⟩
    .done)))))))))
  (.seq (.reg (.one ⟨some s4, none, (.mv (.c (.v (.int .i64 (-1)))))⟩
    .done))
  .ret)))⟩
theorem ok53 : compF Tryz.prog c53 Tryz.f53 = some ir53 := by kernel_rfl
theorem k_bowlineref24_Buffer_Find {args : List AVal} {σ : AHeap} {Q : AVal → AHeap → Prop} (hl : Nat.ble args.length 26 = true) (h : argsK (Env.full 9) 0 args fun env => evC Tryz.prog c53 ir53.body env σ (retQ ir53 Q)) : ACalls Tryz.prog 53 args σ Q :=
  acalls_of Tryz.func53 ok53 rfl (Nat.le_of_ble_eq_true hl) h
/- bowlineref24.top -/
def c54 : Cfg := ⟨qs, [], 21, [], ps⟩
def ir54 : IFun := ⟨1, [.tmp s2],
  (.seq (.reg (.one ⟨some s1, none, (.box 6 (.t s0))⟩
    (.one ⟨some s2, none, (.mv (.c (.v (.int .i64 0))))⟩
    .done)))
  (.seq (.reg (.one ⟨some s3, none, (.mv (.c (.v (.int .i64 0))))⟩
    .done))
  (.seq (.seq (.reg (.one ⟨some s4, none, (.mv (.c (.v (.int .i64 0))))⟩
    .done))
  (.block 0 (.loop (.seq (.seq (.reg (.one ⟨some s5, none, (.mv (.t s4))⟩
    (.one ⟨some s6, none, (.faddr 1 (.t s1))⟩
    (.one ⟨some s7, none, (.load none (.t s6))⟩
    (.one ⟨some s8, none, (.len false (.t s7))⟩
    (.one ⟨some s9, none, (.bin false .lss (.t s5) (.t s8))⟩
    .done))))))
  (.cond (.t s9) .skip (.exit 0)))
  (.seq (.block 1 (.seq (.reg (.one ⟨some s12, none, (.faddr 1 (.t s1))⟩
    (.one ⟨some s13, none, (.load none (.t s12))⟩
    (.one ⟨some s14, none, (.mv (.t s4))⟩
    (.one ⟨some s15, none, (.iaddr 1 (.t s13) (.t s14))⟩
    (.one ⟨some s16, none, (.load none (.t s15))⟩
    (.one ⟨some s17, none, (.bin false .geq (.t s16) (.c (.v (.int .i64 0))))⟩
    .done)))))))
  (.cond (.t s17) (.reg (.one ⟨some s18, none, (.mv (.t s4))⟩
    (.one ⟨some s19, none, (.bin false .add (.t s18) (.c (.v (.int .i64 1))))⟩
    (.one ⟨some s3, none, (.mv (.t s19))⟩
    .done)))) .skip)))
  (.reg (.one ⟨some s10, none, (.mv (.t s4))⟩
    (.one ⟨some s11, none, (.bin false .add (.t s10) (.c (.v (.int .i64 1))))⟩
    (.one ⟨some s4, none, (.mv (.t s11))⟩
    .done)))))))))
  (.seq (.reg (.one ⟨some s20, none, (.mv (.t s3))⟩
    (.one ⟨some s2, none, (.mv (.t s20))⟩
    .done)))
  .ret))))⟩
theorem ok54 : compF Tryz.prog c54 Tryz.f54 = some ir54 := by kernel_rfl
theorem k_bowlineref24_top {args : List AVal} {σ : AHeap} {Q : AVal → AHeap → Prop} (hl : Nat.ble args.length 21 = true) (h : argsK (Env.full 9) 0 args fun env => evC Tryz.prog c54 ir54.body env σ (retQ ir54 Q)) : ACalls Tryz.prog 54 args σ Q :=
  acalls_of Tryz.func54 ok54 rfl (Nat.le_of_ble_eq_true hl) h
/- bowlineref24.places -/
def c55m : Cfg := ⟨qs, [59], 25, [], ps⟩
def ir55m : IFun := ⟨1, [.cell s2 (some 1)],
  (.seq (.reg (.one ⟨some s1, none, (.box 6 (.t s0))⟩
    (.one ⟨some s2, none, (.new [(.slice 1 [] .full)])⟩
    .done)))
  (.seq (.reg (.one ⟨some s5, none, (.build [(.slice 1 [] .full)] [])⟩
    (.one ⟨some s3, none, (.new [(.slice 1 [] .full)])⟩
    (.one ⟨none, none, (.store 1 (.t s3) (.t s5))⟩
    .done))))
  (.seq (.seq (.reg (.one ⟨some s4, none, (.mv (.c (.v (.int .i64 0))))⟩
    .done))
  (.block 0 (.loop (.seq (.seq (.reg (.one ⟨some s6, none, (.mv (.t s4))⟩
    (.one ⟨some s7, none, (.faddr 1 (.t s1))⟩
    (.one ⟨some s8, none, (.load none (.t s7))⟩
    (.one ⟨some s9, none, (.len false (.t s8))⟩
    (.one ⟨some s10, none, (.bin false .lss (.t s6) (.t s9))⟩
    .done))))))
  (.cond (.t s10) .skip (.exit 0)))
  (.seq (.block 1 (.reg (.one ⟨some s13, none, (.faddr 0 (.t s3))⟩
    (.one ⟨some s14, none, (.load none (.t s13))⟩
    (.one ⟨some s15, none, (.faddr 1 (.t s1))⟩
    (.one ⟨some s16, none, (.load none (.t s15))⟩
    (.one ⟨some s17, none, (.mv (.t s4))⟩
    (.one ⟨some s18, none, (.iaddr 1 (.t s16) (.t s17))⟩
    (.one ⟨some s19, none, (.load none (.t s18))⟩
    (.one ⟨some s20, none, (.bin false .geq (.t s19) (.c (.v (.int .i64 0))))⟩
    (.one ⟨some s21, none, (.row 1 [(.t s20)])⟩
    (.one ⟨some s22, none, (.appm 1 1 (.t s14) (.t s21))⟩
    (.one ⟨some s23, none, (.faddr 0 (.t s3))⟩
    (.one ⟨none, none, (.store 1 (.t s23) (.t s22))⟩
    .done))))))))))))))
  (.reg (.one ⟨some s11, none, (.mv (.t s4))⟩
    (.one ⟨some s12, none, (.bin false .add (.t s11) (.c (.v (.int .i64 1))))⟩
    (.one ⟨some s4, none, (.mv (.t s12))⟩
    .done)))))))))
  (.seq (.reg (.one ⟨some s24, none, (.load (some 1) (.t s3))⟩
    (.one ⟨none, none, (.store 1 (.t s2) (.t s24))⟩
    .done)))
  .ret))))⟩
theorem ok55m : compF Tryz.prog c55m Tryz.f55 = some ir55m := by kernel_rfl
theorem km_bowlineref24_places {args : List AVal} {σ : AHeap} {Q : AVal → AHeap → Prop} (hl : Nat.ble args.length 25 = true) (h : argsK (Env.full 9) 0 args fun env => evC Tryz.prog c55m ir55m.body env σ (retQ ir55m Q)) : ACalls Tryz.prog 55 args σ Q :=
  acalls_of Tryz.func55 ok55m rfl (Nat.le_of_ble_eq_true hl) h
/- bowlineref24.with -/
def c57m : Cfg := ⟨qs, [22, 32, 38, 59, 62, 65, 75, 80, 89, 93], 149, [], ps⟩
def ir57m : IFun := ⟨4, [.cell s8 (some 6)],
  (.seq (.reg (.one ⟨some s4, none, (.box 6 (.t s0))⟩
    (.one ⟨some s5, none, (.box 7 (.t s1))⟩
    (.one ⟨some s8, none, (.new [(.v (.int .i64 0)), (.slice 1 [] .full), (.v (.int .i64 0)), (.slice 1 [] .full), (.v (.bool false)), (.v (.bool false))])⟩
    .done))))
  (.seq (.reg (.one ⟨some s14, none, (.faddr 0 (.t s4))⟩
    (.one ⟨some s15, none, (.load none (.t s14))⟩
    (.one ⟨some s16, none, (.faddr 2 (.t s4))⟩
    (.one ⟨some s17, none, (.load none (.t s16))⟩
    (.one ⟨some s18, none, (.faddr 4 (.t s4))⟩
    (.one ⟨some s19, none, (.load none (.t s18))⟩
    (.one ⟨some s20, none, (.faddr 5 (.t s4))⟩
    (.one ⟨some s21, none, (.load none (.t s20))⟩
    (.one ⟨some s22, none, (.build [(.v (.int .i64 0)), (.slice 1 [] .full), (.v (.int .i64 0)), (.slice 1 [] .full), (.v (.bool false)), (.v (.bool false))] [(0, 1, (.t s15)), (2, 1, (.t s17)), (4, 1, (.t s19)), (5, 1, (.t s21))])⟩
    (.one ⟨some s9, none, (.new [(.v (.int .i64 0)), (.slice 1 [] .full), (.v (.int .i64 0)), (.slice 1 [] .full), (.v (.bool false)), (.v (.bool false))])⟩
    (.one ⟨none, none, (.store 6 (.t s9) (.t s22))⟩
    .done))))))))))))
  (.seq (.reg (.one ⟨some s23, none, (.faddr 1 (.t s9))⟩
    (.one ⟨some s24, none, (.load none (.t s23))⟩
    (.one ⟨some s25, none, (.faddr 1 (.t s4))⟩
    (.one ⟨some s26, none, (.load none (.t s25))⟩
    (.one ⟨some s28, none, (.faddr 3 (.t s9))⟩
    (.one ⟨some s30, none, (.faddr 3 (.t s4))⟩
    (.both (.one ⟨some s27, none, (.appm 1 8 (.t s24) (.t s26))⟩
    (.one ⟨some s29, none, (.load none (.t s28))⟩
    (.one ⟨some s31, none, (.load none (.t s30))⟩
    (.one ⟨some s33, none, (.faddr 1 (.t s9))⟩
    (.one ⟨some s32, none, (.appm 1 1 (.t s29) (.t s31))⟩
    (.one ⟨none, none, (.store 1 (.t s33) (.t s27))⟩
    (.one ⟨some s34, none, (.faddr 3 (.t s9))⟩
    (.one ⟨none, none, (.store 1 (.t s34) (.t s32))⟩
    .done)))))))) (.both (.one ⟨some s29, none, (.load none (.t s28))⟩
    (.both (.one ⟨some s27, none, (.appm 1 8 (.t s24) (.t s26))⟩
    (.one ⟨some s31, none, (.load none (.t s30))⟩
    (.one ⟨some s33, none, (.faddr 1 (.t s9))⟩
    (.one ⟨some s32, none, (.appm 1 1 (.t s29) (.t s31))⟩
    (.one ⟨none, none, (.store 1 (.t s33) (.t s27))⟩
    (.one ⟨some s34, none, (.faddr 3 (.t s9))⟩
    (.one ⟨none, none, (.store 1 (.t s34) (.t s32))⟩
    .done))))))) (.one ⟨some s31, none, (.load none (.t s30))⟩
    (.one ⟨some s27, none, (.appm 1 8 (.t s24) (.t s26))⟩
    (.one ⟨some s33, none, (.faddr 1 (.t s9))⟩
    (.one ⟨some s32, none, (.appm 1 1 (.t s29) (.t s31))⟩
    (.one ⟨none, none, (.store 1 (.t s33) (.t s27))⟩
    (.one ⟨some s34, none, (.faddr 3 (.t s9))⟩
    (.one ⟨none, none, (.store 1 (.t s34) (.t s32))⟩
    .done))))))))) (.one ⟨some s31, none, (.load none (.t s30))⟩
    (.both (.one ⟨some s27, none, (.appm 1 8 (.t s24) (.t s26))⟩
    (.one ⟨some s29, none, (.load none (.t s28))⟩
    (.one ⟨some s33, none, (.faddr 1 (.t s9))⟩
    (.one ⟨some s32, none, (.appm 1 1 (.t s29) (.t s31))⟩
    (.one ⟨none, none, (.store 1 (.t s33) (.t s27))⟩
    (.one ⟨some s34, none, (.faddr 3 (.t s9))⟩
    (.one ⟨none, none, (.store 1 (.t s34) (.t s32))⟩
    .done))))))) (.one ⟨some s29, none, (.load none (.t s28))⟩
    (.one ⟨some s27, none, (.appm 1 8 (.t s24) (.t s26))⟩
    (.one ⟨some s33, none, (.faddr 1 (.t s9))⟩
    (.one ⟨some s32, none, (.appm 1 1 (.t s29) (.t s31))⟩
    (.one ⟨none, none, (.store 1 (.t s33) (.t s27))⟩
    (.one ⟨some s34, none, (.faddr 3 (.t s9))⟩
    (.one ⟨none, none, (.store 1 (.t s34) (.t s32))⟩
    .done))))))))))))))))))
  (.seq (.reg (.one ⟨some s35, none, (.faddr 5 (.t s5))⟩
    (.one ⟨some s36, none, (.load none (.t s35))⟩
    (.one ⟨some s37, none, (.mv (.t s2))⟩
    (.one ⟨some s38, none, (.len false (.t s37))⟩
    (.one ⟨some s39, none, (.bin false .add (.t s36) (.t s38))⟩
    (.one ⟨some s10, none, (.mv (.t s39))⟩
    .done)))))))
  (.seq (.block 0 (.loop (.seq (.seq (.reg (.one ⟨some s40, none, (.faddr 1 (.t s9))⟩
    (.one ⟨some s41, none, (.load none (.t s40))⟩
    (.one ⟨some s42, none, (.len false (.t s41))⟩
    (.one ⟨some s43, none, (.mv (.t s10))⟩
    (.one ⟨some s44, none, (.bin false .lss (.t s42) (.t s43))⟩
    .done))))))
  (.cond (.t s44) .skip (.exit 0)))
  (.block 1 (.reg (.one ⟨some s45, none, (.faddr 1 (.t s9))⟩
    (.one ⟨some s46, none, (.load none (.t s45))⟩
    (.one ⟨some s47, none, (.row 1 [(.c (.v (.int .i64 (-1))))])⟩
    (.one ⟨some s48, none, (.appm 1 8 (.t s46) (.t s47))⟩
    (.one ⟨some s49, none, (.faddr 1 (.t s9))⟩
    (.one ⟨none, none, (.store 1 (.t s49) (.t s48))⟩
    .done)))))))))))
  (.seq (.block 2 (.loop (.seq (.seq (.reg (.one ⟨some s50, none, (.faddr 3 (.t s9))⟩
    (.one ⟨some s51, none, (.load none (.t s50))⟩
    (.one ⟨some s52, none, (.len false (.t s51))⟩
    (.one ⟨some s53, none, (.mv (.t s10))⟩
    (.one ⟨some s54, none, (.bin false .leq (.t s52) (.t s53))⟩
    .done))))))
  (.cond (.t s54) .skip (.exit 2)))
  (.block 3 (.reg (.one ⟨some s55, none, (.faddr 3 (.t s9))⟩
    (.one ⟨some s56, none, (.load none (.t s55))⟩
    (.one ⟨some s57, none, (.row 1 [(.c (.v (.bool false)))])⟩
    (.one ⟨some s58, none, (.appm 1 1 (.t s56) (.t s57))⟩
    (.one ⟨some s59, none, (.faddr 3 (.t s9))⟩
    (.one ⟨none, none, (.store 1 (.t s59) (.t s58))⟩
    .done)))))))))))
  (.seq (.seq (.reg (.one ⟨some s11, none, (.mv (.c (.v (.int .i64 0))))⟩
    .done))
  (.block 4 (.loop (.seq (.seq (.reg (.one ⟨some s60, none, (.mv (.t s11))⟩
    (.one ⟨some s61, none, (.mv (.t s2))⟩
    (.one ⟨some s62, none, (.len false (.t s61))⟩
    (.one ⟨some s63, none, (.bin false .lss (.t s60) (.t s62))⟩
    .done)))))
  (.cond (.t s63) .skip (.exit 4)))
  (.seq (.block 5 (.seq (.reg (.one ⟨some s66, none, (.faddr 1 (.t s9))⟩
    (.one ⟨some s67, none, (.load none (.t s66))⟩
    (.one ⟨some s68, none, (.faddr 5 (.t s5))⟩
    (.one ⟨some s69, none, (.load none (.t s68))⟩
    (.one ⟨some s70, none, (.mv (.t s11))⟩
    (.one ⟨some s71, none, (.bin false .add (.t s69) (.t s70))⟩
    (.one ⟨some s72, none, (.iaddr 1 (.t s67) (.t s71))⟩
    (.one ⟨some s73, none, (.load none (.t s72))⟩
    (.one ⟨some s74, none, (.bin false .lss (.t s73) (.c (.v (.int .i64 0))))⟩
    .done))))))))))
  (.cond (.t s74) (.reg (.one ⟨some s75, none, (.faddr 1 (.t s9))⟩
    (.one ⟨some s76, none, (.load none (.t s75))⟩
    (.one ⟨some s77, none, (.faddr 5 (.t s5))⟩
    (.one ⟨some s78, none, (.load none (.t s77))⟩
    (.one ⟨some s79, none, (.mv (.t s11))⟩
    (.one ⟨some s80, none, (.bin false .add (.t s78) (.t s79))⟩
    (.one ⟨some s81, none, (.mv (.t s2))⟩
    (.one ⟨some s82, none, (.mv (.t s11))⟩
    (.one ⟨some s83, none, (.iaddr 1 (.t s81) (.t s82))⟩
    (.one ⟨some s84, none, (.load none (.t s83))⟩
    (.one ⟨some s85, none, (.conv .i64 (.t s84))⟩
    (.one ⟨some s86, none, (.iaddr 1 (.t s76) (.t s80))⟩
    (.one ⟨none, none, (.store 1 (.t s86) (.t s85))⟩
    .done)))))))))))))) .skip)))
  (.reg (.one ⟨some s64, none, (.mv (.t s11))⟩
    (.one ⟨some s65, none, (.bin false .add (.t s64) (.c (.v (.int .i64 1))))⟩
    (.one ⟨some s11, none, (.mv (.t s65))⟩
    .done)))))))))
  (.seq (.seq (.reg (.one ⟨some s87, none, (.faddr 5 (.t s5))⟩
    (.one ⟨some s88, none, (.load none (.t s87))⟩
    (.one ⟨some s89, none, (.bin false .eql (.t s88) (.c (.v (.int .i64 0))))⟩
    .done))))
  (.cond (.t s89) (.reg (.one ⟨some s90, none, (.faddr 4 (.t s9))⟩
    (.one ⟨some s91, none, (.load none (.t s90))⟩
    (.one ⟨some s92, none, (.mv (.t s91))⟩
    (.one ⟨some s93, some (s92, false), (.faddr 1 (.t s5))⟩
    (.one ⟨some s94, some (s92, false), (.load none (.t s93))⟩
    (.one ⟨some s95, some (s92, false), (.bin false .geq (.t s94) (.c (.v (.int .i64 2))))⟩
    (.one ⟨some s96, none, (.pick (.t s92) (.c (.v (.bool true))) (.t s95))⟩
    (.one ⟨some s97, none, (.faddr 4 (.t s9))⟩
    (.one ⟨none, none, (.store 1 (.t s97) (.t s96))⟩
    .done)))))))))) (.seq (.reg (.one ⟨some s98, none, (.faddr 1 (.t s5))⟩
    (.one ⟨some s99, none, (.load none (.t s98))⟩
    (.one ⟨some s100, none, (.bin false .lss (.t s99) (.c (.v (.int .i64 2))))⟩
    .done))))
  (.cond (.t s100) (.reg (.one ⟨some s101, none, (.faddr 3 (.t s9))⟩
    (.one ⟨some s102, none, (.load none (.t s101))⟩
    (.one ⟨some s103, none, (.faddr 5 (.t s5))⟩
    (.one ⟨some s104, none, (.load none (.t s103))⟩
    (.one ⟨some s105, none, (.iaddr 1 (.t s102) (.t s104))⟩
    (.one ⟨none, none, (.store 1 (.t s105) (.c (.v (.bool true))))⟩
    .done))))))) .skip))))
  (.seq (.reg (.one ⟨some s106, none, (.faddr 5 (.t s5))⟩
    (.one ⟨some s107, none, (.load none (.t s106))⟩
    (.one ⟨some s12, none, (.mv (.t s107))⟩
    .done))))
  (.seq (.seq (.reg (.one ⟨some s13, none, (.mv (.c (.v (.int .i64 0))))⟩
    .done))
  (.block 6 (.loop (.seq (.seq (.reg (.one ⟨some s108, none, (.mv (.t s13))⟩
    (.one ⟨some s109, none, (.bin false .add (.t s108) (.c (.v (.int .i64 1))))⟩
    (.one ⟨some s110, none, (.faddr 6 (.t s5))⟩
    (.one ⟨some s111, none, (.load none (.t s110))⟩
    (.one ⟨some s112, none, (.len false (.t s111))⟩
    (.one ⟨some s113, none, (.bin false .lss (.t s109) (.t s112))⟩
    .done)))))))
  (.cond (.t s113) .skip (.exit 6)))
  (.seq (.block 7 (.seq (.reg (.one ⟨some s116, none, (.mv (.t s12))⟩
    (.one ⟨some s117, none, (.faddr 6 (.t s5))⟩
    (.one ⟨some s118, none, (.load none (.t s117))⟩
    (.one ⟨some s119, none, (.mv (.t s13))⟩
    (.one ⟨some s120, none, (.iaddr 1 (.t s118) (.t s119))⟩
    (.one ⟨some s121, none, (.load none (.t s120))⟩
    (.one ⟨some s122, none, (.len false (.t s121))⟩
    (.one ⟨some s123, none, (.bin false .add (.t s116) (.t s122))⟩
    (.one ⟨some s12, none, (.mv (.t s123))⟩
    .done))))))))))
  (.reg (.one ⟨some s124, none, (.faddr 3 (.t s9))⟩
    (.one ⟨some s125, none, (.load none (.t s124))⟩
    (.one ⟨some s126, none, (.mv (.t s12))⟩
    (.one ⟨some s127, none, (.iaddr 1 (.t s125) (.t s126))⟩
    (.one ⟨none, none, (.store 1 (.t s127) (.c (.v (.bool true))))⟩
    .done))))))))
  (.reg (.one ⟨some s114, none, (.mv (.t s13))⟩
    (.one ⟨some s115, none, (.bin false .add (.t s114) (.c (.v (.int .i64 1))))⟩
    (.one ⟨some s13, none, (.mv (.t s115))⟩
    .done)))))))))
  (.seq (.seq (.reg (.one ⟨some s128, none, (.mv (.t s3))⟩
    .done))
  (.cond (.t s128) (.seq (.reg (.one ⟨some s129, none, (.mv (.t s10))⟩
    (.one ⟨some s130, none, (.faddr 2 (.t s9))⟩
    (.one ⟨none, none, (.store 1 (.t s130) (.t s129))⟩
    .done))))
  (.reg (.one ⟨some s131, none, (.faddr 5 (.t s9))⟩
    (.one ⟨some s132, none, (.load none (.t s131))⟩
    (.one ⟨some s133, none, (.mv (.t s132))⟩
    (.one ⟨some s134, some (s133, false), (.faddr 1 (.t s5))⟩
    (.one ⟨some s135, some (s133, false), (.load none (.t s134))⟩
    (.one ⟨some s136, some (s133, false), (.bin false .rem (.t s135) (.c (.v (.int .i64 2))))⟩
    (.one ⟨some s137, some (s133, false), (.bin false .eql (.t s136) (.c (.v (.int .i64 1))))⟩
    (.one ⟨some s138, none, (.pick (.t s133) (.c (.v (.bool true))) (.t s137))⟩
    (.one ⟨some s139, none, (.faddr 5 (.t s9))⟩
    (.one ⟨none, none, (.store 1 (.t s139) (.t s138))⟩
    .done)))))))))))) (.seq (.reg (.one ⟨some s140, none, (.faddr 1 (.t s5))⟩
    (.one ⟨some s141, none, (.load none (.t s140))⟩
    (.one ⟨some s142, none, (.bin false .rem (.t s141) (.c (.v (.int .i64 2))))⟩
    (.one ⟨some s143, none, (.bin false .eql (.t s142) (.c (.v (.int .i64 0))))⟩
    .done)))))
  (.cond (.t s143) (.reg (.one ⟨some s144, none, (.faddr 3 (.t s9))⟩
    (.one ⟨some s145, none, (.load none (.t s144))⟩
    (.one ⟨some s146, none, (.mv (.t s10))⟩
    (.one ⟨some s147, none, (.iaddr 1 (.t s145) (.t s146))⟩
    (.one ⟨none, none, (.store 1 (.t s147) (.c (.v (.bool true))))⟩
    .done)))))) .skip))))
  (.seq (.reg (.one ⟨some s148, none, (.load (some 6) (.t s9))⟩
    (.one ⟨none, none, (.store 6 (.t s8) (.t s148))⟩
    .done)))
  .ret))))))))))))⟩
theorem ok57m : compF Tryz.prog c57m Tryz.f57 = some ir57m := by kernel_rfl
theorem km_bowlineref24_with {args : List AVal} {σ : AHeap} {Q : AVal → AHeap → Prop} (hl : Nat.ble args.length 149 = true) (h : argsK (Env.full 9) 0 args fun env => evC Tryz.prog c57m ir57m.body env σ (retQ ir57m Q)) : ACalls Tryz.prog 57 args σ Q :=
  acalls_of Tryz.func57 ok57m rfl (Nat.le_of_ble_eq_true hl) h
/- bowlineref24.Whole -/
def c69 : Cfg := ⟨qs, [], 15, [], ps⟩
def ir69 : IFun := ⟨1, [.tmp s2],
  (.seq (.reg (.one ⟨some s1, none, (.box 6 (.t s0))⟩
    (.one ⟨some s2, none, (.mv (.c (.v (.bool false))))⟩
    .done)))
  (.seq (.seq (.reg (.one ⟨some s3, none, (.faddr 2 (.t s1))⟩
    (.one ⟨some s4, none, (.load none (.t s3))⟩
    (.one ⟨some s5, none, (.bin false .lss (.t s4) (.c (.v (.int .i64 0))))⟩
    .done))))
  (.cond (.t s5) (.seq (.reg (.one ⟨some s2, none, (.mv (.c (.v (.bool false))))⟩
    .done))
  .ret) .skip))
  (.seq (.reg (.one ⟨some s6, none, (.load (some 6) (.t s1))⟩
    (.one ⟨some s8, none, (.faddr 2 (.t s1))⟩
    (.one ⟨some s9, none, (.load none (.t s8))⟩
    (.one ⟨some s10, none, (.build [(.v (.int .i64 0)), (.v (.int .i64 0))] [(0, 1, (.c (.v (.int .i64 0)))), (1, 1, (.t s9))])⟩
    (.one ⟨some s12, none, (.faddr 2 (.t s1))⟩
    (.one ⟨some s13, none, (.load none (.t s12))⟩
    (.one ⟨some s7, none, (.callq 55 [(.t s6)])⟩
    (.one ⟨some s11, none, (.callq 56 [(.t s7), (.t s10)])⟩
    (.one ⟨some s14, none, (.bin false .eql (.t s11) (.t s13))⟩
    (.one ⟨some s2, none, (.mv (.t s14))⟩
    .done)))))))))))
  .ret)))⟩
theorem ok69 : compF Tryz.prog c69 Tryz.f69 = some ir69 := by kernel_rfl
theorem k_bowlineref24_Whole {args : List AVal} {σ : AHeap} {Q : AVal → AHeap → Prop} (hl : Nat.ble args.length 15 = true) (h : argsK (Env.full 9) 0 args fun env => evC Tryz.prog c69 ir69.body env σ (retQ ir69 Q)) : ACalls Tryz.prog 69 args σ Q :=
  acalls_of Tryz.func69 ok69 rfl (Nat.le_of_ble_eq_true hl) h
/- bowlineref24.Buffer).Drop -/
def c70 : Cfg := ⟨qs, [], 32, [], ps⟩
def ir70 : IFun := ⟨2, [.tmp s4],
  (.seq (.reg (.one ⟨some s4, none, (.mv (.c (.v (.int .i64 0))))⟩
    .done))
  (.seq (.reg (.one ⟨some s7, none, (.mv (.t s0))⟩
    (.one ⟨some s8, none, (.mv (.t s1))⟩
    (.one ⟨some s9, none, (.callq 53 [(.t s7), (.t s8)])⟩
    (.one ⟨some s5, none, (.mv (.t s9))⟩
    .done)))))
  (.seq (.seq (.reg (.one ⟨some s10, none, (.mv (.t s5))⟩
    (.one ⟨some s11, none, (.bin false .lss (.t s10) (.c (.v (.int .i64 0))))⟩
    .done)))
  (.cond (.t s11) (.seq (.reg (.one ⟨some s4, none, (.mv (.c (.v (.int .i64 4))))⟩
    .done))
  .ret) .skip))
  (.seq (.reg (.one ⟨some s6, none, (.mv (.c (.slice 6 [] .full)))⟩
    .done))
  (.seq (.reg (.one ⟨some s12, none, (.mv (.t s6))⟩
    (.one ⟨some s13, none, (.mv (.t s0))⟩
    (.one ⟨some s14, none, (.nilchk (.t s13))⟩
    (.one ⟨some s15, none, (.faddr 0 (.t s14))⟩
    (.one ⟨some s16, none, (.load none (.t s15))⟩
    (.one ⟨some s17, none, (.mv (.t s5))⟩
    (.one ⟨some s18, none, (.cut 6 (.t s16) none (some (.t s17)) none)⟩
    (.one ⟨some s19, none, (.app 6 72 (.t s12) (.t s18))⟩
    (.one ⟨some s6, none, (.mv (.t s19))⟩
    .done))))))))))
  (.seq (.reg (.one ⟨some s20, none, (.mv (.t s0))⟩
    (.one ⟨some s21, none, (.mv (.t s6))⟩
    (.one ⟨some s22, none, (.mv (.t s0))⟩
    (.one ⟨some s23, none, (.nilchk (.t s22))⟩
    (.one ⟨some s24, none, (.faddr 0 (.t s23))⟩
    (.one ⟨some s25, none, (.load none (.t s24))⟩
    (.one ⟨some s26, none, (.mv (.t s5))⟩
    (.one ⟨some s27, none, (.bin false .add (.t s26) (.c (.v (.int .i64 1))))⟩
    (.one ⟨some s28, none, (.cut 6 (.t s25) (some (.t s27)) none none)⟩
    (.one ⟨some s29, none, (.app 6 72 (.t s21) (.t s28))⟩
    (.one ⟨some s30, none, (.nilchk (.t s20))⟩
    (.one ⟨some s31, none, (.faddr 0 (.t s30))⟩
    (.one ⟨none, none, (.store 1 (.t s31) (.t s29))⟩
    .done))))))))))))))
  (.seq (.reg (.one ⟨some s4, none, (.mv (.c (.v (.int .i64 0))))⟩
    .done))
  .ret)))))))⟩
theorem ok70 : compF Tryz.prog c70 Tryz.f70 = some ir70 := by kernel_rfl
theorem k_bowlineref24_Buffer_Drop {args : List AVal} {σ : AHeap} {Q : AVal → AHeap → Prop} (hl : Nat.ble args.length 32 = true) (h : argsK (Env.full 9) 0 args fun env => evC Tryz.prog c70 ir70.body env σ (retQ ir70 Q)) : ACalls Tryz.prog 70 args σ Q :=
  acalls_of Tryz.func70 ok70 rfl (Nat.le_of_ble_eq_true hl) h
end Go.Proofs.YtgbpjbpdpgbngaaGreat
/-
  The bodies of one package, compiled to the framework's language (printed by a program of this session).
-/
namespace Go.Proofs.YtgbpjbpdpgbngaaGreat
open Go Go.Am
/- bowlinelaw10.As -/
def c19 : Cfg := ⟨qs, [], 18, [], ps⟩
def ir19 : IFun := ⟨1, [.cell s2 (some 7)],
  (.seq (.reg (.one ⟨some s1, none, (.box 7 (.t s0))⟩
    (.one ⟨some s2, none, (.new [(.v (.bool false)), (.v (.int .i64 0)), (.v (.int .i64 0)), (.v (.bool false)), (.v (.bool false)), (.v (.int .i64 0)), (.slice 1 [] .full)])⟩
    .done)))
  (.seq (.reg (.one ⟨some s3, none, (.faddr 0 (.t s1))⟩
    (.one ⟨some s4, none, (.load none (.t s3))⟩
    (.one ⟨some s5, none, (.faddr 1 (.t s1))⟩
    (.one ⟨some s6, none, (.load none (.t s5))⟩
    (.one ⟨some s7, none, (.faddr 2 (.t s1))⟩
    (.one ⟨some s8, none, (.load none (.t s7))⟩
    (.one ⟨some s9, none, (.faddr 3 (.t s1))⟩
    (.one ⟨some s10, none, (.load none (.t s9))⟩
    (.one ⟨some s11, none, (.faddr 4 (.t s1))⟩
    (.one ⟨some s12, none, (.load none (.t s11))⟩
    (.one ⟨some s13, none, (.faddr 5 (.t s1))⟩
    (.one ⟨some s14, none, (.load none (.t s13))⟩
    (.one ⟨some s15, none, (.faddr 6 (.t s1))⟩
    (.one ⟨some s16, none, (.load none (.t s15))⟩
    (.one ⟨some s17, none, (.build [(.v (.bool false)), (.v (.int .i64 0)), (.v (.int .i64 0)), (.v (.bool false)), (.v (.bool false)), (.v (.int .i64 0)), (.slice 1 [] .full)] [(0, 1, (.t s4)), (1, 1, (.t s6)), (2, 1, (.t s8)), (3, 1, (.t s10)), (4, 1, (.t s12)), (5, 1, (.t s14)), (6, 1, (.t s16))])⟩
    (.one ⟨none, none, (.store 7 (.t s2) (.t s17))⟩
    .done)))))))))))))))))
  .ret))⟩
theorem ok19 : compF Tryz.prog c19 Tryz.f19 = some ir19 := by kernel_rfl
theorem k_bowlinelaw10_As {args : List AVal} {σ : AHeap} {Q : AVal → AHeap → Prop} (hl : Nat.ble args.length 18 = true) (h : argsK (Env.full 9) 0 args fun env => evC Tryz.prog c19 ir19.body env σ (retQ ir19 Q)) : ACalls Tryz.prog 19 args σ Q :=
  acalls_of Tryz.func19 ok19 rfl (Nat.le_of_ble_eq_true hl) h
end Go.Proofs.YtgbpjbpdpgbngaaGreat
/-
  The bodies of one package, compiled to the framework's language (printed by a program of this session).
-/
namespace Go.Proofs.YtgbpjbpdpgbngaaGreat
open Go Go.Am
/- status.Size -/
def c31 : Cfg := ⟨qs, [], 38, [], ps⟩
def ir31 : IFun := ⟨2, [.tmp s4],
  (.seq (.reg (.one ⟨some s2, none, (.box 2 (.t s0))⟩
    (.one ⟨some s4, none, (.mv (.c (.v (.int .i64 0))))⟩
    .done)))
  (.seq (.seq (.reg (.one ⟨some s8, none, (.load (some 2) (.t s2))⟩
    (.one ⟨some s9, none, (.mv (.t s1))⟩
    (.one ⟨some s10, none, (.callq 73 [(.t s8), (.t s9)])⟩
    (.one ⟨some s11, none, (.not (.t s10))⟩
    .done)))))
  (.cond (.t s11) (.seq (.reg (.one ⟨some s4, none, (.mv (.c (.v (.int .i64 0))))⟩
    .done))
  .ret) .skip))
  (.seq (.reg (.one ⟨some s12, none, (.mv (.t s1))⟩
    (.one ⟨some s13, none, (.bin false .add (.c (.v (.int .i64 4))) (.t s12))⟩
    (.one ⟨some s14, none, (.bin false .add (.t s13) (.c (.v (.int .i64 1))))⟩
    (.one ⟨some s5, none, (.mv (.t s14))⟩
    .done)))))
  (.seq (.seq (.reg (.one ⟨some s15, none, (.faddr 1 (.t s2))⟩
    (.one ⟨some s16, none, (.load none (.t s15))⟩
    (.one ⟨some s17, none, (.len false (.t s16))⟩
    (.one ⟨some s18, none, (.mv (.c (.v (.int .i64 0))))⟩
    .done)))))
  (.block 0 (.loop (.seq (.reg (.one ⟨some s19, none, (.bin false .lss (.t s18) (.t s17))⟩
    .done))
  (.seq (.cond (.t s19) .skip (.exit 0))
  (.seq (.block 1 (.seq (.reg (.one ⟨some s20, none, (.iaddr 4 (.t s16) (.t s18))⟩
    (.one ⟨some s21, none, (.load (some 4) (.t s20))⟩
    (.one ⟨some s7, none, (.new [(.v (.int .i64 0)), (.v (.bool false)), (.v (.int .i64 0)), (.v (.int .i64 0))])⟩
    (.one ⟨none, none, (.store 4 (.t s7) (.t s21))⟩
    .done)))))
  (.seq (.reg (.one ⟨some s22, none, (.mv (.t s5))⟩
    (.one ⟨some s23, none, (.mv (.t s1))⟩
    (.one ⟨some s24, none, (.bin false .add (.t s23) (.c (.v (.int .i64 2))))⟩
    (.one ⟨some s25, none, (.bin false .add (.t s22) (.t s24))⟩
    (.one ⟨some s5, none, (.mv (.t s25))⟩
    .done))))))
  (.seq (.reg (.one ⟨some s26, none, (.faddr 1 (.t s7))⟩
    (.one ⟨some s27, none, (.load none (.t s26))⟩
    .done)))
  (.cond (.t s27) (.reg (.one ⟨some s28, none, (.mv (.t s5))⟩
    (.one ⟨some s29, none, (.mv (.t s1))⟩
    (.one ⟨some s30, none, (.callq 74 [(.t s29)])⟩
    (.one ⟨some s31, none, (.bin false .mul (.c (.v (.int .i64 2))) (.t s30))⟩
    (.one ⟨some s32, none, (.bin false .add (.t s28) (.t s31))⟩
    (.one ⟨some s5, none, (.mv (.t s32))⟩
    .done))))))) .skip)))))
  (.reg (.one ⟨some s33, none, (.bin false .add (.t s18) (.c (.v (.int .i64 1))))⟩
    (.one ⟨some s18, none, (.mv (.t s33))⟩
    .done)))))))))
  (.seq (.reg (.one ⟨some s34, none, (.mv (.t s5))⟩
    (.one ⟨some s35, none, (.bin false .add (.t s34) (.c (.v (.int .i64 8))))⟩
    (.one ⟨some s36, none, (.bin false .sub (.t s35) (.c (.v (.int .i64 1))))⟩
    (.one ⟨some s37, none, (.bin false .quo (.t s36) (.c (.v (.int .i64 8))))⟩
    (.one ⟨some s4, none, (.mv (.t s37))⟩
    .done))))))
  .ret)))))⟩
theorem ok31 : compF Tryz.prog c31 Tryz.f31 = some ir31 := by kernel_rfl
theorem k_status_Size {args : List AVal} {σ : AHeap} {Q : AVal → AHeap → Prop} (hl : Nat.ble args.length 38 = true) (h : argsK (Env.full 9) 0 args fun env => evC Tryz.prog c31 ir31.body env σ (retQ ir31 Q)) : ACalls Tryz.prog 31 args σ Q :=
  acalls_of Tryz.func31 ok31 rfl (Nat.le_of_ble_eq_true hl) h
/- status.Right -/
def c73 : Cfg := ⟨qs, [], 29, [], ps⟩
def ir73 : IFun := ⟨2, [.tmp s4],
  (.seq (.reg (.one ⟨some s2, none, (.box 2 (.t s0))⟩
    (.one ⟨some s3, none, (.box 1 (.t s1))⟩
    (.one ⟨some s4, none, (.mv (.c (.v (.bool false))))⟩
    .done))))
  (.seq (.reg (.one ⟨some s6, none, (.load none (.t s3))⟩
    (.one ⟨some s7, none, (.build [(.v (.int .i64 0))] [(0, 1, (.t s6))])⟩
    (.one ⟨some s5, none, (.new [(.v (.int .i64 0))])⟩
    (.one ⟨none, none, (.store 1 (.t s5) (.t s7))⟩
    .done)))))
  (.seq (.reg (.one ⟨some s8, none, (.load none (.t s3))⟩
    (.one ⟨some s9, none, (.callq 92 [(.t s8)])⟩
    (.one ⟨some s10, none, (.mv (.t s9))⟩
    (.one ⟨some s11, some (s10, true), (.load (some 1) (.t s5))⟩
    (.one ⟨some s12, some (s10, true), (.faddr 0 (.t s2))⟩
    (.one ⟨some s13, some (s10, true), (.load none (.t s12))⟩
    (.one ⟨some s14, some (s10, true), (.callq 93 [(.t s11), (.t s13)])⟩
    (.one ⟨some s15, none, (.pick (.t s10) (.t s14) (.c (.v (.bool false))))⟩
    (.one ⟨some s16, none, (.mv (.t s15))⟩
    (.one ⟨some s17, some (s16, true), (.faddr 1 (.t s2))⟩
    (.one ⟨some s18, some (s16, true), (.load none (.t s17))⟩
    (.one ⟨some s19, some (s16, true), (.len false (.t s18))⟩
    (.one ⟨some s20, some (s16, true), (.bin false .leq (.t s19) (.c (.v (.int .i64 32))))⟩
    (.one ⟨some s21, none, (.pick (.t s16) (.t s20) (.c (.v (.bool false))))⟩
    (.one ⟨some s22, none, (.mv (.t s21))⟩
    (.one ⟨some s23, some (s22, true), (.faddr 1 (.t s2))⟩
    (.one ⟨some s24, some (s22, true), (.load none (.t s23))⟩
    (.one ⟨some s25, some (s22, true), (.fn 95 [] [(.t s3)])⟩
    (.one ⟨some s26, some (s22, true), (.callq 94 [(.t s24), (.t s25)])⟩
    (.one ⟨some s27, some (s22, true), (.not (.t s26))⟩
    (.one ⟨some s28, none, (.pick (.t s22) (.t s27) (.c (.v (.bool false))))⟩
    (.one ⟨some s4, none, (.mv (.t s28))⟩
    .done)))))))))))))))))))))))
  .ret)))⟩
theorem ok73 : compF Tryz.prog c73 Tryz.f73 = some ir73 := by kernel_rfl
theorem k_status_Right {args : List AVal} {σ : AHeap} {Q : AVal → AHeap → Prop} (hl : Nat.ble args.length 29 = true) (h : argsK (Env.full 9) 0 args fun env => evC Tryz.prog c73 ir73.body env σ (retQ ir73 Q)) : ACalls Tryz.prog 73 args σ Q :=
  acalls_of Tryz.func73 ok73 rfl (Nat.le_of_ble_eq_true hl) h
/- status.offsetWidth -/
def c74 : Cfg := ⟨qs, [], 5, [], ps⟩
def ir74 : IFun := ⟨1, [.tmp s2],
  (.seq (.reg (.one ⟨some s2, none, (.mv (.c (.v (.int .i64 0))))⟩
    .done))
  (.seq (.seq (.reg (.one ⟨some s3, none, (.mv (.t s0))⟩
    (.one ⟨some s4, none, (.bin false .eql (.t s3) (.c (.v (.int .i64 10))))⟩
    .done)))
  (.cond (.t s4) (.seq (.reg (.one ⟨some s2, none, (.mv (.c (.v (.int .i64 15))))⟩
    .done))
  .ret) .skip))
  (.seq (.reg (.one ⟨some s2, none, (.mv (.c (.v (.int .i64 16))))⟩
    .done))
  .ret)))⟩
theorem ok74 : compF Tryz.prog c74 Tryz.f74 = some ir74 := by kernel_rfl
theorem k_status_offsetWidth {args : List AVal} {σ : AHeap} {Q : AVal → AHeap → Prop} (hl : Nat.ble args.length 5 = true) (h : argsK (Env.full 9) 0 args fun env => evC Tryz.prog c74 ir74.body env σ (retQ ir74 Q)) : ACalls Tryz.prog 74 args σ Q :=
  acalls_of Tryz.func74 ok74 rfl (Nat.le_of_ble_eq_true hl) h
/- status.isWidth -/
def c92 : Cfg := ⟨qs, [], 9, [], ps⟩
def ir92 : IFun := ⟨1, [.tmp s2],
  (.seq (.reg (.one ⟨some s2, none, (.mv (.c (.v (.bool false))))⟩
    .done))
  (.seq (.reg (.one ⟨some s3, none, (.mv (.t s0))⟩
    (.one ⟨some s4, none, (.bin false .eql (.t s3) (.c (.v (.int .i64 10))))⟩
    (.one ⟨some s5, none, (.mv (.t s4))⟩
    (.one ⟨some s6, some (s5, false), (.mv (.t s0))⟩
    (.one ⟨some s7, some (s5, false), (.bin false .eql (.t s6) (.c (.v (.int .i64 16))))⟩
    (.one ⟨some s8, none, (.pick (.t s5) (.c (.v (.bool true))) (.t s7))⟩
    (.one ⟨some s2, none, (.mv (.t s8))⟩
    .done))))))))
  .ret))⟩
theorem ok92 : compF Tryz.prog c92 Tryz.f92 = some ir92 := by kernel_rfl
theorem k_status_isWidth {args : List AVal} {σ : AHeap} {Q : AVal → AHeap → Prop} (hl : Nat.ble args.length 9 = true) (h : argsK (Env.full 9) 0 args fun env => evC Tryz.prog c92 ir92.body env σ (retQ ir92 Q)) : ACalls Tryz.prog 92 args σ Q :=
  acalls_of Tryz.func92 ok92 rfl (Nat.le_of_ble_eq_true hl) h
/- status.Miss] -/
def c94 : Cfg := ⟨qs, [], 9, [], ps⟩
def ir94 : IFun := ⟨2, [.tmp s4],
  (.seq (.reg (.one ⟨some s4, none, (.mv (.c (.v (.bool false))))⟩
    .done))
  (.seq (.reg (.one ⟨some s5, none, (.mv (.t s0))⟩
    (.one ⟨some s6, none, (.mv (.t s1))⟩
    (.one ⟨some s7, none, (.callq 110 [(.t s5), (.t s6)])⟩
    (.one ⟨some s8, none, (.bin false .geq (.t s7) (.c (.v (.int .i64 0))))⟩
    (.one ⟨some s4, none, (.mv (.t s8))⟩
    .done))))))
  .ret))⟩
theorem ok94 : compF Tryz.prog c94 Tryz.f94 = some ir94 := by kernel_rfl
theorem k_slices_ContainsFunc_status_Miss {args : List AVal} {σ : AHeap} {Q : AVal → AHeap → Prop} (hl : Nat.ble args.length 9 = true) (h : argsK (Env.full 9) 0 args fun env => evC Tryz.prog c94 ir94.body env σ (retQ ir94 Q)) : ACalls Tryz.prog 94 args σ Q :=
  acalls_of Tryz.func94 ok94 rfl (Nat.le_of_ble_eq_true hl) h
/- status.Right$1 -/
def c95 : Cfg := ⟨qs, [], 8, [], ps⟩
def ir95 : IFun := ⟨2, [.tmp s3],
  (.seq (.reg (.one ⟨some s2, none, (.box 4 (.t s0))⟩
    (.one ⟨some s3, none, (.mv (.c (.v (.bool false))))⟩
    .done)))
  (.seq (.reg (.one ⟨some s4, none, (.load (some 4) (.t s2))⟩
    (.one ⟨some s5, none, (.load none (.t s1))⟩
    (.one ⟨some s6, none, (.callq 96 [(.t s4), (.t s5)])⟩
    (.one ⟨some s7, none, (.not (.t s6))⟩
    (.one ⟨some s3, none, (.mv (.t s7))⟩
    .done))))))
  .ret))⟩
theorem ok95 : compF Tryz.prog c95 Tryz.f95 = some ir95 := by kernel_rfl
theorem k_status_Right_1 {args : List AVal} {σ : AHeap} {Q : AVal → AHeap → Prop} (hl : Nat.ble args.length 8 = true) (h : argsK (Env.full 9) 0 args fun env => evC Tryz.prog c95 ir95.body env σ (retQ ir95 Q)) : ACalls Tryz.prog 95 args σ Q :=
  acalls_of Tryz.func95 ok95 rfl (Nat.le_of_ble_eq_true hl) h
/- status.isMiss -/
def c96 : Cfg := ⟨qs, [], 57, [], ps⟩
def ir96 : IFun := ⟨2, [.tmp s4],
  (.seq (.reg (.one ⟨some s2, none, (.box 4 (.t s0))⟩
    (.one ⟨some s4, none, (.mv (.c (.v (.bool false))))⟩
    .done)))
  (.seq (.reg (.one ⟨some s7, none, (.mv (.t s1))⟩
    (.one ⟨some s8, none, (.build [(.v (.int .i64 0))] [(0, 1, (.t s7))])⟩
    (.one ⟨some s5, none, (.new [(.v (.int .i64 0))])⟩
    (.one ⟨none, none, (.store 1 (.t s5) (.t s8))⟩
    .done)))))
  (.seq (.reg (.one ⟨some s9, none, (.mv (.t s1))⟩
    (.one ⟨some s10, none, (.callq 74 [(.t s9)])⟩
    (.one ⟨some s11, none, (.bin false .shl (.c (.v (.int .i64 1))) (.t s10))⟩
    (.one ⟨some s12, none, (.bin false .sub (.t s11) (.c (.v (.int .i64 1))))⟩
    (.one ⟨some s6, none, (.mv (.t s12))⟩
    .done))))))
  (.seq (.block 0 (.seq (.reg (.one ⟨some s14, none, (.load (some 1) (.t s5))⟩
    (.one ⟨some s15, none, (.faddr 0 (.t s2))⟩
    (.one ⟨some s16, none, (.load none (.t s15))⟩
    (.one ⟨some s17, none, (.callq 93 [(.t s14), (.t s16)])⟩
    (.one ⟨some s18, none, (.not (.t s17))⟩
    (.one ⟨some s19, none, (.mv (.t s18))⟩
    (.one ⟨some s20, some (s19, false), (.faddr 2 (.t s2))⟩
    (.one ⟨some s21, some (s19, false), (.load none (.t s20))⟩
    (.one ⟨some s22, some (s19, false), (.bin false .lss (.t s21) (.c (.v (.int .i64 0))))⟩
    (.one ⟨some s23, none, (.pick (.t s19) (.c (.v (.bool true))) (.t s22))⟩
    (.one ⟨some s24, none, (.mv (.t s23))⟩
    (.one ⟨some s25, some (s24, false), (.faddr 3 (.t s2))⟩
    (.one ⟨some s26, some (s24, false), (.load none (.t s25))⟩
    (.one ⟨some s27, some (s24, false), (.bin false .lss (.t s26) (.c (.v (.int .i64 0))))⟩
    (.one ⟨some s28, none, (.pick (.t s24) (.c (.v (.bool true))) (.t s27))⟩
    (.one ⟨some s29, none, (.mv (.t s28))⟩
    (.one ⟨some s30, some (s29, false), (.faddr 3 (.t s2))⟩
    (.one ⟨some s31, some (s29, false), (.load none (.t s30))⟩
    (.one ⟨some s32, some (s29, false), (.mv (.t s6))⟩
    (.one ⟨some s33, some (s29, false), (.bin false .gtr (.t s31) (.t s32))⟩
    (.one ⟨some s34, none, (.pick (.t s29) (.c (.v (.bool true))) (.t s33))⟩
    (.one ⟨some s13, none, (.mv (.t s34))⟩
    .done)))))))))))))))))))))))
  (.cond (.t s13) (.seq (.reg (.one ⟨some s4, none, (.mv (.c (.v (.bool false))))⟩
    .done))
  .ret) (.seq (.reg (.one ⟨some s36, none, (.faddr 1 (.t s2))⟩
    (.one ⟨some s37, none, (.load none (.t s36))⟩
    (.one ⟨some s38, none, (.not (.t s37))⟩
    (.one ⟨some s35, none, (.mv (.t s38))⟩
    .done)))))
  (.cond (.t s35) (.seq (.reg (.one ⟨some s39, none, (.load (some 4) (.t s2))⟩
    (.one ⟨some s40, none, (.faddr 0 (.t s2))⟩
    (.one ⟨some s41, none, (.load none (.t s40))⟩
    (.one ⟨some s42, none, (.build [(.v (.int .i64 0)), (.v (.bool false)), (.v (.int .i64 0)), (.v (.int .i64 0))] [(0, 1, (.t s41))])⟩
    (.one ⟨some s43, none, (.eqAgg false [false, true, false, false] (.t s39) (.t s42))⟩
    (.one ⟨some s4, none, (.mv (.t s43))⟩
    .done)))))))
  .ret) (.seq (.reg (.one ⟨some s45, none, (.faddr 3 (.t s2))⟩
    (.one ⟨some s46, none, (.load none (.t s45))⟩
    (.one ⟨some s47, none, (.bin false .eql (.t s46) (.c (.v (.int .i64 0))))⟩
    (.one ⟨some s44, none, (.mv (.t s47))⟩
    .done)))))
  (.cond (.t s44) (.seq (.reg (.one ⟨some s48, none, (.faddr 2 (.t s2))⟩
    (.one ⟨some s49, none, (.load none (.t s48))⟩
    (.one ⟨some s50, none, (.mv (.t s6))⟩
    (.one ⟨some s51, none, (.bin false .leq (.t s49) (.t s50))⟩
    (.one ⟨some s4, none, (.mv (.t s51))⟩
    .done))))))
  .ret) .skip)))))))
  (.seq (.reg (.one ⟨some s52, none, (.faddr 2 (.t s2))⟩
    (.one ⟨some s53, none, (.load none (.t s52))⟩
    (.one ⟨some s54, none, (.faddr 3 (.t s2))⟩
    (.one ⟨some s55, none, (.load none (.t s54))⟩
    (.one ⟨some s56, none, (.bin false .lss (.t s53) (.t s55))⟩
    (.one ⟨some s4, none, (.mv (.t s56))⟩
    .done)))))))
  .ret)))))⟩
theorem ok96 : compF Tryz.prog c96 Tryz.f96 = some ir96 := by kernel_rfl
theorem k_status_isMiss {args : List AVal} {σ : AHeap} {Q : AVal → AHeap → Prop} (hl : Nat.ble args.length 57 = true) (h : argsK (Env.full 9) 0 args fun env => evC Tryz.prog c96 ir96.body env σ (retQ ir96 Q)) : ACalls Tryz.prog 96 args σ Q :=
  acalls_of Tryz.func96 ok96 rfl (Nat.le_of_ble_eq_true hl) h
/- status.Miss] -/
def c110 : Cfg := ⟨qs, [], 19, [], ps⟩
def ir110 : IFun := ⟨2, [.tmp s4],
  (.seq (.reg (.one ⟨some s4, none, (.mv (.c (.v (.int .i64 0))))⟩
    .done))
  (.seq (.seq (.reg (.one ⟨some s6, none, (.mv (.t s0))⟩
    (.one ⟨some s7, none, (.len false (.t s6))⟩
    (.one ⟨some s8, none, (.mv (.c (.v (.int .i64 0))))⟩
    .done))))
  (.block 0 (.loop (.seq (.reg (.one ⟨some s9, none, (.bin false .lss (.t s8) (.t s7))⟩
    .done))
  (.seq (.cond (.t s9) .skip (.exit 0))
  (.seq (.block 1 (.seq (.reg (.one ⟨some s10, none, (.mv (.t s8))⟩
    (.one ⟨some s5, none, (.mv (.t s10))⟩
    .done)))
  (.seq (.reg (.one ⟨some s11, none, (.mv (.t s1))⟩
    (.one ⟨some s12, none, (.mv (.t s0))⟩
    (.one ⟨some s13, none, (.mv (.t s5))⟩
    (.one ⟨some s14, none, (.iaddr 4 (.t s12) (.t s13))⟩
    (.one ⟨some s15, none, (.load (some 4) (.t s14))⟩
    (.one ⟨some s16, none, (.callv (.t s11) [(.t s15)])⟩
    .done)))))))
  (.cond (.t s16) (.seq (.reg (.one ⟨some s17, none, (.mv (.t s5))⟩
    (.one ⟨some s4, none, (.mv (.t s17))⟩
    .done)))
  .ret) .skip))))
  (.reg (.one ⟨some s18, none, (.bin false .add (.t s8) (.c (.v (.int .i64 1))))⟩
    (.one ⟨some s8, none, (.mv (.t s18))⟩
    .done)))))))))
  (.seq (.reg (.one ⟨some s4, none, (.mv (.c (.v (.int .i64 (-1)))))⟩
    .done))
  .ret)))⟩
theorem ok110 : compF Tryz.prog c110 Tryz.f110 = some ir110 := by kernel_rfl
theorem k_slices_IndexFunc_status_Miss {args : List AVal} {σ : AHeap} {Q : AVal → AHeap → Prop} (hl : Nat.ble args.length 19 = true) (h : argsK (Env.full 9) 0 args fun env => evC Tryz.prog c110 ir110.body env σ (retQ ir110 Q)) : ACalls Tryz.prog 110 args σ Q :=
  acalls_of Tryz.func110 ok110 rfl (Nat.le_of_ble_eq_true hl) h
end Go.Proofs.YtgbpjbpdpgbngaaGreat
/-
  The bodies of one package, compiled to the framework's language (printed by a program of this session).
-/
namespace Go.Proofs.YtgbpjbpdpgbngaaGreat
open Go Go.Am
/- amstat.Make -/
def c6 : Cfg := ⟨qs, [], 88, [], ps⟩
def ir6 : IFun := ⟨4, [.cell s8 (some 2), .tmp s9],
  (.seq (.reg (.one ⟨some s8, none, (.new [(.v (.int .i64 0)), (.slice 4 [] .full)])⟩
    (.one ⟨some s9, none, (.mv (.c (.v (.int .i64 0))))⟩
    .done)))
  (.scope (.seq (.block 0 (.seq (.reg (.one ⟨some s18, none, (.mv (.t s0))⟩
    (.one ⟨some s19, none, (.mv (.t s1))⟩
    (.one ⟨some s20, none, (.callq 29 [(.t s18), (.t s19)])⟩
    (.one ⟨some s21, none, (.not (.t s20))⟩
    (.one ⟨some s17, none, (.mv (.t s21))⟩
    .done))))))
  (.cond (.t s17) (.seq (.reg (.one ⟨some s22, none, (.build [(.v (.int .i64 0)), (.slice 4 [] .full)] [])⟩
    (.one ⟨none, none, (.store 2 (.t s8) (.t s22))⟩
    (.one ⟨some s9, none, (.mv (.c (.v (.int .i64 6))))⟩
    .done))))
  .ret) (.seq (.reg (.one ⟨some s24, none, (.mv (.t s3))⟩
    (.one ⟨some s25, none, (.bin false .neq (.t s24) (.c (.v (.int .i64 10))))⟩
    (.one ⟨some s26, none, (.mv (.t s25))⟩
    (.one ⟨some s27, some (s26, true), (.mv (.t s3))⟩
    (.one ⟨some s28, some (s26, true), (.bin false .neq (.t s27) (.c (.v (.int .i64 16))))⟩
    (.one ⟨some s29, none, (.pick (.t s26) (.t s28) (.c (.v (.bool false))))⟩
    (.one ⟨some s23, none, (.mv (.t s29))⟩
    .done))))))))
  (.cond (.t s23) (.seq (.reg (.one ⟨some s30, none, (.build [(.v (.int .i64 0)), (.slice 4 [] .full)] [])⟩
    (.one ⟨none, none, (.store 2 (.t s8) (.t s30))⟩
    (.one ⟨some s9, none, (.mv (.c (.v (.int .i64 9))))⟩
    .done))))
  .ret) (.seq (.reg (.one ⟨some s32, none, (.mv (.t s2))⟩
    (.one ⟨some s33, none, (.bin false .lss (.t s32) (.c (.v (.int .i64 0))))⟩
    (.one ⟨some s34, none, (.mv (.t s33))⟩
    (.one ⟨some s35, some (s34, false), (.mv (.t s2))⟩
    (.one ⟨some s36, some (s34, false), (.bin false .gtr (.t s35) (.c (.v (.int .i64 4096))))⟩
    (.one ⟨some s37, none, (.pick (.t s34) (.c (.v (.bool true))) (.t s36))⟩
    (.one ⟨some s31, none, (.mv (.t s37))⟩
    .done))))))))
  (.cond (.t s31) (.seq (.reg (.one ⟨some s38, none, (.build [(.v (.int .i64 0)), (.slice 4 [] .full)] [])⟩
    (.one ⟨none, none, (.store 2 (.t s8) (.t s38))⟩
    (.one ⟨some s9, none, (.mv (.c (.v (.int .i64 1))))⟩
    .done))))
  .ret) .skip)))))))
  (.seq (.reg (.one ⟨some s39, none, (.mv (.t s0))⟩
    (.one ⟨some s40, none, (.callp 30 [(.t s39)])⟩
    (.one ⟨some s41, none, (.index none 1 3 (.t s40) (.c (.v (.int .i64 1))))⟩
    (.one ⟨some s42, none, (.build [(.v (.int .i64 0)), (.slice 4 [] .full)] [(0, 1, (.t s41))])⟩
    (.one ⟨some s10, none, (.new [(.v (.int .i64 0)), (.slice 4 [] .full)])⟩
    (.one ⟨none, none, (.store 2 (.t s10) (.t s42))⟩
    .done)))))))
  (.seq (.reg (.one ⟨some s43, none, (.build [(.v (.int .i64 0)), (.slice 4 [] .full)] [])⟩
    (.one ⟨some s44, none, (.mv (.t s3))⟩
    (.one ⟨some s45, none, (.callq 31 [(.t s43), (.t s44)])⟩
    (.one ⟨some s11, none, (.mv (.t s45))⟩
    .done)))))
  (.seq (.seq (.reg (.one ⟨some s46, none, (.mv (.t s11))⟩
    (.one ⟨some s47, none, (.mv (.t s2))⟩
    (.one ⟨some s48, none, (.bin false .gtr (.t s46) (.t s47))⟩
    .done))))
  (.cond (.t s48) (.seq (.reg (.one ⟨some s49, none, (.build [(.v (.int .i64 0)), (.slice 4 [] .full)] [])⟩
    (.one ⟨none, none, (.store 2 (.t s8) (.t s49))⟩
    (.one ⟨some s9, none, (.mv (.c (.v (.int .i64 16))))⟩
    .done))))
  .ret) .skip))
  (.seq (.label 0)
  (.seq (.seq (.reg (.one ⟨some s50, none, (.mv (.t s0))⟩
    (.one ⟨some s51, none, (.callq 32 [(.t s50)])⟩
    (.one ⟨some s52, none, (.len false (.t s51))⟩
    (.one ⟨some s53, none, (.mv (.c (.v (.int .i64 0))))⟩
    .done)))))
  (.block 1 (.loop (.seq (.reg (.one ⟨some s54, none, (.bin false .lss (.t s53) (.t s52))⟩
    .done))
  (.seq (.cond (.t s54) .skip (.exit 1))
  (.seq (.block 2 (.seq (.reg (.one ⟨some s55, none, (.iaddr 1 (.t s51) (.t s53))⟩
    (.one ⟨some s56, none, (.load none (.t s55))⟩
    (.one ⟨some s13, none, (.mv (.t s56))⟩
    .done))))
  (.seq (.reg (.one ⟨some s57, none, (.mv (.t s1))⟩
    (.one ⟨some s58, none, (.mv (.t s13))⟩
    (.one ⟨some s59, none, (.callq 8 [(.t s57), (.t s58)])⟩
    (.one ⟨some s14, none, (.mv (.t s59))⟩
    .done)))))
  (.seq (.reg (.one ⟨some s60, none, (.faddr 1 (.t s10))⟩
    (.one ⟨some s61, none, (.load none (.t s60))⟩
    (.one ⟨some s62, none, (.faddr 1 (.t s10))⟩
    (.one ⟨some s63, none, (.load none (.t s62))⟩
    (.one ⟨some s64, none, (.len false (.t s63))⟩
    (.one ⟨some s65, none, (.faddr 1 (.t s10))⟩
    (.one ⟨some s66, none, (.load none (.t s65))⟩
    (.one ⟨some s67, none, (.len false (.t s66))⟩
    (.one ⟨some s68, none, (.cut 4 (.t s61) none (some (.t s64)) (some (.t s67)))⟩
    (.one ⟨some s69, none, (.mv (.t s14))⟩
    (.one ⟨some s70, none, (.app 4 32 (.t s68) (.t s69))⟩
    (.one ⟨some s15, none, (.mv (.t s70))⟩
    .done)))))))))))))
  (.seq (.reg (.one ⟨some s71, none, (.mv (.t s15))⟩
    (.one ⟨some s72, none, (.build [(.v (.int .i64 0)), (.slice 4 [] .full)] [(1, 1, (.t s71))])⟩
    (.one ⟨some s73, none, (.mv (.t s3))⟩
    (.one ⟨some s74, none, (.callq 31 [(.t s72), (.t s73)])⟩
    (.one ⟨some s16, none, (.mv (.t s74))⟩
    .done))))))
  (.seq (.seq (.reg (.one ⟨some s75, none, (.mv (.t s16))⟩
    (.one ⟨some s76, none, (.bin false .eql (.t s75) (.c (.v (.int .i64 0))))⟩
    (.one ⟨some s77, none, (.mv (.t s76))⟩
    (.one ⟨some s78, some (s77, false), (.mv (.t s16))⟩
    (.one ⟨some s79, some (s77, false), (.mv (.t s2))⟩
    (.one ⟨some s80, some (s77, false), (.bin false .gtr (.t s78) (.t s79))⟩
    (.one ⟨some s81, none, (.pick (.t s77) (.c (.v (.bool true))) (.t s80))⟩
    .done))))))))
  (.cond (.t s81) (.seq (.reg (.one ⟨some s82, none, (.mv (.t s13))⟩
    (.one ⟨some s83, none, (.faddr 0 (.t s10))⟩
    (.one ⟨none, none, (.store 1 (.t s83) (.t s82))⟩
    .done))))
  (.exit 1)) .skip))
  (.reg (.one ⟨some s84, none, (.mv (.t s15))⟩
    (.one ⟨some s85, none, (.faddr 1 (.t s10))⟩
    (.one ⟨none, none, (.store 1 (.t s85) (.t s84))⟩
    .done))))))))))
  (.reg (.one ⟨some s86, none, (.bin false .add (.t s53) (.c (.v (.int .i64 1))))⟩
    (.one ⟨some s53, none, (.mv (.t s86))⟩
    .done)))))))))
  (.seq (.reg (.one ⟨some s87, none, (.load (some 2) (.t s10))⟩
    (.one ⟨none, none, (.store 2 (.t s8) (.t s87))⟩
    (.one ⟨some s9, none, (.mv (.c (.v (.int .i64 0))))⟩
    .done))))
  .ret)))))))))⟩
theorem ok6 : compF Tryz.prog c6 Tryz.f6 = some ir6 := by kernel_rfl
theorem k_amstat_Make {args : List AVal} {σ : AHeap} {Q : AVal → AHeap → Prop} (hl : Nat.ble args.length 88 = true) (h : argsK (Env.full 9) 0 args fun env => evC Tryz.prog c6 ir6.body env σ (retQ ir6 Q)) : ACalls Tryz.prog 6 args σ Q :=
  acalls_of Tryz.func6 ok6 rfl (Nat.le_of_ble_eq_true hl) h
/- amstat.Misses -/
def c8 : Cfg := ⟨qs, [], 35, [], ps⟩
def ir8 : IFun := ⟨2, [.tmp s4],
  (.seq (.reg (.one ⟨some s4, none, (.mv (.c (.slice 4 [] .full)))⟩
    .done))
  (.seq (.reg (.one ⟨some s9, none, (.mv (.t s0))⟩
    (.one ⟨some s10, none, (.mv (.t s1))⟩
    (.one ⟨some s11, none, (.callq 36 [(.t s9), (.t s10)])⟩
    (.one ⟨some s5, none, (.mv (.t s11))⟩
    .done)))))
  (.seq (.seq (.reg (.one ⟨some s12, none, (.mv (.t s5))⟩
    (.one ⟨some s13, none, (.len false (.t s12))⟩
    (.one ⟨some s14, none, (.bin false .eql (.t s13) (.c (.v (.int .i64 0))))⟩
    .done))))
  (.cond (.t s14) (.seq (.reg (.one ⟨some s15, none, (.mv (.t s1))⟩
    (.one ⟨some s16, none, (.build [(.v (.int .i64 0)), (.v (.bool false)), (.v (.int .i64 0)), (.v (.int .i64 0))] [(0, 1, (.t s15))])⟩
    (.one ⟨some s17, none, (.row 4 [(.t s16)])⟩
    (.one ⟨some s4, none, (.mv (.t s17))⟩
    .done)))))
  .ret) .skip))
  (.seq (.reg (.one ⟨some s6, none, (.mv (.c (.slice 4 [] .full)))⟩
    .done))
  (.seq (.seq (.reg (.one ⟨some s18, none, (.mv (.t s5))⟩
    (.one ⟨some s19, none, (.len false (.t s18))⟩
    (.one ⟨some s20, none, (.mv (.c (.v (.int .i64 0))))⟩
    .done))))
  (.block 0 (.loop (.seq (.reg (.one ⟨some s21, none, (.bin false .lss (.t s20) (.t s19))⟩
    .done))
  (.seq (.cond (.t s21) .skip (.exit 0))
  (.seq (.block 1 (.seq (.reg (.one ⟨some s22, none, (.iaddr 2 (.t s18) (.t s20))⟩
    (.one ⟨some s23, none, (.load (some 2) (.t s22))⟩
    (.one ⟨some s8, none, (.new [(.v (.int .i64 0)), (.v (.int .i64 0))])⟩
    (.one ⟨none, none, (.store 2 (.t s8) (.t s23))⟩
    .done)))))
  (.reg (.one ⟨some s24, none, (.mv (.t s6))⟩
    (.one ⟨some s25, none, (.mv (.t s1))⟩
    (.one ⟨some s26, none, (.faddr 0 (.t s8))⟩
    (.one ⟨some s27, none, (.load none (.t s26))⟩
    (.one ⟨some s28, none, (.faddr 1 (.t s8))⟩
    (.one ⟨some s29, none, (.load none (.t s28))⟩
    (.one ⟨some s30, none, (.build [(.v (.int .i64 0)), (.v (.bool false)), (.v (.int .i64 0)), (.v (.int .i64 0))] [(0, 1, (.t s25)), (1, 1, (.c (.v (.bool true)))), (2, 1, (.t s27)), (3, 1, (.t s29))])⟩
    (.one ⟨some s31, none, (.row 4 [(.t s30)])⟩
    (.one ⟨some s32, none, (.app 4 32 (.t s24) (.t s31))⟩
    (.one ⟨some s6, none, (.mv (.t s32))⟩
    .done)))))))))))))
  (.reg (.one ⟨some s33, none, (.bin false .add (.t s20) (.c (.v (.int .i64 1))))⟩
    (.one ⟨some s20, none, (.mv (.t s33))⟩
    .done)))))))))
  (.seq (.reg (.one ⟨some s34, none, (.mv (.t s6))⟩
    (.one ⟨some s4, none, (.mv (.t s34))⟩
    .done)))
  .ret))))))⟩
theorem ok8 : compF Tryz.prog c8 Tryz.f8 = some ir8 := by kernel_rfl
theorem k_amstat_Misses {args : List AVal} {σ : AHeap} {Q : AVal → AHeap → Prop} (hl : Nat.ble args.length 35 = true) (h : argsK (Env.full 9) 0 args fun env => evC Tryz.prog c8 ir8.body env σ (retQ ir8 Q)) : ACalls Tryz.prog 8 args σ Q :=
  acalls_of Tryz.func8 ok8 rfl (Nat.le_of_ble_eq_true hl) h
/- amstat.made -/
def c29 : Cfg := ⟨qs, [], 21, [], ps⟩
def ir29 : IFun := ⟨2, [.tmp s4],
  (.seq (.reg (.one ⟨some s4, none, (.mv (.c (.v (.bool false))))⟩
    .done))
  (.seq (.reg (.one ⟨some s5, none, (.mv (.t s0))⟩
    (.one ⟨some s6, none, (.eqNil 1 true (.t s5))⟩
    (.one ⟨some s7, none, (.mv (.t s6))⟩
    (.one ⟨some s8, some (s7, true), (.mv (.t s1))⟩
    (.one ⟨some s9, some (s7, true), (.eqNil 1 true (.t s8))⟩
    (.one ⟨some s10, none, (.pick (.t s7) (.t s9) (.c (.v (.bool false))))⟩
    (.one ⟨some s11, none, (.mv (.t s10))⟩
    (.one ⟨some s12, some (s11, true), (.mv (.t s0))⟩
    (.one ⟨some s13, some (s11, true), (.call 20 [(.t s12), (.c (.v (.int .i64 (-1))))])⟩
    (.one ⟨some s14, some (s11, true), (.bin false .neq (.t s13) (.c (.v (.int .i64 6))))⟩
    (.one ⟨some s15, none, (.pick (.t s11) (.t s14) (.c (.v (.bool false))))⟩
    (.one ⟨some s16, none, (.mv (.t s15))⟩
    (.one ⟨some s17, some (s16, true), (.mv (.t s1))⟩
    (.one ⟨some s18, some (s16, true), (.call 72 [(.t s17), (.c (.v (.int .i64 (-1))))])⟩
    (.one ⟨some s19, some (s16, true), (.bin false .neq (.t s18) (.c (.v (.int .i64 6))))⟩
    (.one ⟨some s20, none, (.pick (.t s16) (.t s19) (.c (.v (.bool false))))⟩
    (.one ⟨some s4, none, (.mv (.t s20))⟩
    .done))))))))))))))))))
  .ret))⟩
theorem ok29 : compF Tryz.prog c29 Tryz.f29 = some ir29 := by kernel_rfl
theorem k_amstat_made {args : List AVal} {σ : AHeap} {Q : AVal → AHeap → Prop} (hl : Nat.ble args.length 21 = true) (h : argsK (Env.full 9) 0 args fun env => evC Tryz.prog c29 ir29.body env σ (retQ ir29 Q)) : ACalls Tryz.prog 29 args σ Q :=
  acalls_of Tryz.func29 ok29 rfl (Nat.le_of_ble_eq_true hl) h
end Go.Proofs.YtgbpjbpdpgbngaaGreat
