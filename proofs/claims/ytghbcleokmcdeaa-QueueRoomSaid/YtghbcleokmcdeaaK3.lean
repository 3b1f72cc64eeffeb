/-
  Texts of this claim, pack 3: Irslices, Irspans, Irref03, Irlaw03, Irlaw03b.
-/
import Derived.Test.YtghbcleokmcdeaaK2
/-
  The bodies of one package, compiled to the framework's language (printed by a program of this session).
-/
namespace Go.Proofs.Ytghbcleokmcdeaa
set_option linter.unusedVariables false
set_option linter.unusedSimpArgs false
open Go Go.Am
/- slices.ContainsFunc[[][]byte,[]byte] -/
def c54 : Cfg := ⟨qs, [], 9, [], ps⟩
def ir54 : IFun := ⟨2, [.tmp s4],
  (.seq (.reg (.one ⟨some s4, none, (.mv (.c (.v (.bool false))))⟩
    .done))
  (.seq (.reg (.one ⟨some s5, none, (.mv (.t s0))⟩
    (.one ⟨some s6, none, (.mv (.t s1))⟩
    (.one ⟨some s7, none, (.callq 72 [(.t s5), (.t s6)])⟩
    (.one ⟨some s8, none, (.bin false .geq (.t s7) (.c (.v (.int .i64 0))))⟩
    (.one ⟨some s4, none, (.mv (.t s8))⟩
    .done))))))
  .ret))⟩
theorem ok54 : compF Try.prog c54 Try.f54 = some ir54 := by kernel_rfl
theorem k_slices_ContainsFunc_byte_byte {args : List AVal} {σ : AHeap} {Q : AVal → AHeap → Prop} (hl : Nat.ble args.length 9 = true) (h : argsK (Env.full 9) 0 args fun env => evC Try.prog c54 ir54.body env σ (retQ ir54 Q)) : ACalls Try.prog 54 args σ Q :=
  acalls_of Try.func54 ok54 rfl (Nat.le_of_ble_eq_true hl) h
/- slices.Clone[[]byte,byte] -/
def c68 : Cfg := ⟨qs, [], 8, [], ps⟩
def ir68 : IFun := ⟨1, [.tmp s2],
  (.seq (.reg (.one ⟨some s2, none, (.mv (.c (.slice 1 [] .full)))⟩
    .done))
  (.seq (.seq (.reg (.one ⟨some s3, none, (.mv (.t s0))⟩
    (.one ⟨some s4, none, (.eqNil 0 false (.t s3))⟩
    .done)))
  (.cond (.t s4) (.seq (.reg (.one ⟨some s2, none, (.mv (.c (.slice 1 [] .full)))⟩
    .done))
  .ret) .skip))
  (.seq (.reg (.one ⟨some s5, none, (.row 1 [])⟩
    (.one ⟨some s6, none, (.mv (.t s0))⟩
    (.one ⟨some s7, none, (.app 1 1 (.t s5) (.t s6))⟩
    (.one ⟨some s2, none, (.mv (.t s7))⟩
    .done)))))
  .ret)))⟩
theorem ok68 : compF Try.prog c68 Try.f68 = some ir68 := by kernel_rfl
theorem k_slices_Clone_byte_byte {args : List AVal} {σ : AHeap} {Q : AVal → AHeap → Prop} (hl : Nat.ble args.length 8 = true) (h : argsK (Env.full 9) 0 args fun env => evC Try.prog c68 ir68.body env σ (retQ ir68 Q)) : ACalls Try.prog 68 args σ Q :=
  acalls_of Try.func68 ok68 rfl (Nat.le_of_ble_eq_true hl) h
/- slices.Clone[[]byte,byte] -/
def c68m : Cfg := ⟨qs, [22, 23, 32, 33, 36, 41, 50, 55, 64, 85, 87, 93, 123], 8, [], ps⟩
def ir68m : IFun := ⟨1, [.tmp s2],
  (.seq (.reg (.one ⟨some s2, none, (.mv (.c (.slice 1 [] .full)))⟩
    .done))
  (.seq (.seq (.reg (.one ⟨some s3, none, (.mv (.t s0))⟩
    (.one ⟨some s4, none, (.eqNil 0 false (.t s3))⟩
    .done)))
  (.cond (.t s4) (.seq (.reg (.one ⟨some s2, none, (.mv (.c (.slice 1 [] .full)))⟩
    .done))
  .ret) .skip))
  (.seq (.reg (.one ⟨some s5, none, (.row 1 [])⟩
    (.one ⟨some s6, none, (.mv (.t s0))⟩
    (.one ⟨some s7, none, (.appm 1 1 (.t s5) (.t s6))⟩
    (.one ⟨some s2, none, (.mv (.t s7))⟩
    .done)))))
  .ret)))⟩
theorem ok68m : compF Try.prog c68m Try.f68 = some ir68m := by kernel_rfl
theorem km_slices_Clone_byte_byte {args : List AVal} {σ : AHeap} {Q : AVal → AHeap → Prop} (hl : Nat.ble args.length 8 = true) (h : argsK (Env.full 9) 0 args fun env => evC Try.prog c68m ir68m.body env σ (retQ ir68m Q)) : ACalls Try.prog 68 args σ Q :=
  acalls_of Try.func68 ok68m rfl (Nat.le_of_ble_eq_true hl) h
/- slices.IndexFunc[[][]byte,[]byte] -/
def c72 : Cfg := ⟨qs, [], 19, [], ps⟩
def ir72 : IFun := ⟨2, [.tmp s4],
  (.seq (.reg (.one ⟨some s4, none, (.mv (.c (.v (.int .i64 0))))⟩
    .done))
  (.seq (.seq (.reg (.one ⟨some s6, none, (.mv (.t s0))⟩
    (.one ⟨some s7, none, (.len false (.t s6))⟩
    (.one ⟨some s8, none, (.mv (.c (.v (.int .i64 0))))⟩
    .done))))
  (.block 0 (.loop (.seq (.reg (.one ⟨some s9, none, (.bin false .lss (.t s8) (.t s7))⟩
    .done))
  (.seq (.cond (.t s9) .skip (.exit 0))
  (.seq (.block 1 (.seq (.reg (.one ⟨some s10, none, (.mv (.t s8))⟩
    (.one ⟨some s5, none, (.mv (.t s10))⟩
    .done)))
  (.seq (.reg (.one ⟨some s11, none, (.mv (.t s1))⟩
    (.one ⟨some s12, none, (.mv (.t s0))⟩
    (.one ⟨some s13, none, (.mv (.t s5))⟩
    (.one ⟨some s14, none, (.iaddr 1 (.t s12) (.t s13))⟩
    (.one ⟨some s15, none, (.load none (.t s14))⟩
    (.one ⟨some s16, none, (.callv (.t s11) [(.t s15)])⟩
    .done)))))))
  (.cond (.t s16) (.seq (.reg (.one ⟨some s17, none, (.mv (.t s5))⟩
    (.one ⟨some s4, none, (.mv (.t s17))⟩
    .done)))
  .ret) .skip))))
  (.reg (.one ⟨some s18, none, (.bin false .add (.t s8) (.c (.v (.int .i64 1))))⟩
    (.one ⟨some s8, none, (.mv (.t s18))⟩
    .done)))))))))
  (.seq (.reg (.one ⟨some s4, none, (.mv (.c (.v (.int .i64 (-1)))))⟩
    .done))
  .ret)))⟩
theorem ok72 : compF Try.prog c72 Try.f72 = some ir72 := by kernel_rfl
theorem k_slices_IndexFunc_byte_byte {args : List AVal} {σ : AHeap} {Q : AVal → AHeap → Prop} (hl : Nat.ble args.length 19 = true) (h : argsK (Env.full 9) 0 args fun env => evC Try.prog c72 ir72.body env σ (retQ ir72 Q)) : ACalls Try.prog 72 args σ Q :=
  acalls_of Try.func72 ok72 rfl (Nat.le_of_ble_eq_true hl) h
end Go.Proofs.Ytghbcleokmcdeaa
/-
  The bodies of one package, compiled to the framework's language (printed by a program of this session).
-/
namespace Go.Proofs.Ytghbcleokmcdeaa
set_option linter.unusedVariables false
set_option linter.unusedSimpArgs false
open Go Go.Am
/- spans.New -/
def c19 : Cfg := ⟨qs, [], 24, [], ps⟩
def ir19 : IFun := ⟨1, [.tmp s2, .tmp s3],
  (.seq (.reg (.one ⟨some s2, none, (.mv (.c (.v (.pointer none))))⟩
    (.one ⟨some s3, none, (.mv (.c (.v (.int .i64 0))))⟩
    .done)))
  (.seq (.reg (.one ⟨some s8, none, (.build [(.slice 2 [] .full)] [])⟩
    (.one ⟨some s9, none, (.box 1 (.t s8))⟩
    (.one ⟨some s4, none, (.mv (.t s9))⟩
    .done))))
  (.seq (.seq (.reg (.one ⟨some s10, none, (.mv (.t s0))⟩
    (.one ⟨some s11, none, (.len false (.t s10))⟩
    (.one ⟨some s12, none, (.mv (.c (.v (.int .i64 0))))⟩
    .done))))
  (.block 0 (.loop (.seq (.reg (.one ⟨some s13, none, (.bin false .lss (.t s12) (.t s11))⟩
    .done))
  (.seq (.cond (.t s13) .skip (.exit 0))
  (.seq (.block 1 (.seq (.reg (.one ⟨some s14, none, (.iaddr 2 (.t s10) (.t s12))⟩
    (.one ⟨some s15, none, (.load (some 2) (.t s14))⟩
    (.one ⟨some s6, none, (.new [(.v (.int .i64 0)), (.v (.int .i64 0))])⟩
    (.one ⟨none, none, (.store 2 (.t s6) (.t s15))⟩
    .done)))))
  (.seq (.reg (.one ⟨some s16, none, (.mv (.t s4))⟩
    (.one ⟨some s17, none, (.load (some 2) (.t s6))⟩
    (.one ⟨some s18, none, (.call 21 [(.t s16), (.t s17)])⟩
    (.one ⟨some s7, none, (.mv (.t s18))⟩
    .done)))))
  (.seq (.reg (.one ⟨some s19, none, (.mv (.t s7))⟩
    (.one ⟨some s20, none, (.bin false .neq (.t s19) (.c (.v (.int .i64 0))))⟩
    .done)))
  (.cond (.t s20) (.seq (.reg (.one ⟨some s21, none, (.mv (.t s7))⟩
    (.one ⟨some s2, none, (.mv (.c (.v (.pointer none))))⟩
    (.one ⟨some s3, none, (.mv (.t s21))⟩
    .done))))
  .ret) .skip)))))
  (.reg (.one ⟨some s22, none, (.bin false .add (.t s12) (.c (.v (.int .i64 1))))⟩
    (.one ⟨some s12, none, (.mv (.t s22))⟩
    .done)))))))))
  (.seq (.reg (.one ⟨some s23, none, (.mv (.t s4))⟩
    (.one ⟨some s2, none, (.mv (.t s23))⟩
    (.one ⟨some s3, none, (.mv (.c (.v (.int .i64 0))))⟩
    .done))))
  .ret))))⟩
theorem ok19 : compF Try.prog c19 Try.f19 = some ir19 := by kernel_rfl
theorem k_spans_New {args : List AVal} {σ : AHeap} {Q : AVal → AHeap → Prop} (hl : Nat.ble args.length 24 = true) (h : argsK (Env.full 9) 0 args fun env => evC Try.prog c19 ir19.body env σ (retQ ir19 Q)) : ACalls Try.prog 19 args σ Q :=
  acalls_of Try.func19 ok19 rfl (Nat.le_of_ble_eq_true hl) h
/- spans.Set).Add -/
def c21 : Cfg := ⟨qs, [], 78, [], ps⟩
def ir21 : IFun := ⟨2, [.tmp s4],
  (.seq (.reg (.one ⟨some s3, none, (.box 2 (.t s1))⟩
    (.one ⟨some s4, none, (.mv (.c (.v (.int .i64 0))))⟩
    .done)))
  (.scope (.seq (.seq (.reg (.one ⟨some s10, none, (.mv (.t s0))⟩
    (.one ⟨some s11, none, (.load (some 2) (.t s3))⟩
    (.one ⟨some s12, none, (.callq 58 [(.t s10), (.t s11)])⟩
    (.one ⟨some s5, none, (.mv (.t s12))⟩
    .done)))))
  (.seq (.reg (.one ⟨some s13, none, (.mv (.t s5))⟩
    (.one ⟨some s14, none, (.bin false .neq (.t s13) (.c (.v (.int .i64 0))))⟩
    .done)))
  (.cond (.t s14) (.seq (.reg (.one ⟨some s15, none, (.mv (.t s5))⟩
    (.one ⟨some s4, none, (.mv (.t s15))⟩
    .done)))
  .ret) .skip)))
  (.seq (.reg (.one ⟨some s6, none, (.mv (.c (.slice 2 [] .full)))⟩
    .done))
  (.seq (.reg (.one ⟨some s7, none, (.mv (.c (.v (.int .i64 0))))⟩
    (.one ⟨some s8, none, (.mv (.c (.v (.bool false))))⟩
    .done)))
  (.seq (.label 0)
  (.seq (.seq (.reg (.one ⟨some s16, none, (.mv (.t s7))⟩
    (.one ⟨some s17, none, (.mv (.t s0))⟩
    (.one ⟨some s18, none, (.nilchk (.t s17))⟩
    (.one ⟨some s19, none, (.faddr 0 (.t s18))⟩
    (.one ⟨some s20, none, (.load none (.t s19))⟩
    (.one ⟨some s21, none, (.len false (.t s20))⟩
    (.one ⟨some s22, none, (.bin false .lss (.t s16) (.t s21))⟩
    .done))))))))
  (.cond (.t s22) (.seq (.reg (.one ⟨some s23, none, (.mv (.t s0))⟩
    (.one ⟨some s24, none, (.nilchk (.t s23))⟩
    (.one ⟨some s25, none, (.faddr 0 (.t s24))⟩
    (.one ⟨some s26, none, (.load none (.t s25))⟩
    (.one ⟨some s27, none, (.mv (.t s7))⟩
    (.one ⟨some s28, none, (.iaddr 2 (.t s26) (.t s27))⟩
    (.one ⟨some s29, none, (.load (some 2) (.t s28))⟩
    (.one ⟨some s9, none, (.new [(.v (.int .i64 0)), (.v (.int .i64 0))])⟩
    (.one ⟨none, none, (.store 2 (.t s9) (.t s29))⟩
    .done))))))))))
  (.seq (.block 0 (.seq (.reg (.one ⟨some s42, none, (.faddr 1 (.t s9))⟩
    (.one ⟨some s43, none, (.load none (.t s42))⟩
    (.one ⟨some s44, none, (.faddr 0 (.t s3))⟩
    (.one ⟨some s45, none, (.load none (.t s44))⟩
    (.one ⟨some s46, none, (.bin false .lss (.t s43) (.t s45))⟩
    (.one ⟨some s41, none, (.mv (.t s46))⟩
    .done)))))))
  (.cond (.t s41) (.reg (.one ⟨some s47, none, (.mv (.t s6))⟩
    (.one ⟨some s48, none, (.load (some 2) (.t s9))⟩
    (.one ⟨some s49, none, (.row 2 [(.t s48)])⟩
    (.one ⟨some s50, none, (.app 2 16 (.t s47) (.t s49))⟩
    (.one ⟨some s6, none, (.mv (.t s50))⟩
    .done)))))) (.seq (.reg (.one ⟨some s52, none, (.faddr 0 (.t s9))⟩
    (.one ⟨some s53, none, (.load none (.t s52))⟩
    (.one ⟨some s54, none, (.faddr 1 (.t s3))⟩
    (.one ⟨some s55, none, (.load none (.t s54))⟩
    (.one ⟨some s56, none, (.bin false .gtr (.t s53) (.t s55))⟩
    (.one ⟨some s51, none, (.mv (.t s56))⟩
    .done)))))))
  (.cond (.t s51) (.seq (.seq (.reg (.one ⟨some s57, none, (.mv (.t s8))⟩
    (.one ⟨some s58, none, (.not (.t s57))⟩
    .done)))
  (.cond (.t s58) (.reg (.one ⟨some s59, none, (.mv (.t s6))⟩
    (.one ⟨some s60, none, (.load (some 2) (.t s3))⟩
    (.one ⟨some s61, none, (.row 2 [(.t s60)])⟩
    (.one ⟨some s62, none, (.app 2 16 (.t s59) (.t s61))⟩
    (.one ⟨some s6, none, (.mv (.t s62))⟩
    (.one ⟨some s8, none, (.mv (.c (.v (.bool true))))⟩
    .done))))))) .skip))
  (.reg (.one ⟨some s63, none, (.mv (.t s6))⟩
    (.one ⟨some s64, none, (.load (some 2) (.t s9))⟩
    (.one ⟨some s65, none, (.row 2 [(.t s64)])⟩
    (.one ⟨some s66, none, (.app 2 16 (.t s63) (.t s65))⟩
    (.one ⟨some s6, none, (.mv (.t s66))⟩
    .done))))))) (.reg (.one ⟨some s30, none, (.faddr 0 (.t s3))⟩
    (.one ⟨some s31, none, (.load none (.t s30))⟩
    (.one ⟨some s32, none, (.faddr 0 (.t s9))⟩
    (.one ⟨some s33, none, (.load none (.t s32))⟩
    (.one ⟨some s34, none, (.mxmn false (.t s31) (.t s33))⟩
    (.one ⟨some s35, none, (.faddr 1 (.t s3))⟩
    (.one ⟨some s36, none, (.load none (.t s35))⟩
    (.one ⟨some s37, none, (.faddr 1 (.t s9))⟩
    (.one ⟨some s38, none, (.load none (.t s37))⟩
    (.one ⟨some s39, none, (.mxmn true (.t s36) (.t s38))⟩
    (.one ⟨some s40, none, (.build [(.v (.int .i64 0)), (.v (.int .i64 0))] [(0, 1, (.t s34)), (1, 1, (.t s39))])⟩
    (.one ⟨none, none, (.store 2 (.t s3) (.t s40))⟩
    .done))))))))))))))))))
  (.seq (.reg (.one ⟨some s67, none, (.mv (.t s7))⟩
    (.one ⟨some s68, none, (.bin false .add (.t s67) (.c (.v (.int .i64 1))))⟩
    (.one ⟨some s7, none, (.mv (.t s68))⟩
    .done))))
  (.goto 0)))) .skip))
  (.seq (.seq (.reg (.one ⟨some s69, none, (.mv (.t s8))⟩
    (.one ⟨some s70, none, (.not (.t s69))⟩
    .done)))
  (.cond (.t s70) (.reg (.one ⟨some s71, none, (.mv (.t s6))⟩
    (.one ⟨some s72, none, (.load (some 2) (.t s3))⟩
    (.one ⟨some s73, none, (.row 2 [(.t s72)])⟩
    (.one ⟨some s74, none, (.app 2 16 (.t s71) (.t s73))⟩
    (.one ⟨some s6, none, (.mv (.t s74))⟩
    .done)))))) .skip))
  (.seq (.reg (.one ⟨some s75, none, (.mv (.t s0))⟩
    (.one ⟨some s76, none, (.mv (.t s6))⟩
    (.one ⟨some s77, none, (.call 59 [(.t s75), (.t s76)])⟩
    (.one ⟨some s4, none, (.mv (.t s77))⟩
    .done)))))
  .ret)))))))))⟩
theorem ok21 : compF Try.prog c21 Try.f21 = some ir21 := by kernel_rfl
theorem k_spans_Set_Add {args : List AVal} {σ : AHeap} {Q : AVal → AHeap → Prop} (hl : Nat.ble args.length 78 = true) (h : argsK (Env.full 9) 0 args fun env => evC Try.prog c21 ir21.body env σ (retQ ir21 Q)) : ACalls Try.prog 21 args σ Q :=
  acalls_of Try.func21 ok21 rfl (Nat.le_of_ble_eq_true hl) h
/- spans.Set).Spans -/
def c22 : Cfg := ⟨qs, [], 10, [], ps⟩
def ir22 : IFun := ⟨1, [.tmp s2],
  (.seq (.reg (.one ⟨some s2, none, (.mv (.c (.slice 2 [] .full)))⟩
    .done))
  (.seq (.seq (.reg (.one ⟨some s3, none, (.mv (.t s0))⟩
    (.one ⟨some s4, none, (.eqNil 1 false (.t s3))⟩
    .done)))
  (.cond (.t s4) (.seq (.reg (.one ⟨some s2, none, (.mv (.c (.slice 2 [] .full)))⟩
    .done))
  .ret) .skip))
  (.seq (.reg (.one ⟨some s5, none, (.mv (.t s0))⟩
    (.one ⟨some s6, none, (.nilchk (.t s5))⟩
    (.one ⟨some s7, none, (.faddr 0 (.t s6))⟩
    (.one ⟨some s8, none, (.load none (.t s7))⟩
    (.one ⟨some s9, none, (.callq 60 [(.t s8)])⟩
    (.one ⟨some s2, none, (.mv (.t s9))⟩
    .done)))))))
  .ret)))⟩
theorem ok22 : compF Try.prog c22 Try.f22 = some ir22 := by kernel_rfl
theorem k_spans_Set_Spans {args : List AVal} {σ : AHeap} {Q : AVal → AHeap → Prop} (hl : Nat.ble args.length 10 = true) (h : argsK (Env.full 9) 0 args fun env => evC Try.prog c22 ir22.body env σ (retQ ir22 Q)) : ACalls Try.prog 22 args σ Q :=
  acalls_of Try.func22 ok22 rfl (Nat.le_of_ble_eq_true hl) h
/- spans.Set).Count -/
def c23 : Cfg := ⟨qs, [], 26, [], ps⟩
def ir23 : IFun := ⟨1, [.tmp s2],
  (.seq (.reg (.one ⟨some s2, none, (.mv (.c (.v (.int .i64 0))))⟩
    .done))
  (.seq (.reg (.one ⟨some s3, none, (.mv (.c (.v (.int .i64 0))))⟩
    .done))
  (.seq (.seq (.reg (.one ⟨some s6, none, (.mv (.t s0))⟩
    (.one ⟨some s7, none, (.eqNil 1 true (.t s6))⟩
    .done)))
  (.cond (.t s7) (.seq (.reg (.one ⟨some s8, none, (.mv (.t s0))⟩
    (.one ⟨some s9, none, (.nilchk (.t s8))⟩
    (.one ⟨some s10, none, (.faddr 0 (.t s9))⟩
    (.one ⟨some s11, none, (.load none (.t s10))⟩
    (.one ⟨some s12, none, (.len false (.t s11))⟩
    (.one ⟨some s13, none, (.mv (.c (.v (.int .i64 0))))⟩
    .done)))))))
  (.block 0 (.loop (.seq (.reg (.one ⟨some s14, none, (.bin false .lss (.t s13) (.t s12))⟩
    .done))
  (.seq (.cond (.t s14) .skip (.exit 0))
  (.seq (.block 1 (.seq (.reg (.one ⟨some s15, none, (.iaddr 2 (.t s11) (.t s13))⟩
    (.one ⟨some s16, none, (.load (some 2) (.t s15))⟩
    (.one ⟨some s5, none, (.new [(.v (.int .i64 0)), (.v (.int .i64 0))])⟩
    (.one ⟨none, none, (.store 2 (.t s5) (.t s16))⟩
    .done)))))
  (.reg (.one ⟨some s17, none, (.mv (.t s3))⟩
    (.one ⟨some s18, none, (.faddr 1 (.t s5))⟩
    (.one ⟨some s19, none, (.load none (.t s18))⟩
    (.one ⟨some s20, none, (.faddr 0 (.t s5))⟩
    (.one ⟨some s21, none, (.load none (.t s20))⟩
    (.one ⟨some s22, none, (.bin false .sub (.t s19) (.t s21))⟩
    (.one ⟨some s23, none, (.bin false .add (.t s17) (.t s22))⟩
    (.one ⟨some s3, none, (.mv (.t s23))⟩
    .done)))))))))))
  (.reg (.one ⟨some s24, none, (.bin false .add (.t s13) (.c (.v (.int .i64 1))))⟩
    (.one ⟨some s13, none, (.mv (.t s24))⟩
    .done))))))))) .skip))
  (.seq (.reg (.one ⟨some s25, none, (.mv (.t s3))⟩
    (.one ⟨some s2, none, (.mv (.t s25))⟩
    .done)))
  .ret))))⟩
theorem ok23 : compF Try.prog c23 Try.f23 = some ir23 := by kernel_rfl
theorem k_spans_Set_Count {args : List AVal} {σ : AHeap} {Q : AVal → AHeap → Prop} (hl : Nat.ble args.length 26 = true) (h : argsK (Env.full 9) 0 args fun env => evC Try.prog c23 ir23.body env σ (retQ ir23 Q)) : ACalls Try.prog 23 args σ Q :=
  acalls_of Try.func23 ok23 rfl (Nat.le_of_ble_eq_true hl) h
/- spans.Set).Has -/
def c24 : Cfg := ⟨qs, [], 17, [], ps⟩
def ir24 : IFun := ⟨2, [.tmp s4],
  (.seq (.reg (.one ⟨some s3, none, (.box 2 (.t s1))⟩
    (.one ⟨some s4, none, (.mv (.c (.v (.bool false))))⟩
    .done)))
  (.seq (.reg (.one ⟨some s5, none, (.mv (.t s0))⟩
    (.one ⟨some s6, none, (.load (some 2) (.t s3))⟩
    (.one ⟨some s7, none, (.callq 58 [(.t s5), (.t s6)])⟩
    (.one ⟨some s8, none, (.bin false .eql (.t s7) (.c (.v (.int .i64 0))))⟩
    (.one ⟨some s9, none, (.mv (.t s8))⟩
    (.one ⟨some s10, some (s9, true), (.mv (.t s0))⟩
    (.one ⟨some s11, some (s9, true), (.nilchk (.t s10))⟩
    (.one ⟨some s12, some (s9, true), (.faddr 0 (.t s11))⟩
    (.one ⟨some s13, some (s9, true), (.load none (.t s12))⟩
    (.one ⟨some s14, some (s9, true), (.fn 62 [] [(.t s3)])⟩
    (.one ⟨some s15, some (s9, true), (.callq 61 [(.t s13), (.t s14)])⟩
    (.one ⟨some s16, none, (.pick (.t s9) (.t s15) (.c (.v (.bool false))))⟩
    (.one ⟨some s4, none, (.mv (.t s16))⟩
    .done))))))))))))))
  .ret))⟩
theorem ok24 : compF Try.prog c24 Try.f24 = some ir24 := by kernel_rfl
theorem k_spans_Set_Has {args : List AVal} {σ : AHeap} {Q : AVal → AHeap → Prop} (hl : Nat.ble args.length 17 = true) (h : argsK (Env.full 9) 0 args fun env => evC Try.prog c24 ir24.body env σ (retQ ir24 Q)) : ACalls Try.prog 24 args σ Q :=
  acalls_of Try.func24 ok24 rfl (Nat.le_of_ble_eq_true hl) h
/- spans.Set).Touches -/
def c25 : Cfg := ⟨qs, [], 17, [], ps⟩
def ir25 : IFun := ⟨2, [.tmp s4],
  (.seq (.reg (.one ⟨some s3, none, (.box 2 (.t s1))⟩
    (.one ⟨some s4, none, (.mv (.c (.v (.bool false))))⟩
    .done)))
  (.seq (.reg (.one ⟨some s5, none, (.mv (.t s0))⟩
    (.one ⟨some s6, none, (.load (some 2) (.t s3))⟩
    (.one ⟨some s7, none, (.callq 58 [(.t s5), (.t s6)])⟩
    (.one ⟨some s8, none, (.bin false .eql (.t s7) (.c (.v (.int .i64 0))))⟩
    (.one ⟨some s9, none, (.mv (.t s8))⟩
    (.one ⟨some s10, some (s9, true), (.mv (.t s0))⟩
    (.one ⟨some s11, some (s9, true), (.nilchk (.t s10))⟩
    (.one ⟨some s12, some (s9, true), (.faddr 0 (.t s11))⟩
    (.one ⟨some s13, some (s9, true), (.load none (.t s12))⟩
    (.one ⟨some s14, some (s9, true), (.fn 63 [] [(.t s3)])⟩
    (.one ⟨some s15, some (s9, true), (.callq 61 [(.t s13), (.t s14)])⟩
    (.one ⟨some s16, none, (.pick (.t s9) (.t s15) (.c (.v (.bool false))))⟩
    (.one ⟨some s4, none, (.mv (.t s16))⟩
    .done))))))))))))))
  .ret))⟩
theorem ok25 : compF Try.prog c25 Try.f25 = some ir25 := by kernel_rfl
theorem k_spans_Set_Touches {args : List AVal} {σ : AHeap} {Q : AVal → AHeap → Prop} (hl : Nat.ble args.length 17 = true) (h : argsK (Env.full 9) 0 args fun env => evC Try.prog c25 ir25.body env σ (retQ ir25 Q)) : ACalls Try.prog 25 args σ Q :=
  acalls_of Try.func25 ok25 rfl (Nat.le_of_ble_eq_true hl) h
/- spans.Right -/
def c26 : Cfg := ⟨qs, [], 18, [], ps⟩
def ir26 : IFun := ⟨1, [.tmp s2],
  (.seq (.reg (.one ⟨some s1, none, (.box 2 (.t s0))⟩
    (.one ⟨some s2, none, (.mv (.c (.v (.bool false))))⟩
    .done)))
  (.seq (.reg (.one ⟨some s3, none, (.faddr 0 (.t s1))⟩
    (.one ⟨some s4, none, (.load none (.t s3))⟩
    (.one ⟨some s5, none, (.bin false .geq (.t s4) (.c (.v (.int .i64 0))))⟩
    (.one ⟨some s6, none, (.mv (.t s5))⟩
    (.one ⟨some s7, some (s6, true), (.faddr 0 (.t s1))⟩
    (.one ⟨some s8, some (s6, true), (.load none (.t s7))⟩
    (.one ⟨some s9, some (s6, true), (.faddr 1 (.t s1))⟩
    (.one ⟨some s10, some (s6, true), (.load none (.t s9))⟩
    (.one ⟨some s11, some (s6, true), (.bin false .lss (.t s8) (.t s10))⟩
    (.one ⟨some s12, none, (.pick (.t s6) (.t s11) (.c (.v (.bool false))))⟩
    (.one ⟨some s13, none, (.mv (.t s12))⟩
    (.one ⟨some s14, some (s13, true), (.faddr 1 (.t s1))⟩
    (.one ⟨some s15, some (s13, true), (.load none (.t s14))⟩
    (.one ⟨some s16, some (s13, true), (.bin false .leq (.t s15) (.c (.v (.int .i64 65536))))⟩
    (.one ⟨some s17, none, (.pick (.t s13) (.t s16) (.c (.v (.bool false))))⟩
    (.one ⟨some s2, none, (.mv (.t s17))⟩
    .done)))))))))))))))))
  .ret))⟩
theorem ok26 : compF Try.prog c26 Try.f26 = some ir26 := by kernel_rfl
theorem k_spans_Right {args : List AVal} {σ : AHeap} {Q : AVal → AHeap → Prop} (hl : Nat.ble args.length 18 = true) (h : argsK (Env.full 9) 0 args fun env => evC Try.prog c26 ir26.body env σ (retQ ir26 Q)) : ACalls Try.prog 26 args σ Q :=
  acalls_of Try.func26 ok26 rfl (Nat.le_of_ble_eq_true hl) h
/- spans.Set).Take -/
def c27 : Cfg := ⟨qs, [], 50, [], ps⟩
def ir27 : IFun := ⟨2, [.tmp s4],
  (.seq (.reg (.one ⟨some s3, none, (.box 2 (.t s1))⟩
    (.one ⟨some s4, none, (.mv (.c (.v (.int .i64 0))))⟩
    .done)))
  (.seq (.seq (.reg (.one ⟨some s10, none, (.mv (.t s0))⟩
    (.one ⟨some s11, none, (.load (some 2) (.t s3))⟩
    (.one ⟨some s12, none, (.callq 58 [(.t s10), (.t s11)])⟩
    (.one ⟨some s5, none, (.mv (.t s12))⟩
    .done)))))
  (.seq (.reg (.one ⟨some s13, none, (.mv (.t s5))⟩
    (.one ⟨some s14, none, (.bin false .neq (.t s13) (.c (.v (.int .i64 0))))⟩
    .done)))
  (.cond (.t s14) (.seq (.reg (.one ⟨some s15, none, (.mv (.t s5))⟩
    (.one ⟨some s4, none, (.mv (.t s15))⟩
    .done)))
  .ret) .skip)))
  (.seq (.reg (.one ⟨some s6, none, (.new [(.slice 2 [] .full)])⟩
    .done))
  (.seq (.reg (.one ⟨some s16, none, (.fn 64 [] [(.t s6)])⟩
    (.one ⟨some s7, none, (.mv (.t s16))⟩
    .done)))
  (.seq (.seq (.reg (.one ⟨some s17, none, (.mv (.t s0))⟩
    (.one ⟨some s18, none, (.nilchk (.t s17))⟩
    (.one ⟨some s19, none, (.faddr 0 (.t s18))⟩
    (.one ⟨some s20, none, (.load none (.t s19))⟩
    (.one ⟨some s21, none, (.len false (.t s20))⟩
    (.one ⟨some s22, none, (.mv (.c (.v (.int .i64 0))))⟩
    .done)))))))
  (.block 0 (.loop (.seq (.reg (.one ⟨some s23, none, (.bin false .lss (.t s22) (.t s21))⟩
    .done))
  (.seq (.cond (.t s23) .skip (.exit 0))
  (.seq (.block 1 (.seq (.reg (.one ⟨some s24, none, (.iaddr 2 (.t s20) (.t s22))⟩
    (.one ⟨some s25, none, (.load (some 2) (.t s24))⟩
    (.one ⟨some s9, none, (.new [(.v (.int .i64 0)), (.v (.int .i64 0))])⟩
    (.one ⟨none, none, (.store 2 (.t s9) (.t s25))⟩
    .done)))))
  (.seq (.reg (.one ⟨some s26, none, (.mv (.t s7))⟩
    (.one ⟨some s27, none, (.faddr 0 (.t s9))⟩
    (.one ⟨some s28, none, (.load none (.t s27))⟩
    (.one ⟨some s29, none, (.faddr 1 (.t s9))⟩
    (.one ⟨some s30, none, (.load none (.t s29))⟩
    (.one ⟨some s31, none, (.faddr 0 (.t s3))⟩
    (.one ⟨some s32, none, (.load none (.t s31))⟩
    (.one ⟨some s33, none, (.mxmn false (.t s30) (.t s32))⟩
    (.one ⟨some s34, none, (.build [(.v (.int .i64 0)), (.v (.int .i64 0))] [(0, 1, (.t s28)), (1, 1, (.t s33))])⟩
    (.one ⟨some s35, none, (.callv (.t s26) [(.t s34)])⟩
    .done)))))))))))
  (.reg (.one ⟨some s36, none, (.mv (.t s7))⟩
    (.one ⟨some s37, none, (.faddr 0 (.t s9))⟩
    (.one ⟨some s38, none, (.load none (.t s37))⟩
    (.one ⟨some s39, none, (.faddr 1 (.t s3))⟩
    (.one ⟨some s40, none, (.load none (.t s39))⟩
    (.one ⟨some s41, none, (.mxmn true (.t s38) (.t s40))⟩
    (.one ⟨some s42, none, (.faddr 1 (.t s9))⟩
    (.one ⟨some s43, none, (.load none (.t s42))⟩
    (.one ⟨some s44, none, (.build [(.v (.int .i64 0)), (.v (.int .i64 0))] [(0, 1, (.t s41)), (1, 1, (.t s43))])⟩
    (.one ⟨some s45, none, (.callv (.t s36) [(.t s44)])⟩
    .done))))))))))))))
  (.reg (.one ⟨some s46, none, (.bin false .add (.t s22) (.c (.v (.int .i64 1))))⟩
    (.one ⟨some s22, none, (.mv (.t s46))⟩
    .done)))))))))
  (.seq (.reg (.one ⟨some s47, none, (.mv (.t s0))⟩
    (.one ⟨some s48, none, (.load none (.t s6))⟩
    (.one ⟨some s49, none, (.call 59 [(.t s47), (.t s48)])⟩
    (.one ⟨some s4, none, (.mv (.t s49))⟩
    .done)))))
  .ret))))))⟩
theorem ok27 : compF Try.prog c27 Try.f27 = some ir27 := by kernel_rfl
theorem k_spans_Set_Take {args : List AVal} {σ : AHeap} {Q : AVal → AHeap → Prop} (hl : Nat.ble args.length 50 = true) (h : argsK (Env.full 9) 0 args fun env => evC Try.prog c27 ir27.body env σ (retQ ir27 Q)) : ACalls Try.prog 27 args σ Q :=
  acalls_of Try.func27 ok27 rfl (Nat.le_of_ble_eq_true hl) h
/- spans.Set).Gaps -/
def c34 : Cfg := ⟨qs, [], 59, [], ps⟩
def ir34 : IFun := ⟨2, [.tmp s4],
  (.seq (.reg (.one ⟨some s4, none, (.mv (.c (.slice 2 [] .full)))⟩
    .done))
  (.seq (.seq (.reg (.one ⟨some s9, none, (.mv (.t s0))⟩
    (.one ⟨some s10, none, (.eqNil 1 false (.t s9))⟩
    (.one ⟨some s11, none, (.mv (.t s10))⟩
    (.one ⟨some s12, some (s11, false), (.mv (.t s1))⟩
    (.one ⟨some s13, some (s11, false), (.bin false .lss (.t s12) (.c (.v (.int .i64 1))))⟩
    (.one ⟨some s14, none, (.pick (.t s11) (.c (.v (.bool true))) (.t s13))⟩
    (.one ⟨some s15, none, (.mv (.t s14))⟩
    (.one ⟨some s16, some (s15, false), (.mv (.t s1))⟩
    (.one ⟨some s17, some (s15, false), (.bin false .gtr (.t s16) (.c (.v (.int .i64 65536))))⟩
    (.one ⟨some s18, none, (.pick (.t s15) (.c (.v (.bool true))) (.t s17))⟩
    .done)))))))))))
  (.cond (.t s18) (.seq (.reg (.one ⟨some s4, none, (.mv (.c (.slice 2 [] .full)))⟩
    .done))
  .ret) .skip))
  (.seq (.reg (.one ⟨some s5, none, (.mv (.c (.slice 2 [] .full)))⟩
    .done))
  (.seq (.reg (.one ⟨some s6, none, (.mv (.c (.v (.int .i64 0))))⟩
    .done))
  (.seq (.seq (.reg (.one ⟨some s19, none, (.mv (.t s0))⟩
    (.one ⟨some s20, none, (.nilchk (.t s19))⟩
    (.one ⟨some s21, none, (.faddr 0 (.t s20))⟩
    (.one ⟨some s22, none, (.load none (.t s21))⟩
    (.one ⟨some s23, none, (.len false (.t s22))⟩
    (.one ⟨some s24, none, (.mv (.c (.v (.int .i64 0))))⟩
    .done)))))))
  (.block 0 (.loop (.seq (.reg (.one ⟨some s25, none, (.bin false .lss (.t s24) (.t s23))⟩
    .done))
  (.seq (.cond (.t s25) .skip (.exit 0))
  (.seq (.block 1 (.seq (.reg (.one ⟨some s26, none, (.iaddr 2 (.t s22) (.t s24))⟩
    (.one ⟨some s27, none, (.load (some 2) (.t s26))⟩
    (.one ⟨some s8, none, (.new [(.v (.int .i64 0)), (.v (.int .i64 0))])⟩
    (.one ⟨none, none, (.store 2 (.t s8) (.t s27))⟩
    .done)))))
  (.seq (.seq (.reg (.one ⟨some s28, none, (.faddr 0 (.t s8))⟩
    (.one ⟨some s29, none, (.load none (.t s28))⟩
    (.one ⟨some s30, none, (.mv (.t s6))⟩
    (.one ⟨some s31, none, (.bin false .gtr (.t s29) (.t s30))⟩
    (.one ⟨some s32, none, (.mv (.t s31))⟩
    (.one ⟨some s33, some (s32, true), (.mv (.t s6))⟩
    (.one ⟨some s34, some (s32, true), (.mv (.t s1))⟩
    (.one ⟨some s35, some (s32, true), (.bin false .lss (.t s33) (.t s34))⟩
    (.one ⟨some s36, none, (.pick (.t s32) (.t s35) (.c (.v (.bool false))))⟩
    .done))))))))))
  (.cond (.t s36) (.reg (.one ⟨some s37, none, (.mv (.t s5))⟩
    (.one ⟨some s38, none, (.mv (.t s6))⟩
    (.one ⟨some s39, none, (.faddr 0 (.t s8))⟩
    (.one ⟨some s40, none, (.load none (.t s39))⟩
    (.one ⟨some s41, none, (.mv (.t s1))⟩
    (.one ⟨some s42, none, (.mxmn false (.t s40) (.t s41))⟩
    (.one ⟨some s43, none, (.build [(.v (.int .i64 0)), (.v (.int .i64 0))] [(0, 1, (.t s38)), (1, 1, (.t s42))])⟩
    (.one ⟨some s44, none, (.row 2 [(.t s43)])⟩
    (.one ⟨some s45, none, (.app 2 16 (.t s37) (.t s44))⟩
    (.one ⟨some s5, none, (.mv (.t s45))⟩
    .done))))))))))) .skip))
  (.reg (.one ⟨some s46, none, (.faddr 1 (.t s8))⟩
    (.one ⟨some s47, none, (.load none (.t s46))⟩
    (.one ⟨some s6, none, (.mv (.t s47))⟩
    .done)))))))
  (.reg (.one ⟨some s48, none, (.bin false .add (.t s24) (.c (.v (.int .i64 1))))⟩
    (.one ⟨some s24, none, (.mv (.t s48))⟩
    .done)))))))))
  (.seq (.seq (.reg (.one ⟨some s49, none, (.mv (.t s6))⟩
    (.one ⟨some s50, none, (.mv (.t s1))⟩
    (.one ⟨some s51, none, (.bin false .lss (.t s49) (.t s50))⟩
    .done))))
  (.cond (.t s51) (.reg (.one ⟨some s52, none, (.mv (.t s5))⟩
    (.one ⟨some s53, none, (.mv (.t s6))⟩
    (.one ⟨some s54, none, (.mv (.t s1))⟩
    (.one ⟨some s55, none, (.build [(.v (.int .i64 0)), (.v (.int .i64 0))] [(0, 1, (.t s53)), (1, 1, (.t s54))])⟩
    (.one ⟨some s56, none, (.row 2 [(.t s55)])⟩
    (.one ⟨some s57, none, (.app 2 16 (.t s52) (.t s56))⟩
    (.one ⟨some s5, none, (.mv (.t s57))⟩
    .done)))))))) .skip))
  (.seq (.reg (.one ⟨some s58, none, (.mv (.t s5))⟩
    (.one ⟨some s4, none, (.mv (.t s58))⟩
    .done)))
  .ret)))))))⟩
theorem ok34 : compF Try.prog c34 Try.f34 = some ir34 := by kernel_rfl
theorem k_spans_Set_Gaps {args : List AVal} {σ : AHeap} {Q : AVal → AHeap → Prop} (hl : Nat.ble args.length 59 = true) (h : argsK (Env.full 9) 0 args fun env => evC Try.prog c34 ir34.body env σ (retQ ir34 Q)) : ACalls Try.prog 34 args σ Q :=
  acalls_of Try.func34 ok34 rfl (Nat.le_of_ble_eq_true hl) h
/- spans.Set).ask -/
def c58 : Cfg := ⟨qs, [], 12, [], ps⟩
def ir58 : IFun := ⟨2, [.tmp s4],
  (.seq (.reg (.one ⟨some s3, none, (.box 2 (.t s1))⟩
    (.one ⟨some s4, none, (.mv (.c (.v (.int .i64 0))))⟩
    .done)))
  (.seq (.block 0 (.seq (.reg (.one ⟨some s6, none, (.mv (.t s0))⟩
    (.one ⟨some s7, none, (.eqNil 1 false (.t s6))⟩
    (.one ⟨some s5, none, (.mv (.t s7))⟩
    .done))))
  (.cond (.t s5) (.seq (.reg (.one ⟨some s4, none, (.mv (.c (.v (.int .i64 6))))⟩
    .done))
  .ret) (.seq (.reg (.one ⟨some s9, none, (.load (some 2) (.t s3))⟩
    (.one ⟨some s10, none, (.callq 26 [(.t s9)])⟩
    (.one ⟨some s11, none, (.not (.t s10))⟩
    (.one ⟨some s8, none, (.mv (.t s11))⟩
    .done)))))
  (.cond (.t s8) (.seq (.reg (.one ⟨some s4, none, (.mv (.c (.v (.int .i64 1))))⟩
    .done))
  .ret) .skip)))))
  (.seq (.reg (.one ⟨some s4, none, (.mv (.c (.v (.int .i64 0))))⟩
    .done))
  .ret)))⟩
theorem ok58 : compF Try.prog c58 Try.f58 = some ir58 := by kernel_rfl
theorem k_spans_Set_ask {args : List AVal} {σ : AHeap} {Q : AVal → AHeap → Prop} (hl : Nat.ble args.length 12 = true) (h : argsK (Env.full 9) 0 args fun env => evC Try.prog c58 ir58.body env σ (retQ ir58 Q)) : ACalls Try.prog 58 args σ Q :=
  acalls_of Try.func58 ok58 rfl (Nat.le_of_ble_eq_true hl) h
/- spans.Set).keep -/
def c59 : Cfg := ⟨qs, [], 12, [], ps⟩
def ir59 : IFun := ⟨2, [.tmp s4],
  (.seq (.reg (.one ⟨some s4, none, (.mv (.c (.v (.int .i64 0))))⟩
    .done))
  (.seq (.seq (.reg (.one ⟨some s5, none, (.mv (.t s1))⟩
    (.one ⟨some s6, none, (.len false (.t s5))⟩
    (.one ⟨some s7, none, (.bin false .gtr (.t s6) (.c (.v (.int .i64 2048))))⟩
    .done))))
  (.cond (.t s7) (.seq (.reg (.one ⟨some s4, none, (.mv (.c (.v (.int .i64 5))))⟩
    .done))
  .ret) .skip))
  (.seq (.reg (.one ⟨some s8, none, (.mv (.t s0))⟩
    (.one ⟨some s9, none, (.mv (.t s1))⟩
    (.one ⟨some s10, none, (.nilchk (.t s8))⟩
    (.one ⟨some s11, none, (.faddr 0 (.t s10))⟩
    (.one ⟨none, none, (.store 1 (.t s11) (.t s9))⟩
    .done))))))
  (.seq (.reg (.one ⟨some s4, none, (.mv (.c (.v (.int .i64 0))))⟩
    .done))
  .ret))))⟩
theorem ok59 : compF Try.prog c59 Try.f59 = some ir59 := by kernel_rfl
theorem k_spans_Set_keep {args : List AVal} {σ : AHeap} {Q : AVal → AHeap → Prop} (hl : Nat.ble args.length 12 = true) (h : argsK (Env.full 9) 0 args fun env => evC Try.prog c59 ir59.body env σ (retQ ir59 Q)) : ACalls Try.prog 59 args σ Q :=
  acalls_of Try.func59 ok59 rfl (Nat.le_of_ble_eq_true hl) h
/- spans.Span] -/
def c60 : Cfg := ⟨qs, [], 8, [], ps⟩
def ir60 : IFun := ⟨1, [.tmp s2],
  (.seq (.reg (.one ⟨some s2, none, (.mv (.c (.slice 2 [] .full)))⟩
    .done))
  (.seq (.seq (.reg (.one ⟨some s3, none, (.mv (.t s0))⟩
    (.one ⟨some s4, none, (.eqNil 0 false (.t s3))⟩
    .done)))
  (.cond (.t s4) (.seq (.reg (.one ⟨some s2, none, (.mv (.c (.slice 2 [] .full)))⟩
    .done))
  .ret) .skip))
  (.seq (.reg (.one ⟨some s5, none, (.row 2 [])⟩
    (.one ⟨some s6, none, (.mv (.t s0))⟩
    (.one ⟨some s7, none, (.app 2 16 (.t s5) (.t s6))⟩
    (.one ⟨some s2, none, (.mv (.t s7))⟩
    .done)))))
  .ret)))⟩
theorem ok60 : compF Try.prog c60 Try.f60 = some ir60 := by kernel_rfl
theorem k_spans_Span {args : List AVal} {σ : AHeap} {Q : AVal → AHeap → Prop} (hl : Nat.ble args.length 8 = true) (h : argsK (Env.full 9) 0 args fun env => evC Try.prog c60 ir60.body env σ (retQ ir60 Q)) : ACalls Try.prog 60 args σ Q :=
  acalls_of Try.func60 ok60 rfl (Nat.le_of_ble_eq_true hl) h
/- spans.Span] -/
def c61 : Cfg := ⟨qs, [], 9, [], ps⟩
def ir61 : IFun := ⟨2, [.tmp s4],
  (.seq (.reg (.one ⟨some s4, none, (.mv (.c (.v (.bool false))))⟩
    .done))
  (.seq (.reg (.one ⟨some s5, none, (.mv (.t s0))⟩
    (.one ⟨some s6, none, (.mv (.t s1))⟩
    (.one ⟨some s7, none, (.callq 76 [(.t s5), (.t s6)])⟩
    (.one ⟨some s8, none, (.bin false .geq (.t s7) (.c (.v (.int .i64 0))))⟩
    (.one ⟨some s4, none, (.mv (.t s8))⟩
    .done))))))
  .ret))⟩
theorem ok61 : compF Try.prog c61 Try.f61 = some ir61 := by kernel_rfl
theorem k_spans_Span_61 {args : List AVal} {σ : AHeap} {Q : AVal → AHeap → Prop} (hl : Nat.ble args.length 9 = true) (h : argsK (Env.full 9) 0 args fun env => evC Try.prog c61 ir61.body env σ (retQ ir61 Q)) : ACalls Try.prog 61 args σ Q :=
  acalls_of Try.func61 ok61 rfl (Nat.le_of_ble_eq_true hl) h
/- spans.Set).Has$1 -/
def c62 : Cfg := ⟨qs, [], 16, [], ps⟩
def ir62 : IFun := ⟨2, [.tmp s3],
  (.seq (.reg (.one ⟨some s2, none, (.box 2 (.t s0))⟩
    (.one ⟨some s3, none, (.mv (.c (.v (.bool false))))⟩
    .done)))
  (.seq (.reg (.one ⟨some s4, none, (.faddr 0 (.t s2))⟩
    (.one ⟨some s5, none, (.load none (.t s4))⟩
    (.one ⟨some s6, none, (.faddr 0 (.t s1))⟩
    (.one ⟨some s7, none, (.load none (.t s6))⟩
    (.one ⟨some s8, none, (.bin false .leq (.t s5) (.t s7))⟩
    (.one ⟨some s9, none, (.mv (.t s8))⟩
    (.one ⟨some s10, some (s9, true), (.faddr 1 (.t s1))⟩
    (.one ⟨some s11, some (s9, true), (.load none (.t s10))⟩
    (.one ⟨some s12, some (s9, true), (.faddr 1 (.t s2))⟩
    (.one ⟨some s13, some (s9, true), (.load none (.t s12))⟩
    (.one ⟨some s14, some (s9, true), (.bin false .leq (.t s11) (.t s13))⟩
    (.one ⟨some s15, none, (.pick (.t s9) (.t s14) (.c (.v (.bool false))))⟩
    (.one ⟨some s3, none, (.mv (.t s15))⟩
    .done))))))))))))))
  .ret))⟩
theorem ok62 : compF Try.prog c62 Try.f62 = some ir62 := by kernel_rfl
theorem k_spans_Set_Has_1 {args : List AVal} {σ : AHeap} {Q : AVal → AHeap → Prop} (hl : Nat.ble args.length 16 = true) (h : argsK (Env.full 9) 0 args fun env => evC Try.prog c62 ir62.body env σ (retQ ir62 Q)) : ACalls Try.prog 62 args σ Q :=
  acalls_of Try.func62 ok62 rfl (Nat.le_of_ble_eq_true hl) h
/- spans.Set).Touches$1 -/
def c63 : Cfg := ⟨qs, [], 16, [], ps⟩
def ir63 : IFun := ⟨2, [.tmp s3],
  (.seq (.reg (.one ⟨some s2, none, (.box 2 (.t s0))⟩
    (.one ⟨some s3, none, (.mv (.c (.v (.bool false))))⟩
    .done)))
  (.seq (.reg (.one ⟨some s4, none, (.faddr 0 (.t s2))⟩
    (.one ⟨some s5, none, (.load none (.t s4))⟩
    (.one ⟨some s6, none, (.faddr 1 (.t s1))⟩
    (.one ⟨some s7, none, (.load none (.t s6))⟩
    (.one ⟨some s8, none, (.bin false .lss (.t s5) (.t s7))⟩
    (.one ⟨some s9, none, (.mv (.t s8))⟩
    (.one ⟨some s10, some (s9, true), (.faddr 0 (.t s1))⟩
    (.one ⟨some s11, some (s9, true), (.load none (.t s10))⟩
    (.one ⟨some s12, some (s9, true), (.faddr 1 (.t s2))⟩
    (.one ⟨some s13, some (s9, true), (.load none (.t s12))⟩
    (.one ⟨some s14, some (s9, true), (.bin false .lss (.t s11) (.t s13))⟩
    (.one ⟨some s15, none, (.pick (.t s9) (.t s14) (.c (.v (.bool false))))⟩
    (.one ⟨some s3, none, (.mv (.t s15))⟩
    .done))))))))))))))
  .ret))⟩
theorem ok63 : compF Try.prog c63 Try.f63 = some ir63 := by kernel_rfl
theorem k_spans_Set_Touches_1 {args : List AVal} {σ : AHeap} {Q : AVal → AHeap → Prop} (hl : Nat.ble args.length 16 = true) (h : argsK (Env.full 9) 0 args fun env => evC Try.prog c63 ir63.body env σ (retQ ir63 Q)) : ACalls Try.prog 63 args σ Q :=
  acalls_of Try.func63 ok63 rfl (Nat.le_of_ble_eq_true hl) h
/- spans.Set).Take$1 -/
def c64 : Cfg := ⟨qs, [], 12, [], ps⟩
def ir64 : IFun := ⟨2, [],
  (.seq (.reg (.one ⟨some s2, none, (.box 2 (.t s0))⟩
    .done))
  (.seq (.reg (.one ⟨some s3, none, (.faddr 0 (.t s2))⟩
    (.one ⟨some s4, none, (.load none (.t s3))⟩
    (.one ⟨some s5, none, (.faddr 1 (.t s2))⟩
    (.one ⟨some s6, none, (.load none (.t s5))⟩
    (.one ⟨some s7, none, (.bin false .lss (.t s4) (.t s6))⟩
    .done))))))
  (.cond (.t s7) (.reg (.one ⟨some s8, none, (.load none (.t s1))⟩
    (.one ⟨some s9, none, (.load (some 2) (.t s2))⟩
    (.one ⟨some s10, none, (.row 2 [(.t s9)])⟩
    (.one ⟨some s11, none, (.app 2 16 (.t s8) (.t s10))⟩
    (.one ⟨none, none, (.store 1 (.t s1) (.t s11))⟩
    .done)))))) .skip)))⟩
theorem ok64 : compF Try.prog c64 Try.f64 = some ir64 := by kernel_rfl
theorem k_spans_Set_Take_1 {args : List AVal} {σ : AHeap} {Q : AVal → AHeap → Prop} (hl : Nat.ble args.length 12 = true) (h : argsK (Env.full 9) 0 args fun env => evC Try.prog c64 ir64.body env σ (retQ ir64 Q)) : ACalls Try.prog 64 args σ Q :=
  acalls_of Try.func64 ok64 rfl (Nat.le_of_ble_eq_true hl) h
/- spans.Span] -/
def c76 : Cfg := ⟨qs, [], 19, [], ps⟩
def ir76 : IFun := ⟨2, [.tmp s4],
  (.seq (.reg (.one ⟨some s4, none, (.mv (.c (.v (.int .i64 0))))⟩
    .done))
  (.seq (.seq (.reg (.one ⟨some s6, none, (.mv (.t s0))⟩
    (.one ⟨some s7, none, (.len false (.t s6))⟩
    (.one ⟨some s8, none, (.mv (.c (.v (.int .i64 0))))⟩
    .done))))
  (.block 0 (.loop (.seq (.reg (.one ⟨some s9, none, (.bin false .lss (.t s8) (.t s7))⟩
    .done))
  (.seq (.cond (.t s9) .skip (.exit 0))
  (.seq (.block 1 (.seq (.reg (.one ⟨some s10, none, (.mv (.t s8))⟩
    (.one ⟨some s5, none, (.mv (.t s10))⟩
    .done)))
  (.seq (.reg (.one ⟨some s11, none, (.mv (.t s1))⟩
    (.one ⟨some s12, none, (.mv (.t s0))⟩
    (.one ⟨some s13, none, (.mv (.t s5))⟩
    (.one ⟨some s14, none, (.iaddr 2 (.t s12) (.t s13))⟩
    (.one ⟨some s15, none, (.load (some 2) (.t s14))⟩
    (.one ⟨some s16, none, (.callv (.t s11) [(.t s15)])⟩
    .done)))))))
  (.cond (.t s16) (.seq (.reg (.one ⟨some s17, none, (.mv (.t s5))⟩
    (.one ⟨some s4, none, (.mv (.t s17))⟩
    .done)))
  .ret) .skip))))
  (.reg (.one ⟨some s18, none, (.bin false .add (.t s8) (.c (.v (.int .i64 1))))⟩
    (.one ⟨some s8, none, (.mv (.t s18))⟩
    .done)))))))))
  (.seq (.reg (.one ⟨some s4, none, (.mv (.c (.v (.int .i64 (-1)))))⟩
    .done))
  .ret)))⟩
theorem ok76 : compF Try.prog c76 Try.f76 = some ir76 := by kernel_rfl
theorem k_spans_Span_76 {args : List AVal} {σ : AHeap} {Q : AVal → AHeap → Prop} (hl : Nat.ble args.length 19 = true) (h : argsK (Env.full 9) 0 args fun env => evC Try.prog c76 ir76.body env σ (retQ ir76 Q)) : ACalls Try.prog 76 args σ Q :=
  acalls_of Try.func76 ok76 rfl (Nat.le_of_ble_eq_true hl) h
end Go.Proofs.Ytghbcleokmcdeaa
/-
  The bodies of one package, compiled to the framework's language (printed by a program of this session).
-/
namespace Go.Proofs.Ytghbcleokmcdeaa
set_option linter.unusedVariables false
set_option linter.unusedSimpArgs false
open Go Go.Am
/- bowlineref03.Set).Change -/
def c28 : Cfg := ⟨qs, [], 23, [], ps⟩
def ir28 : IFun := ⟨3, [.cell s6 (some 1), .tmp s7],
  (.seq (.reg (.one ⟨some s3, none, (.box 1 (.t s0))⟩
    (.one ⟨some s4, none, (.box 2 (.t s1))⟩
    (.one ⟨some s6, none, (.new [(.slice 1 [] .full)])⟩
    (.one ⟨some s7, none, (.mv (.c (.v (.int .i64 0))))⟩
    .done)))))
  (.seq (.seq (.reg (.one ⟨some s9, none, (.load (some 2) (.t s4))⟩
    (.one ⟨some s10, none, (.callq 30 [(.t s9)])⟩
    (.one ⟨some s11, none, (.not (.t s10))⟩
    .done))))
  (.cond (.t s11) (.seq (.reg (.one ⟨some s12, none, (.load (some 1) (.t s3))⟩
    (.one ⟨none, none, (.store 1 (.t s6) (.t s12))⟩
    (.one ⟨some s7, none, (.mv (.c (.v (.int .i64 1))))⟩
    .done))))
  .ret) .skip))
  (.seq (.reg (.one ⟨some s13, none, (.load (some 1) (.t s3))⟩
    (.one ⟨some s14, none, (.load (some 2) (.t s4))⟩
    (.one ⟨some s15, none, (.mv (.t s2))⟩
    (.one ⟨some s16, none, (.callq 65 [(.t s13), (.t s14), (.t s15)])⟩
    (.one ⟨some s8, none, (.new [(.slice 1 [] .full)])⟩
    (.one ⟨none, none, (.store 1 (.t s8) (.t s16))⟩
    .done)))))))
  (.seq (.seq (.reg (.one ⟨some s17, none, (.load (some 1) (.t s8))⟩
    (.one ⟨some s18, none, (.callq 33 [(.t s17)])⟩
    (.one ⟨some s19, none, (.len false (.t s18))⟩
    (.one ⟨some s20, none, (.bin false .gtr (.t s19) (.c (.v (.int .i64 2048))))⟩
    .done)))))
  (.cond (.t s20) (.seq (.reg (.one ⟨some s21, none, (.load (some 1) (.t s3))⟩
    (.one ⟨none, none, (.store 1 (.t s6) (.t s21))⟩
    (.one ⟨some s7, none, (.mv (.c (.v (.int .i64 5))))⟩
    .done))))
  .ret) .skip))
  (.seq (.reg (.one ⟨some s22, none, (.load (some 1) (.t s8))⟩
    (.one ⟨none, none, (.store 1 (.t s6) (.t s22))⟩
    (.one ⟨some s7, none, (.mv (.c (.v (.int .i64 0))))⟩
    .done))))
  .ret)))))⟩
theorem ok28 : compF Try.prog c28 Try.f28 = some ir28 := by kernel_rfl
theorem k_bowlineref03_Set_Change {args : List AVal} {σ : AHeap} {Q : AVal → AHeap → Prop} (hl : Nat.ble args.length 23 = true) (h : argsK (Env.full 9) 0 args fun env => evC Try.prog c28 ir28.body env σ (retQ ir28 Q)) : ACalls Try.prog 28 args σ Q :=
  acalls_of Try.func28 ok28 rfl (Nat.le_of_ble_eq_true hl) h
/- bowlineref03.Set).Count -/
def c29 : Cfg := ⟨qs, [], 30, [], ps⟩
def ir29 : IFun := ⟨2, [.tmp s4],
  (.seq (.reg (.one ⟨some s2, none, (.box 1 (.t s0))⟩
    (.one ⟨some s3, none, (.box 2 (.t s1))⟩
    (.one ⟨some s4, none, (.mv (.c (.v (.int .i64 0))))⟩
    .done))))
  (.seq (.reg (.one ⟨some s5, none, (.mv (.c (.v (.int .i64 0))))⟩
    .done))
  (.seq (.seq (.reg (.one ⟨some s7, none, (.faddr 0 (.t s3))⟩
    (.one ⟨some s8, none, (.load none (.t s7))⟩
    (.one ⟨some s6, none, (.mv (.t s8))⟩
    .done))))
  (.block 0 (.loop (.seq (.seq (.reg (.one ⟨some s9, none, (.mv (.t s6))⟩
    (.one ⟨some s10, none, (.faddr 1 (.t s3))⟩
    (.one ⟨some s11, none, (.load none (.t s10))⟩
    (.one ⟨some s12, none, (.bin false .lss (.t s9) (.t s11))⟩
    (.one ⟨some s13, none, (.mv (.t s12))⟩
    (.one ⟨some s14, some (s13, true), (.mv (.t s6))⟩
    (.one ⟨some s15, some (s13, true), (.faddr 0 (.t s2))⟩
    (.one ⟨some s16, some (s13, true), (.load none (.t s15))⟩
    (.one ⟨some s17, some (s13, true), (.len false (.t s16))⟩
    (.one ⟨some s18, some (s13, true), (.bin false .lss (.t s14) (.t s17))⟩
    (.one ⟨some s19, none, (.pick (.t s13) (.t s18) (.c (.v (.bool false))))⟩
    .done))))))))))))
  (.cond (.t s19) .skip (.exit 0)))
  (.seq (.block 1 (.seq (.reg (.one ⟨some s22, none, (.faddr 0 (.t s2))⟩
    (.one ⟨some s23, none, (.load none (.t s22))⟩
    (.one ⟨some s24, none, (.mv (.t s6))⟩
    (.one ⟨some s25, none, (.iaddr 1 (.t s23) (.t s24))⟩
    (.one ⟨some s26, none, (.load none (.t s25))⟩
    .done))))))
  (.cond (.t s26) (.reg (.one ⟨some s27, none, (.mv (.t s5))⟩
    (.one ⟨some s28, none, (.bin false .add (.t s27) (.c (.v (.int .i64 1))))⟩
    (.one ⟨some s5, none, (.mv (.t s28))⟩
    .done)))) .skip)))
  (.reg (.one ⟨some s20, none, (.mv (.t s6))⟩
    (.one ⟨some s21, none, (.bin false .add (.t s20) (.c (.v (.int .i64 1))))⟩
    (.one ⟨some s6, none, (.mv (.t s21))⟩
    .done)))))))))
  (.seq (.reg (.one ⟨some s29, none, (.mv (.t s5))⟩
    (.one ⟨some s4, none, (.mv (.t s29))⟩
    .done)))
  .ret))))⟩
theorem ok29 : compF Try.prog c29 Try.f29 = some ir29 := by kernel_rfl
theorem k_bowlineref03_Set_Count {args : List AVal} {σ : AHeap} {Q : AVal → AHeap → Prop} (hl : Nat.ble args.length 30 = true) (h : argsK (Env.full 9) 0 args fun env => evC Try.prog c29 ir29.body env σ (retQ ir29 Q)) : ACalls Try.prog 29 args σ Q :=
  acalls_of Try.func29 ok29 rfl (Nat.le_of_ble_eq_true hl) h
/- bowlineref03.Right -/
def c30 : Cfg := ⟨qs, [], 18, [], ps⟩
def ir30 : IFun := ⟨1, [.tmp s2],
  (.seq (.reg (.one ⟨some s1, none, (.box 2 (.t s0))⟩
    (.one ⟨some s2, none, (.mv (.c (.v (.bool false))))⟩
    .done)))
  (.seq (.reg (.one ⟨some s3, none, (.faddr 0 (.t s1))⟩
    (.one ⟨some s4, none, (.load none (.t s3))⟩
    (.one ⟨some s5, none, (.bin false .geq (.t s4) (.c (.v (.int .i64 0))))⟩
    (.one ⟨some s6, none, (.mv (.t s5))⟩
    (.one ⟨some s7, some (s6, true), (.faddr 0 (.t s1))⟩
    (.one ⟨some s8, some (s6, true), (.load none (.t s7))⟩
    (.one ⟨some s9, some (s6, true), (.faddr 1 (.t s1))⟩
    (.one ⟨some s10, some (s6, true), (.load none (.t s9))⟩
    (.one ⟨some s11, some (s6, true), (.bin false .lss (.t s8) (.t s10))⟩
    (.one ⟨some s12, none, (.pick (.t s6) (.t s11) (.c (.v (.bool false))))⟩
    (.one ⟨some s13, none, (.mv (.t s12))⟩
    (.one ⟨some s14, some (s13, true), (.faddr 1 (.t s1))⟩
    (.one ⟨some s15, some (s13, true), (.load none (.t s14))⟩
    (.one ⟨some s16, some (s13, true), (.bin false .leq (.t s15) (.c (.v (.int .i64 65536))))⟩
    (.one ⟨some s17, none, (.pick (.t s13) (.t s16) (.c (.v (.bool false))))⟩
    (.one ⟨some s2, none, (.mv (.t s17))⟩
    .done)))))))))))))))))
  .ret))⟩
theorem ok30 : compF Try.prog c30 Try.f30 = some ir30 := by kernel_rfl
theorem k_bowlineref03_Right {args : List AVal} {σ : AHeap} {Q : AVal → AHeap → Prop} (hl : Nat.ble args.length 18 = true) (h : argsK (Env.full 9) 0 args fun env => evC Try.prog c30 ir30.body env σ (retQ ir30 Q)) : ACalls Try.prog 30 args σ Q :=
  acalls_of Try.func30 ok30 rfl (Nat.le_of_ble_eq_true hl) h
/- bowlineref03.Same -/
def c31 : Cfg := ⟨qs, [], 26, [], ps⟩
def ir31 : IFun := ⟨2, [.tmp s4],
  (.seq (.reg (.one ⟨some s4, none, (.mv (.c (.v (.bool false))))⟩
    .done))
  (.seq (.seq (.reg (.one ⟨some s6, none, (.mv (.t s0))⟩
    (.one ⟨some s7, none, (.len false (.t s6))⟩
    (.one ⟨some s8, none, (.mv (.t s1))⟩
    (.one ⟨some s9, none, (.len false (.t s8))⟩
    (.one ⟨some s10, none, (.bin false .neq (.t s7) (.t s9))⟩
    .done))))))
  (.cond (.t s10) (.seq (.reg (.one ⟨some s4, none, (.mv (.c (.v (.bool false))))⟩
    .done))
  .ret) .skip))
  (.seq (.seq (.reg (.one ⟨some s5, none, (.mv (.c (.v (.int .i64 0))))⟩
    .done))
  (.block 0 (.loop (.seq (.seq (.reg (.one ⟨some s11, none, (.mv (.t s5))⟩
    (.one ⟨some s12, none, (.mv (.t s0))⟩
    (.one ⟨some s13, none, (.len false (.t s12))⟩
    (.one ⟨some s14, none, (.bin false .lss (.t s11) (.t s13))⟩
    .done)))))
  (.cond (.t s14) .skip (.exit 0)))
  (.seq (.block 1 (.seq (.reg (.one ⟨some s17, none, (.mv (.t s0))⟩
    (.one ⟨some s18, none, (.mv (.t s5))⟩
    (.one ⟨some s19, none, (.iaddr 2 (.t s17) (.t s18))⟩
    (.one ⟨some s20, none, (.load (some 2) (.t s19))⟩
    (.one ⟨some s21, none, (.mv (.t s1))⟩
    (.one ⟨some s22, none, (.mv (.t s5))⟩
    (.one ⟨some s23, none, (.iaddr 2 (.t s21) (.t s22))⟩
    (.one ⟨some s24, none, (.load (some 2) (.t s23))⟩
    (.one ⟨some s25, none, (.eqAgg true [false, false] (.t s20) (.t s24))⟩
    .done))))))))))
  (.cond (.t s25) (.seq (.reg (.one ⟨some s4, none, (.mv (.c (.v (.bool false))))⟩
    .done))
  .ret) .skip)))
  (.reg (.one ⟨some s15, none, (.mv (.t s5))⟩
    (.one ⟨some s16, none, (.bin false .add (.t s15) (.c (.v (.int .i64 1))))⟩
    (.one ⟨some s5, none, (.mv (.t s16))⟩
    .done)))))))))
  (.seq (.reg (.one ⟨some s4, none, (.mv (.c (.v (.bool true))))⟩
    .done))
  .ret))))⟩
theorem ok31 : compF Try.prog c31 Try.f31 = some ir31 := by kernel_rfl
theorem k_bowlineref03_Same {args : List AVal} {σ : AHeap} {Q : AVal → AHeap → Prop} (hl : Nat.ble args.length 26 = true) (h : argsK (Env.full 9) 0 args fun env => evC Try.prog c31 ir31.body env σ (retQ ir31 Q)) : ACalls Try.prog 31 args σ Q :=
  acalls_of Try.func31 ok31 rfl (Nat.le_of_ble_eq_true hl) h
/- bowlineref03.Set).Spans -/
def c33 : Cfg := ⟨qs, [], 8, [], ps⟩
def ir33 : IFun := ⟨1, [.tmp s2],
  (.seq (.reg (.one ⟨some s1, none, (.box 1 (.t s0))⟩
    (.one ⟨some s2, none, (.mv (.c (.slice 2 [] .full)))⟩
    .done)))
  (.seq (.reg (.one ⟨some s3, none, (.load (some 1) (.t s1))⟩
    (.one ⟨some s4, none, (.faddr 0 (.t s1))⟩
    (.one ⟨some s5, none, (.load none (.t s4))⟩
    (.one ⟨some s6, none, (.len false (.t s5))⟩
    (.one ⟨some s7, none, (.callq 66 [(.t s3), (.c (.v (.bool true))), (.t s6)])⟩
    (.one ⟨some s2, none, (.mv (.t s7))⟩
    .done)))))))
  .ret))⟩
theorem ok33 : compF Try.prog c33 Try.f33 = some ir33 := by kernel_rfl
theorem k_bowlineref03_Set_Spans {args : List AVal} {σ : AHeap} {Q : AVal → AHeap → Prop} (hl : Nat.ble args.length 8 = true) (h : argsK (Env.full 9) 0 args fun env => evC Try.prog c33 ir33.body env σ (retQ ir33 Q)) : ACalls Try.prog 33 args σ Q :=
  acalls_of Try.func33 ok33 rfl (Nat.le_of_ble_eq_true hl) h
/- bowlineref03.Set).Gaps -/
def c35 : Cfg := ⟨qs, [], 14, [], ps⟩
def ir35 : IFun := ⟨2, [.tmp s4],
  (.seq (.reg (.one ⟨some s2, none, (.box 1 (.t s0))⟩
    (.one ⟨some s4, none, (.mv (.c (.slice 2 [] .full)))⟩
    .done)))
  (.seq (.seq (.reg (.one ⟨some s5, none, (.mv (.t s1))⟩
    (.one ⟨some s6, none, (.bin false .lss (.t s5) (.c (.v (.int .i64 1))))⟩
    (.one ⟨some s7, none, (.mv (.t s6))⟩
    (.one ⟨some s8, some (s7, false), (.mv (.t s1))⟩
    (.one ⟨some s9, some (s7, false), (.bin false .gtr (.t s8) (.c (.v (.int .i64 65536))))⟩
    (.one ⟨some s10, none, (.pick (.t s7) (.c (.v (.bool true))) (.t s9))⟩
    .done)))))))
  (.cond (.t s10) (.seq (.reg (.one ⟨some s4, none, (.mv (.c (.slice 2 [] .full)))⟩
    .done))
  .ret) .skip))
  (.seq (.reg (.one ⟨some s11, none, (.load (some 1) (.t s2))⟩
    (.one ⟨some s12, none, (.mv (.t s1))⟩
    (.one ⟨some s13, none, (.callq 66 [(.t s11), (.c (.v (.bool false))), (.t s12)])⟩
    (.one ⟨some s4, none, (.mv (.t s13))⟩
    .done)))))
  .ret)))⟩
theorem ok35 : compF Try.prog c35 Try.f35 = some ir35 := by kernel_rfl
theorem k_bowlineref03_Set_Gaps {args : List AVal} {σ : AHeap} {Q : AVal → AHeap → Prop} (hl : Nat.ble args.length 14 = true) (h : argsK (Env.full 9) 0 args fun env => evC Try.prog c35 ir35.body env σ (retQ ir35 Q)) : ACalls Try.prog 35 args σ Q :=
  acalls_of Try.func35 ok35 rfl (Nat.le_of_ble_eq_true hl) h
/- bowlineref03.Set).with -/
def c65 : Cfg := ⟨qs, [], 35, [], ps⟩
def ir65 : IFun := ⟨3, [.cell s6 (some 1)],
  (.seq (.reg (.one ⟨some s3, none, (.box 1 (.t s0))⟩
    (.one ⟨some s4, none, (.box 2 (.t s1))⟩
    (.one ⟨some s6, none, (.new [(.slice 1 [] .full)])⟩
    .done))))
  (.seq (.reg (.one ⟨some s7, none, (.mv (.c (.slice 1 [] .full)))⟩
    .done))
  (.seq (.reg (.one ⟨some s9, none, (.mv (.t s7))⟩
    (.one ⟨some s10, none, (.faddr 0 (.t s3))⟩
    (.one ⟨some s11, none, (.load none (.t s10))⟩
    (.one ⟨some s12, none, (.app 1 1 (.t s9) (.t s11))⟩
    (.one ⟨some s7, none, (.mv (.t s12))⟩
    .done))))))
  (.seq (.block 0 (.loop (.seq (.seq (.reg (.one ⟨some s13, none, (.mv (.t s7))⟩
    (.one ⟨some s14, none, (.len false (.t s13))⟩
    (.one ⟨some s15, none, (.faddr 1 (.t s4))⟩
    (.one ⟨some s16, none, (.load none (.t s15))⟩
    (.one ⟨some s17, none, (.bin false .lss (.t s14) (.t s16))⟩
    .done))))))
  (.cond (.t s17) .skip (.exit 0)))
  (.block 1 (.reg (.one ⟨some s18, none, (.mv (.t s7))⟩
    (.one ⟨some s19, none, (.row 1 [(.c (.v (.bool false)))])⟩
    (.one ⟨some s20, none, (.app 1 1 (.t s18) (.t s19))⟩
    (.one ⟨some s7, none, (.mv (.t s20))⟩
    .done)))))))))
  (.seq (.seq (.reg (.one ⟨some s21, none, (.faddr 0 (.t s4))⟩
    (.one ⟨some s22, none, (.load none (.t s21))⟩
    (.one ⟨some s8, none, (.mv (.t s22))⟩
    .done))))
  (.block 2 (.loop (.seq (.seq (.reg (.one ⟨some s23, none, (.mv (.t s8))⟩
    (.one ⟨some s24, none, (.faddr 1 (.t s4))⟩
    (.one ⟨some s25, none, (.load none (.t s24))⟩
    (.one ⟨some s26, none, (.bin false .lss (.t s23) (.t s25))⟩
    .done)))))
  (.cond (.t s26) .skip (.exit 2)))
  (.seq (.block 3 (.reg (.one ⟨some s29, none, (.mv (.t s7))⟩
    (.one ⟨some s30, none, (.mv (.t s8))⟩
    (.one ⟨some s31, none, (.mv (.t s2))⟩
    (.one ⟨some s32, none, (.iaddr 1 (.t s29) (.t s30))⟩
    (.one ⟨none, none, (.store 1 (.t s32) (.t s31))⟩
    .done)))))))
  (.reg (.one ⟨some s27, none, (.mv (.t s8))⟩
    (.one ⟨some s28, none, (.bin false .add (.t s27) (.c (.v (.int .i64 1))))⟩
    (.one ⟨some s8, none, (.mv (.t s28))⟩
    .done)))))))))
  (.seq (.reg (.one ⟨some s33, none, (.mv (.t s7))⟩
    (.one ⟨some s34, none, (.build [(.slice 1 [] .full)] [(0, 1, (.t s33))])⟩
    (.one ⟨none, none, (.store 1 (.t s6) (.t s34))⟩
    .done))))
  .ret))))))⟩
theorem ok65 : compF Try.prog c65 Try.f65 = some ir65 := by kernel_rfl
theorem k_bowlineref03_Set_with {args : List AVal} {σ : AHeap} {Q : AVal → AHeap → Prop} (hl : Nat.ble args.length 35 = true) (h : argsK (Env.full 9) 0 args fun env => evC Try.prog c65 ir65.body env σ (retQ ir65 Q)) : ACalls Try.prog 65 args σ Q :=
  acalls_of Try.func65 ok65 rfl (Nat.le_of_ble_eq_true hl) h
/- bowlineref03.Set).with -/
def c65m : Cfg := ⟨qs, [22, 23, 32, 33, 36, 41, 50, 55, 64, 85, 87, 93, 123], 35, [], ps⟩
def ir65m : IFun := ⟨3, [.cell s6 (some 1)],
  (.seq (.reg (.one ⟨some s3, none, (.box 1 (.t s0))⟩
    (.one ⟨some s4, none, (.box 2 (.t s1))⟩
    (.one ⟨some s6, none, (.new [(.slice 1 [] .full)])⟩
    .done))))
  (.seq (.reg (.one ⟨some s7, none, (.mv (.c (.slice 1 [] .full)))⟩
    .done))
  (.seq (.reg (.one ⟨some s9, none, (.mv (.t s7))⟩
    (.one ⟨some s10, none, (.faddr 0 (.t s3))⟩
    (.one ⟨some s11, none, (.load none (.t s10))⟩
    (.one ⟨some s12, none, (.appm 1 1 (.t s9) (.t s11))⟩
    (.one ⟨some s7, none, (.mv (.t s12))⟩
    .done))))))
  (.seq (.block 0 (.loop (.seq (.seq (.reg (.one ⟨some s13, none, (.mv (.t s7))⟩
    (.one ⟨some s14, none, (.len false (.t s13))⟩
    (.one ⟨some s15, none, (.faddr 1 (.t s4))⟩
    (.one ⟨some s16, none, (.load none (.t s15))⟩
    (.one ⟨some s17, none, (.bin false .lss (.t s14) (.t s16))⟩
    .done))))))
  (.cond (.t s17) .skip (.exit 0)))
  (.block 1 (.reg (.one ⟨some s18, none, (.mv (.t s7))⟩
    (.one ⟨some s19, none, (.row 1 [(.c (.v (.bool false)))])⟩
    (.one ⟨some s20, none, (.appm 1 1 (.t s18) (.t s19))⟩
    (.one ⟨some s7, none, (.mv (.t s20))⟩
    .done)))))))))
  (.seq (.seq (.reg (.one ⟨some s21, none, (.faddr 0 (.t s4))⟩
    (.one ⟨some s22, none, (.load none (.t s21))⟩
    (.one ⟨some s8, none, (.mv (.t s22))⟩
    .done))))
  (.block 2 (.loop (.seq (.seq (.reg (.one ⟨some s23, none, (.mv (.t s8))⟩
    (.one ⟨some s24, none, (.faddr 1 (.t s4))⟩
    (.one ⟨some s25, none, (.load none (.t s24))⟩
    (.one ⟨some s26, none, (.bin false .lss (.t s23) (.t s25))⟩
    .done)))))
  (.cond (.t s26) .skip (.exit 2)))
  (.seq (.block 3 (.reg (.one ⟨some s29, none, (.mv (.t s7))⟩
    (.one ⟨some s30, none, (.mv (.t s8))⟩
    (.one ⟨some s31, none, (.mv (.t s2))⟩
    (.one ⟨some s32, none, (.iaddr 1 (.t s29) (.t s30))⟩
    (.one ⟨none, none, (.store 1 (.t s32) (.t s31))⟩
    .done)))))))
  (.reg (.one ⟨some s27, none, (.mv (.t s8))⟩
    (.one ⟨some s28, none, (.bin false .add (.t s27) (.c (.v (.int .i64 1))))⟩
    (.one ⟨some s8, none, (.mv (.t s28))⟩
    .done)))))))))
  (.seq (.reg (.one ⟨some s33, none, (.mv (.t s7))⟩
    (.one ⟨some s34, none, (.build [(.slice 1 [] .full)] [(0, 1, (.t s33))])⟩
    (.one ⟨none, none, (.store 1 (.t s6) (.t s34))⟩
    .done))))
  .ret))))))⟩
theorem ok65m : compF Try.prog c65m Try.f65 = some ir65m := by kernel_rfl
theorem km_bowlineref03_Set_with {args : List AVal} {σ : AHeap} {Q : AVal → AHeap → Prop} (hl : Nat.ble args.length 35 = true) (h : argsK (Env.full 9) 0 args fun env => evC Try.prog c65m ir65m.body env σ (retQ ir65m Q)) : ACalls Try.prog 65 args σ Q :=
  acalls_of Try.func65 ok65m rfl (Nat.le_of_ble_eq_true hl) h
/- bowlineref03.Set).runs -/
def c66 : Cfg := ⟨qs, [], 60, [], ps⟩
def ir66 : IFun := ⟨3, [.tmp s6],
  (.seq (.reg (.one ⟨some s3, none, (.box 1 (.t s0))⟩
    (.one ⟨some s6, none, (.mv (.c (.slice 2 [] .full)))⟩
    .done)))
  (.seq (.reg (.one ⟨some s7, none, (.mv (.c (.slice 2 [] .full)))⟩
    .done))
  (.seq (.seq (.reg (.one ⟨some s8, none, (.mv (.c (.v (.int .i64 0))))⟩
    .done))
  (.block 0 (.loop (.seq (.seq (.reg (.one ⟨some s10, none, (.mv (.t s8))⟩
    (.one ⟨some s11, none, (.mv (.t s2))⟩
    (.one ⟨some s12, none, (.bin false .lss (.t s10) (.t s11))⟩
    .done))))
  (.cond (.t s12) .skip (.exit 0)))
  (.seq (.block 1 (.seq (.reg (.one ⟨some s15, none, (.mv (.t s8))⟩
    (.one ⟨some s16, none, (.faddr 0 (.t s3))⟩
    (.one ⟨some s17, none, (.load none (.t s16))⟩
    (.one ⟨some s18, none, (.len false (.t s17))⟩
    (.one ⟨some s19, none, (.bin false .lss (.t s15) (.t s18))⟩
    (.one ⟨some s20, none, (.mv (.t s19))⟩
    (.one ⟨some s21, some (s20, true), (.faddr 0 (.t s3))⟩
    (.one ⟨some s22, some (s20, true), (.load none (.t s21))⟩
    (.one ⟨some s23, some (s20, true), (.mv (.t s8))⟩
    (.one ⟨some s24, some (s20, true), (.iaddr 1 (.t s22) (.t s23))⟩
    (.one ⟨some s25, some (s20, true), (.load none (.t s24))⟩
    (.one ⟨some s26, none, (.pick (.t s20) (.t s25) (.c (.v (.bool false))))⟩
    (.one ⟨some s9, none, (.mv (.t s26))⟩
    .done))))))))))))))
  (.seq (.seq (.reg (.one ⟨some s27, none, (.mv (.t s9))⟩
    (.one ⟨some s28, none, (.mv (.t s1))⟩
    (.one ⟨some s29, none, (.bin true .neq (.t s27) (.t s28))⟩
    .done))))
  (.cond (.t s29) (.exit 1) .skip))
  (.seq (.reg (.one ⟨some s30, none, (.mv (.t s7))⟩
    (.one ⟨some s31, none, (.len false (.t s30))⟩
    (.one ⟨some s32, none, (.bin false .gtr (.t s31) (.c (.v (.int .i64 0))))⟩
    (.one ⟨some s33, none, (.mv (.t s32))⟩
    (.one ⟨some s34, some (s33, true), (.mv (.t s7))⟩
    (.one ⟨some s35, some (s33, true), (.mv (.t s7))⟩
    (.one ⟨some s36, some (s33, true), (.len false (.t s35))⟩
    (.one ⟨some s37, some (s33, true), (.bin false .sub (.t s36) (.c (.v (.int .i64 1))))⟩
    (.one ⟨some s38, some (s33, true), (.iaddr 2 (.t s34) (.t s37))⟩
    (.one ⟨some s39, some (s33, true), (.faddr 1 (.t s38))⟩
    (.one ⟨some s40, some (s33, true), (.load none (.t s39))⟩
    (.one ⟨some s41, some (s33, true), (.mv (.t s8))⟩
    (.one ⟨some s42, some (s33, true), (.bin false .eql (.t s40) (.t s41))⟩
    (.one ⟨some s43, none, (.pick (.t s33) (.t s42) (.c (.v (.bool false))))⟩
    .done)))))))))))))))
  (.cond (.t s43) (.reg (.one ⟨some s44, none, (.mv (.t s7))⟩
    (.one ⟨some s45, none, (.mv (.t s7))⟩
    (.one ⟨some s46, none, (.len false (.t s45))⟩
    (.one ⟨some s47, none, (.bin false .sub (.t s46) (.c (.v (.int .i64 1))))⟩
    (.one ⟨some s48, none, (.mv (.t s8))⟩
    (.one ⟨some s49, none, (.bin false .add (.t s48) (.c (.v (.int .i64 1))))⟩
    (.one ⟨some s50, none, (.iaddr 2 (.t s44) (.t s47))⟩
    (.one ⟨some s51, none, (.faddr 1 (.t s50))⟩
    (.one ⟨none, none, (.store 1 (.t s51) (.t s49))⟩
    .done)))))))))) (.reg (.one ⟨some s52, none, (.mv (.t s7))⟩
    (.one ⟨some s53, none, (.mv (.t s8))⟩
    (.one ⟨some s54, none, (.mv (.t s8))⟩
    (.one ⟨some s55, none, (.bin false .add (.t s54) (.c (.v (.int .i64 1))))⟩
    (.one ⟨some s56, none, (.build [(.v (.int .i64 0)), (.v (.int .i64 0))] [(0, 1, (.t s53)), (1, 1, (.t s55))])⟩
    (.one ⟨some s57, none, (.row 2 [(.t s56)])⟩
    (.one ⟨some s58, none, (.app 2 16 (.t s52) (.t s57))⟩
    (.one ⟨some s7, none, (.mv (.t s58))⟩
    .done))))))))))))))
  (.reg (.one ⟨some s13, none, (.mv (.t s8))⟩
    (.one ⟨some s14, none, (.bin false .add (.t s13) (.c (.v (.int .i64 1))))⟩
    (.one ⟨some s8, none, (.mv (.t s14))⟩
    .done)))))))))
  (.seq (.reg (.one ⟨some s59, none, (.mv (.t s7))⟩
    (.one ⟨some s6, none, (.mv (.t s59))⟩
    .done)))
  .ret))))⟩
theorem ok66 : compF Try.prog c66 Try.f66 = some ir66 := by kernel_rfl
theorem k_bowlineref03_Set_runs {args : List AVal} {σ : AHeap} {Q : AVal → AHeap → Prop} (hl : Nat.ble args.length 60 = true) (h : argsK (Env.full 9) 0 args fun env => evC Try.prog c66 ir66.body env σ (retQ ir66 Q)) : ACalls Try.prog 66 args σ Q :=
  acalls_of Try.func66 ok66 rfl (Nat.le_of_ble_eq_true hl) h
/- bowlineref03.Set).runs -/
def c66m : Cfg := ⟨qs, [22, 23, 32, 33, 36, 41, 50, 55, 64, 85, 87, 93, 123], 60, [], ps⟩
def ir66m : IFun := ⟨3, [.tmp s6],
  (.seq (.reg (.one ⟨some s3, none, (.box 1 (.t s0))⟩
    (.one ⟨some s6, none, (.mv (.c (.slice 2 [] .full)))⟩
    .done)))
  (.seq (.reg (.one ⟨some s7, none, (.mv (.c (.slice 2 [] .full)))⟩
    .done))
  (.seq (.seq (.reg (.one ⟨some s8, none, (.mv (.c (.v (.int .i64 0))))⟩
    .done))
  (.block 0 (.loop (.seq (.seq (.reg (.one ⟨some s10, none, (.mv (.t s8))⟩
    (.one ⟨some s11, none, (.mv (.t s2))⟩
    (.one ⟨some s12, none, (.bin false .lss (.t s10) (.t s11))⟩
    .done))))
  (.cond (.t s12) .skip (.exit 0)))
  (.seq (.block 1 (.seq (.reg (.one ⟨some s15, none, (.mv (.t s8))⟩
    (.one ⟨some s16, none, (.faddr 0 (.t s3))⟩
    (.one ⟨some s17, none, (.load none (.t s16))⟩
    (.one ⟨some s18, none, (.len false (.t s17))⟩
    (.one ⟨some s19, none, (.bin false .lss (.t s15) (.t s18))⟩
    (.one ⟨some s20, none, (.mv (.t s19))⟩
    (.one ⟨some s21, some (s20, true), (.faddr 0 (.t s3))⟩
    (.one ⟨some s22, some (s20, true), (.load none (.t s21))⟩
    (.one ⟨some s23, some (s20, true), (.mv (.t s8))⟩
    (.one ⟨some s24, some (s20, true), (.iaddr 1 (.t s22) (.t s23))⟩
    (.one ⟨some s25, some (s20, true), (.load none (.t s24))⟩
    (.one ⟨some s26, none, (.pick (.t s20) (.t s25) (.c (.v (.bool false))))⟩
    (.one ⟨some s9, none, (.mv (.t s26))⟩
    .done))))))))))))))
  (.seq (.seq (.reg (.one ⟨some s27, none, (.mv (.t s9))⟩
    (.one ⟨some s28, none, (.mv (.t s1))⟩
    (.one ⟨some s29, none, (.bin true .neq (.t s27) (.t s28))⟩
    .done))))
  (.cond (.t s29) (.exit 1) .skip))
  (.seq (.reg (.one ⟨some s30, none, (.mv (.t s7))⟩
    (.one ⟨some s31, none, (.len false (.t s30))⟩
    (.one ⟨some s32, none, (.bin false .gtr (.t s31) (.c (.v (.int .i64 0))))⟩
    (.one ⟨some s33, none, (.mv (.t s32))⟩
    (.one ⟨some s34, some (s33, true), (.mv (.t s7))⟩
    (.one ⟨some s35, some (s33, true), (.mv (.t s7))⟩
    (.one ⟨some s36, some (s33, true), (.len false (.t s35))⟩
    (.one ⟨some s37, some (s33, true), (.bin false .sub (.t s36) (.c (.v (.int .i64 1))))⟩
    (.one ⟨some s38, some (s33, true), (.iaddr 2 (.t s34) (.t s37))⟩
    (.one ⟨some s39, some (s33, true), (.faddr 1 (.t s38))⟩
    (.one ⟨some s40, some (s33, true), (.load none (.t s39))⟩
    (.one ⟨some s41, some (s33, true), (.mv (.t s8))⟩
    (.one ⟨some s42, some (s33, true), (.bin false .eql (.t s40) (.t s41))⟩
    (.one ⟨some s43, none, (.pick (.t s33) (.t s42) (.c (.v (.bool false))))⟩
    .done)))))))))))))))
  (.cond (.t s43) (.reg (.one ⟨some s44, none, (.mv (.t s7))⟩
    (.one ⟨some s45, none, (.mv (.t s7))⟩
    (.one ⟨some s46, none, (.len false (.t s45))⟩
    (.one ⟨some s47, none, (.bin false .sub (.t s46) (.c (.v (.int .i64 1))))⟩
    (.one ⟨some s48, none, (.mv (.t s8))⟩
    (.one ⟨some s49, none, (.bin false .add (.t s48) (.c (.v (.int .i64 1))))⟩
    (.one ⟨some s50, none, (.iaddr 2 (.t s44) (.t s47))⟩
    (.one ⟨some s51, none, (.faddr 1 (.t s50))⟩
    (.one ⟨none, none, (.store 1 (.t s51) (.t s49))⟩
    .done)))))))))) (.reg (.one ⟨some s52, none, (.mv (.t s7))⟩
    (.one ⟨some s53, none, (.mv (.t s8))⟩
    (.one ⟨some s54, none, (.mv (.t s8))⟩
    (.one ⟨some s55, none, (.bin false .add (.t s54) (.c (.v (.int .i64 1))))⟩
    (.one ⟨some s56, none, (.build [(.v (.int .i64 0)), (.v (.int .i64 0))] [(0, 1, (.t s53)), (1, 1, (.t s55))])⟩
    (.one ⟨some s57, none, (.row 2 [(.t s56)])⟩
    (.one ⟨some s58, none, (.appm 2 16 (.t s52) (.t s57))⟩
    (.one ⟨some s7, none, (.mv (.t s58))⟩
    .done))))))))))))))
  (.reg (.one ⟨some s13, none, (.mv (.t s8))⟩
    (.one ⟨some s14, none, (.bin false .add (.t s13) (.c (.v (.int .i64 1))))⟩
    (.one ⟨some s8, none, (.mv (.t s14))⟩
    .done)))))))))
  (.seq (.reg (.one ⟨some s59, none, (.mv (.t s7))⟩
    (.one ⟨some s6, none, (.mv (.t s59))⟩
    .done)))
  .ret))))⟩
theorem ok66m : compF Try.prog c66m Try.f66 = some ir66m := by kernel_rfl
theorem km_bowlineref03_Set_runs {args : List AVal} {σ : AHeap} {Q : AVal → AHeap → Prop} (hl : Nat.ble args.length 60 = true) (h : argsK (Env.full 9) 0 args fun env => evC Try.prog c66m ir66m.body env σ (retQ ir66m Q)) : ACalls Try.prog 66 args σ Q :=
  acalls_of Try.func66 ok66m rfl (Nat.le_of_ble_eq_true hl) h
end Go.Proofs.Ytghbcleokmcdeaa
/-
  The bodies of one package, compiled to the framework's language (printed by a program of this session).
-/
namespace Go.Proofs.Ytghbcleokmcdeaa
set_option linter.unusedVariables false
set_option linter.unusedSimpArgs false
open Go Go.Am
/- bowlinelaw03.SpansOrdered -/
def c6 : Cfg := ⟨qs, [], 112, [], ps⟩
def ir6 : IFun := ⟨1, [.tmp s2],
  (.seq (.reg (.one ⟨some s2, none, (.mv (.c (.v (.bool false))))⟩
    .done))
  (.seq (.reg (.one ⟨some s12, none, (.callq 19 [(.c (.slice 2 [] .full))])⟩
    (.one ⟨some s11, none, (.mv (.t s12))⟩
    (.one ⟨some s13, none, (.ext (.t s11) 0)⟩
    (.one ⟨some s14, none, (.ext (.t s11) 1)⟩
    (.one ⟨some s3, none, (.mv (.t s13))⟩
    (.one ⟨some s4, none, (.mv (.t s14))⟩
    .done)))))))
  (.seq (.reg (.one ⟨some s16, none, (.callq 19 [(.c (.slice 2 [] .full))])⟩
    (.one ⟨some s15, none, (.mv (.t s16))⟩
    (.one ⟨some s17, none, (.ext (.t s15) 0)⟩
    (.one ⟨some s18, none, (.ext (.t s15) 1)⟩
    (.one ⟨some s5, none, (.mv (.t s17))⟩
    (.one ⟨some s6, none, (.mv (.t s18))⟩
    .done)))))))
  (.seq (.seq (.reg (.one ⟨some s19, none, (.mv (.t s4))⟩
    (.one ⟨some s20, none, (.bin false .neq (.t s19) (.c (.v (.int .i64 0))))⟩
    (.one ⟨some s21, none, (.mv (.t s20))⟩
    (.one ⟨some s22, some (s21, false), (.mv (.t s6))⟩
    (.one ⟨some s23, some (s21, false), (.bin false .neq (.t s22) (.c (.v (.int .i64 0))))⟩
    (.one ⟨some s24, none, (.pick (.t s21) (.c (.v (.bool true))) (.t s23))⟩
    (.one ⟨some s25, none, (.mv (.t s24))⟩
    (.one ⟨some s26, some (s25, false), (.mv (.t s3))⟩
    (.one ⟨some s27, some (s25, false), (.eqNil 1 false (.t s26))⟩
    (.one ⟨some s28, none, (.pick (.t s25) (.c (.v (.bool true))) (.t s27))⟩
    (.one ⟨some s29, none, (.mv (.t s28))⟩
    (.one ⟨some s30, some (s29, false), (.mv (.t s5))⟩
    (.one ⟨some s31, some (s29, false), (.eqNil 1 false (.t s30))⟩
    (.one ⟨some s32, none, (.pick (.t s29) (.c (.v (.bool true))) (.t s31))⟩
    (.one ⟨some s33, none, (.mv (.t s32))⟩
    (.one ⟨some s34, some (s33, false), (.mv (.t s0))⟩
    (.one ⟨some s35, some (s33, false), (.len false (.t s34))⟩
    (.one ⟨some s36, some (s33, false), (.bin false .gtr (.t s35) (.c (.v (.int .i64 60))))⟩
    (.one ⟨some s37, none, (.pick (.t s33) (.c (.v (.bool true))) (.t s36))⟩
    .done))))))))))))))))))))
  (.cond (.t s37) (.seq (.reg (.one ⟨some s38, none, (.mv (.t s4))⟩
    (.one ⟨some s39, none, (.bin false .eql (.t s38) (.c (.v (.int .i64 0))))⟩
    (.one ⟨some s40, none, (.mv (.t s39))⟩
    (.one ⟨some s41, some (s40, true), (.mv (.t s3))⟩
    (.one ⟨some s42, some (s40, true), (.eqNil 1 true (.t s41))⟩
    (.one ⟨some s43, none, (.pick (.t s40) (.t s42) (.c (.v (.bool false))))⟩
    (.one ⟨some s44, none, (.mv (.t s43))⟩
    (.one ⟨some s45, some (s44, true), (.callq 20 [])⟩
    (.one ⟨some s46, none, (.pick (.t s44) (.t s45) (.c (.v (.bool false))))⟩
    (.one ⟨some s2, none, (.mv (.t s46))⟩
    .done)))))))))))
  .ret) .skip))
  (.seq (.seq (.reg (.one ⟨some s7, none, (.mv (.c (.v (.int .i64 0))))⟩
    .done))
  (.block 0 (.loop (.seq (.seq (.reg (.one ⟨some s47, none, (.mv (.t s7))⟩
    (.one ⟨some s48, none, (.mv (.t s0))⟩
    (.one ⟨some s49, none, (.len false (.t s48))⟩
    (.one ⟨some s50, none, (.bin false .lss (.t s47) (.t s49))⟩
    .done)))))
  (.cond (.t s50) .skip (.exit 0)))
  (.seq (.block 1 (.seq (.reg (.one ⟨some s53, none, (.mv (.t s3))⟩
    (.one ⟨some s54, none, (.mv (.t s0))⟩
    (.one ⟨some s55, none, (.mv (.t s7))⟩
    (.one ⟨some s56, none, (.iaddr 3 (.t s54) (.t s55))⟩
    (.one ⟨some s57, none, (.faddr 1 (.t s56))⟩
    (.one ⟨some s58, none, (.load (some 2) (.t s57))⟩
    (.one ⟨some s59, none, (.call 21 [(.t s53), (.t s58)])⟩
    .done))))))))
  (.reg (.one ⟨some s60, none, (.mv (.t s5))⟩
    (.one ⟨some s61, none, (.mv (.t s0))⟩
    (.one ⟨some s62, none, (.mv (.t s0))⟩
    (.one ⟨some s63, none, (.len false (.t s62))⟩
    (.one ⟨some s64, none, (.bin false .sub (.t s63) (.c (.v (.int .i64 1))))⟩
    (.one ⟨some s65, none, (.mv (.t s7))⟩
    (.one ⟨some s66, none, (.bin false .sub (.t s64) (.t s65))⟩
    (.one ⟨some s67, none, (.iaddr 3 (.t s61) (.t s66))⟩
    (.one ⟨some s68, none, (.faddr 1 (.t s67))⟩
    (.one ⟨some s69, none, (.load (some 2) (.t s68))⟩
    (.one ⟨some s70, none, (.call 21 [(.t s60), (.t s69)])⟩
    .done))))))))))))))
  (.reg (.one ⟨some s51, none, (.mv (.t s7))⟩
    (.one ⟨some s52, none, (.bin false .add (.t s51) (.c (.v (.int .i64 1))))⟩
    (.one ⟨some s7, none, (.mv (.t s52))⟩
    .done)))))))))
  (.seq (.reg (.one ⟨some s71, none, (.mv (.t s3))⟩
    (.one ⟨some s72, none, (.callq 22 [(.t s71)])⟩
    (.one ⟨some s73, none, (.mv (.t s5))⟩
    (.one ⟨some s74, none, (.callq 22 [(.t s73)])⟩
    (.one ⟨some s8, none, (.mv (.t s72))⟩
    (.one ⟨some s9, none, (.mv (.t s74))⟩
    .done)))))))
  (.seq (.seq (.reg (.one ⟨some s75, none, (.mv (.t s8))⟩
    (.one ⟨some s76, none, (.len false (.t s75))⟩
    (.one ⟨some s77, none, (.mv (.t s9))⟩
    (.one ⟨some s78, none, (.len false (.t s77))⟩
    (.one ⟨some s79, none, (.bin false .neq (.t s76) (.t s78))⟩
    (.one ⟨some s80, none, (.mv (.t s79))⟩
    (.one ⟨some s81, some (s80, false), (.mv (.t s3))⟩
    (.one ⟨some s82, some (s80, false), (.callq 23 [(.t s81)])⟩
    (.one ⟨some s83, some (s80, false), (.mv (.t s5))⟩
    (.one ⟨some s84, some (s80, false), (.callq 23 [(.t s83)])⟩
    (.one ⟨some s85, some (s80, false), (.bin false .neq (.t s82) (.t s84))⟩
    (.one ⟨some s86, none, (.pick (.t s80) (.c (.v (.bool true))) (.t s85))⟩
    .done)))))))))))))
  (.cond (.t s86) (.seq (.reg (.one ⟨some s2, none, (.mv (.c (.v (.bool false))))⟩
    .done))
  .ret) .skip))
  (.seq (.seq (.reg (.one ⟨some s10, none, (.mv (.c (.v (.int .i64 0))))⟩
    .done))
  (.block 2 (.loop (.seq (.seq (.reg (.one ⟨some s87, none, (.mv (.t s10))⟩
    (.one ⟨some s88, none, (.mv (.t s8))⟩
    (.one ⟨some s89, none, (.len false (.t s88))⟩
    (.one ⟨some s90, none, (.bin false .lss (.t s87) (.t s89))⟩
    .done)))))
  (.cond (.t s90) .skip (.exit 2)))
  (.seq (.block 3 (.seq (.reg (.one ⟨some s93, none, (.mv (.t s8))⟩
    (.one ⟨some s94, none, (.mv (.t s10))⟩
    (.one ⟨some s95, none, (.iaddr 2 (.t s93) (.t s94))⟩
    (.one ⟨some s96, none, (.load (some 2) (.t s95))⟩
    (.one ⟨some s97, none, (.mv (.t s9))⟩
    (.one ⟨some s98, none, (.mv (.t s10))⟩
    (.one ⟨some s99, none, (.iaddr 2 (.t s97) (.t s98))⟩
    (.one ⟨some s100, none, (.load (some 2) (.t s99))⟩
    (.one ⟨some s101, none, (.eqAgg true [false, false] (.t s96) (.t s100))⟩
    (.one ⟨some s102, none, (.mv (.t s101))⟩
    (.one ⟨some s103, some (s102, false), (.mv (.t s5))⟩
    (.one ⟨some s104, some (s102, false), (.mv (.t s8))⟩
    (.one ⟨some s105, some (s102, false), (.mv (.t s10))⟩
    (.one ⟨some s106, some (s102, false), (.iaddr 2 (.t s104) (.t s105))⟩
    (.one ⟨some s107, some (s102, false), (.load (some 2) (.t s106))⟩
    (.one ⟨some s108, some (s102, false), (.callq 24 [(.t s103), (.t s107)])⟩
    (.one ⟨some s109, some (s102, false), (.not (.t s108))⟩
    (.one ⟨some s110, none, (.pick (.t s102) (.c (.v (.bool true))) (.t s109))⟩
    .done)))))))))))))))))))
  (.cond (.t s110) (.seq (.reg (.one ⟨some s2, none, (.mv (.c (.v (.bool false))))⟩
    .done))
  .ret) .skip)))
  (.reg (.one ⟨some s91, none, (.mv (.t s10))⟩
    (.one ⟨some s92, none, (.bin false .add (.t s91) (.c (.v (.int .i64 1))))⟩
    (.one ⟨some s10, none, (.mv (.t s92))⟩
    .done)))))))))
  (.seq (.reg (.one ⟨some s111, none, (.callq 20 [])⟩
    (.one ⟨some s2, none, (.mv (.t s111))⟩
    .done)))
  .ret)))))))))⟩
theorem ok6 : compF Try.prog c6 Try.f6 = some ir6 := by kernel_rfl
theorem k_bowlinelaw03_SpansOrdered {args : List AVal} {σ : AHeap} {Q : AVal → AHeap → Prop} (hl : Nat.ble args.length 112 = true) (h : argsK (Env.full 9) 0 args fun env => evC Try.prog c6 ir6.body env σ (retQ ir6 Q)) : ACalls Try.prog 6 args σ Q :=
  acalls_of Try.func6 ok6 rfl (Nat.le_of_ble_eq_true hl) h
/- bowlinelaw03.SpansAdds -/
def c7 : Cfg := ⟨qs, [], 161, [], ps⟩
def ir7 : IFun := ⟨3, [.tmp s6],
  (.seq (.reg (.one ⟨some s4, none, (.box 2 (.t s1))⟩
    (.one ⟨some s5, none, (.box 2 (.t s2))⟩
    (.one ⟨some s6, none, (.mv (.c (.v (.bool false))))⟩
    .done))))
  (.seq (.reg (.one ⟨some s15, none, (.callq 19 [(.c (.slice 2 [] .full))])⟩
    (.one ⟨some s14, none, (.mv (.t s15))⟩
    (.one ⟨some s16, none, (.ext (.t s14) 0)⟩
    (.one ⟨some s17, none, (.ext (.t s14) 1)⟩
    (.one ⟨some s7, none, (.mv (.t s16))⟩
    (.one ⟨some s8, none, (.mv (.t s17))⟩
    .done)))))))
  (.seq (.seq (.reg (.one ⟨some s18, none, (.mv (.t s8))⟩
    (.one ⟨some s19, none, (.bin false .neq (.t s18) (.c (.v (.int .i64 0))))⟩
    (.one ⟨some s20, none, (.mv (.t s19))⟩
    (.one ⟨some s21, some (s20, false), (.mv (.t s7))⟩
    (.one ⟨some s22, some (s20, false), (.eqNil 1 false (.t s21))⟩
    (.one ⟨some s23, none, (.pick (.t s20) (.c (.v (.bool true))) (.t s22))⟩
    .done)))))))
  (.cond (.t s23) (.seq (.reg (.one ⟨some s6, none, (.mv (.c (.v (.bool false))))⟩
    .done))
  .ret) .skip))
  (.seq (.seq (.reg (.one ⟨some s9, none, (.mv (.c (.v (.int .i64 0))))⟩
    .done))
  (.block 0 (.loop (.seq (.seq (.reg (.one ⟨some s24, none, (.mv (.t s9))⟩
    (.one ⟨some s25, none, (.mv (.t s0))⟩
    (.one ⟨some s26, none, (.len false (.t s25))⟩
    (.one ⟨some s27, none, (.bin false .lss (.t s24) (.t s26))⟩
    (.one ⟨some s28, none, (.mv (.t s27))⟩
    (.one ⟨some s29, some (s28, true), (.mv (.t s9))⟩
    (.one ⟨some s30, some (s28, true), (.bin false .lss (.t s29) (.c (.v (.int .i64 60))))⟩
    (.one ⟨some s31, none, (.pick (.t s28) (.t s30) (.c (.v (.bool false))))⟩
    .done)))))))))
  (.cond (.t s31) .skip (.exit 0)))
  (.seq (.block 1 (.reg (.one ⟨some s34, none, (.mv (.t s7))⟩
    (.one ⟨some s35, none, (.mv (.t s0))⟩
    (.one ⟨some s36, none, (.mv (.t s9))⟩
    (.one ⟨some s37, none, (.iaddr 3 (.t s35) (.t s36))⟩
    (.one ⟨some s38, none, (.faddr 1 (.t s37))⟩
    (.one ⟨some s39, none, (.load (some 2) (.t s38))⟩
    (.one ⟨some s40, none, (.call 21 [(.t s34), (.t s39)])⟩
    .done)))))))))
  (.reg (.one ⟨some s32, none, (.mv (.t s9))⟩
    (.one ⟨some s33, none, (.bin false .add (.t s32) (.c (.v (.int .i64 1))))⟩
    (.one ⟨some s9, none, (.mv (.t s33))⟩
    .done)))))))))
  (.seq (.reg (.one ⟨some s41, none, (.mv (.t s7))⟩
    (.one ⟨some s42, none, (.load (some 2) (.t s5))⟩
    (.one ⟨some s44, none, (.mv (.t s7))⟩
    (.one ⟨some s45, none, (.load (some 2) (.t s5))⟩
    (.one ⟨some s43, none, (.callq 24 [(.t s41), (.t s42)])⟩
    (.one ⟨some s46, none, (.callq 25 [(.t s44), (.t s45)])⟩
    (.one ⟨some s10, none, (.mv (.t s43))⟩
    (.one ⟨some s11, none, (.mv (.t s46))⟩
    .done)))))))))
  (.seq (.reg (.one ⟨some s47, none, (.load (some 2) (.t s4))⟩
    (.one ⟨some s48, none, (.callq 26 [(.t s47)])⟩
    (.one ⟨some s49, none, (.mv (.t s48))⟩
    (.one ⟨some s50, some (s49, true), (.load (some 2) (.t s5))⟩
    (.one ⟨some s51, some (s49, true), (.callq 26 [(.t s50)])⟩
    (.one ⟨some s52, none, (.pick (.t s49) (.t s51) (.c (.v (.bool false))))⟩
    (.one ⟨some s53, none, (.mv (.t s52))⟩
    (.one ⟨some s54, some (s53, true), (.faddr 1 (.t s4))⟩
    (.one ⟨some s55, some (s53, true), (.load none (.t s54))⟩
    (.one ⟨some s56, some (s53, true), (.faddr 0 (.t s5))⟩
    (.one ⟨some s57, some (s53, true), (.load none (.t s56))⟩
    (.one ⟨some s58, some (s53, true), (.bin false .leq (.t s55) (.t s57))⟩
    (.one ⟨some s59, some (s53, true), (.mv (.t s58))⟩
    (.one ⟨some s60, some (s59, false), (.faddr 1 (.t s5))⟩
    (.one ⟨some s61, some (s59, false), (.load none (.t s60))⟩
    (.one ⟨some s62, some (s59, false), (.faddr 0 (.t s4))⟩
    (.one ⟨some s63, some (s59, false), (.load none (.t s62))⟩
    (.one ⟨some s64, some (s59, false), (.bin false .leq (.t s61) (.t s63))⟩
    (.one ⟨some s65, some (s53, true), (.pick (.t s59) (.c (.v (.bool true))) (.t s64))⟩
    (.one ⟨some s66, none, (.pick (.t s53) (.t s65) (.c (.v (.bool false))))⟩
    (.one ⟨some s12, none, (.mv (.t s66))⟩
    .done))))))))))))))))))))))
  (.seq (.seq (.reg (.one ⟨some s67, none, (.mv (.t s7))⟩
    (.one ⟨some s68, none, (.load (some 2) (.t s4))⟩
    (.one ⟨some s69, none, (.call 21 [(.t s67), (.t s68)])⟩
    (.one ⟨some s70, none, (.bin false .neq (.t s69) (.c (.v (.int .i64 0))))⟩
    .done)))))
  (.cond (.t s70) (.seq (.reg (.one ⟨some s71, none, (.callq 20 [])⟩
    (.one ⟨some s72, none, (.mv (.t s71))⟩
    (.one ⟨some s73, some (s72, true), (.mv (.t s7))⟩
    (.one ⟨some s74, some (s72, true), (.load (some 2) (.t s5))⟩
    (.one ⟨some s75, some (s72, true), (.callq 24 [(.t s73), (.t s74)])⟩
    (.one ⟨some s76, some (s72, true), (.mv (.t s10))⟩
    (.one ⟨some s77, some (s72, true), (.bin true .eql (.t s75) (.t s76))⟩
    (.one ⟨some s78, none, (.pick (.t s72) (.t s77) (.c (.v (.bool false))))⟩
    (.one ⟨some s6, none, (.mv (.t s78))⟩
    .done))))))))))
  .ret) .skip))
  (.seq (.reg (.one ⟨some s79, none, (.mv (.t s7))⟩
    (.one ⟨some s80, none, (.callq 23 [(.t s79)])⟩
    (.one ⟨some s13, none, (.mv (.t s80))⟩
    .done))))
  (.seq (.seq (.reg (.one ⟨some s81, none, (.mv (.t s7))⟩
    (.one ⟨some s82, none, (.load (some 2) (.t s4))⟩
    (.one ⟨some s83, none, (.callq 24 [(.t s81), (.t s82)])⟩
    (.one ⟨some s84, none, (.not (.t s83))⟩
    (.one ⟨some s85, none, (.mv (.t s84))⟩
    (.one ⟨some s86, some (s85, false), (.mv (.t s7))⟩
    (.one ⟨some s87, some (s85, false), (.load (some 2) (.t s4))⟩
    (.one ⟨some s88, some (s85, false), (.call 21 [(.t s86), (.t s87)])⟩
    (.one ⟨some s89, some (s85, false), (.bin false .neq (.t s88) (.c (.v (.int .i64 0))))⟩
    (.one ⟨some s90, none, (.pick (.t s85) (.c (.v (.bool true))) (.t s89))⟩
    (.one ⟨some s91, none, (.mv (.t s90))⟩
    (.one ⟨some s92, some (s91, false), (.mv (.t s7))⟩
    (.one ⟨some s93, some (s91, false), (.callq 23 [(.t s92)])⟩
    (.one ⟨some s94, some (s91, false), (.mv (.t s13))⟩
    (.one ⟨some s95, some (s91, false), (.bin false .neq (.t s93) (.t s94))⟩
    (.one ⟨some s96, none, (.pick (.t s91) (.c (.v (.bool true))) (.t s95))⟩
    (.one ⟨some s97, none, (.mv (.t s96))⟩
    (.one ⟨some s98, some (s97, false), (.mv (.t s12))⟩
    (.one ⟨some s99, some (s97, false), (.mv (.t s98))⟩
    (.one ⟨some s100, some (s99, true), (.mv (.t s7))⟩
    (.one ⟨some s101, some (s99, true), (.load (some 2) (.t s5))⟩
    (.one ⟨some s102, some (s99, true), (.callq 24 [(.t s100), (.t s101)])⟩
    (.one ⟨some s103, some (s99, true), (.mv (.t s10))⟩
    (.one ⟨some s104, some (s99, true), (.bin true .neq (.t s102) (.t s103))⟩
    (.one ⟨some s105, some (s99, true), (.mv (.t s104))⟩
    (.one ⟨some s106, some (s105, false), (.mv (.t s7))⟩
    (.one ⟨some s107, some (s105, false), (.load (some 2) (.t s5))⟩
    (.one ⟨some s108, some (s105, false), (.callq 25 [(.t s106), (.t s107)])⟩
    (.one ⟨some s109, some (s105, false), (.mv (.t s11))⟩
    (.one ⟨some s110, some (s105, false), (.bin true .neq (.t s108) (.t s109))⟩
    (.one ⟨some s111, some (s99, true), (.pick (.t s105) (.c (.v (.bool true))) (.t s110))⟩
    (.one ⟨some s112, some (s97, false), (.pick (.t s99) (.t s111) (.c (.v (.bool false))))⟩
    (.one ⟨some s113, none, (.pick (.t s97) (.c (.v (.bool true))) (.t s112))⟩
    .done))))))))))))))))))))))))))))))))))
  (.cond (.t s113) (.seq (.reg (.one ⟨some s6, none, (.mv (.c (.v (.bool false))))⟩
    .done))
  .ret) .skip))
  (.seq (.seq (.reg (.one ⟨some s114, none, (.mv (.t s7))⟩
    (.one ⟨some s115, none, (.load (some 2) (.t s4))⟩
    (.one ⟨some s116, none, (.call 27 [(.t s114), (.t s115)])⟩
    (.one ⟨some s117, none, (.bin false .neq (.t s116) (.c (.v (.int .i64 0))))⟩
    .done)))))
  (.cond (.t s117) (.seq (.reg (.one ⟨some s118, none, (.callq 20 [])⟩
    (.one ⟨some s119, none, (.mv (.t s118))⟩
    (.one ⟨some s120, some (s119, true), (.mv (.t s7))⟩
    (.one ⟨some s121, some (s119, true), (.load (some 2) (.t s4))⟩
    (.one ⟨some s122, some (s119, true), (.callq 24 [(.t s120), (.t s121)])⟩
    (.one ⟨some s123, none, (.pick (.t s119) (.t s122) (.c (.v (.bool false))))⟩
    (.one ⟨some s6, none, (.mv (.t s123))⟩
    .done))))))))
  .ret) .skip))
  (.seq (.reg (.one ⟨some s124, none, (.callq 20 [])⟩
    (.one ⟨some s125, none, (.mv (.t s124))⟩
    (.one ⟨some s126, some (s125, true), (.mv (.t s7))⟩
    (.one ⟨some s127, some (s125, true), (.load (some 2) (.t s4))⟩
    (.one ⟨some s128, some (s125, true), (.callq 25 [(.t s126), (.t s127)])⟩
    (.one ⟨some s129, some (s125, true), (.not (.t s128))⟩
    (.one ⟨some s130, none, (.pick (.t s125) (.t s129) (.c (.v (.bool false))))⟩
    (.one ⟨some s131, none, (.mv (.t s130))⟩
    (.one ⟨some s132, some (s131, true), (.mv (.t s13))⟩
    (.one ⟨some s133, some (s131, true), (.mv (.t s7))⟩
    (.one ⟨some s136, some (s131, true), (.faddr 1 (.t s4))⟩
    (.one ⟨some s137, some (s131, true), (.load none (.t s136))⟩
    (.one ⟨some s138, some (s131, true), (.faddr 0 (.t s4))⟩
    (.one ⟨some s139, some (s131, true), (.load none (.t s138))⟩
    (.one ⟨some s140, some (s131, true), (.bin false .sub (.t s137) (.t s139))⟩
    (.one ⟨some s134, some (s131, true), (.callq 23 [(.t s133)])⟩
    (.one ⟨some s135, some (s131, true), (.bin false .sub (.t s132) (.t s134))⟩
    (.one ⟨some s141, some (s131, true), (.bin false .eql (.t s135) (.t s140))⟩
    (.one ⟨some s142, none, (.pick (.t s131) (.t s141) (.c (.v (.bool false))))⟩
    (.one ⟨some s143, none, (.mv (.t s142))⟩
    (.one ⟨some s144, some (s143, true), (.mv (.t s12))⟩
    (.one ⟨some s145, some (s143, true), (.not (.t s144))⟩
    (.one ⟨some s146, some (s143, true), (.mv (.t s145))⟩
    (.one ⟨some s147, some (s146, false), (.mv (.t s7))⟩
    (.one ⟨some s148, some (s146, false), (.load (some 2) (.t s5))⟩
    (.one ⟨some s150, some (s146, false), (.mv (.t s10))⟩
    (.one ⟨some s149, some (s146, false), (.callq 24 [(.t s147), (.t s148)])⟩
    (.one ⟨some s151, some (s146, false), (.bin true .eql (.t s149) (.t s150))⟩
    (.one ⟨some s152, some (s146, false), (.mv (.t s151))⟩
    (.one ⟨some s153, some (s152, true), (.mv (.t s7))⟩
    (.one ⟨some s154, some (s152, true), (.load (some 2) (.t s5))⟩
    (.one ⟨some s156, some (s152, true), (.mv (.t s11))⟩
    (.one ⟨some s155, some (s152, true), (.callq 25 [(.t s153), (.t s154)])⟩
    (.one ⟨some s157, some (s152, true), (.bin true .eql (.t s155) (.t s156))⟩
    (.one ⟨some s158, some (s146, false), (.pick (.t s152) (.t s157) (.c (.v (.bool false))))⟩
    (.one ⟨some s159, some (s143, true), (.pick (.t s146) (.c (.v (.bool true))) (.t s158))⟩
    (.one ⟨some s160, none, (.pick (.t s143) (.t s159) (.c (.v (.bool false))))⟩
    (.one ⟨some s6, none, (.mv (.t s160))⟩
    .done)))))))))))))))))))))))))))))))))))))))
  .ret)))))))))))⟩
theorem ok7 : compF Try.prog c7 Try.f7 = some ir7 := by kernel_rfl
theorem k_bowlinelaw03_SpansAdds {args : List AVal} {σ : AHeap} {Q : AVal → AHeap → Prop} (hl : Nat.ble args.length 161 = true) (h : argsK (Env.full 9) 0 args fun env => evC Try.prog c7 ir7.body env σ (retQ ir7 Q)) : ACalls Try.prog 7 args σ Q :=
  acalls_of Try.func7 ok7 rfl (Nat.le_of_ble_eq_true hl) h
/- bowlinelaw03.SpansOrder -/
def c9 : Cfg := ⟨qs, [], 216, [], ps⟩
def ir9 : IFun := ⟨2, [.tmp s4],
  (.seq (.reg (.one ⟨some s4, none, (.mv (.c (.v (.bool false))))⟩
    .done))
  (.seq (.reg (.one ⟨some s15, none, (.callq 19 [(.c (.slice 2 [] .full))])⟩
    (.one ⟨some s14, none, (.mv (.t s15))⟩
    (.one ⟨some s16, none, (.ext (.t s14) 0)⟩
    (.one ⟨some s17, none, (.ext (.t s14) 1)⟩
    (.one ⟨some s5, none, (.mv (.t s16))⟩
    (.one ⟨some s6, none, (.mv (.t s17))⟩
    .done)))))))
  (.seq (.seq (.reg (.one ⟨some s18, none, (.mv (.t s6))⟩
    (.one ⟨some s19, none, (.bin false .neq (.t s18) (.c (.v (.int .i64 0))))⟩
    (.one ⟨some s20, none, (.mv (.t s19))⟩
    (.one ⟨some s21, some (s20, false), (.mv (.t s5))⟩
    (.one ⟨some s22, some (s20, false), (.eqNil 1 false (.t s21))⟩
    (.one ⟨some s23, none, (.pick (.t s20) (.c (.v (.bool true))) (.t s22))⟩
    .done)))))))
  (.cond (.t s23) (.seq (.reg (.one ⟨some s4, none, (.mv (.c (.v (.bool false))))⟩
    .done))
  .ret) .skip))
  (.seq (.seq (.reg (.one ⟨some s7, none, (.mv (.c (.v (.int .i64 0))))⟩
    .done))
  (.block 0 (.loop (.seq (.seq (.reg (.one ⟨some s24, none, (.mv (.t s7))⟩
    (.one ⟨some s25, none, (.mv (.t s0))⟩
    (.one ⟨some s26, none, (.len false (.t s25))⟩
    (.one ⟨some s27, none, (.bin false .lss (.t s24) (.t s26))⟩
    (.one ⟨some s28, none, (.mv (.t s27))⟩
    (.one ⟨some s29, some (s28, true), (.mv (.t s7))⟩
    (.one ⟨some s30, some (s28, true), (.bin false .lss (.t s29) (.c (.v (.int .i64 200))))⟩
    (.one ⟨some s31, none, (.pick (.t s28) (.t s30) (.c (.v (.bool false))))⟩
    .done)))))))))
  (.cond (.t s31) .skip (.exit 0)))
  (.seq (.block 1 (.seq (.reg (.one ⟨some s34, none, (.mv (.t s0))⟩
    (.one ⟨some s35, none, (.mv (.t s7))⟩
    (.one ⟨some s36, none, (.iaddr 3 (.t s34) (.t s35))⟩
    (.one ⟨some s37, none, (.faddr 0 (.t s36))⟩
    (.one ⟨some s38, none, (.load none (.t s37))⟩
    .done))))))
  (.cond (.t s38) (.reg (.one ⟨some s39, none, (.mv (.t s5))⟩
    (.one ⟨some s40, none, (.mv (.t s0))⟩
    (.one ⟨some s41, none, (.mv (.t s7))⟩
    (.one ⟨some s42, none, (.iaddr 3 (.t s40) (.t s41))⟩
    (.one ⟨some s43, none, (.faddr 1 (.t s42))⟩
    (.one ⟨some s44, none, (.load (some 2) (.t s43))⟩
    (.one ⟨some s45, none, (.call 27 [(.t s39), (.t s44)])⟩
    .done)))))))) (.reg (.one ⟨some s46, none, (.mv (.t s5))⟩
    (.one ⟨some s47, none, (.mv (.t s0))⟩
    (.one ⟨some s48, none, (.mv (.t s7))⟩
    (.one ⟨some s49, none, (.iaddr 3 (.t s47) (.t s48))⟩
    (.one ⟨some s50, none, (.faddr 1 (.t s49))⟩
    (.one ⟨some s51, none, (.load (some 2) (.t s50))⟩
    (.one ⟨some s52, none, (.call 21 [(.t s46), (.t s51)])⟩
    .done)))))))))))
  (.reg (.one ⟨some s32, none, (.mv (.t s7))⟩
    (.one ⟨some s33, none, (.bin false .add (.t s32) (.c (.v (.int .i64 1))))⟩
    (.one ⟨some s7, none, (.mv (.t s33))⟩
    .done)))))))))
  (.seq (.reg (.one ⟨some s53, none, (.mv (.t s5))⟩
    (.one ⟨some s54, none, (.callq 22 [(.t s53)])⟩
    (.one ⟨some s8, none, (.mv (.t s54))⟩
    .done))))
  (.seq (.reg (.one ⟨some s9, none, (.mv (.c (.v (.int .i64 0))))⟩
    (.one ⟨some s10, none, (.mv (.c (.v (.int .i64 0))))⟩
    .done)))
  (.seq (.seq (.reg (.one ⟨some s11, none, (.mv (.c (.v (.int .i64 0))))⟩
    .done))
  (.block 2 (.loop (.seq (.seq (.reg (.one ⟨some s55, none, (.mv (.t s11))⟩
    (.one ⟨some s56, none, (.mv (.t s8))⟩
    (.one ⟨some s57, none, (.len false (.t s56))⟩
    (.one ⟨some s58, none, (.bin false .lss (.t s55) (.t s57))⟩
    .done)))))
  (.cond (.t s58) .skip (.exit 2)))
  (.seq (.block 3 (.seq (.seq (.reg (.one ⟨some s61, none, (.mv (.t s8))⟩
    (.one ⟨some s62, none, (.mv (.t s11))⟩
    (.one ⟨some s63, none, (.iaddr 2 (.t s61) (.t s62))⟩
    (.one ⟨some s64, none, (.load (some 2) (.t s63))⟩
    (.one ⟨some s65, none, (.callq 26 [(.t s64)])⟩
    (.one ⟨some s66, none, (.not (.t s65))⟩
    (.one ⟨some s67, none, (.mv (.t s66))⟩
    (.one ⟨some s68, some (s67, false), (.mv (.t s11))⟩
    (.one ⟨some s69, some (s67, false), (.bin false .gtr (.t s68) (.c (.v (.int .i64 0))))⟩
    (.one ⟨some s70, some (s67, false), (.mv (.t s69))⟩
    (.one ⟨some s71, some (s70, true), (.mv (.t s8))⟩
    (.one ⟨some s72, some (s70, true), (.mv (.t s11))⟩
    (.one ⟨some s73, some (s70, true), (.bin false .sub (.t s72) (.c (.v (.int .i64 1))))⟩
    (.one ⟨some s74, some (s70, true), (.iaddr 2 (.t s71) (.t s73))⟩
    (.one ⟨some s75, some (s70, true), (.faddr 1 (.t s74))⟩
    (.one ⟨some s76, some (s70, true), (.load none (.t s75))⟩
    (.one ⟨some s77, some (s70, true), (.mv (.t s8))⟩
    (.one ⟨some s78, some (s70, true), (.mv (.t s11))⟩
    (.one ⟨some s79, some (s70, true), (.iaddr 2 (.t s77) (.t s78))⟩
    (.one ⟨some s80, some (s70, true), (.faddr 0 (.t s79))⟩
    (.one ⟨some s81, some (s70, true), (.load none (.t s80))⟩
    (.one ⟨some s82, some (s70, true), (.bin false .geq (.t s76) (.t s81))⟩
    (.one ⟨some s83, some (s67, false), (.pick (.t s70) (.t s82) (.c (.v (.bool false))))⟩
    (.one ⟨some s84, none, (.pick (.t s67) (.c (.v (.bool true))) (.t s83))⟩
    .done)))))))))))))))))))))))))
  (.cond (.t s84) (.seq (.reg (.one ⟨some s4, none, (.mv (.c (.v (.bool false))))⟩
    .done))
  .ret) .skip))
  (.seq (.reg (.one ⟨some s85, none, (.mv (.t s9))⟩
    (.one ⟨some s86, none, (.mv (.t s8))⟩
    (.one ⟨some s87, none, (.mv (.t s11))⟩
    (.one ⟨some s88, none, (.iaddr 2 (.t s86) (.t s87))⟩
    (.one ⟨some s89, none, (.faddr 1 (.t s88))⟩
    (.one ⟨some s90, none, (.load none (.t s89))⟩
    (.one ⟨some s91, none, (.bin false .add (.t s85) (.t s90))⟩
    (.one ⟨some s92, none, (.mv (.t s8))⟩
    (.one ⟨some s93, none, (.mv (.t s11))⟩
    (.one ⟨some s94, none, (.iaddr 2 (.t s92) (.t s93))⟩
    (.one ⟨some s95, none, (.faddr 0 (.t s94))⟩
    (.one ⟨some s96, none, (.load none (.t s95))⟩
    (.one ⟨some s97, none, (.bin false .sub (.t s91) (.t s96))⟩
    (.one ⟨some s9, none, (.mv (.t s97))⟩
    .done)))))))))))))))
  (.seq (.reg (.one ⟨some s98, none, (.mv (.t s1))⟩
    (.one ⟨some s99, none, (.bin false .geq (.t s98) (.c (.v (.int .i64 1))))⟩
    (.one ⟨some s100, none, (.mv (.t s99))⟩
    (.one ⟨some s101, some (s100, true), (.mv (.t s1))⟩
    (.one ⟨some s102, some (s100, true), (.bin false .leq (.t s101) (.c (.v (.int .i64 65536))))⟩
    (.one ⟨some s103, none, (.pick (.t s100) (.t s102) (.c (.v (.bool false))))⟩
    (.one ⟨some s104, none, (.mv (.t s103))⟩
    (.one ⟨some s105, some (s104, true), (.mv (.t s8))⟩
    (.one ⟨some s106, some (s104, true), (.mv (.t s11))⟩
    (.one ⟨some s107, some (s104, true), (.iaddr 2 (.t s105) (.t s106))⟩
    (.one ⟨some s108, some (s104, true), (.faddr 0 (.t s107))⟩
    (.one ⟨some s109, some (s104, true), (.load none (.t s108))⟩
    (.one ⟨some s110, some (s104, true), (.mv (.t s1))⟩
    (.one ⟨some s111, some (s104, true), (.bin false .lss (.t s109) (.t s110))⟩
    (.one ⟨some s112, none, (.pick (.t s104) (.t s111) (.c (.v (.bool false))))⟩
    .done))))))))))))))))
  (.cond (.t s112) (.seq (.reg (.one ⟨some s113, none, (.mv (.t s8))⟩
    (.one ⟨some s114, none, (.mv (.t s11))⟩
    (.one ⟨some s115, none, (.iaddr 2 (.t s113) (.t s114))⟩
    (.one ⟨some s116, none, (.faddr 1 (.t s115))⟩
    (.one ⟨some s117, none, (.load none (.t s116))⟩
    (.one ⟨some s118, none, (.mv (.t s1))⟩
    (.one ⟨some s119, none, (.bin false .lss (.t s117) (.t s118))⟩
    .done))))))))
  (.cond (.t s119) (.reg (.one ⟨some s120, none, (.mv (.t s10))⟩
    (.one ⟨some s121, none, (.mv (.t s8))⟩
    (.one ⟨some s122, none, (.mv (.t s11))⟩
    (.one ⟨some s123, none, (.iaddr 2 (.t s121) (.t s122))⟩
    (.one ⟨some s124, none, (.faddr 1 (.t s123))⟩
    (.one ⟨some s125, none, (.load none (.t s124))⟩
    (.one ⟨some s126, none, (.bin false .add (.t s120) (.t s125))⟩
    (.one ⟨some s127, none, (.mv (.t s8))⟩
    (.one ⟨some s128, none, (.mv (.t s11))⟩
    (.one ⟨some s129, none, (.iaddr 2 (.t s127) (.t s128))⟩
    (.one ⟨some s130, none, (.faddr 0 (.t s129))⟩
    (.one ⟨some s131, none, (.load none (.t s130))⟩
    (.one ⟨some s132, none, (.bin false .sub (.t s126) (.t s131))⟩
    (.one ⟨some s10, none, (.mv (.t s132))⟩
    .done))))))))))))))) (.reg (.one ⟨some s133, none, (.mv (.t s10))⟩
    (.one ⟨some s134, none, (.mv (.t s1))⟩
    (.one ⟨some s135, none, (.bin false .add (.t s133) (.t s134))⟩
    (.one ⟨some s136, none, (.mv (.t s8))⟩
    (.one ⟨some s137, none, (.mv (.t s11))⟩
    (.one ⟨some s138, none, (.iaddr 2 (.t s136) (.t s137))⟩
    (.one ⟨some s139, none, (.faddr 0 (.t s138))⟩
    (.one ⟨some s140, none, (.load none (.t s139))⟩
    (.one ⟨some s141, none, (.bin false .sub (.t s135) (.t s140))⟩
    (.one ⟨some s10, none, (.mv (.t s141))⟩
    .done))))))))))))) .skip)))))
  (.reg (.one ⟨some s59, none, (.mv (.t s11))⟩
    (.one ⟨some s60, none, (.bin false .add (.t s59) (.c (.v (.int .i64 1))))⟩
    (.one ⟨some s11, none, (.mv (.t s60))⟩
    .done)))))))))
  (.seq (.seq (.reg (.one ⟨some s142, none, (.mv (.t s8))⟩
    (.one ⟨some s143, none, (.len false (.t s142))⟩
    (.one ⟨some s144, none, (.bin false .gtr (.t s143) (.c (.v (.int .i64 2048))))⟩
    (.one ⟨some s145, none, (.mv (.t s144))⟩
    (.one ⟨some s146, some (s145, false), (.mv (.t s5))⟩
    (.one ⟨some s147, some (s145, false), (.callq 23 [(.t s146)])⟩
    (.one ⟨some s148, some (s145, false), (.mv (.t s9))⟩
    (.one ⟨some s149, some (s145, false), (.bin false .neq (.t s147) (.t s148))⟩
    (.one ⟨some s150, none, (.pick (.t s145) (.c (.v (.bool true))) (.t s149))⟩
    .done))))))))))
  (.cond (.t s150) (.seq (.reg (.one ⟨some s4, none, (.mv (.c (.v (.bool false))))⟩
    .done))
  .ret) .skip))
  (.seq (.seq (.reg (.one ⟨some s151, none, (.mv (.t s1))⟩
    (.one ⟨some s152, none, (.bin false .lss (.t s151) (.c (.v (.int .i64 1))))⟩
    (.one ⟨some s153, none, (.mv (.t s152))⟩
    (.one ⟨some s154, some (s153, false), (.mv (.t s1))⟩
    (.one ⟨some s155, some (s153, false), (.bin false .gtr (.t s154) (.c (.v (.int .i64 65536))))⟩
    (.one ⟨some s156, none, (.pick (.t s153) (.c (.v (.bool true))) (.t s155))⟩
    .done)))))))
  (.cond (.t s156) (.seq (.reg (.one ⟨some s157, none, (.callq 20 [])⟩
    (.one ⟨some s158, none, (.mv (.t s157))⟩
    (.one ⟨some s159, some (s158, true), (.mv (.t s5))⟩
    (.one ⟨some s160, some (s158, true), (.mv (.t s1))⟩
    (.one ⟨some s161, some (s158, true), (.callq 34 [(.t s159), (.t s160)])⟩
    (.one ⟨some s162, some (s158, true), (.len false (.t s161))⟩
    (.one ⟨some s163, some (s158, true), (.bin false .eql (.t s162) (.c (.v (.int .i64 0))))⟩
    (.one ⟨some s164, none, (.pick (.t s158) (.t s163) (.c (.v (.bool false))))⟩
    (.one ⟨some s4, none, (.mv (.t s164))⟩
    .done))))))))))
  .ret) .skip))
  (.seq (.reg (.one ⟨some s165, none, (.mv (.t s5))⟩
    (.one ⟨some s166, none, (.mv (.t s1))⟩
    (.one ⟨some s167, none, (.callq 34 [(.t s165), (.t s166)])⟩
    (.one ⟨some s12, none, (.mv (.t s167))⟩
    .done)))))
  (.seq (.seq (.reg (.one ⟨some s13, none, (.mv (.c (.v (.int .i64 0))))⟩
    .done))
  (.block 4 (.loop (.seq (.seq (.reg (.one ⟨some s168, none, (.mv (.t s13))⟩
    (.one ⟨some s169, none, (.mv (.t s12))⟩
    (.one ⟨some s170, none, (.len false (.t s169))⟩
    (.one ⟨some s171, none, (.bin false .lss (.t s168) (.t s170))⟩
    .done)))))
  (.cond (.t s171) .skip (.exit 4)))
  (.seq (.block 5 (.seq (.seq (.reg (.one ⟨some s174, none, (.mv (.t s12))⟩
    (.one ⟨some s175, none, (.mv (.t s13))⟩
    (.one ⟨some s176, none, (.iaddr 2 (.t s174) (.t s175))⟩
    (.one ⟨some s177, none, (.load (some 2) (.t s176))⟩
    (.one ⟨some s178, none, (.callq 26 [(.t s177)])⟩
    (.one ⟨some s179, none, (.not (.t s178))⟩
    (.one ⟨some s180, none, (.mv (.t s179))⟩
    (.one ⟨some s181, some (s180, false), (.mv (.t s12))⟩
    (.one ⟨some s182, some (s180, false), (.mv (.t s13))⟩
    (.one ⟨some s183, some (s180, false), (.iaddr 2 (.t s181) (.t s182))⟩
    (.one ⟨some s184, some (s180, false), (.faddr 1 (.t s183))⟩
    (.one ⟨some s185, some (s180, false), (.load none (.t s184))⟩
    (.one ⟨some s186, some (s180, false), (.mv (.t s1))⟩
    (.one ⟨some s187, some (s180, false), (.bin false .gtr (.t s185) (.t s186))⟩
    (.one ⟨some s188, none, (.pick (.t s180) (.c (.v (.bool true))) (.t s187))⟩
    (.one ⟨some s189, none, (.mv (.t s188))⟩
    (.one ⟨some s190, some (s189, false), (.mv (.t s5))⟩
    (.one ⟨some s191, some (s189, false), (.mv (.t s12))⟩
    (.one ⟨some s192, some (s189, false), (.mv (.t s13))⟩
    (.one ⟨some s193, some (s189, false), (.iaddr 2 (.t s191) (.t s192))⟩
    (.one ⟨some s194, some (s189, false), (.load (some 2) (.t s193))⟩
    (.one ⟨some s195, some (s189, false), (.callq 25 [(.t s190), (.t s194)])⟩
    (.one ⟨some s196, none, (.pick (.t s189) (.c (.v (.bool true))) (.t s195))⟩
    .done))))))))))))))))))))))))
  (.cond (.t s196) (.seq (.reg (.one ⟨some s4, none, (.mv (.c (.v (.bool false))))⟩
    .done))
  .ret) .skip))
  (.reg (.one ⟨some s197, none, (.mv (.t s10))⟩
    (.one ⟨some s198, none, (.mv (.t s12))⟩
    (.one ⟨some s199, none, (.mv (.t s13))⟩
    (.one ⟨some s200, none, (.iaddr 2 (.t s198) (.t s199))⟩
    (.one ⟨some s201, none, (.faddr 1 (.t s200))⟩
    (.one ⟨some s202, none, (.load none (.t s201))⟩
    (.one ⟨some s203, none, (.bin false .add (.t s197) (.t s202))⟩
    (.one ⟨some s204, none, (.mv (.t s12))⟩
    (.one ⟨some s205, none, (.mv (.t s13))⟩
    (.one ⟨some s206, none, (.iaddr 2 (.t s204) (.t s205))⟩
    (.one ⟨some s207, none, (.faddr 0 (.t s206))⟩
    (.one ⟨some s208, none, (.load none (.t s207))⟩
    (.one ⟨some s209, none, (.bin false .sub (.t s203) (.t s208))⟩
    (.one ⟨some s10, none, (.mv (.t s209))⟩
    .done)))))))))))))))))
  (.reg (.one ⟨some s172, none, (.mv (.t s13))⟩
    (.one ⟨some s173, none, (.bin false .add (.t s172) (.c (.v (.int .i64 1))))⟩
    (.one ⟨some s13, none, (.mv (.t s173))⟩
    .done)))))))))
  (.seq (.reg (.one ⟨some s210, none, (.callq 20 [])⟩
    (.one ⟨some s211, none, (.mv (.t s210))⟩
    (.one ⟨some s212, some (s211, true), (.mv (.t s10))⟩
    (.one ⟨some s213, some (s211, true), (.mv (.t s1))⟩
    (.one ⟨some s214, some (s211, true), (.bin false .eql (.t s212) (.t s213))⟩
    (.one ⟨some s215, none, (.pick (.t s211) (.t s214) (.c (.v (.bool false))))⟩
    (.one ⟨some s4, none, (.mv (.t s215))⟩
    .done))))))))
  .ret))))))))))))⟩
theorem ok9 : compF Try.prog c9 Try.f9 = some ir9 := by kernel_rfl
theorem k_bowlinelaw03_SpansOrder {args : List AVal} {σ : AHeap} {Q : AVal → AHeap → Prop} (hl : Nat.ble args.length 216 = true) (h : argsK (Env.full 9) 0 args fun env => evC Try.prog c9 ir9.body env σ (retQ ir9 Q)) : ACalls Try.prog 9 args σ Q :=
  acalls_of Try.func9 ok9 rfl (Nat.le_of_ble_eq_true hl) h
/- bowlinelaw03.alive -/
def c20 : Cfg := ⟨qs, [], 71, [], ps⟩
def ir20 : IFun := ⟨0, [.tmp s0],
  (.seq (.reg (.one ⟨some s0, none, (.mv (.c (.v (.bool false))))⟩
    .done))
  (.seq (.reg (.one ⟨some s8, none, (.build [(.v (.int .i64 0)), (.v (.int .i64 0))] [(0, 1, (.c (.v (.int .i64 2)))), (1, 1, (.c (.v (.int .i64 5))))])⟩
    (.one ⟨some s9, none, (.build [(.v (.int .i64 0)), (.v (.int .i64 0))] [(0, 1, (.c (.v (.int .i64 5)))), (1, 1, (.c (.v (.int .i64 9))))])⟩
    (.one ⟨some s10, none, (.row 2 [(.t s8), (.t s9)])⟩
    (.one ⟨some s11, none, (.callq 19 [(.t s10)])⟩
    (.one ⟨some s7, none, (.mv (.t s11))⟩
    (.one ⟨some s12, none, (.ext (.t s7) 0)⟩
    (.one ⟨some s13, none, (.ext (.t s7) 1)⟩
    (.one ⟨some s1, none, (.mv (.t s12))⟩
    (.one ⟨some s2, none, (.mv (.t s13))⟩
    .done))))))))))
  (.seq (.reg (.one ⟨some s15, none, (.build [(.v (.int .i64 0)), (.v (.int .i64 0))] [(0, 1, (.c (.v (.int .i64 2)))), (1, 1, (.c (.v (.int .i64 2))))])⟩
    (.one ⟨some s16, none, (.row 2 [(.t s15)])⟩
    (.one ⟨some s17, none, (.callq 19 [(.t s16)])⟩
    (.one ⟨some s14, none, (.mv (.t s17))⟩
    (.one ⟨some s18, none, (.ext (.t s14) 0)⟩
    (.one ⟨some s19, none, (.ext (.t s14) 1)⟩
    (.one ⟨some s3, none, (.mv (.t s18))⟩
    (.one ⟨some s4, none, (.mv (.t s19))⟩
    .done)))))))))
  (.seq (.seq (.reg (.one ⟨some s20, none, (.mv (.t s2))⟩
    (.one ⟨some s21, none, (.bin false .neq (.t s20) (.c (.v (.int .i64 0))))⟩
    (.one ⟨some s22, none, (.mv (.t s21))⟩
    (.one ⟨some s23, some (s22, false), (.mv (.t s1))⟩
    (.one ⟨some s24, some (s22, false), (.eqNil 1 false (.t s23))⟩
    (.one ⟨some s25, none, (.pick (.t s22) (.c (.v (.bool true))) (.t s24))⟩
    .done)))))))
  (.cond (.t s25) (.seq (.reg (.one ⟨some s0, none, (.mv (.c (.v (.bool false))))⟩
    .done))
  .ret) .skip))
  (.seq (.reg (.one ⟨some s26, none, (.mv (.t s1))⟩
    (.one ⟨some s27, none, (.callq 22 [(.t s26)])⟩
    (.one ⟨some s5, none, (.mv (.t s27))⟩
    .done))))
  (.seq (.reg (.one ⟨some s28, none, (.mv (.t s1))⟩
    (.one ⟨some s29, none, (.build [(.v (.int .i64 0)), (.v (.int .i64 0))] [(0, 1, (.c (.v (.int .i64 4)))), (1, 1, (.c (.v (.int .i64 6))))])⟩
    (.one ⟨some s30, none, (.call 27 [(.t s28), (.t s29)])⟩
    (.one ⟨some s6, none, (.mv (.t s30))⟩
    .done)))))
  (.seq (.reg (.one ⟨some s31, none, (.mv (.t s4))⟩
    (.one ⟨some s32, none, (.bin false .eql (.t s31) (.c (.v (.int .i64 1))))⟩
    (.one ⟨some s33, none, (.mv (.t s32))⟩
    (.one ⟨some s34, some (s33, true), (.mv (.t s5))⟩
    (.one ⟨some s35, some (s33, true), (.len false (.t s34))⟩
    (.one ⟨some s36, some (s33, true), (.bin false .eql (.t s35) (.c (.v (.int .i64 1))))⟩
    (.one ⟨some s37, none, (.pick (.t s33) (.t s36) (.c (.v (.bool false))))⟩
    (.one ⟨some s38, none, (.mv (.t s37))⟩
    (.one ⟨some s39, some (s38, true), (.mv (.t s5))⟩
    (.one ⟨some s40, some (s38, true), (.iaddr 2 (.t s39) (.c (.v (.int .i64 0))))⟩
    (.one ⟨some s41, some (s38, true), (.load (some 2) (.t s40))⟩
    (.one ⟨some s42, some (s38, true), (.build [(.v (.int .i64 0)), (.v (.int .i64 0))] [(0, 1, (.c (.v (.int .i64 2)))), (1, 1, (.c (.v (.int .i64 9))))])⟩
    (.one ⟨some s43, some (s38, true), (.eqAgg false [false, false] (.t s41) (.t s42))⟩
    (.one ⟨some s44, none, (.pick (.t s38) (.t s43) (.c (.v (.bool false))))⟩
    (.one ⟨some s45, none, (.mv (.t s44))⟩
    (.one ⟨some s46, some (s45, true), (.mv (.t s6))⟩
    (.one ⟨some s47, some (s45, true), (.bin false .eql (.t s46) (.c (.v (.int .i64 0))))⟩
    (.one ⟨some s48, none, (.pick (.t s45) (.t s47) (.c (.v (.bool false))))⟩
    (.one ⟨some s49, none, (.mv (.t s48))⟩
    (.one ⟨some s50, some (s49, true), (.mv (.t s1))⟩
    (.one ⟨some s51, some (s49, true), (.callq 22 [(.t s50)])⟩
    (.one ⟨some s52, some (s49, true), (.len false (.t s51))⟩
    (.one ⟨some s53, some (s49, true), (.bin false .eql (.t s52) (.c (.v (.int .i64 2))))⟩
    (.one ⟨some s54, none, (.pick (.t s49) (.t s53) (.c (.v (.bool false))))⟩
    (.one ⟨some s55, none, (.mv (.t s54))⟩
    (.one ⟨some s56, some (s55, true), (.mv (.t s1))⟩
    (.one ⟨some s57, some (s55, true), (.callq 23 [(.t s56)])⟩
    (.one ⟨some s58, some (s55, true), (.bin false .eql (.t s57) (.c (.v (.int .i64 5))))⟩
    (.one ⟨some s59, none, (.pick (.t s55) (.t s58) (.c (.v (.bool false))))⟩
    (.one ⟨some s60, none, (.mv (.t s59))⟩
    (.one ⟨some s61, some (s60, true), (.mv (.t s1))⟩
    (.one ⟨some s62, some (s60, true), (.build [(.v (.int .i64 0)), (.v (.int .i64 0))] [(0, 1, (.c (.v (.int .i64 6)))), (1, 1, (.c (.v (.int .i64 9))))])⟩
    (.one ⟨some s63, some (s60, true), (.callq 24 [(.t s61), (.t s62)])⟩
    (.one ⟨some s64, none, (.pick (.t s60) (.t s63) (.c (.v (.bool false))))⟩
    (.one ⟨some s65, none, (.mv (.t s64))⟩
    (.one ⟨some s66, some (s65, true), (.mv (.t s1))⟩
    (.one ⟨some s67, some (s65, true), (.build [(.v (.int .i64 0)), (.v (.int .i64 0))] [(0, 1, (.c (.v (.int .i64 3)))), (1, 1, (.c (.v (.int .i64 5))))])⟩
    (.one ⟨some s68, some (s65, true), (.callq 24 [(.t s66), (.t s67)])⟩
    (.one ⟨some s69, some (s65, true), (.not (.t s68))⟩
    (.one ⟨some s70, none, (.pick (.t s65) (.t s69) (.c (.v (.bool false))))⟩
    (.one ⟨some s0, none, (.mv (.t s70))⟩
    .done))))))))))))))))))))))))))))))))))))))))))
  .ret)))))))⟩
theorem ok20 : compF Try.prog c20 Try.f20 = some ir20 := by kernel_rfl
theorem k_bowlinelaw03_alive {args : List AVal} {σ : AHeap} {Q : AVal → AHeap → Prop} (hl : Nat.ble args.length 71 = true) (h : argsK (Env.full 9) 0 args fun env => evC Try.prog c20 ir20.body env σ (retQ ir20 Q)) : ACalls Try.prog 20 args σ Q :=
  acalls_of Try.func20 ok20 rfl (Nat.le_of_ble_eq_true hl) h
/- bowlinelaw03.As -/
def c32 : Cfg := ⟨qs, [], 26, [], ps⟩
def ir32 : IFun := ⟨1, [.tmp s2],
  (.seq (.reg (.one ⟨some s2, none, (.mv (.c (.slice 2 [] .full)))⟩
    .done))
  (.seq (.reg (.one ⟨some s3, none, (.mv (.c (.slice 2 [] .full)))⟩
    .done))
  (.seq (.seq (.reg (.one ⟨some s4, none, (.mv (.c (.v (.int .i64 0))))⟩
    .done))
  (.block 0 (.loop (.seq (.seq (.reg (.one ⟨some s5, none, (.mv (.t s4))⟩
    (.one ⟨some s6, none, (.mv (.t s0))⟩
    (.one ⟨some s7, none, (.len false (.t s6))⟩
    (.one ⟨some s8, none, (.bin false .lss (.t s5) (.t s7))⟩
    .done)))))
  (.cond (.t s8) .skip (.exit 0)))
  (.seq (.block 1 (.reg (.one ⟨some s11, none, (.mv (.t s3))⟩
    (.one ⟨some s12, none, (.mv (.t s0))⟩
    (.one ⟨some s13, none, (.mv (.t s4))⟩
    (.one ⟨some s14, none, (.iaddr 2 (.t s12) (.t s13))⟩
    (.one ⟨some s15, none, (.faddr 0 (.t s14))⟩
    (.one ⟨some s16, none, (.load none (.t s15))⟩
    (.one ⟨some s17, none, (.mv (.t s0))⟩
    (.one ⟨some s18, none, (.mv (.t s4))⟩
    (.one ⟨some s19, none, (.iaddr 2 (.t s17) (.t s18))⟩
    (.one ⟨some s20, none, (.faddr 1 (.t s19))⟩
    (.one ⟨some s21, none, (.load none (.t s20))⟩
    (.one ⟨some s22, none, (.build [(.v (.int .i64 0)), (.v (.int .i64 0))] [(0, 1, (.t s16)), (1, 1, (.t s21))])⟩
    (.one ⟨some s23, none, (.row 2 [(.t s22)])⟩
    (.one ⟨some s24, none, (.app 2 16 (.t s11) (.t s23))⟩
    (.one ⟨some s3, none, (.mv (.t s24))⟩
    .done)))))))))))))))))
  (.reg (.one ⟨some s9, none, (.mv (.t s4))⟩
    (.one ⟨some s10, none, (.bin false .add (.t s9) (.c (.v (.int .i64 1))))⟩
    (.one ⟨some s4, none, (.mv (.t s10))⟩
    .done)))))))))
  (.seq (.reg (.one ⟨some s25, none, (.mv (.t s3))⟩
    (.one ⟨some s2, none, (.mv (.t s25))⟩
    .done)))
  .ret))))⟩
theorem ok32 : compF Try.prog c32 Try.f32 = some ir32 := by kernel_rfl
theorem k_bowlinelaw03_As {args : List AVal} {σ : AHeap} {Q : AVal → AHeap → Prop} (hl : Nat.ble args.length 26 = true) (h : argsK (Env.full 9) 0 args fun env => evC Try.prog c32 ir32.body env σ (retQ ir32 Q)) : ACalls Try.prog 32 args σ Q :=
  acalls_of Try.func32 ok32 rfl (Nat.le_of_ble_eq_true hl) h
end Go.Proofs.Ytghbcleokmcdeaa
/-
  The bodies of one package, compiled to the framework's language (printed by a program of this session).
-/
namespace Go.Proofs.Ytghbcleokmcdeaa
set_option linter.unusedVariables false
set_option linter.unusedSimpArgs false
open Go Go.Am
/- bowlinelaw03.SpansLive -/
def c8 : Cfg := ⟨qs, [], 207, [], ps⟩
def ir8 : IFun := ⟨3, [.tmp s6],
  (.seq (.reg (.one ⟨some s4, none, (.box 2 (.t s1))⟩
    (.one ⟨some s6, none, (.mv (.c (.v (.bool false))))⟩
    .done)))
  (.seq (.reg (.one ⟨some s19, none, (.callq 19 [(.c (.slice 2 [] .full))])⟩
    (.one ⟨some s18, none, (.mv (.t s19))⟩
    (.one ⟨some s20, none, (.ext (.t s18) 0)⟩
    (.one ⟨some s21, none, (.ext (.t s18) 1)⟩
    (.one ⟨some s7, none, (.mv (.t s20))⟩
    (.one ⟨some s8, none, (.mv (.t s21))⟩
    .done)))))))
  (.seq (.seq (.reg (.one ⟨some s22, none, (.mv (.t s8))⟩
    (.one ⟨some s23, none, (.bin false .neq (.t s22) (.c (.v (.int .i64 0))))⟩
    (.one ⟨some s24, none, (.mv (.t s23))⟩
    (.one ⟨some s25, some (s24, false), (.mv (.t s7))⟩
    (.one ⟨some s26, some (s24, false), (.eqNil 1 false (.t s25))⟩
    (.one ⟨some s27, none, (.pick (.t s24) (.c (.v (.bool true))) (.t s26))⟩
    .done)))))))
  (.cond (.t s27) (.seq (.reg (.one ⟨some s6, none, (.mv (.c (.v (.bool false))))⟩
    .done))
  .ret) .skip))
  (.seq (.reg (.one ⟨some s28, none, (.build [(.slice 1 [] .full)] [])⟩
    (.one ⟨some s9, none, (.new [(.slice 1 [] .full)])⟩
    (.one ⟨none, none, (.store 1 (.t s9) (.t s28))⟩
    .done))))
  (.seq (.seq (.reg (.one ⟨some s10, none, (.mv (.c (.v (.int .i64 0))))⟩
    .done))
  (.block 0 (.loop (.seq (.seq (.reg (.one ⟨some s29, none, (.mv (.t s10))⟩
    (.one ⟨some s30, none, (.mv (.t s0))⟩
    (.one ⟨some s31, none, (.len false (.t s30))⟩
    (.one ⟨some s32, none, (.bin false .lss (.t s29) (.t s31))⟩
    (.one ⟨some s33, none, (.mv (.t s32))⟩
    (.one ⟨some s34, some (s33, true), (.mv (.t s10))⟩
    (.one ⟨some s35, some (s33, true), (.bin false .lss (.t s34) (.c (.v (.int .i64 120))))⟩
    (.one ⟨some s36, none, (.pick (.t s33) (.t s35) (.c (.v (.bool false))))⟩
    .done)))))))))
  (.cond (.t s36) .skip (.exit 0)))
  (.seq (.block 1 (.seq (.reg (.one ⟨some s39, none, (.mv (.t s0))⟩
    (.one ⟨some s40, none, (.mv (.t s10))⟩
    (.one ⟨some s41, none, (.iaddr 3 (.t s39) (.t s40))⟩
    (.one ⟨some s42, none, (.load (some 3) (.t s41))⟩
    (.one ⟨some s11, none, (.new [(.v (.bool false)), (.v (.int .i64 0)), (.v (.int .i64 0))])⟩
    (.one ⟨none, none, (.store 3 (.t s11) (.t s42))⟩
    .done)))))))
  (.seq (.seq (.reg (.one ⟨some s43, none, (.faddr 1 (.t s11))⟩
    (.one ⟨some s44, none, (.faddr 1 (.t s43))⟩
    (.one ⟨some s45, none, (.load none (.t s44))⟩
    (.one ⟨some s46, none, (.bin false .gtr (.t s45) (.c (.v (.int .i64 3000))))⟩
    (.one ⟨some s47, none, (.mv (.t s46))⟩
    (.one ⟨some s48, some (s47, true), (.faddr 1 (.t s11))⟩
    (.one ⟨some s49, some (s47, true), (.faddr 1 (.t s48))⟩
    (.one ⟨some s50, some (s47, true), (.load none (.t s49))⟩
    (.one ⟨some s51, some (s47, true), (.bin false .leq (.t s50) (.c (.v (.int .i64 65536))))⟩
    (.one ⟨some s52, none, (.pick (.t s47) (.t s51) (.c (.v (.bool false))))⟩
    .done)))))))))))
  (.cond (.t s52) (.seq (.reg (.one ⟨some s53, none, (.callq 20 [])⟩
    (.one ⟨some s6, none, (.mv (.t s53))⟩
    .done)))
  .ret) .skip))
  (.seq (.reg (.one ⟨some s12, none, (.mv (.c (.v (.int .i64 0))))⟩
    (.one ⟨some s13, none, (.mv (.c (.v (.int .i64 0))))⟩
    .done)))
  (.seq (.seq (.reg (.one ⟨some s54, none, (.faddr 0 (.t s11))⟩
    (.one ⟨some s55, none, (.load none (.t s54))⟩
    .done)))
  (.cond (.t s55) (.reg (.one ⟨some s56, none, (.mv (.t s7))⟩
    (.one ⟨some s57, none, (.faddr 1 (.t s11))⟩
    (.one ⟨some s58, none, (.load (some 2) (.t s57))⟩
    (.one ⟨some s59, none, (.call 27 [(.t s56), (.t s58)])⟩
    (.one ⟨some s12, none, (.mv (.t s59))⟩
    .done)))))) (.reg (.one ⟨some s60, none, (.mv (.t s7))⟩
    (.one ⟨some s61, none, (.faddr 1 (.t s11))⟩
    (.one ⟨some s62, none, (.load (some 2) (.t s61))⟩
    (.one ⟨some s63, none, (.call 21 [(.t s60), (.t s62)])⟩
    (.one ⟨some s12, none, (.mv (.t s63))⟩
    .done))))))))
  (.seq (.reg (.one ⟨some s65, none, (.load (some 1) (.t s9))⟩
    (.one ⟨some s66, none, (.faddr 1 (.t s11))⟩
    (.one ⟨some s67, none, (.faddr 0 (.t s66))⟩
    (.one ⟨some s68, none, (.load none (.t s67))⟩
    (.one ⟨some s69, none, (.faddr 1 (.t s11))⟩
    (.one ⟨some s70, none, (.faddr 1 (.t s69))⟩
    (.one ⟨some s71, none, (.load none (.t s70))⟩
    (.one ⟨some s72, none, (.build [(.v (.int .i64 0)), (.v (.int .i64 0))] [(0, 1, (.t s68)), (1, 1, (.t s71))])⟩
    (.one ⟨some s73, none, (.faddr 0 (.t s11))⟩
    (.one ⟨some s74, none, (.load none (.t s73))⟩
    (.one ⟨some s75, none, (.not (.t s74))⟩
    (.one ⟨some s76, none, (.callq 28 [(.t s65), (.t s72), (.t s75)])⟩
    (.one ⟨some s64, none, (.mv (.t s76))⟩
    (.one ⟨some s77, none, (.ext (.t s64) 0)⟩
    (.one ⟨some s78, none, (.ext (.t s64) 1)⟩
    (.one ⟨none, none, (.store 1 (.t s9) (.t s77))⟩
    (.one ⟨some s13, none, (.mv (.t s78))⟩
    .done))))))))))))))))))
  (.seq (.reg (.one ⟨some s79, none, (.mv (.t s12))⟩
    (.one ⟨some s80, none, (.mv (.t s13))⟩
    (.one ⟨some s81, none, (.bin false .neq (.t s79) (.t s80))⟩
    (.one ⟨some s82, none, (.mv (.t s81))⟩
    (.one ⟨some s83, some (s82, false), (.mv (.t s7))⟩
    (.one ⟨some s85, some (s82, false), (.load (some 1) (.t s9))⟩
    (.one ⟨some s86, some (s82, false), (.faddr 0 (.t s9))⟩
    (.one ⟨some s87, some (s82, false), (.load none (.t s86))⟩
    (.one ⟨some s88, some (s82, false), (.len false (.t s87))⟩
    (.one ⟨some s89, some (s82, false), (.build [(.v (.int .i64 0)), (.v (.int .i64 0))] [(0, 1, (.c (.v (.int .i64 0)))), (1, 1, (.t s88))])⟩
    (.one ⟨some s84, some (s82, false), (.callq 23 [(.t s83)])⟩
    (.one ⟨some s90, some (s82, false), (.callq 29 [(.t s85), (.t s89)])⟩
    (.one ⟨some s91, some (s82, false), (.bin false .neq (.t s84) (.t s90))⟩
    (.one ⟨some s92, none, (.pick (.t s82) (.c (.v (.bool true))) (.t s91))⟩
    .done)))))))))))))))
  (.cond (.t s92) (.seq (.reg (.one ⟨some s6, none, (.mv (.c (.v (.bool false))))⟩
    .done))
  .ret) .skip))))))))
  (.reg (.one ⟨some s37, none, (.mv (.t s10))⟩
    (.one ⟨some s38, none, (.bin false .add (.t s37) (.c (.v (.int .i64 1))))⟩
    (.one ⟨some s10, none, (.mv (.t s38))⟩
    .done)))))))))
  (.seq (.seq (.reg (.one ⟨some s93, none, (.mv (.t s2))⟩
    (.one ⟨some s94, none, (.bin false .gtr (.t s93) (.c (.v (.int .i64 4000))))⟩
    (.one ⟨some s95, none, (.mv (.t s94))⟩
    (.one ⟨some s96, some (s95, true), (.mv (.t s2))⟩
    (.one ⟨some s97, some (s95, true), (.bin false .leq (.t s96) (.c (.v (.int .i64 65536))))⟩
    (.one ⟨some s98, none, (.pick (.t s95) (.t s97) (.c (.v (.bool false))))⟩
    (.one ⟨some s99, none, (.mv (.t s98))⟩
    (.one ⟨some s100, some (s99, false), (.faddr 1 (.t s4))⟩
    (.one ⟨some s101, some (s99, false), (.load none (.t s100))⟩
    (.one ⟨some s102, some (s99, false), (.bin false .gtr (.t s101) (.c (.v (.int .i64 4000))))⟩
    (.one ⟨some s103, some (s99, false), (.mv (.t s102))⟩
    (.one ⟨some s104, some (s103, true), (.faddr 1 (.t s4))⟩
    (.one ⟨some s105, some (s103, true), (.load none (.t s104))⟩
    (.one ⟨some s106, some (s103, true), (.bin false .leq (.t s105) (.c (.v (.int .i64 65536))))⟩
    (.one ⟨some s107, some (s99, false), (.pick (.t s103) (.t s106) (.c (.v (.bool false))))⟩
    (.one ⟨some s108, none, (.pick (.t s99) (.c (.v (.bool true))) (.t s107))⟩
    .done)))))))))))))))))
  (.cond (.t s108) (.seq (.reg (.one ⟨some s109, none, (.callq 20 [])⟩
    (.one ⟨some s6, none, (.mv (.t s109))⟩
    .done)))
  .ret) .skip))
  (.seq (.reg (.one ⟨some s110, none, (.faddr 0 (.t s4))⟩
    (.one ⟨some s111, none, (.load none (.t s110))⟩
    (.one ⟨some s112, none, (.faddr 1 (.t s4))⟩
    (.one ⟨some s113, none, (.load none (.t s112))⟩
    (.one ⟨some s114, none, (.build [(.v (.int .i64 0)), (.v (.int .i64 0))] [(0, 1, (.t s111)), (1, 1, (.t s113))])⟩
    (.one ⟨some s14, none, (.new [(.v (.int .i64 0)), (.v (.int .i64 0))])⟩
    (.one ⟨none, none, (.store 2 (.t s14) (.t s114))⟩
    .done))))))))
  (.seq (.reg (.one ⟨some s15, none, (.mv (.c (.v (.bool false))))⟩
    (.one ⟨some s16, none, (.mv (.c (.v (.bool false))))⟩
    .done)))
  (.seq (.seq (.reg (.one ⟨some s115, none, (.load (some 2) (.t s14))⟩
    (.one ⟨some s116, none, (.callq 30 [(.t s115)])⟩
    .done)))
  (.cond (.t s116) (.reg (.one ⟨some s117, none, (.load (some 1) (.t s9))⟩
    (.one ⟨some s118, none, (.load (some 2) (.t s14))⟩
    (.one ⟨some s120, none, (.faddr 1 (.t s14))⟩
    (.one ⟨some s121, none, (.load none (.t s120))⟩
    (.one ⟨some s122, none, (.faddr 0 (.t s14))⟩
    (.one ⟨some s123, none, (.load none (.t s122))⟩
    (.one ⟨some s124, none, (.bin false .sub (.t s121) (.t s123))⟩
    (.one ⟨some s126, none, (.load (some 1) (.t s9))⟩
    (.one ⟨some s127, none, (.load (some 2) (.t s14))⟩
    (.one ⟨some s119, none, (.callq 29 [(.t s117), (.t s118)])⟩
    (.one ⟨some s125, none, (.bin false .eql (.t s119) (.t s124))⟩
    (.one ⟨some s128, none, (.callq 29 [(.t s126), (.t s127)])⟩
    (.one ⟨some s129, none, (.bin false .gtr (.t s128) (.c (.v (.int .i64 0))))⟩
    (.one ⟨some s15, none, (.mv (.t s125))⟩
    (.one ⟨some s16, none, (.mv (.t s129))⟩
    .done)))))))))))))))) .skip))
  (.seq (.reg (.one ⟨some s17, none, (.mv (.c (.v (.pointer none))))⟩
    .done))
  (.seq (.reg (.one ⟨some s130, none, (.callq 20 [])⟩
    (.one ⟨some s131, none, (.mv (.t s130))⟩
    (.one ⟨some s132, some (s131, true), (.mv (.t s7))⟩
    (.one ⟨some s135, some (s131, true), (.load (some 1) (.t s9))⟩
    (.one ⟨some s133, some (s131, true), (.callq 22 [(.t s132)])⟩
    (.one ⟨some s134, some (s131, true), (.callq 32 [(.t s133)])⟩
    (.one ⟨some s136, some (s131, true), (.callq 33 [(.t s135)])⟩
    (.one ⟨some s137, some (s131, true), (.callq 31 [(.t s134), (.t s136)])⟩
    (.one ⟨some s138, none, (.pick (.t s131) (.t s137) (.c (.v (.bool false))))⟩
    (.one ⟨some s139, none, (.mv (.t s138))⟩
    (.one ⟨some s140, some (s139, true), (.mv (.t s7))⟩
    (.one ⟨some s141, some (s139, true), (.mv (.t s2))⟩
    (.one ⟨some s144, some (s139, true), (.load (some 1) (.t s9))⟩
    (.one ⟨some s145, some (s139, true), (.mv (.t s2))⟩
    (.one ⟨some s142, some (s139, true), (.callq 34 [(.t s140), (.t s141)])⟩
    (.one ⟨some s143, some (s139, true), (.callq 32 [(.t s142)])⟩
    (.one ⟨some s146, some (s139, true), (.callq 35 [(.t s144), (.t s145)])⟩
    (.one ⟨some s147, some (s139, true), (.callq 31 [(.t s143), (.t s146)])⟩
    (.one ⟨some s148, none, (.pick (.t s139) (.t s147) (.c (.v (.bool false))))⟩
    (.one ⟨some s149, none, (.mv (.t s148))⟩
    (.one ⟨some s150, some (s149, true), (.mv (.t s7))⟩
    (.one ⟨some s151, some (s149, true), (.load (some 2) (.t s4))⟩
    (.one ⟨some s153, some (s149, true), (.mv (.t s15))⟩
    (.one ⟨some s152, some (s149, true), (.callq 24 [(.t s150), (.t s151)])⟩
    (.one ⟨some s154, some (s149, true), (.bin true .eql (.t s152) (.t s153))⟩
    (.one ⟨some s155, none, (.pick (.t s149) (.t s154) (.c (.v (.bool false))))⟩
    (.one ⟨some s156, none, (.mv (.t s155))⟩
    (.one ⟨some s157, some (s156, true), (.mv (.t s7))⟩
    (.one ⟨some s158, some (s156, true), (.load (some 2) (.t s4))⟩
    (.one ⟨some s160, some (s156, true), (.mv (.t s16))⟩
    (.one ⟨some s159, some (s156, true), (.callq 25 [(.t s157), (.t s158)])⟩
    (.one ⟨some s161, some (s156, true), (.bin true .eql (.t s159) (.t s160))⟩
    (.one ⟨some s162, none, (.pick (.t s156) (.t s161) (.c (.v (.bool false))))⟩
    (.one ⟨some s163, none, (.mv (.t s162))⟩
    (.one ⟨some s164, some (s163, true), (.load (some 2) (.t s4))⟩
    (.one ⟨some s166, some (s163, true), (.load (some 2) (.t s14))⟩
    (.one ⟨some s165, some (s163, true), (.callq 26 [(.t s164)])⟩
    (.one ⟨some s167, some (s163, true), (.callq 30 [(.t s166)])⟩
    (.one ⟨some s168, some (s163, true), (.bin true .eql (.t s165) (.t s167))⟩
    (.one ⟨some s169, none, (.pick (.t s163) (.t s168) (.c (.v (.bool false))))⟩
    (.one ⟨some s170, none, (.mv (.t s169))⟩
    (.one ⟨some s171, some (s170, true), (.mv (.t s17))⟩
    (.one ⟨some s172, some (s170, true), (.load (some 2) (.t s4))⟩
    (.one ⟨some s173, some (s170, true), (.call 21 [(.t s171), (.t s172)])⟩
    (.one ⟨some s174, some (s170, true), (.bin false .eql (.t s173) (.c (.v (.int .i64 6))))⟩
    (.one ⟨some s175, none, (.pick (.t s170) (.t s174) (.c (.v (.bool false))))⟩
    (.one ⟨some s176, none, (.mv (.t s175))⟩
    (.one ⟨some s177, some (s176, true), (.mv (.t s17))⟩
    (.one ⟨some s178, some (s176, true), (.load (some 2) (.t s4))⟩
    (.one ⟨some s179, some (s176, true), (.call 27 [(.t s177), (.t s178)])⟩
    (.one ⟨some s180, some (s176, true), (.bin false .eql (.t s179) (.c (.v (.int .i64 6))))⟩
    (.one ⟨some s181, none, (.pick (.t s176) (.t s180) (.c (.v (.bool false))))⟩
    (.one ⟨some s182, none, (.mv (.t s181))⟩
    (.one ⟨some s183, some (s182, true), (.mv (.t s17))⟩
    (.one ⟨some s184, some (s182, true), (.load (some 2) (.t s4))⟩
    (.one ⟨some s185, some (s182, true), (.callq 24 [(.t s183), (.t s184)])⟩
    (.one ⟨some s186, some (s182, true), (.not (.t s185))⟩
    (.one ⟨some s187, none, (.pick (.t s182) (.t s186) (.c (.v (.bool false))))⟩
    (.one ⟨some s188, none, (.mv (.t s187))⟩
    (.one ⟨some s189, some (s188, true), (.mv (.t s17))⟩
    (.one ⟨some s190, some (s188, true), (.load (some 2) (.t s4))⟩
    (.one ⟨some s191, some (s188, true), (.callq 25 [(.t s189), (.t s190)])⟩
    (.one ⟨some s192, some (s188, true), (.not (.t s191))⟩
    (.one ⟨some s193, none, (.pick (.t s188) (.t s192) (.c (.v (.bool false))))⟩
    (.one ⟨some s194, none, (.mv (.t s193))⟩
    (.one ⟨some s195, some (s194, true), (.mv (.t s17))⟩
    (.one ⟨some s198, some (s194, true), (.mv (.t s17))⟩
    (.one ⟨some s202, some (s194, true), (.mv (.t s17))⟩
    (.one ⟨some s196, some (s194, true), (.callq 22 [(.t s195)])⟩
    (.one ⟨some s197, some (s194, true), (.len false (.t s196))⟩
    (.one ⟨some s199, some (s194, true), (.callq 34 [(.t s198), (.c (.v (.int .i64 9)))])⟩
    (.one ⟨some s200, some (s194, true), (.len false (.t s199))⟩
    (.one ⟨some s201, some (s194, true), (.bin false .add (.t s197) (.t s200))⟩
    (.one ⟨some s203, some (s194, true), (.callq 23 [(.t s202)])⟩
    (.one ⟨some s204, some (s194, true), (.bin false .add (.t s201) (.t s203))⟩
    (.one ⟨some s205, some (s194, true), (.bin false .eql (.t s204) (.c (.v (.int .i64 0))))⟩
    (.one ⟨some s206, none, (.pick (.t s194) (.t s205) (.c (.v (.bool false))))⟩
    (.one ⟨some s6, none, (.mv (.t s206))⟩
    .done)))))))))))))))))))))))))))))))))))))))))))))))))))))))))))))))))))))))))))))))
  .ret)))))))))))⟩
theorem ok8 : compF Try.prog c8 Try.f8 = some ir8 := by kernel_rfl
theorem k_bowlinelaw03_SpansLive {args : List AVal} {σ : AHeap} {Q : AVal → AHeap → Prop} (hl : Nat.ble args.length 207 = true) (h : argsK (Env.full 9) 0 args fun env => evC Try.prog c8 ir8.body env σ (retQ ir8 Q)) : ACalls Try.prog 8 args σ Q :=
  acalls_of Try.func8 ok8 rfl (Nat.le_of_ble_eq_true hl) h
end Go.Proofs.Ytghbcleokmcdeaa
