/-
  Texts of this claim, pack 3: Irslices, Irlens, Irspans, Irseqnum, Irref02, Iramd, Irsent, Irrxbuf, Irref03, Irlaw03, Irref09, Irref08, Irref10, Irref19, Irreseg, Irlaw10.
-/
import Derived.Test.YtgobbmdbkmjlnaaK2
/-
  The bodies of one package, compiled to the framework's language (printed by a program of this session).
-/
namespace Go.Proofs.Ytgobbmdbkmjlnaa
set_option linter.unusedVariables false
set_option linter.unusedSimpArgs false
open Go Go.Am
/- slices.Clone[[]byte,byte] -/
def c54 : Cfg := ⟨qs, [], 8, [], ps⟩
def ir54 : IFun := ⟨1, [.tmp s2],
  (.seq (.reg (.one ⟨some s2, none, (.mv (.c (.slice 1 [] .full)))⟩
    .done))
  (.seq (.seq (.reg (.one ⟨some s3, none, (.mv (.t s0))⟩
    (.one ⟨some s4, none, (.eqNil 0 false (.t s3))⟩
    .done)))
  (.cond (.t s4) (.seq (.reg (.one ⟨some s2, none, (.mv (.c (.slice 1 [] .full)))⟩
    .done))
  .ret) .skip))
  (.seq (.reg (.one ⟨some s5, none, (.row 1 [])⟩
    (.one ⟨some s6, none, (.mv (.t s0))⟩
    (.one ⟨some s7, none, (.app 1 1 (.t s5) (.t s6))⟩
    (.one ⟨some s2, none, (.mv (.t s7))⟩
    .done)))))
  .ret)))⟩
theorem ok54 : compF Try.prog c54 Try.f54 = some ir54 := by kernel_rfl
theorem k_slices_Clone_byte_byte {args : List AVal} {σ : AHeap} {Q : AVal → AHeap → Prop} (hl : Nat.ble args.length 8 = true) (h : argsK (Env.full 9) 0 args fun env => evC Try.prog c54 ir54.body env σ (retQ ir54 Q)) : ACalls Try.prog 54 args σ Q :=
  acalls_of Try.func54 ok54 rfl (Nat.le_of_ble_eq_true hl) h
/- slices.DeleteFunc[[]int,int] -/
def c82 : Cfg := ⟨qs, [], 42, [], ps⟩
def ir82 : IFun := ⟨2, [.tmp s4],
  (.seq (.reg (.one ⟨some s4, none, (.mv (.c (.slice 1 [] .full)))⟩
    .done))
  (.seq (.reg (.one ⟨some s8, none, (.mv (.t s0))⟩
    (.one ⟨some s9, none, (.mv (.t s1))⟩
    (.one ⟨some s10, none, (.callq 108 [(.t s8), (.t s9)])⟩
    (.one ⟨some s5, none, (.mv (.t s10))⟩
    .done)))))
  (.seq (.seq (.reg (.one ⟨some s11, none, (.mv (.t s5))⟩
    (.one ⟨some s12, none, (.bin false .eql (.t s11) (.c (.v (.int .i64 (-1)))))⟩
    .done)))
  (.cond (.t s12) (.seq (.reg (.one ⟨some s13, none, (.mv (.t s0))⟩
    (.one ⟨some s4, none, (.mv (.t s13))⟩
    .done)))
  .ret) .skip))
  (.seq (.seq (.reg (.one ⟨some s14, none, (.mv (.t s5))⟩
    (.one ⟨some s15, none, (.bin false .add (.t s14) (.c (.v (.int .i64 1))))⟩
    (.one ⟨some s6, none, (.mv (.t s15))⟩
    .done))))
  (.block 0 (.loop (.seq (.seq (.reg (.one ⟨some s16, none, (.mv (.t s6))⟩
    (.one ⟨some s17, none, (.mv (.t s0))⟩
    (.one ⟨some s18, none, (.len false (.t s17))⟩
    (.one ⟨some s19, none, (.bin false .lss (.t s16) (.t s18))⟩
    .done)))))
  (.cond (.t s19) .skip (.exit 0)))
  (.seq (.block 1 (.seq (.reg (.one ⟨some s22, none, (.mv (.t s0))⟩
    (.one ⟨some s23, none, (.mv (.t s6))⟩
    (.one ⟨some s24, none, (.iaddr 1 (.t s22) (.t s23))⟩
    (.one ⟨some s25, none, (.load none (.t s24))⟩
    (.one ⟨some s7, none, (.mv (.t s25))⟩
    .done))))))
  (.seq (.reg (.one ⟨some s26, none, (.mv (.t s1))⟩
    (.one ⟨some s27, none, (.mv (.t s7))⟩
    (.one ⟨some s28, none, (.callv (.t s26) [(.t s27)])⟩
    (.one ⟨some s29, none, (.not (.t s28))⟩
    .done)))))
  (.cond (.t s29) (.seq (.reg (.one ⟨some s30, none, (.mv (.t s0))⟩
    (.one ⟨some s31, none, (.mv (.t s5))⟩
    (.one ⟨some s32, none, (.mv (.t s7))⟩
    (.one ⟨some s33, none, (.iaddr 1 (.t s30) (.t s31))⟩
    (.one ⟨none, none, (.store 1 (.t s33) (.t s32))⟩
    .done))))))
  (.reg (.one ⟨some s34, none, (.mv (.t s5))⟩
    (.one ⟨some s35, none, (.bin false .add (.t s34) (.c (.v (.int .i64 1))))⟩
    (.one ⟨some s5, none, (.mv (.t s35))⟩
    .done))))) .skip))))
  (.reg (.one ⟨some s20, none, (.mv (.t s6))⟩
    (.one ⟨some s21, none, (.bin false .add (.t s20) (.c (.v (.int .i64 1))))⟩
    (.one ⟨some s6, none, (.mv (.t s21))⟩
    .done)))))))))
  (.seq (.reg (.one ⟨some s36, none, (.mv (.t s0))⟩
    (.one ⟨some s37, none, (.mv (.t s5))⟩
    (.one ⟨some s38, none, (.cut 1 (.t s36) (some (.t s37)) none none)⟩
    (.one ⟨none, none, (.clr (.v (.int .i64 0)) (.t s38))⟩
    .done)))))
  (.seq (.reg (.one ⟨some s39, none, (.mv (.t s0))⟩
    (.one ⟨some s40, none, (.mv (.t s5))⟩
    (.one ⟨some s41, none, (.cut 1 (.t s39) none (some (.t s40)) none)⟩
    (.one ⟨some s4, none, (.mv (.t s41))⟩
    .done)))))
  .ret))))))⟩
theorem ok82 : compF Try.prog c82 Try.f82 = some ir82 := by kernel_rfl
theorem k_slices_DeleteFunc_int_int {args : List AVal} {σ : AHeap} {Q : AVal → AHeap → Prop} (hl : Nat.ble args.length 42 = true) (h : argsK (Env.full 9) 0 args fun env => evC Try.prog c82 ir82.body env σ (retQ ir82 Q)) : ACalls Try.prog 82 args σ Q :=
  acalls_of Try.func82 ok82 rfl (Nat.le_of_ble_eq_true hl) h
/- slices.IndexFunc[[]int,int] -/
def c108 : Cfg := ⟨qs, [], 19, [], ps⟩
def ir108 : IFun := ⟨2, [.tmp s4],
  (.seq (.reg (.one ⟨some s4, none, (.mv (.c (.v (.int .i64 0))))⟩
    .done))
  (.seq (.seq (.reg (.one ⟨some s6, none, (.mv (.t s0))⟩
    (.one ⟨some s7, none, (.len false (.t s6))⟩
    (.one ⟨some s8, none, (.mv (.c (.v (.int .i64 0))))⟩
    .done))))
  (.block 0 (.loop (.seq (.reg (.one ⟨some s9, none, (.bin false .lss (.t s8) (.t s7))⟩
    .done))
  (.seq (.cond (.t s9) .skip (.exit 0))
  (.seq (.block 1 (.seq (.reg (.one ⟨some s10, none, (.mv (.t s8))⟩
    (.one ⟨some s5, none, (.mv (.t s10))⟩
    .done)))
  (.seq (.reg (.one ⟨some s11, none, (.mv (.t s1))⟩
    (.one ⟨some s12, none, (.mv (.t s0))⟩
    (.one ⟨some s13, none, (.mv (.t s5))⟩
    (.one ⟨some s14, none, (.iaddr 1 (.t s12) (.t s13))⟩
    (.one ⟨some s15, none, (.load none (.t s14))⟩
    (.one ⟨some s16, none, (.callv (.t s11) [(.t s15)])⟩
    .done)))))))
  (.cond (.t s16) (.seq (.reg (.one ⟨some s17, none, (.mv (.t s5))⟩
    (.one ⟨some s4, none, (.mv (.t s17))⟩
    .done)))
  .ret) .skip))))
  (.reg (.one ⟨some s18, none, (.bin false .add (.t s8) (.c (.v (.int .i64 1))))⟩
    (.one ⟨some s8, none, (.mv (.t s18))⟩
    .done)))))))))
  (.seq (.reg (.one ⟨some s4, none, (.mv (.c (.v (.int .i64 (-1)))))⟩
    .done))
  .ret)))⟩
theorem ok108 : compF Try.prog c108 Try.f108 = some ir108 := by kernel_rfl
theorem k_slices_IndexFunc_int_int {args : List AVal} {σ : AHeap} {Q : AVal → AHeap → Prop} (hl : Nat.ble args.length 19 = true) (h : argsK (Env.full 9) 0 args fun env => evC Try.prog c108 ir108.body env σ (retQ ir108 Q)) : ACalls Try.prog 108 args σ Q :=
  acalls_of Try.func108 ok108 rfl (Nat.le_of_ble_eq_true hl) h
end Go.Proofs.Ytgobbmdbkmjlnaa
/-
  The bodies of one package, compiled to the framework's language (printed by a program of this session).
-/
namespace Go.Proofs.Ytgobbmdbkmjlnaa
set_option linter.unusedVariables false
set_option linter.unusedSimpArgs false
open Go Go.Am
/- lens.Size -/
def c94 : Cfg := ⟨qs, [], 23, [], ps⟩
def ir94 : IFun := ⟨2, [.tmp s4],
  (.seq (.reg (.one ⟨some s4, none, (.mv (.c (.v (.int .i64 0))))⟩
    .done))
  (.seq (.seq (.reg (.one ⟨some s5, none, (.mv (.t s1))⟩
    (.one ⟨some s6, none, (.callq 120 [(.t s5)])⟩
    (.one ⟨some s7, none, (.not (.t s6))⟩
    (.one ⟨some s8, none, (.mv (.t s7))⟩
    (.one ⟨some s9, some (s8, false), (.mv (.t s0))⟩
    (.one ⟨some s10, some (s8, false), (.bin false .lss (.t s9) (.c (.v (.int .i64 1))))⟩
    (.one ⟨some s11, none, (.pick (.t s8) (.c (.v (.bool true))) (.t s10))⟩
    (.one ⟨some s12, none, (.mv (.t s11))⟩
    (.one ⟨some s13, some (s12, false), (.mv (.t s0))⟩
    (.one ⟨some s14, some (s12, false), (.bin false .gtr (.t s13) (.c (.v (.int .i64 23))))⟩
    (.one ⟨some s15, none, (.pick (.t s12) (.c (.v (.bool true))) (.t s14))⟩
    .done))))))))))))
  (.cond (.t s15) (.seq (.reg (.one ⟨some s4, none, (.mv (.c (.v (.int .i64 0))))⟩
    .done))
  .ret) .skip))
  (.seq (.reg (.one ⟨some s16, none, (.mv (.t s0))⟩
    (.one ⟨some s17, none, (.mv (.t s1))⟩
    (.one ⟨some s18, none, (.bin false .add (.t s17) (.c (.v (.int .i64 1))))⟩
    (.one ⟨some s19, none, (.bin false .mul (.t s16) (.t s18))⟩
    (.one ⟨some s20, none, (.bin false .add (.t s19) (.c (.v (.int .i64 8))))⟩
    (.one ⟨some s21, none, (.bin false .sub (.t s20) (.c (.v (.int .i64 1))))⟩
    (.one ⟨some s22, none, (.bin false .quo (.t s21) (.c (.v (.int .i64 8))))⟩
    (.one ⟨some s4, none, (.mv (.t s22))⟩
    .done)))))))))
  .ret)))⟩
theorem ok94 : compF Try.prog c94 Try.f94 = some ir94 := by kernel_rfl
theorem k_lens_Size {args : List AVal} {σ : AHeap} {Q : AVal → AHeap → Prop} (hl : Nat.ble args.length 23 = true) (h : argsK (Env.full 9) 0 args fun env => evC Try.prog c94 ir94.body env σ (retQ ir94 Q)) : ACalls Try.prog 94 args σ Q :=
  acalls_of Try.func94 ok94 rfl (Nat.le_of_ble_eq_true hl) h
/- lens.isWidth -/
def c120 : Cfg := ⟨qs, [], 9, [], ps⟩
def ir120 : IFun := ⟨1, [.tmp s2],
  (.seq (.reg (.one ⟨some s2, none, (.mv (.c (.v (.bool false))))⟩
    .done))
  (.seq (.reg (.one ⟨some s3, none, (.mv (.t s0))⟩
    (.one ⟨some s4, none, (.bin false .eql (.t s3) (.c (.v (.int .i64 11))))⟩
    (.one ⟨some s5, none, (.mv (.t s4))⟩
    (.one ⟨some s6, some (s5, false), (.mv (.t s0))⟩
    (.one ⟨some s7, some (s5, false), (.bin false .eql (.t s6) (.c (.v (.int .i64 15))))⟩
    (.one ⟨some s8, none, (.pick (.t s5) (.c (.v (.bool true))) (.t s7))⟩
    (.one ⟨some s2, none, (.mv (.t s8))⟩
    .done))))))))
  .ret))⟩
theorem ok120 : compF Try.prog c120 Try.f120 = some ir120 := by kernel_rfl
theorem k_lens_isWidth {args : List AVal} {σ : AHeap} {Q : AVal → AHeap → Prop} (hl : Nat.ble args.length 9 = true) (h : argsK (Env.full 9) 0 args fun env => evC Try.prog c120 ir120.body env σ (retQ ir120 Q)) : ACalls Try.prog 120 args σ Q :=
  acalls_of Try.func120 ok120 rfl (Nat.le_of_ble_eq_true hl) h
end Go.Proofs.Ytgobbmdbkmjlnaa
/-
  The bodies of one package, compiled to the framework's language (printed by a program of this session).
-/
namespace Go.Proofs.Ytgobbmdbkmjlnaa
set_option linter.unusedVariables false
set_option linter.unusedSimpArgs false
open Go Go.Am
/- spans.Set).Count -/
def c55 : Cfg := ⟨qs, [], 26, [], ps⟩
def ir55 : IFun := ⟨1, [.tmp s2],
  (.seq (.reg (.one ⟨some s2, none, (.mv (.c (.v (.int .i64 0))))⟩
    .done))
  (.seq (.reg (.one ⟨some s3, none, (.mv (.c (.v (.int .i64 0))))⟩
    .done))
  (.seq (.seq (.reg (.one ⟨some s6, none, (.mv (.t s0))⟩
    (.one ⟨some s7, none, (.eqNil 1 true (.t s6))⟩
    .done)))
  (.cond (.t s7) (.seq (.reg (.one ⟨some s8, none, (.mv (.t s0))⟩
    (.one ⟨some s9, none, (.nilchk (.t s8))⟩
    (.one ⟨some s10, none, (.faddr 0 (.t s9))⟩
    (.one ⟨some s11, none, (.load none (.t s10))⟩
    (.one ⟨some s12, none, (.len false (.t s11))⟩
    (.one ⟨some s13, none, (.mv (.c (.v (.int .i64 0))))⟩
    .done)))))))
  (.block 0 (.loop (.seq (.reg (.one ⟨some s14, none, (.bin false .lss (.t s13) (.t s12))⟩
    .done))
  (.seq (.cond (.t s14) .skip (.exit 0))
  (.seq (.block 1 (.seq (.reg (.one ⟨some s15, none, (.iaddr 2 (.t s11) (.t s13))⟩
    (.one ⟨some s16, none, (.load (some 2) (.t s15))⟩
    (.one ⟨some s5, none, (.new [(.v (.int .i64 0)), (.v (.int .i64 0))])⟩
    (.one ⟨none, none, (.store 2 (.t s5) (.t s16))⟩
    .done)))))
  (.reg (.one ⟨some s17, none, (.mv (.t s3))⟩
    (.one ⟨some s18, none, (.faddr 1 (.t s5))⟩
    (.one ⟨some s19, none, (.load none (.t s18))⟩
    (.one ⟨some s20, none, (.faddr 0 (.t s5))⟩
    (.one ⟨some s21, none, (.load none (.t s20))⟩
    (.one ⟨some s22, none, (.bin false .sub (.t s19) (.t s21))⟩
    (.one ⟨some s23, none, (.bin false .add (.t s17) (.t s22))⟩
    (.one ⟨some s3, none, (.mv (.t s23))⟩
    .done)))))))))))
  (.reg (.one ⟨some s24, none, (.bin false .add (.t s13) (.c (.v (.int .i64 1))))⟩
    (.one ⟨some s13, none, (.mv (.t s24))⟩
    .done))))))))) .skip))
  (.seq (.reg (.one ⟨some s25, none, (.mv (.t s3))⟩
    (.one ⟨some s2, none, (.mv (.t s25))⟩
    .done)))
  .ret))))⟩
theorem ok55 : compF Try.prog c55 Try.f55 = some ir55 := by kernel_rfl
theorem k_spans_Set_Count {args : List AVal} {σ : AHeap} {Q : AVal → AHeap → Prop} (hl : Nat.ble args.length 26 = true) (h : argsK (Env.full 9) 0 args fun env => evC Try.prog c55 ir55.body env σ (retQ ir55 Q)) : ACalls Try.prog 55 args σ Q :=
  acalls_of Try.func55 ok55 rfl (Nat.le_of_ble_eq_true hl) h
/- spans.New -/
def c60 : Cfg := ⟨qs, [], 24, [], ps⟩
def ir60 : IFun := ⟨1, [.tmp s2, .tmp s3],
  (.seq (.reg (.one ⟨some s2, none, (.mv (.c (.v (.pointer none))))⟩
    (.one ⟨some s3, none, (.mv (.c (.v (.int .i64 0))))⟩
    .done)))
  (.seq (.reg (.one ⟨some s8, none, (.build [(.slice 2 [] .full)] [])⟩
    (.one ⟨some s9, none, (.box 1 (.t s8))⟩
    (.one ⟨some s4, none, (.mv (.t s9))⟩
    .done))))
  (.seq (.seq (.reg (.one ⟨some s10, none, (.mv (.t s0))⟩
    (.one ⟨some s11, none, (.len false (.t s10))⟩
    (.one ⟨some s12, none, (.mv (.c (.v (.int .i64 0))))⟩
    .done))))
  (.block 0 (.loop (.seq (.reg (.one ⟨some s13, none, (.bin false .lss (.t s12) (.t s11))⟩
    .done))
  (.seq (.cond (.t s13) .skip (.exit 0))
  (.seq (.block 1 (.seq (.reg (.one ⟨some s14, none, (.iaddr 2 (.t s10) (.t s12))⟩
    (.one ⟨some s15, none, (.load (some 2) (.t s14))⟩
    (.one ⟨some s6, none, (.new [(.v (.int .i64 0)), (.v (.int .i64 0))])⟩
    (.one ⟨none, none, (.store 2 (.t s6) (.t s15))⟩
    .done)))))
  (.seq (.reg (.one ⟨some s16, none, (.mv (.t s4))⟩
    (.one ⟨some s17, none, (.load (some 2) (.t s6))⟩
    (.one ⟨some s18, none, (.call 63 [(.t s16), (.t s17)])⟩
    (.one ⟨some s7, none, (.mv (.t s18))⟩
    .done)))))
  (.seq (.reg (.one ⟨some s19, none, (.mv (.t s7))⟩
    (.one ⟨some s20, none, (.bin false .neq (.t s19) (.c (.v (.int .i64 0))))⟩
    .done)))
  (.cond (.t s20) (.seq (.reg (.one ⟨some s21, none, (.mv (.t s7))⟩
    (.one ⟨some s2, none, (.mv (.c (.v (.pointer none))))⟩
    (.one ⟨some s3, none, (.mv (.t s21))⟩
    .done))))
  .ret) .skip)))))
  (.reg (.one ⟨some s22, none, (.bin false .add (.t s12) (.c (.v (.int .i64 1))))⟩
    (.one ⟨some s12, none, (.mv (.t s22))⟩
    .done)))))))))
  (.seq (.reg (.one ⟨some s23, none, (.mv (.t s4))⟩
    (.one ⟨some s2, none, (.mv (.t s23))⟩
    (.one ⟨some s3, none, (.mv (.c (.v (.int .i64 0))))⟩
    .done))))
  .ret))))⟩
theorem ok60 : compF Try.prog c60 Try.f60 = some ir60 := by kernel_rfl
theorem k_spans_New {args : List AVal} {σ : AHeap} {Q : AVal → AHeap → Prop} (hl : Nat.ble args.length 24 = true) (h : argsK (Env.full 9) 0 args fun env => evC Try.prog c60 ir60.body env σ (retQ ir60 Q)) : ACalls Try.prog 60 args σ Q :=
  acalls_of Try.func60 ok60 rfl (Nat.le_of_ble_eq_true hl) h
/- spans.Set).Add -/
def c63 : Cfg := ⟨qs, [], 78, [], ps⟩
def ir63 : IFun := ⟨2, [.tmp s4],
  (.seq (.reg (.one ⟨some s3, none, (.box 2 (.t s1))⟩
    (.one ⟨some s4, none, (.mv (.c (.v (.int .i64 0))))⟩
    .done)))
  (.scope (.seq (.seq (.reg (.one ⟨some s10, none, (.mv (.t s0))⟩
    (.one ⟨some s11, none, (.load (some 2) (.t s3))⟩
    (.one ⟨some s12, none, (.callq 98 [(.t s10), (.t s11)])⟩
    (.one ⟨some s5, none, (.mv (.t s12))⟩
    .done)))))
  (.seq (.reg (.one ⟨some s13, none, (.mv (.t s5))⟩
    (.one ⟨some s14, none, (.bin false .neq (.t s13) (.c (.v (.int .i64 0))))⟩
    .done)))
  (.cond (.t s14) (.seq (.reg (.one ⟨some s15, none, (.mv (.t s5))⟩
    (.one ⟨some s4, none, (.mv (.t s15))⟩
    .done)))
  .ret) .skip)))
  (.seq (.reg (.one ⟨some s6, none, (.mv (.c (.slice 2 [] .full)))⟩
    .done))
  (.seq (.reg (.one ⟨some s7, none, (.mv (.c (.v (.int .i64 0))))⟩
    (.one ⟨some s8, none, (.mv (.c (.v (.bool false))))⟩
    .done)))
  (.seq (.label 0)
  (.seq (.seq (.reg (.one ⟨some s16, none, (.mv (.t s7))⟩
    (.one ⟨some s17, none, (.mv (.t s0))⟩
    (.one ⟨some s18, none, (.nilchk (.t s17))⟩
    (.one ⟨some s19, none, (.faddr 0 (.t s18))⟩
    (.one ⟨some s20, none, (.load none (.t s19))⟩
    (.one ⟨some s21, none, (.len false (.t s20))⟩
    (.one ⟨some s22, none, (.bin false .lss (.t s16) (.t s21))⟩
    .done))))))))
  (.cond (.t s22) (.seq (.reg (.one ⟨some s23, none, (.mv (.t s0))⟩
    (.one ⟨some s24, none, (.nilchk (.t s23))⟩
    (.one ⟨some s25, none, (.faddr 0 (.t s24))⟩
    (.one ⟨some s26, none, (.load none (.t s25))⟩
    (.one ⟨some s27, none, (.mv (.t s7))⟩
    (.one ⟨some s28, none, (.iaddr 2 (.t s26) (.t s27))⟩
    (.one ⟨some s29, none, (.load (some 2) (.t s28))⟩
    (.one ⟨some s9, none, (.new [(.v (.int .i64 0)), (.v (.int .i64 0))])⟩
    (.one ⟨none, none, (.store 2 (.t s9) (.t s29))⟩
    .done))))))))))
  (.seq (.block 0 (.seq (.reg (.one ⟨some s42, none, (.faddr 1 (.t s9))⟩
    (.one ⟨some s43, none, (.load none (.t s42))⟩
    (.one ⟨some s44, none, (.faddr 0 (.t s3))⟩
    (.one ⟨some s45, none, (.load none (.t s44))⟩
    (.one ⟨some s46, none, (.bin false .lss (.t s43) (.t s45))⟩
    (.one ⟨some s41, none, (.mv (.t s46))⟩
    .done)))))))
  (.cond (.t s41) (.reg (.one ⟨some s47, none, (.mv (.t s6))⟩
    (.one ⟨some s48, none, (.load (some 2) (.t s9))⟩
    (.one ⟨some s49, none, (.row 2 [(.t s48)])⟩
    (.one ⟨some s50, none, (.app 2 16 (.t s47) (.t s49))⟩
    (.one ⟨some s6, none, (.mv (.t s50))⟩
    .done)))))) (.seq (.reg (.one ⟨some s52, none, (.faddr 0 (.t s9))⟩
    (.one ⟨some s53, none, (.load none (.t s52))⟩
    (.one ⟨some s54, none, (.faddr 1 (.t s3))⟩
    (.one ⟨some s55, none, (.load none (.t s54))⟩
    (.one ⟨some s56, none, (.bin false .gtr (.t s53) (.t s55))⟩
    (.one ⟨some s51, none, (.mv (.t s56))⟩
    .done)))))))
  (.cond (.t s51) (.seq (.seq (.reg (.one ⟨some s57, none, (.mv (.t s8))⟩
    (.one ⟨some s58, none, (.not (.t s57))⟩
    .done)))
  (.cond (.t s58) (.reg (.one ⟨some s59, none, (.mv (.t s6))⟩
    (.one ⟨some s60, none, (.load (some 2) (.t s3))⟩
    (.one ⟨some s61, none, (.row 2 [(.t s60)])⟩
    (.one ⟨some s62, none, (.app 2 16 (.t s59) (.t s61))⟩
    (.one ⟨some s6, none, (.mv (.t s62))⟩
    (.one ⟨some s8, none, (.mv (.c (.v (.bool true))))⟩
    .done))))))) .skip))
  (.reg (.one ⟨some s63, none, (.mv (.t s6))⟩
    (.one ⟨some s64, none, (.load (some 2) (.t s9))⟩
    (.one ⟨some s65, none, (.row 2 [(.t s64)])⟩
    (.one ⟨some s66, none, (.app 2 16 (.t s63) (.t s65))⟩
    (.one ⟨some s6, none, (.mv (.t s66))⟩
    .done))))))) (.reg (.one ⟨some s30, none, (.faddr 0 (.t s3))⟩
    (.one ⟨some s31, none, (.load none (.t s30))⟩
    (.one ⟨some s32, none, (.faddr 0 (.t s9))⟩
    (.one ⟨some s33, none, (.load none (.t s32))⟩
    (.one ⟨some s34, none, (.mxmn false (.t s31) (.t s33))⟩
    (.one ⟨some s35, none, (.faddr 1 (.t s3))⟩
    (.one ⟨some s36, none, (.load none (.t s35))⟩
    (.one ⟨some s37, none, (.faddr 1 (.t s9))⟩
    (.one ⟨some s38, none, (.load none (.t s37))⟩
    (.one ⟨some s39, none, (.mxmn true (.t s36) (.t s38))⟩
    (.one ⟨some s40, none, (.build [(.v (.int .i64 0)), (.v (.int .i64 0))] [(0, 1, (.t s34)), (1, 1, (.t s39))])⟩
    (.one ⟨none, none, (.store 2 (.t s3) (.t s40))⟩
    .done))))))))))))))))))
  (.seq (.reg (.one ⟨some s67, none, (.mv (.t s7))⟩
    (.one ⟨some s68, none, (.bin false .add (.t s67) (.c (.v (.int .i64 1))))⟩
    (.one ⟨some s7, none, (.mv (.t s68))⟩
    .done))))
  (.goto 0)))) .skip))
  (.seq (.seq (.reg (.one ⟨some s69, none, (.mv (.t s8))⟩
    (.one ⟨some s70, none, (.not (.t s69))⟩
    .done)))
  (.cond (.t s70) (.reg (.one ⟨some s71, none, (.mv (.t s6))⟩
    (.one ⟨some s72, none, (.load (some 2) (.t s3))⟩
    (.one ⟨some s73, none, (.row 2 [(.t s72)])⟩
    (.one ⟨some s74, none, (.app 2 16 (.t s71) (.t s73))⟩
    (.one ⟨some s6, none, (.mv (.t s74))⟩
    .done)))))) .skip))
  (.seq (.reg (.one ⟨some s75, none, (.mv (.t s0))⟩
    (.one ⟨some s76, none, (.mv (.t s6))⟩
    (.one ⟨some s77, none, (.call 99 [(.t s75), (.t s76)])⟩
    (.one ⟨some s4, none, (.mv (.t s77))⟩
    .done)))))
  .ret)))))))))⟩
theorem ok63 : compF Try.prog c63 Try.f63 = some ir63 := by kernel_rfl
theorem k_spans_Set_Add {args : List AVal} {σ : AHeap} {Q : AVal → AHeap → Prop} (hl : Nat.ble args.length 78 = true) (h : argsK (Env.full 9) 0 args fun env => evC Try.prog c63 ir63.body env σ (retQ ir63 Q)) : ACalls Try.prog 63 args σ Q :=
  acalls_of Try.func63 ok63 rfl (Nat.le_of_ble_eq_true hl) h
/- spans.Set).Has -/
def c79 : Cfg := ⟨qs, [], 17, [], ps⟩
def ir79 : IFun := ⟨2, [.tmp s4],
  (.seq (.reg (.one ⟨some s3, none, (.box 2 (.t s1))⟩
    (.one ⟨some s4, none, (.mv (.c (.v (.bool false))))⟩
    .done)))
  (.seq (.reg (.one ⟨some s5, none, (.mv (.t s0))⟩
    (.one ⟨some s6, none, (.load (some 2) (.t s3))⟩
    (.one ⟨some s7, none, (.callq 98 [(.t s5), (.t s6)])⟩
    (.one ⟨some s8, none, (.bin false .eql (.t s7) (.c (.v (.int .i64 0))))⟩
    (.one ⟨some s9, none, (.mv (.t s8))⟩
    (.one ⟨some s10, some (s9, true), (.mv (.t s0))⟩
    (.one ⟨some s11, some (s9, true), (.nilchk (.t s10))⟩
    (.one ⟨some s12, some (s9, true), (.faddr 0 (.t s11))⟩
    (.one ⟨some s13, some (s9, true), (.load none (.t s12))⟩
    (.one ⟨some s14, some (s9, true), (.fn 105 [] [(.t s3)])⟩
    (.one ⟨some s15, some (s9, true), (.callq 104 [(.t s13), (.t s14)])⟩
    (.one ⟨some s16, none, (.pick (.t s9) (.t s15) (.c (.v (.bool false))))⟩
    (.one ⟨some s4, none, (.mv (.t s16))⟩
    .done))))))))))))))
  .ret))⟩
theorem ok79 : compF Try.prog c79 Try.f79 = some ir79 := by kernel_rfl
theorem k_spans_Set_Has {args : List AVal} {σ : AHeap} {Q : AVal → AHeap → Prop} (hl : Nat.ble args.length 17 = true) (h : argsK (Env.full 9) 0 args fun env => evC Try.prog c79 ir79.body env σ (retQ ir79 Q)) : ACalls Try.prog 79 args σ Q :=
  acalls_of Try.func79 ok79 rfl (Nat.le_of_ble_eq_true hl) h
/- spans.Set).Spans -/
def c80 : Cfg := ⟨qs, [], 10, [], ps⟩
def ir80 : IFun := ⟨1, [.tmp s2],
  (.seq (.reg (.one ⟨some s2, none, (.mv (.c (.slice 2 [] .full)))⟩
    .done))
  (.seq (.seq (.reg (.one ⟨some s3, none, (.mv (.t s0))⟩
    (.one ⟨some s4, none, (.eqNil 1 false (.t s3))⟩
    .done)))
  (.cond (.t s4) (.seq (.reg (.one ⟨some s2, none, (.mv (.c (.slice 2 [] .full)))⟩
    .done))
  .ret) .skip))
  (.seq (.reg (.one ⟨some s5, none, (.mv (.t s0))⟩
    (.one ⟨some s6, none, (.nilchk (.t s5))⟩
    (.one ⟨some s7, none, (.faddr 0 (.t s6))⟩
    (.one ⟨some s8, none, (.load none (.t s7))⟩
    (.one ⟨some s9, none, (.callq 106 [(.t s8)])⟩
    (.one ⟨some s2, none, (.mv (.t s9))⟩
    .done)))))))
  .ret)))⟩
theorem ok80 : compF Try.prog c80 Try.f80 = some ir80 := by kernel_rfl
theorem k_spans_Set_Spans {args : List AVal} {σ : AHeap} {Q : AVal → AHeap → Prop} (hl : Nat.ble args.length 10 = true) (h : argsK (Env.full 9) 0 args fun env => evC Try.prog c80 ir80.body env σ (retQ ir80 Q)) : ACalls Try.prog 80 args σ Q :=
  acalls_of Try.func80 ok80 rfl (Nat.le_of_ble_eq_true hl) h
/- spans.Set).Take -/
def c81 : Cfg := ⟨qs, [], 50, [], ps⟩
def ir81 : IFun := ⟨2, [.tmp s4],
  (.seq (.reg (.one ⟨some s3, none, (.box 2 (.t s1))⟩
    (.one ⟨some s4, none, (.mv (.c (.v (.int .i64 0))))⟩
    .done)))
  (.seq (.seq (.reg (.one ⟨some s10, none, (.mv (.t s0))⟩
    (.one ⟨some s11, none, (.load (some 2) (.t s3))⟩
    (.one ⟨some s12, none, (.callq 98 [(.t s10), (.t s11)])⟩
    (.one ⟨some s5, none, (.mv (.t s12))⟩
    .done)))))
  (.seq (.reg (.one ⟨some s13, none, (.mv (.t s5))⟩
    (.one ⟨some s14, none, (.bin false .neq (.t s13) (.c (.v (.int .i64 0))))⟩
    .done)))
  (.cond (.t s14) (.seq (.reg (.one ⟨some s15, none, (.mv (.t s5))⟩
    (.one ⟨some s4, none, (.mv (.t s15))⟩
    .done)))
  .ret) .skip)))
  (.seq (.reg (.one ⟨some s6, none, (.new [(.slice 2 [] .full)])⟩
    .done))
  (.seq (.reg (.one ⟨some s16, none, (.fn 107 [] [(.t s6)])⟩
    (.one ⟨some s7, none, (.mv (.t s16))⟩
    .done)))
  (.seq (.seq (.reg (.one ⟨some s17, none, (.mv (.t s0))⟩
    (.one ⟨some s18, none, (.nilchk (.t s17))⟩
    (.one ⟨some s19, none, (.faddr 0 (.t s18))⟩
    (.one ⟨some s20, none, (.load none (.t s19))⟩
    (.one ⟨some s21, none, (.len false (.t s20))⟩
    (.one ⟨some s22, none, (.mv (.c (.v (.int .i64 0))))⟩
    .done)))))))
  (.block 0 (.loop (.seq (.reg (.one ⟨some s23, none, (.bin false .lss (.t s22) (.t s21))⟩
    .done))
  (.seq (.cond (.t s23) .skip (.exit 0))
  (.seq (.block 1 (.seq (.reg (.one ⟨some s24, none, (.iaddr 2 (.t s20) (.t s22))⟩
    (.one ⟨some s25, none, (.load (some 2) (.t s24))⟩
    (.one ⟨some s9, none, (.new [(.v (.int .i64 0)), (.v (.int .i64 0))])⟩
    (.one ⟨none, none, (.store 2 (.t s9) (.t s25))⟩
    .done)))))
  (.seq (.reg (.one ⟨some s26, none, (.mv (.t s7))⟩
    (.one ⟨some s27, none, (.faddr 0 (.t s9))⟩
    (.one ⟨some s28, none, (.load none (.t s27))⟩
    (.one ⟨some s29, none, (.faddr 1 (.t s9))⟩
    (.one ⟨some s30, none, (.load none (.t s29))⟩
    (.one ⟨some s31, none, (.faddr 0 (.t s3))⟩
    (.one ⟨some s32, none, (.load none (.t s31))⟩
    (.one ⟨some s33, none, (.mxmn false (.t s30) (.t s32))⟩
    (.one ⟨some s34, none, (.build [(.v (.int .i64 0)), (.v (.int .i64 0))] [(0, 1, (.t s28)), (1, 1, (.t s33))])⟩
    (.one ⟨some s35, none, (.callv (.t s26) [(.t s34)])⟩
    .done)))))))))))
  (.reg (.one ⟨some s36, none, (.mv (.t s7))⟩
    (.one ⟨some s37, none, (.faddr 0 (.t s9))⟩
    (.one ⟨some s38, none, (.load none (.t s37))⟩
    (.one ⟨some s39, none, (.faddr 1 (.t s3))⟩
    (.one ⟨some s40, none, (.load none (.t s39))⟩
    (.one ⟨some s41, none, (.mxmn true (.t s38) (.t s40))⟩
    (.one ⟨some s42, none, (.faddr 1 (.t s9))⟩
    (.one ⟨some s43, none, (.load none (.t s42))⟩
    (.one ⟨some s44, none, (.build [(.v (.int .i64 0)), (.v (.int .i64 0))] [(0, 1, (.t s41)), (1, 1, (.t s43))])⟩
    (.one ⟨some s45, none, (.callv (.t s36) [(.t s44)])⟩
    .done))))))))))))))
  (.reg (.one ⟨some s46, none, (.bin false .add (.t s22) (.c (.v (.int .i64 1))))⟩
    (.one ⟨some s22, none, (.mv (.t s46))⟩
    .done)))))))))
  (.seq (.reg (.one ⟨some s47, none, (.mv (.t s0))⟩
    (.one ⟨some s48, none, (.load none (.t s6))⟩
    (.one ⟨some s49, none, (.call 99 [(.t s47), (.t s48)])⟩
    (.one ⟨some s4, none, (.mv (.t s49))⟩
    .done)))))
  .ret))))))⟩
theorem ok81 : compF Try.prog c81 Try.f81 = some ir81 := by kernel_rfl
theorem k_spans_Set_Take {args : List AVal} {σ : AHeap} {Q : AVal → AHeap → Prop} (hl : Nat.ble args.length 50 = true) (h : argsK (Env.full 9) 0 args fun env => evC Try.prog c81 ir81.body env σ (retQ ir81 Q)) : ACalls Try.prog 81 args σ Q :=
  acalls_of Try.func81 ok81 rfl (Nat.le_of_ble_eq_true hl) h
/- spans.Set).ask -/
def c98 : Cfg := ⟨qs, [], 12, [], ps⟩
def ir98 : IFun := ⟨2, [.tmp s4],
  (.seq (.reg (.one ⟨some s3, none, (.box 2 (.t s1))⟩
    (.one ⟨some s4, none, (.mv (.c (.v (.int .i64 0))))⟩
    .done)))
  (.seq (.block 0 (.seq (.reg (.one ⟨some s6, none, (.mv (.t s0))⟩
    (.one ⟨some s7, none, (.eqNil 1 false (.t s6))⟩
    (.one ⟨some s5, none, (.mv (.t s7))⟩
    .done))))
  (.cond (.t s5) (.seq (.reg (.one ⟨some s4, none, (.mv (.c (.v (.int .i64 6))))⟩
    .done))
  .ret) (.seq (.reg (.one ⟨some s9, none, (.load (some 2) (.t s3))⟩
    (.one ⟨some s10, none, (.callq 122 [(.t s9)])⟩
    (.one ⟨some s11, none, (.not (.t s10))⟩
    (.one ⟨some s8, none, (.mv (.t s11))⟩
    .done)))))
  (.cond (.t s8) (.seq (.reg (.one ⟨some s4, none, (.mv (.c (.v (.int .i64 1))))⟩
    .done))
  .ret) .skip)))))
  (.seq (.reg (.one ⟨some s4, none, (.mv (.c (.v (.int .i64 0))))⟩
    .done))
  .ret)))⟩
theorem ok98 : compF Try.prog c98 Try.f98 = some ir98 := by kernel_rfl
theorem k_spans_Set_ask {args : List AVal} {σ : AHeap} {Q : AVal → AHeap → Prop} (hl : Nat.ble args.length 12 = true) (h : argsK (Env.full 9) 0 args fun env => evC Try.prog c98 ir98.body env σ (retQ ir98 Q)) : ACalls Try.prog 98 args σ Q :=
  acalls_of Try.func98 ok98 rfl (Nat.le_of_ble_eq_true hl) h
/- spans.Set).keep -/
def c99 : Cfg := ⟨qs, [], 12, [], ps⟩
def ir99 : IFun := ⟨2, [.tmp s4],
  (.seq (.reg (.one ⟨some s4, none, (.mv (.c (.v (.int .i64 0))))⟩
    .done))
  (.seq (.seq (.reg (.one ⟨some s5, none, (.mv (.t s1))⟩
    (.one ⟨some s6, none, (.len false (.t s5))⟩
    (.one ⟨some s7, none, (.bin false .gtr (.t s6) (.c (.v (.int .i64 2048))))⟩
    .done))))
  (.cond (.t s7) (.seq (.reg (.one ⟨some s4, none, (.mv (.c (.v (.int .i64 5))))⟩
    .done))
  .ret) .skip))
  (.seq (.reg (.one ⟨some s8, none, (.mv (.t s0))⟩
    (.one ⟨some s9, none, (.mv (.t s1))⟩
    (.one ⟨some s10, none, (.nilchk (.t s8))⟩
    (.one ⟨some s11, none, (.faddr 0 (.t s10))⟩
    (.one ⟨none, none, (.store 1 (.t s11) (.t s9))⟩
    .done))))))
  (.seq (.reg (.one ⟨some s4, none, (.mv (.c (.v (.int .i64 0))))⟩
    .done))
  .ret))))⟩
theorem ok99 : compF Try.prog c99 Try.f99 = some ir99 := by kernel_rfl
theorem k_spans_Set_keep {args : List AVal} {σ : AHeap} {Q : AVal → AHeap → Prop} (hl : Nat.ble args.length 12 = true) (h : argsK (Env.full 9) 0 args fun env => evC Try.prog c99 ir99.body env σ (retQ ir99 Q)) : ACalls Try.prog 99 args σ Q :=
  acalls_of Try.func99 ok99 rfl (Nat.le_of_ble_eq_true hl) h
/- spans.Span] -/
def c104 : Cfg := ⟨qs, [], 9, [], ps⟩
def ir104 : IFun := ⟨2, [.tmp s4],
  (.seq (.reg (.one ⟨some s4, none, (.mv (.c (.v (.bool false))))⟩
    .done))
  (.seq (.reg (.one ⟨some s5, none, (.mv (.t s0))⟩
    (.one ⟨some s6, none, (.mv (.t s1))⟩
    (.one ⟨some s7, none, (.callq 134 [(.t s5), (.t s6)])⟩
    (.one ⟨some s8, none, (.bin false .geq (.t s7) (.c (.v (.int .i64 0))))⟩
    (.one ⟨some s4, none, (.mv (.t s8))⟩
    .done))))))
  .ret))⟩
theorem ok104 : compF Try.prog c104 Try.f104 = some ir104 := by kernel_rfl
theorem k_slices_ContainsFunc_spans_Span {args : List AVal} {σ : AHeap} {Q : AVal → AHeap → Prop} (hl : Nat.ble args.length 9 = true) (h : argsK (Env.full 9) 0 args fun env => evC Try.prog c104 ir104.body env σ (retQ ir104 Q)) : ACalls Try.prog 104 args σ Q :=
  acalls_of Try.func104 ok104 rfl (Nat.le_of_ble_eq_true hl) h
/- spans.Set).Has$1 -/
def c105 : Cfg := ⟨qs, [], 16, [], ps⟩
def ir105 : IFun := ⟨2, [.tmp s3],
  (.seq (.reg (.one ⟨some s2, none, (.box 2 (.t s0))⟩
    (.one ⟨some s3, none, (.mv (.c (.v (.bool false))))⟩
    .done)))
  (.seq (.reg (.one ⟨some s4, none, (.faddr 0 (.t s2))⟩
    (.one ⟨some s5, none, (.load none (.t s4))⟩
    (.one ⟨some s6, none, (.faddr 0 (.t s1))⟩
    (.one ⟨some s7, none, (.load none (.t s6))⟩
    (.one ⟨some s8, none, (.bin false .leq (.t s5) (.t s7))⟩
    (.one ⟨some s9, none, (.mv (.t s8))⟩
    (.one ⟨some s10, some (s9, true), (.faddr 1 (.t s1))⟩
    (.one ⟨some s11, some (s9, true), (.load none (.t s10))⟩
    (.one ⟨some s12, some (s9, true), (.faddr 1 (.t s2))⟩
    (.one ⟨some s13, some (s9, true), (.load none (.t s12))⟩
    (.one ⟨some s14, some (s9, true), (.bin false .leq (.t s11) (.t s13))⟩
    (.one ⟨some s15, none, (.pick (.t s9) (.t s14) (.c (.v (.bool false))))⟩
    (.one ⟨some s3, none, (.mv (.t s15))⟩
    .done))))))))))))))
  .ret))⟩
theorem ok105 : compF Try.prog c105 Try.f105 = some ir105 := by kernel_rfl
theorem k_spans_Set_Has_1 {args : List AVal} {σ : AHeap} {Q : AVal → AHeap → Prop} (hl : Nat.ble args.length 16 = true) (h : argsK (Env.full 9) 0 args fun env => evC Try.prog c105 ir105.body env σ (retQ ir105 Q)) : ACalls Try.prog 105 args σ Q :=
  acalls_of Try.func105 ok105 rfl (Nat.le_of_ble_eq_true hl) h
/- spans.Span] -/
def c106 : Cfg := ⟨qs, [], 8, [], ps⟩
def ir106 : IFun := ⟨1, [.tmp s2],
  (.seq (.reg (.one ⟨some s2, none, (.mv (.c (.slice 2 [] .full)))⟩
    .done))
  (.seq (.seq (.reg (.one ⟨some s3, none, (.mv (.t s0))⟩
    (.one ⟨some s4, none, (.eqNil 0 false (.t s3))⟩
    .done)))
  (.cond (.t s4) (.seq (.reg (.one ⟨some s2, none, (.mv (.c (.slice 2 [] .full)))⟩
    .done))
  .ret) .skip))
  (.seq (.reg (.one ⟨some s5, none, (.row 2 [])⟩
    (.one ⟨some s6, none, (.mv (.t s0))⟩
    (.one ⟨some s7, none, (.app 2 16 (.t s5) (.t s6))⟩
    (.one ⟨some s2, none, (.mv (.t s7))⟩
    .done)))))
  .ret)))⟩
theorem ok106 : compF Try.prog c106 Try.f106 = some ir106 := by kernel_rfl
theorem k_spans_Span {args : List AVal} {σ : AHeap} {Q : AVal → AHeap → Prop} (hl : Nat.ble args.length 8 = true) (h : argsK (Env.full 9) 0 args fun env => evC Try.prog c106 ir106.body env σ (retQ ir106 Q)) : ACalls Try.prog 106 args σ Q :=
  acalls_of Try.func106 ok106 rfl (Nat.le_of_ble_eq_true hl) h
/- spans.Set).Take$1 -/
def c107 : Cfg := ⟨qs, [], 12, [], ps⟩
def ir107 : IFun := ⟨2, [],
  (.seq (.reg (.one ⟨some s2, none, (.box 2 (.t s0))⟩
    .done))
  (.seq (.reg (.one ⟨some s3, none, (.faddr 0 (.t s2))⟩
    (.one ⟨some s4, none, (.load none (.t s3))⟩
    (.one ⟨some s5, none, (.faddr 1 (.t s2))⟩
    (.one ⟨some s6, none, (.load none (.t s5))⟩
    (.one ⟨some s7, none, (.bin false .lss (.t s4) (.t s6))⟩
    .done))))))
  (.cond (.t s7) (.reg (.one ⟨some s8, none, (.load none (.t s1))⟩
    (.one ⟨some s9, none, (.load (some 2) (.t s2))⟩
    (.one ⟨some s10, none, (.row 2 [(.t s9)])⟩
    (.one ⟨some s11, none, (.app 2 16 (.t s8) (.t s10))⟩
    (.one ⟨none, none, (.store 1 (.t s1) (.t s11))⟩
    .done)))))) .skip)))⟩
theorem ok107 : compF Try.prog c107 Try.f107 = some ir107 := by kernel_rfl
theorem k_spans_Set_Take_1 {args : List AVal} {σ : AHeap} {Q : AVal → AHeap → Prop} (hl : Nat.ble args.length 12 = true) (h : argsK (Env.full 9) 0 args fun env => evC Try.prog c107 ir107.body env σ (retQ ir107 Q)) : ACalls Try.prog 107 args σ Q :=
  acalls_of Try.func107 ok107 rfl (Nat.le_of_ble_eq_true hl) h
/- spans.Right -/
def c122 : Cfg := ⟨qs, [], 18, [], ps⟩
def ir122 : IFun := ⟨1, [.tmp s2],
  (.seq (.reg (.one ⟨some s1, none, (.box 2 (.t s0))⟩
    (.one ⟨some s2, none, (.mv (.c (.v (.bool false))))⟩
    .done)))
  (.seq (.reg (.one ⟨some s3, none, (.faddr 0 (.t s1))⟩
    (.one ⟨some s4, none, (.load none (.t s3))⟩
    (.one ⟨some s5, none, (.bin false .geq (.t s4) (.c (.v (.int .i64 0))))⟩
    (.one ⟨some s6, none, (.mv (.t s5))⟩
    (.one ⟨some s7, some (s6, true), (.faddr 0 (.t s1))⟩
    (.one ⟨some s8, some (s6, true), (.load none (.t s7))⟩
    (.one ⟨some s9, some (s6, true), (.faddr 1 (.t s1))⟩
    (.one ⟨some s10, some (s6, true), (.load none (.t s9))⟩
    (.one ⟨some s11, some (s6, true), (.bin false .lss (.t s8) (.t s10))⟩
    (.one ⟨some s12, none, (.pick (.t s6) (.t s11) (.c (.v (.bool false))))⟩
    (.one ⟨some s13, none, (.mv (.t s12))⟩
    (.one ⟨some s14, some (s13, true), (.faddr 1 (.t s1))⟩
    (.one ⟨some s15, some (s13, true), (.load none (.t s14))⟩
    (.one ⟨some s16, some (s13, true), (.bin false .leq (.t s15) (.c (.v (.int .i64 65536))))⟩
    (.one ⟨some s17, none, (.pick (.t s13) (.t s16) (.c (.v (.bool false))))⟩
    (.one ⟨some s2, none, (.mv (.t s17))⟩
    .done)))))))))))))))))
  .ret))⟩
theorem ok122 : compF Try.prog c122 Try.f122 = some ir122 := by kernel_rfl
theorem k_spans_Right {args : List AVal} {σ : AHeap} {Q : AVal → AHeap → Prop} (hl : Nat.ble args.length 18 = true) (h : argsK (Env.full 9) 0 args fun env => evC Try.prog c122 ir122.body env σ (retQ ir122 Q)) : ACalls Try.prog 122 args σ Q :=
  acalls_of Try.func122 ok122 rfl (Nat.le_of_ble_eq_true hl) h
/- spans.Span] -/
def c134 : Cfg := ⟨qs, [], 19, [], ps⟩
def ir134 : IFun := ⟨2, [.tmp s4],
  (.seq (.reg (.one ⟨some s4, none, (.mv (.c (.v (.int .i64 0))))⟩
    .done))
  (.seq (.seq (.reg (.one ⟨some s6, none, (.mv (.t s0))⟩
    (.one ⟨some s7, none, (.len false (.t s6))⟩
    (.one ⟨some s8, none, (.mv (.c (.v (.int .i64 0))))⟩
    .done))))
  (.block 0 (.loop (.seq (.reg (.one ⟨some s9, none, (.bin false .lss (.t s8) (.t s7))⟩
    .done))
  (.seq (.cond (.t s9) .skip (.exit 0))
  (.seq (.block 1 (.seq (.reg (.one ⟨some s10, none, (.mv (.t s8))⟩
    (.one ⟨some s5, none, (.mv (.t s10))⟩
    .done)))
  (.seq (.reg (.one ⟨some s11, none, (.mv (.t s1))⟩
    (.one ⟨some s12, none, (.mv (.t s0))⟩
    (.one ⟨some s13, none, (.mv (.t s5))⟩
    (.one ⟨some s14, none, (.iaddr 2 (.t s12) (.t s13))⟩
    (.one ⟨some s15, none, (.load (some 2) (.t s14))⟩
    (.one ⟨some s16, none, (.callv (.t s11) [(.t s15)])⟩
    .done)))))))
  (.cond (.t s16) (.seq (.reg (.one ⟨some s17, none, (.mv (.t s5))⟩
    (.one ⟨some s4, none, (.mv (.t s17))⟩
    .done)))
  .ret) .skip))))
  (.reg (.one ⟨some s18, none, (.bin false .add (.t s8) (.c (.v (.int .i64 1))))⟩
    (.one ⟨some s8, none, (.mv (.t s18))⟩
    .done)))))))))
  (.seq (.reg (.one ⟨some s4, none, (.mv (.c (.v (.int .i64 (-1)))))⟩
    .done))
  .ret)))⟩
theorem ok134 : compF Try.prog c134 Try.f134 = some ir134 := by kernel_rfl
theorem k_slices_IndexFunc_spans_Span {args : List AVal} {σ : AHeap} {Q : AVal → AHeap → Prop} (hl : Nat.ble args.length 19 = true) (h : argsK (Env.full 9) 0 args fun env => evC Try.prog c134 ir134.body env σ (retQ ir134 Q)) : ACalls Try.prog 134 args σ Q :=
  acalls_of Try.func134 ok134 rfl (Nat.le_of_ble_eq_true hl) h
end Go.Proofs.Ytgobbmdbkmjlnaa
/-
  The bodies of one package, compiled to the framework's language (printed by a program of this session).
-/
namespace Go.Proofs.Ytgobbmdbkmjlnaa
set_option linter.unusedVariables false
set_option linter.unusedSimpArgs false
open Go Go.Am
/- seqnum.Space).Is -/
def c117 : Cfg := ⟨qs, [], 13, [], ps⟩
def ir117 : IFun := ⟨2, [.tmp s4],
  (.seq (.reg (.one ⟨some s2, none, (.box 1 (.t s0))⟩
    (.one ⟨some s4, none, (.mv (.c (.v (.bool false))))⟩
    .done)))
  (.seq (.reg (.one ⟨some s5, none, (.mv (.t s1))⟩
    (.one ⟨some s6, none, (.bin false .geq (.t s5) (.c (.v (.int .i64 0))))⟩
    (.one ⟨some s7, none, (.mv (.t s6))⟩
    (.one ⟨some s8, some (s7, true), (.mv (.t s1))⟩
    (.one ⟨some s9, some (s7, true), (.load (some 1) (.t s2))⟩
    (.one ⟨some s10, some (s7, true), (.callq 136 [(.t s9)])⟩
    (.one ⟨some s11, some (s7, true), (.bin false .lss (.t s8) (.t s10))⟩
    (.one ⟨some s12, none, (.pick (.t s7) (.t s11) (.c (.v (.bool false))))⟩
    (.one ⟨some s4, none, (.mv (.t s12))⟩
    .done))))))))))
  .ret))⟩
theorem ok117 : compF Try.prog c117 Try.f117 = some ir117 := by kernel_rfl
theorem k_seqnum_Space_Is {args : List AVal} {σ : AHeap} {Q : AVal → AHeap → Prop} (hl : Nat.ble args.length 13 = true) (h : argsK (Env.full 9) 0 args fun env => evC Try.prog c117 ir117.body env σ (retQ ir117 Q)) : ACalls Try.prog 117 args σ Q :=
  acalls_of Try.func117 ok117 rfl (Nat.le_of_ble_eq_true hl) h
/- seqnum.Space).Size -/
def c136 : Cfg := ⟨qs, [], 9, [], ps⟩
def ir136 : IFun := ⟨1, [.tmp s2],
  (.seq (.reg (.one ⟨some s1, none, (.box 1 (.t s0))⟩
    (.one ⟨some s2, none, (.mv (.c (.v (.int .i64 0))))⟩
    .done)))
  (.seq (.seq (.reg (.one ⟨some s3, none, (.load (some 1) (.t s1))⟩
    (.one ⟨some s4, none, (.callq 143 [(.t s3)])⟩
    (.one ⟨some s5, none, (.not (.t s4))⟩
    .done))))
  (.cond (.t s5) (.seq (.reg (.one ⟨some s2, none, (.mv (.c (.v (.int .i64 0))))⟩
    .done))
  .ret) .skip))
  (.seq (.reg (.one ⟨some s6, none, (.faddr 0 (.t s1))⟩
    (.one ⟨some s7, none, (.load none (.t s6))⟩
    (.one ⟨some s8, none, (.bin false .shl (.c (.v (.int .i64 1))) (.t s7))⟩
    (.one ⟨some s2, none, (.mv (.t s8))⟩
    .done)))))
  .ret)))⟩
theorem ok136 : compF Try.prog c136 Try.f136 = some ir136 := by kernel_rfl
theorem k_seqnum_Space_Size {args : List AVal} {σ : AHeap} {Q : AVal → AHeap → Prop} (hl : Nat.ble args.length 9 = true) (h : argsK (Env.full 9) 0 args fun env => evC Try.prog c136 ir136.body env σ (retQ ir136 Q)) : ACalls Try.prog 136 args σ Q :=
  acalls_of Try.func136 ok136 rfl (Nat.le_of_ble_eq_true hl) h
/- seqnum.Right -/
def c143 : Cfg := ⟨qs, [], 16, [], ps⟩
def ir143 : IFun := ⟨1, [.tmp s2],
  (.seq (.reg (.one ⟨some s1, none, (.box 1 (.t s0))⟩
    (.one ⟨some s2, none, (.mv (.c (.v (.bool false))))⟩
    .done)))
  (.seq (.reg (.one ⟨some s3, none, (.load (some 1) (.t s1))⟩
    (.one ⟨some s4, none, (.build [(.v (.int .i64 0))] [])⟩
    (.one ⟨some s5, none, (.eqAgg true [false] (.t s3) (.t s4))⟩
    (.one ⟨some s6, none, (.mv (.t s5))⟩
    (.one ⟨some s7, some (s6, true), (.faddr 0 (.t s1))⟩
    (.one ⟨some s8, some (s6, true), (.load none (.t s7))⟩
    (.one ⟨some s9, some (s6, true), (.bin false .geq (.t s8) (.c (.v (.int .i64 1))))⟩
    (.one ⟨some s10, none, (.pick (.t s6) (.t s9) (.c (.v (.bool false))))⟩
    (.one ⟨some s11, none, (.mv (.t s10))⟩
    (.one ⟨some s12, some (s11, true), (.faddr 0 (.t s1))⟩
    (.one ⟨some s13, some (s11, true), (.load none (.t s12))⟩
    (.one ⟨some s14, some (s11, true), (.bin false .leq (.t s13) (.c (.v (.int .i64 16))))⟩
    (.one ⟨some s15, none, (.pick (.t s11) (.t s14) (.c (.v (.bool false))))⟩
    (.one ⟨some s2, none, (.mv (.t s15))⟩
    .done)))))))))))))))
  .ret))⟩
theorem ok143 : compF Try.prog c143 Try.f143 = some ir143 := by kernel_rfl
theorem k_seqnum_Right {args : List AVal} {σ : AHeap} {Q : AVal → AHeap → Prop} (hl : Nat.ble args.length 16 = true) (h : argsK (Env.full 9) 0 args fun env => evC Try.prog c143 ir143.body env σ (retQ ir143 Q)) : ACalls Try.prog 143 args σ Q :=
  acalls_of Try.func143 ok143 rfl (Nat.le_of_ble_eq_true hl) h
end Go.Proofs.Ytgobbmdbkmjlnaa
/-
  The bodies of one package, compiled to the framework's language (printed by a program of this session).
-/
namespace Go.Proofs.Ytgobbmdbkmjlnaa
set_option linter.unusedVariables false
set_option linter.unusedSimpArgs false
open Go Go.Am
/- bowlineref02.Is -/
def c111 : Cfg := ⟨qs, [], 13, [], ps⟩
def ir111 : IFun := ⟨2, [.tmp s4],
  (.seq (.reg (.one ⟨some s4, none, (.mv (.c (.v (.bool false))))⟩
    .done))
  (.seq (.reg (.one ⟨some s5, none, (.mv (.t s1))⟩
    (.one ⟨some s6, none, (.bin false .geq (.t s5) (.c (.v (.int .i64 0))))⟩
    (.one ⟨some s7, none, (.mv (.t s6))⟩
    (.one ⟨some s8, some (s7, true), (.mv (.t s1))⟩
    (.one ⟨some s9, some (s7, true), (.mv (.t s0))⟩
    (.one ⟨some s10, some (s7, true), (.callq 112 [(.t s9)])⟩
    (.one ⟨some s11, some (s7, true), (.bin false .lss (.t s8) (.t s10))⟩
    (.one ⟨some s12, none, (.pick (.t s7) (.t s11) (.c (.v (.bool false))))⟩
    (.one ⟨some s4, none, (.mv (.t s12))⟩
    .done))))))))))
  .ret))⟩
theorem ok111 : compF Try.prog c111 Try.f111 = some ir111 := by kernel_rfl
theorem k_bowlineref02_Is {args : List AVal} {σ : AHeap} {Q : AVal → AHeap → Prop} (hl : Nat.ble args.length 13 = true) (h : argsK (Env.full 9) 0 args fun env => evC Try.prog c111 ir111.body env σ (retQ ir111 Q)) : ACalls Try.prog 111 args σ Q :=
  acalls_of Try.func111 ok111 rfl (Nat.le_of_ble_eq_true hl) h
/- bowlineref02.Size -/
def c112 : Cfg := ⟨qs, [], 19, [], ps⟩
def ir112 : IFun := ⟨1, [.tmp s2],
  (.seq (.reg (.one ⟨some s2, none, (.mv (.c (.v (.int .i64 0))))⟩
    .done))
  (.seq (.seq (.reg (.one ⟨some s5, none, (.mv (.t s0))⟩
    (.one ⟨some s6, none, (.bin false .lss (.t s5) (.c (.v (.int .i64 1))))⟩
    (.one ⟨some s7, none, (.mv (.t s6))⟩
    (.one ⟨some s8, some (s7, false), (.mv (.t s0))⟩
    (.one ⟨some s9, some (s7, false), (.bin false .gtr (.t s8) (.c (.v (.int .i64 16))))⟩
    (.one ⟨some s10, none, (.pick (.t s7) (.c (.v (.bool true))) (.t s9))⟩
    .done)))))))
  (.cond (.t s10) (.seq (.reg (.one ⟨some s2, none, (.mv (.c (.v (.int .i64 0))))⟩
    .done))
  .ret) .skip))
  (.seq (.reg (.one ⟨some s3, none, (.mv (.c (.v (.int .i64 1))))⟩
    .done))
  (.seq (.seq (.reg (.one ⟨some s4, none, (.mv (.c (.v (.int .i64 0))))⟩
    .done))
  (.block 0 (.loop (.seq (.seq (.reg (.one ⟨some s11, none, (.mv (.t s4))⟩
    (.one ⟨some s12, none, (.mv (.t s0))⟩
    (.one ⟨some s13, none, (.bin false .lss (.t s11) (.t s12))⟩
    .done))))
  (.cond (.t s13) .skip (.exit 0)))
  (.seq (.block 1 (.reg (.one ⟨some s16, none, (.mv (.t s3))⟩
    (.one ⟨some s17, none, (.bin false .mul (.c (.v (.int .i64 2))) (.t s16))⟩
    (.one ⟨some s3, none, (.mv (.t s17))⟩
    .done)))))
  (.reg (.one ⟨some s14, none, (.mv (.t s4))⟩
    (.one ⟨some s15, none, (.bin false .add (.t s14) (.c (.v (.int .i64 1))))⟩
    (.one ⟨some s4, none, (.mv (.t s15))⟩
    .done)))))))))
  (.seq (.reg (.one ⟨some s18, none, (.mv (.t s3))⟩
    (.one ⟨some s2, none, (.mv (.t s18))⟩
    .done)))
  .ret)))))⟩
theorem ok112 : compF Try.prog c112 Try.f112 = some ir112 := by kernel_rfl
theorem k_bowlineref02_Size {args : List AVal} {σ : AHeap} {Q : AVal → AHeap → Prop} (hl : Nat.ble args.length 19 = true) (h : argsK (Env.full 9) 0 args fun env => evC Try.prog c112 ir112.body env σ (retQ ir112 Q)) : ACalls Try.prog 112 args σ Q :=
  acalls_of Try.func112 ok112 rfl (Nat.le_of_ble_eq_true hl) h
end Go.Proofs.Ytgobbmdbkmjlnaa
/-
  The bodies of one package, compiled to the framework's language (printed by a program of this session).
-/
namespace Go.Proofs.Ytgobbmdbkmjlnaa
set_option linter.unusedVariables false
set_option linter.unusedSimpArgs false
open Go Go.Am
/- amd.Data -/
def c33 : Cfg := ⟨qs, [], 6, [], ps⟩
def ir33 : IFun := ⟨1, [.tmp s2],
  (.seq (.reg (.one ⟨some s1, none, (.box 7 (.t s0))⟩
    (.one ⟨some s2, none, (.mv (.c (.slice 1 [] .full)))⟩
    .done)))
  (.seq (.reg (.one ⟨some s3, none, (.faddr 6 (.t s1))⟩
    (.one ⟨some s4, none, (.load none (.t s3))⟩
    (.one ⟨some s5, none, (.callq 76 [(.t s4), (.c (.slice 1 [] .full))])⟩
    (.one ⟨some s2, none, (.mv (.t s5))⟩
    .done)))))
  .ret))⟩
theorem ok33 : compF Try.prog c33 Try.f33 = some ir33 := by kernel_rfl
theorem k_amd_Data {args : List AVal} {σ : AHeap} {Q : AVal → AHeap → Prop} (hl : Nat.ble args.length 6 = true) (h : argsK (Env.full 9) 0 args fun env => evC Try.prog c33 ir33.body env σ (retQ ir33 Q)) : ACalls Try.prog 33 args σ Q :=
  acalls_of Try.func33 ok33 rfl (Nat.le_of_ble_eq_true hl) h
/- amd.Right -/
def c49 : Cfg := ⟨qs, [], 9, [], ps⟩
def ir49 : IFun := ⟨2, [.tmp s4],
  (.seq (.reg (.one ⟨some s2, none, (.box 7 (.t s0))⟩
    (.one ⟨some s4, none, (.mv (.c (.v (.bool false))))⟩
    .done)))
  (.seq (.reg (.one ⟨some s5, none, (.load (some 7) (.t s2))⟩
    (.one ⟨some s6, none, (.mv (.t s1))⟩
    (.one ⟨some s7, none, (.callq 91 [(.t s5), (.t s6)])⟩
    (.one ⟨some s8, none, (.bin false .gtr (.t s7) (.c (.v (.int .i64 0))))⟩
    (.one ⟨some s4, none, (.mv (.t s8))⟩
    .done))))))
  .ret))⟩
theorem ok49 : compF Try.prog c49 Try.f49 = some ir49 := by kernel_rfl
theorem k_amd_Right {args : List AVal} {σ : AHeap} {Q : AVal → AHeap → Prop} (hl : Nat.ble args.length 9 = true) (h : argsK (Env.full 9) 0 args fun env => evC Try.prog c49 ir49.body env σ (retQ ir49 Q)) : ACalls Try.prog 49 args σ Q :=
  acalls_of Try.func49 ok49 rfl (Nat.le_of_ble_eq_true hl) h
/- amd.Size -/
def c91 : Cfg := ⟨qs, [], 118, [], ps⟩
def ir91 : IFun := ⟨2, [.tmp s4],
  (.seq (.reg (.one ⟨some s2, none, (.box 7 (.t s0))⟩
    (.one ⟨some s4, none, (.mv (.c (.v (.int .i64 0))))⟩
    .done)))
  (.seq (.reg (.one ⟨some s9, none, (.mv (.t s1))⟩
    (.one ⟨some s10, none, (.build [(.v (.int .i64 0))] [(0, 1, (.t s9))])⟩
    (.one ⟨some s5, none, (.new [(.v (.int .i64 0))])⟩
    (.one ⟨none, none, (.store 1 (.t s5) (.t s10))⟩
    .done)))))
  (.seq (.block 0 (.seq (.reg (.one ⟨some s12, none, (.mv (.t s1))⟩
    (.one ⟨some s13, none, (.callq 116 [(.t s12)])⟩
    (.one ⟨some s14, none, (.not (.t s13))⟩
    (.one ⟨some s15, none, (.mv (.t s14))⟩
    (.one ⟨some s16, some (s15, false), (.faddr 1 (.t s2))⟩
    (.one ⟨some s17, some (s15, false), (.load none (.t s16))⟩
    (.one ⟨some s18, some (s15, false), (.bin false .lss (.t s17) (.c (.v (.int .i64 0))))⟩
    (.one ⟨some s19, none, (.pick (.t s15) (.c (.v (.bool true))) (.t s18))⟩
    (.one ⟨some s20, none, (.mv (.t s19))⟩
    (.one ⟨some s21, some (s20, false), (.faddr 1 (.t s2))⟩
    (.one ⟨some s22, some (s20, false), (.load none (.t s21))⟩
    (.one ⟨some s23, some (s20, false), (.bin false .gtr (.t s22) (.c (.v (.int .i64 3))))⟩
    (.one ⟨some s24, none, (.pick (.t s20) (.c (.v (.bool true))) (.t s23))⟩
    (.one ⟨some s25, none, (.mv (.t s24))⟩
    (.one ⟨some s26, some (s25, false), (.load (some 1) (.t s5))⟩
    (.one ⟨some s27, some (s25, false), (.faddr 2 (.t s2))⟩
    (.one ⟨some s28, some (s25, false), (.load none (.t s27))⟩
    (.one ⟨some s29, some (s25, false), (.callq 117 [(.t s26), (.t s28)])⟩
    (.one ⟨some s30, some (s25, false), (.not (.t s29))⟩
    (.one ⟨some s31, none, (.pick (.t s25) (.c (.v (.bool true))) (.t s30))⟩
    (.one ⟨some s11, none, (.mv (.t s31))⟩
    .done))))))))))))))))))))))
  (.cond (.t s11) (.seq (.reg (.one ⟨some s4, none, (.mv (.c (.v (.int .i64 0))))⟩
    .done))
  .ret) (.seq (.reg (.one ⟨some s33, none, (.faddr 3 (.t s2))⟩
    (.one ⟨some s34, none, (.load none (.t s33))⟩
    (.one ⟨some s35, none, (.not (.t s34))⟩
    (.one ⟨some s36, none, (.mv (.t s35))⟩
    (.one ⟨some s37, some (s36, true), (.faddr 4 (.t s2))⟩
    (.one ⟨some s38, some (s36, true), (.load none (.t s37))⟩
    (.one ⟨some s39, some (s36, true), (.mv (.t s38))⟩
    (.one ⟨some s40, some (s39, false), (.faddr 5 (.t s2))⟩
    (.one ⟨some s41, some (s39, false), (.load none (.t s40))⟩
    (.one ⟨some s42, some (s39, false), (.bin false .neq (.t s41) (.c (.v (.int .i64 0))))⟩
    (.one ⟨some s43, some (s36, true), (.pick (.t s39) (.c (.v (.bool true))) (.t s42))⟩
    (.one ⟨some s44, none, (.pick (.t s36) (.t s43) (.c (.v (.bool false))))⟩
    (.one ⟨some s45, none, (.mv (.t s44))⟩
    (.one ⟨some s46, some (s45, false), (.faddr 5 (.t s2))⟩
    (.one ⟨some s47, some (s45, false), (.load none (.t s46))⟩
    (.one ⟨some s48, some (s45, false), (.bin false .lss (.t s47) (.c (.v (.int .i64 0))))⟩
    (.one ⟨some s49, none, (.pick (.t s45) (.c (.v (.bool true))) (.t s48))⟩
    (.one ⟨some s50, none, (.mv (.t s49))⟩
    (.one ⟨some s51, some (s50, false), (.faddr 5 (.t s2))⟩
    (.one ⟨some s52, some (s50, false), (.load none (.t s51))⟩
    (.one ⟨some s53, some (s50, false), (.mv (.t s1))⟩
    (.one ⟨some s54, some (s50, false), (.callq 118 [(.t s53)])⟩
    (.one ⟨some s55, some (s50, false), (.bin false .shl (.c (.v (.int .i64 1))) (.t s54))⟩
    (.one ⟨some s56, some (s50, false), (.bin false .geq (.t s52) (.t s55))⟩
    (.one ⟨some s57, none, (.pick (.t s50) (.c (.v (.bool true))) (.t s56))⟩
    (.one ⟨some s32, none, (.mv (.t s57))⟩
    .done)))))))))))))))))))))))))))
  (.cond (.t s32) (.seq (.reg (.one ⟨some s4, none, (.mv (.c (.v (.int .i64 0))))⟩
    .done))
  .ret) (.seq (.reg (.one ⟨some s59, none, (.faddr 6 (.t s2))⟩
    (.one ⟨some s60, none, (.load none (.t s59))⟩
    (.one ⟨some s61, none, (.len false (.t s60))⟩
    (.one ⟨some s62, none, (.bin false .lss (.t s61) (.c (.v (.int .i64 1))))⟩
    (.one ⟨some s63, none, (.mv (.t s62))⟩
    (.one ⟨some s64, some (s63, false), (.faddr 6 (.t s2))⟩
    (.one ⟨some s65, some (s63, false), (.load none (.t s64))⟩
    (.one ⟨some s66, some (s63, false), (.len false (.t s65))⟩
    (.one ⟨some s67, some (s63, false), (.bin false .gtr (.t s66) (.c (.v (.int .i64 24))))⟩
    (.one ⟨some s68, none, (.pick (.t s63) (.c (.v (.bool true))) (.t s67))⟩
    (.one ⟨some s58, none, (.mv (.t s68))⟩
    .done))))))))))))
  (.cond (.t s58) (.seq (.reg (.one ⟨some s4, none, (.mv (.c (.v (.int .i64 0))))⟩
    .done))
  .ret) .skip)))))))
  (.seq (.reg (.one ⟨some s69, none, (.faddr 3 (.t s2))⟩
    (.one ⟨some s70, none, (.load none (.t s69))⟩
    (.one ⟨some s71, none, (.mv (.t s1))⟩
    (.one ⟨some s73, none, (.faddr 6 (.t s2))⟩
    (.one ⟨some s74, none, (.load none (.t s73))⟩
    (.one ⟨some s75, none, (.len false (.t s74))⟩
    (.one ⟨some s76, none, (.bin false .sub (.t s75) (.c (.v (.int .i64 1))))⟩
    (.one ⟨some s77, none, (.mv (.t s1))⟩
    (.one ⟨some s72, none, (.callq 93 [(.t s70), (.t s71)])⟩
    (.one ⟨some s78, none, (.callq 119 [(.t s77)])⟩
    (.one ⟨some s79, none, (.callq 94 [(.t s76), (.t s78)])⟩
    (.one ⟨some s80, none, (.bin false .add (.t s72) (.t s79))⟩
    (.one ⟨some s6, none, (.mv (.t s80))⟩
    .done))))))))))))))
  (.seq (.seq (.reg (.one ⟨some s81, none, (.faddr 6 (.t s2))⟩
    (.one ⟨some s82, none, (.load none (.t s81))⟩
    (.one ⟨some s83, none, (.len false (.t s82))⟩
    (.one ⟨some s84, none, (.mv (.c (.v (.int .i64 0))))⟩
    .done)))))
  (.block 1 (.loop (.seq (.reg (.one ⟨some s85, none, (.bin false .lss (.t s84) (.t s83))⟩
    .done))
  (.seq (.cond (.t s85) .skip (.exit 1))
  (.seq (.block 2 (.seq (.reg (.one ⟨some s86, none, (.mv (.t s84))⟩
    (.one ⟨some s87, none, (.iaddr 1 (.t s82) (.t s84))⟩
    (.one ⟨some s88, none, (.load none (.t s87))⟩
    (.one ⟨some s7, none, (.mv (.t s86))⟩
    (.one ⟨some s8, none, (.mv (.t s88))⟩
    .done))))))
  (.seq (.seq (.reg (.one ⟨some s89, none, (.mv (.t s8))⟩
    (.one ⟨some s90, none, (.len false (.t s89))⟩
    (.one ⟨some s91, none, (.bin false .eql (.t s90) (.c (.v (.int .i64 0))))⟩
    (.one ⟨some s92, none, (.mv (.t s91))⟩
    (.one ⟨some s93, some (s92, false), (.mv (.t s8))⟩
    (.one ⟨some s94, some (s92, false), (.len false (.t s93))⟩
    (.one ⟨some s95, some (s92, false), (.bin false .gtr (.t s94) (.c (.v (.int .i64 2047))))⟩
    (.one ⟨some s96, some (s92, false), (.mv (.t s95))⟩
    (.one ⟨some s97, some (s96, true), (.mv (.t s7))⟩
    (.one ⟨some s98, some (s96, true), (.faddr 6 (.t s2))⟩
    (.one ⟨some s99, some (s96, true), (.load none (.t s98))⟩
    (.one ⟨some s100, some (s96, true), (.len false (.t s99))⟩
    (.one ⟨some s101, some (s96, true), (.bin false .sub (.t s100) (.c (.v (.int .i64 1))))⟩
    (.one ⟨some s102, some (s96, true), (.bin false .lss (.t s97) (.t s101))⟩
    (.one ⟨some s103, some (s92, false), (.pick (.t s96) (.t s102) (.c (.v (.bool false))))⟩
    (.one ⟨some s104, none, (.pick (.t s92) (.c (.v (.bool true))) (.t s103))⟩
    (.one ⟨some s105, none, (.mv (.t s104))⟩
    (.one ⟨some s106, some (s105, false), (.mv (.t s8))⟩
    (.one ⟨some s107, some (s105, false), (.len false (.t s106))⟩
    (.one ⟨some s108, some (s105, false), (.mv (.t s6))⟩
    (.one ⟨some s109, some (s105, false), (.bin false .sub (.c (.v (.int .i64 4000))) (.t s108))⟩
    (.one ⟨some s110, some (s105, false), (.bin false .gtr (.t s107) (.t s109))⟩
    (.one ⟨some s111, none, (.pick (.t s105) (.c (.v (.bool true))) (.t s110))⟩
    .done))))))))))))))))))))))))
  (.cond (.t s111) (.seq (.reg (.one ⟨some s4, none, (.mv (.c (.v (.int .i64 0))))⟩
    .done))
  .ret) .skip))
  (.reg (.one ⟨some s112, none, (.mv (.t s6))⟩
    (.one ⟨some s113, none, (.mv (.t s8))⟩
    (.one ⟨some s114, none, (.len false (.t s113))⟩
    (.one ⟨some s115, none, (.bin false .add (.t s112) (.t s114))⟩
    (.one ⟨some s6, none, (.mv (.t s115))⟩
    .done)))))))))
  (.reg (.one ⟨some s116, none, (.bin false .add (.t s84) (.c (.v (.int .i64 1))))⟩
    (.one ⟨some s84, none, (.mv (.t s116))⟩
    .done)))))))))
  (.seq (.reg (.one ⟨some s117, none, (.mv (.t s6))⟩
    (.one ⟨some s4, none, (.mv (.t s117))⟩
    .done)))
  .ret))))))⟩
theorem ok91 : compF Try.prog c91 Try.f91 = some ir91 := by kernel_rfl
theorem k_amd_Size {args : List AVal} {σ : AHeap} {Q : AVal → AHeap → Prop} (hl : Nat.ble args.length 118 = true) (h : argsK (Env.full 9) 0 args fun env => evC Try.prog c91 ir91.body env σ (retQ ir91 Q)) : ACalls Try.prog 91 args σ Q :=
  acalls_of Try.func91 ok91 rfl (Nat.le_of_ble_eq_true hl) h
/- amd.Head -/
def c93 : Cfg := ⟨qs, [], 15, [], ps⟩
def ir93 : IFun := ⟨2, [.tmp s4],
  (.seq (.reg (.one ⟨some s4, none, (.mv (.c (.v (.int .i64 0))))⟩
    .done))
  (.seq (.seq (.reg (.one ⟨some s6, none, (.mv (.t s1))⟩
    (.one ⟨some s7, none, (.callq 116 [(.t s6)])⟩
    (.one ⟨some s8, none, (.not (.t s7))⟩
    .done))))
  (.cond (.t s8) (.seq (.reg (.one ⟨some s4, none, (.mv (.c (.v (.int .i64 0))))⟩
    .done))
  .ret) .skip))
  (.seq (.reg (.one ⟨some s5, none, (.mv (.c (.v (.int .i64 2))))⟩
    .done))
  (.seq (.seq (.reg (.one ⟨some s9, none, (.mv (.t s1))⟩
    (.one ⟨some s10, none, (.bin false .eql (.t s9) (.c (.v (.int .i64 16))))⟩
    .done)))
  (.cond (.t s10) (.reg (.one ⟨some s5, none, (.mv (.c (.v (.int .i64 3))))⟩
    .done)) .skip))
  (.seq (.seq (.reg (.one ⟨some s11, none, (.mv (.t s0))⟩
    .done))
  (.cond (.t s11) (.reg (.one ⟨some s12, none, (.mv (.t s5))⟩
    (.one ⟨some s13, none, (.bin false .add (.t s12) (.c (.v (.int .i64 2))))⟩
    (.one ⟨some s5, none, (.mv (.t s13))⟩
    .done)))) .skip))
  (.seq (.reg (.one ⟨some s14, none, (.mv (.t s5))⟩
    (.one ⟨some s4, none, (.mv (.t s14))⟩
    .done)))
  .ret))))))⟩
theorem ok93 : compF Try.prog c93 Try.f93 = some ir93 := by kernel_rfl
theorem k_amd_Head {args : List AVal} {σ : AHeap} {Q : AVal → AHeap → Prop} (hl : Nat.ble args.length 15 = true) (h : argsK (Env.full 9) 0 args fun env => evC Try.prog c93 ir93.body env σ (retQ ir93 Q)) : ACalls Try.prog 93 args σ Q :=
  acalls_of Try.func93 ok93 rfl (Nat.le_of_ble_eq_true hl) h
/- amd.isWidth -/
def c116 : Cfg := ⟨qs, [], 9, [], ps⟩
def ir116 : IFun := ⟨1, [.tmp s2],
  (.seq (.reg (.one ⟨some s2, none, (.mv (.c (.v (.bool false))))⟩
    .done))
  (.seq (.reg (.one ⟨some s3, none, (.mv (.t s0))⟩
    (.one ⟨some s4, none, (.bin false .eql (.t s3) (.c (.v (.int .i64 10))))⟩
    (.one ⟨some s5, none, (.mv (.t s4))⟩
    (.one ⟨some s6, some (s5, false), (.mv (.t s0))⟩
    (.one ⟨some s7, some (s5, false), (.bin false .eql (.t s6) (.c (.v (.int .i64 16))))⟩
    (.one ⟨some s8, none, (.pick (.t s5) (.c (.v (.bool true))) (.t s7))⟩
    (.one ⟨some s2, none, (.mv (.t s8))⟩
    .done))))))))
  .ret))⟩
theorem ok116 : compF Try.prog c116 Try.f116 = some ir116 := by kernel_rfl
theorem k_amd_isWidth {args : List AVal} {σ : AHeap} {Q : AVal → AHeap → Prop} (hl : Nat.ble args.length 9 = true) (h : argsK (Env.full 9) 0 args fun env => evC Try.prog c116 ir116.body env σ (retQ ir116 Q)) : ACalls Try.prog 116 args σ Q :=
  acalls_of Try.func116 ok116 rfl (Nat.le_of_ble_eq_true hl) h
/- amd.offsetWidth -/
def c118 : Cfg := ⟨qs, [], 5, [], ps⟩
def ir118 : IFun := ⟨1, [.tmp s2],
  (.seq (.reg (.one ⟨some s2, none, (.mv (.c (.v (.int .i64 0))))⟩
    .done))
  (.seq (.seq (.reg (.one ⟨some s3, none, (.mv (.t s0))⟩
    (.one ⟨some s4, none, (.bin false .eql (.t s3) (.c (.v (.int .i64 10))))⟩
    .done)))
  (.cond (.t s4) (.seq (.reg (.one ⟨some s2, none, (.mv (.c (.v (.int .i64 15))))⟩
    .done))
  .ret) .skip))
  (.seq (.reg (.one ⟨some s2, none, (.mv (.c (.v (.int .i64 16))))⟩
    .done))
  .ret)))⟩
theorem ok118 : compF Try.prog c118 Try.f118 = some ir118 := by kernel_rfl
theorem k_amd_offsetWidth {args : List AVal} {σ : AHeap} {Q : AVal → AHeap → Prop} (hl : Nat.ble args.length 5 = true) (h : argsK (Env.full 9) 0 args fun env => evC Try.prog c118 ir118.body env σ (retQ ir118 Q)) : ACalls Try.prog 118 args σ Q :=
  acalls_of Try.func118 ok118 rfl (Nat.le_of_ble_eq_true hl) h
/- amd.lenWidth -/
def c119 : Cfg := ⟨qs, [], 5, [], ps⟩
def ir119 : IFun := ⟨1, [.tmp s2],
  (.seq (.reg (.one ⟨some s2, none, (.mv (.c (.v (.int .i64 0))))⟩
    .done))
  (.seq (.seq (.reg (.one ⟨some s3, none, (.mv (.t s0))⟩
    (.one ⟨some s4, none, (.bin false .eql (.t s3) (.c (.v (.int .i64 10))))⟩
    .done)))
  (.cond (.t s4) (.seq (.reg (.one ⟨some s2, none, (.mv (.c (.v (.int .i64 11))))⟩
    .done))
  .ret) .skip))
  (.seq (.reg (.one ⟨some s2, none, (.mv (.c (.v (.int .i64 15))))⟩
    .done))
  .ret)))⟩
theorem ok119 : compF Try.prog c119 Try.f119 = some ir119 := by kernel_rfl
theorem k_amd_lenWidth {args : List AVal} {σ : AHeap} {Q : AVal → AHeap → Prop} (hl : Nat.ble args.length 5 = true) (h : argsK (Env.full 9) 0 args fun env => evC Try.prog c119 ir119.body env σ (retQ ir119 Q)) : ACalls Try.prog 119 args σ Q :=
  acalls_of Try.func119 ok119 rfl (Nat.le_of_ble_eq_true hl) h
end Go.Proofs.Ytgobbmdbkmjlnaa
/-
  The bodies of one package, compiled to the framework's language (printed by a program of this session).
-/
namespace Go.Proofs.Ytgobbmdbkmjlnaa
set_option linter.unusedVariables false
set_option linter.unusedSimpArgs false
open Go Go.Am
/- sent.New -/
def c30 : Cfg := ⟨qs, [], 14, [], ps⟩
def ir30 : IFun := ⟨1, [.tmp s2, .tmp s3],
  (.seq (.reg (.one ⟨some s2, none, (.mv (.c (.v (.pointer none))))⟩
    (.one ⟨some s3, none, (.mv (.c (.v (.int .i64 0))))⟩
    .done)))
  (.seq (.seq (.reg (.one ⟨some s4, none, (.mv (.t s0))⟩
    (.one ⟨some s5, none, (.bin false .neq (.t s4) (.c (.v (.int .i64 10))))⟩
    (.one ⟨some s6, none, (.mv (.t s5))⟩
    (.one ⟨some s7, some (s6, true), (.mv (.t s0))⟩
    (.one ⟨some s8, some (s6, true), (.bin false .neq (.t s7) (.c (.v (.int .i64 16))))⟩
    (.one ⟨some s9, none, (.pick (.t s6) (.t s8) (.c (.v (.bool false))))⟩
    .done)))))))
  (.cond (.t s9) (.seq (.reg (.one ⟨some s2, none, (.mv (.c (.v (.pointer none))))⟩
    (.one ⟨some s3, none, (.mv (.c (.v (.int .i64 9))))⟩
    .done)))
  .ret) .skip))
  (.seq (.reg (.one ⟨some s10, none, (.mv (.t s0))⟩
    (.one ⟨some s11, none, .mkmap⟩
    (.one ⟨some s12, none, (.build [(.v (.int .i64 0)), (.v (.map none))] [(0, 1, (.t s10)), (1, 1, (.t s11))])⟩
    (.one ⟨some s13, none, (.box 2 (.t s12))⟩
    (.one ⟨some s2, none, (.mv (.t s13))⟩
    (.one ⟨some s3, none, (.mv (.c (.v (.int .i64 0))))⟩
    .done)))))))
  .ret)))⟩
theorem ok30 : compF Try.prog c30 Try.f30 = some ir30 := by kernel_rfl
theorem k_sent_New {args : List AVal} {σ : AHeap} {Q : AVal → AHeap → Prop} (hl : Nat.ble args.length 14 = true) (h : argsK (Env.full 9) 0 args fun env => evC Try.prog c30 ir30.body env σ (retQ ir30 Q)) : ACalls Try.prog 30 args σ Q :=
  acalls_of Try.func30 ok30 rfl (Nat.le_of_ble_eq_true hl) h
/- sent.Store).Put -/
def c31 : Cfg := ⟨qs, [], 60, [], ps⟩
def ir31 : IFun := ⟨2, [.tmp s4],
  (.seq (.reg (.one ⟨some s3, none, (.box 7 (.t s1))⟩
    (.one ⟨some s4, none, (.mv (.c (.v (.int .i64 0))))⟩
    .done)))
  (.seq (.block 0 (.seq (.reg (.one ⟨some s8, none, (.mv (.t s0))⟩
    (.one ⟨some s9, none, (.callq 74 [(.t s8)])⟩
    (.one ⟨some s10, none, (.not (.t s9))⟩
    (.one ⟨some s7, none, (.mv (.t s10))⟩
    .done)))))
  (.cond (.t s7) (.seq (.reg (.one ⟨some s4, none, (.mv (.c (.v (.int .i64 6))))⟩
    .done))
  .ret) (.seq (.reg (.one ⟨some s12, none, (.faddr 3 (.t s3))⟩
    (.one ⟨some s13, none, (.load none (.t s12))⟩
    (.one ⟨some s14, none, (.mv (.t s13))⟩
    (.one ⟨some s15, some (s14, false), (.load (some 7) (.t s3))⟩
    (.one ⟨some s16, some (s14, false), (.mv (.t s0))⟩
    (.one ⟨some s17, some (s14, false), (.nilchk (.t s16))⟩
    (.one ⟨some s18, some (s14, false), (.faddr 0 (.t s17))⟩
    (.one ⟨some s19, some (s14, false), (.load none (.t s18))⟩
    (.one ⟨some s20, some (s14, false), (.callq 49 [(.t s15), (.t s19)])⟩
    (.one ⟨some s21, some (s14, false), (.not (.t s20))⟩
    (.one ⟨some s22, none, (.pick (.t s14) (.c (.v (.bool true))) (.t s21))⟩
    (.one ⟨some s11, none, (.mv (.t s22))⟩
    .done)))))))))))))
  (.cond (.t s11) (.seq (.reg (.one ⟨some s4, none, (.mv (.c (.v (.int .i64 3))))⟩
    .done))
  .ret) (.seq (.reg (.one ⟨some s24, none, (.mv (.t s0))⟩
    (.one ⟨some s25, none, (.nilchk (.t s24))⟩
    (.one ⟨some s26, none, (.faddr 1 (.t s25))⟩
    (.one ⟨some s27, none, (.load none (.t s26))⟩
    (.one ⟨some s28, none, (.faddr 2 (.t s3))⟩
    (.one ⟨some s29, none, (.load none (.t s28))⟩
    (.one ⟨some s30, none, (.look (.v (.pointer none)) (.t s27) (.t s29))⟩
    (.one ⟨some s31, none, (.eqNil 1 true (.t s30))⟩
    (.one ⟨some s23, none, (.mv (.t s31))⟩
    .done))))))))))
  (.cond (.t s23) (.seq (.reg (.one ⟨some s4, none, (.mv (.c (.v (.int .i64 12))))⟩
    .done))
  .ret) (.seq (.reg (.one ⟨some s33, none, (.mv (.t s0))⟩
    (.one ⟨some s34, none, (.nilchk (.t s33))⟩
    (.one ⟨some s35, none, (.faddr 1 (.t s34))⟩
    (.one ⟨some s36, none, (.load none (.t s35))⟩
    (.one ⟨some s37, none, (.mlen (.t s36))⟩
    (.one ⟨some s38, none, (.bin false .geq (.t s37) (.c (.v (.int .i64 32768))))⟩
    (.one ⟨some s32, none, (.mv (.t s38))⟩
    .done))))))))
  (.cond (.t s32) (.seq (.reg (.one ⟨some s4, none, (.mv (.c (.v (.int .i64 5))))⟩
    .done))
  .ret) .skip)))))))))
  (.seq (.reg (.one ⟨some s40, none, (.callq 60 [(.c (.slice 2 [] .full))])⟩
    (.one ⟨some s39, none, (.mv (.t s40))⟩
    (.one ⟨some s41, none, (.ext (.t s39) 0)⟩
    (.one ⟨some s42, none, (.ext (.t s39) 1)⟩
    (.one ⟨some s5, none, (.mv (.t s41))⟩
    (.one ⟨some s6, none, (.mv (.t s42))⟩
    .done)))))))
  (.seq (.seq (.reg (.one ⟨some s43, none, (.mv (.t s6))⟩
    (.one ⟨some s44, none, (.bin false .eql (.t s43) (.c (.v (.int .i64 0))))⟩
    .done)))
  (.cond (.t s44) (.reg (.one ⟨some s45, none, (.mv (.t s0))⟩
    (.one ⟨some s46, none, (.nilchk (.t s45))⟩
    (.one ⟨some s47, none, (.faddr 1 (.t s46))⟩
    (.one ⟨some s48, none, (.load none (.t s47))⟩
    (.one ⟨some s49, none, (.faddr 2 (.t s3))⟩
    (.one ⟨some s50, none, (.load none (.t s49))⟩
    (.one ⟨some s51, none, (.load (some 7) (.t s3))⟩
    (.one ⟨some s53, none, (.load (some 7) (.t s3))⟩
    (.one ⟨some s56, none, (.mv (.t s5))⟩
    (.one ⟨some s52, none, (.callq 75 [(.t s51)])⟩
    (.one ⟨some s54, none, (.callq 33 [(.t s53)])⟩
    (.one ⟨some s55, none, (.len false (.t s54))⟩
    (.one ⟨some s57, none, (.build [(.v (.bool false)), (.v (.int .i64 0)), (.v (.int .i64 0)), (.v (.bool false)), (.v (.bool false)), (.v (.int .i64 0)), (.slice 1 [] .full), (.v (.int .i64 0)), (.v (.pointer none)), (.v (.int .i64 0))] [(0, 7, (.t s52)), (7, 1, (.t s55)), (8, 1, (.t s56))])⟩
    (.one ⟨some s58, none, (.box 10 (.t s57))⟩
    (.one ⟨none, none, (.mset (.t s48) (.t s50) (.t s58))⟩
    .done)))))))))))))))) .skip))
  (.seq (.reg (.one ⟨some s59, none, (.mv (.t s6))⟩
    (.one ⟨some s4, none, (.mv (.t s59))⟩
    .done)))
  .ret)))))⟩
theorem ok31 : compF Try.prog c31 Try.f31 = some ir31 := by kernel_rfl
theorem k_sent_Store_Put {args : List AVal} {σ : AHeap} {Q : AVal → AHeap → Prop} (hl : Nat.ble args.length 60 = true) (h : argsK (Env.full 9) 0 args fun env => evC Try.prog c31 ir31.body env σ (retQ ir31 Q)) : ACalls Try.prog 31 args σ Q :=
  acalls_of Try.func31 ok31 rfl (Nat.le_of_ble_eq_true hl) h
/- sent.Store).Again -/
def c34 : Cfg := ⟨qs, [], 67, [], ps⟩
def ir34 : IFun := ⟨4, [.tmp s8, .tmp s9],
  (.seq (.reg (.one ⟨some s8, none, (.mv (.c (.v (.int .i64 0))))⟩
    (.one ⟨some s9, none, (.mv (.c (.v (.int .i64 0))))⟩
    .done)))
  (.seq (.reg (.one ⟨some s14, none, (.mv (.t s0))⟩
    (.one ⟨some s15, none, (.mv (.t s1))⟩
    (.one ⟨some s16, none, (.call 77 [(.t s14), (.t s15)])⟩
    (.one ⟨some s13, none, (.mv (.t s16))⟩
    (.one ⟨some s17, none, (.ext (.t s13) 0)⟩
    (.one ⟨some s18, none, (.ext (.t s13) 1)⟩
    (.one ⟨some s10, none, (.mv (.t s17))⟩
    (.one ⟨some s11, none, (.mv (.t s18))⟩
    .done)))))))))
  (.seq (.seq (.reg (.one ⟨some s19, none, (.mv (.t s11))⟩
    (.one ⟨some s20, none, (.bin false .neq (.t s19) (.c (.v (.int .i64 0))))⟩
    .done)))
  (.cond (.t s20) (.seq (.reg (.one ⟨some s21, none, (.mv (.t s11))⟩
    (.one ⟨some s8, none, (.mv (.c (.v (.int .i64 0))))⟩
    (.one ⟨some s9, none, (.mv (.t s21))⟩
    .done))))
  .ret) .skip))
  (.seq (.reg (.one ⟨some s23, none, (.mv (.t s10))⟩
    (.one ⟨some s24, none, (.mv (.t s2))⟩
    (.one ⟨some s25, none, (.mv (.t s3))⟩
    (.one ⟨some s26, none, (.callq 78 [(.t s23), (.t s24), (.t s25)])⟩
    (.one ⟨some s22, none, (.mv (.t s26))⟩
    (.one ⟨some s27, none, (.ext (.t s22) 0)⟩
    (.one ⟨some s28, none, (.ext (.t s22) 1)⟩
    (.one ⟨some s12, none, (.new [(.v (.int .i64 0)), (.v (.int .i64 0))])⟩
    (.one ⟨none, none, (.store 2 (.t s12) (.t s27))⟩
    (.one ⟨some s11, none, (.mv (.t s28))⟩
    .done)))))))))))
  (.seq (.seq (.reg (.one ⟨some s29, none, (.mv (.t s11))⟩
    (.one ⟨some s30, none, (.bin false .neq (.t s29) (.c (.v (.int .i64 0))))⟩
    .done)))
  (.cond (.t s30) (.seq (.reg (.one ⟨some s31, none, (.mv (.t s11))⟩
    (.one ⟨some s8, none, (.mv (.c (.v (.int .i64 0))))⟩
    (.one ⟨some s9, none, (.mv (.t s31))⟩
    .done))))
  .ret) .skip))
  (.seq (.seq (.reg (.one ⟨some s32, none, (.mv (.t s10))⟩
    (.one ⟨some s33, none, (.nilchk (.t s32))⟩
    (.one ⟨some s34, none, (.faddr 8 (.t s33))⟩
    (.one ⟨some s35, none, (.load none (.t s34))⟩
    (.one ⟨some s36, none, (.load (some 2) (.t s12))⟩
    (.one ⟨some s37, none, (.callq 79 [(.t s35), (.t s36)])⟩
    (.one ⟨some s38, none, (.not (.t s37))⟩
    .done))))))))
  (.cond (.t s38) (.seq (.reg (.one ⟨some s39, none, (.mv (.t s10))⟩
    (.one ⟨some s40, none, (.nilchk (.t s39))⟩
    (.one ⟨some s41, none, (.faddr 9 (.t s40))⟩
    (.one ⟨some s42, none, (.load none (.t s41))⟩
    (.one ⟨some s43, none, (.bin false .add (.t s42) (.c (.v (.int .i64 1))))⟩
    (.one ⟨some s44, none, (.nilchk (.t s39))⟩
    (.one ⟨some s45, none, (.faddr 9 (.t s44))⟩
    (.one ⟨none, none, (.store 1 (.t s45) (.t s43))⟩
    .done)))))))))
  (.seq (.reg (.one ⟨some s46, none, (.mv (.t s10))⟩
    (.one ⟨some s47, none, (.nilchk (.t s46))⟩
    (.one ⟨some s48, none, (.faddr 8 (.t s47))⟩
    (.one ⟨some s49, none, (.load none (.t s48))⟩
    (.one ⟨some s50, none, (.load (some 2) (.t s12))⟩
    (.one ⟨some s51, none, (.call 63 [(.t s49), (.t s50)])⟩
    (.one ⟨some s52, none, (.bin false .neq (.t s51) (.c (.v (.int .i64 0))))⟩
    .done))))))))
  (.cond (.t s52) (.reg (.one ⟨some s53, none, (.mv (.t s10))⟩
    (.one ⟨some s54, none, (.nilchk (.t s53))⟩
    (.one ⟨some s55, none, (.faddr 8 (.t s54))⟩
    (.one ⟨some s56, none, (.load none (.t s55))⟩
    (.one ⟨some s57, none, (.mv (.t s10))⟩
    (.one ⟨some s58, none, (.nilchk (.t s57))⟩
    (.one ⟨some s59, none, (.faddr 7 (.t s58))⟩
    (.one ⟨some s60, none, (.load none (.t s59))⟩
    (.one ⟨some s61, none, (.build [(.v (.int .i64 0)), (.v (.int .i64 0))] [(0, 1, (.c (.v (.int .i64 0)))), (1, 1, (.t s60))])⟩
    (.one ⟨some s62, none, (.call 63 [(.t s56), (.t s61)])⟩
    .done))))))))))) .skip))) .skip))
  (.seq (.reg (.one ⟨some s63, none, (.mv (.t s10))⟩
    (.one ⟨some s64, none, (.nilchk (.t s63))⟩
    (.one ⟨some s65, none, (.faddr 9 (.t s64))⟩
    (.one ⟨some s66, none, (.load none (.t s65))⟩
    (.one ⟨some s8, none, (.mv (.t s66))⟩
    (.one ⟨some s9, none, (.mv (.c (.v (.int .i64 0))))⟩
    .done)))))))
  .ret)))))))⟩
theorem ok34 : compF Try.prog c34 Try.f34 = some ir34 := by kernel_rfl
theorem k_sent_Store_Again {args : List AVal} {σ : AHeap} {Q : AVal → AHeap → Prop} (hl : Nat.ble args.length 67 = true) (h : argsK (Env.full 9) 0 args fun env => evC Try.prog c34 ir34.body env σ (retQ ir34 Q)) : ACalls Try.prog 34 args σ Q :=
  acalls_of Try.func34 ok34 rfl (Nat.le_of_ble_eq_true hl) h
/- sent.Store).Bytes -/
def c35 : Cfg := ⟨qs, [], 27, [], ps⟩
def ir35 : IFun := ⟨1, [.tmp s2],
  (.seq (.reg (.one ⟨some s2, none, (.mv (.c (.v (.int .i64 0))))⟩
    .done))
  (.seq (.reg (.one ⟨some s3, none, (.mv (.c (.v (.int .i64 0))))⟩
    .done))
  (.seq (.seq (.reg (.one ⟨some s6, none, (.mv (.t s0))⟩
    (.one ⟨some s7, none, (.callq 41 [(.t s6)])⟩
    (.one ⟨some s8, none, (.len false (.t s7))⟩
    (.one ⟨some s9, none, (.mv (.c (.v (.int .i64 0))))⟩
    .done)))))
  (.block 0 (.loop (.seq (.reg (.one ⟨some s10, none, (.bin false .lss (.t s9) (.t s8))⟩
    .done))
  (.seq (.cond (.t s10) .skip (.exit 0))
  (.seq (.block 1 (.seq (.reg (.one ⟨some s11, none, (.iaddr 1 (.t s7) (.t s9))⟩
    (.one ⟨some s12, none, (.load none (.t s11))⟩
    (.one ⟨some s5, none, (.mv (.t s12))⟩
    .done))))
  (.reg (.one ⟨some s13, none, (.mv (.t s3))⟩
    (.one ⟨some s14, none, (.mv (.t s0))⟩
    (.one ⟨some s15, none, (.nilchk (.t s14))⟩
    (.one ⟨some s16, none, (.faddr 1 (.t s15))⟩
    (.one ⟨some s17, none, (.load none (.t s16))⟩
    (.one ⟨some s18, none, (.mv (.t s5))⟩
    (.one ⟨some s19, none, (.look (.v (.pointer none)) (.t s17) (.t s18))⟩
    (.one ⟨some s20, none, (.nilchk (.t s19))⟩
    (.one ⟨some s21, none, (.faddr 8 (.t s20))⟩
    (.one ⟨some s22, none, (.load none (.t s21))⟩
    (.one ⟨some s23, none, (.callq 55 [(.t s22)])⟩
    (.one ⟨some s24, none, (.bin false .add (.t s13) (.t s23))⟩
    (.one ⟨some s3, none, (.mv (.t s24))⟩
    .done))))))))))))))))
  (.reg (.one ⟨some s25, none, (.bin false .add (.t s9) (.c (.v (.int .i64 1))))⟩
    (.one ⟨some s9, none, (.mv (.t s25))⟩
    .done)))))))))
  (.seq (.reg (.one ⟨some s26, none, (.mv (.t s3))⟩
    (.one ⟨some s2, none, (.mv (.t s26))⟩
    .done)))
  .ret))))⟩
theorem ok35 : compF Try.prog c35 Try.f35 = some ir35 := by kernel_rfl
theorem k_sent_Store_Bytes {args : List AVal} {σ : AHeap} {Q : AVal → AHeap → Prop} (hl : Nat.ble args.length 27 = true) (h : argsK (Env.full 9) 0 args fun env => evC Try.prog c35 ir35.body env σ (retQ ir35 Q)) : ACalls Try.prog 35 args σ Q :=
  acalls_of Try.func35 ok35 rfl (Nat.le_of_ble_eq_true hl) h
/- sent.Store).Count -/
def c36 : Cfg := ⟨qs, [], 19, [], ps⟩
def ir36 : IFun := ⟨2, [.tmp s4],
  (.seq (.reg (.one ⟨some s4, none, (.mv (.c (.v (.int .i64 0))))⟩
    .done))
  (.seq (.reg (.one ⟨some s8, none, (.mv (.t s0))⟩
    (.one ⟨some s9, none, (.mv (.t s1))⟩
    (.one ⟨some s10, none, (.call 77 [(.t s8), (.t s9)])⟩
    (.one ⟨some s7, none, (.mv (.t s10))⟩
    (.one ⟨some s11, none, (.ext (.t s7) 0)⟩
    (.one ⟨some s12, none, (.ext (.t s7) 1)⟩
    (.one ⟨some s5, none, (.mv (.t s11))⟩
    (.one ⟨some s6, none, (.mv (.t s12))⟩
    .done)))))))))
  (.seq (.seq (.reg (.one ⟨some s13, none, (.mv (.t s6))⟩
    (.one ⟨some s14, none, (.bin false .neq (.t s13) (.c (.v (.int .i64 0))))⟩
    .done)))
  (.cond (.t s14) (.seq (.reg (.one ⟨some s4, none, (.mv (.c (.v (.int .i64 0))))⟩
    .done))
  .ret) .skip))
  (.seq (.reg (.one ⟨some s15, none, (.mv (.t s5))⟩
    (.one ⟨some s16, none, (.nilchk (.t s15))⟩
    (.one ⟨some s17, none, (.faddr 9 (.t s16))⟩
    (.one ⟨some s18, none, (.load none (.t s17))⟩
    (.one ⟨some s4, none, (.mv (.t s18))⟩
    .done))))))
  .ret))))⟩
theorem ok36 : compF Try.prog c36 Try.f36 = some ir36 := by kernel_rfl
theorem k_sent_Store_Count {args : List AVal} {σ : AHeap} {Q : AVal → AHeap → Prop} (hl : Nat.ble args.length 19 = true) (h : argsK (Env.full 9) 0 args fun env => evC Try.prog c36 ir36.body env σ (retQ ir36 Q)) : ACalls Try.prog 36 args σ Q :=
  acalls_of Try.func36 ok36 rfl (Nat.le_of_ble_eq_true hl) h
/- sent.Store).Due -/
def c37 : Cfg := ⟨qs, [], 20, [], ps⟩
def ir37 : IFun := ⟨2, [.tmp s4],
  (.seq (.reg (.one ⟨some s4, none, (.mv (.c (.slice 2 [] .full)))⟩
    .done))
  (.seq (.reg (.one ⟨some s8, none, (.mv (.t s0))⟩
    (.one ⟨some s9, none, (.mv (.t s1))⟩
    (.one ⟨some s10, none, (.call 77 [(.t s8), (.t s9)])⟩
    (.one ⟨some s7, none, (.mv (.t s10))⟩
    (.one ⟨some s11, none, (.ext (.t s7) 0)⟩
    (.one ⟨some s12, none, (.ext (.t s7) 1)⟩
    (.one ⟨some s5, none, (.mv (.t s11))⟩
    (.one ⟨some s6, none, (.mv (.t s12))⟩
    .done)))))))))
  (.seq (.seq (.reg (.one ⟨some s13, none, (.mv (.t s6))⟩
    (.one ⟨some s14, none, (.bin false .neq (.t s13) (.c (.v (.int .i64 0))))⟩
    .done)))
  (.cond (.t s14) (.seq (.reg (.one ⟨some s4, none, (.mv (.c (.slice 2 [] .full)))⟩
    .done))
  .ret) .skip))
  (.seq (.reg (.one ⟨some s15, none, (.mv (.t s5))⟩
    (.one ⟨some s16, none, (.nilchk (.t s15))⟩
    (.one ⟨some s17, none, (.faddr 8 (.t s16))⟩
    (.one ⟨some s18, none, (.load none (.t s17))⟩
    (.one ⟨some s19, none, (.callq 80 [(.t s18)])⟩
    (.one ⟨some s4, none, (.mv (.t s19))⟩
    .done)))))))
  .ret))))⟩
theorem ok37 : compF Try.prog c37 Try.f37 = some ir37 := by kernel_rfl
theorem k_sent_Store_Due {args : List AVal} {σ : AHeap} {Q : AVal → AHeap → Prop} (hl : Nat.ble args.length 20 = true) (h : argsK (Env.full 9) 0 args fun env => evC Try.prog c37 ir37.body env σ (retQ ir37 Q)) : ACalls Try.prog 37 args σ Q :=
  acalls_of Try.func37 ok37 rfl (Nat.le_of_ble_eq_true hl) h
/- sent.Store).Sent -/
def c38 : Cfg := ⟨qs, [], 37, [], ps⟩
def ir38 : IFun := ⟨4, [.tmp s8],
  (.seq (.reg (.one ⟨some s8, none, (.mv (.c (.v (.int .i64 0))))⟩
    .done))
  (.seq (.reg (.one ⟨some s13, none, (.mv (.t s0))⟩
    (.one ⟨some s14, none, (.mv (.t s1))⟩
    (.one ⟨some s15, none, (.call 77 [(.t s13), (.t s14)])⟩
    (.one ⟨some s12, none, (.mv (.t s15))⟩
    (.one ⟨some s16, none, (.ext (.t s12) 0)⟩
    (.one ⟨some s17, none, (.ext (.t s12) 1)⟩
    (.one ⟨some s9, none, (.mv (.t s16))⟩
    (.one ⟨some s10, none, (.mv (.t s17))⟩
    .done)))))))))
  (.seq (.seq (.reg (.one ⟨some s18, none, (.mv (.t s10))⟩
    (.one ⟨some s19, none, (.bin false .neq (.t s18) (.c (.v (.int .i64 0))))⟩
    .done)))
  (.cond (.t s19) (.seq (.reg (.one ⟨some s20, none, (.mv (.t s10))⟩
    (.one ⟨some s8, none, (.mv (.t s20))⟩
    .done)))
  .ret) .skip))
  (.seq (.reg (.one ⟨some s22, none, (.mv (.t s9))⟩
    (.one ⟨some s23, none, (.mv (.t s2))⟩
    (.one ⟨some s24, none, (.mv (.t s3))⟩
    (.one ⟨some s25, none, (.callq 78 [(.t s22), (.t s23), (.t s24)])⟩
    (.one ⟨some s21, none, (.mv (.t s25))⟩
    (.one ⟨some s26, none, (.ext (.t s21) 0)⟩
    (.one ⟨some s27, none, (.ext (.t s21) 1)⟩
    (.one ⟨some s11, none, (.new [(.v (.int .i64 0)), (.v (.int .i64 0))])⟩
    (.one ⟨none, none, (.store 2 (.t s11) (.t s26))⟩
    (.one ⟨some s10, none, (.mv (.t s27))⟩
    .done)))))))))))
  (.seq (.seq (.reg (.one ⟨some s28, none, (.mv (.t s10))⟩
    (.one ⟨some s29, none, (.bin false .neq (.t s28) (.c (.v (.int .i64 0))))⟩
    .done)))
  (.cond (.t s29) (.seq (.reg (.one ⟨some s30, none, (.mv (.t s10))⟩
    (.one ⟨some s8, none, (.mv (.t s30))⟩
    .done)))
  .ret) .skip))
  (.seq (.reg (.one ⟨some s31, none, (.mv (.t s9))⟩
    (.one ⟨some s32, none, (.nilchk (.t s31))⟩
    (.one ⟨some s33, none, (.faddr 8 (.t s32))⟩
    (.one ⟨some s34, none, (.load none (.t s33))⟩
    (.one ⟨some s35, none, (.load (some 2) (.t s11))⟩
    (.one ⟨some s36, none, (.call 81 [(.t s34), (.t s35)])⟩
    .done)))))))
  (.seq (.reg (.one ⟨some s8, none, (.mv (.c (.v (.int .i64 0))))⟩
    .done))
  .ret)))))))⟩
theorem ok38 : compF Try.prog c38 Try.f38 = some ir38 := by kernel_rfl
theorem k_sent_Store_Sent {args : List AVal} {σ : AHeap} {Q : AVal → AHeap → Prop} (hl : Nat.ble args.length 37 = true) (h : argsK (Env.full 9) 0 args fun env => evC Try.prog c38 ir38.body env σ (retQ ir38 Q)) : ACalls Try.prog 38 args σ Q :=
  acalls_of Try.func38 ok38 rfl (Nat.le_of_ble_eq_true hl) h
/- sent.Store).Drop -/
def c39 : Cfg := ⟨qs, [], 21, [], ps⟩
def ir39 : IFun := ⟨2, [.tmp s4],
  (.seq (.reg (.one ⟨some s4, none, (.mv (.c (.v (.int .i64 0))))⟩
    .done))
  (.seq (.reg (.one ⟨some s8, none, (.mv (.t s0))⟩
    (.one ⟨some s9, none, (.mv (.t s1))⟩
    (.one ⟨some s10, none, (.call 77 [(.t s8), (.t s9)])⟩
    (.one ⟨some s7, none, (.mv (.t s10))⟩
    (.one ⟨some s11, none, (.ext (.t s7) 0)⟩
    (.one ⟨some s12, none, (.ext (.t s7) 1)⟩
    (.one ⟨some s5, none, (.mv (.t s11))⟩
    (.one ⟨some s6, none, (.mv (.t s12))⟩
    .done)))))))))
  (.seq (.seq (.reg (.one ⟨some s13, none, (.mv (.t s6))⟩
    (.one ⟨some s14, none, (.bin false .eql (.t s13) (.c (.v (.int .i64 0))))⟩
    .done)))
  (.cond (.t s14) (.reg (.one ⟨some s15, none, (.mv (.t s0))⟩
    (.one ⟨some s16, none, (.nilchk (.t s15))⟩
    (.one ⟨some s17, none, (.faddr 1 (.t s16))⟩
    (.one ⟨some s18, none, (.load none (.t s17))⟩
    (.one ⟨some s19, none, (.mv (.t s1))⟩
    (.one ⟨none, none, (.mdel (.t s18) (.t s19))⟩
    .done))))))) .skip))
  (.seq (.reg (.one ⟨some s20, none, (.mv (.t s6))⟩
    (.one ⟨some s4, none, (.mv (.t s20))⟩
    .done)))
  .ret))))⟩
theorem ok39 : compF Try.prog c39 Try.f39 = some ir39 := by kernel_rfl
theorem k_sent_Store_Drop {args : List AVal} {σ : AHeap} {Q : AVal → AHeap → Prop} (hl : Nat.ble args.length 21 = true) (h : argsK (Env.full 9) 0 args fun env => evC Try.prog c39 ir39.body env σ (retQ ir39 Q)) : ACalls Try.prog 39 args σ Q :=
  acalls_of Try.func39 ok39 rfl (Nat.le_of_ble_eq_true hl) h
/- sent.Store).Dues -/
def c40 : Cfg := ⟨qs, [], 7, [], ps⟩
def ir40 : IFun := ⟨1, [.tmp s2],
  (.seq (.reg (.one ⟨some s1, none, (.box 1 (.t s0))⟩
    (.one ⟨some s2, none, (.mv (.c (.slice 1 [] .full)))⟩
    .done)))
  (.seq (.reg (.one ⟨some s3, none, (.load none (.t s1))⟩
    (.one ⟨some s4, none, (.callq 41 [(.t s3)])⟩
    (.one ⟨some s5, none, (.fn 83 [] [(.t s1)])⟩
    (.one ⟨some s6, none, (.call 82 [(.t s4), (.t s5)])⟩
    (.one ⟨some s2, none, (.mv (.t s6))⟩
    .done))))))
  .ret))⟩
theorem ok40 : compF Try.prog c40 Try.f40 = some ir40 := by kernel_rfl
theorem k_sent_Store_Dues {args : List AVal} {σ : AHeap} {Q : AVal → AHeap → Prop} (hl : Nat.ble args.length 7 = true) (h : argsK (Env.full 9) 0 args fun env => evC Try.prog c40 ir40.body env σ (retQ ir40 Q)) : ACalls Try.prog 40 args σ Q :=
  acalls_of Try.func40 ok40 rfl (Nat.le_of_ble_eq_true hl) h
/- sent.Store).Numbers -/
def c41 : Cfg := ⟨qs, [], 23, [], ps⟩
def ir41 : IFun := ⟨1, [.tmp s2],
  (.seq (.reg (.one ⟨some s2, none, (.mv (.c (.slice 1 [] .full)))⟩
    .done))
  (.seq (.reg (.one ⟨some s3, none, (.mv (.c (.slice 1 [] .full)))⟩
    .done))
  (.seq (.seq (.reg (.one ⟨some s5, none, (.mv (.t s0))⟩
    (.one ⟨some s6, none, (.callq 74 [(.t s5)])⟩
    .done)))
  (.cond (.t s6) (.seq (.reg (.one ⟨some s7, none, (.mv (.t s0))⟩
    (.one ⟨some s8, none, (.nilchk (.t s7))⟩
    (.one ⟨some s9, none, (.faddr 1 (.t s8))⟩
    (.one ⟨some s10, none, (.load none (.t s9))⟩
    (.one ⟨some s11, none, .never⟩
    .done))))))
  (.block 0 (.loop (.seq (.reg (.one ⟨some s12, none, .never⟩
    (.one ⟨some s13, none, (.ext (.t s12) 0)⟩
    .done)))
  (.seq (.cond (.t s13) .skip (.exit 0))
  (.block 1 (.seq (.reg (.one ⟨some s14, none, .never⟩
    (.one ⟨some s15, none, (.ext (.t s14) 0)⟩
    (.one ⟨some s4, none, (.mv (.t s15))⟩
    .done))))
  (.reg (.one ⟨some s16, none, (.mv (.t s3))⟩
    (.one ⟨some s17, none, (.mv (.t s4))⟩
    (.one ⟨some s18, none, (.row 1 [(.t s17)])⟩
    (.one ⟨some s19, none, (.app 1 8 (.t s16) (.t s18))⟩
    (.one ⟨some s3, none, (.mv (.t s19))⟩
    .done))))))))))))) .skip))
  (.seq (.reg (.one ⟨some s20, none, (.mv (.t s3))⟩
    (.one ⟨some s21, none, (.callq 72 [(.t s20)])⟩
    .done)))
  (.seq (.reg (.one ⟨some s22, none, (.mv (.t s3))⟩
    (.one ⟨some s2, none, (.mv (.t s22))⟩
    .done)))
  .ret)))))⟩
theorem ok41 : compF Try.prog c41 Try.f41 = some ir41 := by kernel_rfl
theorem k_sent_Store_Numbers {args : List AVal} {σ : AHeap} {Q : AVal → AHeap → Prop} (hl : Nat.ble args.length 23 = true) (h : argsK (Env.full 9) 0 args fun env => evC Try.prog c41 ir41.body env σ (retQ ir41 Q)) : ACalls Try.prog 41 args σ Q :=
  acalls_of Try.func41 ok41 rfl (Nat.le_of_ble_eq_true hl) h
/- sent.Store).Clear -/
def c46 : Cfg := ⟨qs, [], 8, [], ps⟩
def ir46 : IFun := ⟨1, [],
  (.seq (.reg (.one ⟨some s2, none, (.mv (.t s0))⟩
    (.one ⟨some s3, none, (.callq 74 [(.t s2)])⟩
    .done)))
  (.cond (.t s3) (.reg (.one ⟨some s4, none, (.mv (.t s0))⟩
    (.one ⟨some s5, none, .mkmap⟩
    (.one ⟨some s6, none, (.nilchk (.t s4))⟩
    (.one ⟨some s7, none, (.faddr 1 (.t s6))⟩
    (.one ⟨none, none, (.store 1 (.t s7) (.t s5))⟩
    .done)))))) .skip))⟩
theorem ok46 : compF Try.prog c46 Try.f46 = some ir46 := by kernel_rfl
theorem k_sent_Store_Clear {args : List AVal} {σ : AHeap} {Q : AVal → AHeap → Prop} (hl : Nat.ble args.length 8 = true) (h : argsK (Env.full 9) 0 args fun env => evC Try.prog c46 ir46.body env σ (retQ ir46 Q)) : ACalls Try.prog 46 args σ Q :=
  acalls_of Try.func46 ok46 rfl (Nat.le_of_ble_eq_true hl) h
/- sent.Store).Get -/
def c48 : Cfg := ⟨qs, [], 22, [], ps⟩
def ir48 : IFun := ⟨2, [.cell s4 (some 7), .tmp s5],
  (.seq (.reg (.one ⟨some s4, none, (.new [(.v (.bool false)), (.v (.int .i64 0)), (.v (.int .i64 0)), (.v (.bool false)), (.v (.bool false)), (.v (.int .i64 0)), (.slice 1 [] .full)])⟩
    (.one ⟨some s5, none, (.mv (.c (.v (.bool false))))⟩
    .done)))
  (.seq (.reg (.one ⟨some s9, none, (.mv (.t s0))⟩
    (.one ⟨some s10, none, (.mv (.t s1))⟩
    (.one ⟨some s11, none, (.call 77 [(.t s9), (.t s10)])⟩
    (.one ⟨some s8, none, (.mv (.t s11))⟩
    (.one ⟨some s12, none, (.ext (.t s8) 0)⟩
    (.one ⟨some s13, none, (.ext (.t s8) 1)⟩
    (.one ⟨some s6, none, (.mv (.t s12))⟩
    (.one ⟨some s7, none, (.mv (.t s13))⟩
    .done)))))))))
  (.seq (.seq (.reg (.one ⟨some s14, none, (.mv (.t s7))⟩
    (.one ⟨some s15, none, (.bin false .neq (.t s14) (.c (.v (.int .i64 0))))⟩
    .done)))
  (.cond (.t s15) (.seq (.reg (.one ⟨some s16, none, (.build [(.v (.bool false)), (.v (.int .i64 0)), (.v (.int .i64 0)), (.v (.bool false)), (.v (.bool false)), (.v (.int .i64 0)), (.slice 1 [] .full)] [])⟩
    (.one ⟨none, none, (.store 7 (.t s4) (.t s16))⟩
    (.one ⟨some s5, none, (.mv (.c (.v (.bool false))))⟩
    .done))))
  .ret) .skip))
  (.seq (.reg (.one ⟨some s17, none, (.mv (.t s6))⟩
    (.one ⟨some s18, none, (.nilchk (.t s17))⟩
    (.one ⟨some s19, none, (.faddr 0 (.t s18))⟩
    (.one ⟨some s20, none, (.load (some 7) (.t s19))⟩
    (.one ⟨some s21, none, (.callq 75 [(.t s20)])⟩
    (.one ⟨none, none, (.store 7 (.t s4) (.t s21))⟩
    (.one ⟨some s5, none, (.mv (.c (.v (.bool true))))⟩
    .done))))))))
  .ret))))⟩
theorem ok48 : compF Try.prog c48 Try.f48 = some ir48 := by kernel_rfl
theorem k_sent_Store_Get {args : List AVal} {σ : AHeap} {Q : AVal → AHeap → Prop} (hl : Nat.ble args.length 22 = true) (h : argsK (Env.full 9) 0 args fun env => evC Try.prog c48 ir48.body env σ (retQ ir48 Q)) : ACalls Try.prog 48 args σ Q :=
  acalls_of Try.func48 ok48 rfl (Nat.le_of_ble_eq_true hl) h
/- sent.Store).made -/
def c74 : Cfg := ⟨qs, [], 12, [], ps⟩
def ir74 : IFun := ⟨1, [.tmp s2],
  (.seq (.reg (.one ⟨some s2, none, (.mv (.c (.v (.bool false))))⟩
    .done))
  (.seq (.reg (.one ⟨some s3, none, (.mv (.t s0))⟩
    (.one ⟨some s4, none, (.eqNil 1 true (.t s3))⟩
    (.one ⟨some s5, none, (.mv (.t s4))⟩
    (.one ⟨some s6, some (s5, true), (.mv (.t s0))⟩
    (.one ⟨some s7, some (s5, true), (.nilchk (.t s6))⟩
    (.one ⟨some s8, some (s5, true), (.faddr 1 (.t s7))⟩
    (.one ⟨some s9, some (s5, true), (.load none (.t s8))⟩
    (.one ⟨some s10, some (s5, true), (.eqNil 2 true (.t s9))⟩
    (.one ⟨some s11, none, (.pick (.t s5) (.t s10) (.c (.v (.bool false))))⟩
    (.one ⟨some s2, none, (.mv (.t s11))⟩
    .done)))))))))))
  .ret))⟩
theorem ok74 : compF Try.prog c74 Try.f74 = some ir74 := by kernel_rfl
theorem k_sent_Store_made {args : List AVal} {σ : AHeap} {Q : AVal → AHeap → Prop} (hl : Nat.ble args.length 12 = true) (h : argsK (Env.full 9) 0 args fun env => evC Try.prog c74 ir74.body env σ (retQ ir74 Q)) : ACalls Try.prog 74 args σ Q :=
  acalls_of Try.func74 ok74 rfl (Nat.le_of_ble_eq_true hl) h
/- sent.copied -/
def c75 : Cfg := ⟨qs, [], 22, [], ps⟩
def ir75 : IFun := ⟨1, [.cell s2 (some 7)],
  (.seq (.reg (.one ⟨some s1, none, (.box 7 (.t s0))⟩
    (.one ⟨some s2, none, (.new [(.v (.bool false)), (.v (.int .i64 0)), (.v (.int .i64 0)), (.v (.bool false)), (.v (.bool false)), (.v (.int .i64 0)), (.slice 1 [] .full)])⟩
    .done)))
  (.seq (.reg (.one ⟨some s3, none, (.mv (.c (.slice 1 [] .full)))⟩
    .done))
  (.seq (.seq (.reg (.one ⟨some s6, none, (.faddr 6 (.t s1))⟩
    (.one ⟨some s7, none, (.load none (.t s6))⟩
    (.one ⟨some s8, none, (.len false (.t s7))⟩
    (.one ⟨some s9, none, (.mv (.c (.v (.int .i64 0))))⟩
    .done)))))
  (.block 0 (.loop (.seq (.reg (.one ⟨some s10, none, (.bin false .lss (.t s9) (.t s8))⟩
    .done))
  (.seq (.cond (.t s10) .skip (.exit 0))
  (.seq (.block 1 (.seq (.reg (.one ⟨some s11, none, (.iaddr 1 (.t s7) (.t s9))⟩
    (.one ⟨some s12, none, (.load none (.t s11))⟩
    (.one ⟨some s5, none, (.mv (.t s12))⟩
    .done))))
  (.reg (.one ⟨some s13, none, (.mv (.t s3))⟩
    (.one ⟨some s14, none, (.mv (.t s5))⟩
    (.one ⟨some s15, none, (.callq 54 [(.t s14)])⟩
    (.one ⟨some s16, none, (.row 1 [(.t s15)])⟩
    (.one ⟨some s17, none, (.app 1 24 (.t s13) (.t s16))⟩
    (.one ⟨some s3, none, (.mv (.t s17))⟩
    .done)))))))))
  (.reg (.one ⟨some s18, none, (.bin false .add (.t s9) (.c (.v (.int .i64 1))))⟩
    (.one ⟨some s9, none, (.mv (.t s18))⟩
    .done)))))))))
  (.seq (.reg (.one ⟨some s19, none, (.mv (.t s3))⟩
    (.one ⟨some s20, none, (.faddr 6 (.t s1))⟩
    (.one ⟨none, none, (.store 1 (.t s20) (.t s19))⟩
    .done))))
  (.seq (.reg (.one ⟨some s21, none, (.load (some 7) (.t s1))⟩
    (.one ⟨none, none, (.store 7 (.t s2) (.t s21))⟩
    .done)))
  .ret)))))⟩
theorem ok75 : compF Try.prog c75 Try.f75 = some ir75 := by kernel_rfl
theorem k_sent_copied {args : List AVal} {σ : AHeap} {Q : AVal → AHeap → Prop} (hl : Nat.ble args.length 22 = true) (h : argsK (Env.full 9) 0 args fun env => evC Try.prog c75 ir75.body env σ (retQ ir75 Q)) : ACalls Try.prog 75 args σ Q :=
  acalls_of Try.func75 ok75 rfl (Nat.le_of_ble_eq_true hl) h
/- sent.Store).find -/
def c77 : Cfg := ⟨qs, [], 19, [], ps⟩
def ir77 : IFun := ⟨2, [.tmp s4, .tmp s5],
  (.seq (.reg (.one ⟨some s4, none, (.mv (.c (.v (.pointer none))))⟩
    (.one ⟨some s5, none, (.mv (.c (.v (.int .i64 0))))⟩
    .done)))
  (.seq (.seq (.reg (.one ⟨some s7, none, (.mv (.t s0))⟩
    (.one ⟨some s8, none, (.callq 74 [(.t s7)])⟩
    (.one ⟨some s9, none, (.not (.t s8))⟩
    .done))))
  (.cond (.t s9) (.seq (.reg (.one ⟨some s4, none, (.mv (.c (.v (.pointer none))))⟩
    (.one ⟨some s5, none, (.mv (.c (.v (.int .i64 6))))⟩
    .done)))
  .ret) .skip))
  (.seq (.reg (.one ⟨some s10, none, (.mv (.t s0))⟩
    (.one ⟨some s11, none, (.nilchk (.t s10))⟩
    (.one ⟨some s12, none, (.faddr 1 (.t s11))⟩
    (.one ⟨some s13, none, (.load none (.t s12))⟩
    (.one ⟨some s14, none, (.mv (.t s1))⟩
    (.one ⟨some s15, none, (.look (.v (.pointer none)) (.t s13) (.t s14))⟩
    (.one ⟨some s6, none, (.mv (.t s15))⟩
    .done))))))))
  (.seq (.seq (.reg (.one ⟨some s16, none, (.mv (.t s6))⟩
    (.one ⟨some s17, none, (.eqNil 1 false (.t s16))⟩
    .done)))
  (.cond (.t s17) (.seq (.reg (.one ⟨some s4, none, (.mv (.c (.v (.pointer none))))⟩
    (.one ⟨some s5, none, (.mv (.c (.v (.int .i64 4))))⟩
    .done)))
  .ret) .skip))
  (.seq (.reg (.one ⟨some s18, none, (.mv (.t s6))⟩
    (.one ⟨some s4, none, (.mv (.t s18))⟩
    (.one ⟨some s5, none, (.mv (.c (.v (.int .i64 0))))⟩
    .done))))
  .ret)))))⟩
theorem ok77 : compF Try.prog c77 Try.f77 = some ir77 := by kernel_rfl
theorem k_sent_Store_find {args : List AVal} {σ : AHeap} {Q : AVal → AHeap → Prop} (hl : Nat.ble args.length 19 = true) (h : argsK (Env.full 9) 0 args fun env => evC Try.prog c77 ir77.body env σ (retQ ir77 Q)) : ACalls Try.prog 77 args σ Q :=
  acalls_of Try.func77 ok77 rfl (Nat.le_of_ble_eq_true hl) h
/- sent.entry).span -/
def c78 : Cfg := ⟨qs, [], 36, [], ps⟩
def ir78 : IFun := ⟨3, [.cell s6 (some 2), .tmp s7],
  (.seq (.reg (.one ⟨some s6, none, (.new [(.v (.int .i64 0)), (.v (.int .i64 0))])⟩
    (.one ⟨some s7, none, (.mv (.c (.v (.int .i64 0))))⟩
    .done)))
  (.seq (.seq (.reg (.one ⟨some s8, none, (.mv (.t s1))⟩
    (.one ⟨some s9, none, (.bin false .lss (.t s8) (.c (.v (.int .i64 0))))⟩
    (.one ⟨some s10, none, (.mv (.t s9))⟩
    (.one ⟨some s11, some (s10, false), (.mv (.t s2))⟩
    (.one ⟨some s12, some (s10, false), (.bin false .lss (.t s11) (.c (.v (.int .i64 0))))⟩
    (.one ⟨some s13, none, (.pick (.t s10) (.c (.v (.bool true))) (.t s12))⟩
    .done)))))))
  (.cond (.t s13) (.seq (.reg (.one ⟨some s14, none, (.build [(.v (.int .i64 0)), (.v (.int .i64 0))] [])⟩
    (.one ⟨none, none, (.store 2 (.t s6) (.t s14))⟩
    (.one ⟨some s7, none, (.mv (.c (.v (.int .i64 1))))⟩
    .done))))
  .ret) .skip))
  (.seq (.seq (.reg (.one ⟨some s15, none, (.mv (.t s2))⟩
    (.one ⟨some s16, none, (.bin false .eql (.t s15) (.c (.v (.int .i64 0))))⟩
    (.one ⟨some s17, none, (.mv (.t s16))⟩
    (.one ⟨some s18, some (s17, false), (.mv (.t s2))⟩
    (.one ⟨some s19, some (s17, false), (.mv (.t s0))⟩
    (.one ⟨some s20, some (s17, false), (.nilchk (.t s19))⟩
    (.one ⟨some s21, some (s17, false), (.faddr 7 (.t s20))⟩
    (.one ⟨some s22, some (s17, false), (.load none (.t s21))⟩
    (.one ⟨some s23, some (s17, false), (.bin false .gtr (.t s18) (.t s22))⟩
    (.one ⟨some s24, none, (.pick (.t s17) (.c (.v (.bool true))) (.t s23))⟩
    .done)))))))))))
  (.cond (.t s24) (.reg (.one ⟨some s25, none, (.mv (.t s0))⟩
    (.one ⟨some s26, none, (.nilchk (.t s25))⟩
    (.one ⟨some s27, none, (.faddr 7 (.t s26))⟩
    (.one ⟨some s28, none, (.load none (.t s27))⟩
    (.one ⟨some s2, none, (.mv (.t s28))⟩
    .done)))))) .skip))
  (.seq (.seq (.reg (.one ⟨some s29, none, (.mv (.t s1))⟩
    (.one ⟨some s30, none, (.mv (.t s2))⟩
    (.one ⟨some s31, none, (.bin false .geq (.t s29) (.t s30))⟩
    .done))))
  (.cond (.t s31) (.seq (.reg (.one ⟨some s32, none, (.build [(.v (.int .i64 0)), (.v (.int .i64 0))] [])⟩
    (.one ⟨none, none, (.store 2 (.t s6) (.t s32))⟩
    (.one ⟨some s7, none, (.mv (.c (.v (.int .i64 1))))⟩
    .done))))
  .ret) .skip))
  (.seq (.reg (.one ⟨some s33, none, (.mv (.t s1))⟩
    (.one ⟨some s34, none, (.mv (.t s2))⟩
    (.one ⟨some s35, none, (.build [(.v (.int .i64 0)), (.v (.int .i64 0))] [(0, 1, (.t s33)), (1, 1, (.t s34))])⟩
    (.one ⟨none, none, (.store 2 (.t s6) (.t s35))⟩
    (.one ⟨some s7, none, (.mv (.c (.v (.int .i64 0))))⟩
    .done))))))
  .ret)))))⟩
theorem ok78 : compF Try.prog c78 Try.f78 = some ir78 := by kernel_rfl
theorem k_sent_entry_span {args : List AVal} {σ : AHeap} {Q : AVal → AHeap → Prop} (hl : Nat.ble args.length 36 = true) (h : argsK (Env.full 9) 0 args fun env => evC Try.prog c78 ir78.body env σ (retQ ir78 Q)) : ACalls Try.prog 78 args σ Q :=
  acalls_of Try.func78 ok78 rfl (Nat.le_of_ble_eq_true hl) h
/- sent.Store).Dues$1 -/
def c83 : Cfg := ⟨qs, [], 15, [], ps⟩
def ir83 : IFun := ⟨2, [.tmp s3],
  (.seq (.reg (.one ⟨some s3, none, (.mv (.c (.v (.bool false))))⟩
    .done))
  (.seq (.reg (.one ⟨some s4, none, (.load none (.t s1))⟩
    (.one ⟨some s5, none, (.nilchk (.t s4))⟩
    (.one ⟨some s6, none, (.faddr 1 (.t s5))⟩
    (.one ⟨some s7, none, (.load none (.t s6))⟩
    (.one ⟨some s8, none, (.mv (.t s0))⟩
    (.one ⟨some s9, none, (.look (.v (.pointer none)) (.t s7) (.t s8))⟩
    (.one ⟨some s10, none, (.nilchk (.t s9))⟩
    (.one ⟨some s11, none, (.faddr 8 (.t s10))⟩
    (.one ⟨some s12, none, (.load none (.t s11))⟩
    (.one ⟨some s13, none, (.callq 55 [(.t s12)])⟩
    (.one ⟨some s14, none, (.bin false .eql (.t s13) (.c (.v (.int .i64 0))))⟩
    (.one ⟨some s3, none, (.mv (.t s14))⟩
    .done)))))))))))))
  .ret))⟩
theorem ok83 : compF Try.prog c83 Try.f83 = some ir83 := by kernel_rfl
theorem k_sent_Store_Dues_1 {args : List AVal} {σ : AHeap} {Q : AVal → AHeap → Prop} (hl : Nat.ble args.length 15 = true) (h : argsK (Env.full 9) 0 args fun env => evC Try.prog c83 ir83.body env σ (retQ ir83 Q)) : ACalls Try.prog 83 args σ Q :=
  acalls_of Try.func83 ok83 rfl (Nat.le_of_ble_eq_true hl) h
end Go.Proofs.Ytgobbmdbkmjlnaa
/-
  The bodies of one package, compiled to the framework's language (printed by a program of this session).
-/
namespace Go.Proofs.Ytgobbmdbkmjlnaa
set_option linter.unusedVariables false
set_option linter.unusedSimpArgs false
open Go Go.Am
end Go.Proofs.Ytgobbmdbkmjlnaa
/-
  The bodies of one package, compiled to the framework's language (printed by a program of this session).
-/
namespace Go.Proofs.Ytgobbmdbkmjlnaa
set_option linter.unusedVariables false
set_option linter.unusedSimpArgs false
open Go Go.Am
/- bowlineref03.Same -/
def c27 : Cfg := ⟨qs, [], 26, [], ps⟩
def ir27 : IFun := ⟨2, [.tmp s4],
  (.seq (.reg (.one ⟨some s4, none, (.mv (.c (.v (.bool false))))⟩
    .done))
  (.seq (.seq (.reg (.one ⟨some s6, none, (.mv (.t s0))⟩
    (.one ⟨some s7, none, (.len false (.t s6))⟩
    (.one ⟨some s8, none, (.mv (.t s1))⟩
    (.one ⟨some s9, none, (.len false (.t s8))⟩
    (.one ⟨some s10, none, (.bin false .neq (.t s7) (.t s9))⟩
    .done))))))
  (.cond (.t s10) (.seq (.reg (.one ⟨some s4, none, (.mv (.c (.v (.bool false))))⟩
    .done))
  .ret) .skip))
  (.seq (.seq (.reg (.one ⟨some s5, none, (.mv (.c (.v (.int .i64 0))))⟩
    .done))
  (.block 0 (.loop (.seq (.seq (.reg (.one ⟨some s11, none, (.mv (.t s5))⟩
    (.one ⟨some s12, none, (.mv (.t s0))⟩
    (.one ⟨some s13, none, (.len false (.t s12))⟩
    (.one ⟨some s14, none, (.bin false .lss (.t s11) (.t s13))⟩
    .done)))))
  (.cond (.t s14) .skip (.exit 0)))
  (.seq (.block 1 (.seq (.reg (.one ⟨some s17, none, (.mv (.t s0))⟩
    (.one ⟨some s18, none, (.mv (.t s5))⟩
    (.one ⟨some s19, none, (.iaddr 2 (.t s17) (.t s18))⟩
    (.one ⟨some s20, none, (.load (some 2) (.t s19))⟩
    (.one ⟨some s21, none, (.mv (.t s1))⟩
    (.one ⟨some s22, none, (.mv (.t s5))⟩
    (.one ⟨some s23, none, (.iaddr 2 (.t s21) (.t s22))⟩
    (.one ⟨some s24, none, (.load (some 2) (.t s23))⟩
    (.one ⟨some s25, none, (.eqAgg true [false, false] (.t s20) (.t s24))⟩
    .done))))))))))
  (.cond (.t s25) (.seq (.reg (.one ⟨some s4, none, (.mv (.c (.v (.bool false))))⟩
    .done))
  .ret) .skip)))
  (.reg (.one ⟨some s15, none, (.mv (.t s5))⟩
    (.one ⟨some s16, none, (.bin false .add (.t s15) (.c (.v (.int .i64 1))))⟩
    (.one ⟨some s5, none, (.mv (.t s16))⟩
    .done)))))))))
  (.seq (.reg (.one ⟨some s4, none, (.mv (.c (.v (.bool true))))⟩
    .done))
  .ret))))⟩
theorem ok27 : compF Try.prog c27 Try.f27 = some ir27 := by kernel_rfl
theorem k_bowlineref03_Same {args : List AVal} {σ : AHeap} {Q : AVal → AHeap → Prop} (hl : Nat.ble args.length 26 = true) (h : argsK (Env.full 9) 0 args fun env => evC Try.prog c27 ir27.body env σ (retQ ir27 Q)) : ACalls Try.prog 27 args σ Q :=
  acalls_of Try.func27 ok27 rfl (Nat.le_of_ble_eq_true hl) h
/- bowlineref03.Set).Count -/
def c69 : Cfg := ⟨qs, [], 30, [], ps⟩
def ir69 : IFun := ⟨2, [.tmp s4],
  (.seq (.reg (.one ⟨some s2, none, (.box 1 (.t s0))⟩
    (.one ⟨some s3, none, (.box 2 (.t s1))⟩
    (.one ⟨some s4, none, (.mv (.c (.v (.int .i64 0))))⟩
    .done))))
  (.seq (.reg (.one ⟨some s5, none, (.mv (.c (.v (.int .i64 0))))⟩
    .done))
  (.seq (.seq (.reg (.one ⟨some s7, none, (.faddr 0 (.t s3))⟩
    (.one ⟨some s8, none, (.load none (.t s7))⟩
    (.one ⟨some s6, none, (.mv (.t s8))⟩
    .done))))
  (.block 0 (.loop (.seq (.seq (.reg (.one ⟨some s9, none, (.mv (.t s6))⟩
    (.one ⟨some s10, none, (.faddr 1 (.t s3))⟩
    (.one ⟨some s11, none, (.load none (.t s10))⟩
    (.one ⟨some s12, none, (.bin false .lss (.t s9) (.t s11))⟩
    (.one ⟨some s13, none, (.mv (.t s12))⟩
    (.one ⟨some s14, some (s13, true), (.mv (.t s6))⟩
    (.one ⟨some s15, some (s13, true), (.faddr 0 (.t s2))⟩
    (.one ⟨some s16, some (s13, true), (.load none (.t s15))⟩
    (.one ⟨some s17, some (s13, true), (.len false (.t s16))⟩
    (.one ⟨some s18, some (s13, true), (.bin false .lss (.t s14) (.t s17))⟩
    (.one ⟨some s19, none, (.pick (.t s13) (.t s18) (.c (.v (.bool false))))⟩
    .done))))))))))))
  (.cond (.t s19) .skip (.exit 0)))
  (.seq (.block 1 (.seq (.reg (.one ⟨some s22, none, (.faddr 0 (.t s2))⟩
    (.one ⟨some s23, none, (.load none (.t s22))⟩
    (.one ⟨some s24, none, (.mv (.t s6))⟩
    (.one ⟨some s25, none, (.iaddr 1 (.t s23) (.t s24))⟩
    (.one ⟨some s26, none, (.load none (.t s25))⟩
    .done))))))
  (.cond (.t s26) (.reg (.one ⟨some s27, none, (.mv (.t s5))⟩
    (.one ⟨some s28, none, (.bin false .add (.t s27) (.c (.v (.int .i64 1))))⟩
    (.one ⟨some s5, none, (.mv (.t s28))⟩
    .done)))) .skip)))
  (.reg (.one ⟨some s20, none, (.mv (.t s6))⟩
    (.one ⟨some s21, none, (.bin false .add (.t s20) (.c (.v (.int .i64 1))))⟩
    (.one ⟨some s6, none, (.mv (.t s21))⟩
    .done)))))))))
  (.seq (.reg (.one ⟨some s29, none, (.mv (.t s5))⟩
    (.one ⟨some s4, none, (.mv (.t s29))⟩
    .done)))
  .ret))))⟩
theorem ok69 : compF Try.prog c69 Try.f69 = some ir69 := by kernel_rfl
theorem k_bowlineref03_Set_Count {args : List AVal} {σ : AHeap} {Q : AVal → AHeap → Prop} (hl : Nat.ble args.length 30 = true) (h : argsK (Env.full 9) 0 args fun env => evC Try.prog c69 ir69.body env σ (retQ ir69 Q)) : ACalls Try.prog 69 args σ Q :=
  acalls_of Try.func69 ok69 rfl (Nat.le_of_ble_eq_true hl) h
/- bowlineref03.Set).Spans -/
def c71 : Cfg := ⟨qs, [], 8, [], ps⟩
def ir71 : IFun := ⟨1, [.tmp s2],
  (.seq (.reg (.one ⟨some s1, none, (.box 1 (.t s0))⟩
    (.one ⟨some s2, none, (.mv (.c (.slice 2 [] .full)))⟩
    .done)))
  (.seq (.reg (.one ⟨some s3, none, (.load (some 1) (.t s1))⟩
    (.one ⟨some s4, none, (.faddr 0 (.t s1))⟩
    (.one ⟨some s5, none, (.load none (.t s4))⟩
    (.one ⟨some s6, none, (.len false (.t s5))⟩
    (.one ⟨some s7, none, (.callq 100 [(.t s3), (.c (.v (.bool true))), (.t s6)])⟩
    (.one ⟨some s2, none, (.mv (.t s7))⟩
    .done)))))))
  .ret))⟩
theorem ok71 : compF Try.prog c71 Try.f71 = some ir71 := by kernel_rfl
theorem k_bowlineref03_Set_Spans {args : List AVal} {σ : AHeap} {Q : AVal → AHeap → Prop} (hl : Nat.ble args.length 8 = true) (h : argsK (Env.full 9) 0 args fun env => evC Try.prog c71 ir71.body env σ (retQ ir71 Q)) : ACalls Try.prog 71 args σ Q :=
  acalls_of Try.func71 ok71 rfl (Nat.le_of_ble_eq_true hl) h
/- bowlineref03.Set).Change -/
def c87 : Cfg := ⟨qs, [], 23, [], ps⟩
def ir87 : IFun := ⟨3, [.cell s6 (some 1), .tmp s7],
  (.seq (.reg (.one ⟨some s3, none, (.box 1 (.t s0))⟩
    (.one ⟨some s4, none, (.box 2 (.t s1))⟩
    (.one ⟨some s6, none, (.new [(.slice 1 [] .full)])⟩
    (.one ⟨some s7, none, (.mv (.c (.v (.int .i64 0))))⟩
    .done)))))
  (.seq (.seq (.reg (.one ⟨some s9, none, (.load (some 2) (.t s4))⟩
    (.one ⟨some s10, none, (.callq 114 [(.t s9)])⟩
    (.one ⟨some s11, none, (.not (.t s10))⟩
    .done))))
  (.cond (.t s11) (.seq (.reg (.one ⟨some s12, none, (.load (some 1) (.t s3))⟩
    (.one ⟨none, none, (.store 1 (.t s6) (.t s12))⟩
    (.one ⟨some s7, none, (.mv (.c (.v (.int .i64 1))))⟩
    .done))))
  .ret) .skip))
  (.seq (.reg (.one ⟨some s13, none, (.load (some 1) (.t s3))⟩
    (.one ⟨some s14, none, (.load (some 2) (.t s4))⟩
    (.one ⟨some s15, none, (.mv (.t s2))⟩
    (.one ⟨some s16, none, (.callq 115 [(.t s13), (.t s14), (.t s15)])⟩
    (.one ⟨some s8, none, (.new [(.slice 1 [] .full)])⟩
    (.one ⟨none, none, (.store 1 (.t s8) (.t s16))⟩
    .done)))))))
  (.seq (.seq (.reg (.one ⟨some s17, none, (.load (some 1) (.t s8))⟩
    (.one ⟨some s18, none, (.callq 71 [(.t s17)])⟩
    (.one ⟨some s19, none, (.len false (.t s18))⟩
    (.one ⟨some s20, none, (.bin false .gtr (.t s19) (.c (.v (.int .i64 2048))))⟩
    .done)))))
  (.cond (.t s20) (.seq (.reg (.one ⟨some s21, none, (.load (some 1) (.t s3))⟩
    (.one ⟨none, none, (.store 1 (.t s6) (.t s21))⟩
    (.one ⟨some s7, none, (.mv (.c (.v (.int .i64 5))))⟩
    .done))))
  .ret) .skip))
  (.seq (.reg (.one ⟨some s22, none, (.load (some 1) (.t s8))⟩
    (.one ⟨none, none, (.store 1 (.t s6) (.t s22))⟩
    (.one ⟨some s7, none, (.mv (.c (.v (.int .i64 0))))⟩
    .done))))
  .ret)))))⟩
theorem ok87 : compF Try.prog c87 Try.f87 = some ir87 := by kernel_rfl
theorem k_bowlineref03_Set_Change {args : List AVal} {σ : AHeap} {Q : AVal → AHeap → Prop} (hl : Nat.ble args.length 23 = true) (h : argsK (Env.full 9) 0 args fun env => evC Try.prog c87 ir87.body env σ (retQ ir87 Q)) : ACalls Try.prog 87 args σ Q :=
  acalls_of Try.func87 ok87 rfl (Nat.le_of_ble_eq_true hl) h
/- bowlineref03.Set).runs -/
def c100m : Cfg := ⟨qs, [22, 25, 36, 42, 51, 54, 58, 64, 77, 79, 91], 60, [], ps⟩
def ir100m : IFun := ⟨3, [.tmp s6],
  (.seq (.reg (.one ⟨some s3, none, (.box 1 (.t s0))⟩
    (.one ⟨some s6, none, (.mv (.c (.slice 2 [] .full)))⟩
    .done)))
  (.seq (.reg (.one ⟨some s7, none, (.mv (.c (.slice 2 [] .full)))⟩
    .done))
  (.seq (.seq (.reg (.one ⟨some s8, none, (.mv (.c (.v (.int .i64 0))))⟩
    .done))
  (.block 0 (.loop (.seq (.seq (.reg (.one ⟨some s10, none, (.mv (.t s8))⟩
    (.one ⟨some s11, none, (.mv (.t s2))⟩
    (.one ⟨some s12, none, (.bin false .lss (.t s10) (.t s11))⟩
    .done))))
  (.cond (.t s12) .skip (.exit 0)))
  (.seq (.block 1 (.seq (.reg (.one ⟨some s15, none, (.mv (.t s8))⟩
    (.one ⟨some s16, none, (.faddr 0 (.t s3))⟩
    (.one ⟨some s17, none, (.load none (.t s16))⟩
    (.one ⟨some s18, none, (.len false (.t s17))⟩
    (.one ⟨some s19, none, (.bin false .lss (.t s15) (.t s18))⟩
    (.one ⟨some s20, none, (.mv (.t s19))⟩
    (.one ⟨some s21, some (s20, true), (.faddr 0 (.t s3))⟩
    (.one ⟨some s22, some (s20, true), (.load none (.t s21))⟩
    (.one ⟨some s23, some (s20, true), (.mv (.t s8))⟩
    (.one ⟨some s24, some (s20, true), (.iaddr 1 (.t s22) (.t s23))⟩
    (.one ⟨some s25, some (s20, true), (.load none (.t s24))⟩
    (.one ⟨some s26, none, (.pick (.t s20) (.t s25) (.c (.v (.bool false))))⟩
    (.one ⟨some s9, none, (.mv (.t s26))⟩
    .done))))))))))))))
  (.seq (.seq (.reg (.one ⟨some s27, none, (.mv (.t s9))⟩
    (.one ⟨some s28, none, (.mv (.t s1))⟩
    (.one ⟨some s29, none, (.bin true .neq (.t s27) (.t s28))⟩
    .done))))
  (.cond (.t s29) (.exit 1) .skip))
  (.seq (.reg (.one ⟨some s30, none, (.mv (.t s7))⟩
    (.one ⟨some s31, none, (.len false (.t s30))⟩
    (.one ⟨some s32, none, (.bin false .gtr (.t s31) (.c (.v (.int .i64 0))))⟩
    (.one ⟨some s33, none, (.mv (.t s32))⟩
    (.one ⟨some s34, some (s33, true), (.mv (.t s7))⟩
    (.one ⟨some s35, some (s33, true), (.mv (.t s7))⟩
    (.one ⟨some s36, some (s33, true), (.len false (.t s35))⟩
    (.one ⟨some s37, some (s33, true), (.bin false .sub (.t s36) (.c (.v (.int .i64 1))))⟩
    (.one ⟨some s38, some (s33, true), (.iaddr 2 (.t s34) (.t s37))⟩
    (.one ⟨some s39, some (s33, true), (.faddr 1 (.t s38))⟩
    (.one ⟨some s40, some (s33, true), (.load none (.t s39))⟩
    (.one ⟨some s41, some (s33, true), (.mv (.t s8))⟩
    (.one ⟨some s42, some (s33, true), (.bin false .eql (.t s40) (.t s41))⟩
    (.one ⟨some s43, none, (.pick (.t s33) (.t s42) (.c (.v (.bool false))))⟩
    .done)))))))))))))))
  (.cond (.t s43) (.reg (.one ⟨some s44, none, (.mv (.t s7))⟩
    (.one ⟨some s45, none, (.mv (.t s7))⟩
    (.one ⟨some s46, none, (.len false (.t s45))⟩
    (.one ⟨some s47, none, (.bin false .sub (.t s46) (.c (.v (.int .i64 1))))⟩
    (.one ⟨some s48, none, (.mv (.t s8))⟩
    (.one ⟨some s49, none, (.bin false .add (.t s48) (.c (.v (.int .i64 1))))⟩
    (.one ⟨some s50, none, (.iaddr 2 (.t s44) (.t s47))⟩
    (.one ⟨some s51, none, (.faddr 1 (.t s50))⟩
    (.one ⟨none, none, (.store 1 (.t s51) (.t s49))⟩
    .done)))))))))) (.reg (.one ⟨some s52, none, (.mv (.t s7))⟩
    (.one ⟨some s53, none, (.mv (.t s8))⟩
    (.one ⟨some s54, none, (.mv (.t s8))⟩
    (.one ⟨some s55, none, (.bin false .add (.t s54) (.c (.v (.int .i64 1))))⟩
    (.one ⟨some s56, none, (.build [(.v (.int .i64 0)), (.v (.int .i64 0))] [(0, 1, (.t s53)), (1, 1, (.t s55))])⟩
    (.one ⟨some s57, none, (.row 2 [(.t s56)])⟩
    (.one ⟨some s58, none, (.appm 2 16 (.t s52) (.t s57))⟩
    (.one ⟨some s7, none, (.mv (.t s58))⟩
    .done))))))))))))))
  (.reg (.one ⟨some s13, none, (.mv (.t s8))⟩
    (.one ⟨some s14, none, (.bin false .add (.t s13) (.c (.v (.int .i64 1))))⟩
    (.one ⟨some s8, none, (.mv (.t s14))⟩
    .done)))))))))
  (.seq (.reg (.one ⟨some s59, none, (.mv (.t s7))⟩
    (.one ⟨some s6, none, (.mv (.t s59))⟩
    .done)))
  .ret))))⟩
theorem ok100m : compF Try.prog c100m Try.f100 = some ir100m := by kernel_rfl
theorem km_bowlineref03_Set_runs {args : List AVal} {σ : AHeap} {Q : AVal → AHeap → Prop} (hl : Nat.ble args.length 60 = true) (h : argsK (Env.full 9) 0 args fun env => evC Try.prog c100m ir100m.body env σ (retQ ir100m Q)) : ACalls Try.prog 100 args σ Q :=
  acalls_of Try.func100 ok100m rfl (Nat.le_of_ble_eq_true hl) h
/- bowlineref03.Right -/
def c114 : Cfg := ⟨qs, [], 18, [], ps⟩
def ir114 : IFun := ⟨1, [.tmp s2],
  (.seq (.reg (.one ⟨some s1, none, (.box 2 (.t s0))⟩
    (.one ⟨some s2, none, (.mv (.c (.v (.bool false))))⟩
    .done)))
  (.seq (.reg (.one ⟨some s3, none, (.faddr 0 (.t s1))⟩
    (.one ⟨some s4, none, (.load none (.t s3))⟩
    (.one ⟨some s5, none, (.bin false .geq (.t s4) (.c (.v (.int .i64 0))))⟩
    (.one ⟨some s6, none, (.mv (.t s5))⟩
    (.one ⟨some s7, some (s6, true), (.faddr 0 (.t s1))⟩
    (.one ⟨some s8, some (s6, true), (.load none (.t s7))⟩
    (.one ⟨some s9, some (s6, true), (.faddr 1 (.t s1))⟩
    (.one ⟨some s10, some (s6, true), (.load none (.t s9))⟩
    (.one ⟨some s11, some (s6, true), (.bin false .lss (.t s8) (.t s10))⟩
    (.one ⟨some s12, none, (.pick (.t s6) (.t s11) (.c (.v (.bool false))))⟩
    (.one ⟨some s13, none, (.mv (.t s12))⟩
    (.one ⟨some s14, some (s13, true), (.faddr 1 (.t s1))⟩
    (.one ⟨some s15, some (s13, true), (.load none (.t s14))⟩
    (.one ⟨some s16, some (s13, true), (.bin false .leq (.t s15) (.c (.v (.int .i64 65536))))⟩
    (.one ⟨some s17, none, (.pick (.t s13) (.t s16) (.c (.v (.bool false))))⟩
    (.one ⟨some s2, none, (.mv (.t s17))⟩
    .done)))))))))))))))))
  .ret))⟩
theorem ok114 : compF Try.prog c114 Try.f114 = some ir114 := by kernel_rfl
theorem k_bowlineref03_Right {args : List AVal} {σ : AHeap} {Q : AVal → AHeap → Prop} (hl : Nat.ble args.length 18 = true) (h : argsK (Env.full 9) 0 args fun env => evC Try.prog c114 ir114.body env σ (retQ ir114 Q)) : ACalls Try.prog 114 args σ Q :=
  acalls_of Try.func114 ok114 rfl (Nat.le_of_ble_eq_true hl) h
/- bowlineref03.Set).with -/
def c115m : Cfg := ⟨qs, [22, 25, 36, 42, 51, 54, 58, 64, 77, 79, 91], 35, [], ps⟩
def ir115m : IFun := ⟨3, [.cell s6 (some 1)],
  (.seq (.reg (.one ⟨some s3, none, (.box 1 (.t s0))⟩
    (.one ⟨some s4, none, (.box 2 (.t s1))⟩
    (.one ⟨some s6, none, (.new [(.slice 1 [] .full)])⟩
    .done))))
  (.seq (.reg (.one ⟨some s7, none, (.mv (.c (.slice 1 [] .full)))⟩
    .done))
  (.seq (.reg (.one ⟨some s9, none, (.mv (.t s7))⟩
    (.one ⟨some s10, none, (.faddr 0 (.t s3))⟩
    (.one ⟨some s11, none, (.load none (.t s10))⟩
    (.one ⟨some s12, none, (.appm 1 1 (.t s9) (.t s11))⟩
    (.one ⟨some s7, none, (.mv (.t s12))⟩
    .done))))))
  (.seq (.block 0 (.loop (.seq (.seq (.reg (.one ⟨some s13, none, (.mv (.t s7))⟩
    (.one ⟨some s14, none, (.len false (.t s13))⟩
    (.one ⟨some s15, none, (.faddr 1 (.t s4))⟩
    (.one ⟨some s16, none, (.load none (.t s15))⟩
    (.one ⟨some s17, none, (.bin false .lss (.t s14) (.t s16))⟩
    .done))))))
  (.cond (.t s17) .skip (.exit 0)))
  (.block 1 (.reg (.one ⟨some s18, none, (.mv (.t s7))⟩
    (.one ⟨some s19, none, (.row 1 [(.c (.v (.bool false)))])⟩
    (.one ⟨some s20, none, (.appm 1 1 (.t s18) (.t s19))⟩
    (.one ⟨some s7, none, (.mv (.t s20))⟩
    .done)))))))))
  (.seq (.seq (.reg (.one ⟨some s21, none, (.faddr 0 (.t s4))⟩
    (.one ⟨some s22, none, (.load none (.t s21))⟩
    (.one ⟨some s8, none, (.mv (.t s22))⟩
    .done))))
  (.block 2 (.loop (.seq (.seq (.reg (.one ⟨some s23, none, (.mv (.t s8))⟩
    (.one ⟨some s24, none, (.faddr 1 (.t s4))⟩
    (.one ⟨some s25, none, (.load none (.t s24))⟩
    (.one ⟨some s26, none, (.bin false .lss (.t s23) (.t s25))⟩
    .done)))))
  (.cond (.t s26) .skip (.exit 2)))
  (.seq (.block 3 (.reg (.one ⟨some s29, none, (.mv (.t s7))⟩
    (.one ⟨some s30, none, (.mv (.t s8))⟩
    (.one ⟨some s31, none, (.mv (.t s2))⟩
    (.one ⟨some s32, none, (.iaddr 1 (.t s29) (.t s30))⟩
    (.one ⟨none, none, (.store 1 (.t s32) (.t s31))⟩
    .done)))))))
  (.reg (.one ⟨some s27, none, (.mv (.t s8))⟩
    (.one ⟨some s28, none, (.bin false .add (.t s27) (.c (.v (.int .i64 1))))⟩
    (.one ⟨some s8, none, (.mv (.t s28))⟩
    .done)))))))))
  (.seq (.reg (.one ⟨some s33, none, (.mv (.t s7))⟩
    (.one ⟨some s34, none, (.build [(.slice 1 [] .full)] [(0, 1, (.t s33))])⟩
    (.one ⟨none, none, (.store 1 (.t s6) (.t s34))⟩
    .done))))
  .ret))))))⟩
theorem ok115m : compF Try.prog c115m Try.f115 = some ir115m := by kernel_rfl
theorem km_bowlineref03_Set_with {args : List AVal} {σ : AHeap} {Q : AVal → AHeap → Prop} (hl : Nat.ble args.length 35 = true) (h : argsK (Env.full 9) 0 args fun env => evC Try.prog c115m ir115m.body env σ (retQ ir115m Q)) : ACalls Try.prog 115 args σ Q :=
  acalls_of Try.func115 ok115m rfl (Nat.le_of_ble_eq_true hl) h
end Go.Proofs.Ytgobbmdbkmjlnaa
/-
  The bodies of one package, compiled to the framework's language (printed by a program of this session).
-/
namespace Go.Proofs.Ytgobbmdbkmjlnaa
set_option linter.unusedVariables false
set_option linter.unusedSimpArgs false
open Go Go.Am
/- bowlinelaw03.As -/
def c28 : Cfg := ⟨qs, [], 26, [], ps⟩
def ir28 : IFun := ⟨1, [.tmp s2],
  (.seq (.reg (.one ⟨some s2, none, (.mv (.c (.slice 2 [] .full)))⟩
    .done))
  (.seq (.reg (.one ⟨some s3, none, (.mv (.c (.slice 2 [] .full)))⟩
    .done))
  (.seq (.seq (.reg (.one ⟨some s4, none, (.mv (.c (.v (.int .i64 0))))⟩
    .done))
  (.block 0 (.loop (.seq (.seq (.reg (.one ⟨some s5, none, (.mv (.t s4))⟩
    (.one ⟨some s6, none, (.mv (.t s0))⟩
    (.one ⟨some s7, none, (.len false (.t s6))⟩
    (.one ⟨some s8, none, (.bin false .lss (.t s5) (.t s7))⟩
    .done)))))
  (.cond (.t s8) .skip (.exit 0)))
  (.seq (.block 1 (.reg (.one ⟨some s11, none, (.mv (.t s3))⟩
    (.one ⟨some s12, none, (.mv (.t s0))⟩
    (.one ⟨some s13, none, (.mv (.t s4))⟩
    (.one ⟨some s14, none, (.iaddr 2 (.t s12) (.t s13))⟩
    (.one ⟨some s15, none, (.faddr 0 (.t s14))⟩
    (.one ⟨some s16, none, (.load none (.t s15))⟩
    (.one ⟨some s17, none, (.mv (.t s0))⟩
    (.one ⟨some s18, none, (.mv (.t s4))⟩
    (.one ⟨some s19, none, (.iaddr 2 (.t s17) (.t s18))⟩
    (.one ⟨some s20, none, (.faddr 1 (.t s19))⟩
    (.one ⟨some s21, none, (.load none (.t s20))⟩
    (.one ⟨some s22, none, (.build [(.v (.int .i64 0)), (.v (.int .i64 0))] [(0, 1, (.t s16)), (1, 1, (.t s21))])⟩
    (.one ⟨some s23, none, (.row 2 [(.t s22)])⟩
    (.one ⟨some s24, none, (.app 2 16 (.t s11) (.t s23))⟩
    (.one ⟨some s3, none, (.mv (.t s24))⟩
    .done)))))))))))))))))
  (.reg (.one ⟨some s9, none, (.mv (.t s4))⟩
    (.one ⟨some s10, none, (.bin false .add (.t s9) (.c (.v (.int .i64 1))))⟩
    (.one ⟨some s4, none, (.mv (.t s10))⟩
    .done)))))))))
  (.seq (.reg (.one ⟨some s25, none, (.mv (.t s3))⟩
    (.one ⟨some s2, none, (.mv (.t s25))⟩
    .done)))
  .ret))))⟩
theorem ok28 : compF Try.prog c28 Try.f28 = some ir28 := by kernel_rfl
theorem k_bowlinelaw03_As {args : List AVal} {σ : AHeap} {Q : AVal → AHeap → Prop} (hl : Nat.ble args.length 26 = true) (h : argsK (Env.full 9) 0 args fun env => evC Try.prog c28 ir28.body env σ (retQ ir28 Q)) : ACalls Try.prog 28 args σ Q :=
  acalls_of Try.func28 ok28 rfl (Nat.le_of_ble_eq_true hl) h
end Go.Proofs.Ytgobbmdbkmjlnaa
/-
  The bodies of one package, compiled to the framework's language (printed by a program of this session).
-/
namespace Go.Proofs.Ytgobbmdbkmjlnaa
set_option linter.unusedVariables false
set_option linter.unusedSimpArgs false
open Go Go.Am
/- bowlineref09.SameFields -/
def c20 : Cfg := ⟨qs, [], 28, [], ps⟩
def ir20 : IFun := ⟨2, [.tmp s4],
  (.seq (.reg (.one ⟨some s4, none, (.mv (.c (.v (.bool false))))⟩
    .done))
  (.seq (.seq (.reg (.one ⟨some s6, none, (.mv (.t s0))⟩
    (.one ⟨some s7, none, (.len false (.t s6))⟩
    (.one ⟨some s8, none, (.mv (.t s1))⟩
    (.one ⟨some s9, none, (.len false (.t s8))⟩
    (.one ⟨some s10, none, (.bin false .neq (.t s7) (.t s9))⟩
    .done))))))
  (.cond (.t s10) (.seq (.reg (.one ⟨some s4, none, (.mv (.c (.v (.bool false))))⟩
    .done))
  .ret) .skip))
  (.seq (.seq (.reg (.one ⟨some s5, none, (.mv (.c (.v (.int .i64 0))))⟩
    .done))
  (.block 0 (.loop (.seq (.seq (.reg (.one ⟨some s11, none, (.mv (.t s5))⟩
    (.one ⟨some s12, none, (.mv (.t s0))⟩
    (.one ⟨some s13, none, (.len false (.t s12))⟩
    (.one ⟨some s14, none, (.bin false .lss (.t s11) (.t s13))⟩
    .done)))))
  (.cond (.t s14) .skip (.exit 0)))
  (.seq (.block 1 (.seq (.reg (.one ⟨some s17, none, (.mv (.t s0))⟩
    (.one ⟨some s18, none, (.mv (.t s5))⟩
    (.one ⟨some s19, none, (.iaddr 1 (.t s17) (.t s18))⟩
    (.one ⟨some s20, none, (.load none (.t s19))⟩
    (.one ⟨some s21, none, (.b2s (.t s20))⟩
    (.one ⟨some s22, none, (.mv (.t s1))⟩
    (.one ⟨some s23, none, (.mv (.t s5))⟩
    (.one ⟨some s24, none, (.iaddr 1 (.t s22) (.t s23))⟩
    (.one ⟨some s25, none, (.load none (.t s24))⟩
    (.one ⟨some s26, none, (.b2s (.t s25))⟩
    (.one ⟨some s27, none, (.bin false .neq (.t s21) (.t s26))⟩
    .done))))))))))))
  (.cond (.t s27) (.seq (.reg (.one ⟨some s4, none, (.mv (.c (.v (.bool false))))⟩
    .done))
  .ret) .skip)))
  (.reg (.one ⟨some s15, none, (.mv (.t s5))⟩
    (.one ⟨some s16, none, (.bin false .add (.t s15) (.c (.v (.int .i64 1))))⟩
    (.one ⟨some s5, none, (.mv (.t s16))⟩
    .done)))))))))
  (.seq (.reg (.one ⟨some s4, none, (.mv (.c (.v (.bool true))))⟩
    .done))
  .ret))))⟩
theorem ok20 : compF Try.prog c20 Try.f20 = some ir20 := by kernel_rfl
theorem k_bowlineref09_SameFields {args : List AVal} {σ : AHeap} {Q : AVal → AHeap → Prop} (hl : Nat.ble args.length 28 = true) (h : argsK (Env.full 9) 0 args fun env => evC Try.prog c20 ir20.body env σ (retQ ir20 Q)) : ACalls Try.prog 20 args σ Q :=
  acalls_of Try.func20 ok20 rfl (Nat.le_of_ble_eq_true hl) h
/- bowlineref09.Fields -/
def c113 : Cfg := ⟨qs, [], 67, [], ps⟩
def ir113 : IFun := ⟨3, [.tmp s6],
  (.seq (.reg (.one ⟨some s6, none, (.mv (.c (.v (.int .i64 0))))⟩
    .done))
  (.seq (.seq (.reg (.one ⟨some s10, none, (.mv (.t s0))⟩
    (.one ⟨some s11, none, (.len false (.t s10))⟩
    (.one ⟨some s12, none, (.bin false .lss (.t s11) (.c (.v (.int .i64 1))))⟩
    (.one ⟨some s13, none, (.mv (.t s12))⟩
    (.one ⟨some s14, some (s13, false), (.mv (.t s0))⟩
    (.one ⟨some s15, some (s13, false), (.len false (.t s14))⟩
    (.one ⟨some s16, some (s13, false), (.bin false .gtr (.t s15) (.c (.v (.int .i64 24))))⟩
    (.one ⟨some s17, none, (.pick (.t s13) (.c (.v (.bool true))) (.t s16))⟩
    .done)))))))))
  (.cond (.t s17) (.seq (.reg (.one ⟨some s6, none, (.mv (.c (.v (.int .i64 0))))⟩
    .done))
  .ret) .skip))
  (.seq (.reg (.one ⟨some s7, none, (.mv (.c (.v (.int .i64 2047))))⟩
    .done))
  (.seq (.reg (.one ⟨some s18, none, (.mv (.t s1))⟩
    (.one ⟨some s8, none, (.mv (.t s18))⟩
    .done)))
  (.seq (.seq (.reg (.one ⟨some s19, none, (.mv (.t s0))⟩
    (.one ⟨some s20, none, (.len false (.t s19))⟩
    (.one ⟨some s21, none, (.bin false .gtr (.t s20) (.c (.v (.int .i64 1))))⟩
    .done))))
  (.cond (.t s21) (.reg (.one ⟨some s22, none, (.mv (.t s8))⟩
    (.one ⟨some s23, none, (.mv (.t s0))⟩
    (.one ⟨some s24, none, (.len false (.t s23))⟩
    (.one ⟨some s25, none, (.bin false .sub (.t s24) (.c (.v (.int .i64 1))))⟩
    (.one ⟨some s26, none, (.mv (.t s2))⟩
    (.one ⟨some s27, none, (.callq 135 [(.t s25), (.t s26)])⟩
    (.one ⟨some s28, none, (.bin false .add (.t s22) (.t s27))⟩
    (.one ⟨some s8, none, (.mv (.t s28))⟩
    .done))))))))) .skip))
  (.seq (.seq (.reg (.one ⟨some s9, none, (.mv (.c (.v (.int .i64 0))))⟩
    .done))
  (.block 0 (.loop (.seq (.seq (.reg (.one ⟨some s29, none, (.mv (.t s9))⟩
    (.one ⟨some s30, none, (.mv (.t s0))⟩
    (.one ⟨some s31, none, (.len false (.t s30))⟩
    (.one ⟨some s32, none, (.bin false .lss (.t s29) (.t s31))⟩
    .done)))))
  (.cond (.t s32) .skip (.exit 0)))
  (.seq (.block 1 (.seq (.seq (.reg (.one ⟨some s35, none, (.mv (.t s0))⟩
    (.one ⟨some s36, none, (.mv (.t s9))⟩
    (.one ⟨some s37, none, (.iaddr 1 (.t s35) (.t s36))⟩
    (.one ⟨some s38, none, (.load none (.t s37))⟩
    (.one ⟨some s39, none, (.len false (.t s38))⟩
    (.one ⟨some s40, none, (.bin false .eql (.t s39) (.c (.v (.int .i64 0))))⟩
    (.one ⟨some s41, none, (.mv (.t s40))⟩
    (.one ⟨some s42, some (s41, false), (.mv (.t s9))⟩
    (.one ⟨some s43, some (s41, false), (.bin false .add (.t s42) (.c (.v (.int .i64 1))))⟩
    (.one ⟨some s44, some (s41, false), (.mv (.t s0))⟩
    (.one ⟨some s45, some (s41, false), (.len false (.t s44))⟩
    (.one ⟨some s46, some (s41, false), (.bin false .lss (.t s43) (.t s45))⟩
    (.one ⟨some s47, some (s41, false), (.mv (.t s46))⟩
    (.one ⟨some s48, some (s47, true), (.mv (.t s0))⟩
    (.one ⟨some s49, some (s47, true), (.mv (.t s9))⟩
    (.one ⟨some s50, some (s47, true), (.iaddr 1 (.t s48) (.t s49))⟩
    (.one ⟨some s51, some (s47, true), (.load none (.t s50))⟩
    (.one ⟨some s52, some (s47, true), (.len false (.t s51))⟩
    (.one ⟨some s53, some (s47, true), (.mv (.t s7))⟩
    (.one ⟨some s54, some (s47, true), (.bin false .gtr (.t s52) (.t s53))⟩
    (.one ⟨some s55, some (s41, false), (.pick (.t s47) (.t s54) (.c (.v (.bool false))))⟩
    (.one ⟨some s56, none, (.pick (.t s41) (.c (.v (.bool true))) (.t s55))⟩
    .done)))))))))))))))))))))))
  (.cond (.t s56) (.seq (.reg (.one ⟨some s6, none, (.mv (.c (.v (.int .i64 0))))⟩
    .done))
  .ret) .skip))
  (.seq (.reg (.one ⟨some s57, none, (.mv (.t s8))⟩
    (.one ⟨some s58, none, (.mv (.t s0))⟩
    (.one ⟨some s59, none, (.mv (.t s9))⟩
    (.one ⟨some s60, none, (.iaddr 1 (.t s58) (.t s59))⟩
    (.one ⟨some s61, none, (.load none (.t s60))⟩
    (.one ⟨some s62, none, (.len false (.t s61))⟩
    (.one ⟨some s63, none, (.bin false .add (.t s57) (.t s62))⟩
    (.one ⟨some s8, none, (.mv (.t s63))⟩
    .done)))))))))
  (.seq (.reg (.one ⟨some s64, none, (.mv (.t s8))⟩
    (.one ⟨some s65, none, (.bin false .gtr (.t s64) (.c (.v (.int .i64 4000))))⟩
    .done)))
  (.cond (.t s65) (.seq (.reg (.one ⟨some s6, none, (.mv (.c (.v (.int .i64 0))))⟩
    .done))
  .ret) .skip)))))
  (.reg (.one ⟨some s33, none, (.mv (.t s9))⟩
    (.one ⟨some s34, none, (.bin false .add (.t s33) (.c (.v (.int .i64 1))))⟩
    (.one ⟨some s9, none, (.mv (.t s34))⟩
    .done)))))))))
  (.seq (.reg (.one ⟨some s66, none, (.mv (.t s8))⟩
    (.one ⟨some s6, none, (.mv (.t s66))⟩
    .done)))
  .ret)))))))⟩
theorem ok113 : compF Try.prog c113 Try.f113 = some ir113 := by kernel_rfl
theorem k_bowlineref09_Fields {args : List AVal} {σ : AHeap} {Q : AVal → AHeap → Prop} (hl : Nat.ble args.length 67 = true) (h : argsK (Env.full 9) 0 args fun env => evC Try.prog c113 ir113.body env σ (retQ ir113 Q)) : ACalls Try.prog 113 args σ Q :=
  acalls_of Try.func113 ok113 rfl (Nat.le_of_ble_eq_true hl) h
end Go.Proofs.Ytgobbmdbkmjlnaa
/-
  The bodies of one package, compiled to the framework's language (printed by a program of this session).
-/
namespace Go.Proofs.Ytgobbmdbkmjlnaa
set_option linter.unusedVariables false
set_option linter.unusedSimpArgs false
open Go Go.Am
/- bowlineref08.Size -/
def c135 : Cfg := ⟨qs, [], 30, [], ps⟩
def ir135 : IFun := ⟨2, [.tmp s4],
  (.seq (.reg (.one ⟨some s4, none, (.mv (.c (.v (.int .i64 0))))⟩
    .done))
  (.seq (.seq (.reg (.one ⟨some s6, none, (.mv (.t s1))⟩
    (.one ⟨some s7, none, (.bin false .neq (.t s6) (.c (.v (.int .i64 11))))⟩
    (.one ⟨some s8, none, (.mv (.t s7))⟩
    (.one ⟨some s9, some (s8, true), (.mv (.t s1))⟩
    (.one ⟨some s10, some (s8, true), (.bin false .neq (.t s9) (.c (.v (.int .i64 15))))⟩
    (.one ⟨some s11, none, (.pick (.t s8) (.t s10) (.c (.v (.bool false))))⟩
    (.one ⟨some s12, none, (.mv (.t s11))⟩
    (.one ⟨some s13, some (s12, false), (.mv (.t s0))⟩
    (.one ⟨some s14, some (s12, false), (.bin false .lss (.t s13) (.c (.v (.int .i64 1))))⟩
    (.one ⟨some s15, none, (.pick (.t s12) (.c (.v (.bool true))) (.t s14))⟩
    (.one ⟨some s16, none, (.mv (.t s15))⟩
    (.one ⟨some s17, some (s16, false), (.mv (.t s0))⟩
    (.one ⟨some s18, some (s16, false), (.bin false .gtr (.t s17) (.c (.v (.int .i64 23))))⟩
    (.one ⟨some s19, none, (.pick (.t s16) (.c (.v (.bool true))) (.t s18))⟩
    .done)))))))))))))))
  (.cond (.t s19) (.seq (.reg (.one ⟨some s4, none, (.mv (.c (.v (.int .i64 0))))⟩
    .done))
  .ret) .skip))
  (.seq (.reg (.one ⟨some s5, none, (.mv (.c (.v (.int .i64 0))))⟩
    .done))
  (.seq (.block 0 (.loop (.seq (.seq (.reg (.one ⟨some s20, none, (.mv (.t s5))⟩
    (.one ⟨some s21, none, (.bin false .mul (.c (.v (.int .i64 8))) (.t s20))⟩
    (.one ⟨some s22, none, (.mv (.t s0))⟩
    (.one ⟨some s23, none, (.mv (.t s1))⟩
    (.one ⟨some s24, none, (.bin false .add (.t s23) (.c (.v (.int .i64 1))))⟩
    (.one ⟨some s25, none, (.bin false .mul (.t s22) (.t s24))⟩
    (.one ⟨some s26, none, (.bin false .lss (.t s21) (.t s25))⟩
    .done))))))))
  (.cond (.t s26) .skip (.exit 0)))
  (.block 1 (.reg (.one ⟨some s27, none, (.mv (.t s5))⟩
    (.one ⟨some s28, none, (.bin false .add (.t s27) (.c (.v (.int .i64 1))))⟩
    (.one ⟨some s5, none, (.mv (.t s28))⟩
    .done))))))))
  (.seq (.reg (.one ⟨some s29, none, (.mv (.t s5))⟩
    (.one ⟨some s4, none, (.mv (.t s29))⟩
    .done)))
  .ret)))))⟩
theorem ok135 : compF Try.prog c135 Try.f135 = some ir135 := by kernel_rfl
theorem k_bowlineref08_Size {args : List AVal} {σ : AHeap} {Q : AVal → AHeap → Prop} (hl : Nat.ble args.length 30 = true) (h : argsK (Env.full 9) 0 args fun env => evC Try.prog c135 ir135.body env σ (retQ ir135 Q)) : ACalls Try.prog 135 args σ Q :=
  acalls_of Try.func135 ok135 rfl (Nat.le_of_ble_eq_true hl) h
end Go.Proofs.Ytgobbmdbkmjlnaa
/-
  The bodies of one package, compiled to the framework's language (printed by a program of this session).
-/
namespace Go.Proofs.Ytgobbmdbkmjlnaa
set_option linter.unusedVariables false
set_option linter.unusedSimpArgs false
open Go Go.Am
/- bowlineref10.Data -/
def c66 : Cfg := ⟨qs, [], 20, [], ps⟩
def ir66 : IFun := ⟨1, [.tmp s2],
  (.seq (.reg (.one ⟨some s1, none, (.box 7 (.t s0))⟩
    (.one ⟨some s2, none, (.mv (.c (.slice 1 [] .full)))⟩
    .done)))
  (.seq (.reg (.one ⟨some s3, none, (.mv (.c (.slice 1 [] .full)))⟩
    .done))
  (.seq (.seq (.reg (.one ⟨some s4, none, (.mv (.c (.v (.int .i64 0))))⟩
    .done))
  (.block 0 (.loop (.seq (.seq (.reg (.one ⟨some s5, none, (.mv (.t s4))⟩
    (.one ⟨some s6, none, (.faddr 6 (.t s1))⟩
    (.one ⟨some s7, none, (.load none (.t s6))⟩
    (.one ⟨some s8, none, (.len false (.t s7))⟩
    (.one ⟨some s9, none, (.bin false .lss (.t s5) (.t s8))⟩
    .done))))))
  (.cond (.t s9) .skip (.exit 0)))
  (.seq (.block 1 (.reg (.one ⟨some s12, none, (.mv (.t s3))⟩
    (.one ⟨some s13, none, (.faddr 6 (.t s1))⟩
    (.one ⟨some s14, none, (.load none (.t s13))⟩
    (.one ⟨some s15, none, (.mv (.t s4))⟩
    (.one ⟨some s16, none, (.iaddr 1 (.t s14) (.t s15))⟩
    (.one ⟨some s17, none, (.load none (.t s16))⟩
    (.one ⟨some s18, none, (.app 1 1 (.t s12) (.t s17))⟩
    (.one ⟨some s3, none, (.mv (.t s18))⟩
    .done))))))))))
  (.reg (.one ⟨some s10, none, (.mv (.t s4))⟩
    (.one ⟨some s11, none, (.bin false .add (.t s10) (.c (.v (.int .i64 1))))⟩
    (.one ⟨some s4, none, (.mv (.t s11))⟩
    .done)))))))))
  (.seq (.reg (.one ⟨some s19, none, (.mv (.t s3))⟩
    (.one ⟨some s2, none, (.mv (.t s19))⟩
    .done)))
  .ret))))⟩
theorem ok66 : compF Try.prog c66 Try.f66 = some ir66 := by kernel_rfl
theorem k_bowlineref10_Data {args : List AVal} {σ : AHeap} {Q : AVal → AHeap → Prop} (hl : Nat.ble args.length 20 = true) (h : argsK (Env.full 9) 0 args fun env => evC Try.prog c66 ir66.body env σ (retQ ir66 Q)) : ACalls Try.prog 66 args σ Q :=
  acalls_of Try.func66 ok66 rfl (Nat.le_of_ble_eq_true hl) h
/- bowlineref10.Size -/
def c84 : Cfg := ⟨qs, [], 66, [], ps⟩
def ir84 : IFun := ⟨2, [.tmp s4],
  (.seq (.reg (.one ⟨some s2, none, (.box 7 (.t s0))⟩
    (.one ⟨some s4, none, (.mv (.c (.v (.int .i64 0))))⟩
    .done)))
  (.seq (.reg (.one ⟨some s8, none, (.mv (.t s1))⟩
    (.one ⟨some s9, none, (.callq 109 [(.t s8)])⟩
    (.one ⟨some s7, none, (.mv (.t s9))⟩
    (.one ⟨some s10, none, (.ext (.t s7) 0)⟩
    (.one ⟨some s11, none, (.ext (.t s7) 1)⟩
    (.one ⟨some s5, none, (.mv (.t s10))⟩
    (.one ⟨some s6, none, (.mv (.t s11))⟩
    .done))))))))
  (.seq (.seq (.reg (.one ⟨some s12, none, (.mv (.t s1))⟩
    (.one ⟨some s13, none, (.callq 110 [(.c (.v (.bool false))), (.t s12)])⟩
    (.one ⟨some s14, none, (.bin false .eql (.t s13) (.c (.v (.int .i64 0))))⟩
    (.one ⟨some s15, none, (.mv (.t s14))⟩
    (.one ⟨some s16, some (s15, false), (.faddr 1 (.t s2))⟩
    (.one ⟨some s17, some (s15, false), (.load none (.t s16))⟩
    (.one ⟨some s18, some (s15, false), (.bin false .lss (.t s17) (.c (.v (.int .i64 0))))⟩
    (.one ⟨some s19, none, (.pick (.t s15) (.c (.v (.bool true))) (.t s18))⟩
    (.one ⟨some s20, none, (.mv (.t s19))⟩
    (.one ⟨some s21, some (s20, false), (.faddr 1 (.t s2))⟩
    (.one ⟨some s22, some (s20, false), (.load none (.t s21))⟩
    (.one ⟨some s23, some (s20, false), (.bin false .gtr (.t s22) (.c (.v (.int .i64 3))))⟩
    (.one ⟨some s24, none, (.pick (.t s20) (.c (.v (.bool true))) (.t s23))⟩
    (.one ⟨some s25, none, (.mv (.t s24))⟩
    (.one ⟨some s26, some (s25, false), (.mv (.t s1))⟩
    (.one ⟨some s27, some (s25, false), (.faddr 2 (.t s2))⟩
    (.one ⟨some s28, some (s25, false), (.load none (.t s27))⟩
    (.one ⟨some s29, some (s25, false), (.callq 111 [(.t s26), (.t s28)])⟩
    (.one ⟨some s30, some (s25, false), (.not (.t s29))⟩
    (.one ⟨some s31, none, (.pick (.t s25) (.c (.v (.bool true))) (.t s30))⟩
    (.one ⟨some s32, none, (.mv (.t s31))⟩
    (.one ⟨some s33, some (s32, false), (.faddr 5 (.t s2))⟩
    (.one ⟨some s34, some (s32, false), (.load none (.t s33))⟩
    (.one ⟨some s35, some (s32, false), (.bin false .lss (.t s34) (.c (.v (.int .i64 0))))⟩
    (.one ⟨some s36, none, (.pick (.t s32) (.c (.v (.bool true))) (.t s35))⟩
    (.one ⟨some s37, none, (.mv (.t s36))⟩
    (.one ⟨some s38, some (s37, false), (.faddr 5 (.t s2))⟩
    (.one ⟨some s39, some (s37, false), (.load none (.t s38))⟩
    (.one ⟨some s40, some (s37, false), (.mv (.t s6))⟩
    (.one ⟨some s41, some (s37, false), (.callq 112 [(.t s40)])⟩
    (.one ⟨some s42, some (s37, false), (.bin false .geq (.t s39) (.t s41))⟩
    (.one ⟨some s43, none, (.pick (.t s37) (.c (.v (.bool true))) (.t s42))⟩
    (.one ⟨some s44, none, (.mv (.t s43))⟩
    (.one ⟨some s45, some (s44, false), (.faddr 3 (.t s2))⟩
    (.one ⟨some s46, some (s44, false), (.load none (.t s45))⟩
    (.one ⟨some s47, some (s44, false), (.not (.t s46))⟩
    (.one ⟨some s48, some (s44, false), (.mv (.t s47))⟩
    (.one ⟨some s49, some (s48, true), (.faddr 4 (.t s2))⟩
    (.one ⟨some s50, some (s48, true), (.load none (.t s49))⟩
    (.one ⟨some s51, some (s48, true), (.mv (.t s50))⟩
    (.one ⟨some s52, some (s51, false), (.faddr 5 (.t s2))⟩
    (.one ⟨some s53, some (s51, false), (.load none (.t s52))⟩
    (.one ⟨some s54, some (s51, false), (.bin false .gtr (.t s53) (.c (.v (.int .i64 0))))⟩
    (.one ⟨some s55, some (s48, true), (.pick (.t s51) (.c (.v (.bool true))) (.t s54))⟩
    (.one ⟨some s56, some (s44, false), (.pick (.t s48) (.t s55) (.c (.v (.bool false))))⟩
    (.one ⟨some s57, none, (.pick (.t s44) (.c (.v (.bool true))) (.t s56))⟩
    .done)))))))))))))))))))))))))))))))))))))))))))))))
  (.cond (.t s57) (.seq (.reg (.one ⟨some s4, none, (.mv (.c (.v (.int .i64 0))))⟩
    .done))
  .ret) .skip))
  (.seq (.reg (.one ⟨some s58, none, (.faddr 6 (.t s2))⟩
    (.one ⟨some s59, none, (.load none (.t s58))⟩
    (.one ⟨some s60, none, (.faddr 3 (.t s2))⟩
    (.one ⟨some s61, none, (.load none (.t s60))⟩
    (.one ⟨some s62, none, (.mv (.t s1))⟩
    (.one ⟨some s64, none, (.mv (.t s5))⟩
    (.one ⟨some s63, none, (.callq 110 [(.t s61), (.t s62)])⟩
    (.one ⟨some s65, none, (.callq 113 [(.t s59), (.t s63), (.t s64)])⟩
    (.one ⟨some s4, none, (.mv (.t s65))⟩
    .done))))))))))
  .ret))))⟩
theorem ok84 : compF Try.prog c84 Try.f84 = some ir84 := by kernel_rfl
theorem k_bowlineref10_Size {args : List AVal} {σ : AHeap} {Q : AVal → AHeap → Prop} (hl : Nat.ble args.length 66 = true) (h : argsK (Env.full 9) 0 args fun env => evC Try.prog c84 ir84.body env σ (retQ ir84 Q)) : ACalls Try.prog 84 args σ Q :=
  acalls_of Try.func84 ok84 rfl (Nat.le_of_ble_eq_true hl) h
/- bowlineref10.Same -/
def c88 : Cfg := ⟨qs, [], 52, [], ps⟩
def ir88 : IFun := ⟨2, [.tmp s4],
  (.seq (.reg (.one ⟨some s2, none, (.box 7 (.t s0))⟩
    (.one ⟨some s3, none, (.box 7 (.t s1))⟩
    (.one ⟨some s4, none, (.mv (.c (.v (.bool false))))⟩
    .done))))
  (.seq (.reg (.one ⟨some s5, none, (.faddr 0 (.t s2))⟩
    (.one ⟨some s6, none, (.load none (.t s5))⟩
    (.one ⟨some s7, none, (.faddr 0 (.t s3))⟩
    (.one ⟨some s8, none, (.load none (.t s7))⟩
    (.one ⟨some s9, none, (.bin true .eql (.t s6) (.t s8))⟩
    (.one ⟨some s10, none, (.mv (.t s9))⟩
    (.one ⟨some s11, some (s10, true), (.faddr 1 (.t s2))⟩
    (.one ⟨some s12, some (s10, true), (.load none (.t s11))⟩
    (.one ⟨some s13, some (s10, true), (.faddr 1 (.t s3))⟩
    (.one ⟨some s14, some (s10, true), (.load none (.t s13))⟩
    (.one ⟨some s15, some (s10, true), (.bin false .eql (.t s12) (.t s14))⟩
    (.one ⟨some s16, none, (.pick (.t s10) (.t s15) (.c (.v (.bool false))))⟩
    (.one ⟨some s17, none, (.mv (.t s16))⟩
    (.one ⟨some s18, some (s17, true), (.faddr 2 (.t s2))⟩
    (.one ⟨some s19, some (s17, true), (.load none (.t s18))⟩
    (.one ⟨some s20, some (s17, true), (.faddr 2 (.t s3))⟩
    (.one ⟨some s21, some (s17, true), (.load none (.t s20))⟩
    (.one ⟨some s22, some (s17, true), (.bin false .eql (.t s19) (.t s21))⟩
    (.one ⟨some s23, none, (.pick (.t s17) (.t s22) (.c (.v (.bool false))))⟩
    (.one ⟨some s24, none, (.mv (.t s23))⟩
    (.one ⟨some s25, some (s24, true), (.faddr 3 (.t s2))⟩
    (.one ⟨some s26, some (s24, true), (.load none (.t s25))⟩
    (.one ⟨some s27, some (s24, true), (.faddr 3 (.t s3))⟩
    (.one ⟨some s28, some (s24, true), (.load none (.t s27))⟩
    (.one ⟨some s29, some (s24, true), (.bin true .eql (.t s26) (.t s28))⟩
    (.one ⟨some s30, none, (.pick (.t s24) (.t s29) (.c (.v (.bool false))))⟩
    (.one ⟨some s31, none, (.mv (.t s30))⟩
    (.one ⟨some s32, some (s31, true), (.faddr 4 (.t s2))⟩
    (.one ⟨some s33, some (s31, true), (.load none (.t s32))⟩
    (.one ⟨some s34, some (s31, true), (.faddr 4 (.t s3))⟩
    (.one ⟨some s35, some (s31, true), (.load none (.t s34))⟩
    (.one ⟨some s36, some (s31, true), (.bin true .eql (.t s33) (.t s35))⟩
    (.one ⟨some s37, none, (.pick (.t s31) (.t s36) (.c (.v (.bool false))))⟩
    (.one ⟨some s38, none, (.mv (.t s37))⟩
    (.one ⟨some s39, some (s38, true), (.faddr 5 (.t s2))⟩
    (.one ⟨some s40, some (s38, true), (.load none (.t s39))⟩
    (.one ⟨some s41, some (s38, true), (.faddr 5 (.t s3))⟩
    (.one ⟨some s42, some (s38, true), (.load none (.t s41))⟩
    (.one ⟨some s43, some (s38, true), (.bin false .eql (.t s40) (.t s42))⟩
    (.one ⟨some s44, none, (.pick (.t s38) (.t s43) (.c (.v (.bool false))))⟩
    (.one ⟨some s45, none, (.mv (.t s44))⟩
    (.one ⟨some s46, some (s45, true), (.faddr 6 (.t s2))⟩
    (.one ⟨some s47, some (s45, true), (.load none (.t s46))⟩
    (.one ⟨some s48, some (s45, true), (.faddr 6 (.t s3))⟩
    (.one ⟨some s49, some (s45, true), (.load none (.t s48))⟩
    (.one ⟨some s50, some (s45, true), (.callq 20 [(.t s47), (.t s49)])⟩
    (.one ⟨some s51, none, (.pick (.t s45) (.t s50) (.c (.v (.bool false))))⟩
    (.one ⟨some s4, none, (.mv (.t s51))⟩
    .done)))))))))))))))))))))))))))))))))))))))))))))))))
  .ret))⟩
theorem ok88 : compF Try.prog c88 Try.f88 = some ir88 := by kernel_rfl
theorem k_bowlineref10_Same {args : List AVal} {σ : AHeap} {Q : AVal → AHeap → Prop} (hl : Nat.ble args.length 52 = true) (h : argsK (Env.full 9) 0 args fun env => evC Try.prog c88 ir88.body env σ (retQ ir88 Q)) : ACalls Try.prog 88 args σ Q :=
  acalls_of Try.func88 ok88 rfl (Nat.le_of_ble_eq_true hl) h
/- bowlineref10.widths -/
def c109 : Cfg := ⟨qs, [], 6, [], ps⟩
def ir109 : IFun := ⟨1, [.tmp s2, .tmp s3],
  (.seq (.reg (.one ⟨some s2, none, (.mv (.c (.v (.int .i64 0))))⟩
    (.one ⟨some s3, none, (.mv (.c (.v (.int .i64 0))))⟩
    .done)))
  (.seq (.seq (.reg (.one ⟨some s4, none, (.mv (.t s0))⟩
    (.one ⟨some s5, none, (.bin false .eql (.t s4) (.c (.v (.int .i64 10))))⟩
    .done)))
  (.cond (.t s5) (.seq (.reg (.one ⟨some s2, none, (.mv (.c (.v (.int .i64 11))))⟩
    (.one ⟨some s3, none, (.mv (.c (.v (.int .i64 15))))⟩
    .done)))
  .ret) .skip))
  (.seq (.reg (.one ⟨some s2, none, (.mv (.c (.v (.int .i64 15))))⟩
    (.one ⟨some s3, none, (.mv (.c (.v (.int .i64 16))))⟩
    .done)))
  .ret)))⟩
theorem ok109 : compF Try.prog c109 Try.f109 = some ir109 := by kernel_rfl
theorem k_bowlineref10_widths {args : List AVal} {σ : AHeap} {Q : AVal → AHeap → Prop} (hl : Nat.ble args.length 6 = true) (h : argsK (Env.full 9) 0 args fun env => evC Try.prog c109 ir109.body env σ (retQ ir109 Q)) : ACalls Try.prog 109 args σ Q :=
  acalls_of Try.func109 ok109 rfl (Nat.le_of_ble_eq_true hl) h
/- bowlineref10.Head -/
def c110 : Cfg := ⟨qs, [], 18, [], ps⟩
def ir110 : IFun := ⟨2, [.tmp s4],
  (.seq (.reg (.one ⟨some s4, none, (.mv (.c (.v (.int .i64 0))))⟩
    .done))
  (.seq (.reg (.one ⟨some s5, none, (.mv (.c (.v (.int .i64 0))))⟩
    .done))
  (.seq (.seq (.reg (.one ⟨some s6, none, (.mv (.t s1))⟩
    (.one ⟨some s7, none, (.bin false .eql (.t s6) (.c (.v (.int .i64 10))))⟩
    .done)))
  (.cond (.t s7) (.reg (.one ⟨some s5, none, (.mv (.c (.v (.int .i64 2))))⟩
    .done)) .skip))
  (.seq (.seq (.reg (.one ⟨some s8, none, (.mv (.t s1))⟩
    (.one ⟨some s9, none, (.bin false .eql (.t s8) (.c (.v (.int .i64 16))))⟩
    .done)))
  (.cond (.t s9) (.reg (.one ⟨some s5, none, (.mv (.c (.v (.int .i64 3))))⟩
    .done)) .skip))
  (.seq (.seq (.reg (.one ⟨some s10, none, (.mv (.t s0))⟩
    (.one ⟨some s11, none, (.mv (.t s10))⟩
    (.one ⟨some s12, some (s11, true), (.mv (.t s5))⟩
    (.one ⟨some s13, some (s11, true), (.bin false .gtr (.t s12) (.c (.v (.int .i64 0))))⟩
    (.one ⟨some s14, none, (.pick (.t s11) (.t s13) (.c (.v (.bool false))))⟩
    .done))))))
  (.cond (.t s14) (.reg (.one ⟨some s15, none, (.mv (.t s5))⟩
    (.one ⟨some s16, none, (.bin false .add (.t s15) (.c (.v (.int .i64 2))))⟩
    (.one ⟨some s5, none, (.mv (.t s16))⟩
    .done)))) .skip))
  (.seq (.reg (.one ⟨some s17, none, (.mv (.t s5))⟩
    (.one ⟨some s4, none, (.mv (.t s17))⟩
    .done)))
  .ret))))))⟩
theorem ok110 : compF Try.prog c110 Try.f110 = some ir110 := by kernel_rfl
theorem k_bowlineref10_Head {args : List AVal} {σ : AHeap} {Q : AVal → AHeap → Prop} (hl : Nat.ble args.length 18 = true) (h : argsK (Env.full 9) 0 args fun env => evC Try.prog c110 ir110.body env σ (retQ ir110 Q)) : ACalls Try.prog 110 args σ Q :=
  acalls_of Try.func110 ok110 rfl (Nat.le_of_ble_eq_true hl) h
end Go.Proofs.Ytgobbmdbkmjlnaa
/-
  The bodies of one package, compiled to the framework's language (printed by a program of this session).
-/
namespace Go.Proofs.Ytgobbmdbkmjlnaa
set_option linter.unusedVariables false
set_option linter.unusedSimpArgs false
open Go Go.Am
/- bowlineref19.Store).Put -/
def c42m : Cfg := ⟨qs, [22, 25, 36, 42, 51, 54, 58, 64, 77, 79, 91], 78, [], ps⟩
def ir42m : IFun := ⟨2, [.tmp s4],
  (.seq (.reg (.one ⟨some s3, none, (.box 7 (.t s1))⟩
    (.one ⟨some s4, none, (.mv (.c (.v (.int .i64 0))))⟩
    .done)))
  (.seq (.seq (.reg (.one ⟨some s7, none, (.faddr 3 (.t s3))⟩
    (.one ⟨some s8, none, (.load none (.t s7))⟩
    (.one ⟨some s9, none, (.mv (.t s8))⟩
    (.one ⟨some s10, some (s9, false), (.load (some 7) (.t s3))⟩
    (.one ⟨some s11, some (s9, false), (.mv (.t s0))⟩
    (.one ⟨some s12, some (s9, false), (.nilchk (.t s11))⟩
    (.one ⟨some s13, some (s9, false), (.faddr 0 (.t s12))⟩
    (.one ⟨some s14, some (s9, false), (.load none (.t s13))⟩
    (.one ⟨some s15, some (s9, false), (.callq 84 [(.t s10), (.t s14)])⟩
    (.one ⟨some s16, some (s9, false), (.bin false .eql (.t s15) (.c (.v (.int .i64 0))))⟩
    (.one ⟨some s17, none, (.pick (.t s9) (.c (.v (.bool true))) (.t s16))⟩
    .done))))))))))))
  (.cond (.t s17) (.seq (.reg (.one ⟨some s4, none, (.mv (.c (.v (.int .i64 3))))⟩
    .done))
  .ret) .skip))
  (.seq (.seq (.reg (.one ⟨some s18, none, (.mv (.t s0))⟩
    (.one ⟨some s19, none, (.faddr 2 (.t s3))⟩
    (.one ⟨some s20, none, (.load none (.t s19))⟩
    (.one ⟨some s21, none, (.callq 85 [(.t s18), (.t s20)])⟩
    (.one ⟨some s22, none, (.bin false .geq (.t s21) (.c (.v (.int .i64 0))))⟩
    .done))))))
  (.cond (.t s22) (.seq (.reg (.one ⟨some s4, none, (.mv (.c (.v (.int .i64 12))))⟩
    .done))
  .ret) .skip))
  (.seq (.seq (.reg (.one ⟨some s23, none, (.mv (.t s0))⟩
    (.one ⟨some s24, none, (.nilchk (.t s23))⟩
    (.one ⟨some s25, none, (.faddr 1 (.t s24))⟩
    (.one ⟨some s26, none, (.load none (.t s25))⟩
    (.one ⟨some s27, none, (.len false (.t s26))⟩
    (.one ⟨some s28, none, (.bin false .geq (.t s27) (.c (.v (.int .i64 32768))))⟩
    .done)))))))
  (.cond (.t s28) (.seq (.reg (.one ⟨some s4, none, (.mv (.c (.v (.int .i64 5))))⟩
    .done))
  .ret) .skip))
  (.seq (.reg (.one ⟨some s5, none, (.mv (.c (.slice 9 [] .full)))⟩
    .done))
  (.seq (.reg (.one ⟨some s6, none, (.mv (.c (.v (.int .i64 0))))⟩
    .done))
  (.seq (.block 0 (.loop (.seq (.seq (.reg (.one ⟨some s29, none, (.mv (.t s6))⟩
    (.one ⟨some s30, none, (.mv (.t s0))⟩
    (.one ⟨some s31, none, (.nilchk (.t s30))⟩
    (.one ⟨some s32, none, (.faddr 1 (.t s31))⟩
    (.one ⟨some s33, none, (.load none (.t s32))⟩
    (.one ⟨some s34, none, (.len false (.t s33))⟩
    (.one ⟨some s35, none, (.bin false .lss (.t s29) (.t s34))⟩
    (.one ⟨some s36, none, (.mv (.t s35))⟩
    (.one ⟨some s37, some (s36, true), (.mv (.t s0))⟩
    (.one ⟨some s38, some (s36, true), (.nilchk (.t s37))⟩
    (.one ⟨some s39, some (s36, true), (.faddr 1 (.t s38))⟩
    (.one ⟨some s40, some (s36, true), (.load none (.t s39))⟩
    (.one ⟨some s41, some (s36, true), (.mv (.t s6))⟩
    (.one ⟨some s42, some (s36, true), (.iaddr 9 (.t s40) (.t s41))⟩
    (.one ⟨some s43, some (s36, true), (.faddr 0 (.t s42))⟩
    (.one ⟨some s44, some (s36, true), (.faddr 2 (.t s43))⟩
    (.one ⟨some s45, some (s36, true), (.load none (.t s44))⟩
    (.one ⟨some s46, some (s36, true), (.faddr 2 (.t s3))⟩
    (.one ⟨some s47, some (s36, true), (.load none (.t s46))⟩
    (.one ⟨some s48, some (s36, true), (.bin false .lss (.t s45) (.t s47))⟩
    (.one ⟨some s49, none, (.pick (.t s36) (.t s48) (.c (.v (.bool false))))⟩
    .done))))))))))))))))))))))
  (.cond (.t s49) .skip (.exit 0)))
  (.block 1 (.seq (.reg (.one ⟨some s50, none, (.mv (.t s5))⟩
    (.one ⟨some s51, none, (.mv (.t s0))⟩
    (.one ⟨some s52, none, (.nilchk (.t s51))⟩
    (.one ⟨some s53, none, (.faddr 1 (.t s52))⟩
    (.one ⟨some s54, none, (.load none (.t s53))⟩
    (.one ⟨some s55, none, (.mv (.t s6))⟩
    (.one ⟨some s56, none, (.iaddr 9 (.t s54) (.t s55))⟩
    (.one ⟨some s57, none, (.load (some 9) (.t s56))⟩
    (.one ⟨some s58, none, (.row 9 [(.t s57)])⟩
    (.one ⟨some s59, none, (.appm 9 96 (.t s50) (.t s58))⟩
    (.one ⟨some s5, none, (.mv (.t s59))⟩
    .done))))))))))))
  (.reg (.one ⟨some s60, none, (.mv (.t s6))⟩
    (.one ⟨some s61, none, (.bin false .add (.t s60) (.c (.v (.int .i64 1))))⟩
    (.one ⟨some s6, none, (.mv (.t s61))⟩
    .done)))))))))
  (.seq (.reg (.one ⟨some s62, none, (.mv (.t s5))⟩
    (.one ⟨some s63, none, (.load (some 7) (.t s3))⟩
    (.one ⟨some s64, none, (.build [(.v (.bool false)), (.v (.int .i64 0)), (.v (.int .i64 0)), (.v (.bool false)), (.v (.bool false)), (.v (.int .i64 0)), (.slice 1 [] .full), (.slice 1 [] .full), (.v (.int .i64 0))] [(0, 7, (.t s63))])⟩
    (.one ⟨some s65, none, (.row 9 [(.t s64)])⟩
    (.one ⟨some s66, none, (.appm 9 96 (.t s62) (.t s65))⟩
    (.one ⟨some s5, none, (.mv (.t s66))⟩
    .done)))))))
  (.seq (.reg (.one ⟨some s67, none, (.mv (.t s0))⟩
    (.one ⟨some s68, none, (.mv (.t s5))⟩
    (.one ⟨some s69, none, (.mv (.t s0))⟩
    (.one ⟨some s70, none, (.nilchk (.t s69))⟩
    (.one ⟨some s71, none, (.faddr 1 (.t s70))⟩
    (.one ⟨some s72, none, (.load none (.t s71))⟩
    (.one ⟨some s73, none, (.mv (.t s6))⟩
    (.one ⟨some s74, none, (.cut 9 (.t s72) (some (.t s73)) none none)⟩
    (.one ⟨some s75, none, (.appm 9 96 (.t s68) (.t s74))⟩
    (.one ⟨some s76, none, (.nilchk (.t s67))⟩
    (.one ⟨some s77, none, (.faddr 1 (.t s76))⟩
    (.one ⟨none, none, (.store 1 (.t s77) (.t s75))⟩
    .done)))))))))))))
  (.seq (.reg (.one ⟨some s4, none, (.mv (.c (.v (.int .i64 0))))⟩
    .done))
  .ret))))))))))⟩
theorem ok42m : compF Try.prog c42m Try.f42 = some ir42m := by kernel_rfl
theorem km_bowlineref19_Store_Put {args : List AVal} {σ : AHeap} {Q : AVal → AHeap → Prop} (hl : Nat.ble args.length 78 = true) (h : argsK (Env.full 9) 0 args fun env => evC Try.prog c42m ir42m.body env σ (retQ ir42m Q)) : ACalls Try.prog 42 args σ Q :=
  acalls_of Try.func42 ok42m rfl (Nat.le_of_ble_eq_true hl) h
/- bowlineref19.Store).Again -/
def c43 : Cfg := ⟨qs, [], 119, [], ps⟩
def ir43 : IFun := ⟨4, [.tmp s8, .tmp s9],
  (.seq (.reg (.one ⟨some s8, none, (.mv (.c (.v (.int .i64 0))))⟩
    (.one ⟨some s9, none, (.mv (.c (.v (.int .i64 0))))⟩
    .done)))
  (.seq (.reg (.one ⟨some s16, none, (.mv (.t s0))⟩
    (.one ⟨some s17, none, (.mv (.t s1))⟩
    (.one ⟨some s18, none, (.callq 85 [(.t s16), (.t s17)])⟩
    (.one ⟨some s10, none, (.mv (.t s18))⟩
    .done)))))
  (.seq (.seq (.reg (.one ⟨some s19, none, (.mv (.t s10))⟩
    (.one ⟨some s20, none, (.bin false .lss (.t s19) (.c (.v (.int .i64 0))))⟩
    .done)))
  (.cond (.t s20) (.seq (.reg (.one ⟨some s8, none, (.mv (.c (.v (.int .i64 0))))⟩
    (.one ⟨some s9, none, (.mv (.c (.v (.int .i64 4))))⟩
    .done)))
  .ret) .skip))
  (.seq (.reg (.one ⟨some s22, none, (.mv (.t s0))⟩
    (.one ⟨some s23, none, (.mv (.t s10))⟩
    (.one ⟨some s24, none, (.mv (.t s2))⟩
    (.one ⟨some s25, none, (.mv (.t s3))⟩
    (.one ⟨some s26, none, (.callq 86 [(.t s22), (.t s23), (.t s24), (.t s25)])⟩
    (.one ⟨some s21, none, (.mv (.t s26))⟩
    (.one ⟨some s27, none, (.ext (.t s21) 0)⟩
    (.one ⟨some s28, none, (.ext (.t s21) 1)⟩
    (.one ⟨some s11, none, (.new [(.v (.int .i64 0)), (.v (.int .i64 0))])⟩
    (.one ⟨none, none, (.store 2 (.t s11) (.t s27))⟩
    (.one ⟨some s12, none, (.mv (.t s28))⟩
    .done))))))))))))
  (.seq (.seq (.reg (.one ⟨some s29, none, (.mv (.t s12))⟩
    (.one ⟨some s30, none, (.bin false .neq (.t s29) (.c (.v (.int .i64 0))))⟩
    .done)))
  (.cond (.t s30) (.seq (.reg (.one ⟨some s31, none, (.mv (.t s12))⟩
    (.one ⟨some s8, none, (.mv (.c (.v (.int .i64 0))))⟩
    (.one ⟨some s9, none, (.mv (.t s31))⟩
    .done))))
  .ret) .skip))
  (.seq (.seq (.reg (.one ⟨some s32, none, (.mv (.t s0))⟩
    (.one ⟨some s33, none, (.nilchk (.t s32))⟩
    (.one ⟨some s34, none, (.faddr 1 (.t s33))⟩
    (.one ⟨some s35, none, (.load none (.t s34))⟩
    (.one ⟨some s36, none, (.mv (.t s10))⟩
    (.one ⟨some s37, none, (.iaddr 9 (.t s35) (.t s36))⟩
    (.one ⟨some s38, none, (.faddr 7 (.t s37))⟩
    (.one ⟨some s39, none, (.load (some 1) (.t s38))⟩
    (.one ⟨some s40, none, (.load (some 2) (.t s11))⟩
    (.one ⟨some s42, none, (.faddr 1 (.t s11))⟩
    (.one ⟨some s43, none, (.load none (.t s42))⟩
    (.one ⟨some s44, none, (.faddr 0 (.t s11))⟩
    (.one ⟨some s45, none, (.load none (.t s44))⟩
    (.one ⟨some s46, none, (.bin false .sub (.t s43) (.t s45))⟩
    (.one ⟨some s41, none, (.callq 69 [(.t s39), (.t s40)])⟩
    (.one ⟨some s47, none, (.bin false .lss (.t s41) (.t s46))⟩
    .done)))))))))))))))))
  (.cond (.t s47) (.seq (.reg (.one ⟨some s48, none, (.mv (.t s0))⟩
    (.one ⟨some s49, none, (.nilchk (.t s48))⟩
    (.one ⟨some s50, none, (.faddr 1 (.t s49))⟩
    (.one ⟨some s51, none, (.load none (.t s50))⟩
    (.one ⟨some s52, none, (.mv (.t s10))⟩
    (.one ⟨some s53, none, (.mv (.t s0))⟩
    (.one ⟨some s54, none, (.nilchk (.t s53))⟩
    (.one ⟨some s55, none, (.faddr 1 (.t s54))⟩
    (.one ⟨some s56, none, (.load none (.t s55))⟩
    (.one ⟨some s57, none, (.mv (.t s10))⟩
    (.one ⟨some s58, none, (.iaddr 9 (.t s56) (.t s57))⟩
    (.one ⟨some s59, none, (.faddr 8 (.t s58))⟩
    (.one ⟨some s60, none, (.load none (.t s59))⟩
    (.one ⟨some s61, none, (.bin false .add (.t s60) (.c (.v (.int .i64 1))))⟩
    (.one ⟨some s62, none, (.iaddr 9 (.t s51) (.t s52))⟩
    (.one ⟨some s63, none, (.faddr 8 (.t s62))⟩
    (.one ⟨none, none, (.store 1 (.t s63) (.t s61))⟩
    .done))))))))))))))))))
  (.seq (.reg (.one ⟨some s65, none, (.mv (.t s0))⟩
    (.one ⟨some s66, none, (.nilchk (.t s65))⟩
    (.one ⟨some s67, none, (.faddr 1 (.t s66))⟩
    (.one ⟨some s68, none, (.load none (.t s67))⟩
    (.one ⟨some s69, none, (.mv (.t s10))⟩
    (.one ⟨some s70, none, (.iaddr 9 (.t s68) (.t s69))⟩
    (.one ⟨some s71, none, (.faddr 7 (.t s70))⟩
    (.one ⟨some s72, none, (.load (some 1) (.t s71))⟩
    (.one ⟨some s73, none, (.load (some 2) (.t s11))⟩
    (.both (.one ⟨some s74, none, (.callq 87 [(.t s72), (.t s73), (.c (.v (.bool true)))])⟩
    (.one ⟨some s64, none, (.mv (.t s74))⟩
    (.one ⟨some s75, none, (.ext (.t s64) 0)⟩
    (.one ⟨some s76, none, (.ext (.t s64) 1)⟩
    (.one ⟨some s13, none, (.new [(.slice 1 [] .full)])⟩
    (.one ⟨none, none, (.store 1 (.t s13) (.t s75))⟩
    (.one ⟨some s14, none, (.mv (.t s76))⟩
    .done))))))) (.one ⟨some s13, none, (.new [(.slice 1 [] .full)])⟩
    (.one ⟨some s74, none, (.callq 87 [(.t s72), (.t s73), (.c (.v (.bool true)))])⟩
    (.one ⟨some s64, none, (.mv (.t s74))⟩
    (.one ⟨some s75, none, (.ext (.t s64) 0)⟩
    (.one ⟨some s76, none, (.ext (.t s64) 1)⟩
    (.one ⟨none, none, (.store 1 (.t s13) (.t s75))⟩
    (.one ⟨some s14, none, (.mv (.t s76))⟩
    .done))))))))))))))))))
  (.seq (.seq (.reg (.one ⟨some s77, none, (.mv (.t s14))⟩
    (.one ⟨some s78, none, (.bin false .neq (.t s77) (.c (.v (.int .i64 0))))⟩
    .done)))
  (.cond (.t s78) (.seq (.reg (.one ⟨some s79, none, (.mv (.t s0))⟩
    (.one ⟨some s80, none, (.nilchk (.t s79))⟩
    (.one ⟨some s81, none, (.faddr 1 (.t s80))⟩
    (.one ⟨some s82, none, (.load none (.t s81))⟩
    (.one ⟨some s83, none, (.mv (.t s10))⟩
    (.one ⟨some s84, none, (.iaddr 9 (.t s82) (.t s83))⟩
    (.one ⟨some s85, none, (.faddr 0 (.t s84))⟩
    (.one ⟨some s86, none, (.load (some 7) (.t s85))⟩
    (.one ⟨some s87, none, (.callq 66 [(.t s86)])⟩
    (.one ⟨some s88, none, (.len false (.t s87))⟩
    (.one ⟨some s89, none, (.build [(.v (.int .i64 0)), (.v (.int .i64 0))] [(0, 1, (.c (.v (.int .i64 0)))), (1, 1, (.t s88))])⟩
    (.one ⟨some s15, none, (.new [(.v (.int .i64 0)), (.v (.int .i64 0))])⟩
    (.one ⟨none, none, (.store 2 (.t s15) (.t s89))⟩
    .done))))))))))))))
  (.reg (.one ⟨some s91, none, (.mv (.t s0))⟩
    (.one ⟨some s92, none, (.nilchk (.t s91))⟩
    (.one ⟨some s93, none, (.faddr 1 (.t s92))⟩
    (.one ⟨some s94, none, (.load none (.t s93))⟩
    (.one ⟨some s95, none, (.mv (.t s10))⟩
    (.one ⟨some s96, none, (.iaddr 9 (.t s94) (.t s95))⟩
    (.one ⟨some s97, none, (.faddr 7 (.t s96))⟩
    (.one ⟨some s98, none, (.load (some 1) (.t s97))⟩
    (.one ⟨some s99, none, (.load (some 2) (.t s15))⟩
    (.one ⟨some s100, none, (.callq 87 [(.t s98), (.t s99), (.c (.v (.bool true)))])⟩
    (.one ⟨some s90, none, (.mv (.t s100))⟩
    (.one ⟨some s101, none, (.ext (.t s90) 0)⟩
    (.one ⟨some s102, none, (.ext (.t s90) 1)⟩
    (.one ⟨none, none, (.store 1 (.t s13) (.t s101))⟩
    .done)))))))))))))))) .skip))
  (.reg (.one ⟨some s103, none, (.mv (.t s0))⟩
    (.one ⟨some s104, none, (.nilchk (.t s103))⟩
    (.one ⟨some s105, none, (.faddr 1 (.t s104))⟩
    (.one ⟨some s106, none, (.load none (.t s105))⟩
    (.one ⟨some s107, none, (.mv (.t s10))⟩
    (.one ⟨some s108, none, (.load (some 1) (.t s13))⟩
    (.one ⟨some s109, none, (.iaddr 9 (.t s106) (.t s107))⟩
    (.one ⟨some s110, none, (.faddr 7 (.t s109))⟩
    (.one ⟨none, none, (.store 1 (.t s110) (.t s108))⟩
    .done))))))))))))) .skip))
  (.seq (.reg (.one ⟨some s111, none, (.mv (.t s0))⟩
    (.one ⟨some s112, none, (.nilchk (.t s111))⟩
    (.one ⟨some s113, none, (.faddr 1 (.t s112))⟩
    (.one ⟨some s114, none, (.load none (.t s113))⟩
    (.one ⟨some s115, none, (.mv (.t s10))⟩
    (.one ⟨some s116, none, (.iaddr 9 (.t s114) (.t s115))⟩
    (.one ⟨some s117, none, (.faddr 8 (.t s116))⟩
    (.one ⟨some s118, none, (.load none (.t s117))⟩
    (.one ⟨some s8, none, (.mv (.t s118))⟩
    (.one ⟨some s9, none, (.mv (.c (.v (.int .i64 0))))⟩
    .done)))))))))))
  .ret)))))))⟩
theorem ok43 : compF Try.prog c43 Try.f43 = some ir43 := by kernel_rfl
theorem k_bowlineref19_Store_Again {args : List AVal} {σ : AHeap} {Q : AVal → AHeap → Prop} (hl : Nat.ble args.length 119 = true) (h : argsK (Env.full 9) 0 args fun env => evC Try.prog c43 ir43.body env σ (retQ ir43 Q)) : ACalls Try.prog 43 args σ Q :=
  acalls_of Try.func43 ok43 rfl (Nat.le_of_ble_eq_true hl) h
/- bowlineref19.Store).Sent -/
def c44 : Cfg := ⟨qs, [], 48, [], ps⟩
def ir44 : IFun := ⟨4, [.tmp s8],
  (.seq (.reg (.one ⟨some s8, none, (.mv (.c (.v (.int .i64 0))))⟩
    .done))
  (.seq (.reg (.one ⟨some s12, none, (.mv (.t s0))⟩
    (.one ⟨some s13, none, (.mv (.t s1))⟩
    (.one ⟨some s14, none, (.callq 85 [(.t s12), (.t s13)])⟩
    (.one ⟨some s9, none, (.mv (.t s14))⟩
    .done)))))
  (.seq (.seq (.reg (.one ⟨some s15, none, (.mv (.t s9))⟩
    (.one ⟨some s16, none, (.bin false .lss (.t s15) (.c (.v (.int .i64 0))))⟩
    .done)))
  (.cond (.t s16) (.seq (.reg (.one ⟨some s8, none, (.mv (.c (.v (.int .i64 4))))⟩
    .done))
  .ret) .skip))
  (.seq (.reg (.one ⟨some s18, none, (.mv (.t s0))⟩
    (.one ⟨some s19, none, (.mv (.t s9))⟩
    (.one ⟨some s20, none, (.mv (.t s2))⟩
    (.one ⟨some s21, none, (.mv (.t s3))⟩
    (.one ⟨some s22, none, (.callq 86 [(.t s18), (.t s19), (.t s20), (.t s21)])⟩
    (.one ⟨some s17, none, (.mv (.t s22))⟩
    (.one ⟨some s23, none, (.ext (.t s17) 0)⟩
    (.one ⟨some s24, none, (.ext (.t s17) 1)⟩
    (.one ⟨some s10, none, (.new [(.v (.int .i64 0)), (.v (.int .i64 0))])⟩
    (.one ⟨none, none, (.store 2 (.t s10) (.t s23))⟩
    (.one ⟨some s11, none, (.mv (.t s24))⟩
    .done))))))))))))
  (.seq (.seq (.reg (.one ⟨some s25, none, (.mv (.t s11))⟩
    (.one ⟨some s26, none, (.bin false .neq (.t s25) (.c (.v (.int .i64 0))))⟩
    .done)))
  (.cond (.t s26) (.seq (.reg (.one ⟨some s27, none, (.mv (.t s11))⟩
    (.one ⟨some s8, none, (.mv (.t s27))⟩
    .done)))
  .ret) .skip))
  (.seq (.reg (.one ⟨some s29, none, (.mv (.t s0))⟩
    (.one ⟨some s30, none, (.nilchk (.t s29))⟩
    (.one ⟨some s31, none, (.faddr 1 (.t s30))⟩
    (.one ⟨some s32, none, (.load none (.t s31))⟩
    (.one ⟨some s33, none, (.mv (.t s9))⟩
    (.one ⟨some s34, none, (.mv (.t s0))⟩
    (.one ⟨some s35, none, (.nilchk (.t s34))⟩
    (.one ⟨some s36, none, (.faddr 1 (.t s35))⟩
    (.one ⟨some s37, none, (.load none (.t s36))⟩
    (.one ⟨some s38, none, (.mv (.t s9))⟩
    (.one ⟨some s39, none, (.iaddr 9 (.t s37) (.t s38))⟩
    (.one ⟨some s40, none, (.faddr 7 (.t s39))⟩
    (.one ⟨some s41, none, (.load (some 1) (.t s40))⟩
    (.one ⟨some s42, none, (.load (some 2) (.t s10))⟩
    (.one ⟨some s43, none, (.callq 87 [(.t s41), (.t s42), (.c (.v (.bool false)))])⟩
    (.one ⟨some s28, none, (.mv (.t s43))⟩
    (.one ⟨some s44, none, (.ext (.t s28) 0)⟩
    (.one ⟨some s45, none, (.ext (.t s28) 1)⟩
    (.one ⟨some s46, none, (.iaddr 9 (.t s32) (.t s33))⟩
    (.one ⟨some s47, none, (.faddr 7 (.t s46))⟩
    (.one ⟨none, none, (.store 1 (.t s47) (.t s44))⟩
    .done))))))))))))))))))))))
  (.seq (.reg (.one ⟨some s8, none, (.mv (.c (.v (.int .i64 0))))⟩
    .done))
  .ret)))))))⟩
theorem ok44 : compF Try.prog c44 Try.f44 = some ir44 := by kernel_rfl
theorem k_bowlineref19_Store_Sent {args : List AVal} {σ : AHeap} {Q : AVal → AHeap → Prop} (hl : Nat.ble args.length 48 = true) (h : argsK (Env.full 9) 0 args fun env => evC Try.prog c44 ir44.body env σ (retQ ir44 Q)) : ACalls Try.prog 44 args σ Q :=
  acalls_of Try.func44 ok44 rfl (Nat.le_of_ble_eq_true hl) h
/- bowlineref19.Store).Drop -/
def c45m : Cfg := ⟨qs, [22, 25, 36, 42, 51, 54, 58, 64, 77, 79, 91], 32, [], ps⟩
def ir45m : IFun := ⟨2, [.tmp s4],
  (.seq (.reg (.one ⟨some s4, none, (.mv (.c (.v (.int .i64 0))))⟩
    .done))
  (.seq (.reg (.one ⟨some s7, none, (.mv (.t s0))⟩
    (.one ⟨some s8, none, (.mv (.t s1))⟩
    (.one ⟨some s9, none, (.callq 85 [(.t s7), (.t s8)])⟩
    (.one ⟨some s5, none, (.mv (.t s9))⟩
    .done)))))
  (.seq (.seq (.reg (.one ⟨some s10, none, (.mv (.t s5))⟩
    (.one ⟨some s11, none, (.bin false .lss (.t s10) (.c (.v (.int .i64 0))))⟩
    .done)))
  (.cond (.t s11) (.seq (.reg (.one ⟨some s4, none, (.mv (.c (.v (.int .i64 4))))⟩
    .done))
  .ret) .skip))
  (.seq (.reg (.one ⟨some s6, none, (.mv (.c (.slice 9 [] .full)))⟩
    .done))
  (.seq (.reg (.one ⟨some s12, none, (.mv (.t s6))⟩
    (.one ⟨some s13, none, (.mv (.t s0))⟩
    (.one ⟨some s14, none, (.nilchk (.t s13))⟩
    (.one ⟨some s15, none, (.faddr 1 (.t s14))⟩
    (.one ⟨some s16, none, (.load none (.t s15))⟩
    (.one ⟨some s17, none, (.mv (.t s5))⟩
    (.one ⟨some s18, none, (.cutc 9 (.t s16) (.t s17))⟩
    (.one ⟨some s19, none, (.appm 9 96 (.t s12) (.t s18))⟩
    (.one ⟨some s6, none, (.mv (.t s19))⟩
    .done))))))))))
  (.seq (.reg (.one ⟨some s20, none, (.mv (.t s0))⟩
    (.one ⟨some s21, none, (.mv (.t s6))⟩
    (.one ⟨some s22, none, (.mv (.t s0))⟩
    (.one ⟨some s23, none, (.nilchk (.t s22))⟩
    (.one ⟨some s24, none, (.faddr 1 (.t s23))⟩
    (.one ⟨some s25, none, (.load none (.t s24))⟩
    (.one ⟨some s26, none, (.mv (.t s5))⟩
    (.one ⟨some s27, none, (.bin false .add (.t s26) (.c (.v (.int .i64 1))))⟩
    (.one ⟨some s28, none, (.cut 9 (.t s25) (some (.t s27)) none none)⟩
    (.one ⟨some s29, none, (.appm 9 96 (.t s21) (.t s28))⟩
    (.one ⟨some s30, none, (.nilchk (.t s20))⟩
    (.one ⟨some s31, none, (.faddr 1 (.t s30))⟩
    (.one ⟨none, none, (.store 1 (.t s31) (.t s29))⟩
    .done))))))))))))))
  (.seq (.reg (.one ⟨some s4, none, (.mv (.c (.v (.int .i64 0))))⟩
    .done))
  .ret)))))))⟩
theorem ok45m : compF Try.prog c45m Try.f45 = some ir45m := by kernel_rfl
theorem km_bowlineref19_Store_Drop {args : List AVal} {σ : AHeap} {Q : AVal → AHeap → Prop} (hl : Nat.ble args.length 32 = true) (h : argsK (Env.full 9) 0 args fun env => evC Try.prog c45m ir45m.body env σ (retQ ir45m Q)) : ACalls Try.prog 45 args σ Q :=
  acalls_of Try.func45 ok45m rfl (Nat.le_of_ble_eq_true hl) h
/- bowlineref19.Store).Find -/
def c85 : Cfg := ⟨qs, [], 27, [], ps⟩
def ir85 : IFun := ⟨2, [.tmp s4],
  (.seq (.reg (.one ⟨some s4, none, (.mv (.c (.v (.int .i64 0))))⟩
    .done))
  (.seq (.seq (.reg (.one ⟨some s5, none, (.mv (.c (.v (.int .i64 0))))⟩
    .done))
  (.block 0 (.loop (.seq (.seq (.reg (.one ⟨some s6, none, (.mv (.t s5))⟩
    (.one ⟨some s7, none, (.mv (.t s0))⟩
    (.one ⟨some s8, none, (.nilchk (.t s7))⟩
    (.one ⟨some s9, none, (.faddr 1 (.t s8))⟩
    (.one ⟨some s10, none, (.load none (.t s9))⟩
    (.one ⟨some s11, none, (.len false (.t s10))⟩
    (.one ⟨some s12, none, (.bin false .lss (.t s6) (.t s11))⟩
    .done))))))))
  (.cond (.t s12) .skip (.exit 0)))
  (.seq (.block 1 (.seq (.reg (.one ⟨some s15, none, (.mv (.t s0))⟩
    (.one ⟨some s16, none, (.nilchk (.t s15))⟩
    (.one ⟨some s17, none, (.faddr 1 (.t s16))⟩
    (.one ⟨some s18, none, (.load none (.t s17))⟩
    (.one ⟨some s19, none, (.mv (.t s5))⟩
    (.one ⟨some s20, none, (.iaddr 9 (.t s18) (.t s19))⟩
    (.one ⟨some s21, none, (.faddr 0 (.t s20))⟩
    (.one ⟨some s22, none, (.faddr 2 (.t s21))⟩
    (.one ⟨some s23, none, (.load none (.t s22))⟩
    (.one ⟨some s24, none, (.mv (.t s1))⟩
    (.one ⟨some s25, none, (.bin false .eql (.t s23) (.t s24))⟩
    .done))))))))))))
  (.cond (.t s25) (.seq (.reg (.one ⟨some s26, none, (.mv (.t s5))⟩
    (.one ⟨some s4, none, (.mv (.t s26))⟩
    .done)))
  .ret) .skip)))
  (.reg (.one ⟨some s13, none, (.mv (.t s5))⟩
    (.one ⟨some s14, none, (.bin false .add (.t s13) (.c (.v (.int .i64 1))))⟩
    (.one ⟨some s5, none, (.mv (.t s14))⟩
    .done)))))))))
  (.seq (.reg (.one ⟨some s4, none, (.mv (.c (.v (.int .i64 (-1)))))⟩
    .done))
  .ret)))⟩
theorem ok85 : compF Try.prog c85 Try.f85 = some ir85 := by kernel_rfl
theorem k_bowlineref19_Store_Find {args : List AVal} {σ : AHeap} {Q : AVal → AHeap → Prop} (hl : Nat.ble args.length 27 = true) (h : argsK (Env.full 9) 0 args fun env => evC Try.prog c85 ir85.body env σ (retQ ir85 Q)) : ACalls Try.prog 85 args σ Q :=
  acalls_of Try.func85 ok85 rfl (Nat.le_of_ble_eq_true hl) h
/- bowlineref19.Store).span -/
def c86 : Cfg := ⟨qs, [], 43, [], ps⟩
def ir86 : IFun := ⟨4, [.cell s8 (some 2), .tmp s9],
  (.seq (.reg (.one ⟨some s8, none, (.new [(.v (.int .i64 0)), (.v (.int .i64 0))])⟩
    (.one ⟨some s9, none, (.mv (.c (.v (.int .i64 0))))⟩
    .done)))
  (.seq (.reg (.one ⟨some s11, none, (.mv (.t s0))⟩
    (.one ⟨some s12, none, (.nilchk (.t s11))⟩
    (.one ⟨some s13, none, (.faddr 1 (.t s12))⟩
    (.one ⟨some s14, none, (.load none (.t s13))⟩
    (.one ⟨some s15, none, (.mv (.t s1))⟩
    (.one ⟨some s16, none, (.iaddr 9 (.t s14) (.t s15))⟩
    (.one ⟨some s17, none, (.faddr 0 (.t s16))⟩
    (.one ⟨some s18, none, (.load (some 7) (.t s17))⟩
    (.one ⟨some s19, none, (.callq 66 [(.t s18)])⟩
    (.one ⟨some s20, none, (.len false (.t s19))⟩
    (.one ⟨some s10, none, (.mv (.t s20))⟩
    .done))))))))))))
  (.seq (.seq (.reg (.one ⟨some s21, none, (.mv (.t s2))⟩
    (.one ⟨some s22, none, (.bin false .lss (.t s21) (.c (.v (.int .i64 0))))⟩
    (.one ⟨some s23, none, (.mv (.t s22))⟩
    (.one ⟨some s24, some (s23, false), (.mv (.t s3))⟩
    (.one ⟨some s25, some (s23, false), (.bin false .lss (.t s24) (.c (.v (.int .i64 0))))⟩
    (.one ⟨some s26, none, (.pick (.t s23) (.c (.v (.bool true))) (.t s25))⟩
    .done)))))))
  (.cond (.t s26) (.seq (.reg (.one ⟨some s27, none, (.build [(.v (.int .i64 0)), (.v (.int .i64 0))] [])⟩
    (.one ⟨none, none, (.store 2 (.t s8) (.t s27))⟩
    (.one ⟨some s9, none, (.mv (.c (.v (.int .i64 1))))⟩
    .done))))
  .ret) .skip))
  (.seq (.seq (.reg (.one ⟨some s28, none, (.mv (.t s3))⟩
    (.one ⟨some s29, none, (.bin false .eql (.t s28) (.c (.v (.int .i64 0))))⟩
    (.one ⟨some s30, none, (.mv (.t s29))⟩
    (.one ⟨some s31, some (s30, false), (.mv (.t s3))⟩
    (.one ⟨some s32, some (s30, false), (.mv (.t s10))⟩
    (.one ⟨some s33, some (s30, false), (.bin false .gtr (.t s31) (.t s32))⟩
    (.one ⟨some s34, none, (.pick (.t s30) (.c (.v (.bool true))) (.t s33))⟩
    .done))))))))
  (.cond (.t s34) (.reg (.one ⟨some s35, none, (.mv (.t s10))⟩
    (.one ⟨some s3, none, (.mv (.t s35))⟩
    .done))) .skip))
  (.seq (.seq (.reg (.one ⟨some s36, none, (.mv (.t s2))⟩
    (.one ⟨some s37, none, (.mv (.t s3))⟩
    (.one ⟨some s38, none, (.bin false .geq (.t s36) (.t s37))⟩
    .done))))
  (.cond (.t s38) (.seq (.reg (.one ⟨some s39, none, (.build [(.v (.int .i64 0)), (.v (.int .i64 0))] [])⟩
    (.one ⟨none, none, (.store 2 (.t s8) (.t s39))⟩
    (.one ⟨some s9, none, (.mv (.c (.v (.int .i64 1))))⟩
    .done))))
  .ret) .skip))
  (.seq (.reg (.one ⟨some s40, none, (.mv (.t s2))⟩
    (.one ⟨some s41, none, (.mv (.t s3))⟩
    (.one ⟨some s42, none, (.build [(.v (.int .i64 0)), (.v (.int .i64 0))] [(0, 1, (.t s40)), (1, 1, (.t s41))])⟩
    (.one ⟨none, none, (.store 2 (.t s8) (.t s42))⟩
    (.one ⟨some s9, none, (.mv (.c (.v (.int .i64 0))))⟩
    .done))))))
  .ret))))))⟩
theorem ok86 : compF Try.prog c86 Try.f86 = some ir86 := by kernel_rfl
theorem k_bowlineref19_Store_span {args : List AVal} {σ : AHeap} {Q : AVal → AHeap → Prop} (hl : Nat.ble args.length 43 = true) (h : argsK (Env.full 9) 0 args fun env => evC Try.prog c86 ir86.body env σ (retQ ir86 Q)) : ACalls Try.prog 86 args σ Q :=
  acalls_of Try.func86 ok86 rfl (Nat.le_of_ble_eq_true hl) h
/- bowlineref19.Store).Bytes -/
def c89 : Cfg := ⟨qs, [], 25, [], ps⟩
def ir89 : IFun := ⟨2, [.tmp s4],
  (.seq (.reg (.one ⟨some s4, none, (.mv (.c (.v (.int .i64 0))))⟩
    .done))
  (.seq (.reg (.one ⟨some s5, none, (.mv (.t s0))⟩
    (.one ⟨some s6, none, (.nilchk (.t s5))⟩
    (.one ⟨some s7, none, (.faddr 1 (.t s6))⟩
    (.one ⟨some s8, none, (.load none (.t s7))⟩
    (.one ⟨some s9, none, (.mv (.t s1))⟩
    (.one ⟨some s10, none, (.iaddr 9 (.t s8) (.t s9))⟩
    (.one ⟨some s11, none, (.faddr 7 (.t s10))⟩
    (.one ⟨some s12, none, (.load (some 1) (.t s11))⟩
    (.one ⟨some s13, none, (.mv (.t s0))⟩
    (.one ⟨some s14, none, (.nilchk (.t s13))⟩
    (.one ⟨some s15, none, (.faddr 1 (.t s14))⟩
    (.one ⟨some s16, none, (.load none (.t s15))⟩
    (.one ⟨some s17, none, (.mv (.t s1))⟩
    (.one ⟨some s18, none, (.iaddr 9 (.t s16) (.t s17))⟩
    (.one ⟨some s19, none, (.faddr 7 (.t s18))⟩
    (.one ⟨some s20, none, (.faddr 0 (.t s19))⟩
    (.one ⟨some s21, none, (.load none (.t s20))⟩
    (.one ⟨some s22, none, (.len false (.t s21))⟩
    (.one ⟨some s23, none, (.build [(.v (.int .i64 0)), (.v (.int .i64 0))] [(0, 1, (.c (.v (.int .i64 0)))), (1, 1, (.t s22))])⟩
    (.one ⟨some s24, none, (.callq 69 [(.t s12), (.t s23)])⟩
    (.one ⟨some s4, none, (.mv (.t s24))⟩
    .done))))))))))))))))))))))
  .ret))⟩
theorem ok89 : compF Try.prog c89 Try.f89 = some ir89 := by kernel_rfl
theorem k_bowlineref19_Store_Bytes {args : List AVal} {σ : AHeap} {Q : AVal → AHeap → Prop} (hl : Nat.ble args.length 25 = true) (h : argsK (Env.full 9) 0 args fun env => evC Try.prog c89 ir89.body env σ (retQ ir89 Q)) : ACalls Try.prog 89 args σ Q :=
  acalls_of Try.func89 ok89 rfl (Nat.le_of_ble_eq_true hl) h
end Go.Proofs.Ytgobbmdbkmjlnaa
/-
  The bodies of one package, compiled to the framework's language (printed by a program of this session).
-/
namespace Go.Proofs.Ytgobbmdbkmjlnaa
set_option linter.unusedVariables false
set_option linter.unusedSimpArgs false
open Go Go.Am
end Go.Proofs.Ytgobbmdbkmjlnaa
/-
  The bodies of one package, compiled to the framework's language (printed by a program of this session).
-/
namespace Go.Proofs.Ytgobbmdbkmjlnaa
set_option linter.unusedVariables false
set_option linter.unusedSimpArgs false
open Go Go.Am
/- bowlinelaw10.As -/
def c18 : Cfg := ⟨qs, [], 18, [], ps⟩
def ir18 : IFun := ⟨1, [.cell s2 (some 7)],
  (.seq (.reg (.one ⟨some s1, none, (.box 7 (.t s0))⟩
    (.one ⟨some s2, none, (.new [(.v (.bool false)), (.v (.int .i64 0)), (.v (.int .i64 0)), (.v (.bool false)), (.v (.bool false)), (.v (.int .i64 0)), (.slice 1 [] .full)])⟩
    .done)))
  (.seq (.reg (.one ⟨some s3, none, (.faddr 0 (.t s1))⟩
    (.one ⟨some s4, none, (.load none (.t s3))⟩
    (.one ⟨some s5, none, (.faddr 1 (.t s1))⟩
    (.one ⟨some s6, none, (.load none (.t s5))⟩
    (.one ⟨some s7, none, (.faddr 2 (.t s1))⟩
    (.one ⟨some s8, none, (.load none (.t s7))⟩
    (.one ⟨some s9, none, (.faddr 3 (.t s1))⟩
    (.one ⟨some s10, none, (.load none (.t s9))⟩
    (.one ⟨some s11, none, (.faddr 4 (.t s1))⟩
    (.one ⟨some s12, none, (.load none (.t s11))⟩
    (.one ⟨some s13, none, (.faddr 5 (.t s1))⟩
    (.one ⟨some s14, none, (.load none (.t s13))⟩
    (.one ⟨some s15, none, (.faddr 6 (.t s1))⟩
    (.one ⟨some s16, none, (.load none (.t s15))⟩
    (.one ⟨some s17, none, (.build [(.v (.bool false)), (.v (.int .i64 0)), (.v (.int .i64 0)), (.v (.bool false)), (.v (.bool false)), (.v (.int .i64 0)), (.slice 1 [] .full)] [(0, 1, (.t s4)), (1, 1, (.t s6)), (2, 1, (.t s8)), (3, 1, (.t s10)), (4, 1, (.t s12)), (5, 1, (.t s14)), (6, 1, (.t s16))])⟩
    (.one ⟨none, none, (.store 7 (.t s2) (.t s17))⟩
    .done)))))))))))))))))
  .ret))⟩
theorem ok18 : compF Try.prog c18 Try.f18 = some ir18 := by kernel_rfl
theorem k_bowlinelaw10_As {args : List AVal} {σ : AHeap} {Q : AVal → AHeap → Prop} (hl : Nat.ble args.length 18 = true) (h : argsK (Env.full 9) 0 args fun env => evC Try.prog c18 ir18.body env σ (retQ ir18 Q)) : ACalls Try.prog 18 args σ Q :=
  acalls_of Try.func18 ok18 rfl (Nat.le_of_ble_eq_true hl) h
end Go.Proofs.Ytgobbmdbkmjlnaa
