/-
  Texts of this claim, pack 3: Irslices, Irlens, Irspans, Irbits, Irseqnum, Iramd, Irrxbuf, Irreseg.
-/
import Derived.Test.YtgbpjbpdpgbngaaK2
set_option linter.unusedSimpArgs false
set_option linter.unusedVariables false
/-
  The bodies of one package, compiled to the framework's language (printed by a program of this session).
-/
namespace Go.Proofs.Ytgbpjbpdpgbngaa
open Go Go.Am
/- slices.Clone[[]byte,byte] -/
def c36 : Cfg := ⟨qs, [], 8, [], ps⟩
def ir36 : IFun := ⟨1, [.tmp s2],
  (.seq (.reg (.one ⟨some s2, none, (.mv (.c (.slice 1 [] .full)))⟩
    .done))
  (.seq (.seq (.reg (.one ⟨some s3, none, (.mv (.t s0))⟩
    (.one ⟨some s4, none, (.eqNil 0 false (.t s3))⟩
    .done)))
  (.cond (.t s4) (.seq (.reg (.one ⟨some s2, none, (.mv (.c (.slice 1 [] .full)))⟩
    .done))
  .ret) .skip))
  (.seq (.reg (.one ⟨some s5, none, (.row 1 [])⟩
    (.one ⟨some s6, none, (.mv (.t s0))⟩
    (.one ⟨some s7, none, (.app 1 1 (.t s5) (.t s6))⟩
    (.one ⟨some s2, none, (.mv (.t s7))⟩
    .done)))))
  .ret)))⟩
theorem ok36 : compF Try.prog c36 Try.f36 = some ir36 := by kernel_rfl
theorem k_slices_Clone_byte_byte {args : List AVal} {σ : AHeap} {Q : AVal → AHeap → Prop} (hl : Nat.ble args.length 8 = true) (h : argsK (Env.full 9) 0 args fun env => evC Try.prog c36 ir36.body env σ (retQ ir36 Q)) : ACalls Try.prog 36 args σ Q :=
  acalls_of Try.func36 ok36 rfl (Nat.le_of_ble_eq_true hl) h
/- slices.Clone[[]byte,byte] -/
def c36m : Cfg := ⟨qs, [22, 25, 26, 52, 109], 8, [], ps⟩
def ir36m : IFun := ⟨1, [.tmp s2],
  (.seq (.reg (.one ⟨some s2, none, (.mv (.c (.slice 1 [] .full)))⟩
    .done))
  (.seq (.seq (.reg (.one ⟨some s3, none, (.mv (.t s0))⟩
    (.one ⟨some s4, none, (.eqNil 0 false (.t s3))⟩
    .done)))
  (.cond (.t s4) (.seq (.reg (.one ⟨some s2, none, (.mv (.c (.slice 1 [] .full)))⟩
    .done))
  .ret) .skip))
  (.seq (.reg (.one ⟨some s5, none, (.row 1 [])⟩
    (.one ⟨some s6, none, (.mv (.t s0))⟩
    (.one ⟨some s7, none, (.appm 1 1 (.t s5) (.t s6))⟩
    (.one ⟨some s2, none, (.mv (.t s7))⟩
    .done)))))
  .ret)))⟩
theorem ok36m : compF Try.prog c36m Try.f36 = some ir36m := by kernel_rfl
theorem km_slices_Clone_byte_byte {args : List AVal} {σ : AHeap} {Q : AVal → AHeap → Prop} (hl : Nat.ble args.length 8 = true) (h : argsK (Env.full 9) 0 args fun env => evC Try.prog c36m ir36m.body env σ (retQ ir36m Q)) : ACalls Try.prog 36 args σ Q :=
  acalls_of Try.func36 ok36m rfl (Nat.le_of_ble_eq_true hl) h
/- slices.ContainsFunc[[][]byte,[]byte] -/
def c43 : Cfg := ⟨qs, [], 9, [], ps⟩
def ir43 : IFun := ⟨2, [.tmp s4],
  (.seq (.reg (.one ⟨some s4, none, (.mv (.c (.v (.bool false))))⟩
    .done))
  (.seq (.reg (.one ⟨some s5, none, (.mv (.t s0))⟩
    (.one ⟨some s6, none, (.mv (.t s1))⟩
    (.one ⟨some s7, none, (.callq 66 [(.t s5), (.t s6)])⟩
    (.one ⟨some s8, none, (.bin false .geq (.t s7) (.c (.v (.int .i64 0))))⟩
    (.one ⟨some s4, none, (.mv (.t s8))⟩
    .done))))))
  .ret))⟩
theorem ok43 : compF Try.prog c43 Try.f43 = some ir43 := by kernel_rfl
theorem k_slices_ContainsFunc_byte_byte {args : List AVal} {σ : AHeap} {Q : AVal → AHeap → Prop} (hl : Nat.ble args.length 9 = true) (h : argsK (Env.full 9) 0 args fun env => evC Try.prog c43 ir43.body env σ (retQ ir43 Q)) : ACalls Try.prog 43 args σ Q :=
  acalls_of Try.func43 ok43 rfl (Nat.le_of_ble_eq_true hl) h
/- slices.ContainsFunc[[]int,int] -/
def c59 : Cfg := ⟨qs, [], 9, [], ps⟩
def ir59 : IFun := ⟨2, [.tmp s4],
  (.seq (.reg (.one ⟨some s4, none, (.mv (.c (.v (.bool false))))⟩
    .done))
  (.seq (.reg (.one ⟨some s5, none, (.mv (.t s0))⟩
    (.one ⟨some s6, none, (.mv (.t s1))⟩
    (.one ⟨some s7, none, (.callq 72 [(.t s5), (.t s6)])⟩
    (.one ⟨some s8, none, (.bin false .geq (.t s7) (.c (.v (.int .i64 0))))⟩
    (.one ⟨some s4, none, (.mv (.t s8))⟩
    .done))))))
  .ret))⟩
theorem ok59 : compF Try.prog c59 Try.f59 = some ir59 := by kernel_rfl
theorem k_slices_ContainsFunc_int_int {args : List AVal} {σ : AHeap} {Q : AVal → AHeap → Prop} (hl : Nat.ble args.length 9 = true) (h : argsK (Env.full 9) 0 args fun env => evC Try.prog c59 ir59.body env σ (retQ ir59 Q)) : ACalls Try.prog 59 args σ Q :=
  acalls_of Try.func59 ok59 rfl (Nat.le_of_ble_eq_true hl) h
/- slices.IndexFunc[[][]byte,[]byte] -/
def c66 : Cfg := ⟨qs, [], 19, [], ps⟩
def ir66 : IFun := ⟨2, [.tmp s4],
  (.seq (.reg (.one ⟨some s4, none, (.mv (.c (.v (.int .i64 0))))⟩
    .done))
  (.seq (.seq (.reg (.one ⟨some s6, none, (.mv (.t s0))⟩
    (.one ⟨some s7, none, (.len false (.t s6))⟩
    (.one ⟨some s8, none, (.mv (.c (.v (.int .i64 0))))⟩
    .done))))
  (.block 0 (.loop (.seq (.reg (.one ⟨some s9, none, (.bin false .lss (.t s8) (.t s7))⟩
    .done))
  (.seq (.cond (.t s9) .skip (.exit 0))
  (.seq (.block 1 (.seq (.reg (.one ⟨some s10, none, (.mv (.t s8))⟩
    (.one ⟨some s5, none, (.mv (.t s10))⟩
    .done)))
  (.seq (.reg (.one ⟨some s11, none, (.mv (.t s1))⟩
    (.one ⟨some s12, none, (.mv (.t s0))⟩
    (.one ⟨some s13, none, (.mv (.t s5))⟩
    (.one ⟨some s14, none, (.iaddr 1 (.t s12) (.t s13))⟩
    (.one ⟨some s15, none, (.load none (.t s14))⟩
    (.one ⟨some s16, none, (.callv (.t s11) [(.t s15)])⟩
    .done)))))))
  (.cond (.t s16) (.seq (.reg (.one ⟨some s17, none, (.mv (.t s5))⟩
    (.one ⟨some s4, none, (.mv (.t s17))⟩
    .done)))
  .ret) .skip))))
  (.reg (.one ⟨some s18, none, (.bin false .add (.t s8) (.c (.v (.int .i64 1))))⟩
    (.one ⟨some s8, none, (.mv (.t s18))⟩
    .done)))))))))
  (.seq (.reg (.one ⟨some s4, none, (.mv (.c (.v (.int .i64 (-1)))))⟩
    .done))
  .ret)))⟩
theorem ok66 : compF Try.prog c66 Try.f66 = some ir66 := by kernel_rfl
theorem k_slices_IndexFunc_byte_byte {args : List AVal} {σ : AHeap} {Q : AVal → AHeap → Prop} (hl : Nat.ble args.length 19 = true) (h : argsK (Env.full 9) 0 args fun env => evC Try.prog c66 ir66.body env σ (retQ ir66 Q)) : ACalls Try.prog 66 args σ Q :=
  acalls_of Try.func66 ok66 rfl (Nat.le_of_ble_eq_true hl) h
/- slices.IndexFunc[[]int,int] -/
def c72 : Cfg := ⟨qs, [], 19, [], ps⟩
def ir72 : IFun := ⟨2, [.tmp s4],
  (.seq (.reg (.one ⟨some s4, none, (.mv (.c (.v (.int .i64 0))))⟩
    .done))
  (.seq (.seq (.reg (.one ⟨some s6, none, (.mv (.t s0))⟩
    (.one ⟨some s7, none, (.len false (.t s6))⟩
    (.one ⟨some s8, none, (.mv (.c (.v (.int .i64 0))))⟩
    .done))))
  (.block 0 (.loop (.seq (.reg (.one ⟨some s9, none, (.bin false .lss (.t s8) (.t s7))⟩
    .done))
  (.seq (.cond (.t s9) .skip (.exit 0))
  (.seq (.block 1 (.seq (.reg (.one ⟨some s10, none, (.mv (.t s8))⟩
    (.one ⟨some s5, none, (.mv (.t s10))⟩
    .done)))
  (.seq (.reg (.one ⟨some s11, none, (.mv (.t s1))⟩
    (.one ⟨some s12, none, (.mv (.t s0))⟩
    (.one ⟨some s13, none, (.mv (.t s5))⟩
    (.one ⟨some s14, none, (.iaddr 1 (.t s12) (.t s13))⟩
    (.one ⟨some s15, none, (.load none (.t s14))⟩
    (.one ⟨some s16, none, (.callv (.t s11) [(.t s15)])⟩
    .done)))))))
  (.cond (.t s16) (.seq (.reg (.one ⟨some s17, none, (.mv (.t s5))⟩
    (.one ⟨some s4, none, (.mv (.t s17))⟩
    .done)))
  .ret) .skip))))
  (.reg (.one ⟨some s18, none, (.bin false .add (.t s8) (.c (.v (.int .i64 1))))⟩
    (.one ⟨some s8, none, (.mv (.t s18))⟩
    .done)))))))))
  (.seq (.reg (.one ⟨some s4, none, (.mv (.c (.v (.int .i64 (-1)))))⟩
    .done))
  .ret)))⟩
theorem ok72 : compF Try.prog c72 Try.f72 = some ir72 := by kernel_rfl
theorem k_slices_IndexFunc_int_int {args : List AVal} {σ : AHeap} {Q : AVal → AHeap → Prop} (hl : Nat.ble args.length 19 = true) (h : argsK (Env.full 9) 0 args fun env => evC Try.prog c72 ir72.body env σ (retQ ir72 Q)) : ACalls Try.prog 72 args σ Q :=
  acalls_of Try.func72 ok72 rfl (Nat.le_of_ble_eq_true hl) h
end Go.Proofs.Ytgbpjbpdpgbngaa
/-
  The bodies of one package, compiled to the framework's language (printed by a program of this session).
-/
namespace Go.Proofs.Ytgbpjbpdpgbngaa
open Go Go.Am
/- lens.Size -/
def c22 : Cfg := ⟨qs, [], 23, [], ps⟩
def ir22 : IFun := ⟨2, [.tmp s4],
  (.seq (.reg (.one ⟨some s4, none, (.mv (.c (.v (.int .i64 0))))⟩
    .done))
  (.seq (.seq (.reg (.one ⟨some s5, none, (.mv (.t s1))⟩
    (.one ⟨some s6, none, (.callq 51 [(.t s5)])⟩
    (.one ⟨some s7, none, (.not (.t s6))⟩
    (.one ⟨some s8, none, (.mv (.t s7))⟩
    (.one ⟨some s9, some (s8, false), (.mv (.t s0))⟩
    (.one ⟨some s10, some (s8, false), (.bin false .lss (.t s9) (.c (.v (.int .i64 1))))⟩
    (.one ⟨some s11, none, (.pick (.t s8) (.c (.v (.bool true))) (.t s10))⟩
    (.one ⟨some s12, none, (.mv (.t s11))⟩
    (.one ⟨some s13, some (s12, false), (.mv (.t s0))⟩
    (.one ⟨some s14, some (s12, false), (.bin false .gtr (.t s13) (.c (.v (.int .i64 23))))⟩
    (.one ⟨some s15, none, (.pick (.t s12) (.c (.v (.bool true))) (.t s14))⟩
    .done))))))))))))
  (.cond (.t s15) (.seq (.reg (.one ⟨some s4, none, (.mv (.c (.v (.int .i64 0))))⟩
    .done))
  .ret) .skip))
  (.seq (.reg (.one ⟨some s16, none, (.mv (.t s0))⟩
    (.one ⟨some s17, none, (.mv (.t s1))⟩
    (.one ⟨some s18, none, (.bin false .add (.t s17) (.c (.v (.int .i64 1))))⟩
    (.one ⟨some s19, none, (.bin false .mul (.t s16) (.t s18))⟩
    (.one ⟨some s20, none, (.bin false .add (.t s19) (.c (.v (.int .i64 8))))⟩
    (.one ⟨some s21, none, (.bin false .sub (.t s20) (.c (.v (.int .i64 1))))⟩
    (.one ⟨some s22, none, (.bin false .quo (.t s21) (.c (.v (.int .i64 8))))⟩
    (.one ⟨some s4, none, (.mv (.t s22))⟩
    .done)))))))))
  .ret)))⟩
theorem ok22 : compF Try.prog c22 Try.f22 = some ir22 := by kernel_rfl
theorem k_lens_Size {args : List AVal} {σ : AHeap} {Q : AVal → AHeap → Prop} (hl : Nat.ble args.length 23 = true) (h : argsK (Env.full 9) 0 args fun env => evC Try.prog c22 ir22.body env σ (retQ ir22 Q)) : ACalls Try.prog 22 args σ Q :=
  acalls_of Try.func22 ok22 rfl (Nat.le_of_ble_eq_true hl) h
/- lens.Write -/
def c26 : Cfg := ⟨qs, [], 54, [], ps⟩
def ir26 : IFun := ⟨2, [.tmp s4, .tmp s5],
  (.seq (.reg (.one ⟨some s4, none, (.mv (.c (.slice 1 [] .full)))⟩
    (.one ⟨some s5, none, (.mv (.c (.v (.int .i64 0))))⟩
    .done)))
  (.seq (.block 0 (.seq (.reg (.one ⟨some s11, none, (.mv (.t s1))⟩
    (.one ⟨some s12, none, (.callq 51 [(.t s11)])⟩
    (.one ⟨some s13, none, (.not (.t s12))⟩
    (.one ⟨some s10, none, (.mv (.t s13))⟩
    .done)))))
  (.cond (.t s10) (.seq (.reg (.one ⟨some s4, none, (.mv (.c (.slice 1 [] .full)))⟩
    (.one ⟨some s5, none, (.mv (.c (.v (.int .i64 9))))⟩
    .done)))
  .ret) (.seq (.reg (.one ⟨some s15, none, (.mv (.t s0))⟩
    (.one ⟨some s16, none, (.len false (.t s15))⟩
    (.one ⟨some s17, none, (.bin false .eql (.t s16) (.c (.v (.int .i64 0))))⟩
    (.one ⟨some s14, none, (.mv (.t s17))⟩
    .done)))))
  (.cond (.t s14) (.seq (.reg (.one ⟨some s4, none, (.mv (.c (.slice 1 [] .full)))⟩
    (.one ⟨some s5, none, (.mv (.c (.v (.int .i64 4))))⟩
    .done)))
  .ret) (.seq (.reg (.one ⟨some s19, none, (.mv (.t s0))⟩
    (.one ⟨some s20, none, (.len false (.t s19))⟩
    (.one ⟨some s21, none, (.bin false .gtr (.t s20) (.c (.v (.int .i64 23))))⟩
    (.one ⟨some s18, none, (.mv (.t s21))⟩
    .done)))))
  (.cond (.t s18) (.seq (.reg (.one ⟨some s4, none, (.mv (.c (.slice 1 [] .full)))⟩
    (.one ⟨some s5, none, (.mv (.c (.v (.int .i64 2))))⟩
    .done)))
  .ret) .skip)))))))
  (.seq (.reg (.one ⟨some s22, none, (.callq 52 [])⟩
    (.one ⟨some s6, none, (.mv (.t s22))⟩
    .done)))
  (.seq (.seq (.reg (.one ⟨some s23, none, (.mv (.t s0))⟩
    (.one ⟨some s24, none, (.len false (.t s23))⟩
    (.one ⟨some s25, none, (.mv (.c (.v (.int .i64 0))))⟩
    .done))))
  (.block 1 (.loop (.seq (.reg (.one ⟨some s26, none, (.bin false .lss (.t s25) (.t s24))⟩
    .done))
  (.seq (.cond (.t s26) .skip (.exit 1))
  (.seq (.block 2 (.seq (.reg (.one ⟨some s27, none, (.mv (.t s25))⟩
    (.one ⟨some s28, none, (.iaddr 1 (.t s23) (.t s25))⟩
    (.one ⟨some s29, none, (.load none (.t s28))⟩
    (.one ⟨some s7, none, (.mv (.t s27))⟩
    (.one ⟨some s8, none, (.mv (.t s29))⟩
    .done))))))
  (.seq (.seq (.reg (.one ⟨some s30, none, (.mv (.t s8))⟩
    (.one ⟨some s31, none, (.bin false .lss (.t s30) (.c (.v (.int .i64 1))))⟩
    (.one ⟨some s32, none, (.mv (.t s31))⟩
    (.one ⟨some s33, some (s32, false), (.mv (.t s8))⟩
    (.one ⟨some s34, some (s32, false), (.mv (.t s1))⟩
    (.one ⟨some s35, some (s32, false), (.bin false .shl (.c (.v (.int .i64 1))) (.t s34))⟩
    (.one ⟨some s36, some (s32, false), (.bin false .geq (.t s33) (.t s35))⟩
    (.one ⟨some s37, none, (.pick (.t s32) (.c (.v (.bool true))) (.t s36))⟩
    .done)))))))))
  (.cond (.t s37) (.seq (.reg (.one ⟨some s4, none, (.mv (.c (.slice 1 [] .full)))⟩
    (.one ⟨some s5, none, (.mv (.c (.v (.int .i64 1))))⟩
    .done)))
  .ret) .skip))
  (.seq (.reg (.one ⟨some s9, none, (.mv (.c (.v (.int .u64 0))))⟩
    .done))
  (.seq (.seq (.reg (.one ⟨some s38, none, (.mv (.t s7))⟩
    (.one ⟨some s39, none, (.mv (.t s0))⟩
    (.one ⟨some s40, none, (.len false (.t s39))⟩
    (.one ⟨some s41, none, (.bin false .sub (.t s40) (.c (.v (.int .i64 1))))⟩
    (.one ⟨some s42, none, (.bin false .lss (.t s38) (.t s41))⟩
    .done))))))
  (.cond (.t s42) (.reg (.one ⟨some s9, none, (.mv (.c (.v (.int .u64 1))))⟩
    .done)) .skip))
  (.seq (.reg (.one ⟨some s43, none, (.mv (.t s6))⟩
    (.one ⟨some s44, none, (.mv (.t s9))⟩
    (.one ⟨some s45, none, (.call 53 [(.t s43), (.t s44), (.c (.v (.int .i64 1)))])⟩
    .done))))
  (.reg (.one ⟨some s46, none, (.mv (.t s6))⟩
    (.one ⟨some s47, none, (.mv (.t s8))⟩
    (.one ⟨some s48, none, (.conv .u64 (.t s47))⟩
    (.one ⟨some s49, none, (.mv (.t s1))⟩
    (.one ⟨some s50, none, (.call 53 [(.t s46), (.t s48), (.t s49)])⟩
    .done))))))))))))
  (.reg (.one ⟨some s51, none, (.bin false .add (.t s25) (.c (.v (.int .i64 1))))⟩
    (.one ⟨some s25, none, (.mv (.t s51))⟩
    .done)))))))))
  (.seq (.reg (.one ⟨some s52, none, (.mv (.t s6))⟩
    (.one ⟨some s53, none, (.callq 55 [(.t s52)])⟩
    (.one ⟨some s4, none, (.mv (.t s53))⟩
    (.one ⟨some s5, none, (.mv (.c (.v (.int .i64 0))))⟩
    .done)))))
  .ret)))))⟩
theorem ok26 : compF Try.prog c26 Try.f26 = some ir26 := by kernel_rfl
theorem k_lens_Write {args : List AVal} {σ : AHeap} {Q : AVal → AHeap → Prop} (hl : Nat.ble args.length 54 = true) (h : argsK (Env.full 9) 0 args fun env => evC Try.prog c26 ir26.body env σ (retQ ir26 Q)) : ACalls Try.prog 26 args σ Q :=
  acalls_of Try.func26 ok26 rfl (Nat.le_of_ble_eq_true hl) h
/- lens.Read -/
def c30 : Cfg := ⟨qs, [], 69, [], ps⟩
def ir30 : IFun := ⟨2, [.tmp s4, .tmp s5, .tmp s6],
  (.seq (.reg (.one ⟨some s4, none, (.mv (.c (.slice 1 [] .full)))⟩
    (.one ⟨some s5, none, (.mv (.c (.v (.int .i64 0))))⟩
    (.one ⟨some s6, none, (.mv (.c (.v (.int .i64 0))))⟩
    .done))))
  (.scope (.seq (.seq (.reg (.one ⟨some s14, none, (.mv (.t s1))⟩
    (.one ⟨some s15, none, (.callq 51 [(.t s14)])⟩
    (.one ⟨some s16, none, (.not (.t s15))⟩
    .done))))
  (.cond (.t s16) (.seq (.reg (.one ⟨some s4, none, (.mv (.c (.slice 1 [] .full)))⟩
    (.one ⟨some s5, none, (.mv (.c (.v (.int .i64 0))))⟩
    (.one ⟨some s6, none, (.mv (.c (.v (.int .i64 9))))⟩
    .done))))
  .ret) .skip))
  (.seq (.reg (.one ⟨some s7, none, (.mv (.c (.slice 1 [] .full)))⟩
    .done))
  (.seq (.reg (.one ⟨some s17, none, (.mv (.t s0))⟩
    (.one ⟨some s18, none, (.mv (.t s0))⟩
    (.one ⟨some s19, none, (.len false (.t s18))⟩
    (.one ⟨some s20, none, (.mv (.t s1))⟩
    (.one ⟨some s21, none, (.callq 22 [(.c (.v (.int .i64 23))), (.t s20)])⟩
    (.one ⟨some s22, none, (.mxmn false (.t s19) (.t s21))⟩
    (.one ⟨some s23, none, (.cut 1 (.t s17) none (some (.t s22)) none)⟩
    (.one ⟨some s24, none, (.callq 29 [(.t s23)])⟩
    (.one ⟨some s8, none, (.mv (.t s24))⟩
    .done))))))))))
  (.seq (.label 0)
  (.seq (.reg (.one ⟨some s26, none, (.mv (.t s8))⟩
    (.one ⟨some s27, none, (.call 57 [(.t s26), (.c (.v (.int .i64 1)))])⟩
    (.one ⟨some s25, none, (.mv (.t s27))⟩
    (.one ⟨some s28, none, (.ext (.t s25) 0)⟩
    (.one ⟨some s29, none, (.ext (.t s25) 1)⟩
    (.one ⟨some s9, none, (.mv (.t s28))⟩
    (.one ⟨some s10, none, (.mv (.t s29))⟩
    .done))))))))
  (.seq (.seq (.reg (.one ⟨some s30, none, (.mv (.t s10))⟩
    (.one ⟨some s31, none, (.bin false .neq (.t s30) (.c (.v (.int .i64 0))))⟩
    .done)))
  (.cond (.t s31) (.seq (.reg (.one ⟨some s32, none, (.mv (.t s10))⟩
    (.one ⟨some s4, none, (.mv (.c (.slice 1 [] .full)))⟩
    (.one ⟨some s5, none, (.mv (.c (.v (.int .i64 0))))⟩
    (.one ⟨some s6, none, (.mv (.t s32))⟩
    .done)))))
  .ret) .skip))
  (.seq (.reg (.one ⟨some s34, none, (.mv (.t s8))⟩
    (.one ⟨some s35, none, (.mv (.t s1))⟩
    (.one ⟨some s36, none, (.call 57 [(.t s34), (.t s35)])⟩
    (.one ⟨some s33, none, (.mv (.t s36))⟩
    (.one ⟨some s37, none, (.ext (.t s33) 0)⟩
    (.one ⟨some s38, none, (.ext (.t s33) 1)⟩
    (.one ⟨some s11, none, (.mv (.t s37))⟩
    (.one ⟨some s10, none, (.mv (.t s38))⟩
    .done)))))))))
  (.seq (.block 0 (.seq (.reg (.one ⟨some s40, none, (.mv (.t s10))⟩
    (.one ⟨some s41, none, (.bin false .neq (.t s40) (.c (.v (.int .i64 0))))⟩
    (.one ⟨some s39, none, (.mv (.t s41))⟩
    .done))))
  (.cond (.t s39) (.seq (.reg (.one ⟨some s42, none, (.mv (.t s10))⟩
    (.one ⟨some s4, none, (.mv (.c (.slice 1 [] .full)))⟩
    (.one ⟨some s5, none, (.mv (.c (.v (.int .i64 0))))⟩
    (.one ⟨some s6, none, (.mv (.t s42))⟩
    .done)))))
  .ret) (.seq (.reg (.one ⟨some s44, none, (.mv (.t s11))⟩
    (.one ⟨some s45, none, (.bin false .eql (.t s44) (.c (.v (.int .u64 0))))⟩
    (.one ⟨some s43, none, (.mv (.t s45))⟩
    .done))))
  (.cond (.t s43) (.seq (.reg (.one ⟨some s4, none, (.mv (.c (.slice 1 [] .full)))⟩
    (.one ⟨some s5, none, (.mv (.c (.v (.int .i64 0))))⟩
    (.one ⟨some s6, none, (.mv (.c (.v (.int .i64 3))))⟩
    .done))))
  .ret) .skip)))))
  (.seq (.reg (.one ⟨some s46, none, (.mv (.t s7))⟩
    (.one ⟨some s47, none, (.mv (.t s11))⟩
    (.one ⟨some s48, none, (.conv .i64 (.t s47))⟩
    (.one ⟨some s49, none, (.row 1 [(.t s48)])⟩
    (.one ⟨some s50, none, (.app 1 8 (.t s46) (.t s49))⟩
    (.one ⟨some s7, none, (.mv (.t s50))⟩
    .done)))))))
  (.seq (.seq (.reg (.one ⟨some s51, none, (.mv (.t s9))⟩
    (.one ⟨some s52, none, (.bin false .eql (.t s51) (.c (.v (.int .u64 1))))⟩
    .done)))
  (.cond (.t s52) (.seq (.seq (.reg (.one ⟨some s53, none, (.mv (.t s7))⟩
    (.one ⟨some s54, none, (.len false (.t s53))⟩
    (.one ⟨some s55, none, (.bin false .eql (.t s54) (.c (.v (.int .i64 23))))⟩
    .done))))
  (.cond (.t s55) (.seq (.reg (.one ⟨some s4, none, (.mv (.c (.slice 1 [] .full)))⟩
    (.one ⟨some s5, none, (.mv (.c (.v (.int .i64 0))))⟩
    (.one ⟨some s6, none, (.mv (.c (.v (.int .i64 2))))⟩
    .done))))
  .ret) .skip))
  (.goto 0)) .skip))
  (.seq (.seq (.reg (.one ⟨some s57, none, (.mv (.t s8))⟩
    (.one ⟨some s58, none, (.call 58 [(.t s57)])⟩
    (.one ⟨some s56, none, (.mv (.t s58))⟩
    (.one ⟨some s59, none, (.ext (.t s56) 0)⟩
    (.one ⟨some s60, none, (.ext (.t s56) 1)⟩
    (.one ⟨some s12, none, (.mv (.t s59))⟩
    (.one ⟨some s13, none, (.mv (.t s60))⟩
    .done))))))))
  (.seq (.reg (.one ⟨some s61, none, (.mv (.t s13))⟩
    (.one ⟨some s62, none, (.bin false .neq (.t s61) (.c (.v (.int .i64 0))))⟩
    .done)))
  (.cond (.t s62) (.seq (.reg (.one ⟨some s63, none, (.mv (.t s13))⟩
    (.one ⟨some s4, none, (.mv (.c (.slice 1 [] .full)))⟩
    (.one ⟨some s5, none, (.mv (.c (.v (.int .i64 0))))⟩
    (.one ⟨some s6, none, (.mv (.t s63))⟩
    .done)))))
  .ret) .skip)))
  (.seq (.reg (.one ⟨some s64, none, (.mv (.t s7))⟩
    (.one ⟨some s65, none, (.mv (.t s7))⟩
    (.one ⟨some s66, none, (.len false (.t s65))⟩
    (.one ⟨some s67, none, (.mv (.t s1))⟩
    (.one ⟨some s68, none, (.callq 22 [(.t s66), (.t s67)])⟩
    (.one ⟨some s4, none, (.mv (.t s64))⟩
    (.one ⟨some s5, none, (.mv (.t s68))⟩
    (.one ⟨some s6, none, (.mv (.c (.v (.int .i64 0))))⟩
    .done)))))))))
  .ret))))))))))))))⟩
theorem ok30 : compF Try.prog c30 Try.f30 = some ir30 := by kernel_rfl
theorem k_lens_Read {args : List AVal} {σ : AHeap} {Q : AVal → AHeap → Prop} (hl : Nat.ble args.length 69 = true) (h : argsK (Env.full 9) 0 args fun env => evC Try.prog c30 ir30.body env σ (retQ ir30 Q)) : ACalls Try.prog 30 args σ Q :=
  acalls_of Try.func30 ok30 rfl (Nat.le_of_ble_eq_true hl) h
/- lens.isWidth -/
def c51 : Cfg := ⟨qs, [], 9, [], ps⟩
def ir51 : IFun := ⟨1, [.tmp s2],
  (.seq (.reg (.one ⟨some s2, none, (.mv (.c (.v (.bool false))))⟩
    .done))
  (.seq (.reg (.one ⟨some s3, none, (.mv (.t s0))⟩
    (.one ⟨some s4, none, (.bin false .eql (.t s3) (.c (.v (.int .i64 11))))⟩
    (.one ⟨some s5, none, (.mv (.t s4))⟩
    (.one ⟨some s6, some (s5, false), (.mv (.t s0))⟩
    (.one ⟨some s7, some (s5, false), (.bin false .eql (.t s6) (.c (.v (.int .i64 15))))⟩
    (.one ⟨some s8, none, (.pick (.t s5) (.c (.v (.bool true))) (.t s7))⟩
    (.one ⟨some s2, none, (.mv (.t s8))⟩
    .done))))))))
  .ret))⟩
theorem ok51 : compF Try.prog c51 Try.f51 = some ir51 := by kernel_rfl
theorem k_lens_isWidth {args : List AVal} {σ : AHeap} {Q : AVal → AHeap → Prop} (hl : Nat.ble args.length 9 = true) (h : argsK (Env.full 9) 0 args fun env => evC Try.prog c51 ir51.body env σ (retQ ir51 Q)) : ACalls Try.prog 51 args σ Q :=
  acalls_of Try.func51 ok51 rfl (Nat.le_of_ble_eq_true hl) h
end Go.Proofs.Ytgbpjbpdpgbngaa
/-
  The bodies of one package, compiled to the framework's language (printed by a program of this session).
-/
namespace Go.Proofs.Ytgbpjbpdpgbngaa
open Go Go.Am
/- spans.New -/
def c34 : Cfg := ⟨qs, [], 24, [], ps⟩
def ir34 : IFun := ⟨1, [.tmp s2, .tmp s3],
  (.seq (.reg (.one ⟨some s2, none, (.mv (.c (.v (.pointer none))))⟩
    (.one ⟨some s3, none, (.mv (.c (.v (.int .i64 0))))⟩
    .done)))
  (.seq (.reg (.one ⟨some s8, none, (.build [(.slice 2 [] .full)] [])⟩
    (.one ⟨some s9, none, (.box 1 (.t s8))⟩
    (.one ⟨some s4, none, (.mv (.t s9))⟩
    .done))))
  (.seq (.seq (.reg (.one ⟨some s10, none, (.mv (.t s0))⟩
    (.one ⟨some s11, none, (.len false (.t s10))⟩
    (.one ⟨some s12, none, (.mv (.c (.v (.int .i64 0))))⟩
    .done))))
  (.block 0 (.loop (.seq (.reg (.one ⟨some s13, none, (.bin false .lss (.t s12) (.t s11))⟩
    .done))
  (.seq (.cond (.t s13) .skip (.exit 0))
  (.seq (.block 1 (.seq (.reg (.one ⟨some s14, none, (.iaddr 2 (.t s10) (.t s12))⟩
    (.one ⟨some s15, none, (.load (some 2) (.t s14))⟩
    (.one ⟨some s6, none, (.new [(.v (.int .i64 0)), (.v (.int .i64 0))])⟩
    (.one ⟨none, none, (.store 2 (.t s6) (.t s15))⟩
    .done)))))
  (.seq (.reg (.one ⟨some s16, none, (.mv (.t s4))⟩
    (.one ⟨some s17, none, (.load (some 2) (.t s6))⟩
    (.one ⟨some s18, none, (.call 38 [(.t s16), (.t s17)])⟩
    (.one ⟨some s7, none, (.mv (.t s18))⟩
    .done)))))
  (.seq (.reg (.one ⟨some s19, none, (.mv (.t s7))⟩
    (.one ⟨some s20, none, (.bin false .neq (.t s19) (.c (.v (.int .i64 0))))⟩
    .done)))
  (.cond (.t s20) (.seq (.reg (.one ⟨some s21, none, (.mv (.t s7))⟩
    (.one ⟨some s2, none, (.mv (.c (.v (.pointer none))))⟩
    (.one ⟨some s3, none, (.mv (.t s21))⟩
    .done))))
  .ret) .skip)))))
  (.reg (.one ⟨some s22, none, (.bin false .add (.t s12) (.c (.v (.int .i64 1))))⟩
    (.one ⟨some s12, none, (.mv (.t s22))⟩
    .done)))))))))
  (.seq (.reg (.one ⟨some s23, none, (.mv (.t s4))⟩
    (.one ⟨some s2, none, (.mv (.t s23))⟩
    (.one ⟨some s3, none, (.mv (.c (.v (.int .i64 0))))⟩
    .done))))
  .ret))))⟩
theorem ok34 : compF Try.prog c34 Try.f34 = some ir34 := by kernel_rfl
theorem k_spans_New {args : List AVal} {σ : AHeap} {Q : AVal → AHeap → Prop} (hl : Nat.ble args.length 24 = true) (h : argsK (Env.full 9) 0 args fun env => evC Try.prog c34 ir34.body env σ (retQ ir34 Q)) : ACalls Try.prog 34 args σ Q :=
  acalls_of Try.func34 ok34 rfl (Nat.le_of_ble_eq_true hl) h
/- spans.Set).Add -/
def c38 : Cfg := ⟨qs, [], 78, [], ps⟩
def ir38 : IFun := ⟨2, [.tmp s4],
  (.seq (.reg (.one ⟨some s3, none, (.box 2 (.t s1))⟩
    (.one ⟨some s4, none, (.mv (.c (.v (.int .i64 0))))⟩
    .done)))
  (.scope (.seq (.seq (.reg (.one ⟨some s10, none, (.mv (.t s0))⟩
    (.one ⟨some s11, none, (.load (some 2) (.t s3))⟩
    (.one ⟨some s12, none, (.callq 64 [(.t s10), (.t s11)])⟩
    (.one ⟨some s5, none, (.mv (.t s12))⟩
    .done)))))
  (.seq (.reg (.one ⟨some s13, none, (.mv (.t s5))⟩
    (.one ⟨some s14, none, (.bin false .neq (.t s13) (.c (.v (.int .i64 0))))⟩
    .done)))
  (.cond (.t s14) (.seq (.reg (.one ⟨some s15, none, (.mv (.t s5))⟩
    (.one ⟨some s4, none, (.mv (.t s15))⟩
    .done)))
  .ret) .skip)))
  (.seq (.reg (.one ⟨some s6, none, (.mv (.c (.slice 2 [] .full)))⟩
    .done))
  (.seq (.reg (.one ⟨some s7, none, (.mv (.c (.v (.int .i64 0))))⟩
    (.one ⟨some s8, none, (.mv (.c (.v (.bool false))))⟩
    .done)))
  (.seq (.label 0)
  (.seq (.seq (.reg (.one ⟨some s16, none, (.mv (.t s7))⟩
    (.one ⟨some s17, none, (.mv (.t s0))⟩
    (.one ⟨some s18, none, (.nilchk (.t s17))⟩
    (.one ⟨some s19, none, (.faddr 0 (.t s18))⟩
    (.one ⟨some s20, none, (.load none (.t s19))⟩
    (.one ⟨some s21, none, (.len false (.t s20))⟩
    (.one ⟨some s22, none, (.bin false .lss (.t s16) (.t s21))⟩
    .done))))))))
  (.cond (.t s22) (.seq (.reg (.one ⟨some s23, none, (.mv (.t s0))⟩
    (.one ⟨some s24, none, (.nilchk (.t s23))⟩
    (.one ⟨some s25, none, (.faddr 0 (.t s24))⟩
    (.one ⟨some s26, none, (.load none (.t s25))⟩
    (.one ⟨some s27, none, (.mv (.t s7))⟩
    (.one ⟨some s28, none, (.iaddr 2 (.t s26) (.t s27))⟩
    (.one ⟨some s29, none, (.load (some 2) (.t s28))⟩
    (.one ⟨some s9, none, (.new [(.v (.int .i64 0)), (.v (.int .i64 0))])⟩
    (.one ⟨none, none, (.store 2 (.t s9) (.t s29))⟩
    .done))))))))))
  (.seq (.block 0 (.seq (.reg (.one ⟨some s42, none, (.faddr 1 (.t s9))⟩
    (.one ⟨some s43, none, (.load none (.t s42))⟩
    (.one ⟨some s44, none, (.faddr 0 (.t s3))⟩
    (.one ⟨some s45, none, (.load none (.t s44))⟩
    (.one ⟨some s46, none, (.bin false .lss (.t s43) (.t s45))⟩
    (.one ⟨some s41, none, (.mv (.t s46))⟩
    .done)))))))
  (.cond (.t s41) (.reg (.one ⟨some s47, none, (.mv (.t s6))⟩
    (.one ⟨some s48, none, (.load (some 2) (.t s9))⟩
    (.one ⟨some s49, none, (.row 2 [(.t s48)])⟩
    (.one ⟨some s50, none, (.app 2 16 (.t s47) (.t s49))⟩
    (.one ⟨some s6, none, (.mv (.t s50))⟩
    .done)))))) (.seq (.reg (.one ⟨some s52, none, (.faddr 0 (.t s9))⟩
    (.one ⟨some s53, none, (.load none (.t s52))⟩
    (.one ⟨some s54, none, (.faddr 1 (.t s3))⟩
    (.one ⟨some s55, none, (.load none (.t s54))⟩
    (.one ⟨some s56, none, (.bin false .gtr (.t s53) (.t s55))⟩
    (.one ⟨some s51, none, (.mv (.t s56))⟩
    .done)))))))
  (.cond (.t s51) (.seq (.seq (.reg (.one ⟨some s57, none, (.mv (.t s8))⟩
    (.one ⟨some s58, none, (.not (.t s57))⟩
    .done)))
  (.cond (.t s58) (.reg (.one ⟨some s59, none, (.mv (.t s6))⟩
    (.one ⟨some s60, none, (.load (some 2) (.t s3))⟩
    (.one ⟨some s61, none, (.row 2 [(.t s60)])⟩
    (.one ⟨some s62, none, (.app 2 16 (.t s59) (.t s61))⟩
    (.one ⟨some s6, none, (.mv (.t s62))⟩
    (.one ⟨some s8, none, (.mv (.c (.v (.bool true))))⟩
    .done))))))) .skip))
  (.reg (.one ⟨some s63, none, (.mv (.t s6))⟩
    (.one ⟨some s64, none, (.load (some 2) (.t s9))⟩
    (.one ⟨some s65, none, (.row 2 [(.t s64)])⟩
    (.one ⟨some s66, none, (.app 2 16 (.t s63) (.t s65))⟩
    (.one ⟨some s6, none, (.mv (.t s66))⟩
    .done))))))) (.reg (.one ⟨some s30, none, (.faddr 0 (.t s3))⟩
    (.one ⟨some s31, none, (.load none (.t s30))⟩
    (.one ⟨some s32, none, (.faddr 0 (.t s9))⟩
    (.one ⟨some s33, none, (.load none (.t s32))⟩
    (.one ⟨some s34, none, (.mxmn false (.t s31) (.t s33))⟩
    (.one ⟨some s35, none, (.faddr 1 (.t s3))⟩
    (.one ⟨some s36, none, (.load none (.t s35))⟩
    (.one ⟨some s37, none, (.faddr 1 (.t s9))⟩
    (.one ⟨some s38, none, (.load none (.t s37))⟩
    (.one ⟨some s39, none, (.mxmn true (.t s36) (.t s38))⟩
    (.one ⟨some s40, none, (.build [(.v (.int .i64 0)), (.v (.int .i64 0))] [(0, 1, (.t s34)), (1, 1, (.t s39))])⟩
    (.one ⟨none, none, (.store 2 (.t s3) (.t s40))⟩
    .done))))))))))))))))))
  (.seq (.reg (.one ⟨some s67, none, (.mv (.t s7))⟩
    (.one ⟨some s68, none, (.bin false .add (.t s67) (.c (.v (.int .i64 1))))⟩
    (.one ⟨some s7, none, (.mv (.t s68))⟩
    .done))))
  (.goto 0)))) .skip))
  (.seq (.seq (.reg (.one ⟨some s69, none, (.mv (.t s8))⟩
    (.one ⟨some s70, none, (.not (.t s69))⟩
    .done)))
  (.cond (.t s70) (.reg (.one ⟨some s71, none, (.mv (.t s6))⟩
    (.one ⟨some s72, none, (.load (some 2) (.t s3))⟩
    (.one ⟨some s73, none, (.row 2 [(.t s72)])⟩
    (.one ⟨some s74, none, (.app 2 16 (.t s71) (.t s73))⟩
    (.one ⟨some s6, none, (.mv (.t s74))⟩
    .done)))))) .skip))
  (.seq (.reg (.one ⟨some s75, none, (.mv (.t s0))⟩
    (.one ⟨some s76, none, (.mv (.t s6))⟩
    (.one ⟨some s77, none, (.call 65 [(.t s75), (.t s76)])⟩
    (.one ⟨some s4, none, (.mv (.t s77))⟩
    .done)))))
  .ret)))))))))⟩
theorem ok38 : compF Try.prog c38 Try.f38 = some ir38 := by kernel_rfl
theorem k_spans_Set_Add {args : List AVal} {σ : AHeap} {Q : AVal → AHeap → Prop} (hl : Nat.ble args.length 78 = true) (h : argsK (Env.full 9) 0 args fun env => evC Try.prog c38 ir38.body env σ (retQ ir38 Q)) : ACalls Try.prog 38 args σ Q :=
  acalls_of Try.func38 ok38 rfl (Nat.le_of_ble_eq_true hl) h
/- spans.Set).Count -/
def c47 : Cfg := ⟨qs, [], 26, [], ps⟩
def ir47 : IFun := ⟨1, [.tmp s2],
  (.seq (.reg (.one ⟨some s2, none, (.mv (.c (.v (.int .i64 0))))⟩
    .done))
  (.seq (.reg (.one ⟨some s3, none, (.mv (.c (.v (.int .i64 0))))⟩
    .done))
  (.seq (.seq (.reg (.one ⟨some s6, none, (.mv (.t s0))⟩
    (.one ⟨some s7, none, (.eqNil 1 true (.t s6))⟩
    .done)))
  (.cond (.t s7) (.seq (.reg (.one ⟨some s8, none, (.mv (.t s0))⟩
    (.one ⟨some s9, none, (.nilchk (.t s8))⟩
    (.one ⟨some s10, none, (.faddr 0 (.t s9))⟩
    (.one ⟨some s11, none, (.load none (.t s10))⟩
    (.one ⟨some s12, none, (.len false (.t s11))⟩
    (.one ⟨some s13, none, (.mv (.c (.v (.int .i64 0))))⟩
    .done)))))))
  (.block 0 (.loop (.seq (.reg (.one ⟨some s14, none, (.bin false .lss (.t s13) (.t s12))⟩
    .done))
  (.seq (.cond (.t s14) .skip (.exit 0))
  (.seq (.block 1 (.seq (.reg (.one ⟨some s15, none, (.iaddr 2 (.t s11) (.t s13))⟩
    (.one ⟨some s16, none, (.load (some 2) (.t s15))⟩
    (.one ⟨some s5, none, (.new [(.v (.int .i64 0)), (.v (.int .i64 0))])⟩
    (.one ⟨none, none, (.store 2 (.t s5) (.t s16))⟩
    .done)))))
  (.reg (.one ⟨some s17, none, (.mv (.t s3))⟩
    (.one ⟨some s18, none, (.faddr 1 (.t s5))⟩
    (.one ⟨some s19, none, (.load none (.t s18))⟩
    (.one ⟨some s20, none, (.faddr 0 (.t s5))⟩
    (.one ⟨some s21, none, (.load none (.t s20))⟩
    (.one ⟨some s22, none, (.bin false .sub (.t s19) (.t s21))⟩
    (.one ⟨some s23, none, (.bin false .add (.t s17) (.t s22))⟩
    (.one ⟨some s3, none, (.mv (.t s23))⟩
    .done)))))))))))
  (.reg (.one ⟨some s24, none, (.bin false .add (.t s13) (.c (.v (.int .i64 1))))⟩
    (.one ⟨some s13, none, (.mv (.t s24))⟩
    .done))))))))) .skip))
  (.seq (.reg (.one ⟨some s25, none, (.mv (.t s3))⟩
    (.one ⟨some s2, none, (.mv (.t s25))⟩
    .done)))
  .ret))))⟩
theorem ok47 : compF Try.prog c47 Try.f47 = some ir47 := by kernel_rfl
theorem k_spans_Set_Count {args : List AVal} {σ : AHeap} {Q : AVal → AHeap → Prop} (hl : Nat.ble args.length 26 = true) (h : argsK (Env.full 9) 0 args fun env => evC Try.prog c47 ir47.body env σ (retQ ir47 Q)) : ACalls Try.prog 47 args σ Q :=
  acalls_of Try.func47 ok47 rfl (Nat.le_of_ble_eq_true hl) h
/- spans.Set).Has -/
def c63 : Cfg := ⟨qs, [], 17, [], ps⟩
def ir63 : IFun := ⟨2, [.tmp s4],
  (.seq (.reg (.one ⟨some s3, none, (.box 2 (.t s1))⟩
    (.one ⟨some s4, none, (.mv (.c (.v (.bool false))))⟩
    .done)))
  (.seq (.reg (.one ⟨some s5, none, (.mv (.t s0))⟩
    (.one ⟨some s6, none, (.load (some 2) (.t s3))⟩
    (.one ⟨some s7, none, (.callq 64 [(.t s5), (.t s6)])⟩
    (.one ⟨some s8, none, (.bin false .eql (.t s7) (.c (.v (.int .i64 0))))⟩
    (.one ⟨some s9, none, (.mv (.t s8))⟩
    (.one ⟨some s10, some (s9, true), (.mv (.t s0))⟩
    (.one ⟨some s11, some (s9, true), (.nilchk (.t s10))⟩
    (.one ⟨some s12, some (s9, true), (.faddr 0 (.t s11))⟩
    (.one ⟨some s13, some (s9, true), (.load none (.t s12))⟩
    (.one ⟨some s14, some (s9, true), (.fn 75 [] [(.t s3)])⟩
    (.one ⟨some s15, some (s9, true), (.callq 74 [(.t s13), (.t s14)])⟩
    (.one ⟨some s16, none, (.pick (.t s9) (.t s15) (.c (.v (.bool false))))⟩
    (.one ⟨some s4, none, (.mv (.t s16))⟩
    .done))))))))))))))
  .ret))⟩
theorem ok63 : compF Try.prog c63 Try.f63 = some ir63 := by kernel_rfl
theorem k_spans_Set_Has {args : List AVal} {σ : AHeap} {Q : AVal → AHeap → Prop} (hl : Nat.ble args.length 17 = true) (h : argsK (Env.full 9) 0 args fun env => evC Try.prog c63 ir63.body env σ (retQ ir63 Q)) : ACalls Try.prog 63 args σ Q :=
  acalls_of Try.func63 ok63 rfl (Nat.le_of_ble_eq_true hl) h
/- spans.Set).ask -/
def c64 : Cfg := ⟨qs, [], 12, [], ps⟩
def ir64 : IFun := ⟨2, [.tmp s4],
  (.seq (.reg (.one ⟨some s3, none, (.box 2 (.t s1))⟩
    (.one ⟨some s4, none, (.mv (.c (.v (.int .i64 0))))⟩
    .done)))
  (.seq (.block 0 (.seq (.reg (.one ⟨some s6, none, (.mv (.t s0))⟩
    (.one ⟨some s7, none, (.eqNil 1 false (.t s6))⟩
    (.one ⟨some s5, none, (.mv (.t s7))⟩
    .done))))
  (.cond (.t s5) (.seq (.reg (.one ⟨some s4, none, (.mv (.c (.v (.int .i64 6))))⟩
    .done))
  .ret) (.seq (.reg (.one ⟨some s9, none, (.load (some 2) (.t s3))⟩
    (.one ⟨some s10, none, (.callq 76 [(.t s9)])⟩
    (.one ⟨some s11, none, (.not (.t s10))⟩
    (.one ⟨some s8, none, (.mv (.t s11))⟩
    .done)))))
  (.cond (.t s8) (.seq (.reg (.one ⟨some s4, none, (.mv (.c (.v (.int .i64 1))))⟩
    .done))
  .ret) .skip)))))
  (.seq (.reg (.one ⟨some s4, none, (.mv (.c (.v (.int .i64 0))))⟩
    .done))
  .ret)))⟩
theorem ok64 : compF Try.prog c64 Try.f64 = some ir64 := by kernel_rfl
theorem k_spans_Set_ask {args : List AVal} {σ : AHeap} {Q : AVal → AHeap → Prop} (hl : Nat.ble args.length 12 = true) (h : argsK (Env.full 9) 0 args fun env => evC Try.prog c64 ir64.body env σ (retQ ir64 Q)) : ACalls Try.prog 64 args σ Q :=
  acalls_of Try.func64 ok64 rfl (Nat.le_of_ble_eq_true hl) h
/- spans.Set).keep -/
def c65 : Cfg := ⟨qs, [], 12, [], ps⟩
def ir65 : IFun := ⟨2, [.tmp s4],
  (.seq (.reg (.one ⟨some s4, none, (.mv (.c (.v (.int .i64 0))))⟩
    .done))
  (.seq (.seq (.reg (.one ⟨some s5, none, (.mv (.t s1))⟩
    (.one ⟨some s6, none, (.len false (.t s5))⟩
    (.one ⟨some s7, none, (.bin false .gtr (.t s6) (.c (.v (.int .i64 2048))))⟩
    .done))))
  (.cond (.t s7) (.seq (.reg (.one ⟨some s4, none, (.mv (.c (.v (.int .i64 5))))⟩
    .done))
  .ret) .skip))
  (.seq (.reg (.one ⟨some s8, none, (.mv (.t s0))⟩
    (.one ⟨some s9, none, (.mv (.t s1))⟩
    (.one ⟨some s10, none, (.nilchk (.t s8))⟩
    (.one ⟨some s11, none, (.faddr 0 (.t s10))⟩
    (.one ⟨none, none, (.store 1 (.t s11) (.t s9))⟩
    .done))))))
  (.seq (.reg (.one ⟨some s4, none, (.mv (.c (.v (.int .i64 0))))⟩
    .done))
  .ret))))⟩
theorem ok65 : compF Try.prog c65 Try.f65 = some ir65 := by kernel_rfl
theorem k_spans_Set_keep {args : List AVal} {σ : AHeap} {Q : AVal → AHeap → Prop} (hl : Nat.ble args.length 12 = true) (h : argsK (Env.full 9) 0 args fun env => evC Try.prog c65 ir65.body env σ (retQ ir65 Q)) : ACalls Try.prog 65 args σ Q :=
  acalls_of Try.func65 ok65 rfl (Nat.le_of_ble_eq_true hl) h
/- spans.Set).Spans -/
def c73 : Cfg := ⟨qs, [], 10, [], ps⟩
def ir73 : IFun := ⟨1, [.tmp s2],
  (.seq (.reg (.one ⟨some s2, none, (.mv (.c (.slice 2 [] .full)))⟩
    .done))
  (.seq (.seq (.reg (.one ⟨some s3, none, (.mv (.t s0))⟩
    (.one ⟨some s4, none, (.eqNil 1 false (.t s3))⟩
    .done)))
  (.cond (.t s4) (.seq (.reg (.one ⟨some s2, none, (.mv (.c (.slice 2 [] .full)))⟩
    .done))
  .ret) .skip))
  (.seq (.reg (.one ⟨some s5, none, (.mv (.t s0))⟩
    (.one ⟨some s6, none, (.nilchk (.t s5))⟩
    (.one ⟨some s7, none, (.faddr 0 (.t s6))⟩
    (.one ⟨some s8, none, (.load none (.t s7))⟩
    (.one ⟨some s9, none, (.callq 80 [(.t s8)])⟩
    (.one ⟨some s2, none, (.mv (.t s9))⟩
    .done)))))))
  .ret)))⟩
theorem ok73 : compF Try.prog c73 Try.f73 = some ir73 := by kernel_rfl
theorem k_spans_Set_Spans {args : List AVal} {σ : AHeap} {Q : AVal → AHeap → Prop} (hl : Nat.ble args.length 10 = true) (h : argsK (Env.full 9) 0 args fun env => evC Try.prog c73 ir73.body env σ (retQ ir73 Q)) : ACalls Try.prog 73 args σ Q :=
  acalls_of Try.func73 ok73 rfl (Nat.le_of_ble_eq_true hl) h
/- spans.Span] -/
def c74 : Cfg := ⟨qs, [], 9, [], ps⟩
def ir74 : IFun := ⟨2, [.tmp s4],
  (.seq (.reg (.one ⟨some s4, none, (.mv (.c (.v (.bool false))))⟩
    .done))
  (.seq (.reg (.one ⟨some s5, none, (.mv (.t s0))⟩
    (.one ⟨some s6, none, (.mv (.t s1))⟩
    (.one ⟨some s7, none, (.callq 81 [(.t s5), (.t s6)])⟩
    (.one ⟨some s8, none, (.bin false .geq (.t s7) (.c (.v (.int .i64 0))))⟩
    (.one ⟨some s4, none, (.mv (.t s8))⟩
    .done))))))
  .ret))⟩
theorem ok74 : compF Try.prog c74 Try.f74 = some ir74 := by kernel_rfl
theorem k_slices_ContainsFunc_spans_Span {args : List AVal} {σ : AHeap} {Q : AVal → AHeap → Prop} (hl : Nat.ble args.length 9 = true) (h : argsK (Env.full 9) 0 args fun env => evC Try.prog c74 ir74.body env σ (retQ ir74 Q)) : ACalls Try.prog 74 args σ Q :=
  acalls_of Try.func74 ok74 rfl (Nat.le_of_ble_eq_true hl) h
/- spans.Set).Has$1 -/
def c75 : Cfg := ⟨qs, [], 16, [], ps⟩
def ir75 : IFun := ⟨2, [.tmp s3],
  (.seq (.reg (.one ⟨some s2, none, (.box 2 (.t s0))⟩
    (.one ⟨some s3, none, (.mv (.c (.v (.bool false))))⟩
    .done)))
  (.seq (.reg (.one ⟨some s4, none, (.faddr 0 (.t s2))⟩
    (.one ⟨some s5, none, (.load none (.t s4))⟩
    (.one ⟨some s6, none, (.faddr 0 (.t s1))⟩
    (.one ⟨some s7, none, (.load none (.t s6))⟩
    (.one ⟨some s8, none, (.bin false .leq (.t s5) (.t s7))⟩
    (.one ⟨some s9, none, (.mv (.t s8))⟩
    (.one ⟨some s10, some (s9, true), (.faddr 1 (.t s1))⟩
    (.one ⟨some s11, some (s9, true), (.load none (.t s10))⟩
    (.one ⟨some s12, some (s9, true), (.faddr 1 (.t s2))⟩
    (.one ⟨some s13, some (s9, true), (.load none (.t s12))⟩
    (.one ⟨some s14, some (s9, true), (.bin false .leq (.t s11) (.t s13))⟩
    (.one ⟨some s15, none, (.pick (.t s9) (.t s14) (.c (.v (.bool false))))⟩
    (.one ⟨some s3, none, (.mv (.t s15))⟩
    .done))))))))))))))
  .ret))⟩
theorem ok75 : compF Try.prog c75 Try.f75 = some ir75 := by kernel_rfl
theorem k_spans_Set_Has_1 {args : List AVal} {σ : AHeap} {Q : AVal → AHeap → Prop} (hl : Nat.ble args.length 16 = true) (h : argsK (Env.full 9) 0 args fun env => evC Try.prog c75 ir75.body env σ (retQ ir75 Q)) : ACalls Try.prog 75 args σ Q :=
  acalls_of Try.func75 ok75 rfl (Nat.le_of_ble_eq_true hl) h
/- spans.Right -/
def c76 : Cfg := ⟨qs, [], 18, [], ps⟩
def ir76 : IFun := ⟨1, [.tmp s2],
  (.seq (.reg (.one ⟨some s1, none, (.box 2 (.t s0))⟩
    (.one ⟨some s2, none, (.mv (.c (.v (.bool false))))⟩
    .done)))
  (.seq (.reg (.one ⟨some s3, none, (.faddr 0 (.t s1))⟩
    (.one ⟨some s4, none, (.load none (.t s3))⟩
    (.one ⟨some s5, none, (.bin false .geq (.t s4) (.c (.v (.int .i64 0))))⟩
    (.one ⟨some s6, none, (.mv (.t s5))⟩
    (.one ⟨some s7, some (s6, true), (.faddr 0 (.t s1))⟩
    (.one ⟨some s8, some (s6, true), (.load none (.t s7))⟩
    (.one ⟨some s9, some (s6, true), (.faddr 1 (.t s1))⟩
    (.one ⟨some s10, some (s6, true), (.load none (.t s9))⟩
    (.one ⟨some s11, some (s6, true), (.bin false .lss (.t s8) (.t s10))⟩
    (.one ⟨some s12, none, (.pick (.t s6) (.t s11) (.c (.v (.bool false))))⟩
    (.one ⟨some s13, none, (.mv (.t s12))⟩
    (.one ⟨some s14, some (s13, true), (.faddr 1 (.t s1))⟩
    (.one ⟨some s15, some (s13, true), (.load none (.t s14))⟩
    (.one ⟨some s16, some (s13, true), (.bin false .leq (.t s15) (.c (.v (.int .i64 65536))))⟩
    (.one ⟨some s17, none, (.pick (.t s13) (.t s16) (.c (.v (.bool false))))⟩
    (.one ⟨some s2, none, (.mv (.t s17))⟩
    .done)))))))))))))))))
  .ret))⟩
theorem ok76 : compF Try.prog c76 Try.f76 = some ir76 := by kernel_rfl
theorem k_spans_Right {args : List AVal} {σ : AHeap} {Q : AVal → AHeap → Prop} (hl : Nat.ble args.length 18 = true) (h : argsK (Env.full 9) 0 args fun env => evC Try.prog c76 ir76.body env σ (retQ ir76 Q)) : ACalls Try.prog 76 args σ Q :=
  acalls_of Try.func76 ok76 rfl (Nat.le_of_ble_eq_true hl) h
/- spans.Span] -/
def c80 : Cfg := ⟨qs, [], 8, [], ps⟩
def ir80 : IFun := ⟨1, [.tmp s2],
  (.seq (.reg (.one ⟨some s2, none, (.mv (.c (.slice 2 [] .full)))⟩
    .done))
  (.seq (.seq (.reg (.one ⟨some s3, none, (.mv (.t s0))⟩
    (.one ⟨some s4, none, (.eqNil 0 false (.t s3))⟩
    .done)))
  (.cond (.t s4) (.seq (.reg (.one ⟨some s2, none, (.mv (.c (.slice 2 [] .full)))⟩
    .done))
  .ret) .skip))
  (.seq (.reg (.one ⟨some s5, none, (.row 2 [])⟩
    (.one ⟨some s6, none, (.mv (.t s0))⟩
    (.one ⟨some s7, none, (.app 2 16 (.t s5) (.t s6))⟩
    (.one ⟨some s2, none, (.mv (.t s7))⟩
    .done)))))
  .ret)))⟩
theorem ok80 : compF Try.prog c80 Try.f80 = some ir80 := by kernel_rfl
theorem k_spans_Span {args : List AVal} {σ : AHeap} {Q : AVal → AHeap → Prop} (hl : Nat.ble args.length 8 = true) (h : argsK (Env.full 9) 0 args fun env => evC Try.prog c80 ir80.body env σ (retQ ir80 Q)) : ACalls Try.prog 80 args σ Q :=
  acalls_of Try.func80 ok80 rfl (Nat.le_of_ble_eq_true hl) h
/- spans.Span] -/
def c81 : Cfg := ⟨qs, [], 19, [], ps⟩
def ir81 : IFun := ⟨2, [.tmp s4],
  (.seq (.reg (.one ⟨some s4, none, (.mv (.c (.v (.int .i64 0))))⟩
    .done))
  (.seq (.seq (.reg (.one ⟨some s6, none, (.mv (.t s0))⟩
    (.one ⟨some s7, none, (.len false (.t s6))⟩
    (.one ⟨some s8, none, (.mv (.c (.v (.int .i64 0))))⟩
    .done))))
  (.block 0 (.loop (.seq (.reg (.one ⟨some s9, none, (.bin false .lss (.t s8) (.t s7))⟩
    .done))
  (.seq (.cond (.t s9) .skip (.exit 0))
  (.seq (.block 1 (.seq (.reg (.one ⟨some s10, none, (.mv (.t s8))⟩
    (.one ⟨some s5, none, (.mv (.t s10))⟩
    .done)))
  (.seq (.reg (.one ⟨some s11, none, (.mv (.t s1))⟩
    (.one ⟨some s12, none, (.mv (.t s0))⟩
    (.one ⟨some s13, none, (.mv (.t s5))⟩
    (.one ⟨some s14, none, (.iaddr 2 (.t s12) (.t s13))⟩
    (.one ⟨some s15, none, (.load (some 2) (.t s14))⟩
    (.one ⟨some s16, none, (.callv (.t s11) [(.t s15)])⟩
    .done)))))))
  (.cond (.t s16) (.seq (.reg (.one ⟨some s17, none, (.mv (.t s5))⟩
    (.one ⟨some s4, none, (.mv (.t s17))⟩
    .done)))
  .ret) .skip))))
  (.reg (.one ⟨some s18, none, (.bin false .add (.t s8) (.c (.v (.int .i64 1))))⟩
    (.one ⟨some s8, none, (.mv (.t s18))⟩
    .done)))))))))
  (.seq (.reg (.one ⟨some s4, none, (.mv (.c (.v (.int .i64 (-1)))))⟩
    .done))
  .ret)))⟩
theorem ok81 : compF Try.prog c81 Try.f81 = some ir81 := by kernel_rfl
theorem k_slices_IndexFunc_spans_Span {args : List AVal} {σ : AHeap} {Q : AVal → AHeap → Prop} (hl : Nat.ble args.length 19 = true) (h : argsK (Env.full 9) 0 args fun env => evC Try.prog c81 ir81.body env σ (retQ ir81 Q)) : ACalls Try.prog 81 args σ Q :=
  acalls_of Try.func81 ok81 rfl (Nat.le_of_ble_eq_true hl) h
end Go.Proofs.Ytgbpjbpdpgbngaa
/-
  The bodies of one package, compiled to the framework's language (printed by a program of this session).
-/
namespace Go.Proofs.Ytgbpjbpdpgbngaa
open Go Go.Am
/- bits.Read -/
def c29 : Cfg := ⟨qs, [], 14, [], ps⟩
def ir29 : IFun := ⟨1, [.tmp s2],
  (.seq (.reg (.one ⟨some s2, none, (.mv (.c (.v (.pointer none))))⟩
    .done))
  (.seq (.reg (.one ⟨some s4, none, (.mv (.t s0))⟩
    (.one ⟨some s5, none, (.len false (.t s4))⟩
    (.one ⟨some s6, none, (.mxmn false (.t s5) (.c (.v (.int .i64 8192))))⟩
    (.one ⟨some s3, none, (.mv (.t s6))⟩
    .done)))))
  (.seq (.reg (.one ⟨some s7, none, (.mv (.t s0))⟩
    (.one ⟨some s8, none, (.mv (.t s3))⟩
    (.one ⟨some s9, none, (.mv (.t s3))⟩
    (.one ⟨some s10, none, (.cut 1 (.t s7) none (some (.t s8)) (some (.t s9)))⟩
    (.one ⟨some s11, none, (.callq 36 [(.t s10)])⟩
    (.one ⟨some s12, none, (.build [(.slice 1 [] .full), (.v (.int .i64 0))] [(0, 1, (.t s11))])⟩
    (.one ⟨some s13, none, (.box 2 (.t s12))⟩
    (.one ⟨some s2, none, (.mv (.t s13))⟩
    .done)))))))))
  .ret)))⟩
theorem ok29 : compF Try.prog c29 Try.f29 = some ir29 := by kernel_rfl
theorem k_bits_Read {args : List AVal} {σ : AHeap} {Q : AVal → AHeap → Prop} (hl : Nat.ble args.length 14 = true) (h : argsK (Env.full 9) 0 args fun env => evC Try.prog c29 ir29.body env σ (retQ ir29 Q)) : ACalls Try.prog 29 args σ Q :=
  acalls_of Try.func29 ok29 rfl (Nat.le_of_ble_eq_true hl) h
/- bits.New -/
def c52 : Cfg := ⟨qs, [], 3, [], ps⟩
def ir52 : IFun := ⟨0, [.tmp s0],
  (.seq (.reg (.one ⟨some s0, none, (.mv (.c (.v (.pointer none))))⟩
    .done))
  (.seq (.reg (.one ⟨some s1, none, (.build [(.slice 1 [] .full), (.v (.int .i64 0))] [])⟩
    (.one ⟨some s2, none, (.box 2 (.t s1))⟩
    (.one ⟨some s0, none, (.mv (.t s2))⟩
    .done))))
  .ret))⟩
theorem ok52 : compF Try.prog c52 Try.f52 = some ir52 := by kernel_rfl
theorem k_bits_New {args : List AVal} {σ : AHeap} {Q : AVal → AHeap → Prop} (hl : Nat.ble args.length 3 = true) (h : argsK (Env.full 9) 0 args fun env => evC Try.prog c52 ir52.body env σ (retQ ir52 Q)) : ACalls Try.prog 52 args σ Q :=
  acalls_of Try.func52 ok52 rfl (Nat.le_of_ble_eq_true hl) h
/- bits.Writer).Put -/
def c53 : Cfg := ⟨qs, [], 48, [], ps⟩
def ir53 : IFun := ⟨3, [.tmp s6],
  (.seq (.reg (.one ⟨some s6, none, (.mv (.c (.v (.int .i64 0))))⟩
    .done))
  (.scope (.seq (.block 0 (.seq (.reg (.one ⟨some s9, none, (.mv (.t s0))⟩
    (.one ⟨some s10, none, (.eqNil 1 false (.t s9))⟩
    (.one ⟨some s8, none, (.mv (.t s10))⟩
    .done))))
  (.cond (.t s8) (.seq (.reg (.one ⟨some s6, none, (.mv (.c (.v (.int .i64 6))))⟩
    .done))
  .ret) (.seq (.reg (.one ⟨some s12, none, (.mv (.t s2))⟩
    (.one ⟨some s13, none, (.bin false .lss (.t s12) (.c (.v (.int .i64 0))))⟩
    (.one ⟨some s14, none, (.mv (.t s13))⟩
    (.one ⟨some s15, some (s14, false), (.mv (.t s2))⟩
    (.one ⟨some s16, some (s14, false), (.bin false .gtr (.t s15) (.c (.v (.int .i64 64))))⟩
    (.one ⟨some s17, none, (.pick (.t s14) (.c (.v (.bool true))) (.t s16))⟩
    (.one ⟨some s18, none, (.mv (.t s17))⟩
    (.one ⟨some s19, some (s18, false), (.mv (.t s2))⟩
    (.one ⟨some s20, some (s18, false), (.bin false .lss (.t s19) (.c (.v (.int .i64 64))))⟩
    (.one ⟨some s21, some (s18, false), (.mv (.t s20))⟩
    (.one ⟨some s22, some (s21, true), (.mv (.t s1))⟩
    (.one ⟨some s23, some (s21, true), (.mv (.t s2))⟩
    (.one ⟨some s24, some (s21, true), (.bin false .shr (.t s22) (.t s23))⟩
    (.one ⟨some s25, some (s21, true), (.bin false .neq (.t s24) (.c (.v (.int .u64 0))))⟩
    (.one ⟨some s26, some (s18, false), (.pick (.t s21) (.t s25) (.c (.v (.bool false))))⟩
    (.one ⟨some s27, none, (.pick (.t s18) (.c (.v (.bool true))) (.t s26))⟩
    (.one ⟨some s11, none, (.mv (.t s27))⟩
    .done))))))))))))))))))
  (.cond (.t s11) (.seq (.reg (.one ⟨some s6, none, (.mv (.c (.v (.int .i64 1))))⟩
    .done))
  .ret) (.seq (.reg (.one ⟨some s29, none, (.mv (.t s2))⟩
    (.one ⟨some s30, none, (.mv (.t s0))⟩
    (.one ⟨some s31, none, (.nilchk (.t s30))⟩
    (.one ⟨some s32, none, (.faddr 1 (.t s31))⟩
    (.one ⟨some s33, none, (.load none (.t s32))⟩
    (.one ⟨some s34, none, (.bin false .sub (.c (.v (.int .i64 65536))) (.t s33))⟩
    (.one ⟨some s35, none, (.bin false .gtr (.t s29) (.t s34))⟩
    (.one ⟨some s28, none, (.mv (.t s35))⟩
    .done)))))))))
  (.cond (.t s28) (.seq (.reg (.one ⟨some s6, none, (.mv (.c (.v (.int .i64 5))))⟩
    .done))
  .ret) .skip)))))))
  (.seq (.reg (.one ⟨some s36, none, (.mv (.t s2))⟩
    (.one ⟨some s7, none, (.mv (.t s36))⟩
    .done)))
  (.seq (.label 0)
  (.seq (.seq (.reg (.one ⟨some s37, none, (.mv (.t s7))⟩
    (.one ⟨some s38, none, (.bin false .gtr (.t s37) (.c (.v (.int .i64 0))))⟩
    .done)))
  (.cond (.t s38) (.seq (.reg (.one ⟨some s39, none, (.mv (.t s7))⟩
    (.one ⟨some s40, none, (.bin false .sub (.t s39) (.c (.v (.int .i64 1))))⟩
    (.one ⟨some s7, none, (.mv (.t s40))⟩
    .done))))
  (.seq (.reg (.one ⟨some s41, none, (.mv (.t s0))⟩
    (.one ⟨some s42, none, (.mv (.t s1))⟩
    (.one ⟨some s43, none, (.mv (.t s7))⟩
    (.one ⟨some s44, none, (.bin false .shr (.t s42) (.t s43))⟩
    (.one ⟨some s45, none, (.bin false .and (.t s44) (.c (.v (.int .u64 1))))⟩
    (.one ⟨some s46, none, (.conv .u8 (.t s45))⟩
    (.one ⟨some s47, none, (.call 70 [(.t s41), (.t s46)])⟩
    .done))))))))
  (.goto 0))) .skip))
  (.seq (.reg (.one ⟨some s6, none, (.mv (.c (.v (.int .i64 0))))⟩
    .done))
  .ret)))))))⟩
theorem ok53 : compF Try.prog c53 Try.f53 = some ir53 := by kernel_rfl
theorem k_bits_Writer_Put {args : List AVal} {σ : AHeap} {Q : AVal → AHeap → Prop} (hl : Nat.ble args.length 48 = true) (h : argsK (Env.full 9) 0 args fun env => evC Try.prog c53 ir53.body env σ (retQ ir53 Q)) : ACalls Try.prog 53 args σ Q :=
  acalls_of Try.func53 ok53 rfl (Nat.le_of_ble_eq_true hl) h
/- bits.Writer).Bytes -/
def c55 : Cfg := ⟨qs, [], 10, [], ps⟩
def ir55 : IFun := ⟨1, [.tmp s2],
  (.seq (.reg (.one ⟨some s2, none, (.mv (.c (.slice 1 [] .full)))⟩
    .done))
  (.seq (.seq (.reg (.one ⟨some s3, none, (.mv (.t s0))⟩
    (.one ⟨some s4, none, (.eqNil 1 false (.t s3))⟩
    .done)))
  (.cond (.t s4) (.seq (.reg (.one ⟨some s2, none, (.mv (.c (.slice 1 [] .full)))⟩
    .done))
  .ret) .skip))
  (.seq (.reg (.one ⟨some s5, none, (.mv (.t s0))⟩
    (.one ⟨some s6, none, (.nilchk (.t s5))⟩
    (.one ⟨some s7, none, (.faddr 0 (.t s6))⟩
    (.one ⟨some s8, none, (.load none (.t s7))⟩
    (.one ⟨some s9, none, (.callq 36 [(.t s8)])⟩
    (.one ⟨some s2, none, (.mv (.t s9))⟩
    .done)))))))
  .ret)))⟩
theorem ok55 : compF Try.prog c55 Try.f55 = some ir55 := by kernel_rfl
theorem k_bits_Writer_Bytes {args : List AVal} {σ : AHeap} {Q : AVal → AHeap → Prop} (hl : Nat.ble args.length 10 = true) (h : argsK (Env.full 9) 0 args fun env => evC Try.prog c55 ir55.body env σ (retQ ir55 Q)) : ACalls Try.prog 55 args σ Q :=
  acalls_of Try.func55 ok55 rfl (Nat.le_of_ble_eq_true hl) h
/- bits.Reader).Get -/
def c57 : Cfg := ⟨qs, [], 66, [], ps⟩
def ir57 : IFun := ⟨2, [.tmp s4, .tmp s5],
  (.seq (.reg (.one ⟨some s4, none, (.mv (.c (.v (.int .u64 0))))⟩
    (.one ⟨some s5, none, (.mv (.c (.v (.int .i64 0))))⟩
    .done)))
  (.scope (.seq (.block 0 (.seq (.reg (.one ⟨some s9, none, (.mv (.t s0))⟩
    (.one ⟨some s10, none, (.eqNil 1 false (.t s9))⟩
    (.one ⟨some s8, none, (.mv (.t s10))⟩
    .done))))
  (.cond (.t s8) (.seq (.reg (.one ⟨some s4, none, (.mv (.c (.v (.int .u64 0))))⟩
    (.one ⟨some s5, none, (.mv (.c (.v (.int .i64 6))))⟩
    .done)))
  .ret) (.seq (.reg (.one ⟨some s12, none, (.mv (.t s1))⟩
    (.one ⟨some s13, none, (.bin false .lss (.t s12) (.c (.v (.int .i64 0))))⟩
    (.one ⟨some s14, none, (.mv (.t s13))⟩
    (.one ⟨some s15, some (s14, false), (.mv (.t s1))⟩
    (.one ⟨some s16, some (s14, false), (.bin false .gtr (.t s15) (.c (.v (.int .i64 64))))⟩
    (.one ⟨some s17, none, (.pick (.t s14) (.c (.v (.bool true))) (.t s16))⟩
    (.one ⟨some s11, none, (.mv (.t s17))⟩
    .done))))))))
  (.cond (.t s11) (.seq (.reg (.one ⟨some s4, none, (.mv (.c (.v (.int .u64 0))))⟩
    (.one ⟨some s5, none, (.mv (.c (.v (.int .i64 1))))⟩
    .done)))
  .ret) (.seq (.reg (.one ⟨some s19, none, (.mv (.t s1))⟩
    (.one ⟨some s20, none, (.mv (.t s0))⟩
    (.one ⟨some s21, none, (.callq 71 [(.t s20)])⟩
    (.one ⟨some s22, none, (.bin false .gtr (.t s19) (.t s21))⟩
    (.one ⟨some s18, none, (.mv (.t s22))⟩
    .done))))))
  (.cond (.t s18) (.seq (.reg (.one ⟨some s4, none, (.mv (.c (.v (.int .u64 0))))⟩
    (.one ⟨some s5, none, (.mv (.c (.v (.int .i64 8))))⟩
    .done)))
  .ret) .skip)))))))
  (.seq (.reg (.one ⟨some s6, none, (.mv (.c (.v (.int .u64 0))))⟩
    .done))
  (.seq (.reg (.one ⟨some s23, none, (.mv (.t s0))⟩
    (.one ⟨some s24, none, (.nilchk (.t s23))⟩
    (.one ⟨some s25, none, (.faddr 1 (.t s24))⟩
    (.one ⟨some s26, none, (.load none (.t s25))⟩
    (.one ⟨some s27, none, (.mv (.t s1))⟩
    (.one ⟨some s28, none, (.bin false .add (.t s26) (.t s27))⟩
    (.one ⟨some s7, none, (.mv (.t s28))⟩
    .done))))))))
  (.seq (.label 0)
  (.seq (.seq (.reg (.one ⟨some s29, none, (.mv (.t s0))⟩
    (.one ⟨some s30, none, (.nilchk (.t s29))⟩
    (.one ⟨some s31, none, (.faddr 1 (.t s30))⟩
    (.one ⟨some s32, none, (.load none (.t s31))⟩
    (.one ⟨some s33, none, (.mv (.t s7))⟩
    (.one ⟨some s34, none, (.bin false .lss (.t s32) (.t s33))⟩
    .done)))))))
  (.cond (.t s34) (.seq (.reg (.one ⟨some s35, none, (.mv (.t s6))⟩
    (.one ⟨some s36, none, (.bin false .shl (.t s35) (.c (.v (.int .u64 1))))⟩
    (.one ⟨some s37, none, (.mv (.t s0))⟩
    (.one ⟨some s38, none, (.nilchk (.t s37))⟩
    (.one ⟨some s39, none, (.faddr 0 (.t s38))⟩
    (.one ⟨some s40, none, (.load none (.t s39))⟩
    (.one ⟨some s41, none, (.mv (.t s0))⟩
    (.one ⟨some s42, none, (.nilchk (.t s41))⟩
    (.one ⟨some s43, none, (.faddr 1 (.t s42))⟩
    (.one ⟨some s44, none, (.load none (.t s43))⟩
    (.one ⟨some s45, none, (.bin false .quo (.t s44) (.c (.v (.int .i64 8))))⟩
    (.one ⟨some s46, none, (.iaddr 1 (.t s40) (.t s45))⟩
    (.one ⟨some s47, none, (.load none (.t s46))⟩
    (.one ⟨some s48, none, (.mv (.t s0))⟩
    (.one ⟨some s49, none, (.nilchk (.t s48))⟩
    (.one ⟨some s50, none, (.faddr 1 (.t s49))⟩
    (.one ⟨some s51, none, (.load none (.t s50))⟩
    (.one ⟨some s52, none, (.bin false .rem (.t s51) (.c (.v (.int .i64 8))))⟩
    (.one ⟨some s53, none, (.bin false .sub (.c (.v (.int .i64 7))) (.t s52))⟩
    (.one ⟨some s54, none, (.bin false .shr (.t s47) (.t s53))⟩
    (.one ⟨some s55, none, (.bin false .and (.t s54) (.c (.v (.int .u8 1))))⟩
    (.one ⟨some s56, none, (.conv .u64 (.t s55))⟩
    (.one ⟨some s57, none, (.bin false .or (.t s36) (.t s56))⟩
    (.one ⟨some s6, none, (.mv (.t s57))⟩
    .done)))))))))))))))))))))))))
  (.seq (.reg (.one ⟨some s58, none, (.mv (.t s0))⟩
    (.one ⟨some s59, none, (.nilchk (.t s58))⟩
    (.one ⟨some s60, none, (.faddr 1 (.t s59))⟩
    (.one ⟨some s61, none, (.load none (.t s60))⟩
    (.one ⟨some s62, none, (.bin false .add (.t s61) (.c (.v (.int .i64 1))))⟩
    (.one ⟨some s63, none, (.nilchk (.t s58))⟩
    (.one ⟨some s64, none, (.faddr 1 (.t s63))⟩
    (.one ⟨none, none, (.store 1 (.t s64) (.t s62))⟩
    .done)))))))))
  (.goto 0))) .skip))
  (.seq (.reg (.one ⟨some s65, none, (.mv (.t s6))⟩
    (.one ⟨some s4, none, (.mv (.t s65))⟩
    (.one ⟨some s5, none, (.mv (.c (.v (.int .i64 0))))⟩
    .done))))
  .ret))))))))⟩
theorem ok57 : compF Try.prog c57 Try.f57 = some ir57 := by kernel_rfl
theorem k_bits_Reader_Get {args : List AVal} {σ : AHeap} {Q : AVal → AHeap → Prop} (hl : Nat.ble args.length 66 = true) (h : argsK (Env.full 9) 0 args fun env => evC Try.prog c57 ir57.body env σ (retQ ir57 Q)) : ACalls Try.prog 57 args σ Q :=
  acalls_of Try.func57 ok57 rfl (Nat.le_of_ble_eq_true hl) h
/- bits.Reader).Rest -/
def c58 : Cfg := ⟨qs, [], 53, [], ps⟩
def ir58 : IFun := ⟨1, [.tmp s2, .tmp s3],
  (.seq (.reg (.one ⟨some s2, none, (.mv (.c (.slice 1 [] .full)))⟩
    (.one ⟨some s3, none, (.mv (.c (.v (.int .i64 0))))⟩
    .done)))
  (.seq (.seq (.reg (.one ⟨some s8, none, (.mv (.t s0))⟩
    (.one ⟨some s9, none, (.eqNil 1 false (.t s8))⟩
    .done)))
  (.cond (.t s9) (.seq (.reg (.one ⟨some s2, none, (.mv (.c (.slice 1 [] .full)))⟩
    (.one ⟨some s3, none, (.mv (.c (.v (.int .i64 6))))⟩
    .done)))
  .ret) .skip))
  (.seq (.reg (.one ⟨some s10, none, (.mv (.t s0))⟩
    (.one ⟨some s11, none, (.nilchk (.t s10))⟩
    (.one ⟨some s12, none, (.faddr 1 (.t s11))⟩
    (.one ⟨some s13, none, (.load none (.t s12))⟩
    (.one ⟨some s4, none, (.mv (.t s13))⟩
    .done))))))
  (.seq (.reg (.one ⟨some s15, none, (.mv (.t s0))⟩
    (.one ⟨some s16, none, (.mv (.t s0))⟩
    (.one ⟨some s17, none, (.nilchk (.t s16))⟩
    (.one ⟨some s18, none, (.faddr 1 (.t s17))⟩
    (.one ⟨some s19, none, (.load none (.t s18))⟩
    (.one ⟨some s20, none, (.bin false .rem (.t s19) (.c (.v (.int .i64 8))))⟩
    (.one ⟨some s21, none, (.bin false .sub (.c (.v (.int .i64 8))) (.t s20))⟩
    (.one ⟨some s22, none, (.bin false .rem (.t s21) (.c (.v (.int .i64 8))))⟩
    (.one ⟨some s23, none, (.call 57 [(.t s15), (.t s22)])⟩
    (.one ⟨some s14, none, (.mv (.t s23))⟩
    (.one ⟨some s24, none, (.ext (.t s14) 0)⟩
    (.one ⟨some s25, none, (.ext (.t s14) 1)⟩
    (.one ⟨some s5, none, (.mv (.t s24))⟩
    (.one ⟨some s6, none, (.mv (.t s25))⟩
    .done)))))))))))))))
  (.seq (.seq (.reg (.one ⟨some s26, none, (.mv (.t s5))⟩
    (.one ⟨some s27, none, (.bin false .neq (.t s26) (.c (.v (.int .u64 0))))⟩
    .done)))
  (.cond (.t s27) (.seq (.reg (.one ⟨some s28, none, (.mv (.t s0))⟩
    (.one ⟨some s29, none, (.mv (.t s4))⟩
    (.one ⟨some s30, none, (.nilchk (.t s28))⟩
    (.one ⟨some s31, none, (.faddr 1 (.t s30))⟩
    (.one ⟨none, none, (.store 1 (.t s31) (.t s29))⟩
    .done))))))
  (.seq (.reg (.one ⟨some s2, none, (.mv (.c (.slice 1 [] .full)))⟩
    (.one ⟨some s3, none, (.mv (.c (.v (.int .i64 3))))⟩
    .done)))
  .ret)) .skip))
  (.seq (.reg (.one ⟨some s32, none, (.mv (.t s0))⟩
    (.one ⟨some s33, none, (.nilchk (.t s32))⟩
    (.one ⟨some s34, none, (.faddr 0 (.t s33))⟩
    (.one ⟨some s35, none, (.load none (.t s34))⟩
    (.one ⟨some s36, none, (.mv (.t s0))⟩
    (.one ⟨some s37, none, (.nilchk (.t s36))⟩
    (.one ⟨some s38, none, (.faddr 1 (.t s37))⟩
    (.one ⟨some s39, none, (.load none (.t s38))⟩
    (.one ⟨some s40, none, (.bin false .quo (.t s39) (.c (.v (.int .i64 8))))⟩
    (.one ⟨some s41, none, (.cut 1 (.t s35) (some (.t s40)) none none)⟩
    (.one ⟨some s42, none, (.callq 36 [(.t s41)])⟩
    (.one ⟨some s7, none, (.mv (.t s42))⟩
    .done)))))))))))))
  (.seq (.reg (.one ⟨some s43, none, (.mv (.t s0))⟩
    (.one ⟨some s44, none, (.mv (.t s0))⟩
    (.one ⟨some s45, none, (.nilchk (.t s44))⟩
    (.one ⟨some s46, none, (.faddr 0 (.t s45))⟩
    (.one ⟨some s47, none, (.load none (.t s46))⟩
    (.one ⟨some s48, none, (.len false (.t s47))⟩
    (.one ⟨some s49, none, (.bin false .mul (.t s48) (.c (.v (.int .i64 8))))⟩
    (.one ⟨some s50, none, (.nilchk (.t s43))⟩
    (.one ⟨some s51, none, (.faddr 1 (.t s50))⟩
    (.one ⟨none, none, (.store 1 (.t s51) (.t s49))⟩
    .done)))))))))))
  (.seq (.reg (.one ⟨some s52, none, (.mv (.t s7))⟩
    (.one ⟨some s2, none, (.mv (.t s52))⟩
    (.one ⟨some s3, none, (.mv (.c (.v (.int .i64 0))))⟩
    .done))))
  .ret))))))))⟩
theorem ok58 : compF Try.prog c58 Try.f58 = some ir58 := by kernel_rfl
theorem k_bits_Reader_Rest {args : List AVal} {σ : AHeap} {Q : AVal → AHeap → Prop} (hl : Nat.ble args.length 53 = true) (h : argsK (Env.full 9) 0 args fun env => evC Try.prog c58 ir58.body env σ (retQ ir58 Q)) : ACalls Try.prog 58 args σ Q :=
  acalls_of Try.func58 ok58 rfl (Nat.le_of_ble_eq_true hl) h
/- bits.Writer).one -/
def c70m : Cfg := ⟨qs, [22, 25, 26, 52, 109], 47, [], ps⟩
def ir70m : IFun := ⟨2, [],
  (.seq (.seq (.reg (.one ⟨some s4, none, (.mv (.t s0))⟩
    (.one ⟨some s5, none, (.nilchk (.t s4))⟩
    (.one ⟨some s6, none, (.faddr 1 (.t s5))⟩
    (.one ⟨some s7, none, (.load none (.t s6))⟩
    (.one ⟨some s8, none, (.bin false .rem (.t s7) (.c (.v (.int .i64 8))))⟩
    (.one ⟨some s9, none, (.bin false .eql (.t s8) (.c (.v (.int .i64 0))))⟩
    .done)))))))
  (.cond (.t s9) (.reg (.one ⟨some s10, none, (.mv (.t s0))⟩
    (.one ⟨some s11, none, (.mv (.t s0))⟩
    (.one ⟨some s12, none, (.nilchk (.t s11))⟩
    (.one ⟨some s13, none, (.faddr 0 (.t s12))⟩
    (.one ⟨some s14, none, (.load none (.t s13))⟩
    (.one ⟨some s15, none, (.row 1 [(.c (.v (.int .u8 0)))])⟩
    (.one ⟨some s16, none, (.appm 1 1 (.t s14) (.t s15))⟩
    (.one ⟨some s17, none, (.nilchk (.t s10))⟩
    (.one ⟨some s18, none, (.faddr 0 (.t s17))⟩
    (.one ⟨none, none, (.store 1 (.t s18) (.t s16))⟩
    .done))))))))))) .skip))
  (.seq (.reg (.one ⟨some s19, none, (.mv (.t s0))⟩
    (.one ⟨some s20, none, (.nilchk (.t s19))⟩
    (.one ⟨some s21, none, (.faddr 0 (.t s20))⟩
    (.one ⟨some s22, none, (.load none (.t s21))⟩
    (.one ⟨some s23, none, (.mv (.t s0))⟩
    (.one ⟨some s24, none, (.nilchk (.t s23))⟩
    (.one ⟨some s25, none, (.faddr 1 (.t s24))⟩
    (.one ⟨some s26, none, (.load none (.t s25))⟩
    (.one ⟨some s27, none, (.bin false .quo (.t s26) (.c (.v (.int .i64 8))))⟩
    (.one ⟨some s28, none, (.iaddr 1 (.t s22) (.t s27))⟩
    (.one ⟨some s29, none, (.load none (.t s28))⟩
    (.one ⟨some s30, none, (.mv (.t s1))⟩
    (.one ⟨some s31, none, (.mv (.t s0))⟩
    (.one ⟨some s32, none, (.nilchk (.t s31))⟩
    (.one ⟨some s33, none, (.faddr 1 (.t s32))⟩
    (.one ⟨some s34, none, (.load none (.t s33))⟩
    (.one ⟨some s35, none, (.bin false .rem (.t s34) (.c (.v (.int .i64 8))))⟩
    (.one ⟨some s36, none, (.bin false .sub (.c (.v (.int .i64 7))) (.t s35))⟩
    (.one ⟨some s37, none, (.bin false .shl (.t s30) (.t s36))⟩
    (.one ⟨some s38, none, (.bin false .or (.t s29) (.t s37))⟩
    (.one ⟨some s39, none, (.iaddr 1 (.t s22) (.t s27))⟩
    (.one ⟨none, none, (.store 1 (.t s39) (.t s38))⟩
    .done)))))))))))))))))))))))
  (.reg (.one ⟨some s40, none, (.mv (.t s0))⟩
    (.one ⟨some s41, none, (.nilchk (.t s40))⟩
    (.one ⟨some s42, none, (.faddr 1 (.t s41))⟩
    (.one ⟨some s43, none, (.load none (.t s42))⟩
    (.one ⟨some s44, none, (.bin false .add (.t s43) (.c (.v (.int .i64 1))))⟩
    (.one ⟨some s45, none, (.nilchk (.t s40))⟩
    (.one ⟨some s46, none, (.faddr 1 (.t s45))⟩
    (.one ⟨none, none, (.store 1 (.t s46) (.t s44))⟩
    .done)))))))))))⟩
theorem ok70m : compF Try.prog c70m Try.f70 = some ir70m := by kernel_rfl
theorem km_bits_Writer_one {args : List AVal} {σ : AHeap} {Q : AVal → AHeap → Prop} (hl : Nat.ble args.length 47 = true) (h : argsK (Env.full 9) 0 args fun env => evC Try.prog c70m ir70m.body env σ (retQ ir70m Q)) : ACalls Try.prog 70 args σ Q :=
  acalls_of Try.func70 ok70m rfl (Nat.le_of_ble_eq_true hl) h
/- bits.Reader).Left -/
def c71 : Cfg := ⟨qs, [], 16, [], ps⟩
def ir71 : IFun := ⟨1, [.tmp s2],
  (.seq (.reg (.one ⟨some s2, none, (.mv (.c (.v (.int .i64 0))))⟩
    .done))
  (.seq (.seq (.reg (.one ⟨some s3, none, (.mv (.t s0))⟩
    (.one ⟨some s4, none, (.eqNil 1 false (.t s3))⟩
    .done)))
  (.cond (.t s4) (.seq (.reg (.one ⟨some s2, none, (.mv (.c (.v (.int .i64 0))))⟩
    .done))
  .ret) .skip))
  (.seq (.reg (.one ⟨some s5, none, (.mv (.t s0))⟩
    (.one ⟨some s6, none, (.nilchk (.t s5))⟩
    (.one ⟨some s7, none, (.faddr 0 (.t s6))⟩
    (.one ⟨some s8, none, (.load none (.t s7))⟩
    (.one ⟨some s9, none, (.len false (.t s8))⟩
    (.one ⟨some s10, none, (.bin false .mul (.t s9) (.c (.v (.int .i64 8))))⟩
    (.one ⟨some s11, none, (.mv (.t s0))⟩
    (.one ⟨some s12, none, (.nilchk (.t s11))⟩
    (.one ⟨some s13, none, (.faddr 1 (.t s12))⟩
    (.one ⟨some s14, none, (.load none (.t s13))⟩
    (.one ⟨some s15, none, (.bin false .sub (.t s10) (.t s14))⟩
    (.one ⟨some s2, none, (.mv (.t s15))⟩
    .done)))))))))))))
  .ret)))⟩
theorem ok71 : compF Try.prog c71 Try.f71 = some ir71 := by kernel_rfl
theorem k_bits_Reader_Left {args : List AVal} {σ : AHeap} {Q : AVal → AHeap → Prop} (hl : Nat.ble args.length 16 = true) (h : argsK (Env.full 9) 0 args fun env => evC Try.prog c71 ir71.body env σ (retQ ir71 Q)) : ACalls Try.prog 71 args σ Q :=
  acalls_of Try.func71 ok71 rfl (Nat.le_of_ble_eq_true hl) h
end Go.Proofs.Ytgbpjbpdpgbngaa
/-
  The bodies of one package, compiled to the framework's language (printed by a program of this session).
-/
namespace Go.Proofs.Ytgbpjbpdpgbngaa
open Go Go.Am
/- seqnum.Space).Is -/
def c48 : Cfg := ⟨qs, [], 13, [], ps⟩
def ir48 : IFun := ⟨2, [.tmp s4],
  (.seq (.reg (.one ⟨some s2, none, (.box 1 (.t s0))⟩
    (.one ⟨some s4, none, (.mv (.c (.v (.bool false))))⟩
    .done)))
  (.seq (.reg (.one ⟨some s5, none, (.mv (.t s1))⟩
    (.one ⟨some s6, none, (.bin false .geq (.t s5) (.c (.v (.int .i64 0))))⟩
    (.one ⟨some s7, none, (.mv (.t s6))⟩
    (.one ⟨some s8, some (s7, true), (.mv (.t s1))⟩
    (.one ⟨some s9, some (s7, true), (.load (some 1) (.t s2))⟩
    (.one ⟨some s10, some (s7, true), (.callq 69 [(.t s9)])⟩
    (.one ⟨some s11, some (s7, true), (.bin false .lss (.t s8) (.t s10))⟩
    (.one ⟨some s12, none, (.pick (.t s7) (.t s11) (.c (.v (.bool false))))⟩
    (.one ⟨some s4, none, (.mv (.t s12))⟩
    .done))))))))))
  .ret))⟩
theorem ok48 : compF Try.prog c48 Try.f48 = some ir48 := by kernel_rfl
theorem k_seqnum_Space_Is {args : List AVal} {σ : AHeap} {Q : AVal → AHeap → Prop} (hl : Nat.ble args.length 13 = true) (h : argsK (Env.full 9) 0 args fun env => evC Try.prog c48 ir48.body env σ (retQ ir48 Q)) : ACalls Try.prog 48 args σ Q :=
  acalls_of Try.func48 ok48 rfl (Nat.le_of_ble_eq_true hl) h
/- seqnum.Space).Size -/
def c69 : Cfg := ⟨qs, [], 9, [], ps⟩
def ir69 : IFun := ⟨1, [.tmp s2],
  (.seq (.reg (.one ⟨some s1, none, (.box 1 (.t s0))⟩
    (.one ⟨some s2, none, (.mv (.c (.v (.int .i64 0))))⟩
    .done)))
  (.seq (.seq (.reg (.one ⟨some s3, none, (.load (some 1) (.t s1))⟩
    (.one ⟨some s4, none, (.callq 79 [(.t s3)])⟩
    (.one ⟨some s5, none, (.not (.t s4))⟩
    .done))))
  (.cond (.t s5) (.seq (.reg (.one ⟨some s2, none, (.mv (.c (.v (.int .i64 0))))⟩
    .done))
  .ret) .skip))
  (.seq (.reg (.one ⟨some s6, none, (.faddr 0 (.t s1))⟩
    (.one ⟨some s7, none, (.load none (.t s6))⟩
    (.one ⟨some s8, none, (.bin false .shl (.c (.v (.int .i64 1))) (.t s7))⟩
    (.one ⟨some s2, none, (.mv (.t s8))⟩
    .done)))))
  .ret)))⟩
theorem ok69 : compF Try.prog c69 Try.f69 = some ir69 := by kernel_rfl
theorem k_seqnum_Space_Size {args : List AVal} {σ : AHeap} {Q : AVal → AHeap → Prop} (hl : Nat.ble args.length 9 = true) (h : argsK (Env.full 9) 0 args fun env => evC Try.prog c69 ir69.body env σ (retQ ir69 Q)) : ACalls Try.prog 69 args σ Q :=
  acalls_of Try.func69 ok69 rfl (Nat.le_of_ble_eq_true hl) h
/- seqnum.Right -/
def c79 : Cfg := ⟨qs, [], 16, [], ps⟩
def ir79 : IFun := ⟨1, [.tmp s2],
  (.seq (.reg (.one ⟨some s1, none, (.box 1 (.t s0))⟩
    (.one ⟨some s2, none, (.mv (.c (.v (.bool false))))⟩
    .done)))
  (.seq (.reg (.one ⟨some s3, none, (.load (some 1) (.t s1))⟩
    (.one ⟨some s4, none, (.build [(.v (.int .i64 0))] [])⟩
    (.one ⟨some s5, none, (.eqAgg true [false] (.t s3) (.t s4))⟩
    (.one ⟨some s6, none, (.mv (.t s5))⟩
    (.one ⟨some s7, some (s6, true), (.faddr 0 (.t s1))⟩
    (.one ⟨some s8, some (s6, true), (.load none (.t s7))⟩
    (.one ⟨some s9, some (s6, true), (.bin false .geq (.t s8) (.c (.v (.int .i64 1))))⟩
    (.one ⟨some s10, none, (.pick (.t s6) (.t s9) (.c (.v (.bool false))))⟩
    (.one ⟨some s11, none, (.mv (.t s10))⟩
    (.one ⟨some s12, some (s11, true), (.faddr 0 (.t s1))⟩
    (.one ⟨some s13, some (s11, true), (.load none (.t s12))⟩
    (.one ⟨some s14, some (s11, true), (.bin false .leq (.t s13) (.c (.v (.int .i64 16))))⟩
    (.one ⟨some s15, none, (.pick (.t s11) (.t s14) (.c (.v (.bool false))))⟩
    (.one ⟨some s2, none, (.mv (.t s15))⟩
    .done)))))))))))))))
  .ret))⟩
theorem ok79 : compF Try.prog c79 Try.f79 = some ir79 := by kernel_rfl
theorem k_seqnum_Right {args : List AVal} {σ : AHeap} {Q : AVal → AHeap → Prop} (hl : Nat.ble args.length 16 = true) (h : argsK (Env.full 9) 0 args fun env => evC Try.prog c79 ir79.body env σ (retQ ir79 Q)) : ACalls Try.prog 79 args σ Q :=
  acalls_of Try.func79 ok79 rfl (Nat.le_of_ble_eq_true hl) h
end Go.Proofs.Ytgbpjbpdpgbngaa
/-
  The bodies of one package, compiled to the framework's language (printed by a program of this session).
-/
namespace Go.Proofs.Ytgbpjbpdpgbngaa
open Go Go.Am
/- amd.Right -/
def c4 : Cfg := ⟨qs, [], 9, [], ps⟩
def ir4 : IFun := ⟨2, [.tmp s4],
  (.seq (.reg (.one ⟨some s2, none, (.box 7 (.t s0))⟩
    (.one ⟨some s4, none, (.mv (.c (.v (.bool false))))⟩
    .done)))
  (.seq (.reg (.one ⟨some s5, none, (.load (some 7) (.t s2))⟩
    (.one ⟨some s6, none, (.mv (.t s1))⟩
    (.one ⟨some s7, none, (.callq 18 [(.t s5), (.t s6)])⟩
    (.one ⟨some s8, none, (.bin false .gtr (.t s7) (.c (.v (.int .i64 0))))⟩
    (.one ⟨some s4, none, (.mv (.t s8))⟩
    .done))))))
  .ret))⟩
theorem ok4 : compF Try.prog c4 Try.f4 = some ir4 := by kernel_rfl
theorem k_amd_Right {args : List AVal} {σ : AHeap} {Q : AVal → AHeap → Prop} (hl : Nat.ble args.length 9 = true) (h : argsK (Env.full 9) 0 args fun env => evC Try.prog c4 ir4.body env σ (retQ ir4 Q)) : ACalls Try.prog 4 args σ Q :=
  acalls_of Try.func4 ok4 rfl (Nat.le_of_ble_eq_true hl) h
/- amd.Data -/
def c6 : Cfg := ⟨qs, [], 6, [], ps⟩
def ir6 : IFun := ⟨1, [.tmp s2],
  (.seq (.reg (.one ⟨some s1, none, (.box 7 (.t s0))⟩
    (.one ⟨some s2, none, (.mv (.c (.slice 1 [] .full)))⟩
    .done)))
  (.seq (.reg (.one ⟨some s3, none, (.faddr 6 (.t s1))⟩
    (.one ⟨some s4, none, (.load none (.t s3))⟩
    (.one ⟨some s5, none, (.callq 19 [(.t s4), (.c (.slice 1 [] .full))])⟩
    (.one ⟨some s2, none, (.mv (.t s5))⟩
    .done)))))
  .ret))⟩
theorem ok6 : compF Try.prog c6 Try.f6 = some ir6 := by kernel_rfl
theorem k_amd_Data {args : List AVal} {σ : AHeap} {Q : AVal → AHeap → Prop} (hl : Nat.ble args.length 6 = true) (h : argsK (Env.full 9) 0 args fun env => evC Try.prog c6 ir6.body env σ (retQ ir6 Q)) : ACalls Try.prog 6 args σ Q :=
  acalls_of Try.func6 ok6 rfl (Nat.le_of_ble_eq_true hl) h
/- amd.Write -/
def c9 : Cfg := ⟨qs, [], 62, [], ps⟩
def ir9 : IFun := ⟨2, [.tmp s4, .tmp s5],
  (.seq (.reg (.one ⟨some s2, none, (.box 7 (.t s0))⟩
    (.one ⟨some s4, none, (.mv (.c (.slice 1 [] .full)))⟩
    (.one ⟨some s5, none, (.mv (.c (.v (.int .i64 0))))⟩
    .done))))
  (.seq (.block 0 (.seq (.reg (.one ⟨some s13, none, (.mv (.t s1))⟩
    (.one ⟨some s14, none, (.callq 24 [(.t s13)])⟩
    (.one ⟨some s15, none, (.not (.t s14))⟩
    (.one ⟨some s12, none, (.mv (.t s15))⟩
    .done)))))
  (.cond (.t s12) (.seq (.reg (.one ⟨some s4, none, (.mv (.c (.slice 1 [] .full)))⟩
    (.one ⟨some s5, none, (.mv (.c (.v (.int .i64 9))))⟩
    .done)))
  .ret) (.seq (.reg (.one ⟨some s17, none, (.load (some 7) (.t s2))⟩
    (.one ⟨some s18, none, (.mv (.t s1))⟩
    (.one ⟨some s19, none, (.callq 4 [(.t s17), (.t s18)])⟩
    (.one ⟨some s20, none, (.not (.t s19))⟩
    (.one ⟨some s16, none, (.mv (.t s20))⟩
    .done))))))
  (.cond (.t s16) (.seq (.reg (.one ⟨some s4, none, (.mv (.c (.slice 1 [] .full)))⟩
    (.one ⟨some s5, none, (.mv (.c (.v (.int .i64 3))))⟩
    .done)))
  .ret) .skip)))))
  (.seq (.reg (.one ⟨some s21, none, (.load (some 7) (.t s2))⟩
    (.one ⟨some s22, none, (.mv (.t s1))⟩
    (.one ⟨some s23, none, (.callq 25 [(.t s21), (.t s22)])⟩
    (.one ⟨some s6, none, (.mv (.t s23))⟩
    .done)))))
  (.seq (.reg (.one ⟨some s7, none, (.mv (.c (.slice 1 [] .full)))⟩
    .done))
  (.seq (.seq (.reg (.one ⟨some s24, none, (.faddr 6 (.t s2))⟩
    (.one ⟨some s25, none, (.load none (.t s24))⟩
    (.one ⟨some s26, none, (.faddr 6 (.t s2))⟩
    (.one ⟨some s27, none, (.load none (.t s26))⟩
    (.one ⟨some s28, none, (.len false (.t s27))⟩
    (.one ⟨some s29, none, (.bin false .sub (.t s28) (.c (.v (.int .i64 1))))⟩
    (.one ⟨some s30, none, (.cut 1 (.t s25) none (some (.t s29)) none)⟩
    (.one ⟨some s31, none, (.len false (.t s30))⟩
    (.one ⟨some s32, none, (.mv (.c (.v (.int .i64 0))))⟩
    .done))))))))))
  (.block 1 (.loop (.seq (.reg (.one ⟨some s33, none, (.bin false .lss (.t s32) (.t s31))⟩
    .done))
  (.seq (.cond (.t s33) .skip (.exit 1))
  (.seq (.block 2 (.seq (.reg (.one ⟨some s34, none, (.iaddr 1 (.t s30) (.t s32))⟩
    (.one ⟨some s35, none, (.load none (.t s34))⟩
    (.one ⟨some s9, none, (.mv (.t s35))⟩
    .done))))
  (.reg (.one ⟨some s36, none, (.mv (.t s7))⟩
    (.one ⟨some s37, none, (.mv (.t s9))⟩
    (.one ⟨some s38, none, (.len false (.t s37))⟩
    (.one ⟨some s39, none, (.row 1 [(.t s38)])⟩
    (.one ⟨some s40, none, (.app 1 8 (.t s36) (.t s39))⟩
    (.one ⟨some s7, none, (.mv (.t s40))⟩
    .done)))))))))
  (.reg (.one ⟨some s41, none, (.bin false .add (.t s32) (.c (.v (.int .i64 1))))⟩
    (.one ⟨some s32, none, (.mv (.t s41))⟩
    .done)))))))))
  (.seq (.seq (.reg (.one ⟨some s42, none, (.mv (.t s7))⟩
    (.one ⟨some s43, none, (.len false (.t s42))⟩
    (.one ⟨some s44, none, (.bin false .gtr (.t s43) (.c (.v (.int .i64 0))))⟩
    .done))))
  (.cond (.t s44) (.seq (.reg (.one ⟨some s46, none, (.mv (.t s7))⟩
    (.one ⟨some s47, none, (.mv (.t s1))⟩
    (.one ⟨some s48, none, (.callq 27 [(.t s47)])⟩
    (.one ⟨some s49, none, (.callq 26 [(.t s46), (.t s48)])⟩
    (.one ⟨some s45, none, (.mv (.t s49))⟩
    (.one ⟨some s50, none, (.ext (.t s45) 0)⟩
    (.one ⟨some s51, none, (.ext (.t s45) 1)⟩
    (.one ⟨some s10, none, (.mv (.t s50))⟩
    (.one ⟨some s11, none, (.mv (.t s51))⟩
    .done))))))))))
  (.seq (.seq (.reg (.one ⟨some s52, none, (.mv (.t s11))⟩
    (.one ⟨some s53, none, (.bin false .neq (.t s52) (.c (.v (.int .i64 0))))⟩
    .done)))
  (.cond (.t s53) (.seq (.reg (.one ⟨some s54, none, (.mv (.t s11))⟩
    (.one ⟨some s4, none, (.mv (.c (.slice 1 [] .full)))⟩
    (.one ⟨some s5, none, (.mv (.t s54))⟩
    .done))))
  .ret) .skip))
  (.reg (.one ⟨some s55, none, (.mv (.t s6))⟩
    (.one ⟨some s56, none, (.mv (.t s10))⟩
    (.one ⟨some s57, none, (.app 1 1 (.t s55) (.t s56))⟩
    (.one ⟨some s6, none, (.mv (.t s57))⟩
    .done))))))) .skip))
  (.seq (.reg (.one ⟨some s58, none, (.mv (.t s6))⟩
    (.one ⟨some s59, none, (.load (some 7) (.t s2))⟩
    (.one ⟨some s60, none, (.callq 6 [(.t s59)])⟩
    (.one ⟨some s61, none, (.app 1 1 (.t s58) (.t s60))⟩
    (.one ⟨some s4, none, (.mv (.t s61))⟩
    (.one ⟨some s5, none, (.mv (.c (.v (.int .i64 0))))⟩
    .done)))))))
  .ret)))))))⟩
theorem ok9 : compF Try.prog c9 Try.f9 = some ir9 := by kernel_rfl
theorem k_amd_Write {args : List AVal} {σ : AHeap} {Q : AVal → AHeap → Prop} (hl : Nat.ble args.length 62 = true) (h : argsK (Env.full 9) 0 args fun env => evC Try.prog c9 ir9.body env σ (retQ ir9 Q)) : ACalls Try.prog 9 args σ Q :=
  acalls_of Try.func9 ok9 rfl (Nat.le_of_ble_eq_true hl) h
/- amd.Read -/
def c11 : Cfg := ⟨qs, [], 97, [], ps⟩
def ir11 : IFun := ⟨2, [.cell s4 (some 7), .tmp s5],
  (.seq (.reg (.one ⟨some s4, none, (.new [(.v (.bool false)), (.v (.int .i64 0)), (.v (.int .i64 0)), (.v (.bool false)), (.v (.bool false)), (.v (.int .i64 0)), (.slice 1 [] .full)])⟩
    (.one ⟨some s5, none, (.mv (.c (.v (.int .i64 0))))⟩
    .done)))
  (.seq (.block 0 (.seq (.reg (.one ⟨some s18, none, (.mv (.t s1))⟩
    (.one ⟨some s19, none, (.callq 24 [(.t s18)])⟩
    (.one ⟨some s20, none, (.not (.t s19))⟩
    (.one ⟨some s17, none, (.mv (.t s20))⟩
    .done)))))
  (.cond (.t s17) (.seq (.reg (.one ⟨some s21, none, (.build [(.v (.bool false)), (.v (.int .i64 0)), (.v (.int .i64 0)), (.v (.bool false)), (.v (.bool false)), (.v (.int .i64 0)), (.slice 1 [] .full)] [])⟩
    (.one ⟨none, none, (.store 7 (.t s4) (.t s21))⟩
    (.one ⟨some s5, none, (.mv (.c (.v (.int .i64 9))))⟩
    .done))))
  .ret) (.seq (.reg (.one ⟨some s23, none, (.mv (.t s0))⟩
    (.one ⟨some s24, none, (.len false (.t s23))⟩
    (.one ⟨some s25, none, (.bin false .gtr (.t s24) (.c (.v (.int .i64 4000))))⟩
    (.one ⟨some s22, none, (.mv (.t s25))⟩
    .done)))))
  (.cond (.t s22) (.seq (.reg (.one ⟨some s26, none, (.build [(.v (.bool false)), (.v (.int .i64 0)), (.v (.int .i64 0)), (.v (.bool false)), (.v (.bool false)), (.v (.int .i64 0)), (.slice 1 [] .full)] [])⟩
    (.one ⟨none, none, (.store 7 (.t s4) (.t s26))⟩
    (.one ⟨some s5, none, (.mv (.c (.v (.int .i64 2))))⟩
    .done))))
  .ret) (.seq (.reg (.one ⟨some s28, none, (.mv (.t s0))⟩
    (.one ⟨some s29, none, (.len false (.t s28))⟩
    (.one ⟨some s30, none, (.bin false .eql (.t s29) (.c (.v (.int .i64 0))))⟩
    (.one ⟨some s27, none, (.mv (.t s30))⟩
    .done)))))
  (.cond (.t s27) (.seq (.reg (.one ⟨some s31, none, (.build [(.v (.bool false)), (.v (.int .i64 0)), (.v (.int .i64 0)), (.v (.bool false)), (.v (.bool false)), (.v (.int .i64 0)), (.slice 1 [] .full)] [])⟩
    (.one ⟨none, none, (.store 7 (.t s4) (.t s31))⟩
    (.one ⟨some s5, none, (.mv (.c (.v (.int .i64 8))))⟩
    .done))))
  .ret) (.seq (.reg (.one ⟨some s33, none, (.mv (.t s0))⟩
    (.one ⟨some s34, none, (.iaddr 1 (.t s33) (.c (.v (.int .i64 0))))⟩
    (.one ⟨some s35, none, (.load none (.t s34))⟩
    (.one ⟨some s36, none, (.bin false .and (.t s35) (.c (.v (.int .u8 128))))⟩
    (.one ⟨some s37, none, (.bin false .eql (.t s36) (.c (.v (.int .u8 0))))⟩
    (.one ⟨some s32, none, (.mv (.t s37))⟩
    .done)))))))
  (.cond (.t s32) (.seq (.reg (.one ⟨some s38, none, (.build [(.v (.bool false)), (.v (.int .i64 0)), (.v (.int .i64 0)), (.v (.bool false)), (.v (.bool false)), (.v (.int .i64 0)), (.slice 1 [] .full)] [])⟩
    (.one ⟨none, none, (.store 7 (.t s4) (.t s38))⟩
    (.one ⟨some s5, none, (.mv (.c (.v (.int .i64 4))))⟩
    .done))))
  .ret) .skip)))))))))
  (.seq (.reg (.one ⟨some s39, none, (.mv (.t s0))⟩
    (.one ⟨some s40, none, (.iaddr 1 (.t s39) (.c (.v (.int .i64 0))))⟩
    (.one ⟨some s41, none, (.load none (.t s40))⟩
    (.one ⟨some s42, none, (.bin false .and (.t s41) (.c (.v (.int .u8 64))))⟩
    (.one ⟨some s43, none, (.bin false .neq (.t s42) (.c (.v (.int .u8 0))))⟩
    (.one ⟨some s44, none, (.mv (.t s1))⟩
    (.one ⟨some s45, none, (.callq 21 [(.t s43), (.t s44)])⟩
    (.one ⟨some s6, none, (.mv (.t s45))⟩
    .done)))))))))
  (.seq (.seq (.reg (.one ⟨some s46, none, (.mv (.t s0))⟩
    (.one ⟨some s47, none, (.len false (.t s46))⟩
    (.one ⟨some s48, none, (.mv (.t s6))⟩
    (.one ⟨some s49, none, (.bin false .lss (.t s47) (.t s48))⟩
    .done)))))
  (.cond (.t s49) (.seq (.reg (.one ⟨some s50, none, (.build [(.v (.bool false)), (.v (.int .i64 0)), (.v (.int .i64 0)), (.v (.bool false)), (.v (.bool false)), (.v (.int .i64 0)), (.slice 1 [] .full)] [])⟩
    (.one ⟨none, none, (.store 7 (.t s4) (.t s50))⟩
    (.one ⟨some s5, none, (.mv (.c (.v (.int .i64 8))))⟩
    .done))))
  .ret) .skip))
  (.seq (.reg (.one ⟨some s52, none, (.mv (.t s0))⟩
    (.one ⟨some s53, none, (.mv (.t s6))⟩
    (.one ⟨some s54, none, (.cut 1 (.t s52) none (some (.t s53)) none)⟩
    (.one ⟨some s55, none, (.callq 29 [(.t s54)])⟩
    (.one ⟨some s56, none, (.mv (.t s1))⟩
    (.one ⟨some s57, none, (.call 28 [(.t s55), (.t s56)])⟩
    (.one ⟨some s51, none, (.mv (.t s57))⟩
    (.one ⟨some s58, none, (.ext (.t s51) 0)⟩
    (.one ⟨some s59, none, (.ext (.t s51) 1)⟩
    (.one ⟨some s60, none, (.ext (.t s51) 2)⟩
    (.one ⟨some s7, none, (.new [(.v (.bool false)), (.v (.int .i64 0)), (.v (.int .i64 0)), (.v (.bool false)), (.v (.bool false)), (.v (.int .i64 0)), (.slice 1 [] .full)])⟩
    (.one ⟨none, none, (.store 7 (.t s7) (.t s58))⟩
    (.one ⟨some s8, none, (.mv (.t s59))⟩
    (.one ⟨some s9, none, (.mv (.t s60))⟩
    .done)))))))))))))))
  (.seq (.seq (.reg (.one ⟨some s61, none, (.mv (.t s9))⟩
    (.one ⟨some s62, none, (.not (.t s61))⟩
    .done)))
  (.cond (.t s62) (.seq (.reg (.one ⟨some s63, none, (.build [(.v (.bool false)), (.v (.int .i64 0)), (.v (.int .i64 0)), (.v (.bool false)), (.v (.bool false)), (.v (.int .i64 0)), (.slice 1 [] .full)] [])⟩
    (.one ⟨none, none, (.store 7 (.t s4) (.t s63))⟩
    (.one ⟨some s5, none, (.mv (.c (.v (.int .i64 3))))⟩
    .done))))
  .ret) .skip))
  (.seq (.reg (.one ⟨some s64, none, (.mv (.t s0))⟩
    (.one ⟨some s65, none, (.mv (.t s6))⟩
    (.one ⟨some s66, none, (.cut 1 (.t s64) (some (.t s65)) none none)⟩
    (.one ⟨some s10, none, (.mv (.t s66))⟩
    .done)))))
  (.seq (.reg (.one ⟨some s11, none, (.mv (.c (.slice 1 [] .full)))⟩
    .done))
  (.seq (.seq (.reg (.one ⟨some s67, none, (.mv (.t s8))⟩
    .done))
  (.cond (.t s67) (.seq (.reg (.one ⟨some s69, none, (.mv (.t s10))⟩
    (.one ⟨some s70, none, (.mv (.t s1))⟩
    (.one ⟨some s71, none, (.callq 27 [(.t s70)])⟩
    (.one ⟨some s72, none, (.callq 30 [(.t s69), (.t s71)])⟩
    (.one ⟨some s68, none, (.mv (.t s72))⟩
    (.one ⟨some s73, none, (.ext (.t s68) 0)⟩
    (.one ⟨some s74, none, (.ext (.t s68) 1)⟩
    (.one ⟨some s75, none, (.ext (.t s68) 2)⟩
    (.one ⟨some s12, none, (.mv (.t s73))⟩
    (.one ⟨some s13, none, (.mv (.t s74))⟩
    (.one ⟨some s14, none, (.mv (.t s75))⟩
    .done))))))))))))
  (.seq (.seq (.reg (.one ⟨some s76, none, (.mv (.t s14))⟩
    (.one ⟨some s77, none, (.bin false .neq (.t s76) (.c (.v (.int .i64 0))))⟩
    .done)))
  (.cond (.t s77) (.seq (.reg (.one ⟨some s78, none, (.build [(.v (.bool false)), (.v (.int .i64 0)), (.v (.int .i64 0)), (.v (.bool false)), (.v (.bool false)), (.v (.int .i64 0)), (.slice 1 [] .full)] [])⟩
    (.one ⟨some s79, none, (.mv (.t s14))⟩
    (.one ⟨none, none, (.store 7 (.t s4) (.t s78))⟩
    (.one ⟨some s5, none, (.mv (.t s79))⟩
    .done)))))
  .ret) .skip))
  (.reg (.one ⟨some s80, none, (.mv (.t s12))⟩
    (.one ⟨some s81, none, (.mv (.t s10))⟩
    (.one ⟨some s82, none, (.mv (.t s13))⟩
    (.one ⟨some s83, none, (.cut 1 (.t s81) (some (.t s82)) none none)⟩
    (.one ⟨some s11, none, (.mv (.t s80))⟩
    (.one ⟨some s10, none, (.mv (.t s83))⟩
    .done))))))))) .skip))
  (.seq (.reg (.one ⟨some s85, none, (.mv (.t s10))⟩
    (.one ⟨some s86, none, (.mv (.t s11))⟩
    (.one ⟨some s87, none, (.callq 31 [(.t s85), (.t s86)])⟩
    (.one ⟨some s84, none, (.mv (.t s87))⟩
    (.one ⟨some s88, none, (.ext (.t s84) 0)⟩
    (.one ⟨some s89, none, (.ext (.t s84) 1)⟩
    (.one ⟨some s15, none, (.mv (.t s88))⟩
    (.one ⟨some s16, none, (.mv (.t s89))⟩
    .done)))))))))
  (.seq (.seq (.reg (.one ⟨some s90, none, (.mv (.t s16))⟩
    (.one ⟨some s91, none, (.bin false .neq (.t s90) (.c (.v (.int .i64 0))))⟩
    .done)))
  (.cond (.t s91) (.seq (.reg (.one ⟨some s92, none, (.build [(.v (.bool false)), (.v (.int .i64 0)), (.v (.int .i64 0)), (.v (.bool false)), (.v (.bool false)), (.v (.int .i64 0)), (.slice 1 [] .full)] [])⟩
    (.one ⟨some s93, none, (.mv (.t s16))⟩
    (.one ⟨none, none, (.store 7 (.t s4) (.t s92))⟩
    (.one ⟨some s5, none, (.mv (.t s93))⟩
    .done)))))
  .ret) .skip))
  (.seq (.reg (.one ⟨some s94, none, (.mv (.t s15))⟩
    (.one ⟨some s95, none, (.faddr 6 (.t s7))⟩
    (.one ⟨none, none, (.store 1 (.t s95) (.t s94))⟩
    .done))))
  (.seq (.reg (.one ⟨some s96, none, (.load (some 7) (.t s7))⟩
    (.one ⟨none, none, (.store 7 (.t s4) (.t s96))⟩
    (.one ⟨some s5, none, (.mv (.c (.v (.int .i64 0))))⟩
    .done))))
  .ret)))))))))))))⟩
theorem ok11 : compF Try.prog c11 Try.f11 = some ir11 := by kernel_rfl
theorem k_amd_Read {args : List AVal} {σ : AHeap} {Q : AVal → AHeap → Prop} (hl : Nat.ble args.length 97 = true) (h : argsK (Env.full 9) 0 args fun env => evC Try.prog c11 ir11.body env σ (retQ ir11 Q)) : ACalls Try.prog 11 args σ Q :=
  acalls_of Try.func11 ok11 rfl (Nat.le_of_ble_eq_true hl) h
/- amd.Size -/
def c18 : Cfg := ⟨qs, [], 118, [], ps⟩
def ir18 : IFun := ⟨2, [.tmp s4],
  (.seq (.reg (.one ⟨some s2, none, (.box 7 (.t s0))⟩
    (.one ⟨some s4, none, (.mv (.c (.v (.int .i64 0))))⟩
    .done)))
  (.seq (.reg (.one ⟨some s9, none, (.mv (.t s1))⟩
    (.one ⟨some s10, none, (.build [(.v (.int .i64 0))] [(0, 1, (.t s9))])⟩
    (.one ⟨some s5, none, (.new [(.v (.int .i64 0))])⟩
    (.one ⟨none, none, (.store 1 (.t s5) (.t s10))⟩
    .done)))))
  (.seq (.block 0 (.seq (.reg (.one ⟨some s12, none, (.mv (.t s1))⟩
    (.one ⟨some s13, none, (.callq 24 [(.t s12)])⟩
    (.one ⟨some s14, none, (.not (.t s13))⟩
    (.one ⟨some s15, none, (.mv (.t s14))⟩
    (.one ⟨some s16, some (s15, false), (.faddr 1 (.t s2))⟩
    (.one ⟨some s17, some (s15, false), (.load none (.t s16))⟩
    (.one ⟨some s18, some (s15, false), (.bin false .lss (.t s17) (.c (.v (.int .i64 0))))⟩
    (.one ⟨some s19, none, (.pick (.t s15) (.c (.v (.bool true))) (.t s18))⟩
    (.one ⟨some s20, none, (.mv (.t s19))⟩
    (.one ⟨some s21, some (s20, false), (.faddr 1 (.t s2))⟩
    (.one ⟨some s22, some (s20, false), (.load none (.t s21))⟩
    (.one ⟨some s23, some (s20, false), (.bin false .gtr (.t s22) (.c (.v (.int .i64 3))))⟩
    (.one ⟨some s24, none, (.pick (.t s20) (.c (.v (.bool true))) (.t s23))⟩
    (.one ⟨some s25, none, (.mv (.t s24))⟩
    (.one ⟨some s26, some (s25, false), (.load (some 1) (.t s5))⟩
    (.one ⟨some s27, some (s25, false), (.faddr 2 (.t s2))⟩
    (.one ⟨some s28, some (s25, false), (.load none (.t s27))⟩
    (.one ⟨some s29, some (s25, false), (.callq 48 [(.t s26), (.t s28)])⟩
    (.one ⟨some s30, some (s25, false), (.not (.t s29))⟩
    (.one ⟨some s31, none, (.pick (.t s25) (.c (.v (.bool true))) (.t s30))⟩
    (.one ⟨some s11, none, (.mv (.t s31))⟩
    .done))))))))))))))))))))))
  (.cond (.t s11) (.seq (.reg (.one ⟨some s4, none, (.mv (.c (.v (.int .i64 0))))⟩
    .done))
  .ret) (.seq (.reg (.one ⟨some s33, none, (.faddr 3 (.t s2))⟩
    (.one ⟨some s34, none, (.load none (.t s33))⟩
    (.one ⟨some s35, none, (.not (.t s34))⟩
    (.one ⟨some s36, none, (.mv (.t s35))⟩
    (.one ⟨some s37, some (s36, true), (.faddr 4 (.t s2))⟩
    (.one ⟨some s38, some (s36, true), (.load none (.t s37))⟩
    (.one ⟨some s39, some (s36, true), (.mv (.t s38))⟩
    (.one ⟨some s40, some (s39, false), (.faddr 5 (.t s2))⟩
    (.one ⟨some s41, some (s39, false), (.load none (.t s40))⟩
    (.one ⟨some s42, some (s39, false), (.bin false .neq (.t s41) (.c (.v (.int .i64 0))))⟩
    (.one ⟨some s43, some (s36, true), (.pick (.t s39) (.c (.v (.bool true))) (.t s42))⟩
    (.one ⟨some s44, none, (.pick (.t s36) (.t s43) (.c (.v (.bool false))))⟩
    (.one ⟨some s45, none, (.mv (.t s44))⟩
    (.one ⟨some s46, some (s45, false), (.faddr 5 (.t s2))⟩
    (.one ⟨some s47, some (s45, false), (.load none (.t s46))⟩
    (.one ⟨some s48, some (s45, false), (.bin false .lss (.t s47) (.c (.v (.int .i64 0))))⟩
    (.one ⟨some s49, none, (.pick (.t s45) (.c (.v (.bool true))) (.t s48))⟩
    (.one ⟨some s50, none, (.mv (.t s49))⟩
    (.one ⟨some s51, some (s50, false), (.faddr 5 (.t s2))⟩
    (.one ⟨some s52, some (s50, false), (.load none (.t s51))⟩
    (.one ⟨some s53, some (s50, false), (.mv (.t s1))⟩
    (.one ⟨some s54, some (s50, false), (.callq 49 [(.t s53)])⟩
    (.one ⟨some s55, some (s50, false), (.bin false .shl (.c (.v (.int .i64 1))) (.t s54))⟩
    (.one ⟨some s56, some (s50, false), (.bin false .geq (.t s52) (.t s55))⟩
    (.one ⟨some s57, none, (.pick (.t s50) (.c (.v (.bool true))) (.t s56))⟩
    (.one ⟨some s32, none, (.mv (.t s57))⟩
    .done)))))))))))))))))))))))))))
  (.cond (.t s32) (.seq (.reg (.one ⟨some s4, none, (.mv (.c (.v (.int .i64 0))))⟩
    .done))
  .ret) (.seq (.reg (.one ⟨some s59, none, (.faddr 6 (.t s2))⟩
    (.one ⟨some s60, none, (.load none (.t s59))⟩
    (.one ⟨some s61, none, (.len false (.t s60))⟩
    (.one ⟨some s62, none, (.bin false .lss (.t s61) (.c (.v (.int .i64 1))))⟩
    (.one ⟨some s63, none, (.mv (.t s62))⟩
    (.one ⟨some s64, some (s63, false), (.faddr 6 (.t s2))⟩
    (.one ⟨some s65, some (s63, false), (.load none (.t s64))⟩
    (.one ⟨some s66, some (s63, false), (.len false (.t s65))⟩
    (.one ⟨some s67, some (s63, false), (.bin false .gtr (.t s66) (.c (.v (.int .i64 24))))⟩
    (.one ⟨some s68, none, (.pick (.t s63) (.c (.v (.bool true))) (.t s67))⟩
    (.one ⟨some s58, none, (.mv (.t s68))⟩
    .done))))))))))))
  (.cond (.t s58) (.seq (.reg (.one ⟨some s4, none, (.mv (.c (.v (.int .i64 0))))⟩
    .done))
  .ret) .skip)))))))
  (.seq (.reg (.one ⟨some s69, none, (.faddr 3 (.t s2))⟩
    (.one ⟨some s70, none, (.load none (.t s69))⟩
    (.one ⟨some s71, none, (.mv (.t s1))⟩
    (.one ⟨some s73, none, (.faddr 6 (.t s2))⟩
    (.one ⟨some s74, none, (.load none (.t s73))⟩
    (.one ⟨some s75, none, (.len false (.t s74))⟩
    (.one ⟨some s76, none, (.bin false .sub (.t s75) (.c (.v (.int .i64 1))))⟩
    (.one ⟨some s77, none, (.mv (.t s1))⟩
    (.one ⟨some s72, none, (.callq 21 [(.t s70), (.t s71)])⟩
    (.one ⟨some s78, none, (.callq 27 [(.t s77)])⟩
    (.one ⟨some s79, none, (.callq 22 [(.t s76), (.t s78)])⟩
    (.one ⟨some s80, none, (.bin false .add (.t s72) (.t s79))⟩
    (.one ⟨some s6, none, (.mv (.t s80))⟩
    .done))))))))))))))
  (.seq (.seq (.reg (.one ⟨some s81, none, (.faddr 6 (.t s2))⟩
    (.one ⟨some s82, none, (.load none (.t s81))⟩
    (.one ⟨some s83, none, (.len false (.t s82))⟩
    (.one ⟨some s84, none, (.mv (.c (.v (.int .i64 0))))⟩
    .done)))))
  (.block 1 (.loop (.seq (.reg (.one ⟨some s85, none, (.bin false .lss (.t s84) (.t s83))⟩
    .done))
  (.seq (.cond (.t s85) .skip (.exit 1))
  (.seq (.block 2 (.seq (.reg (.one ⟨some s86, none, (.mv (.t s84))⟩
    (.one ⟨some s87, none, (.iaddr 1 (.t s82) (.t s84))⟩
    (.one ⟨some s88, none, (.load none (.t s87))⟩
    (.one ⟨some s7, none, (.mv (.t s86))⟩
    (.one ⟨some s8, none, (.mv (.t s88))⟩
    .done))))))
  (.seq (.seq (.reg (.one ⟨some s89, none, (.mv (.t s8))⟩
    (.one ⟨some s90, none, (.len false (.t s89))⟩
    (.one ⟨some s91, none, (.bin false .eql (.t s90) (.c (.v (.int .i64 0))))⟩
    (.one ⟨some s92, none, (.mv (.t s91))⟩
    (.one ⟨some s93, some (s92, false), (.mv (.t s8))⟩
    (.one ⟨some s94, some (s92, false), (.len false (.t s93))⟩
    (.one ⟨some s95, some (s92, false), (.bin false .gtr (.t s94) (.c (.v (.int .i64 2047))))⟩
    (.one ⟨some s96, some (s92, false), (.mv (.t s95))⟩
    (.one ⟨some s97, some (s96, true), (.mv (.t s7))⟩
    (.one ⟨some s98, some (s96, true), (.faddr 6 (.t s2))⟩
    (.one ⟨some s99, some (s96, true), (.load none (.t s98))⟩
    (.one ⟨some s100, some (s96, true), (.len false (.t s99))⟩
    (.one ⟨some s101, some (s96, true), (.bin false .sub (.t s100) (.c (.v (.int .i64 1))))⟩
    (.one ⟨some s102, some (s96, true), (.bin false .lss (.t s97) (.t s101))⟩
    (.one ⟨some s103, some (s92, false), (.pick (.t s96) (.t s102) (.c (.v (.bool false))))⟩
    (.one ⟨some s104, none, (.pick (.t s92) (.c (.v (.bool true))) (.t s103))⟩
    (.one ⟨some s105, none, (.mv (.t s104))⟩
    (.one ⟨some s106, some (s105, false), (.mv (.t s8))⟩
    (.one ⟨some s107, some (s105, false), (.len false (.t s106))⟩
    (.one ⟨some s108, some (s105, false), (.mv (.t s6))⟩
    (.one ⟨some s109, some (s105, false), (.bin false .sub (.c (.v (.int .i64 4000))) (.t s108))⟩
    (.one ⟨some s110, some (s105, false), (.bin false .gtr (.t s107) (.t s109))⟩
    (.one ⟨some s111, none, (.pick (.t s105) (.c (.v (.bool true))) (.t s110))⟩
    .done))))))))))))))))))))))))
  (.cond (.t s111) (.seq (.reg (.one ⟨some s4, none, (.mv (.c (.v (.int .i64 0))))⟩
    .done))
  .ret) .skip))
  (.reg (.one ⟨some s112, none, (.mv (.t s6))⟩
    (.one ⟨some s113, none, (.mv (.t s8))⟩
    (.one ⟨some s114, none, (.len false (.t s113))⟩
    (.one ⟨some s115, none, (.bin false .add (.t s112) (.t s114))⟩
    (.one ⟨some s6, none, (.mv (.t s115))⟩
    .done)))))))))
  (.reg (.one ⟨some s116, none, (.bin false .add (.t s84) (.c (.v (.int .i64 1))))⟩
    (.one ⟨some s84, none, (.mv (.t s116))⟩
    .done)))))))))
  (.seq (.reg (.one ⟨some s117, none, (.mv (.t s6))⟩
    (.one ⟨some s4, none, (.mv (.t s117))⟩
    .done)))
  .ret))))))⟩
theorem ok18 : compF Try.prog c18 Try.f18 = some ir18 := by kernel_rfl
theorem k_amd_Size {args : List AVal} {σ : AHeap} {Q : AVal → AHeap → Prop} (hl : Nat.ble args.length 118 = true) (h : argsK (Env.full 9) 0 args fun env => evC Try.prog c18 ir18.body env σ (retQ ir18 Q)) : ACalls Try.prog 18 args σ Q :=
  acalls_of Try.func18 ok18 rfl (Nat.le_of_ble_eq_true hl) h
/- amd.Head -/
def c21 : Cfg := ⟨qs, [], 15, [], ps⟩
def ir21 : IFun := ⟨2, [.tmp s4],
  (.seq (.reg (.one ⟨some s4, none, (.mv (.c (.v (.int .i64 0))))⟩
    .done))
  (.seq (.seq (.reg (.one ⟨some s6, none, (.mv (.t s1))⟩
    (.one ⟨some s7, none, (.callq 24 [(.t s6)])⟩
    (.one ⟨some s8, none, (.not (.t s7))⟩
    .done))))
  (.cond (.t s8) (.seq (.reg (.one ⟨some s4, none, (.mv (.c (.v (.int .i64 0))))⟩
    .done))
  .ret) .skip))
  (.seq (.reg (.one ⟨some s5, none, (.mv (.c (.v (.int .i64 2))))⟩
    .done))
  (.seq (.seq (.reg (.one ⟨some s9, none, (.mv (.t s1))⟩
    (.one ⟨some s10, none, (.bin false .eql (.t s9) (.c (.v (.int .i64 16))))⟩
    .done)))
  (.cond (.t s10) (.reg (.one ⟨some s5, none, (.mv (.c (.v (.int .i64 3))))⟩
    .done)) .skip))
  (.seq (.seq (.reg (.one ⟨some s11, none, (.mv (.t s0))⟩
    .done))
  (.cond (.t s11) (.reg (.one ⟨some s12, none, (.mv (.t s5))⟩
    (.one ⟨some s13, none, (.bin false .add (.t s12) (.c (.v (.int .i64 2))))⟩
    (.one ⟨some s5, none, (.mv (.t s13))⟩
    .done)))) .skip))
  (.seq (.reg (.one ⟨some s14, none, (.mv (.t s5))⟩
    (.one ⟨some s4, none, (.mv (.t s14))⟩
    .done)))
  .ret))))))⟩
theorem ok21 : compF Try.prog c21 Try.f21 = some ir21 := by kernel_rfl
theorem k_amd_Head {args : List AVal} {σ : AHeap} {Q : AVal → AHeap → Prop} (hl : Nat.ble args.length 15 = true) (h : argsK (Env.full 9) 0 args fun env => evC Try.prog c21 ir21.body env σ (retQ ir21 Q)) : ACalls Try.prog 21 args σ Q :=
  acalls_of Try.func21 ok21 rfl (Nat.le_of_ble_eq_true hl) h
/- amd.isWidth -/
def c24 : Cfg := ⟨qs, [], 9, [], ps⟩
def ir24 : IFun := ⟨1, [.tmp s2],
  (.seq (.reg (.one ⟨some s2, none, (.mv (.c (.v (.bool false))))⟩
    .done))
  (.seq (.reg (.one ⟨some s3, none, (.mv (.t s0))⟩
    (.one ⟨some s4, none, (.bin false .eql (.t s3) (.c (.v (.int .i64 10))))⟩
    (.one ⟨some s5, none, (.mv (.t s4))⟩
    (.one ⟨some s6, some (s5, false), (.mv (.t s0))⟩
    (.one ⟨some s7, some (s5, false), (.bin false .eql (.t s6) (.c (.v (.int .i64 16))))⟩
    (.one ⟨some s8, none, (.pick (.t s5) (.c (.v (.bool true))) (.t s7))⟩
    (.one ⟨some s2, none, (.mv (.t s8))⟩
    .done))))))))
  .ret))⟩
theorem ok24 : compF Try.prog c24 Try.f24 = some ir24 := by kernel_rfl
theorem k_amd_isWidth {args : List AVal} {σ : AHeap} {Q : AVal → AHeap → Prop} (hl : Nat.ble args.length 9 = true) (h : argsK (Env.full 9) 0 args fun env => evC Try.prog c24 ir24.body env σ (retQ ir24 Q)) : ACalls Try.prog 24 args σ Q :=
  acalls_of Try.func24 ok24 rfl (Nat.le_of_ble_eq_true hl) h
/- amd.head -/
def c25 : Cfg := ⟨qs, [], 68, [], ps⟩
def ir25 : IFun := ⟨2, [.tmp s4],
  (.seq (.reg (.one ⟨some s2, none, (.box 7 (.t s0))⟩
    (.one ⟨some s4, none, (.mv (.c (.slice 1 [] .full)))⟩
    .done)))
  (.seq (.reg (.one ⟨some s6, none, (.callq 52 [])⟩
    (.one ⟨some s5, none, (.mv (.t s6))⟩
    .done)))
  (.seq (.reg (.one ⟨some s7, none, (.mv (.t s5))⟩
    (.one ⟨some s8, none, (.call 53 [(.t s7), (.c (.v (.int .u64 1))), (.c (.v (.int .i64 1)))])⟩
    .done)))
  (.seq (.reg (.one ⟨some s9, none, (.mv (.t s5))⟩
    (.one ⟨some s10, none, (.faddr 3 (.t s2))⟩
    (.one ⟨some s11, none, (.load none (.t s10))⟩
    (.one ⟨some s12, none, (.callq 54 [(.t s11)])⟩
    (.one ⟨some s13, none, (.call 53 [(.t s9), (.t s12), (.c (.v (.int .i64 1)))])⟩
    .done))))))
  (.seq (.reg (.one ⟨some s14, none, (.mv (.t s5))⟩
    (.one ⟨some s15, none, (.faddr 0 (.t s2))⟩
    (.one ⟨some s16, none, (.load none (.t s15))⟩
    (.one ⟨some s17, none, (.callq 54 [(.t s16)])⟩
    (.one ⟨some s18, none, (.call 53 [(.t s14), (.t s17), (.c (.v (.int .i64 1)))])⟩
    .done))))))
  (.seq (.reg (.one ⟨some s19, none, (.mv (.t s5))⟩
    (.one ⟨some s20, none, (.faddr 1 (.t s2))⟩
    (.one ⟨some s21, none, (.load none (.t s20))⟩
    (.one ⟨some s22, none, (.conv .u64 (.t s21))⟩
    (.one ⟨some s23, none, (.call 53 [(.t s19), (.t s22), (.c (.v (.int .i64 2)))])⟩
    .done))))))
  (.seq (.reg (.one ⟨some s24, none, (.mv (.t s5))⟩
    (.one ⟨some s25, none, (.faddr 6 (.t s2))⟩
    (.one ⟨some s26, none, (.load none (.t s25))⟩
    (.one ⟨some s27, none, (.len false (.t s26))⟩
    (.one ⟨some s28, none, (.bin false .gtr (.t s27) (.c (.v (.int .i64 1))))⟩
    (.one ⟨some s29, none, (.callq 54 [(.t s28)])⟩
    (.one ⟨some s30, none, (.call 53 [(.t s24), (.t s29), (.c (.v (.int .i64 1)))])⟩
    .done))))))))
  (.seq (.seq (.reg (.one ⟨some s31, none, (.mv (.t s1))⟩
    (.one ⟨some s32, none, (.bin false .eql (.t s31) (.c (.v (.int .i64 16))))⟩
    .done)))
  (.cond (.t s32) (.seq (.reg (.one ⟨some s33, none, (.mv (.t s5))⟩
    (.one ⟨some s34, none, (.faddr 4 (.t s2))⟩
    (.one ⟨some s35, none, (.load none (.t s34))⟩
    (.one ⟨some s36, none, (.callq 54 [(.t s35)])⟩
    (.one ⟨some s37, none, (.call 53 [(.t s33), (.t s36), (.c (.v (.int .i64 1)))])⟩
    .done))))))
  (.reg (.one ⟨some s38, none, (.mv (.t s5))⟩
    (.one ⟨some s39, none, (.call 53 [(.t s38), (.c (.v (.int .u64 0))), (.c (.v (.int .i64 1)))])⟩
    .done)))) .skip))
  (.seq (.reg (.one ⟨some s40, none, (.mv (.t s5))⟩
    (.one ⟨some s41, none, (.faddr 2 (.t s2))⟩
    (.one ⟨some s42, none, (.load none (.t s41))⟩
    (.one ⟨some s43, none, (.conv .u64 (.t s42))⟩
    (.one ⟨some s44, none, (.mv (.t s1))⟩
    (.one ⟨some s45, none, (.call 53 [(.t s40), (.t s43), (.t s44)])⟩
    .done)))))))
  (.seq (.seq (.reg (.one ⟨some s46, none, (.faddr 3 (.t s2))⟩
    (.one ⟨some s47, none, (.load none (.t s46))⟩
    (.one ⟨some s48, none, (.mv (.t s47))⟩
    (.one ⟨some s49, some (s48, true), (.mv (.t s1))⟩
    (.one ⟨some s50, some (s48, true), (.bin false .eql (.t s49) (.c (.v (.int .i64 10))))⟩
    (.one ⟨some s51, none, (.pick (.t s48) (.t s50) (.c (.v (.bool false))))⟩
    .done)))))))
  (.cond (.t s51) (.reg (.one ⟨some s52, none, (.mv (.t s5))⟩
    (.one ⟨some s53, none, (.faddr 4 (.t s2))⟩
    (.one ⟨some s54, none, (.load none (.t s53))⟩
    (.one ⟨some s55, none, (.callq 54 [(.t s54)])⟩
    (.one ⟨some s56, none, (.call 53 [(.t s52), (.t s55), (.c (.v (.int .i64 1)))])⟩
    .done)))))) .skip))
  (.seq (.seq (.reg (.one ⟨some s57, none, (.faddr 3 (.t s2))⟩
    (.one ⟨some s58, none, (.load none (.t s57))⟩
    .done)))
  (.cond (.t s58) (.reg (.one ⟨some s59, none, (.mv (.t s5))⟩
    (.one ⟨some s60, none, (.faddr 5 (.t s2))⟩
    (.one ⟨some s61, none, (.load none (.t s60))⟩
    (.one ⟨some s62, none, (.conv .u64 (.t s61))⟩
    (.one ⟨some s63, none, (.mv (.t s1))⟩
    (.one ⟨some s64, none, (.callq 49 [(.t s63)])⟩
    (.one ⟨some s65, none, (.call 53 [(.t s59), (.t s62), (.t s64)])⟩
    .done)))))))) .skip))
  (.seq (.reg (.one ⟨some s66, none, (.mv (.t s5))⟩
    (.one ⟨some s67, none, (.callq 55 [(.t s66)])⟩
    (.one ⟨some s4, none, (.mv (.t s67))⟩
    .done))))
  .ret))))))))))))⟩
theorem ok25 : compF Try.prog c25 Try.f25 = some ir25 := by kernel_rfl
theorem k_amd_head {args : List AVal} {σ : AHeap} {Q : AVal → AHeap → Prop} (hl : Nat.ble args.length 68 = true) (h : argsK (Env.full 9) 0 args fun env => evC Try.prog c25 ir25.body env σ (retQ ir25 Q)) : ACalls Try.prog 25 args σ Q :=
  acalls_of Try.func25 ok25 rfl (Nat.le_of_ble_eq_true hl) h
/- amd.lenWidth -/
def c27 : Cfg := ⟨qs, [], 5, [], ps⟩
def ir27 : IFun := ⟨1, [.tmp s2],
  (.seq (.reg (.one ⟨some s2, none, (.mv (.c (.v (.int .i64 0))))⟩
    .done))
  (.seq (.seq (.reg (.one ⟨some s3, none, (.mv (.t s0))⟩
    (.one ⟨some s4, none, (.bin false .eql (.t s3) (.c (.v (.int .i64 10))))⟩
    .done)))
  (.cond (.t s4) (.seq (.reg (.one ⟨some s2, none, (.mv (.c (.v (.int .i64 11))))⟩
    .done))
  .ret) .skip))
  (.seq (.reg (.one ⟨some s2, none, (.mv (.c (.v (.int .i64 15))))⟩
    .done))
  .ret)))⟩
theorem ok27 : compF Try.prog c27 Try.f27 = some ir27 := by kernel_rfl
theorem k_amd_lenWidth {args : List AVal} {σ : AHeap} {Q : AVal → AHeap → Prop} (hl : Nat.ble args.length 5 = true) (h : argsK (Env.full 9) 0 args fun env => evC Try.prog c27 ir27.body env σ (retQ ir27 Q)) : ACalls Try.prog 27 args σ Q :=
  acalls_of Try.func27 ok27 rfl (Nat.le_of_ble_eq_true hl) h
/- amd.readHead -/
def c28 : Cfg := ⟨qs, [], 70, [], ps⟩
def ir28 : IFun := ⟨2, [.cell s4 (some 7), .tmp s5, .tmp s6],
  (.seq (.reg (.one ⟨some s2, none, (.box 1 (.t s0))⟩
    (.one ⟨some s4, none, (.new [(.v (.bool false)), (.v (.int .i64 0)), (.v (.int .i64 0)), (.v (.bool false)), (.v (.bool false)), (.v (.int .i64 0)), (.slice 1 [] .full)])⟩
    (.one ⟨some s5, none, (.mv (.c (.v (.bool false))))⟩
    (.one ⟨some s6, none, (.mv (.c (.v (.bool false))))⟩
    .done)))))
  (.seq (.reg (.one ⟨some s8, none, (.fn 56 [] [(.t s2)])⟩
    (.one ⟨some s7, none, (.mv (.t s8))⟩
    .done)))
  (.seq (.reg (.one ⟨some s9, none, (.mv (.t s7))⟩
    (.one ⟨some s10, none, (.callv (.t s9) [(.c (.v (.int .i64 1)))])⟩
    .done)))
  (.seq (.reg (.one ⟨some s11, none, (.mv (.t s7))⟩
    (.one ⟨some s12, none, (.callv (.t s11) [(.c (.v (.int .i64 1)))])⟩
    (.one ⟨some s13, none, (.bin false .eql (.t s12) (.c (.v (.int .u64 1))))⟩
    (.one ⟨some s14, none, (.faddr 3 (.t s4))⟩
    (.one ⟨none, none, (.store 1 (.t s14) (.t s13))⟩
    .done))))))
  (.seq (.reg (.one ⟨some s15, none, (.mv (.t s7))⟩
    (.one ⟨some s16, none, (.callv (.t s15) [(.c (.v (.int .i64 1)))])⟩
    (.one ⟨some s17, none, (.bin false .eql (.t s16) (.c (.v (.int .u64 1))))⟩
    (.one ⟨some s18, none, (.faddr 0 (.t s4))⟩
    (.one ⟨none, none, (.store 1 (.t s18) (.t s17))⟩
    .done))))))
  (.seq (.reg (.one ⟨some s19, none, (.mv (.t s7))⟩
    (.one ⟨some s20, none, (.callv (.t s19) [(.c (.v (.int .i64 2)))])⟩
    (.one ⟨some s21, none, (.conv .i64 (.t s20))⟩
    (.one ⟨some s22, none, (.faddr 1 (.t s4))⟩
    (.one ⟨none, none, (.store 1 (.t s22) (.t s21))⟩
    .done))))))
  (.seq (.reg (.one ⟨some s23, none, (.mv (.t s7))⟩
    (.one ⟨some s24, none, (.callv (.t s23) [(.c (.v (.int .i64 1)))])⟩
    (.one ⟨some s25, none, (.bin false .eql (.t s24) (.c (.v (.int .u64 1))))⟩
    (.one ⟨some s5, none, (.mv (.t s25))⟩
    .done)))))
  (.seq (.reg (.one ⟨some s6, none, (.mv (.c (.v (.bool true))))⟩
    .done))
  (.seq (.seq (.reg (.one ⟨some s26, none, (.mv (.t s1))⟩
    (.one ⟨some s27, none, (.bin false .eql (.t s26) (.c (.v (.int .i64 16))))⟩
    .done)))
  (.cond (.t s27) (.seq (.reg (.one ⟨some s28, none, (.mv (.t s7))⟩
    (.one ⟨some s29, none, (.callv (.t s28) [(.c (.v (.int .i64 1)))])⟩
    (.one ⟨some s30, none, (.bin false .eql (.t s29) (.c (.v (.int .u64 1))))⟩
    (.one ⟨some s31, none, (.faddr 4 (.t s4))⟩
    (.one ⟨none, none, (.store 1 (.t s31) (.t s30))⟩
    .done))))))
  (.reg (.one ⟨some s32, none, (.mv (.t s7))⟩
    (.one ⟨some s33, none, (.callv (.t s32) [(.c (.v (.int .i64 1)))])⟩
    (.one ⟨some s34, none, (.bin false .eql (.t s33) (.c (.v (.int .u64 0))))⟩
    (.one ⟨some s35, none, (.mv (.t s34))⟩
    (.one ⟨some s36, some (s35, true), (.faddr 3 (.t s4))⟩
    (.one ⟨some s37, some (s35, true), (.load none (.t s36))⟩
    (.one ⟨some s38, some (s35, true), (.mv (.t s37))⟩
    (.one ⟨some s39, some (s38, false), (.faddr 4 (.t s4))⟩
    (.one ⟨some s40, some (s38, false), (.load none (.t s39))⟩
    (.one ⟨some s41, some (s38, false), (.not (.t s40))⟩
    (.one ⟨some s42, some (s35, true), (.pick (.t s38) (.c (.v (.bool true))) (.t s41))⟩
    (.one ⟨some s43, none, (.pick (.t s35) (.t s42) (.c (.v (.bool false))))⟩
    (.one ⟨some s6, none, (.mv (.t s43))⟩
    .done))))))))))))))) .skip))
  (.seq (.reg (.one ⟨some s44, none, (.mv (.t s7))⟩
    (.one ⟨some s45, none, (.mv (.t s1))⟩
    (.one ⟨some s46, none, (.callv (.t s44) [(.t s45)])⟩
    (.one ⟨some s47, none, (.conv .i64 (.t s46))⟩
    (.one ⟨some s48, none, (.faddr 2 (.t s4))⟩
    (.one ⟨none, none, (.store 1 (.t s48) (.t s47))⟩
    .done)))))))
  (.seq (.seq (.reg (.one ⟨some s49, none, (.faddr 3 (.t s4))⟩
    (.one ⟨some s50, none, (.load none (.t s49))⟩
    (.one ⟨some s51, none, (.mv (.t s50))⟩
    (.one ⟨some s52, some (s51, true), (.mv (.t s1))⟩
    (.one ⟨some s53, some (s51, true), (.bin false .eql (.t s52) (.c (.v (.int .i64 10))))⟩
    (.one ⟨some s54, none, (.pick (.t s51) (.t s53) (.c (.v (.bool false))))⟩
    .done)))))))
  (.cond (.t s54) (.reg (.one ⟨some s55, none, (.mv (.t s7))⟩
    (.one ⟨some s56, none, (.callv (.t s55) [(.c (.v (.int .i64 1)))])⟩
    (.one ⟨some s57, none, (.bin false .eql (.t s56) (.c (.v (.int .u64 1))))⟩
    (.one ⟨some s58, none, (.faddr 4 (.t s4))⟩
    (.one ⟨none, none, (.store 1 (.t s58) (.t s57))⟩
    .done)))))) .skip))
  (.seq (.seq (.reg (.one ⟨some s59, none, (.faddr 3 (.t s4))⟩
    (.one ⟨some s60, none, (.load none (.t s59))⟩
    .done)))
  (.cond (.t s60) (.reg (.one ⟨some s61, none, (.mv (.t s7))⟩
    (.one ⟨some s62, none, (.mv (.t s1))⟩
    (.one ⟨some s63, none, (.callq 49 [(.t s62)])⟩
    (.one ⟨some s64, none, (.callv (.t s61) [(.t s63)])⟩
    (.one ⟨some s65, none, (.conv .i64 (.t s64))⟩
    (.one ⟨some s66, none, (.faddr 5 (.t s4))⟩
    (.one ⟨none, none, (.store 1 (.t s66) (.t s65))⟩
    .done)))))))) .skip))
  (.seq (.reg (.one ⟨some s67, none, (.load (some 7) (.t s4))⟩
    (.one ⟨some s68, none, (.mv (.t s5))⟩
    (.one ⟨some s69, none, (.mv (.t s6))⟩
    (.one ⟨none, none, (.store 7 (.t s4) (.t s67))⟩
    (.one ⟨some s5, none, (.mv (.t s68))⟩
    (.one ⟨some s6, none, (.mv (.t s69))⟩
    .done)))))))
  .ret)))))))))))))⟩
theorem ok28 : compF Try.prog c28 Try.f28 = some ir28 := by kernel_rfl
theorem k_amd_readHead {args : List AVal} {σ : AHeap} {Q : AVal → AHeap → Prop} (hl : Nat.ble args.length 70 = true) (h : argsK (Env.full 9) 0 args fun env => evC Try.prog c28 ir28.body env σ (retQ ir28 Q)) : ACalls Try.prog 28 args σ Q :=
  acalls_of Try.func28 ok28 rfl (Nat.le_of_ble_eq_true hl) h
/- amd.fields -/
def c31 : Cfg := ⟨qs, [], 51, [], ps⟩
def ir31 : IFun := ⟨2, [.tmp s4, .tmp s5],
  (.seq (.reg (.one ⟨some s4, none, (.mv (.c (.slice 1 [] .full)))⟩
    (.one ⟨some s5, none, (.mv (.c (.v (.int .i64 0))))⟩
    .done)))
  (.scope (.seq (.seq (.reg (.one ⟨some s8, none, (.mv (.t s1))⟩
    (.one ⟨some s9, none, (.callq 59 [(.t s8), (.c (.func 60 [] []))])⟩
    .done)))
  (.cond (.t s9) (.seq (.reg (.one ⟨some s4, none, (.mv (.c (.slice 1 [] .full)))⟩
    (.one ⟨some s5, none, (.mv (.c (.v (.int .i64 3))))⟩
    .done)))
  .ret) .skip))
  (.seq (.reg (.one ⟨some s6, none, (.mv (.c (.slice 1 [] .full)))⟩
    .done))
  (.seq (.reg (.one ⟨some s7, none, (.mv (.c (.v (.int .i64 0))))⟩
    .done))
  (.seq (.label 0)
  (.seq (.seq (.reg (.one ⟨some s10, none, (.mv (.t s7))⟩
    (.one ⟨some s11, none, (.mv (.t s1))⟩
    (.one ⟨some s12, none, (.len false (.t s11))⟩
    (.one ⟨some s13, none, (.bin false .lss (.t s10) (.t s12))⟩
    .done)))))
  (.cond (.t s13) (.seq (.seq (.reg (.one ⟨some s14, none, (.mv (.t s1))⟩
    (.one ⟨some s15, none, (.mv (.t s7))⟩
    (.one ⟨some s16, none, (.iaddr 1 (.t s14) (.t s15))⟩
    (.one ⟨some s17, none, (.load none (.t s16))⟩
    (.one ⟨some s18, none, (.mv (.t s0))⟩
    (.one ⟨some s19, none, (.len false (.t s18))⟩
    (.one ⟨some s20, none, (.bin false .gtr (.t s17) (.t s19))⟩
    .done))))))))
  (.cond (.t s20) (.seq (.reg (.one ⟨some s4, none, (.mv (.c (.slice 1 [] .full)))⟩
    (.one ⟨some s5, none, (.mv (.c (.v (.int .i64 8))))⟩
    .done)))
  .ret) .skip))
  (.seq (.reg (.one ⟨some s21, none, (.mv (.t s6))⟩
    (.one ⟨some s22, none, (.mv (.t s0))⟩
    (.one ⟨some s23, none, (.mv (.t s1))⟩
    (.one ⟨some s24, none, (.mv (.t s7))⟩
    (.one ⟨some s25, none, (.iaddr 1 (.t s23) (.t s24))⟩
    (.one ⟨some s26, none, (.load none (.t s25))⟩
    (.one ⟨some s27, none, (.mv (.t s1))⟩
    (.one ⟨some s28, none, (.mv (.t s7))⟩
    (.one ⟨some s29, none, (.iaddr 1 (.t s27) (.t s28))⟩
    (.one ⟨some s30, none, (.load none (.t s29))⟩
    (.one ⟨some s31, none, (.cut 1 (.t s22) none (some (.t s26)) (some (.t s30)))⟩
    (.one ⟨some s32, none, (.callq 36 [(.t s31)])⟩
    (.one ⟨some s33, none, (.row 1 [(.t s32)])⟩
    (.one ⟨some s34, none, (.app 1 24 (.t s21) (.t s33))⟩
    (.one ⟨some s6, none, (.mv (.t s34))⟩
    .done))))))))))))))))
  (.seq (.reg (.one ⟨some s35, none, (.mv (.t s0))⟩
    (.one ⟨some s36, none, (.mv (.t s1))⟩
    (.one ⟨some s37, none, (.mv (.t s7))⟩
    (.one ⟨some s38, none, (.iaddr 1 (.t s36) (.t s37))⟩
    (.one ⟨some s39, none, (.load none (.t s38))⟩
    (.one ⟨some s40, none, (.cut 1 (.t s35) (some (.t s39)) none none)⟩
    (.one ⟨some s0, none, (.mv (.t s40))⟩
    .done))))))))
  (.seq (.reg (.one ⟨some s41, none, (.mv (.t s7))⟩
    (.one ⟨some s42, none, (.bin false .add (.t s41) (.c (.v (.int .i64 1))))⟩
    (.one ⟨some s7, none, (.mv (.t s42))⟩
    .done))))
  (.goto 0))))) .skip))
  (.seq (.seq (.reg (.one ⟨some s43, none, (.mv (.t s0))⟩
    (.one ⟨some s44, none, (.len false (.t s43))⟩
    (.one ⟨some s45, none, (.bin false .eql (.t s44) (.c (.v (.int .i64 0))))⟩
    .done))))
  (.cond (.t s45) (.seq (.reg (.one ⟨some s4, none, (.mv (.c (.slice 1 [] .full)))⟩
    (.one ⟨some s5, none, (.mv (.c (.v (.int .i64 8))))⟩
    .done)))
  .ret) .skip))
  (.seq (.reg (.one ⟨some s46, none, (.mv (.t s6))⟩
    (.one ⟨some s47, none, (.mv (.t s0))⟩
    (.one ⟨some s48, none, (.callq 36 [(.t s47)])⟩
    (.one ⟨some s49, none, (.row 1 [(.t s48)])⟩
    (.one ⟨some s50, none, (.app 1 24 (.t s46) (.t s49))⟩
    (.one ⟨some s4, none, (.mv (.t s50))⟩
    (.one ⟨some s5, none, (.mv (.c (.v (.int .i64 0))))⟩
    .done))))))))
  .ret)))))))))⟩
theorem ok31 : compF Try.prog c31 Try.f31 = some ir31 := by kernel_rfl
theorem k_amd_fields {args : List AVal} {σ : AHeap} {Q : AVal → AHeap → Prop} (hl : Nat.ble args.length 51 = true) (h : argsK (Env.full 9) 0 args fun env => evC Try.prog c31 ir31.body env σ (retQ ir31 Q)) : ACalls Try.prog 31 args σ Q :=
  acalls_of Try.func31 ok31 rfl (Nat.le_of_ble_eq_true hl) h
/- amd.offsetWidth -/
def c49 : Cfg := ⟨qs, [], 5, [], ps⟩
def ir49 : IFun := ⟨1, [.tmp s2],
  (.seq (.reg (.one ⟨some s2, none, (.mv (.c (.v (.int .i64 0))))⟩
    .done))
  (.seq (.seq (.reg (.one ⟨some s3, none, (.mv (.t s0))⟩
    (.one ⟨some s4, none, (.bin false .eql (.t s3) (.c (.v (.int .i64 10))))⟩
    .done)))
  (.cond (.t s4) (.seq (.reg (.one ⟨some s2, none, (.mv (.c (.v (.int .i64 15))))⟩
    .done))
  .ret) .skip))
  (.seq (.reg (.one ⟨some s2, none, (.mv (.c (.v (.int .i64 16))))⟩
    .done))
  .ret)))⟩
theorem ok49 : compF Try.prog c49 Try.f49 = some ir49 := by kernel_rfl
theorem k_amd_offsetWidth {args : List AVal} {σ : AHeap} {Q : AVal → AHeap → Prop} (hl : Nat.ble args.length 5 = true) (h : argsK (Env.full 9) 0 args fun env => evC Try.prog c49 ir49.body env σ (retQ ir49 Q)) : ACalls Try.prog 49 args σ Q :=
  acalls_of Try.func49 ok49 rfl (Nat.le_of_ble_eq_true hl) h
/- amd.bit -/
def c54 : Cfg := ⟨qs, [], 4, [], ps⟩
def ir54 : IFun := ⟨1, [.tmp s2],
  (.seq (.reg (.one ⟨some s2, none, (.mv (.c (.v (.int .u64 0))))⟩
    .done))
  (.seq (.seq (.reg (.one ⟨some s3, none, (.mv (.t s0))⟩
    .done))
  (.cond (.t s3) (.seq (.reg (.one ⟨some s2, none, (.mv (.c (.v (.int .u64 1))))⟩
    .done))
  .ret) .skip))
  (.seq (.reg (.one ⟨some s2, none, (.mv (.c (.v (.int .u64 0))))⟩
    .done))
  .ret)))⟩
theorem ok54 : compF Try.prog c54 Try.f54 = some ir54 := by kernel_rfl
theorem k_amd_bit {args : List AVal} {σ : AHeap} {Q : AVal → AHeap → Prop} (hl : Nat.ble args.length 4 = true) (h : argsK (Env.full 9) 0 args fun env => evC Try.prog c54 ir54.body env σ (retQ ir54 Q)) : ACalls Try.prog 54 args σ Q :=
  acalls_of Try.func54 ok54 rfl (Nat.le_of_ble_eq_true hl) h
/- amd.readHead$1 -/
def c56 : Cfg := ⟨qs, [], 13, [], ps⟩
def ir56 : IFun := ⟨2, [.tmp s3],
  (.seq (.reg (.one ⟨some s3, none, (.mv (.c (.v (.int .u64 0))))⟩
    .done))
  (.seq (.reg (.one ⟨some s7, none, (.load none (.t s1))⟩
    (.one ⟨some s8, none, (.mv (.t s0))⟩
    (.one ⟨some s9, none, (.call 57 [(.t s7), (.t s8)])⟩
    (.one ⟨some s6, none, (.mv (.t s9))⟩
    (.one ⟨some s10, none, (.ext (.t s6) 0)⟩
    (.one ⟨some s11, none, (.ext (.t s6) 1)⟩
    (.one ⟨some s4, none, (.mv (.t s10))⟩
    (.one ⟨some s5, none, (.mv (.t s11))⟩
    .done)))))))))
  (.seq (.reg (.one ⟨some s12, none, (.mv (.t s4))⟩
    (.one ⟨some s3, none, (.mv (.t s12))⟩
    .done)))
  .ret)))⟩
theorem ok56 : compF Try.prog c56 Try.f56 = some ir56 := by kernel_rfl
theorem k_amd_readHead_1 {args : List AVal} {σ : AHeap} {Q : AVal → AHeap → Prop} (hl : Nat.ble args.length 13 = true) (h : argsK (Env.full 9) 0 args fun env => evC Try.prog c56 ir56.body env σ (retQ ir56 Q)) : ACalls Try.prog 56 args σ Q :=
  acalls_of Try.func56 ok56 rfl (Nat.le_of_ble_eq_true hl) h
/- amd.fields$1 -/
def c60 : Cfg := ⟨qs, [], 5, [], ps⟩
def ir60 : IFun := ⟨1, [.tmp s2],
  (.seq (.reg (.one ⟨some s2, none, (.mv (.c (.v (.bool false))))⟩
    .done))
  (.seq (.reg (.one ⟨some s3, none, (.mv (.t s0))⟩
    (.one ⟨some s4, none, (.bin false .gtr (.t s3) (.c (.v (.int .i64 2047))))⟩
    (.one ⟨some s2, none, (.mv (.t s4))⟩
    .done))))
  .ret))⟩
theorem ok60 : compF Try.prog c60 Try.f60 = some ir60 := by kernel_rfl
theorem k_amd_fields_1 {args : List AVal} {σ : AHeap} {Q : AVal → AHeap → Prop} (hl : Nat.ble args.length 5 = true) (h : argsK (Env.full 9) 0 args fun env => evC Try.prog c60 ir60.body env σ (retQ ir60 Q)) : ACalls Try.prog 60 args σ Q :=
  acalls_of Try.func60 ok60 rfl (Nat.le_of_ble_eq_true hl) h
end Go.Proofs.Ytgbpjbpdpgbngaa
/-
  The bodies of one package, compiled to the framework's language (printed by a program of this session).
-/
namespace Go.Proofs.Ytgbpjbpdpgbngaa
open Go Go.Am
/- rxbuf.New -/
def c10 : Cfg := ⟨qs, [], 4, [], ps⟩
def ir10 : IFun := ⟨0, [.tmp s0],
  (.seq (.reg (.one ⟨some s0, none, (.mv (.c (.v (.pointer none))))⟩
    .done))
  (.seq (.reg (.one ⟨some s1, none, .mkmap⟩
    (.one ⟨some s2, none, (.build [(.v (.map none))] [(0, 1, (.t s1))])⟩
    (.one ⟨some s3, none, (.box 1 (.t s2))⟩
    (.one ⟨some s0, none, (.mv (.t s3))⟩
    .done)))))
  .ret))⟩
theorem ok10 : compF Try.prog c10 Try.f10 = some ir10 := by kernel_rfl
theorem k_rxbuf_New {args : List AVal} {σ : AHeap} {Q : AVal → AHeap → Prop} (hl : Nat.ble args.length 4 = true) (h : argsK (Env.full 9) 0 args fun env => evC Try.prog c10 ir10.body env σ (retQ ir10 Q)) : ACalls Try.prog 10 args σ Q :=
  acalls_of Try.func10 ok10 rfl (Nat.le_of_ble_eq_true hl) h
/- rxbuf.Buffer).Put -/
def c12 : Cfg := ⟨qs, [], 104, [], ps⟩
def ir12 : IFun := ⟨2, [.tmp s4],
  (.seq (.reg (.one ⟨some s3, none, (.box 7 (.t s1))⟩
    (.one ⟨some s4, none, (.mv (.c (.v (.int .i64 0))))⟩
    .done)))
  (.seq (.block 0 (.seq (.reg (.one ⟨some s15, none, (.mv (.t s0))⟩
    (.one ⟨some s16, none, (.callq 32 [(.t s15)])⟩
    (.one ⟨some s17, none, (.not (.t s16))⟩
    (.one ⟨some s14, none, (.mv (.t s17))⟩
    .done)))))
  (.cond (.t s14) (.seq (.reg (.one ⟨some s4, none, (.mv (.c (.v (.int .i64 6))))⟩
    .done))
  .ret) (.seq (.reg (.one ⟨some s19, none, (.load (some 7) (.t s3))⟩
    (.one ⟨some s20, none, (.callq 33 [(.t s19)])⟩
    (.one ⟨some s21, none, (.not (.t s20))⟩
    (.one ⟨some s18, none, (.mv (.t s21))⟩
    .done)))))
  (.cond (.t s18) (.seq (.reg (.one ⟨some s4, none, (.mv (.c (.v (.int .i64 1))))⟩
    .done))
  .ret) .skip)))))
  (.seq (.reg (.one ⟨some s22, none, (.load (some 7) (.t s3))⟩
    (.one ⟨some s23, none, (.callq 6 [(.t s22)])⟩
    (.one ⟨some s5, none, (.mv (.t s23))⟩
    .done))))
  (.seq (.reg (.one ⟨some s24, none, (.faddr 5 (.t s3))⟩
    (.one ⟨some s25, none, (.load none (.t s24))⟩
    (.one ⟨some s26, none, (.faddr 5 (.t s3))⟩
    (.one ⟨some s27, none, (.load none (.t s26))⟩
    (.one ⟨some s28, none, (.mv (.t s5))⟩
    (.one ⟨some s29, none, (.len false (.t s28))⟩
    (.one ⟨some s30, none, (.bin false .add (.t s27) (.t s29))⟩
    (.one ⟨some s31, none, (.build [(.v (.int .i64 0)), (.v (.int .i64 0))] [(0, 1, (.t s25)), (1, 1, (.t s30))])⟩
    (.one ⟨some s6, none, (.new [(.v (.int .i64 0)), (.v (.int .i64 0))])⟩
    (.one ⟨none, none, (.store 2 (.t s6) (.t s31))⟩
    .done)))))))))))
  (.seq (.reg (.one ⟨some s32, none, (.faddr 3 (.t s3))⟩
    (.one ⟨some s33, none, (.load none (.t s32))⟩
    (.one ⟨some s34, none, (.not (.t s33))⟩
    (.one ⟨some s35, none, (.mv (.t s34))⟩
    (.one ⟨some s36, some (s35, false), (.faddr 4 (.t s3))⟩
    (.one ⟨some s37, some (s35, false), (.load none (.t s36))⟩
    (.one ⟨some s38, none, (.pick (.t s35) (.c (.v (.bool true))) (.t s37))⟩
    (.one ⟨some s7, none, (.mv (.t s38))⟩
    .done)))))))))
  (.seq (.reg (.one ⟨some s39, none, (.mv (.t s0))⟩
    (.one ⟨some s40, none, (.nilchk (.t s39))⟩
    (.one ⟨some s41, none, (.faddr 0 (.t s40))⟩
    (.one ⟨some s42, none, (.load none (.t s41))⟩
    (.one ⟨some s43, none, (.faddr 2 (.t s3))⟩
    (.one ⟨some s44, none, (.load none (.t s43))⟩
    (.one ⟨some s45, none, (.look (.v (.pointer none)) (.t s42) (.t s44))⟩
    (.one ⟨some s8, none, (.mv (.t s45))⟩
    .done)))))))))
  (.seq (.seq (.reg (.one ⟨some s46, none, (.mv (.t s8))⟩
    (.one ⟨some s47, none, (.eqNil 1 false (.t s46))⟩
    .done)))
  (.cond (.t s47) (.seq (.reg (.one ⟨some s49, none, (.callq 34 [(.c (.slice 2 [] .full))])⟩
    (.one ⟨some s48, none, (.mv (.t s49))⟩
    (.one ⟨some s50, none, (.ext (.t s48) 0)⟩
    (.one ⟨some s51, none, (.ext (.t s48) 1)⟩
    (.one ⟨some s9, none, (.mv (.t s50))⟩
    (.one ⟨some s10, none, (.mv (.t s51))⟩
    .done)))))))
  (.seq (.seq (.reg (.one ⟨some s52, none, (.mv (.t s10))⟩
    (.one ⟨some s53, none, (.bin false .neq (.t s52) (.c (.v (.int .i64 0))))⟩
    .done)))
  (.cond (.t s53) (.seq (.reg (.one ⟨some s54, none, (.mv (.t s10))⟩
    (.one ⟨some s4, none, (.mv (.t s54))⟩
    .done)))
  .ret) .skip))
  (.reg (.one ⟨some s55, none, (.mv (.t s9))⟩
    (.one ⟨some s56, none, .mkmap⟩
    (.one ⟨some s57, none, (.build [(.slice 1 [] .full), (.v (.pointer none)), (.v (.int .i64 0)), (.v (.map none)), (.v (.int .i64 0))] [(1, 1, (.t s55)), (2, 1, (.c (.v (.int .i64 (-1))))), (3, 1, (.t s56))])⟩
    (.one ⟨some s58, none, (.box 5 (.t s57))⟩
    (.one ⟨some s8, none, (.mv (.t s58))⟩
    .done)))))))) .skip))
  (.seq (.seq (.reg (.one ⟨some s59, none, (.mv (.t s8))⟩
    (.one ⟨some s60, none, (.load (some 2) (.t s6))⟩
    (.one ⟨some s61, none, (.mv (.t s7))⟩
    (.one ⟨some s62, none, (.callq 35 [(.t s59), (.t s60), (.t s61)])⟩
    (.one ⟨some s11, none, (.mv (.t s62))⟩
    .done))))))
  (.seq (.reg (.one ⟨some s63, none, (.mv (.t s11))⟩
    (.one ⟨some s64, none, (.bin false .neq (.t s63) (.c (.v (.int .i64 0))))⟩
    .done)))
  (.cond (.t s64) (.seq (.reg (.one ⟨some s65, none, (.mv (.t s11))⟩
    (.one ⟨some s4, none, (.mv (.t s65))⟩
    .done)))
  .ret) .skip)))
  (.seq (.reg (.one ⟨some s66, none, (.mv (.t s8))⟩
    (.one ⟨some s67, none, (.nilchk (.t s66))⟩
    (.one ⟨some s68, none, (.faddr 0 (.t s67))⟩
    (.one ⟨some s69, none, (.load none (.t s68))⟩
    (.one ⟨some s12, none, (.mv (.t s69))⟩
    .done))))))
  (.seq (.reg (.one ⟨some s70, none, (.mv (.t s8))⟩
    (.one ⟨some s71, none, (.mv (.t s12))⟩
    (.one ⟨some s72, none, (.callq 36 [(.t s71)])⟩
    (.one ⟨some s73, none, (.nilchk (.t s70))⟩
    (.one ⟨some s74, none, (.faddr 0 (.t s73))⟩
    (.one ⟨none, none, (.store 1 (.t s74) (.t s72))⟩
    .done)))))))
  (.seq (.reg (.one ⟨some s75, none, (.mv (.t s8))⟩
    (.one ⟨some s76, none, (.faddr 5 (.t s3))⟩
    (.one ⟨some s77, none, (.load none (.t s76))⟩
    (.one ⟨some s78, none, (.mv (.t s5))⟩
    (.one ⟨some s79, none, (.call 37 [(.t s75), (.t s77), (.t s78)])⟩
    .done))))))
  (.seq (.seq (.reg (.one ⟨some s80, none, (.mv (.t s8))⟩
    (.one ⟨some s81, none, (.nilchk (.t s80))⟩
    (.one ⟨some s82, none, (.faddr 1 (.t s81))⟩
    (.one ⟨some s83, none, (.load none (.t s82))⟩
    (.one ⟨some s84, none, (.load (some 2) (.t s6))⟩
    (.one ⟨some s85, none, (.call 38 [(.t s83), (.t s84)])⟩
    (.one ⟨some s13, none, (.mv (.t s85))⟩
    .done))))))))
  (.seq (.reg (.one ⟨some s86, none, (.mv (.t s13))⟩
    (.one ⟨some s87, none, (.bin false .neq (.t s86) (.c (.v (.int .i64 0))))⟩
    .done)))
  (.cond (.t s87) (.seq (.reg (.one ⟨some s88, none, (.mv (.t s8))⟩
    (.one ⟨some s89, none, (.mv (.t s12))⟩
    (.one ⟨some s90, none, (.nilchk (.t s88))⟩
    (.one ⟨some s91, none, (.faddr 0 (.t s90))⟩
    (.one ⟨none, none, (.store 1 (.t s91) (.t s89))⟩
    .done))))))
  (.seq (.reg (.one ⟨some s92, none, (.mv (.t s13))⟩
    (.one ⟨some s4, none, (.mv (.t s92))⟩
    .done)))
  .ret)) .skip)))
  (.seq (.reg (.one ⟨some s93, none, (.mv (.t s8))⟩
    (.one ⟨some s94, none, (.load (some 7) (.t s3))⟩
    (.one ⟨some s95, none, (.mv (.t s7))⟩
    (.one ⟨some s96, none, (.call 39 [(.t s93), (.t s94), (.t s95)])⟩
    .done)))))
  (.seq (.reg (.one ⟨some s97, none, (.mv (.t s0))⟩
    (.one ⟨some s98, none, (.nilchk (.t s97))⟩
    (.one ⟨some s99, none, (.faddr 0 (.t s98))⟩
    (.one ⟨some s100, none, (.load none (.t s99))⟩
    (.one ⟨some s101, none, (.faddr 2 (.t s3))⟩
    (.one ⟨some s102, none, (.load none (.t s101))⟩
    (.one ⟨some s103, none, (.mv (.t s8))⟩
    (.one ⟨none, none, (.mset (.t s100) (.t s102) (.t s103))⟩
    .done)))))))))
  (.seq (.reg (.one ⟨some s4, none, (.mv (.c (.v (.int .i64 0))))⟩
    .done))
  .ret)))))))))))))))⟩
theorem ok12 : compF Try.prog c12 Try.f12 = some ir12 := by kernel_rfl
theorem k_rxbuf_Buffer_Put {args : List AVal} {σ : AHeap} {Q : AVal → AHeap → Prop} (hl : Nat.ble args.length 104 = true) (h : argsK (Env.full 9) 0 args fun env => evC Try.prog c12 ir12.body env σ (retQ ir12 Q)) : ACalls Try.prog 12 args σ Q :=
  acalls_of Try.func12 ok12 rfl (Nat.le_of_ble_eq_true hl) h
/- rxbuf.Buffer).Take -/
def c14 : Cfg := ⟨qs, [], 70, [], ps⟩
def ir14 : IFun := ⟨2, [.tmp s4, .tmp s5, .tmp s6],
  (.seq (.reg (.one ⟨some s4, none, (.mv (.c (.v (.int .i64 0))))⟩
    (.one ⟨some s5, none, (.mv (.c (.slice 1 [] .full)))⟩
    (.one ⟨some s6, none, (.mv (.c (.v (.int .i64 0))))⟩
    .done))))
  (.seq (.reg (.one ⟨some s13, none, (.mv (.t s0))⟩
    (.one ⟨some s14, none, (.mv (.t s1))⟩
    (.one ⟨some s15, none, (.callq 40 [(.t s13), (.t s14)])⟩
    (.one ⟨some s12, none, (.mv (.t s15))⟩
    (.one ⟨some s16, none, (.ext (.t s12) 0)⟩
    (.one ⟨some s17, none, (.ext (.t s12) 1)⟩
    (.one ⟨some s7, none, (.mv (.t s16))⟩
    (.one ⟨some s8, none, (.mv (.t s17))⟩
    .done)))))))))
  (.seq (.block 0 (.seq (.reg (.one ⟨some s19, none, (.mv (.t s8))⟩
    (.one ⟨some s20, none, (.bin false .neq (.t s19) (.c (.v (.int .i64 0))))⟩
    (.one ⟨some s18, none, (.mv (.t s20))⟩
    .done))))
  (.cond (.t s18) (.seq (.reg (.one ⟨some s21, none, (.mv (.t s8))⟩
    (.one ⟨some s4, none, (.mv (.c (.v (.int .i64 0))))⟩
    (.one ⟨some s5, none, (.mv (.c (.slice 1 [] .full)))⟩
    (.one ⟨some s6, none, (.mv (.t s21))⟩
    .done)))))
  .ret) (.seq (.reg (.one ⟨some s23, none, (.mv (.t s7))⟩
    (.one ⟨some s24, none, (.callq 41 [(.t s23)])⟩
    (.one ⟨some s25, none, (.not (.t s24))⟩
    (.one ⟨some s22, none, (.mv (.t s25))⟩
    .done)))))
  (.cond (.t s22) (.seq (.reg (.one ⟨some s4, none, (.mv (.c (.v (.int .i64 0))))⟩
    (.one ⟨some s5, none, (.mv (.c (.slice 1 [] .full)))⟩
    (.one ⟨some s6, none, (.mv (.c (.v (.int .i64 8))))⟩
    .done))))
  .ret) .skip)))))
  (.seq (.reg (.one ⟨some s9, none, (.mv (.c (.slice 1 [] .full)))⟩
    .done))
  (.seq (.reg (.one ⟨some s10, none, (.mv (.c (.v (.int .i64 0))))⟩
    .done))
  (.seq (.seq (.reg (.one ⟨some s11, none, (.mv (.c (.v (.int .i64 1))))⟩
    .done))
  (.block 1 (.loop (.seq (.seq (.reg (.one ⟨some s26, none, (.mv (.t s11))⟩
    (.one ⟨some s27, none, (.mv (.t s7))⟩
    (.one ⟨some s28, none, (.nilchk (.t s27))⟩
    (.one ⟨some s29, none, (.faddr 2 (.t s28))⟩
    (.one ⟨some s30, none, (.load none (.t s29))⟩
    (.one ⟨some s31, none, (.bin false .leq (.t s26) (.t s30))⟩
    .done)))))))
  (.cond (.t s31) .skip (.exit 1)))
  (.seq (.block 2 (.seq (.reg (.one ⟨some s34, none, (.mv (.t s11))⟩
    (.one ⟨some s35, none, (.mv (.t s7))⟩
    (.one ⟨some s36, none, (.nilchk (.t s35))⟩
    (.one ⟨some s37, none, (.faddr 2 (.t s36))⟩
    (.one ⟨some s38, none, (.load none (.t s37))⟩
    (.one ⟨some s39, none, (.bin false .eql (.t s34) (.t s38))⟩
    (.one ⟨some s40, none, (.mv (.t s39))⟩
    (.one ⟨some s41, some (s40, false), (.mv (.t s7))⟩
    (.one ⟨some s42, some (s40, false), (.nilchk (.t s41))⟩
    (.one ⟨some s43, some (s40, false), (.faddr 3 (.t s42))⟩
    (.one ⟨some s44, some (s40, false), (.load none (.t s43))⟩
    (.one ⟨some s45, some (s40, false), (.mv (.t s11))⟩
    (.one ⟨some s46, some (s40, false), (.look (.v (.bool false)) (.t s44) (.t s45))⟩
    (.one ⟨some s47, none, (.pick (.t s40) (.c (.v (.bool true))) (.t s46))⟩
    .done)))))))))))))))
  (.cond (.t s47) (.seq (.reg (.one ⟨some s48, none, (.mv (.t s9))⟩
    (.one ⟨some s49, none, (.mv (.t s7))⟩
    (.one ⟨some s50, none, (.nilchk (.t s49))⟩
    (.one ⟨some s51, none, (.faddr 0 (.t s50))⟩
    (.one ⟨some s52, none, (.load none (.t s51))⟩
    (.one ⟨some s53, none, (.mv (.t s10))⟩
    (.one ⟨some s54, none, (.mv (.t s11))⟩
    (.one ⟨some s55, none, (.cut 1 (.t s52) (some (.t s53)) (some (.t s54)) none)⟩
    (.one ⟨some s56, none, (.callq 36 [(.t s55)])⟩
    (.one ⟨some s57, none, (.row 1 [(.t s56)])⟩
    (.one ⟨some s58, none, (.app 1 24 (.t s48) (.t s57))⟩
    (.one ⟨some s9, none, (.mv (.t s58))⟩
    .done)))))))))))))
  (.reg (.one ⟨some s59, none, (.mv (.t s11))⟩
    (.one ⟨some s10, none, (.mv (.t s59))⟩
    .done)))) .skip)))
  (.reg (.one ⟨some s32, none, (.mv (.t s11))⟩
    (.one ⟨some s33, none, (.bin false .add (.t s32) (.c (.v (.int .i64 1))))⟩
    (.one ⟨some s11, none, (.mv (.t s33))⟩
    .done)))))))))
  (.seq (.reg (.one ⟨some s60, none, (.mv (.t s0))⟩
    (.one ⟨some s61, none, (.nilchk (.t s60))⟩
    (.one ⟨some s62, none, (.faddr 0 (.t s61))⟩
    (.one ⟨some s63, none, (.load none (.t s62))⟩
    (.one ⟨some s64, none, (.mv (.t s1))⟩
    (.one ⟨none, none, (.mdel (.t s63) (.t s64))⟩
    .done)))))))
  (.seq (.reg (.one ⟨some s65, none, (.mv (.t s7))⟩
    (.one ⟨some s66, none, (.nilchk (.t s65))⟩
    (.one ⟨some s67, none, (.faddr 4 (.t s66))⟩
    (.one ⟨some s68, none, (.load none (.t s67))⟩
    (.one ⟨some s69, none, (.mv (.t s9))⟩
    (.one ⟨some s4, none, (.mv (.t s68))⟩
    (.one ⟨some s5, none, (.mv (.t s69))⟩
    (.one ⟨some s6, none, (.mv (.c (.v (.int .i64 0))))⟩
    .done)))))))))
  .ret))))))))⟩
theorem ok14 : compF Try.prog c14 Try.f14 = some ir14 := by kernel_rfl
theorem k_rxbuf_Buffer_Take {args : List AVal} {σ : AHeap} {Q : AVal → AHeap → Prop} (hl : Nat.ble args.length 70 = true) (h : argsK (Env.full 9) 0 args fun env => evC Try.prog c14 ir14.body env σ (retQ ir14 Q)) : ACalls Try.prog 14 args σ Q :=
  acalls_of Try.func14 ok14 rfl (Nat.le_of_ble_eq_true hl) h
/- rxbuf.Buffer).Bytes -/
def c17 : Cfg := ⟨qs, [], 27, [], ps⟩
def ir17 : IFun := ⟨1, [.tmp s2],
  (.seq (.reg (.one ⟨some s2, none, (.mv (.c (.v (.int .i64 0))))⟩
    .done))
  (.seq (.reg (.one ⟨some s3, none, (.mv (.c (.v (.int .i64 0))))⟩
    .done))
  (.seq (.seq (.reg (.one ⟨some s6, none, (.mv (.t s0))⟩
    (.one ⟨some s7, none, (.callq 46 [(.t s6)])⟩
    (.one ⟨some s8, none, (.len false (.t s7))⟩
    (.one ⟨some s9, none, (.mv (.c (.v (.int .i64 0))))⟩
    .done)))))
  (.block 0 (.loop (.seq (.reg (.one ⟨some s10, none, (.bin false .lss (.t s9) (.t s8))⟩
    .done))
  (.seq (.cond (.t s10) .skip (.exit 0))
  (.seq (.block 1 (.seq (.reg (.one ⟨some s11, none, (.iaddr 1 (.t s7) (.t s9))⟩
    (.one ⟨some s12, none, (.load none (.t s11))⟩
    (.one ⟨some s5, none, (.mv (.t s12))⟩
    .done))))
  (.reg (.one ⟨some s13, none, (.mv (.t s3))⟩
    (.one ⟨some s14, none, (.mv (.t s0))⟩
    (.one ⟨some s15, none, (.nilchk (.t s14))⟩
    (.one ⟨some s16, none, (.faddr 0 (.t s15))⟩
    (.one ⟨some s17, none, (.load none (.t s16))⟩
    (.one ⟨some s18, none, (.mv (.t s5))⟩
    (.one ⟨some s19, none, (.look (.v (.pointer none)) (.t s17) (.t s18))⟩
    (.one ⟨some s20, none, (.nilchk (.t s19))⟩
    (.one ⟨some s21, none, (.faddr 1 (.t s20))⟩
    (.one ⟨some s22, none, (.load none (.t s21))⟩
    (.one ⟨some s23, none, (.callq 47 [(.t s22)])⟩
    (.one ⟨some s24, none, (.bin false .add (.t s13) (.t s23))⟩
    (.one ⟨some s3, none, (.mv (.t s24))⟩
    .done))))))))))))))))
  (.reg (.one ⟨some s25, none, (.bin false .add (.t s9) (.c (.v (.int .i64 1))))⟩
    (.one ⟨some s9, none, (.mv (.t s25))⟩
    .done)))))))))
  (.seq (.reg (.one ⟨some s26, none, (.mv (.t s3))⟩
    (.one ⟨some s2, none, (.mv (.t s26))⟩
    .done)))
  .ret))))⟩
theorem ok17 : compF Try.prog c17 Try.f17 = some ir17 := by kernel_rfl
theorem k_rxbuf_Buffer_Bytes {args : List AVal} {σ : AHeap} {Q : AVal → AHeap → Prop} (hl : Nat.ble args.length 27 = true) (h : argsK (Env.full 9) 0 args fun env => evC Try.prog c17 ir17.body env σ (retQ ir17 Q)) : ACalls Try.prog 17 args σ Q :=
  acalls_of Try.func17 ok17 rfl (Nat.le_of_ble_eq_true hl) h
/- rxbuf.Buffer).made -/
def c32 : Cfg := ⟨qs, [], 12, [], ps⟩
def ir32 : IFun := ⟨1, [.tmp s2],
  (.seq (.reg (.one ⟨some s2, none, (.mv (.c (.v (.bool false))))⟩
    .done))
  (.seq (.reg (.one ⟨some s3, none, (.mv (.t s0))⟩
    (.one ⟨some s4, none, (.eqNil 1 true (.t s3))⟩
    (.one ⟨some s5, none, (.mv (.t s4))⟩
    (.one ⟨some s6, some (s5, true), (.mv (.t s0))⟩
    (.one ⟨some s7, some (s5, true), (.nilchk (.t s6))⟩
    (.one ⟨some s8, some (s5, true), (.faddr 0 (.t s7))⟩
    (.one ⟨some s9, some (s5, true), (.load none (.t s8))⟩
    (.one ⟨some s10, some (s5, true), (.eqNil 2 true (.t s9))⟩
    (.one ⟨some s11, none, (.pick (.t s5) (.t s10) (.c (.v (.bool false))))⟩
    (.one ⟨some s2, none, (.mv (.t s11))⟩
    .done)))))))))))
  .ret))⟩
theorem ok32 : compF Try.prog c32 Try.f32 = some ir32 := by kernel_rfl
theorem k_rxbuf_Buffer_made {args : List AVal} {σ : AHeap} {Q : AVal → AHeap → Prop} (hl : Nat.ble args.length 12 = true) (h : argsK (Env.full 9) 0 args fun env => evC Try.prog c32 ir32.body env σ (retQ ir32 Q)) : ACalls Try.prog 32 args σ Q :=
  acalls_of Try.func32 ok32 rfl (Nat.le_of_ble_eq_true hl) h
/- rxbuf.right -/
def c33 : Cfg := ⟨qs, [], 56, [], ps⟩
def ir33 : IFun := ⟨1, [.tmp s2],
  (.seq (.reg (.one ⟨some s1, none, (.box 7 (.t s0))⟩
    (.one ⟨some s2, none, (.mv (.c (.v (.bool false))))⟩
    .done)))
  (.seq (.reg (.one ⟨some s3, none, (.mv (.c (.func 61 [] [])))⟩
    .done))
  (.seq (.reg (.one ⟨some s5, none, (.faddr 6 (.t s1))⟩
    (.one ⟨some s6, none, (.load none (.t s5))⟩
    (.one ⟨some s7, none, (.len false (.t s6))⟩
    (.one ⟨some s4, none, (.mv (.t s7))⟩
    .done)))))
  (.seq (.seq (.reg (.one ⟨some s8, none, (.mv (.t s4))⟩
    (.one ⟨some s9, none, (.bin false .lss (.t s8) (.c (.v (.int .i64 1))))⟩
    (.one ⟨some s10, none, (.mv (.t s9))⟩
    (.one ⟨some s11, some (s10, false), (.mv (.t s4))⟩
    (.one ⟨some s12, some (s10, false), (.bin false .gtr (.t s11) (.c (.v (.int .i64 24))))⟩
    (.one ⟨some s13, none, (.pick (.t s10) (.c (.v (.bool true))) (.t s12))⟩
    (.one ⟨some s14, none, (.mv (.t s13))⟩
    (.one ⟨some s15, some (s14, false), (.faddr 6 (.t s1))⟩
    (.one ⟨some s16, some (s14, false), (.load none (.t s15))⟩
    (.one ⟨some s17, some (s14, false), (.mv (.t s3))⟩
    (.one ⟨some s18, some (s14, false), (.callq 43 [(.t s16), (.t s17)])⟩
    (.one ⟨some s19, none, (.pick (.t s14) (.c (.v (.bool true))) (.t s18))⟩
    (.one ⟨some s20, none, (.mv (.t s19))⟩
    (.one ⟨some s21, some (s20, false), (.faddr 1 (.t s1))⟩
    (.one ⟨some s22, some (s20, false), (.load none (.t s21))⟩
    (.one ⟨some s23, some (s20, false), (.bin false .lss (.t s22) (.c (.v (.int .i64 0))))⟩
    (.one ⟨some s24, none, (.pick (.t s20) (.c (.v (.bool true))) (.t s23))⟩
    (.one ⟨some s25, none, (.mv (.t s24))⟩
    (.one ⟨some s26, some (s25, false), (.faddr 1 (.t s1))⟩
    (.one ⟨some s27, some (s25, false), (.load none (.t s26))⟩
    (.one ⟨some s28, some (s25, false), (.bin false .gtr (.t s27) (.c (.v (.int .i64 3))))⟩
    (.one ⟨some s29, none, (.pick (.t s25) (.c (.v (.bool true))) (.t s28))⟩
    .done)))))))))))))))))))))))
  (.cond (.t s29) (.seq (.reg (.one ⟨some s2, none, (.mv (.c (.v (.bool false))))⟩
    .done))
  .ret) .skip))
  (.seq (.reg (.one ⟨some s30, none, (.faddr 5 (.t s1))⟩
    (.one ⟨some s31, none, (.load none (.t s30))⟩
    (.one ⟨some s32, none, (.bin false .geq (.t s31) (.c (.v (.int .i64 0))))⟩
    (.one ⟨some s33, none, (.mv (.t s32))⟩
    (.one ⟨some s34, some (s33, true), (.faddr 5 (.t s1))⟩
    (.one ⟨some s35, some (s33, true), (.load none (.t s34))⟩
    (.one ⟨some s36, some (s33, true), (.bin false .leq (.t s35) (.c (.v (.int .i64 4000))))⟩
    (.one ⟨some s37, none, (.pick (.t s33) (.t s36) (.c (.v (.bool false))))⟩
    (.one ⟨some s38, none, (.mv (.t s37))⟩
    (.one ⟨some s39, some (s38, true), (.faddr 3 (.t s1))⟩
    (.one ⟨some s40, some (s38, true), (.load none (.t s39))⟩
    (.one ⟨some s41, some (s38, true), (.mv (.t s40))⟩
    (.one ⟨some s42, some (s41, false), (.faddr 5 (.t s1))⟩
    (.one ⟨some s43, some (s41, false), (.load none (.t s42))⟩
    (.one ⟨some s44, some (s41, false), (.bin false .eql (.t s43) (.c (.v (.int .i64 0))))⟩
    (.one ⟨some s45, some (s38, true), (.pick (.t s41) (.c (.v (.bool true))) (.t s44))⟩
    (.one ⟨some s46, none, (.pick (.t s38) (.t s45) (.c (.v (.bool false))))⟩
    (.one ⟨some s47, none, (.mv (.t s46))⟩
    (.one ⟨some s48, some (s47, true), (.load (some 7) (.t s1))⟩
    (.one ⟨some s51, some (s47, true), (.faddr 5 (.t s1))⟩
    (.one ⟨some s52, some (s47, true), (.load none (.t s51))⟩
    (.one ⟨some s53, some (s47, true), (.bin false .sub (.c (.v (.int .i64 4000))) (.t s52))⟩
    (.one ⟨some s49, some (s47, true), (.callq 6 [(.t s48)])⟩
    (.one ⟨some s50, some (s47, true), (.len false (.t s49))⟩
    (.one ⟨some s54, some (s47, true), (.bin false .leq (.t s50) (.t s53))⟩
    (.one ⟨some s55, none, (.pick (.t s47) (.t s54) (.c (.v (.bool false))))⟩
    (.one ⟨some s2, none, (.mv (.t s55))⟩
    .done))))))))))))))))))))))))))))
  .ret)))))⟩
theorem ok33 : compF Try.prog c33 Try.f33 = some ir33 := by kernel_rfl
theorem k_rxbuf_right {args : List AVal} {σ : AHeap} {Q : AVal → AHeap → Prop} (hl : Nat.ble args.length 56 = true) (h : argsK (Env.full 9) 0 args fun env => evC Try.prog c33 ir33.body env σ (retQ ir33 Q)) : ACalls Try.prog 33 args σ Q :=
  acalls_of Try.func33 ok33 rfl (Nat.le_of_ble_eq_true hl) h
/- rxbuf.piece).fits -/
def c35 : Cfg := ⟨qs, [], 49, [], ps⟩
def ir35 : IFun := ⟨3, [.tmp s6],
  (.seq (.reg (.one ⟨some s4, none, (.box 2 (.t s1))⟩
    (.one ⟨some s6, none, (.mv (.c (.v (.int .i64 0))))⟩
    .done)))
  (.seq (.block 0 (.seq (.seq (.reg (.one ⟨some s8, none, (.mv (.t s0))⟩
    (.one ⟨some s9, none, (.nilchk (.t s8))⟩
    (.one ⟨some s10, none, (.faddr 2 (.t s9))⟩
    (.one ⟨some s11, none, (.load none (.t s10))⟩
    (.one ⟨some s12, none, (.bin false .neq (.t s11) (.c (.v (.int .i64 (-1)))))⟩
    (.one ⟨some s13, none, (.mv (.t s12))⟩
    (.one ⟨some s14, some (s13, true), (.faddr 1 (.t s4))⟩
    (.one ⟨some s15, some (s13, true), (.load none (.t s14))⟩
    (.one ⟨some s16, some (s13, true), (.mv (.t s0))⟩
    (.one ⟨some s17, some (s13, true), (.nilchk (.t s16))⟩
    (.one ⟨some s18, some (s13, true), (.faddr 2 (.t s17))⟩
    (.one ⟨some s19, some (s13, true), (.load none (.t s18))⟩
    (.one ⟨some s20, some (s13, true), (.bin false .gtr (.t s15) (.t s19))⟩
    (.one ⟨some s21, some (s13, true), (.mv (.t s20))⟩
    (.one ⟨some s22, some (s21, false), (.mv (.t s2))⟩
    (.one ⟨some s23, some (s21, false), (.mv (.t s22))⟩
    (.one ⟨some s24, some (s23, true), (.faddr 1 (.t s4))⟩
    (.one ⟨some s25, some (s23, true), (.load none (.t s24))⟩
    (.one ⟨some s26, some (s23, true), (.mv (.t s0))⟩
    (.one ⟨some s27, some (s23, true), (.nilchk (.t s26))⟩
    (.one ⟨some s28, some (s23, true), (.faddr 2 (.t s27))⟩
    (.one ⟨some s29, some (s23, true), (.load none (.t s28))⟩
    (.one ⟨some s30, some (s23, true), (.bin false .neq (.t s25) (.t s29))⟩
    (.one ⟨some s31, some (s21, false), (.pick (.t s23) (.t s30) (.c (.v (.bool false))))⟩
    (.one ⟨some s32, some (s13, true), (.pick (.t s21) (.c (.v (.bool true))) (.t s31))⟩
    (.one ⟨some s33, none, (.pick (.t s13) (.t s32) (.c (.v (.bool false))))⟩
    (.one ⟨some s7, none, (.mv (.t s33))⟩
    .done))))))))))))))))))))))))))))
  (.cond (.t s7) .skip (.reg (.one ⟨some s34, none, (.mv (.t s2))⟩
    (.one ⟨some s35, none, (.mv (.t s34))⟩
    (.one ⟨some s36, some (s35, true), (.mv (.t s0))⟩
    (.one ⟨some s38, some (s35, true), (.faddr 1 (.t s4))⟩
    (.one ⟨some s39, some (s35, true), (.load none (.t s38))⟩
    (.one ⟨some s37, some (s35, true), (.callq 62 [(.t s36)])⟩
    (.one ⟨some s40, some (s35, true), (.bin false .gtr (.t s37) (.t s39))⟩
    (.one ⟨some s41, none, (.pick (.t s35) (.t s40) (.c (.v (.bool false))))⟩
    (.one ⟨some s7, none, (.mv (.t s41))⟩
    .done))))))))))))
  (.cond (.t s7) (.seq (.reg (.one ⟨some s6, none, (.mv (.c (.v (.int .i64 3))))⟩
    .done))
  .ret) (.seq (.reg (.one ⟨some s43, none, (.mv (.t s0))⟩
    (.one ⟨some s44, none, (.nilchk (.t s43))⟩
    (.one ⟨some s45, none, (.faddr 1 (.t s44))⟩
    (.one ⟨some s46, none, (.load none (.t s45))⟩
    (.one ⟨some s47, none, (.load (some 2) (.t s4))⟩
    (.one ⟨some s48, none, (.callq 63 [(.t s46), (.t s47)])⟩
    (.one ⟨some s42, none, (.mv (.t s48))⟩
    .done))))))))
  (.cond (.t s42) (.seq (.reg (.one ⟨some s6, none, (.mv (.c (.v (.int .i64 12))))⟩
    .done))
  .ret) .skip)))))
  (.seq (.reg (.one ⟨some s6, none, (.mv (.c (.v (.int .i64 0))))⟩
    .done))
  .ret)))⟩
theorem ok35 : compF Try.prog c35 Try.f35 = some ir35 := by kernel_rfl
theorem k_rxbuf_piece_fits {args : List AVal} {σ : AHeap} {Q : AVal → AHeap → Prop} (hl : Nat.ble args.length 49 = true) (h : argsK (Env.full 9) 0 args fun env => evC Try.prog c35 ir35.body env σ (retQ ir35 Q)) : ACalls Try.prog 35 args σ Q :=
  acalls_of Try.func35 ok35 rfl (Nat.le_of_ble_eq_true hl) h
/- rxbuf.piece).fill -/
def c37m : Cfg := ⟨qs, [22, 25, 26, 52, 109], 66, [], ps⟩
def ir37m : IFun := ⟨3, [],
  (.seq (.reg (.one ⟨some s9, none, (.mv (.t s1))⟩
    (.one ⟨some s10, none, (.mv (.t s2))⟩
    (.one ⟨some s11, none, (.len false (.t s10))⟩
    (.one ⟨some s12, none, (.bin false .add (.t s9) (.t s11))⟩
    (.one ⟨some s6, none, (.mv (.t s12))⟩
    .done))))))
  (.seq (.seq (.reg (.one ⟨some s13, none, (.mv (.t s0))⟩
    (.one ⟨some s14, none, (.nilchk (.t s13))⟩
    (.one ⟨some s15, none, (.faddr 0 (.t s14))⟩
    (.one ⟨some s16, none, (.load none (.t s15))⟩
    (.one ⟨some s17, none, (.len false (.t s16))⟩
    (.one ⟨some s18, none, (.mv (.t s6))⟩
    (.one ⟨some s19, none, (.bin false .lss (.t s17) (.t s18))⟩
    .done))))))))
  (.cond (.t s19) (.reg (.one ⟨some s20, none, (.mv (.t s0))⟩
    (.one ⟨some s21, none, (.mv (.t s0))⟩
    (.one ⟨some s22, none, (.nilchk (.t s21))⟩
    (.one ⟨some s23, none, (.faddr 0 (.t s22))⟩
    (.one ⟨some s24, none, (.load none (.t s23))⟩
    (.one ⟨some s25, none, (.mv (.t s6))⟩
    (.one ⟨some s26, none, (.mv (.t s0))⟩
    (.one ⟨some s27, none, (.nilchk (.t s26))⟩
    (.one ⟨some s28, none, (.faddr 0 (.t s27))⟩
    (.one ⟨some s29, none, (.load none (.t s28))⟩
    (.one ⟨some s30, none, (.len false (.t s29))⟩
    (.one ⟨some s31, none, (.bin false .sub (.t s25) (.t s30))⟩
    (.one ⟨some s32, none, (.app0 1 1 (.v (.int .u8 0)) (.t s24) (.t s31))⟩
    (.one ⟨some s33, none, (.nilchk (.t s20))⟩
    (.one ⟨some s34, none, (.faddr 0 (.t s33))⟩
    (.one ⟨none, none, (.store 1 (.t s34) (.t s32))⟩
    .done))))))))))))))))) .skip))
  (.seq (.reg (.one ⟨some s35, none, (.mv (.t s2))⟩
    (.one ⟨some s36, none, (.len false (.t s35))⟩
    (.one ⟨some s37, none, (.mv (.c (.v (.int .i64 0))))⟩
    .done))))
  (.block 0 (.loop (.seq (.reg (.one ⟨some s38, none, (.bin false .lss (.t s37) (.t s36))⟩
    .done))
  (.seq (.cond (.t s38) .skip (.exit 0))
  (.seq (.block 1 (.seq (.reg (.one ⟨some s39, none, (.mv (.t s37))⟩
    (.one ⟨some s40, none, (.iaddr 1 (.t s35) (.t s37))⟩
    (.one ⟨some s41, none, (.load none (.t s40))⟩
    (.one ⟨some s7, none, (.mv (.t s39))⟩
    (.one ⟨some s8, none, (.mv (.t s41))⟩
    .done))))))
  (.seq (.reg (.one ⟨some s42, none, (.mv (.t s0))⟩
    (.one ⟨some s43, none, (.nilchk (.t s42))⟩
    (.one ⟨some s44, none, (.faddr 1 (.t s43))⟩
    (.one ⟨some s45, none, (.load none (.t s44))⟩
    (.one ⟨some s46, none, (.mv (.t s1))⟩
    (.one ⟨some s47, none, (.mv (.t s7))⟩
    (.one ⟨some s48, none, (.bin false .add (.t s46) (.t s47))⟩
    (.one ⟨some s49, none, (.mv (.t s1))⟩
    (.one ⟨some s50, none, (.mv (.t s7))⟩
    (.one ⟨some s51, none, (.bin false .add (.t s49) (.t s50))⟩
    (.one ⟨some s52, none, (.bin false .add (.t s51) (.c (.v (.int .i64 1))))⟩
    (.one ⟨some s53, none, (.build [(.v (.int .i64 0)), (.v (.int .i64 0))] [(0, 1, (.t s48)), (1, 1, (.t s52))])⟩
    (.one ⟨some s54, none, (.callq 63 [(.t s45), (.t s53)])⟩
    (.one ⟨some s55, none, (.not (.t s54))⟩
    .done)))))))))))))))
  (.cond (.t s55) (.reg (.one ⟨some s56, none, (.mv (.t s0))⟩
    (.one ⟨some s57, none, (.nilchk (.t s56))⟩
    (.one ⟨some s58, none, (.faddr 0 (.t s57))⟩
    (.one ⟨some s59, none, (.load none (.t s58))⟩
    (.one ⟨some s60, none, (.mv (.t s1))⟩
    (.one ⟨some s61, none, (.mv (.t s7))⟩
    (.one ⟨some s62, none, (.bin false .add (.t s60) (.t s61))⟩
    (.one ⟨some s63, none, (.mv (.t s8))⟩
    (.one ⟨some s64, none, (.iaddr 1 (.t s59) (.t s62))⟩
    (.one ⟨none, none, (.store 1 (.t s64) (.t s63))⟩
    .done))))))))))) .skip))))
  (.reg (.one ⟨some s65, none, (.bin false .add (.t s37) (.c (.v (.int .i64 1))))⟩
    (.one ⟨some s37, none, (.mv (.t s65))⟩
    .done)))))))))))⟩
theorem ok37m : compF Try.prog c37m Try.f37 = some ir37m := by kernel_rfl
theorem km_rxbuf_piece_fill {args : List AVal} {σ : AHeap} {Q : AVal → AHeap → Prop} (hl : Nat.ble args.length 66 = true) (h : argsK (Env.full 9) 0 args fun env => evC Try.prog c37m ir37m.body env σ (retQ ir37m Q)) : ACalls Try.prog 37 args σ Q :=
  acalls_of Try.func37 ok37m rfl (Nat.le_of_ble_eq_true hl) h
/- rxbuf.piece).note -/
def c39 : Cfg := ⟨qs, [], 78, [], ps⟩
def ir39 : IFun := ⟨3, [],
  (.seq (.reg (.one ⟨some s4, none, (.box 7 (.t s1))⟩
    .done))
  (.seq (.reg (.one ⟨some s9, none, (.faddr 5 (.t s4))⟩
    (.one ⟨some s10, none, (.load none (.t s9))⟩
    (.one ⟨some s6, none, (.mv (.t s10))⟩
    .done))))
  (.seq (.seq (.reg (.one ⟨some s11, none, (.mv (.t s6))⟩
    (.one ⟨some s12, none, (.bin false .eql (.t s11) (.c (.v (.int .i64 0))))⟩
    .done)))
  (.cond (.t s12) (.reg (.one ⟨some s13, none, (.mv (.t s0))⟩
    (.one ⟨some s14, none, (.nilchk (.t s13))⟩
    (.one ⟨some s15, none, (.faddr 4 (.t s14))⟩
    (.one ⟨some s16, none, (.load none (.t s15))⟩
    (.one ⟨some s17, none, (.faddr 1 (.t s4))⟩
    (.one ⟨some s18, none, (.load none (.t s17))⟩
    (.one ⟨some s19, none, (.bin false .and (.t s18) (.c (.v (.int .i64 2))))⟩
    (.one ⟨some s20, none, (.bin false .or (.t s16) (.t s19))⟩
    (.one ⟨some s21, none, (.nilchk (.t s13))⟩
    (.one ⟨some s22, none, (.faddr 4 (.t s21))⟩
    (.one ⟨none, none, (.store 1 (.t s22) (.t s20))⟩
    .done)))))))))))) (.seq (.reg (.one ⟨some s23, none, (.faddr 1 (.t s4))⟩
    (.one ⟨some s24, none, (.load none (.t s23))⟩
    (.one ⟨some s25, none, (.bin false .and (.t s24) (.c (.v (.int .i64 2))))⟩
    (.one ⟨some s26, none, (.bin false .eql (.t s25) (.c (.v (.int .i64 0))))⟩
    .done)))))
  (.cond (.t s26) (.reg (.one ⟨some s27, none, (.mv (.t s0))⟩
    (.one ⟨some s28, none, (.nilchk (.t s27))⟩
    (.one ⟨some s29, none, (.faddr 3 (.t s28))⟩
    (.one ⟨some s30, none, (.load none (.t s29))⟩
    (.one ⟨some s31, none, (.mv (.t s6))⟩
    (.one ⟨none, none, (.mset (.t s30) (.t s31) (.c (.v (.bool true))))⟩
    .done))))))) .skip))))
  (.seq (.seq (.reg (.one ⟨some s32, none, (.faddr 6 (.t s4))⟩
    (.one ⟨some s33, none, (.load none (.t s32))⟩
    (.one ⟨some s34, none, (.len false (.t s33))⟩
    (.one ⟨some s35, none, (.mv (.c (.v (.int .i64 0))))⟩
    .done)))))
  (.block 0 (.loop (.seq (.reg (.one ⟨some s36, none, (.bin false .lss (.t s35) (.t s34))⟩
    .done))
  (.seq (.cond (.t s36) .skip (.exit 0))
  (.seq (.block 1 (.seq (.reg (.one ⟨some s37, none, (.mv (.t s35))⟩
    (.one ⟨some s38, none, (.iaddr 1 (.t s33) (.t s35))⟩
    (.one ⟨some s39, none, (.load none (.t s38))⟩
    (.one ⟨some s7, none, (.mv (.t s37))⟩
    (.one ⟨some s8, none, (.mv (.t s39))⟩
    .done))))))
  (.seq (.seq (.reg (.one ⟨some s40, none, (.mv (.t s7))⟩
    (.one ⟨some s41, none, (.bin false .gtr (.t s40) (.c (.v (.int .i64 0))))⟩
    .done)))
  (.cond (.t s41) (.reg (.one ⟨some s42, none, (.mv (.t s0))⟩
    (.one ⟨some s43, none, (.nilchk (.t s42))⟩
    (.one ⟨some s44, none, (.faddr 3 (.t s43))⟩
    (.one ⟨some s45, none, (.load none (.t s44))⟩
    (.one ⟨some s46, none, (.mv (.t s6))⟩
    (.one ⟨none, none, (.mset (.t s45) (.t s46) (.c (.v (.bool true))))⟩
    .done))))))) .skip))
  (.reg (.one ⟨some s47, none, (.mv (.t s6))⟩
    (.one ⟨some s48, none, (.mv (.t s8))⟩
    (.one ⟨some s49, none, (.len false (.t s48))⟩
    (.one ⟨some s50, none, (.bin false .add (.t s47) (.t s49))⟩
    (.one ⟨some s6, none, (.mv (.t s50))⟩
    .done)))))))))
  (.reg (.one ⟨some s51, none, (.bin false .add (.t s35) (.c (.v (.int .i64 1))))⟩
    (.one ⟨some s35, none, (.mv (.t s51))⟩
    .done)))))))))
  (.block 2 (.seq (.reg (.one ⟨some s53, none, (.mv (.t s2))⟩
    (.one ⟨some s52, none, (.mv (.t s53))⟩
    .done)))
  (.cond (.t s52) (.seq (.reg (.one ⟨some s54, none, (.mv (.t s0))⟩
    (.one ⟨some s55, none, (.mv (.t s6))⟩
    (.one ⟨some s56, none, (.nilchk (.t s54))⟩
    (.one ⟨some s57, none, (.faddr 2 (.t s56))⟩
    (.one ⟨none, none, (.store 1 (.t s57) (.t s55))⟩
    .done))))))
  (.reg (.one ⟨some s58, none, (.mv (.t s0))⟩
    (.one ⟨some s59, none, (.nilchk (.t s58))⟩
    (.one ⟨some s60, none, (.faddr 4 (.t s59))⟩
    (.one ⟨some s61, none, (.load none (.t s60))⟩
    (.one ⟨some s62, none, (.faddr 1 (.t s4))⟩
    (.one ⟨some s63, none, (.load none (.t s62))⟩
    (.one ⟨some s64, none, (.bin false .and (.t s63) (.c (.v (.int .i64 1))))⟩
    (.one ⟨some s65, none, (.bin false .or (.t s61) (.t s64))⟩
    (.one ⟨some s66, none, (.nilchk (.t s58))⟩
    (.one ⟨some s67, none, (.faddr 4 (.t s66))⟩
    (.one ⟨none, none, (.store 1 (.t s67) (.t s65))⟩
    .done))))))))))))) (.seq (.reg (.one ⟨some s69, none, (.faddr 1 (.t s4))⟩
    (.one ⟨some s70, none, (.load none (.t s69))⟩
    (.one ⟨some s71, none, (.bin false .and (.t s70) (.c (.v (.int .i64 1))))⟩
    (.one ⟨some s72, none, (.bin false .eql (.t s71) (.c (.v (.int .i64 0))))⟩
    (.one ⟨some s68, none, (.mv (.t s72))⟩
    .done))))))
  (.cond (.t s68) (.reg (.one ⟨some s73, none, (.mv (.t s0))⟩
    (.one ⟨some s74, none, (.nilchk (.t s73))⟩
    (.one ⟨some s75, none, (.faddr 3 (.t s74))⟩
    (.one ⟨some s76, none, (.load none (.t s75))⟩
    (.one ⟨some s77, none, (.mv (.t s6))⟩
    (.one ⟨none, none, (.mset (.t s76) (.t s77) (.c (.v (.bool true))))⟩
    .done))))))) .skip)))))))))⟩
theorem ok39 : compF Try.prog c39 Try.f39 = some ir39 := by kernel_rfl
theorem k_rxbuf_piece_note {args : List AVal} {σ : AHeap} {Q : AVal → AHeap → Prop} (hl : Nat.ble args.length 78 = true) (h : argsK (Env.full 9) 0 args fun env => evC Try.prog c39 ir39.body env σ (retQ ir39 Q)) : ACalls Try.prog 39 args σ Q :=
  acalls_of Try.func39 ok39 rfl (Nat.le_of_ble_eq_true hl) h
/- rxbuf.Buffer).find -/
def c40 : Cfg := ⟨qs, [], 19, [], ps⟩
def ir40 : IFun := ⟨2, [.tmp s4, .tmp s5],
  (.seq (.reg (.one ⟨some s4, none, (.mv (.c (.v (.pointer none))))⟩
    (.one ⟨some s5, none, (.mv (.c (.v (.int .i64 0))))⟩
    .done)))
  (.seq (.seq (.reg (.one ⟨some s7, none, (.mv (.t s0))⟩
    (.one ⟨some s8, none, (.callq 32 [(.t s7)])⟩
    (.one ⟨some s9, none, (.not (.t s8))⟩
    .done))))
  (.cond (.t s9) (.seq (.reg (.one ⟨some s4, none, (.mv (.c (.v (.pointer none))))⟩
    (.one ⟨some s5, none, (.mv (.c (.v (.int .i64 6))))⟩
    .done)))
  .ret) .skip))
  (.seq (.reg (.one ⟨some s10, none, (.mv (.t s0))⟩
    (.one ⟨some s11, none, (.nilchk (.t s10))⟩
    (.one ⟨some s12, none, (.faddr 0 (.t s11))⟩
    (.one ⟨some s13, none, (.load none (.t s12))⟩
    (.one ⟨some s14, none, (.mv (.t s1))⟩
    (.one ⟨some s15, none, (.look (.v (.pointer none)) (.t s13) (.t s14))⟩
    (.one ⟨some s6, none, (.mv (.t s15))⟩
    .done))))))))
  (.seq (.seq (.reg (.one ⟨some s16, none, (.mv (.t s6))⟩
    (.one ⟨some s17, none, (.eqNil 1 false (.t s16))⟩
    .done)))
  (.cond (.t s17) (.seq (.reg (.one ⟨some s4, none, (.mv (.c (.v (.pointer none))))⟩
    (.one ⟨some s5, none, (.mv (.c (.v (.int .i64 4))))⟩
    .done)))
  .ret) .skip))
  (.seq (.reg (.one ⟨some s18, none, (.mv (.t s6))⟩
    (.one ⟨some s4, none, (.mv (.t s18))⟩
    (.one ⟨some s5, none, (.mv (.c (.v (.int .i64 0))))⟩
    .done))))
  .ret)))))⟩
theorem ok40 : compF Try.prog c40 Try.f40 = some ir40 := by kernel_rfl
theorem k_rxbuf_Buffer_find {args : List AVal} {σ : AHeap} {Q : AVal → AHeap → Prop} (hl : Nat.ble args.length 19 = true) (h : argsK (Env.full 9) 0 args fun env => evC Try.prog c40 ir40.body env σ (retQ ir40 Q)) : ACalls Try.prog 40 args σ Q :=
  acalls_of Try.func40 ok40 rfl (Nat.le_of_ble_eq_true hl) h
/- rxbuf.piece).whole -/
def c41 : Cfg := ⟨qs, [], 20, [], ps⟩
def ir41 : IFun := ⟨1, [.tmp s2],
  (.seq (.reg (.one ⟨some s2, none, (.mv (.c (.v (.bool false))))⟩
    .done))
  (.seq (.reg (.one ⟨some s3, none, (.mv (.t s0))⟩
    (.one ⟨some s4, none, (.nilchk (.t s3))⟩
    (.one ⟨some s5, none, (.faddr 2 (.t s4))⟩
    (.one ⟨some s6, none, (.load none (.t s5))⟩
    (.one ⟨some s7, none, (.bin false .gtr (.t s6) (.c (.v (.int .i64 0))))⟩
    (.one ⟨some s8, none, (.mv (.t s7))⟩
    (.one ⟨some s9, some (s8, true), (.mv (.t s0))⟩
    (.one ⟨some s10, some (s8, true), (.nilchk (.t s9))⟩
    (.one ⟨some s11, some (s8, true), (.faddr 1 (.t s10))⟩
    (.one ⟨some s12, some (s8, true), (.load none (.t s11))⟩
    (.one ⟨some s13, some (s8, true), (.mv (.t s0))⟩
    (.one ⟨some s14, some (s8, true), (.nilchk (.t s13))⟩
    (.one ⟨some s15, some (s8, true), (.faddr 2 (.t s14))⟩
    (.one ⟨some s16, some (s8, true), (.load none (.t s15))⟩
    (.one ⟨some s17, some (s8, true), (.build [(.v (.int .i64 0)), (.v (.int .i64 0))] [(0, 1, (.c (.v (.int .i64 0)))), (1, 1, (.t s16))])⟩
    (.one ⟨some s18, some (s8, true), (.callq 63 [(.t s12), (.t s17)])⟩
    (.one ⟨some s19, none, (.pick (.t s8) (.t s18) (.c (.v (.bool false))))⟩
    (.one ⟨some s2, none, (.mv (.t s19))⟩
    .done)))))))))))))))))))
  .ret))⟩
theorem ok41 : compF Try.prog c41 Try.f41 = some ir41 := by kernel_rfl
theorem k_rxbuf_piece_whole {args : List AVal} {σ : AHeap} {Q : AVal → AHeap → Prop} (hl : Nat.ble args.length 20 = true) (h : argsK (Env.full 9) 0 args fun env => evC Try.prog c41 ir41.body env σ (retQ ir41 Q)) : ACalls Try.prog 41 args σ Q :=
  acalls_of Try.func41 ok41 rfl (Nat.le_of_ble_eq_true hl) h
/- rxbuf.right$1 -/
def c61 : Cfg := ⟨qs, [], 6, [], ps⟩
def ir61 : IFun := ⟨1, [.tmp s2],
  (.seq (.reg (.one ⟨some s2, none, (.mv (.c (.v (.bool false))))⟩
    .done))
  (.seq (.reg (.one ⟨some s3, none, (.mv (.t s0))⟩
    (.one ⟨some s4, none, (.len false (.t s3))⟩
    (.one ⟨some s5, none, (.bin false .eql (.t s4) (.c (.v (.int .i64 0))))⟩
    (.one ⟨some s2, none, (.mv (.t s5))⟩
    .done)))))
  .ret))⟩
theorem ok61 : compF Try.prog c61 Try.f61 = some ir61 := by kernel_rfl
theorem k_rxbuf_right_1 {args : List AVal} {σ : AHeap} {Q : AVal → AHeap → Prop} (hl : Nat.ble args.length 6 = true) (h : argsK (Env.full 9) 0 args fun env => evC Try.prog c61 ir61.body env σ (retQ ir61 Q)) : ACalls Try.prog 61 args σ Q :=
  acalls_of Try.func61 ok61 rfl (Nat.le_of_ble_eq_true hl) h
/- rxbuf.piece).top -/
def c62 : Cfg := ⟨qs, [], 19, [], ps⟩
def ir62 : IFun := ⟨1, [.tmp s2],
  (.seq (.reg (.one ⟨some s2, none, (.mv (.c (.v (.int .i64 0))))⟩
    .done))
  (.seq (.reg (.one ⟨some s4, none, (.mv (.t s0))⟩
    (.one ⟨some s5, none, (.nilchk (.t s4))⟩
    (.one ⟨some s6, none, (.faddr 1 (.t s5))⟩
    (.one ⟨some s7, none, (.load none (.t s6))⟩
    (.one ⟨some s8, none, (.callq 73 [(.t s7)])⟩
    (.one ⟨some s3, none, (.mv (.t s8))⟩
    .done)))))))
  (.seq (.seq (.reg (.one ⟨some s9, none, (.mv (.t s3))⟩
    (.one ⟨some s10, none, (.len false (.t s9))⟩
    (.one ⟨some s11, none, (.bin false .eql (.t s10) (.c (.v (.int .i64 0))))⟩
    .done))))
  (.cond (.t s11) (.seq (.reg (.one ⟨some s2, none, (.mv (.c (.v (.int .i64 0))))⟩
    .done))
  .ret) .skip))
  (.seq (.reg (.one ⟨some s12, none, (.mv (.t s3))⟩
    (.one ⟨some s13, none, (.mv (.t s3))⟩
    (.one ⟨some s14, none, (.len false (.t s13))⟩
    (.one ⟨some s15, none, (.bin false .sub (.t s14) (.c (.v (.int .i64 1))))⟩
    (.one ⟨some s16, none, (.iaddr 2 (.t s12) (.t s15))⟩
    (.one ⟨some s17, none, (.faddr 1 (.t s16))⟩
    (.one ⟨some s18, none, (.load none (.t s17))⟩
    (.one ⟨some s2, none, (.mv (.t s18))⟩
    .done)))))))))
  .ret))))⟩
theorem ok62 : compF Try.prog c62 Try.f62 = some ir62 := by kernel_rfl
theorem k_rxbuf_piece_top {args : List AVal} {σ : AHeap} {Q : AVal → AHeap → Prop} (hl : Nat.ble args.length 19 = true) (h : argsK (Env.full 9) 0 args fun env => evC Try.prog c62 ir62.body env σ (retQ ir62 Q)) : ACalls Try.prog 62 args σ Q :=
  acalls_of Try.func62 ok62 rfl (Nat.le_of_ble_eq_true hl) h
end Go.Proofs.Ytgbpjbpdpgbngaa
/-
  The bodies of one package, compiled to the framework's language (printed by a program of this session).
-/
namespace Go.Proofs.Ytgbpjbpdpgbngaa
open Go Go.Am
/- reseg.Cut -/
def c7 : Cfg := ⟨qs, [], 209, [], ps⟩
def ir7 : IFun := ⟨5, [.cell s10 (some 7), .tmp s11, .tmp s12],
  (.seq (.reg (.one ⟨some s5, none, (.box 7 (.t s0))⟩
    (.one ⟨some s10, none, (.new [(.v (.bool false)), (.v (.int .i64 0)), (.v (.int .i64 0)), (.v (.bool false)), (.v (.bool false)), (.v (.int .i64 0)), (.slice 1 [] .full)])⟩
    (.one ⟨some s11, none, (.mv (.c (.v (.int .i64 0))))⟩
    (.one ⟨some s12, none, (.mv (.c (.v (.int .i64 0))))⟩
    .done)))))
  (.scope (.seq (.seq (.reg (.one ⟨some s22, none, (.faddr 3 (.t s5))⟩
    (.one ⟨some s23, none, (.load none (.t s22))⟩
    (.one ⟨some s24, none, (.mv (.t s23))⟩
    (.one ⟨some s25, some (s24, false), (.load (some 7) (.t s5))⟩
    (.one ⟨some s26, some (s24, false), (.mv (.t s4))⟩
    (.one ⟨some s27, some (s24, false), (.callq 4 [(.t s25), (.t s26)])⟩
    (.one ⟨some s28, some (s24, false), (.not (.t s27))⟩
    (.one ⟨some s29, none, (.pick (.t s24) (.c (.v (.bool true))) (.t s28))⟩
    .done)))))))))
  (.cond (.t s29) (.seq (.reg (.one ⟨some s30, none, (.build [(.v (.bool false)), (.v (.int .i64 0)), (.v (.int .i64 0)), (.v (.bool false)), (.v (.bool false)), (.v (.int .i64 0)), (.slice 1 [] .full)] [])⟩
    (.one ⟨none, none, (.store 7 (.t s10) (.t s30))⟩
    (.one ⟨some s11, none, (.mv (.c (.v (.int .i64 0))))⟩
    (.one ⟨some s12, none, (.mv (.c (.v (.int .i64 3))))⟩
    .done)))))
  .ret) .skip))
  (.seq (.reg (.one ⟨some s31, none, (.load (some 7) (.t s5))⟩
    (.one ⟨some s33, none, (.load (some 7) (.t s5))⟩
    (.one ⟨some s32, none, (.callq 6 [(.t s31)])⟩
    (.one ⟨some s34, none, (.callq 20 [(.t s33)])⟩
    (.one ⟨some s13, none, (.mv (.t s32))⟩
    (.one ⟨some s14, none, (.mv (.t s34))⟩
    .done)))))))
  (.seq (.block 0 (.seq (.reg (.one ⟨some s36, none, (.mv (.t s3))⟩
    (.one ⟨some s37, none, (.bin false .lss (.t s36) (.c (.v (.int .i64 0))))⟩
    (.one ⟨some s38, none, (.mv (.t s37))⟩
    (.one ⟨some s39, some (s38, false), (.mv (.t s3))⟩
    (.one ⟨some s40, some (s38, false), (.bin false .gtr (.t s39) (.c (.v (.int .i64 4096))))⟩
    (.one ⟨some s41, none, (.pick (.t s38) (.c (.v (.bool true))) (.t s40))⟩
    (.one ⟨some s42, none, (.mv (.t s41))⟩
    (.one ⟨some s43, some (s42, false), (.mv (.t s1))⟩
    (.one ⟨some s44, some (s42, false), (.bin false .lss (.t s43) (.c (.v (.int .i64 0))))⟩
    (.one ⟨some s45, none, (.pick (.t s42) (.c (.v (.bool true))) (.t s44))⟩
    (.one ⟨some s46, none, (.mv (.t s45))⟩
    (.one ⟨some s47, some (s46, false), (.mv (.t s1))⟩
    (.one ⟨some s48, some (s46, false), (.mv (.t s2))⟩
    (.one ⟨some s49, some (s46, false), (.bin false .geq (.t s47) (.t s48))⟩
    (.one ⟨some s50, none, (.pick (.t s46) (.c (.v (.bool true))) (.t s49))⟩
    (.one ⟨some s51, none, (.mv (.t s50))⟩
    (.one ⟨some s52, some (s51, false), (.mv (.t s2))⟩
    (.one ⟨some s53, some (s51, false), (.mv (.t s13))⟩
    (.one ⟨some s54, some (s51, false), (.len false (.t s53))⟩
    (.one ⟨some s55, some (s51, false), (.bin false .gtr (.t s52) (.t s54))⟩
    (.one ⟨some s56, none, (.pick (.t s51) (.c (.v (.bool true))) (.t s55))⟩
    (.one ⟨some s35, none, (.mv (.t s56))⟩
    .done)))))))))))))))))))))))
  (.cond (.t s35) (.seq (.reg (.one ⟨some s57, none, (.build [(.v (.bool false)), (.v (.int .i64 0)), (.v (.int .i64 0)), (.v (.bool false)), (.v (.bool false)), (.v (.int .i64 0)), (.slice 1 [] .full)] [])⟩
    (.one ⟨none, none, (.store 7 (.t s10) (.t s57))⟩
    (.one ⟨some s11, none, (.mv (.c (.v (.int .i64 0))))⟩
    (.one ⟨some s12, none, (.mv (.c (.v (.int .i64 1))))⟩
    .done)))))
  .ret) (.seq (.reg (.one ⟨some s59, none, (.mv (.t s1))⟩
    (.one ⟨some s60, none, (.bin false .eql (.t s59) (.c (.v (.int .i64 0))))⟩
    (.one ⟨some s61, none, (.mv (.t s60))⟩
    (.one ⟨some s62, some (s61, true), (.mv (.t s2))⟩
    (.one ⟨some s63, some (s61, true), (.mv (.t s13))⟩
    (.one ⟨some s64, some (s61, true), (.len false (.t s63))⟩
    (.one ⟨some s65, some (s61, true), (.bin false .eql (.t s62) (.t s64))⟩
    (.one ⟨some s66, none, (.pick (.t s61) (.t s65) (.c (.v (.bool false))))⟩
    (.one ⟨some s67, none, (.mv (.t s66))⟩
    (.one ⟨some s68, some (s67, true), (.load (some 7) (.t s5))⟩
    (.one ⟨some s69, some (s67, true), (.mv (.t s4))⟩
    (.one ⟨some s70, some (s67, true), (.callq 18 [(.t s68), (.t s69)])⟩
    (.one ⟨some s71, some (s67, true), (.mv (.t s3))⟩
    (.one ⟨some s72, some (s67, true), (.bin false .leq (.t s70) (.t s71))⟩
    (.one ⟨some s73, none, (.pick (.t s67) (.t s72) (.c (.v (.bool false))))⟩
    (.one ⟨some s58, none, (.mv (.t s73))⟩
    .done)))))))))))))))))
  (.cond (.t s58) (.seq (.reg (.one ⟨some s74, none, (.faddr 0 (.t s5))⟩
    (.one ⟨none, none, (.store 1 (.t s74) (.c (.v (.bool false))))⟩
    .done)))
  (.seq (.reg (.one ⟨some s75, none, (.load (some 7) (.t s5))⟩
    (.one ⟨some s76, none, (.mv (.t s2))⟩
    (.one ⟨none, none, (.store 7 (.t s10) (.t s75))⟩
    (.one ⟨some s11, none, (.mv (.t s76))⟩
    (.one ⟨some s12, none, (.mv (.c (.v (.int .i64 0))))⟩
    .done))))))
  .ret)) .skip)))))
  (.seq (.reg (.one ⟨some s77, none, (.faddr 2 (.t s5))⟩
    (.one ⟨some s78, none, (.load none (.t s77))⟩
    (.one ⟨some s79, none, (.mv (.t s1))⟩
    (.one ⟨some s80, none, (.build [(.v (.bool false)), (.v (.int .i64 0)), (.v (.int .i64 0)), (.v (.bool false)), (.v (.bool false)), (.v (.int .i64 0)), (.slice 1 [] .full)] [(2, 1, (.t s78)), (3, 1, (.c (.v (.bool true)))), (5, 1, (.t s79))])⟩
    (.one ⟨some s15, none, (.new [(.v (.bool false)), (.v (.int .i64 0)), (.v (.int .i64 0)), (.v (.bool false)), (.v (.bool false)), (.v (.int .i64 0)), (.slice 1 [] .full)])⟩
    (.one ⟨none, none, (.store 7 (.t s15) (.t s80))⟩
    .done)))))))
  (.seq (.reg (.one ⟨some s81, none, (.mv (.t s3))⟩
    (.one ⟨some s82, none, (.mxmn false (.t s81) (.c (.v (.int .i64 4000))))⟩
    (.one ⟨some s83, none, (.mv (.t s4))⟩
    (.one ⟨some s84, none, (.callq 21 [(.c (.v (.bool true))), (.t s83)])⟩
    (.one ⟨some s85, none, (.bin false .sub (.t s82) (.t s84))⟩
    (.one ⟨some s16, none, (.mv (.t s85))⟩
    .done)))))))
  (.seq (.reg (.one ⟨some s86, none, (.mv (.t s1))⟩
    (.one ⟨some s17, none, (.mv (.t s86))⟩
    (.one ⟨some s18, none, (.mv (.c (.v (.int .i64 0))))⟩
    .done))))
  (.seq (.reg (.one ⟨some s19, none, (.mv (.c (.v (.int .i64 0))))⟩
    .done))
  (.seq (.label 0)
  (.seq (.seq (.reg (.one ⟨some s87, none, (.mv (.t s14))⟩
    (.one ⟨some s88, none, (.mv (.t s18))⟩
    (.one ⟨some s89, none, (.iaddr 1 (.t s87) (.t s88))⟩
    (.one ⟨some s90, none, (.load none (.t s89))⟩
    (.one ⟨some s91, none, (.mv (.t s17))⟩
    (.one ⟨some s92, none, (.bin false .leq (.t s90) (.t s91))⟩
    .done)))))))
  (.cond (.t s92) (.seq (.reg (.one ⟨some s93, none, (.mv (.t s14))⟩
    (.one ⟨some s94, none, (.mv (.t s18))⟩
    (.one ⟨some s95, none, (.iaddr 1 (.t s93) (.t s94))⟩
    (.one ⟨some s96, none, (.load none (.t s95))⟩
    (.one ⟨some s19, none, (.mv (.t s96))⟩
    .done))))))
  (.seq (.reg (.one ⟨some s97, none, (.mv (.t s18))⟩
    (.one ⟨some s98, none, (.bin false .add (.t s97) (.c (.v (.int .i64 1))))⟩
    (.one ⟨some s18, none, (.mv (.t s98))⟩
    .done))))
  (.goto 0))) .skip))
  (.seq (.seq (.reg (.one ⟨some s99, none, (.mv (.t s17))⟩
    (.one ⟨some s100, none, (.mv (.t s19))⟩
    (.one ⟨some s101, none, (.bin false .neq (.t s99) (.t s100))⟩
    (.one ⟨some s102, none, (.mv (.t s101))⟩
    (.one ⟨some s103, some (s102, false), (.mv (.t s17))⟩
    (.one ⟨some s104, some (s102, false), (.bin false .eql (.t s103) (.c (.v (.int .i64 0))))⟩
    (.one ⟨some s105, some (s102, false), (.mv (.t s104))⟩
    (.one ⟨some s106, some (s105, true), (.faddr 1 (.t s5))⟩
    (.one ⟨some s107, some (s105, true), (.load none (.t s106))⟩
    (.one ⟨some s108, some (s105, true), (.bin false .and (.t s107) (.c (.v (.int .i64 2))))⟩
    (.one ⟨some s109, some (s105, true), (.bin false .neq (.t s108) (.c (.v (.int .i64 0))))⟩
    (.one ⟨some s110, some (s102, false), (.pick (.t s105) (.t s109) (.c (.v (.bool false))))⟩
    (.one ⟨some s111, none, (.pick (.t s102) (.c (.v (.bool true))) (.t s110))⟩
    .done))))))))))))))
  (.cond (.t s111) (.reg (.one ⟨some s112, none, (.faddr 1 (.t s15))⟩
    (.one ⟨none, none, (.store 1 (.t s112) (.c (.v (.int .i64 2))))⟩
    .done))) .skip))
  (.seq (.label 1)
  (.seq (.reg (.one ⟨some s113, none, (.mv (.t s16))⟩
    (.one ⟨some s114, none, (.mv (.t s17))⟩
    (.one ⟨some s115, none, (.mv (.t s1))⟩
    (.one ⟨some s116, none, (.bin false .sub (.t s114) (.t s115))⟩
    (.one ⟨some s117, none, (.bin false .sub (.t s113) (.t s116))⟩
    (.one ⟨some s118, none, (.faddr 6 (.t s15))⟩
    (.one ⟨some s119, none, (.load none (.t s118))⟩
    (.one ⟨some s120, none, (.len false (.t s119))⟩
    (.one ⟨some s121, none, (.mv (.t s4))⟩
    (.one ⟨some s122, none, (.callq 23 [(.t s121)])⟩
    (.one ⟨some s123, none, (.callq 22 [(.t s120), (.t s122)])⟩
    (.one ⟨some s124, none, (.bin false .sub (.t s117) (.t s123))⟩
    (.one ⟨some s20, none, (.mv (.t s124))⟩
    .done))))))))))))))
  (.seq (.reg (.one ⟨some s125, none, (.mv (.t s20))⟩
    (.one ⟨some s126, none, (.mv (.t s14))⟩
    (.one ⟨some s127, none, (.mv (.t s18))⟩
    (.one ⟨some s128, none, (.iaddr 1 (.t s126) (.t s127))⟩
    (.one ⟨some s129, none, (.load none (.t s128))⟩
    (.one ⟨some s130, none, (.mv (.t s17))⟩
    (.one ⟨some s131, none, (.bin false .sub (.t s129) (.t s130))⟩
    (.one ⟨some s132, none, (.mv (.t s2))⟩
    (.one ⟨some s133, none, (.mv (.t s17))⟩
    (.one ⟨some s134, none, (.bin false .sub (.t s132) (.t s133))⟩
    (.one ⟨some s135, none, (.min3 (.t s125) (.t s131) (.t s134))⟩
    (.one ⟨some s21, none, (.mv (.t s135))⟩
    .done)))))))))))))
  (.seq (.seq (.reg (.one ⟨some s136, none, (.mv (.t s21))⟩
    (.one ⟨some s137, none, (.bin false .geq (.t s136) (.c (.v (.int .i64 1))))⟩
    .done)))
  (.cond (.t s137) (.seq (.reg (.one ⟨some s138, none, (.faddr 6 (.t s15))⟩
    (.one ⟨some s139, none, (.load none (.t s138))⟩
    (.one ⟨some s140, none, (.row 1 [])⟩
    (.one ⟨some s141, none, (.mv (.t s13))⟩
    (.one ⟨some s142, none, (.mv (.t s17))⟩
    (.one ⟨some s143, none, (.mv (.t s17))⟩
    (.one ⟨some s144, none, (.mv (.t s21))⟩
    (.one ⟨some s145, none, (.bin false .add (.t s143) (.t s144))⟩
    (.one ⟨some s146, none, (.cut 1 (.t s141) (some (.t s142)) (some (.t s145)) none)⟩
    (.one ⟨some s147, none, (.app 1 1 (.t s140) (.t s146))⟩
    (.one ⟨some s148, none, (.row 1 [(.t s147)])⟩
    (.one ⟨some s149, none, (.app 1 24 (.t s139) (.t s148))⟩
    (.one ⟨some s150, none, (.faddr 6 (.t s15))⟩
    (.one ⟨none, none, (.store 1 (.t s150) (.t s149))⟩
    .done)))))))))))))))
  (.reg (.one ⟨some s151, none, (.mv (.t s17))⟩
    (.one ⟨some s152, none, (.mv (.t s21))⟩
    (.one ⟨some s153, none, (.bin false .add (.t s151) (.t s152))⟩
    (.one ⟨some s17, none, (.mv (.t s153))⟩
    .done)))))) .skip))
  (.seq (.seq (.reg (.one ⟨some s154, none, (.mv (.t s21))⟩
    (.one ⟨some s155, none, (.bin false .geq (.t s154) (.c (.v (.int .i64 1))))⟩
    (.one ⟨some s156, none, (.mv (.t s155))⟩
    (.one ⟨some s157, some (s156, true), (.mv (.t s17))⟩
    (.one ⟨some s158, some (s156, true), (.mv (.t s14))⟩
    (.one ⟨some s159, some (s156, true), (.mv (.t s18))⟩
    (.one ⟨some s160, some (s156, true), (.iaddr 1 (.t s158) (.t s159))⟩
    (.one ⟨some s161, some (s156, true), (.load none (.t s160))⟩
    (.one ⟨some s162, some (s156, true), (.bin false .eql (.t s157) (.t s161))⟩
    (.one ⟨some s163, none, (.pick (.t s156) (.t s162) (.c (.v (.bool false))))⟩
    (.one ⟨some s164, none, (.mv (.t s163))⟩
    (.one ⟨some s165, some (s164, true), (.mv (.t s17))⟩
    (.one ⟨some s166, some (s164, true), (.mv (.t s2))⟩
    (.one ⟨some s167, some (s164, true), (.bin false .lss (.t s165) (.t s166))⟩
    (.one ⟨some s168, none, (.pick (.t s164) (.t s167) (.c (.v (.bool false))))⟩
    .done))))))))))))))))
  (.cond (.t s168) (.seq (.reg (.one ⟨some s169, none, (.mv (.t s18))⟩
    (.one ⟨some s170, none, (.bin false .add (.t s169) (.c (.v (.int .i64 1))))⟩
    (.one ⟨some s18, none, (.mv (.t s170))⟩
    .done))))
  (.goto 1)) .skip))
  (.seq (.seq (.reg (.one ⟨some s171, none, (.faddr 6 (.t s15))⟩
    (.one ⟨some s172, none, (.load none (.t s171))⟩
    (.one ⟨some s173, none, (.len false (.t s172))⟩
    (.one ⟨some s174, none, (.bin false .eql (.t s173) (.c (.v (.int .i64 0))))⟩
    .done)))))
  (.cond (.t s174) (.seq (.reg (.one ⟨some s175, none, (.build [(.v (.bool false)), (.v (.int .i64 0)), (.v (.int .i64 0)), (.v (.bool false)), (.v (.bool false)), (.v (.int .i64 0)), (.slice 1 [] .full)] [])⟩
    (.one ⟨none, none, (.store 7 (.t s10) (.t s175))⟩
    (.one ⟨some s11, none, (.mv (.c (.v (.int .i64 0))))⟩
    (.one ⟨some s12, none, (.mv (.c (.v (.int .i64 16))))⟩
    .done)))))
  .ret) .skip))
  (.seq (.seq (.reg (.one ⟨some s176, none, (.mv (.t s21))⟩
    (.one ⟨some s177, none, (.bin false .lss (.t s176) (.c (.v (.int .i64 1))))⟩
    .done)))
  (.cond (.t s177) (.reg (.one ⟨some s178, none, (.mv (.t s18))⟩
    (.one ⟨some s179, none, (.bin false .sub (.t s178) (.c (.v (.int .i64 1))))⟩
    (.one ⟨some s18, none, (.mv (.t s179))⟩
    .done)))) .skip))
  (.seq (.seq (.reg (.one ⟨some s180, none, (.mv (.t s17))⟩
    (.one ⟨some s181, none, (.mv (.t s14))⟩
    (.one ⟨some s182, none, (.mv (.t s18))⟩
    (.one ⟨some s183, none, (.iaddr 1 (.t s181) (.t s182))⟩
    (.one ⟨some s184, none, (.load none (.t s183))⟩
    (.one ⟨some s185, none, (.bin false .neq (.t s180) (.t s184))⟩
    (.one ⟨some s186, none, (.mv (.t s185))⟩
    (.one ⟨some s187, some (s186, false), (.mv (.t s17))⟩
    (.one ⟨some s188, some (s186, false), (.mv (.t s13))⟩
    (.one ⟨some s189, some (s186, false), (.len false (.t s188))⟩
    (.one ⟨some s190, some (s186, false), (.bin false .eql (.t s187) (.t s189))⟩
    (.one ⟨some s191, some (s186, false), (.mv (.t s190))⟩
    (.one ⟨some s192, some (s191, true), (.faddr 1 (.t s5))⟩
    (.one ⟨some s193, some (s191, true), (.load none (.t s192))⟩
    (.one ⟨some s194, some (s191, true), (.bin false .and (.t s193) (.c (.v (.int .i64 1))))⟩
    (.one ⟨some s195, some (s191, true), (.bin false .neq (.t s194) (.c (.v (.int .i64 0))))⟩
    (.one ⟨some s196, some (s186, false), (.pick (.t s191) (.t s195) (.c (.v (.bool false))))⟩
    (.one ⟨some s197, none, (.pick (.t s186) (.c (.v (.bool true))) (.t s196))⟩
    .done)))))))))))))))))))
  (.cond (.t s197) (.reg (.one ⟨some s198, none, (.faddr 1 (.t s15))⟩
    (.one ⟨some s199, none, (.load none (.t s198))⟩
    (.one ⟨some s200, none, (.bin false .or (.t s199) (.c (.v (.int .i64 1))))⟩
    (.one ⟨some s201, none, (.faddr 1 (.t s15))⟩
    (.one ⟨none, none, (.store 1 (.t s201) (.t s200))⟩
    .done)))))) .skip))
  (.seq (.reg (.one ⟨some s202, none, (.mv (.t s17))⟩
    (.one ⟨some s203, none, (.mv (.t s13))⟩
    (.one ⟨some s204, none, (.len false (.t s203))⟩
    (.one ⟨some s205, none, (.bin false .eql (.t s202) (.t s204))⟩
    (.one ⟨some s206, none, (.faddr 4 (.t s15))⟩
    (.one ⟨none, none, (.store 1 (.t s206) (.t s205))⟩
    .done)))))))
  (.seq (.reg (.one ⟨some s207, none, (.load (some 7) (.t s15))⟩
    (.one ⟨some s208, none, (.mv (.t s17))⟩
    (.one ⟨none, none, (.store 7 (.t s10) (.t s207))⟩
    (.one ⟨some s11, none, (.mv (.t s208))⟩
    (.one ⟨some s12, none, (.mv (.c (.v (.int .i64 0))))⟩
    .done))))))
  .ret))))))))))))))))))))))⟩
theorem ok7 : compF Try.prog c7 Try.f7 = some ir7 := by kernel_rfl
theorem k_reseg_Cut {args : List AVal} {σ : AHeap} {Q : AVal → AHeap → Prop} (hl : Nat.ble args.length 209 = true) (h : argsK (Env.full 9) 0 args fun env => evC Try.prog c7 ir7.body env σ (retQ ir7 Q)) : ACalls Try.prog 7 args σ Q :=
  acalls_of Try.func7 ok7 rfl (Nat.le_of_ble_eq_true hl) h
/- reseg.Least -/
def c8 : Cfg := ⟨qs, [], 10, [], ps⟩
def ir8 : IFun := ⟨1, [.tmp s2],
  (.seq (.reg (.one ⟨some s2, none, (.mv (.c (.v (.int .i64 0))))⟩
    .done))
  (.seq (.reg (.one ⟨some s4, none, (.mv (.t s0))⟩
    (.one ⟨some s5, none, (.callq 21 [(.c (.v (.bool true))), (.t s4)])⟩
    (.one ⟨some s3, none, (.mv (.t s5))⟩
    .done))))
  (.seq (.seq (.reg (.one ⟨some s6, none, (.mv (.t s3))⟩
    (.one ⟨some s7, none, (.bin false .eql (.t s6) (.c (.v (.int .i64 0))))⟩
    .done)))
  (.cond (.t s7) (.seq (.reg (.one ⟨some s2, none, (.mv (.c (.v (.int .i64 0))))⟩
    .done))
  .ret) .skip))
  (.seq (.reg (.one ⟨some s8, none, (.mv (.t s3))⟩
    (.one ⟨some s9, none, (.bin false .add (.t s8) (.c (.v (.int .i64 1))))⟩
    (.one ⟨some s2, none, (.mv (.t s9))⟩
    .done))))
  .ret))))⟩
theorem ok8 : compF Try.prog c8 Try.f8 = some ir8 := by kernel_rfl
theorem k_reseg_Least {args : List AVal} {σ : AHeap} {Q : AVal → AHeap → Prop} (hl : Nat.ble args.length 10 = true) (h : argsK (Env.full 9) 0 args fun env => evC Try.prog c8 ir8.body env σ (retQ ir8 Q)) : ACalls Try.prog 8 args σ Q :=
  acalls_of Try.func8 ok8 rfl (Nat.le_of_ble_eq_true hl) h
/- reseg.ends -/
def c20 : Cfg := ⟨qs, [], 24, [], ps⟩
def ir20 : IFun := ⟨1, [.tmp s2],
  (.seq (.reg (.one ⟨some s1, none, (.box 7 (.t s0))⟩
    (.one ⟨some s2, none, (.mv (.c (.slice 1 [] .full)))⟩
    .done)))
  (.seq (.reg (.one ⟨some s3, none, (.mv (.c (.slice 1 [] .full)))⟩
    .done))
  (.seq (.reg (.one ⟨some s4, none, (.mv (.c (.v (.int .i64 0))))⟩
    .done))
  (.seq (.seq (.reg (.one ⟨some s7, none, (.faddr 6 (.t s1))⟩
    (.one ⟨some s8, none, (.load none (.t s7))⟩
    (.one ⟨some s9, none, (.len false (.t s8))⟩
    (.one ⟨some s10, none, (.mv (.c (.v (.int .i64 0))))⟩
    .done)))))
  (.block 0 (.loop (.seq (.reg (.one ⟨some s11, none, (.bin false .lss (.t s10) (.t s9))⟩
    .done))
  (.seq (.cond (.t s11) .skip (.exit 0))
  (.seq (.block 1 (.seq (.reg (.one ⟨some s12, none, (.iaddr 1 (.t s8) (.t s10))⟩
    (.one ⟨some s13, none, (.load none (.t s12))⟩
    (.one ⟨some s6, none, (.mv (.t s13))⟩
    .done))))
  (.seq (.reg (.one ⟨some s14, none, (.mv (.t s4))⟩
    (.one ⟨some s15, none, (.mv (.t s6))⟩
    (.one ⟨some s16, none, (.len false (.t s15))⟩
    (.one ⟨some s17, none, (.bin false .add (.t s14) (.t s16))⟩
    (.one ⟨some s4, none, (.mv (.t s17))⟩
    .done))))))
  (.reg (.one ⟨some s18, none, (.mv (.t s3))⟩
    (.one ⟨some s19, none, (.mv (.t s4))⟩
    (.one ⟨some s20, none, (.row 1 [(.t s19)])⟩
    (.one ⟨some s21, none, (.app 1 8 (.t s18) (.t s20))⟩
    (.one ⟨some s3, none, (.mv (.t s21))⟩
    .done)))))))))
  (.reg (.one ⟨some s22, none, (.bin false .add (.t s10) (.c (.v (.int .i64 1))))⟩
    (.one ⟨some s10, none, (.mv (.t s22))⟩
    .done)))))))))
  (.seq (.reg (.one ⟨some s23, none, (.mv (.t s3))⟩
    (.one ⟨some s2, none, (.mv (.t s23))⟩
    .done)))
  .ret)))))⟩
theorem ok20 : compF Try.prog c20 Try.f20 = some ir20 := by kernel_rfl
theorem k_reseg_ends {args : List AVal} {σ : AHeap} {Q : AVal → AHeap → Prop} (hl : Nat.ble args.length 24 = true) (h : argsK (Env.full 9) 0 args fun env => evC Try.prog c20 ir20.body env σ (retQ ir20 Q)) : ACalls Try.prog 20 args σ Q :=
  acalls_of Try.func20 ok20 rfl (Nat.le_of_ble_eq_true hl) h
/- reseg.lenWidth -/
def c23 : Cfg := ⟨qs, [], 5, [], ps⟩
def ir23 : IFun := ⟨1, [.tmp s2],
  (.seq (.reg (.one ⟨some s2, none, (.mv (.c (.v (.int .i64 0))))⟩
    .done))
  (.seq (.seq (.reg (.one ⟨some s3, none, (.mv (.t s0))⟩
    (.one ⟨some s4, none, (.bin false .eql (.t s3) (.c (.v (.int .i64 10))))⟩
    .done)))
  (.cond (.t s4) (.seq (.reg (.one ⟨some s2, none, (.mv (.c (.v (.int .i64 11))))⟩
    .done))
  .ret) .skip))
  (.seq (.reg (.one ⟨some s2, none, (.mv (.c (.v (.int .i64 15))))⟩
    .done))
  .ret)))⟩
theorem ok23 : compF Try.prog c23 Try.f23 = some ir23 := by kernel_rfl
theorem k_reseg_lenWidth {args : List AVal} {σ : AHeap} {Q : AVal → AHeap → Prop} (hl : Nat.ble args.length 5 = true) (h : argsK (Env.full 9) 0 args fun env => evC Try.prog c23 ir23.body env σ (retQ ir23 Q)) : ACalls Try.prog 23 args σ Q :=
  acalls_of Try.func23 ok23 rfl (Nat.le_of_ble_eq_true hl) h
end Go.Proofs.Ytgbpjbpdpgbngaa
