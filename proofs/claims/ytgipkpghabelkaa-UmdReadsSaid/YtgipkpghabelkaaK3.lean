/-
  Texts of this claim, pack 3: Irslices, Irbits, Irlens, Irseqnum, Irref02, Irumd, Irref01, Irref08, Irref09, Irlaw09.
-/
import Derived.Test.YtgipkpghabelkaaK2
/-
  The bodies of one package, compiled to the framework's language (printed by a program of this session).
-/
namespace Go.Proofs.Ytgipkpghabelkaa
set_option linter.unusedVariables false
set_option linter.unusedSimpArgs false
open Go Go.Am
/- slices.EqualFunc[[][]byte,[][]byte,[]byte,[]byte] -/
def c43 : Cfg := ⟨qs, [], 32, [], ps⟩
def ir43 : IFun := ⟨3, [.tmp s6],
  (.seq (.reg (.one ⟨some s6, none, (.mv (.c (.v (.bool false))))⟩
    .done))
  (.seq (.seq (.reg (.one ⟨some s10, none, (.mv (.t s0))⟩
    (.one ⟨some s11, none, (.len false (.t s10))⟩
    (.one ⟨some s12, none, (.mv (.t s1))⟩
    (.one ⟨some s13, none, (.len false (.t s12))⟩
    (.one ⟨some s14, none, (.bin false .neq (.t s11) (.t s13))⟩
    .done))))))
  (.cond (.t s14) (.seq (.reg (.one ⟨some s6, none, (.mv (.c (.v (.bool false))))⟩
    .done))
  .ret) .skip))
  (.seq (.seq (.reg (.one ⟨some s15, none, (.mv (.t s0))⟩
    (.one ⟨some s16, none, (.len false (.t s15))⟩
    (.one ⟨some s17, none, (.mv (.c (.v (.int .i64 0))))⟩
    .done))))
  (.block 0 (.loop (.seq (.reg (.one ⟨some s18, none, (.bin false .lss (.t s17) (.t s16))⟩
    .done))
  (.seq (.cond (.t s18) .skip (.exit 0))
  (.seq (.block 1 (.seq (.reg (.one ⟨some s19, none, (.mv (.t s17))⟩
    (.one ⟨some s20, none, (.iaddr 1 (.t s15) (.t s17))⟩
    (.one ⟨some s21, none, (.load none (.t s20))⟩
    (.one ⟨some s7, none, (.mv (.t s19))⟩
    (.one ⟨some s8, none, (.mv (.t s21))⟩
    .done))))))
  (.seq (.reg (.one ⟨some s22, none, (.mv (.t s1))⟩
    (.one ⟨some s23, none, (.mv (.t s7))⟩
    (.one ⟨some s24, none, (.iaddr 1 (.t s22) (.t s23))⟩
    (.one ⟨some s25, none, (.load none (.t s24))⟩
    (.one ⟨some s9, none, (.mv (.t s25))⟩
    .done))))))
  (.seq (.reg (.one ⟨some s26, none, (.mv (.t s2))⟩
    (.one ⟨some s27, none, (.mv (.t s8))⟩
    (.one ⟨some s28, none, (.mv (.t s9))⟩
    (.one ⟨some s29, none, (.callv (.t s26) [(.t s27), (.t s28)])⟩
    (.one ⟨some s30, none, (.not (.t s29))⟩
    .done))))))
  (.cond (.t s30) (.seq (.reg (.one ⟨some s6, none, (.mv (.c (.v (.bool false))))⟩
    .done))
  .ret) .skip)))))
  (.reg (.one ⟨some s31, none, (.bin false .add (.t s17) (.c (.v (.int .i64 1))))⟩
    (.one ⟨some s17, none, (.mv (.t s31))⟩
    .done)))))))))
  (.seq (.reg (.one ⟨some s6, none, (.mv (.c (.v (.bool true))))⟩
    .done))
  .ret))))⟩
theorem ok43 : compF Try.prog c43 Try.f43 = some ir43 := by kernel_rfl
theorem k_slices_EqualFunc_byte_byte_byte_byte {args : List AVal} {σ : AHeap} {Q : AVal → AHeap → Prop} (hl : Nat.ble args.length 32 = true) (h : argsK (Env.full 9) 0 args fun env => evC Try.prog c43 ir43.body env σ (retQ ir43 Q)) : ACalls Try.prog 43 args σ Q :=
  acalls_of Try.func43 ok43 rfl (Nat.le_of_ble_eq_true hl) h
/- slices.ContainsFunc[[][]byte,[]byte] -/
def c46 : Cfg := ⟨qs, [], 9, [], ps⟩
def ir46 : IFun := ⟨2, [.tmp s4],
  (.seq (.reg (.one ⟨some s4, none, (.mv (.c (.v (.bool false))))⟩
    .done))
  (.seq (.reg (.one ⟨some s5, none, (.mv (.t s0))⟩
    (.one ⟨some s6, none, (.mv (.t s1))⟩
    (.one ⟨some s7, none, (.callq 66 [(.t s5), (.t s6)])⟩
    (.one ⟨some s8, none, (.bin false .geq (.t s7) (.c (.v (.int .i64 0))))⟩
    (.one ⟨some s4, none, (.mv (.t s8))⟩
    .done))))))
  .ret))⟩
theorem ok46 : compF Try.prog c46 Try.f46 = some ir46 := by kernel_rfl
theorem k_slices_ContainsFunc_byte_byte {args : List AVal} {σ : AHeap} {Q : AVal → AHeap → Prop} (hl : Nat.ble args.length 9 = true) (h : argsK (Env.full 9) 0 args fun env => evC Try.prog c46 ir46.body env σ (retQ ir46 Q)) : ACalls Try.prog 46 args σ Q :=
  acalls_of Try.func46 ok46 rfl (Nat.le_of_ble_eq_true hl) h
/- slices.IndexFunc[[][]byte,[]byte] -/
def c66 : Cfg := ⟨qs, [], 19, [], ps⟩
def ir66 : IFun := ⟨2, [.tmp s4],
  (.seq (.reg (.one ⟨some s4, none, (.mv (.c (.v (.int .i64 0))))⟩
    .done))
  (.seq (.seq (.reg (.one ⟨some s6, none, (.mv (.t s0))⟩
    (.one ⟨some s7, none, (.len false (.t s6))⟩
    (.one ⟨some s8, none, (.mv (.c (.v (.int .i64 0))))⟩
    .done))))
  (.block 0 (.loop (.seq (.reg (.one ⟨some s9, none, (.bin false .lss (.t s8) (.t s7))⟩
    .done))
  (.seq (.cond (.t s9) .skip (.exit 0))
  (.seq (.block 1 (.seq (.reg (.one ⟨some s10, none, (.mv (.t s8))⟩
    (.one ⟨some s5, none, (.mv (.t s10))⟩
    .done)))
  (.seq (.reg (.one ⟨some s11, none, (.mv (.t s1))⟩
    (.one ⟨some s12, none, (.mv (.t s0))⟩
    (.one ⟨some s13, none, (.mv (.t s5))⟩
    (.one ⟨some s14, none, (.iaddr 1 (.t s12) (.t s13))⟩
    (.one ⟨some s15, none, (.load none (.t s14))⟩
    (.one ⟨some s16, none, (.callv (.t s11) [(.t s15)])⟩
    .done)))))))
  (.cond (.t s16) (.seq (.reg (.one ⟨some s17, none, (.mv (.t s5))⟩
    (.one ⟨some s4, none, (.mv (.t s17))⟩
    .done)))
  .ret) .skip))))
  (.reg (.one ⟨some s18, none, (.bin false .add (.t s8) (.c (.v (.int .i64 1))))⟩
    (.one ⟨some s8, none, (.mv (.t s18))⟩
    .done)))))))))
  (.seq (.reg (.one ⟨some s4, none, (.mv (.c (.v (.int .i64 (-1)))))⟩
    .done))
  .ret)))⟩
theorem ok66 : compF Try.prog c66 Try.f66 = some ir66 := by kernel_rfl
theorem k_slices_IndexFunc_byte_byte {args : List AVal} {σ : AHeap} {Q : AVal → AHeap → Prop} (hl : Nat.ble args.length 19 = true) (h : argsK (Env.full 9) 0 args fun env => evC Try.prog c66 ir66.body env σ (retQ ir66 Q)) : ACalls Try.prog 66 args σ Q :=
  acalls_of Try.func66 ok66 rfl (Nat.le_of_ble_eq_true hl) h
/- slices.Clone[[]byte,byte] -/
def c68 : Cfg := ⟨qs, [], 8, [], ps⟩
def ir68 : IFun := ⟨1, [.tmp s2],
  (.seq (.reg (.one ⟨some s2, none, (.mv (.c (.slice 1 [] .full)))⟩
    .done))
  (.seq (.seq (.reg (.one ⟨some s3, none, (.mv (.t s0))⟩
    (.one ⟨some s4, none, (.eqNil 0 false (.t s3))⟩
    .done)))
  (.cond (.t s4) (.seq (.reg (.one ⟨some s2, none, (.mv (.c (.slice 1 [] .full)))⟩
    .done))
  .ret) .skip))
  (.seq (.reg (.one ⟨some s5, none, (.row 1 [])⟩
    (.one ⟨some s6, none, (.mv (.t s0))⟩
    (.one ⟨some s7, none, (.app 1 1 (.t s5) (.t s6))⟩
    (.one ⟨some s2, none, (.mv (.t s7))⟩
    .done)))))
  .ret)))⟩
theorem ok68 : compF Try.prog c68 Try.f68 = some ir68 := by kernel_rfl
theorem k_slices_Clone_byte_byte {args : List AVal} {σ : AHeap} {Q : AVal → AHeap → Prop} (hl : Nat.ble args.length 8 = true) (h : argsK (Env.full 9) 0 args fun env => evC Try.prog c68 ir68.body env σ (retQ ir68 Q)) : ACalls Try.prog 68 args σ Q :=
  acalls_of Try.func68 ok68 rfl (Nat.le_of_ble_eq_true hl) h
/- slices.Clone[[]byte,byte] -/
def c68m : Cfg := ⟨qs, [22, 39, 43, 61, 90], 8, [], ps⟩
def ir68m : IFun := ⟨1, [.tmp s2],
  (.seq (.reg (.one ⟨some s2, none, (.mv (.c (.slice 1 [] .full)))⟩
    .done))
  (.seq (.seq (.reg (.one ⟨some s3, none, (.mv (.t s0))⟩
    (.one ⟨some s4, none, (.eqNil 0 false (.t s3))⟩
    .done)))
  (.cond (.t s4) (.seq (.reg (.one ⟨some s2, none, (.mv (.c (.slice 1 [] .full)))⟩
    .done))
  .ret) .skip))
  (.seq (.reg (.one ⟨some s5, none, (.row 1 [])⟩
    (.one ⟨some s6, none, (.mv (.t s0))⟩
    (.one ⟨some s7, none, (.appm 1 1 (.t s5) (.t s6))⟩
    (.one ⟨some s2, none, (.mv (.t s7))⟩
    .done)))))
  .ret)))⟩
theorem ok68m : compF Try.prog c68m Try.f68 = some ir68m := by kernel_rfl
theorem km_slices_Clone_byte_byte {args : List AVal} {σ : AHeap} {Q : AVal → AHeap → Prop} (hl : Nat.ble args.length 8 = true) (h : argsK (Env.full 9) 0 args fun env => evC Try.prog c68m ir68m.body env σ (retQ ir68m Q)) : ACalls Try.prog 68 args σ Q :=
  acalls_of Try.func68 ok68m rfl (Nat.le_of_ble_eq_true hl) h
end Go.Proofs.Ytgipkpghabelkaa
/-
  The bodies of one package, compiled to the framework's language (printed by a program of this session).
-/
namespace Go.Proofs.Ytgipkpghabelkaa
set_option linter.unusedVariables false
set_option linter.unusedSimpArgs false
open Go Go.Am
/- bits.Read -/
def c52 : Cfg := ⟨qs, [], 14, [], ps⟩
def ir52 : IFun := ⟨1, [.tmp s2],
  (.seq (.reg (.one ⟨some s2, none, (.mv (.c (.v (.pointer none))))⟩
    .done))
  (.seq (.reg (.one ⟨some s4, none, (.mv (.t s0))⟩
    (.one ⟨some s5, none, (.len false (.t s4))⟩
    (.one ⟨some s6, none, (.mxmn false (.t s5) (.c (.v (.int .i64 8192))))⟩
    (.one ⟨some s3, none, (.mv (.t s6))⟩
    .done)))))
  (.seq (.reg (.one ⟨some s7, none, (.mv (.t s0))⟩
    (.one ⟨some s8, none, (.mv (.t s3))⟩
    (.one ⟨some s9, none, (.mv (.t s3))⟩
    (.one ⟨some s10, none, (.cut 1 (.t s7) none (some (.t s8)) (some (.t s9)))⟩
    (.one ⟨some s11, none, (.callq 68 [(.t s10)])⟩
    (.one ⟨some s12, none, (.build [(.slice 1 [] .full), (.v (.int .i64 0))] [(0, 1, (.t s11))])⟩
    (.one ⟨some s13, none, (.box 2 (.t s12))⟩
    (.one ⟨some s2, none, (.mv (.t s13))⟩
    .done)))))))))
  .ret)))⟩
theorem ok52 : compF Try.prog c52 Try.f52 = some ir52 := by kernel_rfl
theorem k_bits_Read {args : List AVal} {σ : AHeap} {Q : AVal → AHeap → Prop} (hl : Nat.ble args.length 14 = true) (h : argsK (Env.full 9) 0 args fun env => evC Try.prog c52 ir52.body env σ (retQ ir52 Q)) : ACalls Try.prog 52 args σ Q :=
  acalls_of Try.func52 ok52 rfl (Nat.le_of_ble_eq_true hl) h
/- bits.Reader).Get -/
def c53 : Cfg := ⟨qs, [], 66, [], ps⟩
def ir53 : IFun := ⟨2, [.tmp s4, .tmp s5],
  (.seq (.reg (.one ⟨some s4, none, (.mv (.c (.v (.int .u64 0))))⟩
    (.one ⟨some s5, none, (.mv (.c (.v (.int .i64 0))))⟩
    .done)))
  (.scope (.seq (.block 0 (.seq (.reg (.one ⟨some s9, none, (.mv (.t s0))⟩
    (.one ⟨some s10, none, (.eqNil 1 false (.t s9))⟩
    (.one ⟨some s8, none, (.mv (.t s10))⟩
    .done))))
  (.cond (.t s8) (.seq (.reg (.one ⟨some s4, none, (.mv (.c (.v (.int .u64 0))))⟩
    (.one ⟨some s5, none, (.mv (.c (.v (.int .i64 6))))⟩
    .done)))
  .ret) (.seq (.reg (.one ⟨some s12, none, (.mv (.t s1))⟩
    (.one ⟨some s13, none, (.bin false .lss (.t s12) (.c (.v (.int .i64 0))))⟩
    (.one ⟨some s14, none, (.mv (.t s13))⟩
    (.one ⟨some s15, some (s14, false), (.mv (.t s1))⟩
    (.one ⟨some s16, some (s14, false), (.bin false .gtr (.t s15) (.c (.v (.int .i64 64))))⟩
    (.one ⟨some s17, none, (.pick (.t s14) (.c (.v (.bool true))) (.t s16))⟩
    (.one ⟨some s11, none, (.mv (.t s17))⟩
    .done))))))))
  (.cond (.t s11) (.seq (.reg (.one ⟨some s4, none, (.mv (.c (.v (.int .u64 0))))⟩
    (.one ⟨some s5, none, (.mv (.c (.v (.int .i64 1))))⟩
    .done)))
  .ret) (.seq (.reg (.one ⟨some s19, none, (.mv (.t s1))⟩
    (.one ⟨some s20, none, (.mv (.t s0))⟩
    (.one ⟨some s21, none, (.callq 75 [(.t s20)])⟩
    (.one ⟨some s22, none, (.bin false .gtr (.t s19) (.t s21))⟩
    (.one ⟨some s18, none, (.mv (.t s22))⟩
    .done))))))
  (.cond (.t s18) (.seq (.reg (.one ⟨some s4, none, (.mv (.c (.v (.int .u64 0))))⟩
    (.one ⟨some s5, none, (.mv (.c (.v (.int .i64 8))))⟩
    .done)))
  .ret) .skip)))))))
  (.seq (.reg (.one ⟨some s6, none, (.mv (.c (.v (.int .u64 0))))⟩
    .done))
  (.seq (.reg (.one ⟨some s23, none, (.mv (.t s0))⟩
    (.one ⟨some s24, none, (.nilchk (.t s23))⟩
    (.one ⟨some s25, none, (.faddr 1 (.t s24))⟩
    (.one ⟨some s26, none, (.load none (.t s25))⟩
    (.one ⟨some s27, none, (.mv (.t s1))⟩
    (.one ⟨some s28, none, (.bin false .add (.t s26) (.t s27))⟩
    (.one ⟨some s7, none, (.mv (.t s28))⟩
    .done))))))))
  (.seq (.label 0)
  (.seq (.seq (.reg (.one ⟨some s29, none, (.mv (.t s0))⟩
    (.one ⟨some s30, none, (.nilchk (.t s29))⟩
    (.one ⟨some s31, none, (.faddr 1 (.t s30))⟩
    (.one ⟨some s32, none, (.load none (.t s31))⟩
    (.one ⟨some s33, none, (.mv (.t s7))⟩
    (.one ⟨some s34, none, (.bin false .lss (.t s32) (.t s33))⟩
    .done)))))))
  (.cond (.t s34) (.seq (.reg (.one ⟨some s35, none, (.mv (.t s6))⟩
    (.one ⟨some s36, none, (.bin false .shl (.t s35) (.c (.v (.int .u64 1))))⟩
    (.one ⟨some s37, none, (.mv (.t s0))⟩
    (.one ⟨some s38, none, (.nilchk (.t s37))⟩
    (.one ⟨some s39, none, (.faddr 0 (.t s38))⟩
    (.one ⟨some s40, none, (.load none (.t s39))⟩
    (.one ⟨some s41, none, (.mv (.t s0))⟩
    (.one ⟨some s42, none, (.nilchk (.t s41))⟩
    (.one ⟨some s43, none, (.faddr 1 (.t s42))⟩
    (.one ⟨some s44, none, (.load none (.t s43))⟩
    (.one ⟨some s45, none, (.bin false .quo (.t s44) (.c (.v (.int .i64 8))))⟩
    (.one ⟨some s46, none, (.iaddr 1 (.t s40) (.t s45))⟩
    (.one ⟨some s47, none, (.load none (.t s46))⟩
    (.one ⟨some s48, none, (.mv (.t s0))⟩
    (.one ⟨some s49, none, (.nilchk (.t s48))⟩
    (.one ⟨some s50, none, (.faddr 1 (.t s49))⟩
    (.one ⟨some s51, none, (.load none (.t s50))⟩
    (.one ⟨some s52, none, (.bin false .rem (.t s51) (.c (.v (.int .i64 8))))⟩
    (.one ⟨some s53, none, (.bin false .sub (.c (.v (.int .i64 7))) (.t s52))⟩
    (.one ⟨some s54, none, (.bin false .shr (.t s47) (.t s53))⟩
    (.one ⟨some s55, none, (.bin false .and (.t s54) (.c (.v (.int .u8 1))))⟩
    (.one ⟨some s56, none, (.conv .u64 (.t s55))⟩
    (.one ⟨some s57, none, (.bin false .or (.t s36) (.t s56))⟩
    (.one ⟨some s6, none, (.mv (.t s57))⟩
    .done)))))))))))))))))))))))))
  (.seq (.reg (.one ⟨some s58, none, (.mv (.t s0))⟩
    (.one ⟨some s59, none, (.nilchk (.t s58))⟩
    (.one ⟨some s60, none, (.faddr 1 (.t s59))⟩
    (.one ⟨some s61, none, (.load none (.t s60))⟩
    (.one ⟨some s62, none, (.bin false .add (.t s61) (.c (.v (.int .i64 1))))⟩
    (.one ⟨some s63, none, (.nilchk (.t s58))⟩
    (.one ⟨some s64, none, (.faddr 1 (.t s63))⟩
    (.one ⟨none, none, (.store 1 (.t s64) (.t s62))⟩
    .done)))))))))
  (.goto 0))) .skip))
  (.seq (.reg (.one ⟨some s65, none, (.mv (.t s6))⟩
    (.one ⟨some s4, none, (.mv (.t s65))⟩
    (.one ⟨some s5, none, (.mv (.c (.v (.int .i64 0))))⟩
    .done))))
  .ret))))))))⟩
theorem ok53 : compF Try.prog c53 Try.f53 = some ir53 := by kernel_rfl
theorem k_bits_Reader_Get {args : List AVal} {σ : AHeap} {Q : AVal → AHeap → Prop} (hl : Nat.ble args.length 66 = true) (h : argsK (Env.full 9) 0 args fun env => evC Try.prog c53 ir53.body env σ (retQ ir53 Q)) : ACalls Try.prog 53 args σ Q :=
  acalls_of Try.func53 ok53 rfl (Nat.le_of_ble_eq_true hl) h
/- bits.New -/
def c70 : Cfg := ⟨qs, [], 3, [], ps⟩
def ir70 : IFun := ⟨0, [.tmp s0],
  (.seq (.reg (.one ⟨some s0, none, (.mv (.c (.v (.pointer none))))⟩
    .done))
  (.seq (.reg (.one ⟨some s1, none, (.build [(.slice 1 [] .full), (.v (.int .i64 0))] [])⟩
    (.one ⟨some s2, none, (.box 2 (.t s1))⟩
    (.one ⟨some s0, none, (.mv (.t s2))⟩
    .done))))
  .ret))⟩
theorem ok70 : compF Try.prog c70 Try.f70 = some ir70 := by kernel_rfl
theorem k_bits_New {args : List AVal} {σ : AHeap} {Q : AVal → AHeap → Prop} (hl : Nat.ble args.length 3 = true) (h : argsK (Env.full 9) 0 args fun env => evC Try.prog c70 ir70.body env σ (retQ ir70 Q)) : ACalls Try.prog 70 args σ Q :=
  acalls_of Try.func70 ok70 rfl (Nat.le_of_ble_eq_true hl) h
/- bits.Writer).Put -/
def c71 : Cfg := ⟨qs, [], 48, [], ps⟩
def ir71 : IFun := ⟨3, [.tmp s6],
  (.seq (.reg (.one ⟨some s6, none, (.mv (.c (.v (.int .i64 0))))⟩
    .done))
  (.scope (.seq (.block 0 (.seq (.reg (.one ⟨some s9, none, (.mv (.t s0))⟩
    (.one ⟨some s10, none, (.eqNil 1 false (.t s9))⟩
    (.one ⟨some s8, none, (.mv (.t s10))⟩
    .done))))
  (.cond (.t s8) (.seq (.reg (.one ⟨some s6, none, (.mv (.c (.v (.int .i64 6))))⟩
    .done))
  .ret) (.seq (.reg (.one ⟨some s12, none, (.mv (.t s2))⟩
    (.one ⟨some s13, none, (.bin false .lss (.t s12) (.c (.v (.int .i64 0))))⟩
    (.one ⟨some s14, none, (.mv (.t s13))⟩
    (.one ⟨some s15, some (s14, false), (.mv (.t s2))⟩
    (.one ⟨some s16, some (s14, false), (.bin false .gtr (.t s15) (.c (.v (.int .i64 64))))⟩
    (.one ⟨some s17, none, (.pick (.t s14) (.c (.v (.bool true))) (.t s16))⟩
    (.one ⟨some s18, none, (.mv (.t s17))⟩
    (.one ⟨some s19, some (s18, false), (.mv (.t s2))⟩
    (.one ⟨some s20, some (s18, false), (.bin false .lss (.t s19) (.c (.v (.int .i64 64))))⟩
    (.one ⟨some s21, some (s18, false), (.mv (.t s20))⟩
    (.one ⟨some s22, some (s21, true), (.mv (.t s1))⟩
    (.one ⟨some s23, some (s21, true), (.mv (.t s2))⟩
    (.one ⟨some s24, some (s21, true), (.bin false .shr (.t s22) (.t s23))⟩
    (.one ⟨some s25, some (s21, true), (.bin false .neq (.t s24) (.c (.v (.int .u64 0))))⟩
    (.one ⟨some s26, some (s18, false), (.pick (.t s21) (.t s25) (.c (.v (.bool false))))⟩
    (.one ⟨some s27, none, (.pick (.t s18) (.c (.v (.bool true))) (.t s26))⟩
    (.one ⟨some s11, none, (.mv (.t s27))⟩
    .done))))))))))))))))))
  (.cond (.t s11) (.seq (.reg (.one ⟨some s6, none, (.mv (.c (.v (.int .i64 1))))⟩
    .done))
  .ret) (.seq (.reg (.one ⟨some s29, none, (.mv (.t s2))⟩
    (.one ⟨some s30, none, (.mv (.t s0))⟩
    (.one ⟨some s31, none, (.nilchk (.t s30))⟩
    (.one ⟨some s32, none, (.faddr 1 (.t s31))⟩
    (.one ⟨some s33, none, (.load none (.t s32))⟩
    (.one ⟨some s34, none, (.bin false .sub (.c (.v (.int .i64 65536))) (.t s33))⟩
    (.one ⟨some s35, none, (.bin false .gtr (.t s29) (.t s34))⟩
    (.one ⟨some s28, none, (.mv (.t s35))⟩
    .done)))))))))
  (.cond (.t s28) (.seq (.reg (.one ⟨some s6, none, (.mv (.c (.v (.int .i64 5))))⟩
    .done))
  .ret) .skip)))))))
  (.seq (.reg (.one ⟨some s36, none, (.mv (.t s2))⟩
    (.one ⟨some s7, none, (.mv (.t s36))⟩
    .done)))
  (.seq (.label 0)
  (.seq (.seq (.reg (.one ⟨some s37, none, (.mv (.t s7))⟩
    (.one ⟨some s38, none, (.bin false .gtr (.t s37) (.c (.v (.int .i64 0))))⟩
    .done)))
  (.cond (.t s38) (.seq (.reg (.one ⟨some s39, none, (.mv (.t s7))⟩
    (.one ⟨some s40, none, (.bin false .sub (.t s39) (.c (.v (.int .i64 1))))⟩
    (.one ⟨some s7, none, (.mv (.t s40))⟩
    .done))))
  (.seq (.reg (.one ⟨some s41, none, (.mv (.t s0))⟩
    (.one ⟨some s42, none, (.mv (.t s1))⟩
    (.one ⟨some s43, none, (.mv (.t s7))⟩
    (.one ⟨some s44, none, (.bin false .shr (.t s42) (.t s43))⟩
    (.one ⟨some s45, none, (.bin false .and (.t s44) (.c (.v (.int .u64 1))))⟩
    (.one ⟨some s46, none, (.conv .u8 (.t s45))⟩
    (.one ⟨some s47, none, (.call 80 [(.t s41), (.t s46)])⟩
    .done))))))))
  (.goto 0))) .skip))
  (.seq (.reg (.one ⟨some s6, none, (.mv (.c (.v (.int .i64 0))))⟩
    .done))
  .ret)))))))⟩
theorem ok71 : compF Try.prog c71 Try.f71 = some ir71 := by kernel_rfl
theorem k_bits_Writer_Put {args : List AVal} {σ : AHeap} {Q : AVal → AHeap → Prop} (hl : Nat.ble args.length 48 = true) (h : argsK (Env.full 9) 0 args fun env => evC Try.prog c71 ir71.body env σ (retQ ir71 Q)) : ACalls Try.prog 71 args σ Q :=
  acalls_of Try.func71 ok71 rfl (Nat.le_of_ble_eq_true hl) h
/- bits.Writer).Bytes -/
def c72 : Cfg := ⟨qs, [], 10, [], ps⟩
def ir72 : IFun := ⟨1, [.tmp s2],
  (.seq (.reg (.one ⟨some s2, none, (.mv (.c (.slice 1 [] .full)))⟩
    .done))
  (.seq (.seq (.reg (.one ⟨some s3, none, (.mv (.t s0))⟩
    (.one ⟨some s4, none, (.eqNil 1 false (.t s3))⟩
    .done)))
  (.cond (.t s4) (.seq (.reg (.one ⟨some s2, none, (.mv (.c (.slice 1 [] .full)))⟩
    .done))
  .ret) .skip))
  (.seq (.reg (.one ⟨some s5, none, (.mv (.t s0))⟩
    (.one ⟨some s6, none, (.nilchk (.t s5))⟩
    (.one ⟨some s7, none, (.faddr 0 (.t s6))⟩
    (.one ⟨some s8, none, (.load none (.t s7))⟩
    (.one ⟨some s9, none, (.callq 68 [(.t s8)])⟩
    (.one ⟨some s2, none, (.mv (.t s9))⟩
    .done)))))))
  .ret)))⟩
theorem ok72 : compF Try.prog c72 Try.f72 = some ir72 := by kernel_rfl
theorem k_bits_Writer_Bytes {args : List AVal} {σ : AHeap} {Q : AVal → AHeap → Prop} (hl : Nat.ble args.length 10 = true) (h : argsK (Env.full 9) 0 args fun env => evC Try.prog c72 ir72.body env σ (retQ ir72 Q)) : ACalls Try.prog 72 args σ Q :=
  acalls_of Try.func72 ok72 rfl (Nat.le_of_ble_eq_true hl) h
/- bits.Reader).Left -/
def c75 : Cfg := ⟨qs, [], 16, [], ps⟩
def ir75 : IFun := ⟨1, [.tmp s2],
  (.seq (.reg (.one ⟨some s2, none, (.mv (.c (.v (.int .i64 0))))⟩
    .done))
  (.seq (.seq (.reg (.one ⟨some s3, none, (.mv (.t s0))⟩
    (.one ⟨some s4, none, (.eqNil 1 false (.t s3))⟩
    .done)))
  (.cond (.t s4) (.seq (.reg (.one ⟨some s2, none, (.mv (.c (.v (.int .i64 0))))⟩
    .done))
  .ret) .skip))
  (.seq (.reg (.one ⟨some s5, none, (.mv (.t s0))⟩
    (.one ⟨some s6, none, (.nilchk (.t s5))⟩
    (.one ⟨some s7, none, (.faddr 0 (.t s6))⟩
    (.one ⟨some s8, none, (.load none (.t s7))⟩
    (.one ⟨some s9, none, (.len false (.t s8))⟩
    (.one ⟨some s10, none, (.bin false .mul (.t s9) (.c (.v (.int .i64 8))))⟩
    (.one ⟨some s11, none, (.mv (.t s0))⟩
    (.one ⟨some s12, none, (.nilchk (.t s11))⟩
    (.one ⟨some s13, none, (.faddr 1 (.t s12))⟩
    (.one ⟨some s14, none, (.load none (.t s13))⟩
    (.one ⟨some s15, none, (.bin false .sub (.t s10) (.t s14))⟩
    (.one ⟨some s2, none, (.mv (.t s15))⟩
    .done)))))))))))))
  .ret)))⟩
theorem ok75 : compF Try.prog c75 Try.f75 = some ir75 := by kernel_rfl
theorem k_bits_Reader_Left {args : List AVal} {σ : AHeap} {Q : AVal → AHeap → Prop} (hl : Nat.ble args.length 16 = true) (h : argsK (Env.full 9) 0 args fun env => evC Try.prog c75 ir75.body env σ (retQ ir75 Q)) : ACalls Try.prog 75 args σ Q :=
  acalls_of Try.func75 ok75 rfl (Nat.le_of_ble_eq_true hl) h
/- bits.Reader).Rest -/
def c76 : Cfg := ⟨qs, [], 53, [], ps⟩
def ir76 : IFun := ⟨1, [.tmp s2, .tmp s3],
  (.seq (.reg (.one ⟨some s2, none, (.mv (.c (.slice 1 [] .full)))⟩
    (.one ⟨some s3, none, (.mv (.c (.v (.int .i64 0))))⟩
    .done)))
  (.seq (.seq (.reg (.one ⟨some s8, none, (.mv (.t s0))⟩
    (.one ⟨some s9, none, (.eqNil 1 false (.t s8))⟩
    .done)))
  (.cond (.t s9) (.seq (.reg (.one ⟨some s2, none, (.mv (.c (.slice 1 [] .full)))⟩
    (.one ⟨some s3, none, (.mv (.c (.v (.int .i64 6))))⟩
    .done)))
  .ret) .skip))
  (.seq (.reg (.one ⟨some s10, none, (.mv (.t s0))⟩
    (.one ⟨some s11, none, (.nilchk (.t s10))⟩
    (.one ⟨some s12, none, (.faddr 1 (.t s11))⟩
    (.one ⟨some s13, none, (.load none (.t s12))⟩
    (.one ⟨some s4, none, (.mv (.t s13))⟩
    .done))))))
  (.seq (.reg (.one ⟨some s15, none, (.mv (.t s0))⟩
    (.one ⟨some s16, none, (.mv (.t s0))⟩
    (.one ⟨some s17, none, (.nilchk (.t s16))⟩
    (.one ⟨some s18, none, (.faddr 1 (.t s17))⟩
    (.one ⟨some s19, none, (.load none (.t s18))⟩
    (.one ⟨some s20, none, (.bin false .rem (.t s19) (.c (.v (.int .i64 8))))⟩
    (.one ⟨some s21, none, (.bin false .sub (.c (.v (.int .i64 8))) (.t s20))⟩
    (.one ⟨some s22, none, (.bin false .rem (.t s21) (.c (.v (.int .i64 8))))⟩
    (.one ⟨some s23, none, (.call 53 [(.t s15), (.t s22)])⟩
    (.one ⟨some s14, none, (.mv (.t s23))⟩
    (.one ⟨some s24, none, (.ext (.t s14) 0)⟩
    (.one ⟨some s25, none, (.ext (.t s14) 1)⟩
    (.one ⟨some s5, none, (.mv (.t s24))⟩
    (.one ⟨some s6, none, (.mv (.t s25))⟩
    .done)))))))))))))))
  (.seq (.seq (.reg (.one ⟨some s26, none, (.mv (.t s5))⟩
    (.one ⟨some s27, none, (.bin false .neq (.t s26) (.c (.v (.int .u64 0))))⟩
    .done)))
  (.cond (.t s27) (.seq (.reg (.one ⟨some s28, none, (.mv (.t s0))⟩
    (.one ⟨some s29, none, (.mv (.t s4))⟩
    (.one ⟨some s30, none, (.nilchk (.t s28))⟩
    (.one ⟨some s31, none, (.faddr 1 (.t s30))⟩
    (.one ⟨none, none, (.store 1 (.t s31) (.t s29))⟩
    .done))))))
  (.seq (.reg (.one ⟨some s2, none, (.mv (.c (.slice 1 [] .full)))⟩
    (.one ⟨some s3, none, (.mv (.c (.v (.int .i64 3))))⟩
    .done)))
  .ret)) .skip))
  (.seq (.reg (.one ⟨some s32, none, (.mv (.t s0))⟩
    (.one ⟨some s33, none, (.nilchk (.t s32))⟩
    (.one ⟨some s34, none, (.faddr 0 (.t s33))⟩
    (.one ⟨some s35, none, (.load none (.t s34))⟩
    (.one ⟨some s36, none, (.mv (.t s0))⟩
    (.one ⟨some s37, none, (.nilchk (.t s36))⟩
    (.one ⟨some s38, none, (.faddr 1 (.t s37))⟩
    (.one ⟨some s39, none, (.load none (.t s38))⟩
    (.one ⟨some s40, none, (.bin false .quo (.t s39) (.c (.v (.int .i64 8))))⟩
    (.one ⟨some s41, none, (.cut 1 (.t s35) (some (.t s40)) none none)⟩
    (.one ⟨some s42, none, (.callq 68 [(.t s41)])⟩
    (.one ⟨some s7, none, (.mv (.t s42))⟩
    .done)))))))))))))
  (.seq (.reg (.one ⟨some s43, none, (.mv (.t s0))⟩
    (.one ⟨some s44, none, (.mv (.t s0))⟩
    (.one ⟨some s45, none, (.nilchk (.t s44))⟩
    (.one ⟨some s46, none, (.faddr 0 (.t s45))⟩
    (.one ⟨some s47, none, (.load none (.t s46))⟩
    (.one ⟨some s48, none, (.len false (.t s47))⟩
    (.one ⟨some s49, none, (.bin false .mul (.t s48) (.c (.v (.int .i64 8))))⟩
    (.one ⟨some s50, none, (.nilchk (.t s43))⟩
    (.one ⟨some s51, none, (.faddr 1 (.t s50))⟩
    (.one ⟨none, none, (.store 1 (.t s51) (.t s49))⟩
    .done)))))))))))
  (.seq (.reg (.one ⟨some s52, none, (.mv (.t s7))⟩
    (.one ⟨some s2, none, (.mv (.t s52))⟩
    (.one ⟨some s3, none, (.mv (.c (.v (.int .i64 0))))⟩
    .done))))
  .ret))))))))⟩
theorem ok76 : compF Try.prog c76 Try.f76 = some ir76 := by kernel_rfl
theorem k_bits_Reader_Rest {args : List AVal} {σ : AHeap} {Q : AVal → AHeap → Prop} (hl : Nat.ble args.length 53 = true) (h : argsK (Env.full 9) 0 args fun env => evC Try.prog c76 ir76.body env σ (retQ ir76 Q)) : ACalls Try.prog 76 args σ Q :=
  acalls_of Try.func76 ok76 rfl (Nat.le_of_ble_eq_true hl) h
/- bits.Writer).one -/
def c80 : Cfg := ⟨qs, [], 47, [], ps⟩
def ir80 : IFun := ⟨2, [],
  (.seq (.seq (.reg (.one ⟨some s4, none, (.mv (.t s0))⟩
    (.one ⟨some s5, none, (.nilchk (.t s4))⟩
    (.one ⟨some s6, none, (.faddr 1 (.t s5))⟩
    (.one ⟨some s7, none, (.load none (.t s6))⟩
    (.one ⟨some s8, none, (.bin false .rem (.t s7) (.c (.v (.int .i64 8))))⟩
    (.one ⟨some s9, none, (.bin false .eql (.t s8) (.c (.v (.int .i64 0))))⟩
    .done)))))))
  (.cond (.t s9) (.reg (.one ⟨some s10, none, (.mv (.t s0))⟩
    (.one ⟨some s11, none, (.mv (.t s0))⟩
    (.one ⟨some s12, none, (.nilchk (.t s11))⟩
    (.one ⟨some s13, none, (.faddr 0 (.t s12))⟩
    (.one ⟨some s14, none, (.load none (.t s13))⟩
    (.one ⟨some s15, none, (.row 1 [(.c (.v (.int .u8 0)))])⟩
    (.one ⟨some s16, none, (.app 1 1 (.t s14) (.t s15))⟩
    (.one ⟨some s17, none, (.nilchk (.t s10))⟩
    (.one ⟨some s18, none, (.faddr 0 (.t s17))⟩
    (.one ⟨none, none, (.store 1 (.t s18) (.t s16))⟩
    .done))))))))))) .skip))
  (.seq (.reg (.one ⟨some s19, none, (.mv (.t s0))⟩
    (.one ⟨some s20, none, (.nilchk (.t s19))⟩
    (.one ⟨some s21, none, (.faddr 0 (.t s20))⟩
    (.one ⟨some s22, none, (.load none (.t s21))⟩
    (.one ⟨some s23, none, (.mv (.t s0))⟩
    (.one ⟨some s24, none, (.nilchk (.t s23))⟩
    (.one ⟨some s25, none, (.faddr 1 (.t s24))⟩
    (.one ⟨some s26, none, (.load none (.t s25))⟩
    (.one ⟨some s27, none, (.bin false .quo (.t s26) (.c (.v (.int .i64 8))))⟩
    (.one ⟨some s28, none, (.iaddr 1 (.t s22) (.t s27))⟩
    (.one ⟨some s29, none, (.load none (.t s28))⟩
    (.one ⟨some s30, none, (.mv (.t s1))⟩
    (.one ⟨some s31, none, (.mv (.t s0))⟩
    (.one ⟨some s32, none, (.nilchk (.t s31))⟩
    (.one ⟨some s33, none, (.faddr 1 (.t s32))⟩
    (.one ⟨some s34, none, (.load none (.t s33))⟩
    (.one ⟨some s35, none, (.bin false .rem (.t s34) (.c (.v (.int .i64 8))))⟩
    (.one ⟨some s36, none, (.bin false .sub (.c (.v (.int .i64 7))) (.t s35))⟩
    (.one ⟨some s37, none, (.bin false .shl (.t s30) (.t s36))⟩
    (.one ⟨some s38, none, (.bin false .or (.t s29) (.t s37))⟩
    (.one ⟨some s39, none, (.iaddr 1 (.t s22) (.t s27))⟩
    (.one ⟨none, none, (.store 1 (.t s39) (.t s38))⟩
    .done)))))))))))))))))))))))
  (.reg (.one ⟨some s40, none, (.mv (.t s0))⟩
    (.one ⟨some s41, none, (.nilchk (.t s40))⟩
    (.one ⟨some s42, none, (.faddr 1 (.t s41))⟩
    (.one ⟨some s43, none, (.load none (.t s42))⟩
    (.one ⟨some s44, none, (.bin false .add (.t s43) (.c (.v (.int .i64 1))))⟩
    (.one ⟨some s45, none, (.nilchk (.t s40))⟩
    (.one ⟨some s46, none, (.faddr 1 (.t s45))⟩
    (.one ⟨none, none, (.store 1 (.t s46) (.t s44))⟩
    .done)))))))))))⟩
theorem ok80 : compF Try.prog c80 Try.f80 = some ir80 := by kernel_rfl
theorem k_bits_Writer_one {args : List AVal} {σ : AHeap} {Q : AVal → AHeap → Prop} (hl : Nat.ble args.length 47 = true) (h : argsK (Env.full 9) 0 args fun env => evC Try.prog c80 ir80.body env σ (retQ ir80 Q)) : ACalls Try.prog 80 args σ Q :=
  acalls_of Try.func80 ok80 rfl (Nat.le_of_ble_eq_true hl) h
/- bits.Writer).one -/
def c80m : Cfg := ⟨qs, [22, 39, 43, 61, 90], 47, [], ps⟩
def ir80m : IFun := ⟨2, [],
  (.seq (.seq (.reg (.one ⟨some s4, none, (.mv (.t s0))⟩
    (.one ⟨some s5, none, (.nilchk (.t s4))⟩
    (.one ⟨some s6, none, (.faddr 1 (.t s5))⟩
    (.one ⟨some s7, none, (.load none (.t s6))⟩
    (.one ⟨some s8, none, (.bin false .rem (.t s7) (.c (.v (.int .i64 8))))⟩
    (.one ⟨some s9, none, (.bin false .eql (.t s8) (.c (.v (.int .i64 0))))⟩
    .done)))))))
  (.cond (.t s9) (.reg (.one ⟨some s10, none, (.mv (.t s0))⟩
    (.one ⟨some s11, none, (.mv (.t s0))⟩
    (.one ⟨some s12, none, (.nilchk (.t s11))⟩
    (.one ⟨some s13, none, (.faddr 0 (.t s12))⟩
    (.one ⟨some s14, none, (.load none (.t s13))⟩
    (.one ⟨some s15, none, (.row 1 [(.c (.v (.int .u8 0)))])⟩
    (.one ⟨some s16, none, (.appm 1 1 (.t s14) (.t s15))⟩
    (.one ⟨some s17, none, (.nilchk (.t s10))⟩
    (.one ⟨some s18, none, (.faddr 0 (.t s17))⟩
    (.one ⟨none, none, (.store 1 (.t s18) (.t s16))⟩
    .done))))))))))) .skip))
  (.seq (.reg (.one ⟨some s19, none, (.mv (.t s0))⟩
    (.one ⟨some s20, none, (.nilchk (.t s19))⟩
    (.one ⟨some s21, none, (.faddr 0 (.t s20))⟩
    (.one ⟨some s22, none, (.load none (.t s21))⟩
    (.one ⟨some s23, none, (.mv (.t s0))⟩
    (.one ⟨some s24, none, (.nilchk (.t s23))⟩
    (.one ⟨some s25, none, (.faddr 1 (.t s24))⟩
    (.one ⟨some s26, none, (.load none (.t s25))⟩
    (.one ⟨some s27, none, (.bin false .quo (.t s26) (.c (.v (.int .i64 8))))⟩
    (.one ⟨some s28, none, (.iaddr 1 (.t s22) (.t s27))⟩
    (.one ⟨some s29, none, (.load none (.t s28))⟩
    (.one ⟨some s30, none, (.mv (.t s1))⟩
    (.one ⟨some s31, none, (.mv (.t s0))⟩
    (.one ⟨some s32, none, (.nilchk (.t s31))⟩
    (.one ⟨some s33, none, (.faddr 1 (.t s32))⟩
    (.one ⟨some s34, none, (.load none (.t s33))⟩
    (.one ⟨some s35, none, (.bin false .rem (.t s34) (.c (.v (.int .i64 8))))⟩
    (.one ⟨some s36, none, (.bin false .sub (.c (.v (.int .i64 7))) (.t s35))⟩
    (.one ⟨some s37, none, (.bin false .shl (.t s30) (.t s36))⟩
    (.one ⟨some s38, none, (.bin false .or (.t s29) (.t s37))⟩
    (.one ⟨some s39, none, (.iaddr 1 (.t s22) (.t s27))⟩
    (.one ⟨none, none, (.store 1 (.t s39) (.t s38))⟩
    .done)))))))))))))))))))))))
  (.reg (.one ⟨some s40, none, (.mv (.t s0))⟩
    (.one ⟨some s41, none, (.nilchk (.t s40))⟩
    (.one ⟨some s42, none, (.faddr 1 (.t s41))⟩
    (.one ⟨some s43, none, (.load none (.t s42))⟩
    (.one ⟨some s44, none, (.bin false .add (.t s43) (.c (.v (.int .i64 1))))⟩
    (.one ⟨some s45, none, (.nilchk (.t s40))⟩
    (.one ⟨some s46, none, (.faddr 1 (.t s45))⟩
    (.one ⟨none, none, (.store 1 (.t s46) (.t s44))⟩
    .done)))))))))))⟩
theorem ok80m : compF Try.prog c80m Try.f80 = some ir80m := by kernel_rfl
theorem km_bits_Writer_one {args : List AVal} {σ : AHeap} {Q : AVal → AHeap → Prop} (hl : Nat.ble args.length 47 = true) (h : argsK (Env.full 9) 0 args fun env => evC Try.prog c80m ir80m.body env σ (retQ ir80m Q)) : ACalls Try.prog 80 args σ Q :=
  acalls_of Try.func80 ok80m rfl (Nat.le_of_ble_eq_true hl) h
end Go.Proofs.Ytgipkpghabelkaa
/-
  The bodies of one package, compiled to the framework's language (printed by a program of this session).
-/
namespace Go.Proofs.Ytgipkpghabelkaa
set_option linter.unusedVariables false
set_option linter.unusedSimpArgs false
open Go Go.Am
/- lens.Size -/
def c31 : Cfg := ⟨qs, [], 23, [], ps⟩
def ir31 : IFun := ⟨2, [.tmp s4],
  (.seq (.reg (.one ⟨some s4, none, (.mv (.c (.v (.int .i64 0))))⟩
    .done))
  (.seq (.seq (.reg (.one ⟨some s5, none, (.mv (.t s1))⟩
    (.one ⟨some s6, none, (.callq 59 [(.t s5)])⟩
    (.one ⟨some s7, none, (.not (.t s6))⟩
    (.one ⟨some s8, none, (.mv (.t s7))⟩
    (.one ⟨some s9, some (s8, false), (.mv (.t s0))⟩
    (.one ⟨some s10, some (s8, false), (.bin false .lss (.t s9) (.c (.v (.int .i64 1))))⟩
    (.one ⟨some s11, none, (.pick (.t s8) (.c (.v (.bool true))) (.t s10))⟩
    (.one ⟨some s12, none, (.mv (.t s11))⟩
    (.one ⟨some s13, some (s12, false), (.mv (.t s0))⟩
    (.one ⟨some s14, some (s12, false), (.bin false .gtr (.t s13) (.c (.v (.int .i64 23))))⟩
    (.one ⟨some s15, none, (.pick (.t s12) (.c (.v (.bool true))) (.t s14))⟩
    .done))))))))))))
  (.cond (.t s15) (.seq (.reg (.one ⟨some s4, none, (.mv (.c (.v (.int .i64 0))))⟩
    .done))
  .ret) .skip))
  (.seq (.reg (.one ⟨some s16, none, (.mv (.t s0))⟩
    (.one ⟨some s17, none, (.mv (.t s1))⟩
    (.one ⟨some s18, none, (.bin false .add (.t s17) (.c (.v (.int .i64 1))))⟩
    (.one ⟨some s19, none, (.bin false .mul (.t s16) (.t s18))⟩
    (.one ⟨some s20, none, (.bin false .add (.t s19) (.c (.v (.int .i64 8))))⟩
    (.one ⟨some s21, none, (.bin false .sub (.t s20) (.c (.v (.int .i64 1))))⟩
    (.one ⟨some s22, none, (.bin false .quo (.t s21) (.c (.v (.int .i64 8))))⟩
    (.one ⟨some s4, none, (.mv (.t s22))⟩
    .done)))))))))
  .ret)))⟩
theorem ok31 : compF Try.prog c31 Try.f31 = some ir31 := by kernel_rfl
theorem k_lens_Size {args : List AVal} {σ : AHeap} {Q : AVal → AHeap → Prop} (hl : Nat.ble args.length 23 = true) (h : argsK (Env.full 9) 0 args fun env => evC Try.prog c31 ir31.body env σ (retQ ir31 Q)) : ACalls Try.prog 31 args σ Q :=
  acalls_of Try.func31 ok31 rfl (Nat.le_of_ble_eq_true hl) h
/- lens.Read -/
def c54 : Cfg := ⟨qs, [], 69, [], ps⟩
def ir54 : IFun := ⟨2, [.tmp s4, .tmp s5, .tmp s6],
  (.seq (.reg (.one ⟨some s4, none, (.mv (.c (.slice 1 [] .full)))⟩
    (.one ⟨some s5, none, (.mv (.c (.v (.int .i64 0))))⟩
    (.one ⟨some s6, none, (.mv (.c (.v (.int .i64 0))))⟩
    .done))))
  (.scope (.seq (.seq (.reg (.one ⟨some s14, none, (.mv (.t s1))⟩
    (.one ⟨some s15, none, (.callq 59 [(.t s14)])⟩
    (.one ⟨some s16, none, (.not (.t s15))⟩
    .done))))
  (.cond (.t s16) (.seq (.reg (.one ⟨some s4, none, (.mv (.c (.slice 1 [] .full)))⟩
    (.one ⟨some s5, none, (.mv (.c (.v (.int .i64 0))))⟩
    (.one ⟨some s6, none, (.mv (.c (.v (.int .i64 9))))⟩
    .done))))
  .ret) .skip))
  (.seq (.reg (.one ⟨some s7, none, (.mv (.c (.slice 1 [] .full)))⟩
    .done))
  (.seq (.reg (.one ⟨some s17, none, (.mv (.t s0))⟩
    (.one ⟨some s18, none, (.mv (.t s0))⟩
    (.one ⟨some s19, none, (.len false (.t s18))⟩
    (.one ⟨some s20, none, (.mv (.t s1))⟩
    (.one ⟨some s21, none, (.callq 31 [(.c (.v (.int .i64 23))), (.t s20)])⟩
    (.one ⟨some s22, none, (.mxmn false (.t s19) (.t s21))⟩
    (.one ⟨some s23, none, (.cut 1 (.t s17) none (some (.t s22)) none)⟩
    (.one ⟨some s24, none, (.callq 52 [(.t s23)])⟩
    (.one ⟨some s8, none, (.mv (.t s24))⟩
    .done))))))))))
  (.seq (.label 0)
  (.seq (.reg (.one ⟨some s26, none, (.mv (.t s8))⟩
    (.one ⟨some s27, none, (.call 53 [(.t s26), (.c (.v (.int .i64 1)))])⟩
    (.one ⟨some s25, none, (.mv (.t s27))⟩
    (.one ⟨some s28, none, (.ext (.t s25) 0)⟩
    (.one ⟨some s29, none, (.ext (.t s25) 1)⟩
    (.one ⟨some s9, none, (.mv (.t s28))⟩
    (.one ⟨some s10, none, (.mv (.t s29))⟩
    .done))))))))
  (.seq (.seq (.reg (.one ⟨some s30, none, (.mv (.t s10))⟩
    (.one ⟨some s31, none, (.bin false .neq (.t s30) (.c (.v (.int .i64 0))))⟩
    .done)))
  (.cond (.t s31) (.seq (.reg (.one ⟨some s32, none, (.mv (.t s10))⟩
    (.one ⟨some s4, none, (.mv (.c (.slice 1 [] .full)))⟩
    (.one ⟨some s5, none, (.mv (.c (.v (.int .i64 0))))⟩
    (.one ⟨some s6, none, (.mv (.t s32))⟩
    .done)))))
  .ret) .skip))
  (.seq (.reg (.one ⟨some s34, none, (.mv (.t s8))⟩
    (.one ⟨some s35, none, (.mv (.t s1))⟩
    (.one ⟨some s36, none, (.call 53 [(.t s34), (.t s35)])⟩
    (.one ⟨some s33, none, (.mv (.t s36))⟩
    (.one ⟨some s37, none, (.ext (.t s33) 0)⟩
    (.one ⟨some s38, none, (.ext (.t s33) 1)⟩
    (.one ⟨some s11, none, (.mv (.t s37))⟩
    (.one ⟨some s10, none, (.mv (.t s38))⟩
    .done)))))))))
  (.seq (.block 0 (.seq (.reg (.one ⟨some s40, none, (.mv (.t s10))⟩
    (.one ⟨some s41, none, (.bin false .neq (.t s40) (.c (.v (.int .i64 0))))⟩
    (.one ⟨some s39, none, (.mv (.t s41))⟩
    .done))))
  (.cond (.t s39) (.seq (.reg (.one ⟨some s42, none, (.mv (.t s10))⟩
    (.one ⟨some s4, none, (.mv (.c (.slice 1 [] .full)))⟩
    (.one ⟨some s5, none, (.mv (.c (.v (.int .i64 0))))⟩
    (.one ⟨some s6, none, (.mv (.t s42))⟩
    .done)))))
  .ret) (.seq (.reg (.one ⟨some s44, none, (.mv (.t s11))⟩
    (.one ⟨some s45, none, (.bin false .eql (.t s44) (.c (.v (.int .u64 0))))⟩
    (.one ⟨some s43, none, (.mv (.t s45))⟩
    .done))))
  (.cond (.t s43) (.seq (.reg (.one ⟨some s4, none, (.mv (.c (.slice 1 [] .full)))⟩
    (.one ⟨some s5, none, (.mv (.c (.v (.int .i64 0))))⟩
    (.one ⟨some s6, none, (.mv (.c (.v (.int .i64 3))))⟩
    .done))))
  .ret) .skip)))))
  (.seq (.reg (.one ⟨some s46, none, (.mv (.t s7))⟩
    (.one ⟨some s47, none, (.mv (.t s11))⟩
    (.one ⟨some s48, none, (.conv .i64 (.t s47))⟩
    (.one ⟨some s49, none, (.row 1 [(.t s48)])⟩
    (.one ⟨some s50, none, (.app 1 8 (.t s46) (.t s49))⟩
    (.one ⟨some s7, none, (.mv (.t s50))⟩
    .done)))))))
  (.seq (.seq (.reg (.one ⟨some s51, none, (.mv (.t s9))⟩
    (.one ⟨some s52, none, (.bin false .eql (.t s51) (.c (.v (.int .u64 1))))⟩
    .done)))
  (.cond (.t s52) (.seq (.seq (.reg (.one ⟨some s53, none, (.mv (.t s7))⟩
    (.one ⟨some s54, none, (.len false (.t s53))⟩
    (.one ⟨some s55, none, (.bin false .eql (.t s54) (.c (.v (.int .i64 23))))⟩
    .done))))
  (.cond (.t s55) (.seq (.reg (.one ⟨some s4, none, (.mv (.c (.slice 1 [] .full)))⟩
    (.one ⟨some s5, none, (.mv (.c (.v (.int .i64 0))))⟩
    (.one ⟨some s6, none, (.mv (.c (.v (.int .i64 2))))⟩
    .done))))
  .ret) .skip))
  (.goto 0)) .skip))
  (.seq (.seq (.reg (.one ⟨some s57, none, (.mv (.t s8))⟩
    (.one ⟨some s58, none, (.call 76 [(.t s57)])⟩
    (.one ⟨some s56, none, (.mv (.t s58))⟩
    (.one ⟨some s59, none, (.ext (.t s56) 0)⟩
    (.one ⟨some s60, none, (.ext (.t s56) 1)⟩
    (.one ⟨some s12, none, (.mv (.t s59))⟩
    (.one ⟨some s13, none, (.mv (.t s60))⟩
    .done))))))))
  (.seq (.reg (.one ⟨some s61, none, (.mv (.t s13))⟩
    (.one ⟨some s62, none, (.bin false .neq (.t s61) (.c (.v (.int .i64 0))))⟩
    .done)))
  (.cond (.t s62) (.seq (.reg (.one ⟨some s63, none, (.mv (.t s13))⟩
    (.one ⟨some s4, none, (.mv (.c (.slice 1 [] .full)))⟩
    (.one ⟨some s5, none, (.mv (.c (.v (.int .i64 0))))⟩
    (.one ⟨some s6, none, (.mv (.t s63))⟩
    .done)))))
  .ret) .skip)))
  (.seq (.reg (.one ⟨some s64, none, (.mv (.t s7))⟩
    (.one ⟨some s65, none, (.mv (.t s7))⟩
    (.one ⟨some s66, none, (.len false (.t s65))⟩
    (.one ⟨some s67, none, (.mv (.t s1))⟩
    (.one ⟨some s68, none, (.callq 31 [(.t s66), (.t s67)])⟩
    (.one ⟨some s4, none, (.mv (.t s64))⟩
    (.one ⟨some s5, none, (.mv (.t s68))⟩
    (.one ⟨some s6, none, (.mv (.c (.v (.int .i64 0))))⟩
    .done)))))))))
  .ret))))))))))))))⟩
theorem ok54 : compF Try.prog c54 Try.f54 = some ir54 := by kernel_rfl
theorem k_lens_Read {args : List AVal} {σ : AHeap} {Q : AVal → AHeap → Prop} (hl : Nat.ble args.length 69 = true) (h : argsK (Env.full 9) 0 args fun env => evC Try.prog c54 ir54.body env σ (retQ ir54 Q)) : ACalls Try.prog 54 args σ Q :=
  acalls_of Try.func54 ok54 rfl (Nat.le_of_ble_eq_true hl) h
/- lens.isWidth -/
def c59 : Cfg := ⟨qs, [], 9, [], ps⟩
def ir59 : IFun := ⟨1, [.tmp s2],
  (.seq (.reg (.one ⟨some s2, none, (.mv (.c (.v (.bool false))))⟩
    .done))
  (.seq (.reg (.one ⟨some s3, none, (.mv (.t s0))⟩
    (.one ⟨some s4, none, (.bin false .eql (.t s3) (.c (.v (.int .i64 11))))⟩
    (.one ⟨some s5, none, (.mv (.t s4))⟩
    (.one ⟨some s6, some (s5, false), (.mv (.t s0))⟩
    (.one ⟨some s7, some (s5, false), (.bin false .eql (.t s6) (.c (.v (.int .i64 15))))⟩
    (.one ⟨some s8, none, (.pick (.t s5) (.c (.v (.bool true))) (.t s7))⟩
    (.one ⟨some s2, none, (.mv (.t s8))⟩
    .done))))))))
  .ret))⟩
theorem ok59 : compF Try.prog c59 Try.f59 = some ir59 := by kernel_rfl
theorem k_lens_isWidth {args : List AVal} {σ : AHeap} {Q : AVal → AHeap → Prop} (hl : Nat.ble args.length 9 = true) (h : argsK (Env.full 9) 0 args fun env => evC Try.prog c59 ir59.body env σ (retQ ir59 Q)) : ACalls Try.prog 59 args σ Q :=
  acalls_of Try.func59 ok59 rfl (Nat.le_of_ble_eq_true hl) h
/- lens.Write -/
def c73 : Cfg := ⟨qs, [], 54, [], ps⟩
def ir73 : IFun := ⟨2, [.tmp s4, .tmp s5],
  (.seq (.reg (.one ⟨some s4, none, (.mv (.c (.slice 1 [] .full)))⟩
    (.one ⟨some s5, none, (.mv (.c (.v (.int .i64 0))))⟩
    .done)))
  (.seq (.block 0 (.seq (.reg (.one ⟨some s11, none, (.mv (.t s1))⟩
    (.one ⟨some s12, none, (.callq 59 [(.t s11)])⟩
    (.one ⟨some s13, none, (.not (.t s12))⟩
    (.one ⟨some s10, none, (.mv (.t s13))⟩
    .done)))))
  (.cond (.t s10) (.seq (.reg (.one ⟨some s4, none, (.mv (.c (.slice 1 [] .full)))⟩
    (.one ⟨some s5, none, (.mv (.c (.v (.int .i64 9))))⟩
    .done)))
  .ret) (.seq (.reg (.one ⟨some s15, none, (.mv (.t s0))⟩
    (.one ⟨some s16, none, (.len false (.t s15))⟩
    (.one ⟨some s17, none, (.bin false .eql (.t s16) (.c (.v (.int .i64 0))))⟩
    (.one ⟨some s14, none, (.mv (.t s17))⟩
    .done)))))
  (.cond (.t s14) (.seq (.reg (.one ⟨some s4, none, (.mv (.c (.slice 1 [] .full)))⟩
    (.one ⟨some s5, none, (.mv (.c (.v (.int .i64 4))))⟩
    .done)))
  .ret) (.seq (.reg (.one ⟨some s19, none, (.mv (.t s0))⟩
    (.one ⟨some s20, none, (.len false (.t s19))⟩
    (.one ⟨some s21, none, (.bin false .gtr (.t s20) (.c (.v (.int .i64 23))))⟩
    (.one ⟨some s18, none, (.mv (.t s21))⟩
    .done)))))
  (.cond (.t s18) (.seq (.reg (.one ⟨some s4, none, (.mv (.c (.slice 1 [] .full)))⟩
    (.one ⟨some s5, none, (.mv (.c (.v (.int .i64 2))))⟩
    .done)))
  .ret) .skip)))))))
  (.seq (.reg (.one ⟨some s22, none, (.callq 70 [])⟩
    (.one ⟨some s6, none, (.mv (.t s22))⟩
    .done)))
  (.seq (.seq (.reg (.one ⟨some s23, none, (.mv (.t s0))⟩
    (.one ⟨some s24, none, (.len false (.t s23))⟩
    (.one ⟨some s25, none, (.mv (.c (.v (.int .i64 0))))⟩
    .done))))
  (.block 1 (.loop (.seq (.reg (.one ⟨some s26, none, (.bin false .lss (.t s25) (.t s24))⟩
    .done))
  (.seq (.cond (.t s26) .skip (.exit 1))
  (.seq (.block 2 (.seq (.reg (.one ⟨some s27, none, (.mv (.t s25))⟩
    (.one ⟨some s28, none, (.iaddr 1 (.t s23) (.t s25))⟩
    (.one ⟨some s29, none, (.load none (.t s28))⟩
    (.one ⟨some s7, none, (.mv (.t s27))⟩
    (.one ⟨some s8, none, (.mv (.t s29))⟩
    .done))))))
  (.seq (.seq (.reg (.one ⟨some s30, none, (.mv (.t s8))⟩
    (.one ⟨some s31, none, (.bin false .lss (.t s30) (.c (.v (.int .i64 1))))⟩
    (.one ⟨some s32, none, (.mv (.t s31))⟩
    (.one ⟨some s33, some (s32, false), (.mv (.t s8))⟩
    (.one ⟨some s34, some (s32, false), (.mv (.t s1))⟩
    (.one ⟨some s35, some (s32, false), (.bin false .shl (.c (.v (.int .i64 1))) (.t s34))⟩
    (.one ⟨some s36, some (s32, false), (.bin false .geq (.t s33) (.t s35))⟩
    (.one ⟨some s37, none, (.pick (.t s32) (.c (.v (.bool true))) (.t s36))⟩
    .done)))))))))
  (.cond (.t s37) (.seq (.reg (.one ⟨some s4, none, (.mv (.c (.slice 1 [] .full)))⟩
    (.one ⟨some s5, none, (.mv (.c (.v (.int .i64 1))))⟩
    .done)))
  .ret) .skip))
  (.seq (.reg (.one ⟨some s9, none, (.mv (.c (.v (.int .u64 0))))⟩
    .done))
  (.seq (.seq (.reg (.one ⟨some s38, none, (.mv (.t s7))⟩
    (.one ⟨some s39, none, (.mv (.t s0))⟩
    (.one ⟨some s40, none, (.len false (.t s39))⟩
    (.one ⟨some s41, none, (.bin false .sub (.t s40) (.c (.v (.int .i64 1))))⟩
    (.one ⟨some s42, none, (.bin false .lss (.t s38) (.t s41))⟩
    .done))))))
  (.cond (.t s42) (.reg (.one ⟨some s9, none, (.mv (.c (.v (.int .u64 1))))⟩
    .done)) .skip))
  (.seq (.reg (.one ⟨some s43, none, (.mv (.t s6))⟩
    (.one ⟨some s44, none, (.mv (.t s9))⟩
    (.one ⟨some s45, none, (.call 71 [(.t s43), (.t s44), (.c (.v (.int .i64 1)))])⟩
    .done))))
  (.reg (.one ⟨some s46, none, (.mv (.t s6))⟩
    (.one ⟨some s47, none, (.mv (.t s8))⟩
    (.one ⟨some s48, none, (.conv .u64 (.t s47))⟩
    (.one ⟨some s49, none, (.mv (.t s1))⟩
    (.one ⟨some s50, none, (.call 71 [(.t s46), (.t s48), (.t s49)])⟩
    .done))))))))))))
  (.reg (.one ⟨some s51, none, (.bin false .add (.t s25) (.c (.v (.int .i64 1))))⟩
    (.one ⟨some s25, none, (.mv (.t s51))⟩
    .done)))))))))
  (.seq (.reg (.one ⟨some s52, none, (.mv (.t s6))⟩
    (.one ⟨some s53, none, (.callq 72 [(.t s52)])⟩
    (.one ⟨some s4, none, (.mv (.t s53))⟩
    (.one ⟨some s5, none, (.mv (.c (.v (.int .i64 0))))⟩
    .done)))))
  .ret)))))⟩
theorem ok73 : compF Try.prog c73 Try.f73 = some ir73 := by kernel_rfl
theorem k_lens_Write {args : List AVal} {σ : AHeap} {Q : AVal → AHeap → Prop} (hl : Nat.ble args.length 54 = true) (h : argsK (Env.full 9) 0 args fun env => evC Try.prog c73 ir73.body env σ (retQ ir73 Q)) : ACalls Try.prog 73 args σ Q :=
  acalls_of Try.func73 ok73 rfl (Nat.le_of_ble_eq_true hl) h
end Go.Proofs.Ytgipkpghabelkaa
/-
  The bodies of one package, compiled to the framework's language (printed by a program of this session).
-/
namespace Go.Proofs.Ytgipkpghabelkaa
set_option linter.unusedVariables false
set_option linter.unusedSimpArgs false
open Go Go.Am
/- seqnum.Space).Is -/
def c39 : Cfg := ⟨qs, [], 13, [], ps⟩
def ir39 : IFun := ⟨2, [.tmp s4],
  (.seq (.reg (.one ⟨some s2, none, (.box 1 (.t s0))⟩
    (.one ⟨some s4, none, (.mv (.c (.v (.bool false))))⟩
    .done)))
  (.seq (.reg (.one ⟨some s5, none, (.mv (.t s1))⟩
    (.one ⟨some s6, none, (.bin false .geq (.t s5) (.c (.v (.int .i64 0))))⟩
    (.one ⟨some s7, none, (.mv (.t s6))⟩
    (.one ⟨some s8, some (s7, true), (.mv (.t s1))⟩
    (.one ⟨some s9, some (s7, true), (.load (some 1) (.t s2))⟩
    (.one ⟨some s10, some (s7, true), (.callq 64 [(.t s9)])⟩
    (.one ⟨some s11, some (s7, true), (.bin false .lss (.t s8) (.t s10))⟩
    (.one ⟨some s12, none, (.pick (.t s7) (.t s11) (.c (.v (.bool false))))⟩
    (.one ⟨some s4, none, (.mv (.t s12))⟩
    .done))))))))))
  .ret))⟩
theorem ok39 : compF Try.prog c39 Try.f39 = some ir39 := by kernel_rfl
theorem k_seqnum_Space_Is {args : List AVal} {σ : AHeap} {Q : AVal → AHeap → Prop} (hl : Nat.ble args.length 13 = true) (h : argsK (Env.full 9) 0 args fun env => evC Try.prog c39 ir39.body env σ (retQ ir39 Q)) : ACalls Try.prog 39 args σ Q :=
  acalls_of Try.func39 ok39 rfl (Nat.le_of_ble_eq_true hl) h
/- seqnum.Space).Size -/
def c64 : Cfg := ⟨qs, [], 9, [], ps⟩
def ir64 : IFun := ⟨1, [.tmp s2],
  (.seq (.reg (.one ⟨some s1, none, (.box 1 (.t s0))⟩
    (.one ⟨some s2, none, (.mv (.c (.v (.int .i64 0))))⟩
    .done)))
  (.seq (.seq (.reg (.one ⟨some s3, none, (.load (some 1) (.t s1))⟩
    (.one ⟨some s4, none, (.callq 78 [(.t s3)])⟩
    (.one ⟨some s5, none, (.not (.t s4))⟩
    .done))))
  (.cond (.t s5) (.seq (.reg (.one ⟨some s2, none, (.mv (.c (.v (.int .i64 0))))⟩
    .done))
  .ret) .skip))
  (.seq (.reg (.one ⟨some s6, none, (.faddr 0 (.t s1))⟩
    (.one ⟨some s7, none, (.load none (.t s6))⟩
    (.one ⟨some s8, none, (.bin false .shl (.c (.v (.int .i64 1))) (.t s7))⟩
    (.one ⟨some s2, none, (.mv (.t s8))⟩
    .done)))))
  .ret)))⟩
theorem ok64 : compF Try.prog c64 Try.f64 = some ir64 := by kernel_rfl
theorem k_seqnum_Space_Size {args : List AVal} {σ : AHeap} {Q : AVal → AHeap → Prop} (hl : Nat.ble args.length 9 = true) (h : argsK (Env.full 9) 0 args fun env => evC Try.prog c64 ir64.body env σ (retQ ir64 Q)) : ACalls Try.prog 64 args σ Q :=
  acalls_of Try.func64 ok64 rfl (Nat.le_of_ble_eq_true hl) h
/- seqnum.Right -/
def c78 : Cfg := ⟨qs, [], 16, [], ps⟩
def ir78 : IFun := ⟨1, [.tmp s2],
  (.seq (.reg (.one ⟨some s1, none, (.box 1 (.t s0))⟩
    (.one ⟨some s2, none, (.mv (.c (.v (.bool false))))⟩
    .done)))
  (.seq (.reg (.one ⟨some s3, none, (.load (some 1) (.t s1))⟩
    (.one ⟨some s4, none, (.build [(.v (.int .i64 0))] [])⟩
    (.one ⟨some s5, none, (.eqAgg true [false] (.t s3) (.t s4))⟩
    (.one ⟨some s6, none, (.mv (.t s5))⟩
    (.one ⟨some s7, some (s6, true), (.faddr 0 (.t s1))⟩
    (.one ⟨some s8, some (s6, true), (.load none (.t s7))⟩
    (.one ⟨some s9, some (s6, true), (.bin false .geq (.t s8) (.c (.v (.int .i64 1))))⟩
    (.one ⟨some s10, none, (.pick (.t s6) (.t s9) (.c (.v (.bool false))))⟩
    (.one ⟨some s11, none, (.mv (.t s10))⟩
    (.one ⟨some s12, some (s11, true), (.faddr 0 (.t s1))⟩
    (.one ⟨some s13, some (s11, true), (.load none (.t s12))⟩
    (.one ⟨some s14, some (s11, true), (.bin false .leq (.t s13) (.c (.v (.int .i64 16))))⟩
    (.one ⟨some s15, none, (.pick (.t s11) (.t s14) (.c (.v (.bool false))))⟩
    (.one ⟨some s2, none, (.mv (.t s15))⟩
    .done)))))))))))))))
  .ret))⟩
theorem ok78 : compF Try.prog c78 Try.f78 = some ir78 := by kernel_rfl
theorem k_seqnum_Right {args : List AVal} {σ : AHeap} {Q : AVal → AHeap → Prop} (hl : Nat.ble args.length 16 = true) (h : argsK (Env.full 9) 0 args fun env => evC Try.prog c78 ir78.body env σ (retQ ir78 Q)) : ACalls Try.prog 78 args σ Q :=
  acalls_of Try.func78 ok78 rfl (Nat.le_of_ble_eq_true hl) h
end Go.Proofs.Ytgipkpghabelkaa
/-
  The bodies of one package, compiled to the framework's language (printed by a program of this session).
-/
namespace Go.Proofs.Ytgipkpghabelkaa
set_option linter.unusedVariables false
set_option linter.unusedSimpArgs false
open Go Go.Am
/- bowlineref02.Is -/
def c61 : Cfg := ⟨qs, [], 13, [], ps⟩
def ir61 : IFun := ⟨2, [.tmp s4],
  (.seq (.reg (.one ⟨some s4, none, (.mv (.c (.v (.bool false))))⟩
    .done))
  (.seq (.reg (.one ⟨some s5, none, (.mv (.t s1))⟩
    (.one ⟨some s6, none, (.bin false .geq (.t s5) (.c (.v (.int .i64 0))))⟩
    (.one ⟨some s7, none, (.mv (.t s6))⟩
    (.one ⟨some s8, some (s7, true), (.mv (.t s1))⟩
    (.one ⟨some s9, some (s7, true), (.mv (.t s0))⟩
    (.one ⟨some s10, some (s7, true), (.callq 62 [(.t s9)])⟩
    (.one ⟨some s11, some (s7, true), (.bin false .lss (.t s8) (.t s10))⟩
    (.one ⟨some s12, none, (.pick (.t s7) (.t s11) (.c (.v (.bool false))))⟩
    (.one ⟨some s4, none, (.mv (.t s12))⟩
    .done))))))))))
  .ret))⟩
theorem ok61 : compF Try.prog c61 Try.f61 = some ir61 := by kernel_rfl
theorem k_bowlineref02_Is {args : List AVal} {σ : AHeap} {Q : AVal → AHeap → Prop} (hl : Nat.ble args.length 13 = true) (h : argsK (Env.full 9) 0 args fun env => evC Try.prog c61 ir61.body env σ (retQ ir61 Q)) : ACalls Try.prog 61 args σ Q :=
  acalls_of Try.func61 ok61 rfl (Nat.le_of_ble_eq_true hl) h
/- bowlineref02.Size -/
def c62 : Cfg := ⟨qs, [], 19, [], ps⟩
def ir62 : IFun := ⟨1, [.tmp s2],
  (.seq (.reg (.one ⟨some s2, none, (.mv (.c (.v (.int .i64 0))))⟩
    .done))
  (.seq (.seq (.reg (.one ⟨some s5, none, (.mv (.t s0))⟩
    (.one ⟨some s6, none, (.bin false .lss (.t s5) (.c (.v (.int .i64 1))))⟩
    (.one ⟨some s7, none, (.mv (.t s6))⟩
    (.one ⟨some s8, some (s7, false), (.mv (.t s0))⟩
    (.one ⟨some s9, some (s7, false), (.bin false .gtr (.t s8) (.c (.v (.int .i64 16))))⟩
    (.one ⟨some s10, none, (.pick (.t s7) (.c (.v (.bool true))) (.t s9))⟩
    .done)))))))
  (.cond (.t s10) (.seq (.reg (.one ⟨some s2, none, (.mv (.c (.v (.int .i64 0))))⟩
    .done))
  .ret) .skip))
  (.seq (.reg (.one ⟨some s3, none, (.mv (.c (.v (.int .i64 1))))⟩
    .done))
  (.seq (.seq (.reg (.one ⟨some s4, none, (.mv (.c (.v (.int .i64 0))))⟩
    .done))
  (.block 0 (.loop (.seq (.seq (.reg (.one ⟨some s11, none, (.mv (.t s4))⟩
    (.one ⟨some s12, none, (.mv (.t s0))⟩
    (.one ⟨some s13, none, (.bin false .lss (.t s11) (.t s12))⟩
    .done))))
  (.cond (.t s13) .skip (.exit 0)))
  (.seq (.block 1 (.reg (.one ⟨some s16, none, (.mv (.t s3))⟩
    (.one ⟨some s17, none, (.bin false .mul (.c (.v (.int .i64 2))) (.t s16))⟩
    (.one ⟨some s3, none, (.mv (.t s17))⟩
    .done)))))
  (.reg (.one ⟨some s14, none, (.mv (.t s4))⟩
    (.one ⟨some s15, none, (.bin false .add (.t s14) (.c (.v (.int .i64 1))))⟩
    (.one ⟨some s4, none, (.mv (.t s15))⟩
    .done)))))))))
  (.seq (.reg (.one ⟨some s18, none, (.mv (.t s3))⟩
    (.one ⟨some s2, none, (.mv (.t s18))⟩
    .done)))
  .ret)))))⟩
theorem ok62 : compF Try.prog c62 Try.f62 = some ir62 := by kernel_rfl
theorem k_bowlineref02_Size {args : List AVal} {σ : AHeap} {Q : AVal → AHeap → Prop} (hl : Nat.ble args.length 19 = true) (h : argsK (Env.full 9) 0 args fun env => evC Try.prog c62 ir62.body env σ (retQ ir62 Q)) : ACalls Try.prog 62 args σ Q :=
  acalls_of Try.func62 ok62 rfl (Nat.le_of_ble_eq_true hl) h
end Go.Proofs.Ytgipkpghabelkaa
/-
  The bodies of one package, compiled to the framework's language (printed by a program of this session).
-/
namespace Go.Proofs.Ytgipkpghabelkaa
set_option linter.unusedVariables false
set_option linter.unusedSimpArgs false
open Go Go.Am
/- umd.Read -/
def c25 : Cfg := ⟨qs, [], 107, [], ps⟩
def ir25 : IFun := ⟨2, [.cell s4 (some 3), .tmp s5],
  (.seq (.reg (.one ⟨some s4, none, (.new [(.v (.int .i64 0)), (.v (.int .i64 0)), (.slice 1 [] .full)])⟩
    (.one ⟨some s5, none, (.mv (.c (.v (.int .i64 0))))⟩
    .done)))
  (.seq (.block 0 (.seq (.reg (.one ⟨some s23, none, (.mv (.t s1))⟩
    (.one ⟨some s24, none, (.callq 50 [(.t s23)])⟩
    (.one ⟨some s25, none, (.not (.t s24))⟩
    (.one ⟨some s22, none, (.mv (.t s25))⟩
    .done)))))
  (.cond (.t s22) (.seq (.reg (.one ⟨some s26, none, (.build [(.v (.int .i64 0)), (.v (.int .i64 0)), (.slice 1 [] .full)] [])⟩
    (.one ⟨none, none, (.store 3 (.t s4) (.t s26))⟩
    (.one ⟨some s5, none, (.mv (.c (.v (.int .i64 9))))⟩
    .done))))
  .ret) (.seq (.reg (.one ⟨some s28, none, (.mv (.t s0))⟩
    (.one ⟨some s29, none, (.len false (.t s28))⟩
    (.one ⟨some s30, none, (.bin false .gtr (.t s29) (.c (.v (.int .i64 4000))))⟩
    (.one ⟨some s27, none, (.mv (.t s30))⟩
    .done)))))
  (.cond (.t s27) (.seq (.reg (.one ⟨some s31, none, (.build [(.v (.int .i64 0)), (.v (.int .i64 0)), (.slice 1 [] .full)] [])⟩
    (.one ⟨none, none, (.store 3 (.t s4) (.t s31))⟩
    (.one ⟨some s5, none, (.mv (.c (.v (.int .i64 2))))⟩
    .done))))
  .ret) (.seq (.reg (.one ⟨some s33, none, (.mv (.t s0))⟩
    (.one ⟨some s34, none, (.len false (.t s33))⟩
    (.one ⟨some s35, none, (.mv (.t s1))⟩
    (.one ⟨some s36, none, (.callq 51 [(.t s35)])⟩
    (.one ⟨some s37, none, (.bin false .lss (.t s34) (.t s36))⟩
    (.one ⟨some s32, none, (.mv (.t s37))⟩
    .done)))))))
  (.cond (.t s32) (.seq (.reg (.one ⟨some s38, none, (.build [(.v (.int .i64 0)), (.v (.int .i64 0)), (.slice 1 [] .full)] [])⟩
    (.one ⟨none, none, (.store 3 (.t s4) (.t s38))⟩
    (.one ⟨some s5, none, (.mv (.c (.v (.int .i64 8))))⟩
    .done))))
  .ret) .skip)))))))
  (.seq (.reg (.one ⟨some s39, none, (.mv (.t s0))⟩
    (.one ⟨some s40, none, (.callq 52 [(.t s39)])⟩
    (.one ⟨some s6, none, (.mv (.t s40))⟩
    .done))))
  (.seq (.reg (.one ⟨some s42, none, (.mv (.t s6))⟩
    (.one ⟨some s43, none, (.mv (.t s1))⟩
    (.one ⟨some s44, none, (.callq 51 [(.t s43)])⟩
    (.one ⟨some s45, none, (.bin false .mul (.c (.v (.int .i64 8))) (.t s44))⟩
    (.one ⟨some s46, none, (.bin false .sub (.t s45) (.c (.v (.int .i64 3))))⟩
    (.one ⟨some s47, none, (.mv (.t s1))⟩
    (.one ⟨some s48, none, (.bin false .sub (.t s46) (.t s47))⟩
    (.one ⟨some s49, none, (.call 53 [(.t s42), (.t s48)])⟩
    (.one ⟨some s41, none, (.mv (.t s49))⟩
    (.one ⟨some s50, none, (.ext (.t s41) 0)⟩
    (.one ⟨some s51, none, (.ext (.t s41) 1)⟩
    (.one ⟨some s7, none, (.mv (.t s50))⟩
    (.one ⟨some s8, none, (.mv (.t s51))⟩
    .done))))))))))))))
  (.seq (.reg (.one ⟨some s53, none, (.mv (.t s6))⟩
    (.one ⟨some s54, none, (.call 53 [(.t s53), (.c (.v (.int .i64 2)))])⟩
    (.one ⟨some s52, none, (.mv (.t s54))⟩
    (.one ⟨some s55, none, (.ext (.t s52) 0)⟩
    (.one ⟨some s56, none, (.ext (.t s52) 1)⟩
    (.one ⟨some s9, none, (.mv (.t s55))⟩
    (.one ⟨some s10, none, (.mv (.t s56))⟩
    .done))))))))
  (.seq (.reg (.one ⟨some s58, none, (.mv (.t s6))⟩
    (.one ⟨some s59, none, (.call 53 [(.t s58), (.c (.v (.int .i64 1)))])⟩
    (.one ⟨some s57, none, (.mv (.t s59))⟩
    (.one ⟨some s60, none, (.ext (.t s57) 0)⟩
    (.one ⟨some s61, none, (.ext (.t s57) 1)⟩
    (.one ⟨some s11, none, (.mv (.t s60))⟩
    (.one ⟨some s12, none, (.mv (.t s61))⟩
    .done))))))))
  (.seq (.reg (.one ⟨some s63, none, (.mv (.t s6))⟩
    (.one ⟨some s64, none, (.mv (.t s1))⟩
    (.one ⟨some s65, none, (.call 53 [(.t s63), (.t s64)])⟩
    (.one ⟨some s62, none, (.mv (.t s65))⟩
    (.one ⟨some s66, none, (.ext (.t s62) 0)⟩
    (.one ⟨some s67, none, (.ext (.t s62) 1)⟩
    (.one ⟨some s13, none, (.mv (.t s66))⟩
    (.one ⟨some s14, none, (.mv (.t s67))⟩
    .done)))))))))
  (.seq (.seq (.reg (.one ⟨some s68, none, (.mv (.t s7))⟩
    (.one ⟨some s69, none, (.bin false .neq (.t s68) (.c (.v (.int .u64 0))))⟩
    .done)))
  (.cond (.t s69) (.seq (.reg (.one ⟨some s70, none, (.build [(.v (.int .i64 0)), (.v (.int .i64 0)), (.slice 1 [] .full)] [])⟩
    (.one ⟨none, none, (.store 3 (.t s4) (.t s70))⟩
    (.one ⟨some s5, none, (.mv (.c (.v (.int .i64 3))))⟩
    .done))))
  .ret) .skip))
  (.seq (.reg (.one ⟨some s71, none, (.mv (.t s0))⟩
    (.one ⟨some s72, none, (.mv (.t s1))⟩
    (.one ⟨some s73, none, (.callq 51 [(.t s72)])⟩
    (.one ⟨some s74, none, (.cut 1 (.t s71) (some (.t s73)) none none)⟩
    (.one ⟨some s15, none, (.mv (.t s74))⟩
    .done))))))
  (.seq (.reg (.one ⟨some s16, none, (.mv (.c (.slice 1 [] .full)))⟩
    .done))
  (.seq (.seq (.reg (.one ⟨some s75, none, (.mv (.t s11))⟩
    (.one ⟨some s76, none, (.bin false .eql (.t s75) (.c (.v (.int .u64 1))))⟩
    .done)))
  (.cond (.t s76) (.seq (.reg (.one ⟨some s78, none, (.mv (.t s15))⟩
    (.one ⟨some s79, none, (.callq 54 [(.t s78), (.c (.v (.int .i64 11)))])⟩
    (.one ⟨some s77, none, (.mv (.t s79))⟩
    (.one ⟨some s80, none, (.ext (.t s77) 0)⟩
    (.one ⟨some s81, none, (.ext (.t s77) 1)⟩
    (.one ⟨some s82, none, (.ext (.t s77) 2)⟩
    (.one ⟨some s17, none, (.mv (.t s80))⟩
    (.one ⟨some s18, none, (.mv (.t s81))⟩
    (.one ⟨some s19, none, (.mv (.t s82))⟩
    .done))))))))))
  (.seq (.seq (.reg (.one ⟨some s83, none, (.mv (.t s19))⟩
    (.one ⟨some s84, none, (.bin false .neq (.t s83) (.c (.v (.int .i64 0))))⟩
    .done)))
  (.cond (.t s84) (.seq (.reg (.one ⟨some s85, none, (.build [(.v (.int .i64 0)), (.v (.int .i64 0)), (.slice 1 [] .full)] [])⟩
    (.one ⟨some s86, none, (.mv (.t s19))⟩
    (.one ⟨none, none, (.store 3 (.t s4) (.t s85))⟩
    (.one ⟨some s5, none, (.mv (.t s86))⟩
    .done)))))
  .ret) .skip))
  (.reg (.one ⟨some s87, none, (.mv (.t s17))⟩
    (.one ⟨some s88, none, (.mv (.t s15))⟩
    (.one ⟨some s89, none, (.mv (.t s18))⟩
    (.one ⟨some s90, none, (.cut 1 (.t s88) (some (.t s89)) none none)⟩
    (.one ⟨some s16, none, (.mv (.t s87))⟩
    (.one ⟨some s15, none, (.mv (.t s90))⟩
    .done))))))))) .skip))
  (.seq (.reg (.one ⟨some s92, none, (.mv (.t s15))⟩
    (.one ⟨some s93, none, (.mv (.t s16))⟩
    (.one ⟨some s94, none, (.callq 55 [(.t s92), (.t s93)])⟩
    (.one ⟨some s91, none, (.mv (.t s94))⟩
    (.one ⟨some s95, none, (.ext (.t s91) 0)⟩
    (.one ⟨some s96, none, (.ext (.t s91) 1)⟩
    (.one ⟨some s20, none, (.mv (.t s95))⟩
    (.one ⟨some s21, none, (.mv (.t s96))⟩
    .done)))))))))
  (.seq (.seq (.reg (.one ⟨some s97, none, (.mv (.t s21))⟩
    (.one ⟨some s98, none, (.bin false .neq (.t s97) (.c (.v (.int .i64 0))))⟩
    .done)))
  (.cond (.t s98) (.seq (.reg (.one ⟨some s99, none, (.build [(.v (.int .i64 0)), (.v (.int .i64 0)), (.slice 1 [] .full)] [])⟩
    (.one ⟨some s100, none, (.mv (.t s21))⟩
    (.one ⟨none, none, (.store 3 (.t s4) (.t s99))⟩
    (.one ⟨some s5, none, (.mv (.t s100))⟩
    .done)))))
  .ret) .skip))
  (.seq (.reg (.one ⟨some s101, none, (.mv (.t s9))⟩
    (.one ⟨some s102, none, (.conv .i64 (.t s101))⟩
    (.one ⟨some s103, none, (.mv (.t s13))⟩
    (.one ⟨some s104, none, (.conv .i64 (.t s103))⟩
    (.one ⟨some s105, none, (.mv (.t s20))⟩
    (.one ⟨some s106, none, (.build [(.v (.int .i64 0)), (.v (.int .i64 0)), (.slice 1 [] .full)] [(0, 1, (.t s102)), (1, 1, (.t s104)), (2, 1, (.t s105))])⟩
    (.one ⟨none, none, (.store 3 (.t s4) (.t s106))⟩
    (.one ⟨some s5, none, (.mv (.c (.v (.int .i64 0))))⟩
    .done)))))))))
  .ret))))))))))))))⟩
theorem ok25 : compF Try.prog c25 Try.f25 = some ir25 := by kernel_rfl
theorem k_umd_Read {args : List AVal} {σ : AHeap} {Q : AVal → AHeap → Prop} (hl : Nat.ble args.length 107 = true) (h : argsK (Env.full 9) 0 args fun env => evC Try.prog c25 ir25.body env σ (retQ ir25 Q)) : ACalls Try.prog 25 args σ Q :=
  acalls_of Try.func25 ok25 rfl (Nat.le_of_ble_eq_true hl) h
/- umd.Write -/
def c49 : Cfg := ⟨qs, [], 71, [], ps⟩
def ir49 : IFun := ⟨2, [.tmp s4, .tmp s5],
  (.seq (.reg (.one ⟨some s2, none, (.box 3 (.t s0))⟩
    (.one ⟨some s4, none, (.mv (.c (.slice 1 [] .full)))⟩
    (.one ⟨some s5, none, (.mv (.c (.v (.int .i64 0))))⟩
    .done))))
  (.seq (.block 0 (.seq (.reg (.one ⟨some s12, none, (.mv (.t s1))⟩
    (.one ⟨some s13, none, (.callq 50 [(.t s12)])⟩
    (.one ⟨some s14, none, (.not (.t s13))⟩
    (.one ⟨some s11, none, (.mv (.t s14))⟩
    .done)))))
  (.cond (.t s11) (.seq (.reg (.one ⟨some s4, none, (.mv (.c (.slice 1 [] .full)))⟩
    (.one ⟨some s5, none, (.mv (.c (.v (.int .i64 9))))⟩
    .done)))
  .ret) (.seq (.reg (.one ⟨some s16, none, (.load (some 3) (.t s2))⟩
    (.one ⟨some s17, none, (.mv (.t s1))⟩
    (.one ⟨some s18, none, (.callq 69 [(.t s16), (.t s17)])⟩
    (.one ⟨some s19, none, (.not (.t s18))⟩
    (.one ⟨some s15, none, (.mv (.t s19))⟩
    .done))))))
  (.cond (.t s15) (.seq (.reg (.one ⟨some s4, none, (.mv (.c (.slice 1 [] .full)))⟩
    (.one ⟨some s5, none, (.mv (.c (.v (.int .i64 3))))⟩
    .done)))
  .ret) .skip)))))
  (.seq (.reg (.one ⟨some s20, none, (.callq 70 [])⟩
    (.one ⟨some s6, none, (.mv (.t s20))⟩
    .done)))
  (.seq (.reg (.one ⟨some s21, none, (.faddr 2 (.t s2))⟩
    (.one ⟨some s22, none, (.load none (.t s21))⟩
    (.one ⟨some s23, none, (.len false (.t s22))⟩
    (.one ⟨some s24, none, (.bin false .sub (.t s23) (.c (.v (.int .i64 1))))⟩
    (.one ⟨some s25, none, (.mxmn false (.t s24) (.c (.v (.int .i64 1))))⟩
    (.one ⟨some s26, none, (.conv .u64 (.t s25))⟩
    (.one ⟨some s7, none, (.mv (.t s26))⟩
    .done))))))))
  (.seq (.reg (.one ⟨some s27, none, (.mv (.t s6))⟩
    (.one ⟨some s28, none, (.mv (.t s1))⟩
    (.one ⟨some s29, none, (.callq 51 [(.t s28)])⟩
    (.one ⟨some s30, none, (.bin false .mul (.c (.v (.int .i64 8))) (.t s29))⟩
    (.one ⟨some s31, none, (.bin false .sub (.t s30) (.c (.v (.int .i64 3))))⟩
    (.one ⟨some s32, none, (.mv (.t s1))⟩
    (.one ⟨some s33, none, (.bin false .sub (.t s31) (.t s32))⟩
    (.one ⟨some s34, none, (.call 71 [(.t s27), (.c (.v (.int .u64 0))), (.t s33)])⟩
    .done)))))))))
  (.seq (.reg (.one ⟨some s35, none, (.mv (.t s6))⟩
    (.one ⟨some s36, none, (.faddr 0 (.t s2))⟩
    (.one ⟨some s37, none, (.load none (.t s36))⟩
    (.one ⟨some s38, none, (.conv .u64 (.t s37))⟩
    (.one ⟨some s39, none, (.call 71 [(.t s35), (.t s38), (.c (.v (.int .i64 2)))])⟩
    .done))))))
  (.seq (.reg (.one ⟨some s40, none, (.mv (.t s6))⟩
    (.one ⟨some s41, none, (.mv (.t s7))⟩
    (.one ⟨some s42, none, (.call 71 [(.t s40), (.t s41), (.c (.v (.int .i64 1)))])⟩
    .done))))
  (.seq (.reg (.one ⟨some s43, none, (.mv (.t s6))⟩
    (.one ⟨some s44, none, (.faddr 1 (.t s2))⟩
    (.one ⟨some s45, none, (.load none (.t s44))⟩
    (.one ⟨some s46, none, (.conv .u64 (.t s45))⟩
    (.one ⟨some s47, none, (.mv (.t s1))⟩
    (.one ⟨some s48, none, (.call 71 [(.t s43), (.t s46), (.t s47)])⟩
    .done)))))))
  (.seq (.reg (.one ⟨some s49, none, (.mv (.t s6))⟩
    (.one ⟨some s50, none, (.callq 72 [(.t s49)])⟩
    (.one ⟨some s8, none, (.mv (.t s50))⟩
    .done))))
  (.seq (.seq (.reg (.one ⟨some s51, none, (.mv (.t s7))⟩
    (.one ⟨some s52, none, (.bin false .eql (.t s51) (.c (.v (.int .u64 1))))⟩
    .done)))
  (.cond (.t s52) (.seq (.reg (.one ⟨some s54, none, (.faddr 2 (.t s2))⟩
    (.one ⟨some s55, none, (.load none (.t s54))⟩
    (.one ⟨some s56, none, (.callq 74 [(.t s55)])⟩
    (.one ⟨some s57, none, (.callq 73 [(.t s56), (.c (.v (.int .i64 11)))])⟩
    (.one ⟨some s53, none, (.mv (.t s57))⟩
    (.one ⟨some s58, none, (.ext (.t s53) 0)⟩
    (.one ⟨some s59, none, (.ext (.t s53) 1)⟩
    (.one ⟨some s9, none, (.mv (.t s58))⟩
    (.one ⟨some s10, none, (.mv (.t s59))⟩
    .done))))))))))
  (.seq (.seq (.reg (.one ⟨some s60, none, (.mv (.t s10))⟩
    (.one ⟨some s61, none, (.bin false .neq (.t s60) (.c (.v (.int .i64 0))))⟩
    .done)))
  (.cond (.t s61) (.seq (.reg (.one ⟨some s62, none, (.mv (.t s10))⟩
    (.one ⟨some s4, none, (.mv (.c (.slice 1 [] .full)))⟩
    (.one ⟨some s5, none, (.mv (.t s62))⟩
    .done))))
  .ret) .skip))
  (.reg (.one ⟨some s63, none, (.mv (.t s8))⟩
    (.one ⟨some s64, none, (.mv (.t s9))⟩
    (.one ⟨some s65, none, (.app 1 1 (.t s63) (.t s64))⟩
    (.one ⟨some s8, none, (.mv (.t s65))⟩
    .done))))))) .skip))
  (.seq (.reg (.one ⟨some s66, none, (.mv (.t s8))⟩
    (.one ⟨some s67, none, (.faddr 2 (.t s2))⟩
    (.one ⟨some s68, none, (.load none (.t s67))⟩
    (.one ⟨some s69, none, (.callq 42 [(.t s68), (.c (.slice 1 [] .full))])⟩
    (.one ⟨some s70, none, (.app 1 1 (.t s66) (.t s69))⟩
    (.one ⟨some s4, none, (.mv (.t s70))⟩
    (.one ⟨some s5, none, (.mv (.c (.v (.int .i64 0))))⟩
    .done))))))))
  .ret)))))))))))⟩
theorem ok49 : compF Try.prog c49 Try.f49 = some ir49 := by kernel_rfl
theorem k_umd_Write {args : List AVal} {σ : AHeap} {Q : AVal → AHeap → Prop} (hl : Nat.ble args.length 71 = true) (h : argsK (Env.full 9) 0 args fun env => evC Try.prog c49 ir49.body env σ (retQ ir49 Q)) : ACalls Try.prog 49 args σ Q :=
  acalls_of Try.func49 ok49 rfl (Nat.le_of_ble_eq_true hl) h
/- umd.isWidth -/
def c50 : Cfg := ⟨qs, [], 9, [], ps⟩
def ir50 : IFun := ⟨1, [.tmp s2],
  (.seq (.reg (.one ⟨some s2, none, (.mv (.c (.v (.bool false))))⟩
    .done))
  (.seq (.reg (.one ⟨some s3, none, (.mv (.t s0))⟩
    (.one ⟨some s4, none, (.bin false .eql (.t s3) (.c (.v (.int .i64 5))))⟩
    (.one ⟨some s5, none, (.mv (.t s4))⟩
    (.one ⟨some s6, some (s5, false), (.mv (.t s0))⟩
    (.one ⟨some s7, some (s5, false), (.bin false .eql (.t s6) (.c (.v (.int .i64 10))))⟩
    (.one ⟨some s8, none, (.pick (.t s5) (.c (.v (.bool true))) (.t s7))⟩
    (.one ⟨some s2, none, (.mv (.t s8))⟩
    .done))))))))
  .ret))⟩
theorem ok50 : compF Try.prog c50 Try.f50 = some ir50 := by kernel_rfl
theorem k_umd_isWidth {args : List AVal} {σ : AHeap} {Q : AVal → AHeap → Prop} (hl : Nat.ble args.length 9 = true) (h : argsK (Env.full 9) 0 args fun env => evC Try.prog c50 ir50.body env σ (retQ ir50 Q)) : ACalls Try.prog 50 args σ Q :=
  acalls_of Try.func50 ok50 rfl (Nat.le_of_ble_eq_true hl) h
/- umd.head -/
def c51 : Cfg := ⟨qs, [], 5, [], ps⟩
def ir51 : IFun := ⟨1, [.tmp s2],
  (.seq (.reg (.one ⟨some s2, none, (.mv (.c (.v (.int .i64 0))))⟩
    .done))
  (.seq (.reg (.one ⟨some s3, none, (.mv (.t s0))⟩
    (.one ⟨some s4, none, (.bin false .quo (.t s3) (.c (.v (.int .i64 5))))⟩
    (.one ⟨some s2, none, (.mv (.t s4))⟩
    .done))))
  .ret))⟩
theorem ok51 : compF Try.prog c51 Try.f51 = some ir51 := by kernel_rfl
theorem k_umd_head {args : List AVal} {σ : AHeap} {Q : AVal → AHeap → Prop} (hl : Nat.ble args.length 5 = true) (h : argsK (Env.full 9) 0 args fun env => evC Try.prog c51 ir51.body env σ (retQ ir51 Q)) : ACalls Try.prog 51 args σ Q :=
  acalls_of Try.func51 ok51 rfl (Nat.le_of_ble_eq_true hl) h
/- umd.fields -/
def c55 : Cfg := ⟨qs, [], 49, [], ps⟩
def ir55 : IFun := ⟨2, [.tmp s4, .tmp s5],
  (.seq (.reg (.one ⟨some s4, none, (.mv (.c (.slice 1 [] .full)))⟩
    (.one ⟨some s5, none, (.mv (.c (.v (.int .i64 0))))⟩
    .done)))
  (.scope (.seq (.reg (.one ⟨some s6, none, (.mv (.c (.slice 1 [] .full)))⟩
    .done))
  (.seq (.reg (.one ⟨some s7, none, (.mv (.c (.v (.int .i64 0))))⟩
    .done))
  (.seq (.label 0)
  (.seq (.seq (.reg (.one ⟨some s8, none, (.mv (.t s7))⟩
    (.one ⟨some s9, none, (.mv (.t s1))⟩
    (.one ⟨some s10, none, (.len false (.t s9))⟩
    (.one ⟨some s11, none, (.bin false .lss (.t s8) (.t s10))⟩
    .done)))))
  (.cond (.t s11) (.seq (.seq (.reg (.one ⟨some s12, none, (.mv (.t s1))⟩
    (.one ⟨some s13, none, (.mv (.t s7))⟩
    (.one ⟨some s14, none, (.iaddr 1 (.t s12) (.t s13))⟩
    (.one ⟨some s15, none, (.load none (.t s14))⟩
    (.one ⟨some s16, none, (.mv (.t s0))⟩
    (.one ⟨some s17, none, (.len false (.t s16))⟩
    (.one ⟨some s18, none, (.bin false .gtr (.t s15) (.t s17))⟩
    .done))))))))
  (.cond (.t s18) (.seq (.reg (.one ⟨some s4, none, (.mv (.c (.slice 1 [] .full)))⟩
    (.one ⟨some s5, none, (.mv (.c (.v (.int .i64 8))))⟩
    .done)))
  .ret) .skip))
  (.seq (.reg (.one ⟨some s19, none, (.mv (.t s6))⟩
    (.one ⟨some s20, none, (.mv (.t s0))⟩
    (.one ⟨some s21, none, (.mv (.t s1))⟩
    (.one ⟨some s22, none, (.mv (.t s7))⟩
    (.one ⟨some s23, none, (.iaddr 1 (.t s21) (.t s22))⟩
    (.one ⟨some s24, none, (.load none (.t s23))⟩
    (.one ⟨some s25, none, (.mv (.t s1))⟩
    (.one ⟨some s26, none, (.mv (.t s7))⟩
    (.one ⟨some s27, none, (.iaddr 1 (.t s25) (.t s26))⟩
    (.one ⟨some s28, none, (.load none (.t s27))⟩
    (.one ⟨some s29, none, (.cut 1 (.t s20) none (some (.t s24)) (some (.t s28)))⟩
    (.one ⟨some s30, none, (.callq 68 [(.t s29)])⟩
    (.one ⟨some s31, none, (.row 1 [(.t s30)])⟩
    (.one ⟨some s32, none, (.app 1 24 (.t s19) (.t s31))⟩
    (.one ⟨some s6, none, (.mv (.t s32))⟩
    .done))))))))))))))))
  (.seq (.reg (.one ⟨some s33, none, (.mv (.t s0))⟩
    (.one ⟨some s34, none, (.mv (.t s1))⟩
    (.one ⟨some s35, none, (.mv (.t s7))⟩
    (.one ⟨some s36, none, (.iaddr 1 (.t s34) (.t s35))⟩
    (.one ⟨some s37, none, (.load none (.t s36))⟩
    (.one ⟨some s38, none, (.cut 1 (.t s33) (some (.t s37)) none none)⟩
    (.one ⟨some s0, none, (.mv (.t s38))⟩
    .done))))))))
  (.seq (.reg (.one ⟨some s39, none, (.mv (.t s7))⟩
    (.one ⟨some s40, none, (.bin false .add (.t s39) (.c (.v (.int .i64 1))))⟩
    (.one ⟨some s7, none, (.mv (.t s40))⟩
    .done))))
  (.goto 0))))) .skip))
  (.seq (.seq (.reg (.one ⟨some s41, none, (.mv (.t s0))⟩
    (.one ⟨some s42, none, (.len false (.t s41))⟩
    (.one ⟨some s43, none, (.bin false .eql (.t s42) (.c (.v (.int .i64 0))))⟩
    .done))))
  (.cond (.t s43) (.seq (.reg (.one ⟨some s4, none, (.mv (.c (.slice 1 [] .full)))⟩
    (.one ⟨some s5, none, (.mv (.c (.v (.int .i64 8))))⟩
    .done)))
  .ret) .skip))
  (.seq (.reg (.one ⟨some s44, none, (.mv (.t s6))⟩
    (.one ⟨some s45, none, (.mv (.t s0))⟩
    (.one ⟨some s46, none, (.callq 68 [(.t s45)])⟩
    (.one ⟨some s47, none, (.row 1 [(.t s46)])⟩
    (.one ⟨some s48, none, (.app 1 24 (.t s44) (.t s47))⟩
    (.one ⟨some s4, none, (.mv (.t s48))⟩
    (.one ⟨some s5, none, (.mv (.c (.v (.int .i64 0))))⟩
    .done))))))))
  .ret))))))))⟩
theorem ok55 : compF Try.prog c55 Try.f55 = some ir55 := by kernel_rfl
theorem k_umd_fields {args : List AVal} {σ : AHeap} {Q : AVal → AHeap → Prop} (hl : Nat.ble args.length 49 = true) (h : argsK (Env.full 9) 0 args fun env => evC Try.prog c55 ir55.body env σ (retQ ir55 Q)) : ACalls Try.prog 55 args σ Q :=
  acalls_of Try.func55 ok55 rfl (Nat.le_of_ble_eq_true hl) h
/- umd.Right -/
def c69 : Cfg := ⟨qs, [], 9, [], ps⟩
def ir69 : IFun := ⟨2, [.tmp s4],
  (.seq (.reg (.one ⟨some s2, none, (.box 3 (.t s0))⟩
    (.one ⟨some s4, none, (.mv (.c (.v (.bool false))))⟩
    .done)))
  (.seq (.reg (.one ⟨some s5, none, (.load (some 3) (.t s2))⟩
    (.one ⟨some s6, none, (.mv (.t s1))⟩
    (.one ⟨some s7, none, (.callq 79 [(.t s5), (.t s6)])⟩
    (.one ⟨some s8, none, (.bin false .gtr (.t s7) (.c (.v (.int .i64 0))))⟩
    (.one ⟨some s4, none, (.mv (.t s8))⟩
    .done))))))
  .ret))⟩
theorem ok69 : compF Try.prog c69 Try.f69 = some ir69 := by kernel_rfl
theorem k_umd_Right {args : List AVal} {σ : AHeap} {Q : AVal → AHeap → Prop} (hl : Nat.ble args.length 9 = true) (h : argsK (Env.full 9) 0 args fun env => evC Try.prog c69 ir69.body env σ (retQ ir69 Q)) : ACalls Try.prog 69 args σ Q :=
  acalls_of Try.func69 ok69 rfl (Nat.le_of_ble_eq_true hl) h
/- umd.lengths -/
def c74 : Cfg := ⟨qs, [], 23, [], ps⟩
def ir74 : IFun := ⟨1, [.tmp s2],
  (.seq (.reg (.one ⟨some s2, none, (.mv (.c (.slice 1 [] .full)))⟩
    .done))
  (.seq (.reg (.one ⟨some s3, none, (.mv (.c (.slice 1 [] .full)))⟩
    .done))
  (.seq (.seq (.reg (.one ⟨some s6, none, (.mv (.t s0))⟩
    (.one ⟨some s7, none, (.mv (.t s0))⟩
    (.one ⟨some s8, none, (.len false (.t s7))⟩
    (.one ⟨some s9, none, (.bin false .sub (.t s8) (.c (.v (.int .i64 1))))⟩
    (.one ⟨some s10, none, (.cut 1 (.t s6) none (some (.t s9)) none)⟩
    (.one ⟨some s11, none, (.len false (.t s10))⟩
    (.one ⟨some s12, none, (.mv (.c (.v (.int .i64 0))))⟩
    .done))))))))
  (.block 0 (.loop (.seq (.reg (.one ⟨some s13, none, (.bin false .lss (.t s12) (.t s11))⟩
    .done))
  (.seq (.cond (.t s13) .skip (.exit 0))
  (.seq (.block 1 (.seq (.reg (.one ⟨some s14, none, (.iaddr 1 (.t s10) (.t s12))⟩
    (.one ⟨some s15, none, (.load none (.t s14))⟩
    (.one ⟨some s5, none, (.mv (.t s15))⟩
    .done))))
  (.reg (.one ⟨some s16, none, (.mv (.t s3))⟩
    (.one ⟨some s17, none, (.mv (.t s5))⟩
    (.one ⟨some s18, none, (.len false (.t s17))⟩
    (.one ⟨some s19, none, (.row 1 [(.t s18)])⟩
    (.one ⟨some s20, none, (.app 1 8 (.t s16) (.t s19))⟩
    (.one ⟨some s3, none, (.mv (.t s20))⟩
    .done)))))))))
  (.reg (.one ⟨some s21, none, (.bin false .add (.t s12) (.c (.v (.int .i64 1))))⟩
    (.one ⟨some s12, none, (.mv (.t s21))⟩
    .done)))))))))
  (.seq (.reg (.one ⟨some s22, none, (.mv (.t s3))⟩
    (.one ⟨some s2, none, (.mv (.t s22))⟩
    .done)))
  .ret))))⟩
theorem ok74 : compF Try.prog c74 Try.f74 = some ir74 := by kernel_rfl
theorem k_umd_lengths {args : List AVal} {σ : AHeap} {Q : AVal → AHeap → Prop} (hl : Nat.ble args.length 23 = true) (h : argsK (Env.full 9) 0 args fun env => evC Try.prog c74 ir74.body env σ (retQ ir74 Q)) : ACalls Try.prog 74 args σ Q :=
  acalls_of Try.func74 ok74 rfl (Nat.le_of_ble_eq_true hl) h
/- umd.Size -/
def c79 : Cfg := ⟨qs, [], 31, [], ps⟩
def ir79 : IFun := ⟨2, [.tmp s4],
  (.seq (.reg (.one ⟨some s2, none, (.box 3 (.t s0))⟩
    (.one ⟨some s4, none, (.mv (.c (.v (.int .i64 0))))⟩
    .done)))
  (.seq (.reg (.one ⟨some s6, none, (.mv (.t s1))⟩
    (.one ⟨some s7, none, (.build [(.v (.int .i64 0))] [(0, 1, (.t s6))])⟩
    (.one ⟨some s5, none, (.new [(.v (.int .i64 0))])⟩
    (.one ⟨none, none, (.store 1 (.t s5) (.t s7))⟩
    .done)))))
  (.seq (.seq (.reg (.one ⟨some s8, none, (.mv (.t s1))⟩
    (.one ⟨some s9, none, (.callq 50 [(.t s8)])⟩
    (.one ⟨some s10, none, (.not (.t s9))⟩
    (.one ⟨some s11, none, (.mv (.t s10))⟩
    (.one ⟨some s12, some (s11, false), (.faddr 0 (.t s2))⟩
    (.one ⟨some s13, some (s11, false), (.load none (.t s12))⟩
    (.one ⟨some s14, some (s11, false), (.bin false .lss (.t s13) (.c (.v (.int .i64 0))))⟩
    (.one ⟨some s15, none, (.pick (.t s11) (.c (.v (.bool true))) (.t s14))⟩
    (.one ⟨some s16, none, (.mv (.t s15))⟩
    (.one ⟨some s17, some (s16, false), (.faddr 0 (.t s2))⟩
    (.one ⟨some s18, some (s16, false), (.load none (.t s17))⟩
    (.one ⟨some s19, some (s16, false), (.bin false .gtr (.t s18) (.c (.v (.int .i64 3))))⟩
    (.one ⟨some s20, none, (.pick (.t s16) (.c (.v (.bool true))) (.t s19))⟩
    (.one ⟨some s21, none, (.mv (.t s20))⟩
    (.one ⟨some s22, some (s21, false), (.load (some 1) (.t s5))⟩
    (.one ⟨some s23, some (s21, false), (.faddr 1 (.t s2))⟩
    (.one ⟨some s24, some (s21, false), (.load none (.t s23))⟩
    (.one ⟨some s25, some (s21, false), (.callq 39 [(.t s22), (.t s24)])⟩
    (.one ⟨some s26, some (s21, false), (.not (.t s25))⟩
    (.one ⟨some s27, none, (.pick (.t s21) (.c (.v (.bool true))) (.t s26))⟩
    .done)))))))))))))))))))))
  (.cond (.t s27) (.seq (.reg (.one ⟨some s4, none, (.mv (.c (.v (.int .i64 0))))⟩
    .done))
  .ret) .skip))
  (.seq (.reg (.one ⟨some s28, none, (.load (some 3) (.t s2))⟩
    (.one ⟨some s29, none, (.mv (.t s1))⟩
    (.one ⟨some s30, none, (.callq 81 [(.t s28), (.t s29)])⟩
    (.one ⟨some s4, none, (.mv (.t s30))⟩
    .done)))))
  .ret))))⟩
theorem ok79 : compF Try.prog c79 Try.f79 = some ir79 := by kernel_rfl
theorem k_umd_Size {args : List AVal} {σ : AHeap} {Q : AVal → AHeap → Prop} (hl : Nat.ble args.length 31 = true) (h : argsK (Env.full 9) 0 args fun env => evC Try.prog c79 ir79.body env σ (retQ ir79 Q)) : ACalls Try.prog 79 args σ Q :=
  acalls_of Try.func79 ok79 rfl (Nat.le_of_ble_eq_true hl) h
/- umd.size -/
def c81 : Cfg := ⟨qs, [], 63, [], ps⟩
def ir81 : IFun := ⟨2, [.tmp s4],
  (.seq (.reg (.one ⟨some s2, none, (.box 3 (.t s0))⟩
    (.one ⟨some s4, none, (.mv (.c (.v (.int .i64 0))))⟩
    .done)))
  (.seq (.seq (.reg (.one ⟨some s8, none, (.faddr 2 (.t s2))⟩
    (.one ⟨some s9, none, (.load none (.t s8))⟩
    (.one ⟨some s10, none, (.len false (.t s9))⟩
    (.one ⟨some s11, none, (.bin false .lss (.t s10) (.c (.v (.int .i64 1))))⟩
    (.one ⟨some s12, none, (.mv (.t s11))⟩
    (.one ⟨some s13, some (s12, false), (.faddr 2 (.t s2))⟩
    (.one ⟨some s14, some (s12, false), (.load none (.t s13))⟩
    (.one ⟨some s15, some (s12, false), (.len false (.t s14))⟩
    (.one ⟨some s16, some (s12, false), (.bin false .gtr (.t s15) (.c (.v (.int .i64 24))))⟩
    (.one ⟨some s17, none, (.pick (.t s12) (.c (.v (.bool true))) (.t s16))⟩
    .done)))))))))))
  (.cond (.t s17) (.seq (.reg (.one ⟨some s4, none, (.mv (.c (.v (.int .i64 0))))⟩
    .done))
  .ret) .skip))
  (.seq (.reg (.one ⟨some s18, none, (.mv (.t s1))⟩
    (.one ⟨some s20, none, (.faddr 2 (.t s2))⟩
    (.one ⟨some s21, none, (.load none (.t s20))⟩
    (.one ⟨some s22, none, (.len false (.t s21))⟩
    (.one ⟨some s23, none, (.bin false .sub (.t s22) (.c (.v (.int .i64 1))))⟩
    (.one ⟨some s19, none, (.callq 51 [(.t s18)])⟩
    (.one ⟨some s24, none, (.callq 31 [(.t s23), (.c (.v (.int .i64 11)))])⟩
    (.one ⟨some s25, none, (.bin false .add (.t s19) (.t s24))⟩
    (.one ⟨some s5, none, (.mv (.t s25))⟩
    .done))))))))))
  (.seq (.seq (.reg (.one ⟨some s26, none, (.faddr 2 (.t s2))⟩
    (.one ⟨some s27, none, (.load none (.t s26))⟩
    (.one ⟨some s28, none, (.len false (.t s27))⟩
    (.one ⟨some s29, none, (.mv (.c (.v (.int .i64 0))))⟩
    .done)))))
  (.block 0 (.loop (.seq (.reg (.one ⟨some s30, none, (.bin false .lss (.t s29) (.t s28))⟩
    .done))
  (.seq (.cond (.t s30) .skip (.exit 0))
  (.seq (.block 1 (.seq (.reg (.one ⟨some s31, none, (.mv (.t s29))⟩
    (.one ⟨some s32, none, (.iaddr 1 (.t s27) (.t s29))⟩
    (.one ⟨some s33, none, (.load none (.t s32))⟩
    (.one ⟨some s6, none, (.mv (.t s31))⟩
    (.one ⟨some s7, none, (.mv (.t s33))⟩
    .done))))))
  (.seq (.seq (.reg (.one ⟨some s34, none, (.mv (.t s7))⟩
    (.one ⟨some s35, none, (.len false (.t s34))⟩
    (.one ⟨some s36, none, (.bin false .eql (.t s35) (.c (.v (.int .i64 0))))⟩
    (.one ⟨some s37, none, (.mv (.t s36))⟩
    (.one ⟨some s38, some (s37, false), (.mv (.t s7))⟩
    (.one ⟨some s39, some (s37, false), (.len false (.t s38))⟩
    (.one ⟨some s40, some (s37, false), (.bin false .gtr (.t s39) (.c (.v (.int .i64 2047))))⟩
    (.one ⟨some s41, some (s37, false), (.mv (.t s40))⟩
    (.one ⟨some s42, some (s41, true), (.mv (.t s6))⟩
    (.one ⟨some s43, some (s41, true), (.faddr 2 (.t s2))⟩
    (.one ⟨some s44, some (s41, true), (.load none (.t s43))⟩
    (.one ⟨some s45, some (s41, true), (.len false (.t s44))⟩
    (.one ⟨some s46, some (s41, true), (.bin false .sub (.t s45) (.c (.v (.int .i64 1))))⟩
    (.one ⟨some s47, some (s41, true), (.bin false .lss (.t s42) (.t s46))⟩
    (.one ⟨some s48, some (s37, false), (.pick (.t s41) (.t s47) (.c (.v (.bool false))))⟩
    (.one ⟨some s49, none, (.pick (.t s37) (.c (.v (.bool true))) (.t s48))⟩
    (.one ⟨some s50, none, (.mv (.t s49))⟩
    (.one ⟨some s51, some (s50, false), (.mv (.t s7))⟩
    (.one ⟨some s52, some (s50, false), (.len false (.t s51))⟩
    (.one ⟨some s53, some (s50, false), (.mv (.t s5))⟩
    (.one ⟨some s54, some (s50, false), (.bin false .sub (.c (.v (.int .i64 4000))) (.t s53))⟩
    (.one ⟨some s55, some (s50, false), (.bin false .gtr (.t s52) (.t s54))⟩
    (.one ⟨some s56, none, (.pick (.t s50) (.c (.v (.bool true))) (.t s55))⟩
    .done))))))))))))))))))))))))
  (.cond (.t s56) (.seq (.reg (.one ⟨some s4, none, (.mv (.c (.v (.int .i64 0))))⟩
    .done))
  .ret) .skip))
  (.reg (.one ⟨some s57, none, (.mv (.t s5))⟩
    (.one ⟨some s58, none, (.mv (.t s7))⟩
    (.one ⟨some s59, none, (.len false (.t s58))⟩
    (.one ⟨some s60, none, (.bin false .add (.t s57) (.t s59))⟩
    (.one ⟨some s5, none, (.mv (.t s60))⟩
    .done)))))))))
  (.reg (.one ⟨some s61, none, (.bin false .add (.t s29) (.c (.v (.int .i64 1))))⟩
    (.one ⟨some s29, none, (.mv (.t s61))⟩
    .done)))))))))
  (.seq (.reg (.one ⟨some s62, none, (.mv (.t s5))⟩
    (.one ⟨some s4, none, (.mv (.t s62))⟩
    .done)))
  .ret)))))⟩
theorem ok81 : compF Try.prog c81 Try.f81 = some ir81 := by kernel_rfl
theorem k_umd_size {args : List AVal} {σ : AHeap} {Q : AVal → AHeap → Prop} (hl : Nat.ble args.length 63 = true) (h : argsK (Env.full 9) 0 args fun env => evC Try.prog c81 ir81.body env σ (retQ ir81 Q)) : ACalls Try.prog 81 args σ Q :=
  acalls_of Try.func81 ok81 rfl (Nat.le_of_ble_eq_true hl) h
end Go.Proofs.Ytgipkpghabelkaa
/-
  The bodies of one package, compiled to the framework's language (printed by a program of this session).
-/
namespace Go.Proofs.Ytgipkpghabelkaa
set_option linter.unusedVariables false
set_option linter.unusedSimpArgs false
open Go Go.Am
/- bowlineref01.Bits -/
def c56 : Cfg := ⟨qs, [], 32, [], ps⟩
def ir56 : IFun := ⟨1, [.tmp s2],
  (.seq (.reg (.one ⟨some s2, none, (.mv (.c (.slice 1 [] .full)))⟩
    .done))
  (.seq (.reg (.one ⟨some s3, none, (.mv (.c (.slice 1 [] .full)))⟩
    .done))
  (.seq (.seq (.reg (.one ⟨some s4, none, (.mv (.c (.v (.int .i64 0))))⟩
    .done))
  (.block 0 (.loop (.seq (.seq (.reg (.one ⟨some s6, none, (.mv (.t s4))⟩
    (.one ⟨some s7, none, (.mv (.t s0))⟩
    (.one ⟨some s8, none, (.len false (.t s7))⟩
    (.one ⟨some s9, none, (.bin false .lss (.t s6) (.t s8))⟩
    (.one ⟨some s10, none, (.mv (.t s9))⟩
    (.one ⟨some s11, some (s10, true), (.mv (.t s4))⟩
    (.one ⟨some s12, some (s10, true), (.bin false .lss (.t s11) (.c (.v (.int .i64 8192))))⟩
    (.one ⟨some s13, none, (.pick (.t s10) (.t s12) (.c (.v (.bool false))))⟩
    .done)))))))))
  (.cond (.t s13) .skip (.exit 0)))
  (.seq (.block 1 (.seq (.reg (.one ⟨some s5, none, (.mv (.c (.v (.int .u8 128))))⟩
    .done))
  (.block 2 (.loop (.seq (.seq (.reg (.one ⟨some s16, none, (.mv (.t s5))⟩
    (.one ⟨some s17, none, (.bin false .gtr (.t s16) (.c (.v (.int .u8 0))))⟩
    .done)))
  (.cond (.t s17) .skip (.exit 2)))
  (.seq (.block 3 (.reg (.one ⟨some s20, none, (.mv (.t s3))⟩
    (.one ⟨some s21, none, (.mv (.t s0))⟩
    (.one ⟨some s22, none, (.mv (.t s4))⟩
    (.one ⟨some s23, none, (.iaddr 1 (.t s21) (.t s22))⟩
    (.one ⟨some s24, none, (.load none (.t s23))⟩
    (.one ⟨some s25, none, (.mv (.t s5))⟩
    (.one ⟨some s26, none, (.bin false .quo (.t s24) (.t s25))⟩
    (.one ⟨some s27, none, (.bin false .rem (.t s26) (.c (.v (.int .u8 2))))⟩
    (.one ⟨some s28, none, (.bin false .eql (.t s27) (.c (.v (.int .u8 1))))⟩
    (.one ⟨some s29, none, (.row 1 [(.t s28)])⟩
    (.one ⟨some s30, none, (.app 1 1 (.t s20) (.t s29))⟩
    (.one ⟨some s3, none, (.mv (.t s30))⟩
    .done))))))))))))))
  (.reg (.one ⟨some s18, none, (.mv (.t s5))⟩
    (.one ⟨some s19, none, (.bin false .quo (.t s18) (.c (.v (.int .u8 2))))⟩
    (.one ⟨some s5, none, (.mv (.t s19))⟩
    .done))))))))))
  (.reg (.one ⟨some s14, none, (.mv (.t s4))⟩
    (.one ⟨some s15, none, (.bin false .add (.t s14) (.c (.v (.int .i64 1))))⟩
    (.one ⟨some s4, none, (.mv (.t s15))⟩
    .done)))))))))
  (.seq (.reg (.one ⟨some s31, none, (.mv (.t s3))⟩
    (.one ⟨some s2, none, (.mv (.t s31))⟩
    .done)))
  .ret))))⟩
theorem ok56 : compF Try.prog c56 Try.f56 = some ir56 := by kernel_rfl
theorem k_bowlineref01_Bits {args : List AVal} {σ : AHeap} {Q : AVal → AHeap → Prop} (hl : Nat.ble args.length 32 = true) (h : argsK (Env.full 9) 0 args fun env => evC Try.prog c56 ir56.body env σ (retQ ir56 Q)) : ACalls Try.prog 56 args σ Q :=
  acalls_of Try.func56 ok56 rfl (Nat.le_of_ble_eq_true hl) h
/- bowlineref01.Get -/
def c57 : Cfg := ⟨qs, [], 45, [], ps⟩
def ir57 : IFun := ⟨3, [.tmp s6, .tmp s7, .tmp s8],
  (.seq (.reg (.one ⟨some s6, none, (.mv (.c (.v (.int .u64 0))))⟩
    (.one ⟨some s7, none, (.mv (.c (.v (.int .i64 0))))⟩
    (.one ⟨some s8, none, (.mv (.c (.v (.int .i64 0))))⟩
    .done))))
  (.seq (.seq (.reg (.one ⟨some s11, none, (.mv (.t s2))⟩
    (.one ⟨some s12, none, (.bin false .lss (.t s11) (.c (.v (.int .i64 0))))⟩
    (.one ⟨some s13, none, (.mv (.t s12))⟩
    (.one ⟨some s14, some (s13, false), (.mv (.t s2))⟩
    (.one ⟨some s15, some (s13, false), (.bin false .gtr (.t s14) (.c (.v (.int .i64 64))))⟩
    (.one ⟨some s16, none, (.pick (.t s13) (.c (.v (.bool true))) (.t s15))⟩
    .done)))))))
  (.cond (.t s16) (.seq (.reg (.one ⟨some s17, none, (.mv (.t s1))⟩
    (.one ⟨some s6, none, (.mv (.c (.v (.int .u64 0))))⟩
    (.one ⟨some s7, none, (.mv (.t s17))⟩
    (.one ⟨some s8, none, (.mv (.c (.v (.int .i64 1))))⟩
    .done)))))
  .ret) .skip))
  (.seq (.seq (.reg (.one ⟨some s18, none, (.mv (.t s2))⟩
    (.one ⟨some s19, none, (.mv (.t s0))⟩
    (.one ⟨some s20, none, (.len false (.t s19))⟩
    (.one ⟨some s21, none, (.mv (.t s1))⟩
    (.one ⟨some s22, none, (.bin false .sub (.t s20) (.t s21))⟩
    (.one ⟨some s23, none, (.bin false .gtr (.t s18) (.t s22))⟩
    .done)))))))
  (.cond (.t s23) (.seq (.reg (.one ⟨some s24, none, (.mv (.t s1))⟩
    (.one ⟨some s6, none, (.mv (.c (.v (.int .u64 0))))⟩
    (.one ⟨some s7, none, (.mv (.t s24))⟩
    (.one ⟨some s8, none, (.mv (.c (.v (.int .i64 8))))⟩
    .done)))))
  .ret) .skip))
  (.seq (.reg (.one ⟨some s9, none, (.mv (.c (.v (.int .u64 0))))⟩
    .done))
  (.seq (.seq (.reg (.one ⟨some s25, none, (.mv (.t s1))⟩
    (.one ⟨some s10, none, (.mv (.t s25))⟩
    .done)))
  (.block 0 (.loop (.seq (.seq (.reg (.one ⟨some s26, none, (.mv (.t s10))⟩
    (.one ⟨some s27, none, (.mv (.t s1))⟩
    (.one ⟨some s28, none, (.mv (.t s2))⟩
    (.one ⟨some s29, none, (.bin false .add (.t s27) (.t s28))⟩
    (.one ⟨some s30, none, (.bin false .lss (.t s26) (.t s29))⟩
    .done))))))
  (.cond (.t s30) .skip (.exit 0)))
  (.seq (.block 1 (.seq (.reg (.one ⟨some s33, none, (.mv (.t s9))⟩
    (.one ⟨some s34, none, (.bin false .mul (.c (.v (.int .u64 2))) (.t s33))⟩
    (.one ⟨some s9, none, (.mv (.t s34))⟩
    .done))))
  (.seq (.reg (.one ⟨some s35, none, (.mv (.t s0))⟩
    (.one ⟨some s36, none, (.mv (.t s10))⟩
    (.one ⟨some s37, none, (.iaddr 1 (.t s35) (.t s36))⟩
    (.one ⟨some s38, none, (.load none (.t s37))⟩
    .done)))))
  (.cond (.t s38) (.reg (.one ⟨some s39, none, (.mv (.t s9))⟩
    (.one ⟨some s40, none, (.bin false .add (.t s39) (.c (.v (.int .u64 1))))⟩
    (.one ⟨some s9, none, (.mv (.t s40))⟩
    .done)))) .skip))))
  (.reg (.one ⟨some s31, none, (.mv (.t s10))⟩
    (.one ⟨some s32, none, (.bin false .add (.t s31) (.c (.v (.int .i64 1))))⟩
    (.one ⟨some s10, none, (.mv (.t s32))⟩
    .done)))))))))
  (.seq (.reg (.one ⟨some s41, none, (.mv (.t s9))⟩
    (.one ⟨some s42, none, (.mv (.t s1))⟩
    (.one ⟨some s43, none, (.mv (.t s2))⟩
    (.one ⟨some s44, none, (.bin false .add (.t s42) (.t s43))⟩
    (.one ⟨some s6, none, (.mv (.t s41))⟩
    (.one ⟨some s7, none, (.mv (.t s44))⟩
    (.one ⟨some s8, none, (.mv (.c (.v (.int .i64 0))))⟩
    .done))))))))
  .ret))))))⟩
theorem ok57 : compF Try.prog c57 Try.f57 = some ir57 := by kernel_rfl
theorem k_bowlineref01_Get {args : List AVal} {σ : AHeap} {Q : AVal → AHeap → Prop} (hl : Nat.ble args.length 45 = true) (h : argsK (Env.full 9) 0 args fun env => evC Try.prog c57 ir57.body env σ (retQ ir57 Q)) : ACalls Try.prog 57 args σ Q :=
  acalls_of Try.func57 ok57 rfl (Nat.le_of_ble_eq_true hl) h
end Go.Proofs.Ytgipkpghabelkaa
/-
  The bodies of one package, compiled to the framework's language (printed by a program of this session).
-/
namespace Go.Proofs.Ytgipkpghabelkaa
set_option linter.unusedVariables false
set_option linter.unusedSimpArgs false
open Go Go.Am
/- bowlineref08.Size -/
def c36 : Cfg := ⟨qs, [], 30, [], ps⟩
def ir36 : IFun := ⟨2, [.tmp s4],
  (.seq (.reg (.one ⟨some s4, none, (.mv (.c (.v (.int .i64 0))))⟩
    .done))
  (.seq (.seq (.reg (.one ⟨some s6, none, (.mv (.t s1))⟩
    (.one ⟨some s7, none, (.bin false .neq (.t s6) (.c (.v (.int .i64 11))))⟩
    (.one ⟨some s8, none, (.mv (.t s7))⟩
    (.one ⟨some s9, some (s8, true), (.mv (.t s1))⟩
    (.one ⟨some s10, some (s8, true), (.bin false .neq (.t s9) (.c (.v (.int .i64 15))))⟩
    (.one ⟨some s11, none, (.pick (.t s8) (.t s10) (.c (.v (.bool false))))⟩
    (.one ⟨some s12, none, (.mv (.t s11))⟩
    (.one ⟨some s13, some (s12, false), (.mv (.t s0))⟩
    (.one ⟨some s14, some (s12, false), (.bin false .lss (.t s13) (.c (.v (.int .i64 1))))⟩
    (.one ⟨some s15, none, (.pick (.t s12) (.c (.v (.bool true))) (.t s14))⟩
    (.one ⟨some s16, none, (.mv (.t s15))⟩
    (.one ⟨some s17, some (s16, false), (.mv (.t s0))⟩
    (.one ⟨some s18, some (s16, false), (.bin false .gtr (.t s17) (.c (.v (.int .i64 23))))⟩
    (.one ⟨some s19, none, (.pick (.t s16) (.c (.v (.bool true))) (.t s18))⟩
    .done)))))))))))))))
  (.cond (.t s19) (.seq (.reg (.one ⟨some s4, none, (.mv (.c (.v (.int .i64 0))))⟩
    .done))
  .ret) .skip))
  (.seq (.reg (.one ⟨some s5, none, (.mv (.c (.v (.int .i64 0))))⟩
    .done))
  (.seq (.block 0 (.loop (.seq (.seq (.reg (.one ⟨some s20, none, (.mv (.t s5))⟩
    (.one ⟨some s21, none, (.bin false .mul (.c (.v (.int .i64 8))) (.t s20))⟩
    (.one ⟨some s22, none, (.mv (.t s0))⟩
    (.one ⟨some s23, none, (.mv (.t s1))⟩
    (.one ⟨some s24, none, (.bin false .add (.t s23) (.c (.v (.int .i64 1))))⟩
    (.one ⟨some s25, none, (.bin false .mul (.t s22) (.t s24))⟩
    (.one ⟨some s26, none, (.bin false .lss (.t s21) (.t s25))⟩
    .done))))))))
  (.cond (.t s26) .skip (.exit 0)))
  (.block 1 (.reg (.one ⟨some s27, none, (.mv (.t s5))⟩
    (.one ⟨some s28, none, (.bin false .add (.t s27) (.c (.v (.int .i64 1))))⟩
    (.one ⟨some s5, none, (.mv (.t s28))⟩
    .done))))))))
  (.seq (.reg (.one ⟨some s29, none, (.mv (.t s5))⟩
    (.one ⟨some s4, none, (.mv (.t s29))⟩
    .done)))
  .ret)))))⟩
theorem ok36 : compF Try.prog c36 Try.f36 = some ir36 := by kernel_rfl
theorem k_bowlineref08_Size {args : List AVal} {σ : AHeap} {Q : AVal → AHeap → Prop} (hl : Nat.ble args.length 30 = true) (h : argsK (Env.full 9) 0 args fun env => evC Try.prog c36 ir36.body env σ (retQ ir36 Q)) : ACalls Try.prog 36 args σ Q :=
  acalls_of Try.func36 ok36 rfl (Nat.le_of_ble_eq_true hl) h
/- bowlineref08.Read -/
def c77 : Cfg := ⟨qs, [], 67, [], ps⟩
def ir77 : IFun := ⟨2, [.tmp s4, .tmp s5, .tmp s6],
  (.seq (.reg (.one ⟨some s4, none, (.mv (.c (.slice 1 [] .full)))⟩
    (.one ⟨some s5, none, (.mv (.c (.v (.int .i64 0))))⟩
    (.one ⟨some s6, none, (.mv (.c (.v (.int .i64 0))))⟩
    .done))))
  (.seq (.seq (.reg (.one ⟨some s14, none, (.mv (.t s1))⟩
    (.one ⟨some s15, none, (.bin false .neq (.t s14) (.c (.v (.int .i64 11))))⟩
    (.one ⟨some s16, none, (.mv (.t s15))⟩
    (.one ⟨some s17, some (s16, true), (.mv (.t s1))⟩
    (.one ⟨some s18, some (s16, true), (.bin false .neq (.t s17) (.c (.v (.int .i64 15))))⟩
    (.one ⟨some s19, none, (.pick (.t s16) (.t s18) (.c (.v (.bool false))))⟩
    .done)))))))
  (.cond (.t s19) (.seq (.reg (.one ⟨some s4, none, (.mv (.c (.slice 1 [] .full)))⟩
    (.one ⟨some s5, none, (.mv (.c (.v (.int .i64 0))))⟩
    (.one ⟨some s6, none, (.mv (.c (.v (.int .i64 9))))⟩
    .done))))
  .ret) .skip))
  (.seq (.reg (.one ⟨some s20, none, (.mv (.t s0))⟩
    (.one ⟨some s21, none, (.callq 56 [(.t s20)])⟩
    (.one ⟨some s7, none, (.mv (.t s21))⟩
    .done))))
  (.seq (.reg (.one ⟨some s8, none, (.mv (.c (.slice 1 [] .full)))⟩
    .done))
  (.seq (.reg (.one ⟨some s9, none, (.mv (.c (.v (.int .i64 0))))⟩
    .done))
  (.seq (.block 0 (.loop (.block 1 (.seq (.seq (.reg (.one ⟨some s22, none, (.mv (.t s7))⟩
    (.one ⟨some s23, none, (.len false (.t s22))⟩
    (.one ⟨some s24, none, (.mv (.t s9))⟩
    (.one ⟨some s25, none, (.bin false .sub (.t s23) (.t s24))⟩
    (.one ⟨some s26, none, (.mv (.t s1))⟩
    (.one ⟨some s27, none, (.bin false .add (.t s26) (.c (.v (.int .i64 1))))⟩
    (.one ⟨some s28, none, (.bin false .lss (.t s25) (.t s27))⟩
    .done))))))))
  (.cond (.t s28) (.seq (.reg (.one ⟨some s4, none, (.mv (.c (.slice 1 [] .full)))⟩
    (.one ⟨some s5, none, (.mv (.c (.v (.int .i64 0))))⟩
    (.one ⟨some s6, none, (.mv (.c (.v (.int .i64 8))))⟩
    .done))))
  .ret) .skip))
  (.seq (.reg (.one ⟨some s30, none, (.mv (.t s7))⟩
    (.one ⟨some s31, none, (.mv (.t s9))⟩
    (.one ⟨some s32, none, (.bin false .add (.t s31) (.c (.v (.int .i64 1))))⟩
    (.one ⟨some s33, none, (.mv (.t s1))⟩
    (.one ⟨some s34, none, (.callq 57 [(.t s30), (.t s32), (.t s33)])⟩
    (.one ⟨some s29, none, (.mv (.t s34))⟩
    (.one ⟨some s35, none, (.ext (.t s29) 0)⟩
    (.one ⟨some s36, none, (.ext (.t s29) 1)⟩
    (.one ⟨some s37, none, (.ext (.t s29) 2)⟩
    (.one ⟨some s10, none, (.mv (.t s35))⟩
    (.one ⟨some s11, none, (.mv (.t s36))⟩
    (.one ⟨some s12, none, (.mv (.t s37))⟩
    .done)))))))))))))
  (.seq (.reg (.one ⟨some s38, none, (.mv (.t s7))⟩
    (.one ⟨some s39, none, (.mv (.t s9))⟩
    (.one ⟨some s40, none, (.iaddr 1 (.t s38) (.t s39))⟩
    (.one ⟨some s41, none, (.load none (.t s40))⟩
    (.one ⟨some s13, none, (.mv (.t s41))⟩
    .done))))))
  (.seq (.reg (.one ⟨some s42, none, (.mv (.t s11))⟩
    (.one ⟨some s9, none, (.mv (.t s42))⟩
    .done)))
  (.seq (.seq (.reg (.one ⟨some s43, none, (.mv (.t s10))⟩
    (.one ⟨some s44, none, (.bin false .eql (.t s43) (.c (.v (.int .u64 0))))⟩
    .done)))
  (.cond (.t s44) (.seq (.reg (.one ⟨some s4, none, (.mv (.c (.slice 1 [] .full)))⟩
    (.one ⟨some s5, none, (.mv (.c (.v (.int .i64 0))))⟩
    (.one ⟨some s6, none, (.mv (.c (.v (.int .i64 3))))⟩
    .done))))
  .ret) .skip))
  (.seq (.reg (.one ⟨some s45, none, (.mv (.t s8))⟩
    (.one ⟨some s46, none, (.mv (.t s10))⟩
    (.one ⟨some s47, none, (.conv .i64 (.t s46))⟩
    (.one ⟨some s48, none, (.row 1 [(.t s47)])⟩
    (.one ⟨some s49, none, (.app 1 8 (.t s45) (.t s48))⟩
    (.one ⟨some s8, none, (.mv (.t s49))⟩
    .done)))))))
  (.seq (.seq (.reg (.one ⟨some s50, none, (.mv (.t s13))⟩
    (.one ⟨some s51, none, (.not (.t s50))⟩
    .done)))
  (.cond (.t s51) (.exit 0) .skip))
  (.seq (.reg (.one ⟨some s52, none, (.mv (.t s8))⟩
    (.one ⟨some s53, none, (.len false (.t s52))⟩
    (.one ⟨some s54, none, (.bin false .eql (.t s53) (.c (.v (.int .i64 23))))⟩
    .done))))
  (.cond (.t s54) (.seq (.reg (.one ⟨some s4, none, (.mv (.c (.slice 1 [] .full)))⟩
    (.one ⟨some s5, none, (.mv (.c (.v (.int .i64 0))))⟩
    (.one ⟨some s6, none, (.mv (.c (.v (.int .i64 2))))⟩
    .done))))
  .ret) .skip))))))))))))
  (.seq (.block 2 (.loop (.seq (.seq (.reg (.one ⟨some s55, none, (.mv (.t s9))⟩
    (.one ⟨some s56, none, (.bin false .rem (.t s55) (.c (.v (.int .i64 8))))⟩
    (.one ⟨some s57, none, (.bin false .neq (.t s56) (.c (.v (.int .i64 0))))⟩
    .done))))
  (.cond (.t s57) .skip (.exit 2)))
  (.block 3 (.seq (.seq (.reg (.one ⟨some s58, none, (.mv (.t s7))⟩
    (.one ⟨some s59, none, (.mv (.t s9))⟩
    (.one ⟨some s60, none, (.iaddr 1 (.t s58) (.t s59))⟩
    (.one ⟨some s61, none, (.load none (.t s60))⟩
    .done)))))
  (.cond (.t s61) (.seq (.reg (.one ⟨some s4, none, (.mv (.c (.slice 1 [] .full)))⟩
    (.one ⟨some s5, none, (.mv (.c (.v (.int .i64 0))))⟩
    (.one ⟨some s6, none, (.mv (.c (.v (.int .i64 3))))⟩
    .done))))
  .ret) .skip))
  (.reg (.one ⟨some s62, none, (.mv (.t s9))⟩
    (.one ⟨some s63, none, (.bin false .add (.t s62) (.c (.v (.int .i64 1))))⟩
    (.one ⟨some s9, none, (.mv (.t s63))⟩
    .done)))))))))
  (.seq (.reg (.one ⟨some s64, none, (.mv (.t s8))⟩
    (.one ⟨some s65, none, (.mv (.t s9))⟩
    (.one ⟨some s66, none, (.bin false .quo (.t s65) (.c (.v (.int .i64 8))))⟩
    (.one ⟨some s4, none, (.mv (.t s64))⟩
    (.one ⟨some s5, none, (.mv (.t s66))⟩
    (.one ⟨some s6, none, (.mv (.c (.v (.int .i64 0))))⟩
    .done)))))))
  .ret))))))))⟩
theorem ok77 : compF Try.prog c77 Try.f77 = some ir77 := by kernel_rfl
theorem k_bowlineref08_Read {args : List AVal} {σ : AHeap} {Q : AVal → AHeap → Prop} (hl : Nat.ble args.length 67 = true) (h : argsK (Env.full 9) 0 args fun env => evC Try.prog c77 ir77.body env σ (retQ ir77 Q)) : ACalls Try.prog 77 args σ Q :=
  acalls_of Try.func77 ok77 rfl (Nat.le_of_ble_eq_true hl) h
end Go.Proofs.Ytgipkpghabelkaa
/-
  The bodies of one package, compiled to the framework's language (printed by a program of this session).
-/
namespace Go.Proofs.Ytgipkpghabelkaa
set_option linter.unusedVariables false
set_option linter.unusedSimpArgs false
open Go Go.Am
/- bowlineref09.Read -/
def c26 : Cfg := ⟨qs, [], 92, [], ps⟩
def ir26 : IFun := ⟨2, [.cell s4 (some 3), .tmp s5],
  (.seq (.reg (.one ⟨some s4, none, (.new [(.v (.int .i64 0)), (.v (.int .i64 0)), (.slice 1 [] .full)])⟩
    (.one ⟨some s5, none, (.mv (.c (.v (.int .i64 0))))⟩
    .done)))
  (.seq (.seq (.reg (.one ⟨some s17, none, (.mv (.t s1))⟩
    (.one ⟨some s18, none, (.bin false .neq (.t s17) (.c (.v (.int .i64 5))))⟩
    (.one ⟨some s19, none, (.mv (.t s18))⟩
    (.one ⟨some s20, some (s19, true), (.mv (.t s1))⟩
    (.one ⟨some s21, some (s19, true), (.bin false .neq (.t s20) (.c (.v (.int .i64 10))))⟩
    (.one ⟨some s22, none, (.pick (.t s19) (.t s21) (.c (.v (.bool false))))⟩
    .done)))))))
  (.cond (.t s22) (.seq (.reg (.one ⟨some s23, none, (.build [(.v (.int .i64 0)), (.v (.int .i64 0)), (.slice 1 [] .full)] [])⟩
    (.one ⟨none, none, (.store 3 (.t s4) (.t s23))⟩
    (.one ⟨some s5, none, (.mv (.c (.v (.int .i64 9))))⟩
    .done))))
  .ret) .skip))
  (.seq (.seq (.reg (.one ⟨some s24, none, (.mv (.t s0))⟩
    (.one ⟨some s25, none, (.len false (.t s24))⟩
    (.one ⟨some s26, none, (.bin false .gtr (.t s25) (.c (.v (.int .i64 4000))))⟩
    .done))))
  (.cond (.t s26) (.seq (.reg (.one ⟨some s27, none, (.build [(.v (.int .i64 0)), (.v (.int .i64 0)), (.slice 1 [] .full)] [])⟩
    (.one ⟨none, none, (.store 3 (.t s4) (.t s27))⟩
    (.one ⟨some s5, none, (.mv (.c (.v (.int .i64 2))))⟩
    .done))))
  .ret) .skip))
  (.seq (.seq (.reg (.one ⟨some s28, none, (.mv (.t s0))⟩
    (.one ⟨some s29, none, (.len false (.t s28))⟩
    (.one ⟨some s30, none, (.mv (.t s1))⟩
    (.one ⟨some s31, none, (.bin false .quo (.t s30) (.c (.v (.int .i64 5))))⟩
    (.one ⟨some s32, none, (.bin false .lss (.t s29) (.t s31))⟩
    .done))))))
  (.cond (.t s32) (.seq (.reg (.one ⟨some s33, none, (.build [(.v (.int .i64 0)), (.v (.int .i64 0)), (.slice 1 [] .full)] [])⟩
    (.one ⟨none, none, (.store 3 (.t s4) (.t s33))⟩
    (.one ⟨some s5, none, (.mv (.c (.v (.int .i64 8))))⟩
    .done))))
  .ret) .skip))
  (.seq (.reg (.one ⟨some s34, none, (.mv (.t s0))⟩
    (.one ⟨some s35, none, (.mv (.t s1))⟩
    (.one ⟨some s36, none, (.bin false .quo (.t s35) (.c (.v (.int .i64 5))))⟩
    (.one ⟨some s37, none, (.cut 1 (.t s34) none (some (.t s36)) none)⟩
    (.one ⟨some s38, none, (.callq 56 [(.t s37)])⟩
    (.one ⟨some s6, none, (.mv (.t s38))⟩
    .done)))))))
  (.seq (.reg (.one ⟨some s7, none, (.mv (.c (.v (.int .i64 0))))⟩
    .done))
  (.seq (.seq (.reg (.one ⟨some s8, none, (.mv (.c (.v (.int .i64 0))))⟩
    .done))
  (.block 0 (.loop (.seq (.seq (.reg (.one ⟨some s39, none, (.mv (.t s8))⟩
    (.one ⟨some s40, none, (.bin false .lss (.t s39) (.c (.v (.int .i64 3))))⟩
    (.one ⟨some s41, none, (.mv (.t s40))⟩
    (.one ⟨some s42, some (s41, true), (.mv (.t s1))⟩
    (.one ⟨some s43, some (s41, true), (.bin false .eql (.t s42) (.c (.v (.int .i64 10))))⟩
    (.one ⟨some s44, none, (.pick (.t s41) (.t s43) (.c (.v (.bool false))))⟩
    .done)))))))
  (.cond (.t s44) .skip (.exit 0)))
  (.seq (.block 1 (.seq (.seq (.reg (.one ⟨some s47, none, (.mv (.t s6))⟩
    (.one ⟨some s48, none, (.mv (.t s8))⟩
    (.one ⟨some s49, none, (.iaddr 1 (.t s47) (.t s48))⟩
    (.one ⟨some s50, none, (.load none (.t s49))⟩
    .done)))))
  (.cond (.t s50) (.seq (.reg (.one ⟨some s51, none, (.build [(.v (.int .i64 0)), (.v (.int .i64 0)), (.slice 1 [] .full)] [])⟩
    (.one ⟨none, none, (.store 3 (.t s4) (.t s51))⟩
    (.one ⟨some s5, none, (.mv (.c (.v (.int .i64 3))))⟩
    .done))))
  .ret) .skip))
  (.reg (.one ⟨some s7, none, (.mv (.c (.v (.int .i64 3))))⟩
    .done))))
  (.reg (.one ⟨some s45, none, (.mv (.t s8))⟩
    (.one ⟨some s46, none, (.bin false .add (.t s45) (.c (.v (.int .i64 1))))⟩
    (.one ⟨some s8, none, (.mv (.t s46))⟩
    .done)))))))))
  (.seq (.reg (.one ⟨some s53, none, (.mv (.t s6))⟩
    (.one ⟨some s54, none, (.mv (.t s7))⟩
    (.one ⟨some s55, none, (.callq 57 [(.t s53), (.t s54), (.c (.v (.int .i64 2)))])⟩
    (.one ⟨some s52, none, (.mv (.t s55))⟩
    (.one ⟨some s56, none, (.ext (.t s52) 0)⟩
    (.one ⟨some s57, none, (.ext (.t s52) 1)⟩
    (.one ⟨some s58, none, (.ext (.t s52) 2)⟩
    (.one ⟨some s9, none, (.mv (.t s56))⟩
    (.one ⟨some s7, none, (.mv (.t s57))⟩
    (.one ⟨some s10, none, (.mv (.t s58))⟩
    .done)))))))))))
  (.seq (.reg (.one ⟨some s59, none, (.mv (.t s6))⟩
    (.one ⟨some s60, none, (.mv (.t s7))⟩
    (.one ⟨some s61, none, (.iaddr 1 (.t s59) (.t s60))⟩
    (.one ⟨some s62, none, (.load none (.t s61))⟩
    (.one ⟨some s11, none, (.mv (.t s62))⟩
    .done))))))
  (.seq (.reg (.one ⟨some s64, none, (.mv (.t s6))⟩
    (.one ⟨some s65, none, (.mv (.t s7))⟩
    (.one ⟨some s66, none, (.bin false .add (.t s65) (.c (.v (.int .i64 1))))⟩
    (.one ⟨some s67, none, (.mv (.t s1))⟩
    (.one ⟨some s68, none, (.callq 57 [(.t s64), (.t s66), (.t s67)])⟩
    (.one ⟨some s63, none, (.mv (.t s68))⟩
    (.one ⟨some s69, none, (.ext (.t s63) 0)⟩
    (.one ⟨some s70, none, (.ext (.t s63) 1)⟩
    (.one ⟨some s71, none, (.ext (.t s63) 2)⟩
    (.one ⟨some s12, none, (.mv (.t s69))⟩
    (.one ⟨some s13, none, (.mv (.t s70))⟩
    (.one ⟨some s14, none, (.mv (.t s71))⟩
    .done)))))))))))))
  (.seq (.reg (.one ⟨some s73, none, (.mv (.t s0))⟩
    (.one ⟨some s74, none, (.mv (.t s1))⟩
    (.one ⟨some s75, none, (.bin false .quo (.t s74) (.c (.v (.int .i64 5))))⟩
    (.one ⟨some s76, none, (.cut 1 (.t s73) (some (.t s75)) none none)⟩
    (.one ⟨some s77, none, (.mv (.t s11))⟩
    (.one ⟨some s78, none, (.callq 58 [(.t s76), (.t s77), (.c (.v (.int .i64 11)))])⟩
    (.one ⟨some s72, none, (.mv (.t s78))⟩
    (.one ⟨some s79, none, (.ext (.t s72) 0)⟩
    (.one ⟨some s80, none, (.ext (.t s72) 1)⟩
    (.one ⟨some s15, none, (.mv (.t s79))⟩
    (.one ⟨some s16, none, (.mv (.t s80))⟩
    .done))))))))))))
  (.seq (.seq (.reg (.one ⟨some s81, none, (.mv (.t s16))⟩
    (.one ⟨some s82, none, (.bin false .neq (.t s81) (.c (.v (.int .i64 0))))⟩
    .done)))
  (.cond (.t s82) (.seq (.reg (.one ⟨some s83, none, (.build [(.v (.int .i64 0)), (.v (.int .i64 0)), (.slice 1 [] .full)] [])⟩
    (.one ⟨some s84, none, (.mv (.t s16))⟩
    (.one ⟨none, none, (.store 3 (.t s4) (.t s83))⟩
    (.one ⟨some s5, none, (.mv (.t s84))⟩
    .done)))))
  .ret) .skip))
  (.seq (.reg (.one ⟨some s85, none, (.mv (.t s9))⟩
    (.one ⟨some s86, none, (.conv .i64 (.t s85))⟩
    (.one ⟨some s87, none, (.mv (.t s12))⟩
    (.one ⟨some s88, none, (.conv .i64 (.t s87))⟩
    (.one ⟨some s89, none, (.mv (.t s15))⟩
    (.one ⟨some s90, none, (.build [(.v (.int .i64 0)), (.v (.int .i64 0)), (.slice 1 [] .full)] [(0, 1, (.t s86)), (1, 1, (.t s88)), (2, 1, (.t s89))])⟩
    (.one ⟨some s91, none, (.mv (.t s16))⟩
    (.one ⟨none, none, (.store 3 (.t s4) (.t s90))⟩
    (.one ⟨some s5, none, (.mv (.t s91))⟩
    .done))))))))))
  .ret)))))))))))))⟩
theorem ok26 : compF Try.prog c26 Try.f26 = some ir26 := by kernel_rfl
theorem k_bowlineref09_Read {args : List AVal} {σ : AHeap} {Q : AVal → AHeap → Prop} (hl : Nat.ble args.length 92 = true) (h : argsK (Env.full 9) 0 args fun env => evC Try.prog c26 ir26.body env σ (retQ ir26 Q)) : ACalls Try.prog 26 args σ Q :=
  acalls_of Try.func26 ok26 rfl (Nat.le_of_ble_eq_true hl) h
/- bowlineref09.Same -/
def c27 : Cfg := ⟨qs, [], 24, [], ps⟩
def ir27 : IFun := ⟨2, [.tmp s4],
  (.seq (.reg (.one ⟨some s2, none, (.box 3 (.t s0))⟩
    (.one ⟨some s3, none, (.box 3 (.t s1))⟩
    (.one ⟨some s4, none, (.mv (.c (.v (.bool false))))⟩
    .done))))
  (.seq (.reg (.one ⟨some s5, none, (.faddr 0 (.t s2))⟩
    (.one ⟨some s6, none, (.load none (.t s5))⟩
    (.one ⟨some s7, none, (.faddr 0 (.t s3))⟩
    (.one ⟨some s8, none, (.load none (.t s7))⟩
    (.one ⟨some s9, none, (.bin false .eql (.t s6) (.t s8))⟩
    (.one ⟨some s10, none, (.mv (.t s9))⟩
    (.one ⟨some s11, some (s10, true), (.faddr 1 (.t s2))⟩
    (.one ⟨some s12, some (s10, true), (.load none (.t s11))⟩
    (.one ⟨some s13, some (s10, true), (.faddr 1 (.t s3))⟩
    (.one ⟨some s14, some (s10, true), (.load none (.t s13))⟩
    (.one ⟨some s15, some (s10, true), (.bin false .eql (.t s12) (.t s14))⟩
    (.one ⟨some s16, none, (.pick (.t s10) (.t s15) (.c (.v (.bool false))))⟩
    (.one ⟨some s17, none, (.mv (.t s16))⟩
    (.one ⟨some s18, some (s17, true), (.faddr 2 (.t s2))⟩
    (.one ⟨some s19, some (s17, true), (.load none (.t s18))⟩
    (.one ⟨some s20, some (s17, true), (.faddr 2 (.t s3))⟩
    (.one ⟨some s21, some (s17, true), (.load none (.t s20))⟩
    (.one ⟨some s22, some (s17, true), (.callq 37 [(.t s19), (.t s21)])⟩
    (.one ⟨some s23, none, (.pick (.t s17) (.t s22) (.c (.v (.bool false))))⟩
    (.one ⟨some s4, none, (.mv (.t s23))⟩
    .done)))))))))))))))))))))
  .ret))⟩
theorem ok27 : compF Try.prog c27 Try.f27 = some ir27 := by kernel_rfl
theorem k_bowlineref09_Same {args : List AVal} {σ : AHeap} {Q : AVal → AHeap → Prop} (hl : Nat.ble args.length 24 = true) (h : argsK (Env.full 9) 0 args fun env => evC Try.prog c27 ir27.body env σ (retQ ir27 Q)) : ACalls Try.prog 27 args σ Q :=
  acalls_of Try.func27 ok27 rfl (Nat.le_of_ble_eq_true hl) h
/- bowlineref09.SameFields -/
def c37 : Cfg := ⟨qs, [], 28, [], ps⟩
def ir37 : IFun := ⟨2, [.tmp s4],
  (.seq (.reg (.one ⟨some s4, none, (.mv (.c (.v (.bool false))))⟩
    .done))
  (.seq (.seq (.reg (.one ⟨some s6, none, (.mv (.t s0))⟩
    (.one ⟨some s7, none, (.len false (.t s6))⟩
    (.one ⟨some s8, none, (.mv (.t s1))⟩
    (.one ⟨some s9, none, (.len false (.t s8))⟩
    (.one ⟨some s10, none, (.bin false .neq (.t s7) (.t s9))⟩
    .done))))))
  (.cond (.t s10) (.seq (.reg (.one ⟨some s4, none, (.mv (.c (.v (.bool false))))⟩
    .done))
  .ret) .skip))
  (.seq (.seq (.reg (.one ⟨some s5, none, (.mv (.c (.v (.int .i64 0))))⟩
    .done))
  (.block 0 (.loop (.seq (.seq (.reg (.one ⟨some s11, none, (.mv (.t s5))⟩
    (.one ⟨some s12, none, (.mv (.t s0))⟩
    (.one ⟨some s13, none, (.len false (.t s12))⟩
    (.one ⟨some s14, none, (.bin false .lss (.t s11) (.t s13))⟩
    .done)))))
  (.cond (.t s14) .skip (.exit 0)))
  (.seq (.block 1 (.seq (.reg (.one ⟨some s17, none, (.mv (.t s0))⟩
    (.one ⟨some s18, none, (.mv (.t s5))⟩
    (.one ⟨some s19, none, (.iaddr 1 (.t s17) (.t s18))⟩
    (.one ⟨some s20, none, (.load none (.t s19))⟩
    (.one ⟨some s21, none, (.b2s (.t s20))⟩
    (.one ⟨some s22, none, (.mv (.t s1))⟩
    (.one ⟨some s23, none, (.mv (.t s5))⟩
    (.one ⟨some s24, none, (.iaddr 1 (.t s22) (.t s23))⟩
    (.one ⟨some s25, none, (.load none (.t s24))⟩
    (.one ⟨some s26, none, (.b2s (.t s25))⟩
    (.one ⟨some s27, none, (.bin false .neq (.t s21) (.t s26))⟩
    .done))))))))))))
  (.cond (.t s27) (.seq (.reg (.one ⟨some s4, none, (.mv (.c (.v (.bool false))))⟩
    .done))
  .ret) .skip)))
  (.reg (.one ⟨some s15, none, (.mv (.t s5))⟩
    (.one ⟨some s16, none, (.bin false .add (.t s15) (.c (.v (.int .i64 1))))⟩
    (.one ⟨some s5, none, (.mv (.t s16))⟩
    .done)))))))))
  (.seq (.reg (.one ⟨some s4, none, (.mv (.c (.v (.bool true))))⟩
    .done))
  .ret))))⟩
theorem ok37 : compF Try.prog c37 Try.f37 = some ir37 := by kernel_rfl
theorem k_bowlineref09_SameFields {args : List AVal} {σ : AHeap} {Q : AVal → AHeap → Prop} (hl : Nat.ble args.length 28 = true) (h : argsK (Env.full 9) 0 args fun env => evC Try.prog c37 ir37.body env σ (retQ ir37 Q)) : ACalls Try.prog 37 args σ Q :=
  acalls_of Try.func37 ok37 rfl (Nat.le_of_ble_eq_true hl) h
/- bowlineref09.Cut -/
def c58 : Cfg := ⟨qs, [], 71, [], ps⟩
def ir58 : IFun := ⟨3, [.tmp s6, .tmp s7],
  (.seq (.reg (.one ⟨some s6, none, (.mv (.c (.slice 1 [] .full)))⟩
    (.one ⟨some s7, none, (.mv (.c (.v (.int .i64 0))))⟩
    .done)))
  (.seq (.reg (.one ⟨some s8, none, (.mv (.c (.slice 1 [] .full)))⟩
    .done))
  (.seq (.reg (.one ⟨some s9, none, (.mv (.c (.v (.int .i64 0))))⟩
    .done))
  (.seq (.seq (.reg (.one ⟨some s15, none, (.mv (.t s1))⟩
    .done))
  (.cond (.t s15) (.seq (.reg (.one ⟨some s17, none, (.mv (.t s0))⟩
    (.one ⟨some s18, none, (.mv (.t s2))⟩
    (.one ⟨some s19, none, (.callq 77 [(.t s17), (.t s18)])⟩
    (.one ⟨some s16, none, (.mv (.t s19))⟩
    (.one ⟨some s20, none, (.ext (.t s16) 0)⟩
    (.one ⟨some s21, none, (.ext (.t s16) 1)⟩
    (.one ⟨some s22, none, (.ext (.t s16) 2)⟩
    (.one ⟨some s10, none, (.mv (.t s20))⟩
    (.one ⟨some s11, none, (.mv (.t s21))⟩
    (.one ⟨some s12, none, (.mv (.t s22))⟩
    .done)))))))))))
  (.seq (.seq (.reg (.one ⟨some s23, none, (.mv (.t s12))⟩
    (.one ⟨some s24, none, (.bin false .neq (.t s23) (.c (.v (.int .i64 0))))⟩
    .done)))
  (.cond (.t s24) (.seq (.reg (.one ⟨some s25, none, (.mv (.t s12))⟩
    (.one ⟨some s6, none, (.mv (.c (.slice 1 [] .full)))⟩
    (.one ⟨some s7, none, (.mv (.t s25))⟩
    .done))))
  .ret) .skip))
  (.reg (.one ⟨some s26, none, (.mv (.t s10))⟩
    (.one ⟨some s27, none, (.mv (.t s11))⟩
    (.one ⟨some s8, none, (.mv (.t s26))⟩
    (.one ⟨some s9, none, (.mv (.t s27))⟩
    .done))))))) .skip))
  (.seq (.reg (.one ⟨some s13, none, (.mv (.c (.slice 1 [] .full)))⟩
    .done))
  (.seq (.seq (.reg (.one ⟨some s14, none, (.mv (.c (.v (.int .i64 0))))⟩
    .done))
  (.block 0 (.loop (.seq (.seq (.reg (.one ⟨some s28, none, (.mv (.t s14))⟩
    (.one ⟨some s29, none, (.mv (.t s8))⟩
    (.one ⟨some s30, none, (.len false (.t s29))⟩
    (.one ⟨some s31, none, (.bin false .lss (.t s28) (.t s30))⟩
    .done)))))
  (.cond (.t s31) .skip (.exit 0)))
  (.seq (.block 1 (.seq (.seq (.reg (.one ⟨some s34, none, (.mv (.t s9))⟩
    (.one ⟨some s35, none, (.mv (.t s8))⟩
    (.one ⟨some s36, none, (.mv (.t s14))⟩
    (.one ⟨some s37, none, (.iaddr 1 (.t s35) (.t s36))⟩
    (.one ⟨some s38, none, (.load none (.t s37))⟩
    (.one ⟨some s39, none, (.bin false .add (.t s34) (.t s38))⟩
    (.one ⟨some s40, none, (.mv (.t s0))⟩
    (.one ⟨some s41, none, (.len false (.t s40))⟩
    (.one ⟨some s42, none, (.bin false .gtr (.t s39) (.t s41))⟩
    .done))))))))))
  (.cond (.t s42) (.seq (.reg (.one ⟨some s6, none, (.mv (.c (.slice 1 [] .full)))⟩
    (.one ⟨some s7, none, (.mv (.c (.v (.int .i64 8))))⟩
    .done)))
  .ret) .skip))
  (.seq (.reg (.one ⟨some s43, none, (.mv (.t s13))⟩
    (.one ⟨some s44, none, (.mv (.t s0))⟩
    (.one ⟨some s45, none, (.mv (.t s9))⟩
    (.one ⟨some s46, none, (.mv (.t s9))⟩
    (.one ⟨some s47, none, (.mv (.t s8))⟩
    (.one ⟨some s48, none, (.mv (.t s14))⟩
    (.one ⟨some s49, none, (.iaddr 1 (.t s47) (.t s48))⟩
    (.one ⟨some s50, none, (.load none (.t s49))⟩
    (.one ⟨some s51, none, (.bin false .add (.t s46) (.t s50))⟩
    (.one ⟨some s52, none, (.cut 1 (.t s44) (some (.t s45)) (some (.t s51)) none)⟩
    (.one ⟨some s53, none, (.row 1 [(.t s52)])⟩
    (.one ⟨some s54, none, (.app 1 24 (.t s43) (.t s53))⟩
    (.one ⟨some s13, none, (.mv (.t s54))⟩
    .done))))))))))))))
  (.reg (.one ⟨some s55, none, (.mv (.t s9))⟩
    (.one ⟨some s56, none, (.mv (.t s8))⟩
    (.one ⟨some s57, none, (.mv (.t s14))⟩
    (.one ⟨some s58, none, (.iaddr 1 (.t s56) (.t s57))⟩
    (.one ⟨some s59, none, (.load none (.t s58))⟩
    (.one ⟨some s60, none, (.bin false .add (.t s55) (.t s59))⟩
    (.one ⟨some s9, none, (.mv (.t s60))⟩
    .done)))))))))))
  (.reg (.one ⟨some s32, none, (.mv (.t s14))⟩
    (.one ⟨some s33, none, (.bin false .add (.t s32) (.c (.v (.int .i64 1))))⟩
    (.one ⟨some s14, none, (.mv (.t s33))⟩
    .done)))))))))
  (.seq (.seq (.reg (.one ⟨some s61, none, (.mv (.t s9))⟩
    (.one ⟨some s62, none, (.mv (.t s0))⟩
    (.one ⟨some s63, none, (.len false (.t s62))⟩
    (.one ⟨some s64, none, (.bin false .geq (.t s61) (.t s63))⟩
    .done)))))
  (.cond (.t s64) (.seq (.reg (.one ⟨some s6, none, (.mv (.c (.slice 1 [] .full)))⟩
    (.one ⟨some s7, none, (.mv (.c (.v (.int .i64 8))))⟩
    .done)))
  .ret) .skip))
  (.seq (.reg (.one ⟨some s65, none, (.mv (.t s13))⟩
    (.one ⟨some s66, none, (.mv (.t s0))⟩
    (.one ⟨some s67, none, (.mv (.t s9))⟩
    (.one ⟨some s68, none, (.cut 1 (.t s66) (some (.t s67)) none none)⟩
    (.one ⟨some s69, none, (.row 1 [(.t s68)])⟩
    (.one ⟨some s70, none, (.app 1 24 (.t s65) (.t s69))⟩
    (.one ⟨some s6, none, (.mv (.t s70))⟩
    (.one ⟨some s7, none, (.mv (.c (.v (.int .i64 0))))⟩
    .done)))))))))
  .ret))))))))⟩
theorem ok58 : compF Try.prog c58 Try.f58 = some ir58 := by kernel_rfl
theorem k_bowlineref09_Cut {args : List AVal} {σ : AHeap} {Q : AVal → AHeap → Prop} (hl : Nat.ble args.length 71 = true) (h : argsK (Env.full 9) 0 args fun env => evC Try.prog c58 ir58.body env σ (retQ ir58 Q)) : ACalls Try.prog 58 args σ Q :=
  acalls_of Try.func58 ok58 rfl (Nat.le_of_ble_eq_true hl) h
/- bowlineref09.Fields -/
def c63 : Cfg := ⟨qs, [], 67, [], ps⟩
def ir63 : IFun := ⟨3, [.tmp s6],
  (.seq (.reg (.one ⟨some s6, none, (.mv (.c (.v (.int .i64 0))))⟩
    .done))
  (.seq (.seq (.reg (.one ⟨some s10, none, (.mv (.t s0))⟩
    (.one ⟨some s11, none, (.len false (.t s10))⟩
    (.one ⟨some s12, none, (.bin false .lss (.t s11) (.c (.v (.int .i64 1))))⟩
    (.one ⟨some s13, none, (.mv (.t s12))⟩
    (.one ⟨some s14, some (s13, false), (.mv (.t s0))⟩
    (.one ⟨some s15, some (s13, false), (.len false (.t s14))⟩
    (.one ⟨some s16, some (s13, false), (.bin false .gtr (.t s15) (.c (.v (.int .i64 24))))⟩
    (.one ⟨some s17, none, (.pick (.t s13) (.c (.v (.bool true))) (.t s16))⟩
    .done)))))))))
  (.cond (.t s17) (.seq (.reg (.one ⟨some s6, none, (.mv (.c (.v (.int .i64 0))))⟩
    .done))
  .ret) .skip))
  (.seq (.reg (.one ⟨some s7, none, (.mv (.c (.v (.int .i64 2047))))⟩
    .done))
  (.seq (.reg (.one ⟨some s18, none, (.mv (.t s1))⟩
    (.one ⟨some s8, none, (.mv (.t s18))⟩
    .done)))
  (.seq (.seq (.reg (.one ⟨some s19, none, (.mv (.t s0))⟩
    (.one ⟨some s20, none, (.len false (.t s19))⟩
    (.one ⟨some s21, none, (.bin false .gtr (.t s20) (.c (.v (.int .i64 1))))⟩
    .done))))
  (.cond (.t s21) (.reg (.one ⟨some s22, none, (.mv (.t s8))⟩
    (.one ⟨some s23, none, (.mv (.t s0))⟩
    (.one ⟨some s24, none, (.len false (.t s23))⟩
    (.one ⟨some s25, none, (.bin false .sub (.t s24) (.c (.v (.int .i64 1))))⟩
    (.one ⟨some s26, none, (.mv (.t s2))⟩
    (.one ⟨some s27, none, (.callq 36 [(.t s25), (.t s26)])⟩
    (.one ⟨some s28, none, (.bin false .add (.t s22) (.t s27))⟩
    (.one ⟨some s8, none, (.mv (.t s28))⟩
    .done))))))))) .skip))
  (.seq (.seq (.reg (.one ⟨some s9, none, (.mv (.c (.v (.int .i64 0))))⟩
    .done))
  (.block 0 (.loop (.seq (.seq (.reg (.one ⟨some s29, none, (.mv (.t s9))⟩
    (.one ⟨some s30, none, (.mv (.t s0))⟩
    (.one ⟨some s31, none, (.len false (.t s30))⟩
    (.one ⟨some s32, none, (.bin false .lss (.t s29) (.t s31))⟩
    .done)))))
  (.cond (.t s32) .skip (.exit 0)))
  (.seq (.block 1 (.seq (.seq (.reg (.one ⟨some s35, none, (.mv (.t s0))⟩
    (.one ⟨some s36, none, (.mv (.t s9))⟩
    (.one ⟨some s37, none, (.iaddr 1 (.t s35) (.t s36))⟩
    (.one ⟨some s38, none, (.load none (.t s37))⟩
    (.one ⟨some s39, none, (.len false (.t s38))⟩
    (.one ⟨some s40, none, (.bin false .eql (.t s39) (.c (.v (.int .i64 0))))⟩
    (.one ⟨some s41, none, (.mv (.t s40))⟩
    (.one ⟨some s42, some (s41, false), (.mv (.t s9))⟩
    (.one ⟨some s43, some (s41, false), (.bin false .add (.t s42) (.c (.v (.int .i64 1))))⟩
    (.one ⟨some s44, some (s41, false), (.mv (.t s0))⟩
    (.one ⟨some s45, some (s41, false), (.len false (.t s44))⟩
    (.one ⟨some s46, some (s41, false), (.bin false .lss (.t s43) (.t s45))⟩
    (.one ⟨some s47, some (s41, false), (.mv (.t s46))⟩
    (.one ⟨some s48, some (s47, true), (.mv (.t s0))⟩
    (.one ⟨some s49, some (s47, true), (.mv (.t s9))⟩
    (.one ⟨some s50, some (s47, true), (.iaddr 1 (.t s48) (.t s49))⟩
    (.one ⟨some s51, some (s47, true), (.load none (.t s50))⟩
    (.one ⟨some s52, some (s47, true), (.len false (.t s51))⟩
    (.one ⟨some s53, some (s47, true), (.mv (.t s7))⟩
    (.one ⟨some s54, some (s47, true), (.bin false .gtr (.t s52) (.t s53))⟩
    (.one ⟨some s55, some (s41, false), (.pick (.t s47) (.t s54) (.c (.v (.bool false))))⟩
    (.one ⟨some s56, none, (.pick (.t s41) (.c (.v (.bool true))) (.t s55))⟩
    .done)))))))))))))))))))))))
  (.cond (.t s56) (.seq (.reg (.one ⟨some s6, none, (.mv (.c (.v (.int .i64 0))))⟩
    .done))
  .ret) .skip))
  (.seq (.reg (.one ⟨some s57, none, (.mv (.t s8))⟩
    (.one ⟨some s58, none, (.mv (.t s0))⟩
    (.one ⟨some s59, none, (.mv (.t s9))⟩
    (.one ⟨some s60, none, (.iaddr 1 (.t s58) (.t s59))⟩
    (.one ⟨some s61, none, (.load none (.t s60))⟩
    (.one ⟨some s62, none, (.len false (.t s61))⟩
    (.one ⟨some s63, none, (.bin false .add (.t s57) (.t s62))⟩
    (.one ⟨some s8, none, (.mv (.t s63))⟩
    .done)))))))))
  (.seq (.reg (.one ⟨some s64, none, (.mv (.t s8))⟩
    (.one ⟨some s65, none, (.bin false .gtr (.t s64) (.c (.v (.int .i64 4000))))⟩
    .done)))
  (.cond (.t s65) (.seq (.reg (.one ⟨some s6, none, (.mv (.c (.v (.int .i64 0))))⟩
    .done))
  .ret) .skip)))))
  (.reg (.one ⟨some s33, none, (.mv (.t s9))⟩
    (.one ⟨some s34, none, (.bin false .add (.t s33) (.c (.v (.int .i64 1))))⟩
    (.one ⟨some s9, none, (.mv (.t s34))⟩
    .done)))))))))
  (.seq (.reg (.one ⟨some s66, none, (.mv (.t s8))⟩
    (.one ⟨some s6, none, (.mv (.t s66))⟩
    .done)))
  .ret)))))))⟩
theorem ok63 : compF Try.prog c63 Try.f63 = some ir63 := by kernel_rfl
theorem k_bowlineref09_Fields {args : List AVal} {σ : AHeap} {Q : AVal → AHeap → Prop} (hl : Nat.ble args.length 67 = true) (h : argsK (Env.full 9) 0 args fun env => evC Try.prog c63 ir63.body env σ (retQ ir63 Q)) : ACalls Try.prog 63 args σ Q :=
  acalls_of Try.func63 ok63 rfl (Nat.le_of_ble_eq_true hl) h
end Go.Proofs.Ytgipkpghabelkaa
/-
  The bodies of one package, compiled to the framework's language (printed by a program of this session).
-/
namespace Go.Proofs.Ytgipkpghabelkaa
set_option linter.unusedVariables false
set_option linter.unusedSimpArgs false
open Go Go.Am
/- bowlinelaw09.UmdReads -/
def c7 : Cfg := ⟨[], [], 56, [], []⟩
def ir7 : IFun := ⟨2, [.tmp s4],
  (.seq (.reg (.one ⟨some s4, none, (.mv (.c (.v (.bool false))))⟩
    .done))
  (.seq (.seq (.reg (.one ⟨some s11, none, (.mv (.t s0))⟩
    (.one ⟨some s12, none, (.len false (.t s11))⟩
    (.one ⟨some s13, none, (.bin false .gtr (.t s12) (.c (.v (.int .i64 4100))))⟩
    .done))))
  (.cond (.t s13) (.seq (.reg (.one ⟨some s14, none, (.call 24 [])⟩
    (.one ⟨some s4, none, (.mv (.t s14))⟩
    .done)))
  .ret) .skip))
  (.seq (.reg (.one ⟨some s15, none, (.row 1 [])⟩
    (.one ⟨some s16, none, (.mv (.t s0))⟩
    (.one ⟨some s17, none, (.app 1 1 (.t s15) (.t s16))⟩
    (.one ⟨some s5, none, (.mv (.t s17))⟩
    .done)))))
  (.seq (.reg (.one ⟨some s19, none, (.mv (.t s5))⟩
    (.one ⟨some s20, none, (.mv (.t s1))⟩
    (.one ⟨some s21, none, (.call 25 [(.t s19), (.t s20)])⟩
    (.one ⟨some s18, none, (.mv (.t s21))⟩
    (.one ⟨some s22, none, (.ext (.t s18) 0)⟩
    (.one ⟨some s23, none, (.ext (.t s18) 1)⟩
    (.one ⟨some s6, none, (.new [(.v (.int .i64 0)), (.v (.int .i64 0)), (.slice 1 [] .full)])⟩
    (.one ⟨none, none, (.store 3 (.t s6) (.t s22))⟩
    (.one ⟨some s7, none, (.mv (.t s23))⟩
    .done))))))))))
  (.seq (.seq (.reg (.one ⟨some s8, none, (.mv (.c (.v (.int .i64 0))))⟩
    .done))
  (.block 0 (.loop (.seq (.seq (.reg (.one ⟨some s24, none, (.mv (.t s8))⟩
    (.one ⟨some s25, none, (.mv (.t s5))⟩
    (.one ⟨some s26, none, (.len false (.t s25))⟩
    (.one ⟨some s27, none, (.bin false .lss (.t s24) (.t s26))⟩
    .done)))))
  (.cond (.t s27) .skip (.exit 0)))
  (.seq (.block 1 (.reg (.one ⟨some s30, none, (.mv (.t s5))⟩
    (.one ⟨some s31, none, (.mv (.t s8))⟩
    (.one ⟨some s32, none, (.mv (.t s5))⟩
    (.one ⟨some s33, none, (.mv (.t s8))⟩
    (.one ⟨some s34, none, (.iaddr 1 (.t s32) (.t s33))⟩
    (.one ⟨some s35, none, (.load none (.t s34))⟩
    (.one ⟨some s36, none, (.bin false .xor (.t s35) (.c (.v (.int .u8 255))))⟩
    (.one ⟨some s37, none, (.iaddr 1 (.t s30) (.t s31))⟩
    (.one ⟨none, none, (.store 1 (.t s37) (.t s36))⟩
    .done)))))))))))
  (.reg (.one ⟨some s28, none, (.mv (.t s8))⟩
    (.one ⟨some s29, none, (.bin false .add (.t s28) (.c (.v (.int .i64 1))))⟩
    (.one ⟨some s8, none, (.mv (.t s29))⟩
    .done)))))))))
  (.seq (.reg (.one ⟨some s39, none, (.mv (.t s0))⟩
    (.one ⟨some s40, none, (.mv (.t s1))⟩
    (.one ⟨some s41, none, (.call 26 [(.t s39), (.t s40)])⟩
    (.one ⟨some s38, none, (.mv (.t s41))⟩
    (.one ⟨some s42, none, (.ext (.t s38) 0)⟩
    (.one ⟨some s43, none, (.ext (.t s38) 1)⟩
    (.one ⟨some s9, none, (.new [(.v (.int .i64 0)), (.v (.int .i64 0)), (.slice 1 [] .full)])⟩
    (.one ⟨none, none, (.store 3 (.t s9) (.t s42))⟩
    (.one ⟨some s10, none, (.mv (.t s43))⟩
    .done))))))))))
  (.seq (.reg (.one ⟨some s44, none, (.call 24 [])⟩
    (.one ⟨some s45, none, (.mv (.t s44))⟩
    (.one ⟨some s46, some (s45, true), (.mv (.t s7))⟩
    (.one ⟨some s47, some (s45, true), (.mv (.t s10))⟩
    (.one ⟨some s48, some (s45, true), (.bin false .eql (.t s46) (.t s47))⟩
    (.one ⟨some s49, none, (.pick (.t s45) (.t s48) (.c (.v (.bool false))))⟩
    (.one ⟨some s50, none, (.mv (.t s49))⟩
    (.one ⟨some s51, some (s50, true), (.load (some 3) (.t s6))⟩
    (.both (.one ⟨some s52, some (s50, true), (.call 28 [(.t s51)])⟩
    (.one ⟨some s53, some (s50, true), (.load (some 3) (.t s9))⟩
    (.one ⟨some s54, some (s50, true), (.call 27 [(.t s52), (.t s53)])⟩
    (.one ⟨some s55, none, (.pick (.t s50) (.t s54) (.c (.v (.bool false))))⟩
    (.one ⟨some s4, none, (.mv (.t s55))⟩
    .done))))) (.one ⟨some s53, some (s50, true), (.load (some 3) (.t s9))⟩
    (.one ⟨some s52, some (s50, true), (.call 28 [(.t s51)])⟩
    (.one ⟨some s54, some (s50, true), (.call 27 [(.t s52), (.t s53)])⟩
    (.one ⟨some s55, none, (.pick (.t s50) (.t s54) (.c (.v (.bool false))))⟩
    (.one ⟨some s4, none, (.mv (.t s55))⟩
    .done)))))))))))))))
  .ret)))))))⟩
theorem ok7 : compF Try.prog c7 Try.f7 = some ir7 := by kernel_rfl
theorem k_bowlinelaw09_UmdReads {args : List AVal} {σ : AHeap} {Q : AVal → AHeap → Prop} (hl : Nat.ble args.length 56 = true) (h : argsK (Env.full 9) 0 args fun env => evC Try.prog c7 ir7.body env σ (retQ ir7 Q)) : ACalls Try.prog 7 args σ Q :=
  acalls_of Try.func7 ok7 rfl (Nat.le_of_ble_eq_true hl) h
/- bowlinelaw09.UmdReads -/
def c7m : Cfg := ⟨[], [39], 56, [], []⟩
def ir7m : IFun := ⟨2, [.tmp s4],
  (.seq (.reg (.one ⟨some s4, none, (.mv (.c (.v (.bool false))))⟩
    .done))
  (.seq (.seq (.reg (.one ⟨some s11, none, (.mv (.t s0))⟩
    (.one ⟨some s12, none, (.len false (.t s11))⟩
    (.one ⟨some s13, none, (.bin false .gtr (.t s12) (.c (.v (.int .i64 4100))))⟩
    .done))))
  (.cond (.t s13) (.seq (.reg (.one ⟨some s14, none, (.call 24 [])⟩
    (.one ⟨some s4, none, (.mv (.t s14))⟩
    .done)))
  .ret) .skip))
  (.seq (.reg (.one ⟨some s15, none, (.row 1 [])⟩
    (.one ⟨some s16, none, (.mv (.t s0))⟩
    (.one ⟨some s17, none, (.appm 1 1 (.t s15) (.t s16))⟩
    (.one ⟨some s5, none, (.mv (.t s17))⟩
    .done)))))
  (.seq (.reg (.one ⟨some s19, none, (.mv (.t s5))⟩
    (.one ⟨some s20, none, (.mv (.t s1))⟩
    (.one ⟨some s21, none, (.call 25 [(.t s19), (.t s20)])⟩
    (.one ⟨some s18, none, (.mv (.t s21))⟩
    (.one ⟨some s22, none, (.ext (.t s18) 0)⟩
    (.one ⟨some s23, none, (.ext (.t s18) 1)⟩
    (.one ⟨some s6, none, (.new [(.v (.int .i64 0)), (.v (.int .i64 0)), (.slice 1 [] .full)])⟩
    (.one ⟨none, none, (.store 3 (.t s6) (.t s22))⟩
    (.one ⟨some s7, none, (.mv (.t s23))⟩
    .done))))))))))
  (.seq (.seq (.reg (.one ⟨some s8, none, (.mv (.c (.v (.int .i64 0))))⟩
    .done))
  (.block 0 (.loop (.seq (.seq (.reg (.one ⟨some s24, none, (.mv (.t s8))⟩
    (.one ⟨some s25, none, (.mv (.t s5))⟩
    (.one ⟨some s26, none, (.len false (.t s25))⟩
    (.one ⟨some s27, none, (.bin false .lss (.t s24) (.t s26))⟩
    .done)))))
  (.cond (.t s27) .skip (.exit 0)))
  (.seq (.block 1 (.reg (.one ⟨some s30, none, (.mv (.t s5))⟩
    (.one ⟨some s31, none, (.mv (.t s8))⟩
    (.one ⟨some s32, none, (.mv (.t s5))⟩
    (.one ⟨some s33, none, (.mv (.t s8))⟩
    (.one ⟨some s34, none, (.iaddr 1 (.t s32) (.t s33))⟩
    (.one ⟨some s35, none, (.load none (.t s34))⟩
    (.one ⟨some s36, none, (.bin false .xor (.t s35) (.c (.v (.int .u8 255))))⟩
    (.one ⟨some s37, none, (.iaddr 1 (.t s30) (.t s31))⟩
    (.one ⟨none, none, (.store 1 (.t s37) (.t s36))⟩
    .done)))))))))))
  (.reg (.one ⟨some s28, none, (.mv (.t s8))⟩
    (.one ⟨some s29, none, (.bin false .add (.t s28) (.c (.v (.int .i64 1))))⟩
    (.one ⟨some s8, none, (.mv (.t s29))⟩
    .done)))))))))
  (.seq (.reg (.one ⟨some s39, none, (.mv (.t s0))⟩
    (.one ⟨some s40, none, (.mv (.t s1))⟩
    (.one ⟨some s41, none, (.call 26 [(.t s39), (.t s40)])⟩
    (.one ⟨some s38, none, (.mv (.t s41))⟩
    (.one ⟨some s42, none, (.ext (.t s38) 0)⟩
    (.one ⟨some s43, none, (.ext (.t s38) 1)⟩
    (.one ⟨some s9, none, (.new [(.v (.int .i64 0)), (.v (.int .i64 0)), (.slice 1 [] .full)])⟩
    (.one ⟨none, none, (.store 3 (.t s9) (.t s42))⟩
    (.one ⟨some s10, none, (.mv (.t s43))⟩
    .done))))))))))
  (.seq (.reg (.one ⟨some s44, none, (.call 24 [])⟩
    (.one ⟨some s45, none, (.mv (.t s44))⟩
    (.one ⟨some s46, some (s45, true), (.mv (.t s7))⟩
    (.one ⟨some s47, some (s45, true), (.mv (.t s10))⟩
    (.one ⟨some s48, some (s45, true), (.bin false .eql (.t s46) (.t s47))⟩
    (.one ⟨some s49, none, (.pick (.t s45) (.t s48) (.c (.v (.bool false))))⟩
    (.one ⟨some s50, none, (.mv (.t s49))⟩
    (.one ⟨some s51, some (s50, true), (.load (some 3) (.t s6))⟩
    (.both (.one ⟨some s52, some (s50, true), (.call 28 [(.t s51)])⟩
    (.one ⟨some s53, some (s50, true), (.load (some 3) (.t s9))⟩
    (.one ⟨some s54, some (s50, true), (.call 27 [(.t s52), (.t s53)])⟩
    (.one ⟨some s55, none, (.pick (.t s50) (.t s54) (.c (.v (.bool false))))⟩
    (.one ⟨some s4, none, (.mv (.t s55))⟩
    .done))))) (.one ⟨some s53, some (s50, true), (.load (some 3) (.t s9))⟩
    (.one ⟨some s52, some (s50, true), (.call 28 [(.t s51)])⟩
    (.one ⟨some s54, some (s50, true), (.call 27 [(.t s52), (.t s53)])⟩
    (.one ⟨some s55, none, (.pick (.t s50) (.t s54) (.c (.v (.bool false))))⟩
    (.one ⟨some s4, none, (.mv (.t s55))⟩
    .done)))))))))))))))
  .ret)))))))⟩
theorem ok7m : compF Try.prog c7m Try.f7 = some ir7m := by kernel_rfl
theorem km_bowlinelaw09_UmdReads {args : List AVal} {σ : AHeap} {Q : AVal → AHeap → Prop} (hl : Nat.ble args.length 56 = true) (h : argsK (Env.full 9) 0 args fun env => evC Try.prog c7m ir7m.body env σ (retQ ir7m Q)) : ACalls Try.prog 7 args σ Q :=
  acalls_of Try.func7 ok7m rfl (Nat.le_of_ble_eq_true hl) h
/- bowlinelaw09.Great -/
def c8 : Cfg := ⟨qs, [], 31, [], ps⟩
def ir8 : IFun := ⟨1, [.tmp s2],
  (.seq (.reg (.one ⟨some s2, none, (.mv (.c (.v (.bool false))))⟩
    .done))
  (.seq (.reg (.one ⟨some s3, none, (.mv (.c (.v (.int .i64 0))))⟩
    .done))
  (.seq (.seq (.reg (.one ⟨some s4, none, (.mv (.c (.v (.int .i64 0))))⟩
    .done))
  (.block 0 (.loop (.seq (.seq (.reg (.one ⟨some s5, none, (.mv (.t s4))⟩
    (.one ⟨some s6, none, (.mv (.t s0))⟩
    (.one ⟨some s7, none, (.len false (.t s6))⟩
    (.one ⟨some s8, none, (.bin false .lss (.t s5) (.t s7))⟩
    .done)))))
  (.cond (.t s8) .skip (.exit 0)))
  (.seq (.block 1 (.seq (.seq (.reg (.one ⟨some s11, none, (.mv (.t s0))⟩
    (.one ⟨some s12, none, (.len false (.t s11))⟩
    (.one ⟨some s13, none, (.bin false .gtr (.t s12) (.c (.v (.int .i64 40))))⟩
    (.one ⟨some s14, none, (.mv (.t s13))⟩
    (.one ⟨some s15, some (s14, false), (.mv (.t s0))⟩
    (.one ⟨some s16, some (s14, false), (.mv (.t s4))⟩
    (.one ⟨some s17, some (s14, false), (.iaddr 1 (.t s15) (.t s16))⟩
    (.one ⟨some s18, some (s14, false), (.load none (.t s17))⟩
    (.one ⟨some s19, some (s14, false), (.len false (.t s18))⟩
    (.one ⟨some s20, some (s14, false), (.bin false .gtr (.t s19) (.c (.v (.int .i64 4200))))⟩
    (.one ⟨some s21, none, (.pick (.t s14) (.c (.v (.bool true))) (.t s20))⟩
    .done))))))))))))
  (.cond (.t s21) (.seq (.reg (.one ⟨some s2, none, (.mv (.c (.v (.bool true))))⟩
    .done))
  .ret) .skip))
  (.reg (.one ⟨some s22, none, (.mv (.t s3))⟩
    (.one ⟨some s23, none, (.mv (.t s0))⟩
    (.one ⟨some s24, none, (.mv (.t s4))⟩
    (.one ⟨some s25, none, (.iaddr 1 (.t s23) (.t s24))⟩
    (.one ⟨some s26, none, (.load none (.t s25))⟩
    (.one ⟨some s27, none, (.len false (.t s26))⟩
    (.one ⟨some s28, none, (.bin false .add (.t s22) (.t s27))⟩
    (.one ⟨some s3, none, (.mv (.t s28))⟩
    .done)))))))))))
  (.reg (.one ⟨some s9, none, (.mv (.t s4))⟩
    (.one ⟨some s10, none, (.bin false .add (.t s9) (.c (.v (.int .i64 1))))⟩
    (.one ⟨some s4, none, (.mv (.t s10))⟩
    .done)))))))))
  (.seq (.reg (.one ⟨some s29, none, (.mv (.t s3))⟩
    (.one ⟨some s30, none, (.bin false .gtr (.t s29) (.c (.v (.int .i64 9000))))⟩
    (.one ⟨some s2, none, (.mv (.t s30))⟩
    .done))))
  .ret))))⟩
theorem ok8 : compF Try.prog c8 Try.f8 = some ir8 := by kernel_rfl
theorem k_bowlinelaw09_Great {args : List AVal} {σ : AHeap} {Q : AVal → AHeap → Prop} (hl : Nat.ble args.length 31 = true) (h : argsK (Env.full 9) 0 args fun env => evC Try.prog c8 ir8.body env σ (retQ ir8 Q)) : ACalls Try.prog 8 args σ Q :=
  acalls_of Try.func8 ok8 rfl (Nat.le_of_ble_eq_true hl) h
/- bowlinelaw09.alive -/
def c24 : Cfg := ⟨qs, [], 87, [], ps⟩
def ir24 : IFun := ⟨0, [.tmp s0],
  (.seq (.reg (.one ⟨some s0, none, (.mv (.c (.v (.bool false))))⟩
    .done))
  (.seq (.reg (.one ⟨some s12, none, (.row 1 [(.c (.v (.int .u8 65)))])⟩
    (.one ⟨some s13, none, (.row 1 [(.t s12)])⟩
    (.one ⟨some s14, none, (.build [(.v (.int .i64 0)), (.v (.int .i64 0)), (.slice 1 [] .full)] [(1, 1, (.c (.v (.int .i64 3)))), (2, 1, (.t s13))])⟩
    (.one ⟨some s15, none, (.callq 49 [(.t s14), (.c (.v (.int .i64 5)))])⟩
    (.one ⟨some s11, none, (.mv (.t s15))⟩
    (.one ⟨some s16, none, (.ext (.t s11) 0)⟩
    (.one ⟨some s17, none, (.ext (.t s11) 1)⟩
    (.one ⟨some s1, none, (.mv (.t s16))⟩
    (.one ⟨some s2, none, (.mv (.t s17))⟩
    .done))))))))))
  (.seq (.reg (.one ⟨some s19, none, (.row 1 [(.c (.v (.int .u8 1))), (.c (.v (.int .u8 2)))])⟩
    (.one ⟨some s20, none, (.row 1 [(.c (.v (.int .u8 3)))])⟩
    (.one ⟨some s21, none, (.row 1 [(.t s19), (.t s20)])⟩
    (.one ⟨some s22, none, (.build [(.v (.int .i64 0)), (.v (.int .i64 0)), (.slice 1 [] .full)] [(0, 1, (.c (.v (.int .i64 3)))), (1, 1, (.c (.v (.int .i64 700)))), (2, 1, (.t s21))])⟩
    (.one ⟨some s23, none, (.callq 49 [(.t s22), (.c (.v (.int .i64 10)))])⟩
    (.one ⟨some s18, none, (.mv (.t s23))⟩
    (.one ⟨some s24, none, (.ext (.t s18) 0)⟩
    (.one ⟨some s25, none, (.ext (.t s18) 1)⟩
    (.one ⟨some s3, none, (.mv (.t s24))⟩
    (.one ⟨some s4, none, (.mv (.t s25))⟩
    .done)))))))))))
  (.seq (.reg (.one ⟨some s27, none, (.mv (.t s3))⟩
    (.one ⟨some s28, none, (.callq 25 [(.t s27), (.c (.v (.int .i64 10)))])⟩
    (.one ⟨some s26, none, (.mv (.t s28))⟩
    (.one ⟨some s29, none, (.ext (.t s26) 0)⟩
    (.one ⟨some s30, none, (.ext (.t s26) 1)⟩
    (.one ⟨some s5, none, (.new [(.v (.int .i64 0)), (.v (.int .i64 0)), (.slice 1 [] .full)])⟩
    (.one ⟨none, none, (.store 3 (.t s5) (.t s29))⟩
    (.one ⟨some s6, none, (.mv (.t s30))⟩
    .done)))))))))
  (.seq (.reg (.one ⟨some s32, none, (.row 1 [(.c (.v (.int .u8 3)))])⟩
    (.one ⟨some s33, none, (.callq 25 [(.t s32), (.c (.v (.int .i64 5)))])⟩
    (.one ⟨some s31, none, (.mv (.t s33))⟩
    (.one ⟨some s34, none, (.ext (.t s31) 0)⟩
    (.one ⟨some s35, none, (.ext (.t s31) 1)⟩
    (.one ⟨some s7, none, (.new [(.v (.int .i64 0)), (.v (.int .i64 0)), (.slice 1 [] .full)])⟩
    (.one ⟨none, none, (.store 3 (.t s7) (.t s34))⟩
    (.one ⟨some s8, none, (.mv (.t s35))⟩
    .done)))))))))
  (.seq (.reg (.one ⟨some s37, none, (.row 1 [(.c (.v (.int .u8 1)))])⟩
    (.one ⟨some s38, none, (.row 1 [(.t s37)])⟩
    (.one ⟨some s39, none, (.build [(.v (.int .i64 0)), (.v (.int .i64 0)), (.slice 1 [] .full)] [(1, 1, (.c (.v (.int .i64 32)))), (2, 1, (.t s38))])⟩
    (.one ⟨some s40, none, (.callq 49 [(.t s39), (.c (.v (.int .i64 5)))])⟩
    (.one ⟨some s36, none, (.mv (.t s40))⟩
    (.one ⟨some s41, none, (.ext (.t s36) 0)⟩
    (.one ⟨some s42, none, (.ext (.t s36) 1)⟩
    (.one ⟨some s9, none, (.mv (.t s41))⟩
    (.one ⟨some s10, none, (.mv (.t s42))⟩
    .done))))))))))
  (.seq (.reg (.one ⟨some s43, none, (.mv (.t s1))⟩
    (.one ⟨some s44, none, (.b2s (.t s43))⟩
    (.one ⟨some s45, none, (.bin false .eql (.t s44) (.c (.v (.string ⟨#[3, 65]⟩))))⟩
    (.one ⟨some s46, none, (.mv (.t s45))⟩
    (.one ⟨some s47, some (s46, true), (.mv (.t s2))⟩
    (.one ⟨some s48, some (s46, true), (.bin false .eql (.t s47) (.c (.v (.int .i64 0))))⟩
    (.one ⟨some s49, none, (.pick (.t s46) (.t s48) (.c (.v (.bool false))))⟩
    (.one ⟨some s50, none, (.mv (.t s49))⟩
    (.one ⟨some s51, some (s50, true), (.mv (.t s3))⟩
    (.one ⟨some s52, some (s50, true), (.b2s (.t s51))⟩
    (.one ⟨some s53, some (s50, true), (.bin false .eql (.t s52) (.c (.v (.string ⟨#[30, 188, 0, 32, 1, 2, 3]⟩))))⟩
    (.one ⟨some s54, none, (.pick (.t s50) (.t s53) (.c (.v (.bool false))))⟩
    (.one ⟨some s55, none, (.mv (.t s54))⟩
    (.one ⟨some s56, some (s55, true), (.mv (.t s4))⟩
    (.one ⟨some s57, some (s55, true), (.bin false .eql (.t s56) (.c (.v (.int .i64 0))))⟩
    (.one ⟨some s58, none, (.pick (.t s55) (.t s57) (.c (.v (.bool false))))⟩
    (.one ⟨some s59, none, (.mv (.t s58))⟩
    (.one ⟨some s60, some (s59, true), (.mv (.t s6))⟩
    (.one ⟨some s61, some (s59, true), (.bin false .eql (.t s60) (.c (.v (.int .i64 0))))⟩
    (.one ⟨some s62, none, (.pick (.t s59) (.t s61) (.c (.v (.bool false))))⟩
    (.one ⟨some s63, none, (.mv (.t s62))⟩
    (.one ⟨some s64, some (s63, true), (.faddr 1 (.t s5))⟩
    (.one ⟨some s65, some (s63, true), (.load none (.t s64))⟩
    (.one ⟨some s66, some (s63, true), (.bin false .eql (.t s65) (.c (.v (.int .i64 700))))⟩
    (.one ⟨some s67, none, (.pick (.t s63) (.t s66) (.c (.v (.bool false))))⟩
    (.one ⟨some s68, none, (.mv (.t s67))⟩
    (.one ⟨some s69, some (s68, true), (.faddr 0 (.t s5))⟩
    (.one ⟨some s70, some (s68, true), (.load none (.t s69))⟩
    (.one ⟨some s71, some (s68, true), (.bin false .eql (.t s70) (.c (.v (.int .i64 3))))⟩
    (.one ⟨some s72, none, (.pick (.t s68) (.t s71) (.c (.v (.bool false))))⟩
    (.one ⟨some s73, none, (.mv (.t s72))⟩
    (.one ⟨some s74, some (s73, true), (.faddr 2 (.t s5))⟩
    (.one ⟨some s75, some (s73, true), (.load none (.t s74))⟩
    (.one ⟨some s76, some (s73, true), (.len false (.t s75))⟩
    (.one ⟨some s77, some (s73, true), (.bin false .eql (.t s76) (.c (.v (.int .i64 2))))⟩
    (.one ⟨some s78, none, (.pick (.t s73) (.t s77) (.c (.v (.bool false))))⟩
    (.one ⟨some s79, none, (.mv (.t s78))⟩
    (.one ⟨some s80, some (s79, true), (.mv (.t s8))⟩
    (.one ⟨some s81, some (s79, true), (.bin false .eql (.t s80) (.c (.v (.int .i64 8))))⟩
    (.one ⟨some s82, none, (.pick (.t s79) (.t s81) (.c (.v (.bool false))))⟩
    (.one ⟨some s83, none, (.mv (.t s82))⟩
    (.one ⟨some s84, some (s83, true), (.mv (.t s10))⟩
    (.one ⟨some s85, some (s83, true), (.bin false .eql (.t s84) (.c (.v (.int .i64 3))))⟩
    (.one ⟨some s86, none, (.pick (.t s83) (.t s85) (.c (.v (.bool false))))⟩
    (.one ⟨some s0, none, (.mv (.t s86))⟩
    .done))))))))))))))))))))))))))))))))))))))))))))))
  .ret)))))))⟩
theorem ok24 : compF Try.prog c24 Try.f24 = some ir24 := by kernel_rfl
theorem k_bowlinelaw09_alive {args : List AVal} {σ : AHeap} {Q : AVal → AHeap → Prop} (hl : Nat.ble args.length 87 = true) (h : argsK (Env.full 9) 0 args fun env => evC Try.prog c24 ir24.body env σ (retQ ir24 Q)) : ACalls Try.prog 24 args σ Q :=
  acalls_of Try.func24 ok24 rfl (Nat.le_of_ble_eq_true hl) h
/- bowlinelaw09.as -/
def c28 : Cfg := ⟨qs, [], 10, [], ps⟩
def ir28 : IFun := ⟨1, [.cell s2 (some 3)],
  (.seq (.reg (.one ⟨some s1, none, (.box 3 (.t s0))⟩
    (.one ⟨some s2, none, (.new [(.v (.int .i64 0)), (.v (.int .i64 0)), (.slice 1 [] .full)])⟩
    .done)))
  (.seq (.reg (.one ⟨some s3, none, (.faddr 0 (.t s1))⟩
    (.one ⟨some s4, none, (.load none (.t s3))⟩
    (.one ⟨some s5, none, (.faddr 1 (.t s1))⟩
    (.one ⟨some s6, none, (.load none (.t s5))⟩
    (.one ⟨some s7, none, (.faddr 2 (.t s1))⟩
    (.one ⟨some s8, none, (.load none (.t s7))⟩
    (.one ⟨some s9, none, (.build [(.v (.int .i64 0)), (.v (.int .i64 0)), (.slice 1 [] .full)] [(0, 1, (.t s4)), (1, 1, (.t s6)), (2, 1, (.t s8))])⟩
    (.one ⟨none, none, (.store 3 (.t s2) (.t s9))⟩
    .done)))))))))
  .ret))⟩
theorem ok28 : compF Try.prog c28 Try.f28 = some ir28 := by kernel_rfl
theorem k_bowlinelaw09_as {args : List AVal} {σ : AHeap} {Q : AVal → AHeap → Prop} (hl : Nat.ble args.length 10 = true) (h : argsK (Env.full 9) 0 args fun env => evC Try.prog c28 ir28.body env σ (retQ ir28 Q)) : ACalls Try.prog 28 args σ Q :=
  acalls_of Try.func28 ok28 rfl (Nat.le_of_ble_eq_true hl) h
end Go.Proofs.Ytgipkpghabelkaa
