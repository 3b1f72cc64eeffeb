/-
  Texts of this claim, pack 3: Irslices, Irlens, Irspans, Irseqnum, Irref02, Iramd, Irrxbuf, Irlaw09, Irlaw24, Irref09, Irref08, Irref10, Irreseg, Irlaw10.
-/
import Derived.Test.YtgobbmdbkmjlnaaK2
/-
  The bodies of one package, compiled to the framework's language (printed by a program of this session).
-/
namespace Go.Proofs.Ytgobbmdbkmjlnaa
set_option linter.unusedVariables false
set_option linter.unusedSimpArgs false
open Go Go.Am
/- slices.Clone[[]byte,byte] -/
def c54 : Cfg := ⟨qs, [], 8, [], ps⟩
def ir54 : IFun := ⟨1, [.tmp s2],
  (.seq (.reg (.one ⟨some s2, none, (.mv (.c (.slice 1 [] .full)))⟩
    .done))
  (.seq (.seq (.reg (.one ⟨some s3, none, (.mv (.t s0))⟩
    (.one ⟨some s4, none, (.eqNil 0 false (.t s3))⟩
    .done)))
  (.cond (.t s4) (.seq (.reg (.one ⟨some s2, none, (.mv (.c (.slice 1 [] .full)))⟩
    .done))
  .ret) .skip))
  (.seq (.reg (.one ⟨some s5, none, (.row 1 [])⟩
    (.one ⟨some s6, none, (.mv (.t s0))⟩
    (.one ⟨some s7, none, (.app 1 1 (.t s5) (.t s6))⟩
    (.one ⟨some s2, none, (.mv (.t s7))⟩
    .done)))))
  .ret)))⟩
theorem ok54 : compF Try.prog c54 Try.f54 = some ir54 := by kernel_rfl
theorem k_slices_Clone_byte_byte {args : List AVal} {σ : AHeap} {Q : AVal → AHeap → Prop} (hl : Nat.ble args.length 8 = true) (h : argsK (Env.full 9) 0 args fun env => evC Try.prog c54 ir54.body env σ (retQ ir54 Q)) : ACalls Try.prog 54 args σ Q :=
  acalls_of Try.func54 ok54 rfl (Nat.le_of_ble_eq_true hl) h
/- slices.Clone[[]byte,byte] -/
def c54m : Cfg := ⟨qs, [22, 25, 36, 42, 51, 54, 58, 64, 77, 79, 91], 8, [], ps⟩
def ir54m : IFun := ⟨1, [.tmp s2],
  (.seq (.reg (.one ⟨some s2, none, (.mv (.c (.slice 1 [] .full)))⟩
    .done))
  (.seq (.seq (.reg (.one ⟨some s3, none, (.mv (.t s0))⟩
    (.one ⟨some s4, none, (.eqNil 0 false (.t s3))⟩
    .done)))
  (.cond (.t s4) (.seq (.reg (.one ⟨some s2, none, (.mv (.c (.slice 1 [] .full)))⟩
    .done))
  .ret) .skip))
  (.seq (.reg (.one ⟨some s5, none, (.row 1 [])⟩
    (.one ⟨some s6, none, (.mv (.t s0))⟩
    (.one ⟨some s7, none, (.appm 1 1 (.t s5) (.t s6))⟩
    (.one ⟨some s2, none, (.mv (.t s7))⟩
    .done)))))
  .ret)))⟩
theorem ok54m : compF Try.prog c54m Try.f54 = some ir54m := by kernel_rfl
theorem km_slices_Clone_byte_byte {args : List AVal} {σ : AHeap} {Q : AVal → AHeap → Prop} (hl : Nat.ble args.length 8 = true) (h : argsK (Env.full 9) 0 args fun env => evC Try.prog c54m ir54m.body env σ (retQ ir54m Q)) : ACalls Try.prog 54 args σ Q :=
  acalls_of Try.func54 ok54m rfl (Nat.le_of_ble_eq_true hl) h
/- slices.ContainsFunc[[][]byte,[]byte] -/
def c97 : Cfg := ⟨qs, [], 9, [], ps⟩
def ir97 : IFun := ⟨2, [.tmp s4],
  (.seq (.reg (.one ⟨some s4, none, (.mv (.c (.v (.bool false))))⟩
    .done))
  (.seq (.reg (.one ⟨some s5, none, (.mv (.t s0))⟩
    (.one ⟨some s6, none, (.mv (.t s1))⟩
    (.one ⟨some s7, none, (.callq 121 [(.t s5), (.t s6)])⟩
    (.one ⟨some s8, none, (.bin false .geq (.t s7) (.c (.v (.int .i64 0))))⟩
    (.one ⟨some s4, none, (.mv (.t s8))⟩
    .done))))))
  .ret))⟩
theorem ok97 : compF Try.prog c97 Try.f97 = some ir97 := by kernel_rfl
theorem k_slices_ContainsFunc_byte_byte {args : List AVal} {σ : AHeap} {Q : AVal → AHeap → Prop} (hl : Nat.ble args.length 9 = true) (h : argsK (Env.full 9) 0 args fun env => evC Try.prog c97 ir97.body env σ (retQ ir97 Q)) : ACalls Try.prog 97 args σ Q :=
  acalls_of Try.func97 ok97 rfl (Nat.le_of_ble_eq_true hl) h
/- slices.IndexFunc[[][]byte,[]byte] -/
def c121 : Cfg := ⟨qs, [], 19, [], ps⟩
def ir121 : IFun := ⟨2, [.tmp s4],
  (.seq (.reg (.one ⟨some s4, none, (.mv (.c (.v (.int .i64 0))))⟩
    .done))
  (.seq (.seq (.reg (.one ⟨some s6, none, (.mv (.t s0))⟩
    (.one ⟨some s7, none, (.len false (.t s6))⟩
    (.one ⟨some s8, none, (.mv (.c (.v (.int .i64 0))))⟩
    .done))))
  (.block 0 (.loop (.seq (.reg (.one ⟨some s9, none, (.bin false .lss (.t s8) (.t s7))⟩
    .done))
  (.seq (.cond (.t s9) .skip (.exit 0))
  (.seq (.block 1 (.seq (.reg (.one ⟨some s10, none, (.mv (.t s8))⟩
    (.one ⟨some s5, none, (.mv (.t s10))⟩
    .done)))
  (.seq (.reg (.one ⟨some s11, none, (.mv (.t s1))⟩
    (.one ⟨some s12, none, (.mv (.t s0))⟩
    (.one ⟨some s13, none, (.mv (.t s5))⟩
    (.one ⟨some s14, none, (.iaddr 1 (.t s12) (.t s13))⟩
    (.one ⟨some s15, none, (.load none (.t s14))⟩
    (.one ⟨some s16, none, (.callv (.t s11) [(.t s15)])⟩
    .done)))))))
  (.cond (.t s16) (.seq (.reg (.one ⟨some s17, none, (.mv (.t s5))⟩
    (.one ⟨some s4, none, (.mv (.t s17))⟩
    .done)))
  .ret) .skip))))
  (.reg (.one ⟨some s18, none, (.bin false .add (.t s8) (.c (.v (.int .i64 1))))⟩
    (.one ⟨some s8, none, (.mv (.t s18))⟩
    .done)))))))))
  (.seq (.reg (.one ⟨some s4, none, (.mv (.c (.v (.int .i64 (-1)))))⟩
    .done))
  .ret)))⟩
theorem ok121 : compF Try.prog c121 Try.f121 = some ir121 := by kernel_rfl
theorem k_slices_IndexFunc_byte_byte {args : List AVal} {σ : AHeap} {Q : AVal → AHeap → Prop} (hl : Nat.ble args.length 19 = true) (h : argsK (Env.full 9) 0 args fun env => evC Try.prog c121 ir121.body env σ (retQ ir121 Q)) : ACalls Try.prog 121 args σ Q :=
  acalls_of Try.func121 ok121 rfl (Nat.le_of_ble_eq_true hl) h
end Go.Proofs.Ytgobbmdbkmjlnaa
/-
  The bodies of one package, compiled to the framework's language (printed by a program of this session).
-/
namespace Go.Proofs.Ytgobbmdbkmjlnaa
set_option linter.unusedVariables false
set_option linter.unusedSimpArgs false
open Go Go.Am
/- lens.Size -/
def c94 : Cfg := ⟨qs, [], 23, [], ps⟩
def ir94 : IFun := ⟨2, [.tmp s4],
  (.seq (.reg (.one ⟨some s4, none, (.mv (.c (.v (.int .i64 0))))⟩
    .done))
  (.seq (.seq (.reg (.one ⟨some s5, none, (.mv (.t s1))⟩
    (.one ⟨some s6, none, (.callq 120 [(.t s5)])⟩
    (.one ⟨some s7, none, (.not (.t s6))⟩
    (.one ⟨some s8, none, (.mv (.t s7))⟩
    (.one ⟨some s9, some (s8, false), (.mv (.t s0))⟩
    (.one ⟨some s10, some (s8, false), (.bin false .lss (.t s9) (.c (.v (.int .i64 1))))⟩
    (.one ⟨some s11, none, (.pick (.t s8) (.c (.v (.bool true))) (.t s10))⟩
    (.one ⟨some s12, none, (.mv (.t s11))⟩
    (.one ⟨some s13, some (s12, false), (.mv (.t s0))⟩
    (.one ⟨some s14, some (s12, false), (.bin false .gtr (.t s13) (.c (.v (.int .i64 23))))⟩
    (.one ⟨some s15, none, (.pick (.t s12) (.c (.v (.bool true))) (.t s14))⟩
    .done))))))))))))
  (.cond (.t s15) (.seq (.reg (.one ⟨some s4, none, (.mv (.c (.v (.int .i64 0))))⟩
    .done))
  .ret) .skip))
  (.seq (.reg (.one ⟨some s16, none, (.mv (.t s0))⟩
    (.one ⟨some s17, none, (.mv (.t s1))⟩
    (.one ⟨some s18, none, (.bin false .add (.t s17) (.c (.v (.int .i64 1))))⟩
    (.one ⟨some s19, none, (.bin false .mul (.t s16) (.t s18))⟩
    (.one ⟨some s20, none, (.bin false .add (.t s19) (.c (.v (.int .i64 8))))⟩
    (.one ⟨some s21, none, (.bin false .sub (.t s20) (.c (.v (.int .i64 1))))⟩
    (.one ⟨some s22, none, (.bin false .quo (.t s21) (.c (.v (.int .i64 8))))⟩
    (.one ⟨some s4, none, (.mv (.t s22))⟩
    .done)))))))))
  .ret)))⟩
theorem ok94 : compF Try.prog c94 Try.f94 = some ir94 := by kernel_rfl
theorem k_lens_Size {args : List AVal} {σ : AHeap} {Q : AVal → AHeap → Prop} (hl : Nat.ble args.length 23 = true) (h : argsK (Env.full 9) 0 args fun env => evC Try.prog c94 ir94.body env σ (retQ ir94 Q)) : ACalls Try.prog 94 args σ Q :=
  acalls_of Try.func94 ok94 rfl (Nat.le_of_ble_eq_true hl) h
/- lens.isWidth -/
def c120 : Cfg := ⟨qs, [], 9, [], ps⟩
def ir120 : IFun := ⟨1, [.tmp s2],
  (.seq (.reg (.one ⟨some s2, none, (.mv (.c (.v (.bool false))))⟩
    .done))
  (.seq (.reg (.one ⟨some s3, none, (.mv (.t s0))⟩
    (.one ⟨some s4, none, (.bin false .eql (.t s3) (.c (.v (.int .i64 11))))⟩
    (.one ⟨some s5, none, (.mv (.t s4))⟩
    (.one ⟨some s6, some (s5, false), (.mv (.t s0))⟩
    (.one ⟨some s7, some (s5, false), (.bin false .eql (.t s6) (.c (.v (.int .i64 15))))⟩
    (.one ⟨some s8, none, (.pick (.t s5) (.c (.v (.bool true))) (.t s7))⟩
    (.one ⟨some s2, none, (.mv (.t s8))⟩
    .done))))))))
  .ret))⟩
theorem ok120 : compF Try.prog c120 Try.f120 = some ir120 := by kernel_rfl
theorem k_lens_isWidth {args : List AVal} {σ : AHeap} {Q : AVal → AHeap → Prop} (hl : Nat.ble args.length 9 = true) (h : argsK (Env.full 9) 0 args fun env => evC Try.prog c120 ir120.body env σ (retQ ir120 Q)) : ACalls Try.prog 120 args σ Q :=
  acalls_of Try.func120 ok120 rfl (Nat.le_of_ble_eq_true hl) h
end Go.Proofs.Ytgobbmdbkmjlnaa
/-
  The bodies of one package, compiled to the framework's language (printed by a program of this session).
-/
namespace Go.Proofs.Ytgobbmdbkmjlnaa
set_option linter.unusedVariables false
set_option linter.unusedSimpArgs false
open Go Go.Am
/- spans.Set).Count -/
def c55 : Cfg := ⟨qs, [], 26, [], ps⟩
def ir55 : IFun := ⟨1, [.tmp s2],
  (.seq (.reg (.one ⟨some s2, none, (.mv (.c (.v (.int .i64 0))))⟩
    .done))
  (.seq (.reg (.one ⟨some s3, none, (.mv (.c (.v (.int .i64 0))))⟩
    .done))
  (.seq (.seq (.reg (.one ⟨some s6, none, (.mv (.t s0))⟩
    (.one ⟨some s7, none, (.eqNil 1 true (.t s6))⟩
    .done)))
  (.cond (.t s7) (.seq (.reg (.one ⟨some s8, none, (.mv (.t s0))⟩
    (.one ⟨some s9, none, (.nilchk (.t s8))⟩
    (.one ⟨some s10, none, (.faddr 0 (.t s9))⟩
    (.one ⟨some s11, none, (.load none (.t s10))⟩
    (.one ⟨some s12, none, (.len false (.t s11))⟩
    (.one ⟨some s13, none, (.mv (.c (.v (.int .i64 0))))⟩
    .done)))))))
  (.block 0 (.loop (.seq (.reg (.one ⟨some s14, none, (.bin false .lss (.t s13) (.t s12))⟩
    .done))
  (.seq (.cond (.t s14) .skip (.exit 0))
  (.seq (.block 1 (.seq (.reg (.one ⟨some s15, none, (.iaddr 2 (.t s11) (.t s13))⟩
    (.one ⟨some s16, none, (.load (some 2) (.t s15))⟩
    (.one ⟨some s5, none, (.new [(.v (.int .i64 0)), (.v (.int .i64 0))])⟩
    (.one ⟨none, none, (.store 2 (.t s5) (.t s16))⟩
    .done)))))
  (.reg (.one ⟨some s17, none, (.mv (.t s3))⟩
    (.one ⟨some s18, none, (.faddr 1 (.t s5))⟩
    (.one ⟨some s19, none, (.load none (.t s18))⟩
    (.one ⟨some s20, none, (.faddr 0 (.t s5))⟩
    (.one ⟨some s21, none, (.load none (.t s20))⟩
    (.one ⟨some s22, none, (.bin false .sub (.t s19) (.t s21))⟩
    (.one ⟨some s23, none, (.bin false .add (.t s17) (.t s22))⟩
    (.one ⟨some s3, none, (.mv (.t s23))⟩
    .done)))))))))))
  (.reg (.one ⟨some s24, none, (.bin false .add (.t s13) (.c (.v (.int .i64 1))))⟩
    (.one ⟨some s13, none, (.mv (.t s24))⟩
    .done))))))))) .skip))
  (.seq (.reg (.one ⟨some s25, none, (.mv (.t s3))⟩
    (.one ⟨some s2, none, (.mv (.t s25))⟩
    .done)))
  .ret))))⟩
theorem ok55 : compF Try.prog c55 Try.f55 = some ir55 := by kernel_rfl
theorem k_spans_Set_Count {args : List AVal} {σ : AHeap} {Q : AVal → AHeap → Prop} (hl : Nat.ble args.length 26 = true) (h : argsK (Env.full 9) 0 args fun env => evC Try.prog c55 ir55.body env σ (retQ ir55 Q)) : ACalls Try.prog 55 args σ Q :=
  acalls_of Try.func55 ok55 rfl (Nat.le_of_ble_eq_true hl) h
/- spans.Set).Gaps -/
def c56 : Cfg := ⟨qs, [], 59, [], ps⟩
def ir56 : IFun := ⟨2, [.tmp s4],
  (.seq (.reg (.one ⟨some s4, none, (.mv (.c (.slice 2 [] .full)))⟩
    .done))
  (.seq (.seq (.reg (.one ⟨some s9, none, (.mv (.t s0))⟩
    (.one ⟨some s10, none, (.eqNil 1 false (.t s9))⟩
    (.one ⟨some s11, none, (.mv (.t s10))⟩
    (.one ⟨some s12, some (s11, false), (.mv (.t s1))⟩
    (.one ⟨some s13, some (s11, false), (.bin false .lss (.t s12) (.c (.v (.int .i64 1))))⟩
    (.one ⟨some s14, none, (.pick (.t s11) (.c (.v (.bool true))) (.t s13))⟩
    (.one ⟨some s15, none, (.mv (.t s14))⟩
    (.one ⟨some s16, some (s15, false), (.mv (.t s1))⟩
    (.one ⟨some s17, some (s15, false), (.bin false .gtr (.t s16) (.c (.v (.int .i64 65536))))⟩
    (.one ⟨some s18, none, (.pick (.t s15) (.c (.v (.bool true))) (.t s17))⟩
    .done)))))))))))
  (.cond (.t s18) (.seq (.reg (.one ⟨some s4, none, (.mv (.c (.slice 2 [] .full)))⟩
    .done))
  .ret) .skip))
  (.seq (.reg (.one ⟨some s5, none, (.mv (.c (.slice 2 [] .full)))⟩
    .done))
  (.seq (.reg (.one ⟨some s6, none, (.mv (.c (.v (.int .i64 0))))⟩
    .done))
  (.seq (.seq (.reg (.one ⟨some s19, none, (.mv (.t s0))⟩
    (.one ⟨some s20, none, (.nilchk (.t s19))⟩
    (.one ⟨some s21, none, (.faddr 0 (.t s20))⟩
    (.one ⟨some s22, none, (.load none (.t s21))⟩
    (.one ⟨some s23, none, (.len false (.t s22))⟩
    (.one ⟨some s24, none, (.mv (.c (.v (.int .i64 0))))⟩
    .done)))))))
  (.block 0 (.loop (.seq (.reg (.one ⟨some s25, none, (.bin false .lss (.t s24) (.t s23))⟩
    .done))
  (.seq (.cond (.t s25) .skip (.exit 0))
  (.seq (.block 1 (.seq (.reg (.one ⟨some s26, none, (.iaddr 2 (.t s22) (.t s24))⟩
    (.one ⟨some s27, none, (.load (some 2) (.t s26))⟩
    (.one ⟨some s8, none, (.new [(.v (.int .i64 0)), (.v (.int .i64 0))])⟩
    (.one ⟨none, none, (.store 2 (.t s8) (.t s27))⟩
    .done)))))
  (.seq (.seq (.reg (.one ⟨some s28, none, (.faddr 0 (.t s8))⟩
    (.one ⟨some s29, none, (.load none (.t s28))⟩
    (.one ⟨some s30, none, (.mv (.t s6))⟩
    (.one ⟨some s31, none, (.bin false .gtr (.t s29) (.t s30))⟩
    (.one ⟨some s32, none, (.mv (.t s31))⟩
    (.one ⟨some s33, some (s32, true), (.mv (.t s6))⟩
    (.one ⟨some s34, some (s32, true), (.mv (.t s1))⟩
    (.one ⟨some s35, some (s32, true), (.bin false .lss (.t s33) (.t s34))⟩
    (.one ⟨some s36, none, (.pick (.t s32) (.t s35) (.c (.v (.bool false))))⟩
    .done))))))))))
  (.cond (.t s36) (.reg (.one ⟨some s37, none, (.mv (.t s5))⟩
    (.one ⟨some s38, none, (.mv (.t s6))⟩
    (.one ⟨some s39, none, (.faddr 0 (.t s8))⟩
    (.one ⟨some s40, none, (.load none (.t s39))⟩
    (.one ⟨some s41, none, (.mv (.t s1))⟩
    (.one ⟨some s42, none, (.mxmn false (.t s40) (.t s41))⟩
    (.one ⟨some s43, none, (.build [(.v (.int .i64 0)), (.v (.int .i64 0))] [(0, 1, (.t s38)), (1, 1, (.t s42))])⟩
    (.one ⟨some s44, none, (.row 2 [(.t s43)])⟩
    (.one ⟨some s45, none, (.app 2 16 (.t s37) (.t s44))⟩
    (.one ⟨some s5, none, (.mv (.t s45))⟩
    .done))))))))))) .skip))
  (.reg (.one ⟨some s46, none, (.faddr 1 (.t s8))⟩
    (.one ⟨some s47, none, (.load none (.t s46))⟩
    (.one ⟨some s6, none, (.mv (.t s47))⟩
    .done)))))))
  (.reg (.one ⟨some s48, none, (.bin false .add (.t s24) (.c (.v (.int .i64 1))))⟩
    (.one ⟨some s24, none, (.mv (.t s48))⟩
    .done)))))))))
  (.seq (.seq (.reg (.one ⟨some s49, none, (.mv (.t s6))⟩
    (.one ⟨some s50, none, (.mv (.t s1))⟩
    (.one ⟨some s51, none, (.bin false .lss (.t s49) (.t s50))⟩
    .done))))
  (.cond (.t s51) (.reg (.one ⟨some s52, none, (.mv (.t s5))⟩
    (.one ⟨some s53, none, (.mv (.t s6))⟩
    (.one ⟨some s54, none, (.mv (.t s1))⟩
    (.one ⟨some s55, none, (.build [(.v (.int .i64 0)), (.v (.int .i64 0))] [(0, 1, (.t s53)), (1, 1, (.t s54))])⟩
    (.one ⟨some s56, none, (.row 2 [(.t s55)])⟩
    (.one ⟨some s57, none, (.app 2 16 (.t s52) (.t s56))⟩
    (.one ⟨some s5, none, (.mv (.t s57))⟩
    .done)))))))) .skip))
  (.seq (.reg (.one ⟨some s58, none, (.mv (.t s5))⟩
    (.one ⟨some s4, none, (.mv (.t s58))⟩
    .done)))
  .ret)))))))⟩
theorem ok56 : compF Try.prog c56 Try.f56 = some ir56 := by kernel_rfl
theorem k_spans_Set_Gaps {args : List AVal} {σ : AHeap} {Q : AVal → AHeap → Prop} (hl : Nat.ble args.length 59 = true) (h : argsK (Env.full 9) 0 args fun env => evC Try.prog c56 ir56.body env σ (retQ ir56 Q)) : ACalls Try.prog 56 args σ Q :=
  acalls_of Try.func56 ok56 rfl (Nat.le_of_ble_eq_true hl) h
/- spans.New -/
def c60 : Cfg := ⟨qs, [], 24, [], ps⟩
def ir60 : IFun := ⟨1, [.tmp s2, .tmp s3],
  (.seq (.reg (.one ⟨some s2, none, (.mv (.c (.v (.pointer none))))⟩
    (.one ⟨some s3, none, (.mv (.c (.v (.int .i64 0))))⟩
    .done)))
  (.seq (.reg (.one ⟨some s8, none, (.build [(.slice 2 [] .full)] [])⟩
    (.one ⟨some s9, none, (.box 1 (.t s8))⟩
    (.one ⟨some s4, none, (.mv (.t s9))⟩
    .done))))
  (.seq (.seq (.reg (.one ⟨some s10, none, (.mv (.t s0))⟩
    (.one ⟨some s11, none, (.len false (.t s10))⟩
    (.one ⟨some s12, none, (.mv (.c (.v (.int .i64 0))))⟩
    .done))))
  (.block 0 (.loop (.seq (.reg (.one ⟨some s13, none, (.bin false .lss (.t s12) (.t s11))⟩
    .done))
  (.seq (.cond (.t s13) .skip (.exit 0))
  (.seq (.block 1 (.seq (.reg (.one ⟨some s14, none, (.iaddr 2 (.t s10) (.t s12))⟩
    (.one ⟨some s15, none, (.load (some 2) (.t s14))⟩
    (.one ⟨some s6, none, (.new [(.v (.int .i64 0)), (.v (.int .i64 0))])⟩
    (.one ⟨none, none, (.store 2 (.t s6) (.t s15))⟩
    .done)))))
  (.seq (.reg (.one ⟨some s16, none, (.mv (.t s4))⟩
    (.one ⟨some s17, none, (.load (some 2) (.t s6))⟩
    (.one ⟨some s18, none, (.call 63 [(.t s16), (.t s17)])⟩
    (.one ⟨some s7, none, (.mv (.t s18))⟩
    .done)))))
  (.seq (.reg (.one ⟨some s19, none, (.mv (.t s7))⟩
    (.one ⟨some s20, none, (.bin false .neq (.t s19) (.c (.v (.int .i64 0))))⟩
    .done)))
  (.cond (.t s20) (.seq (.reg (.one ⟨some s21, none, (.mv (.t s7))⟩
    (.one ⟨some s2, none, (.mv (.c (.v (.pointer none))))⟩
    (.one ⟨some s3, none, (.mv (.t s21))⟩
    .done))))
  .ret) .skip)))))
  (.reg (.one ⟨some s22, none, (.bin false .add (.t s12) (.c (.v (.int .i64 1))))⟩
    (.one ⟨some s12, none, (.mv (.t s22))⟩
    .done)))))))))
  (.seq (.reg (.one ⟨some s23, none, (.mv (.t s4))⟩
    (.one ⟨some s2, none, (.mv (.t s23))⟩
    (.one ⟨some s3, none, (.mv (.c (.v (.int .i64 0))))⟩
    .done))))
  .ret))))⟩
theorem ok60 : compF Try.prog c60 Try.f60 = some ir60 := by kernel_rfl
theorem k_spans_New {args : List AVal} {σ : AHeap} {Q : AVal → AHeap → Prop} (hl : Nat.ble args.length 24 = true) (h : argsK (Env.full 9) 0 args fun env => evC Try.prog c60 ir60.body env σ (retQ ir60 Q)) : ACalls Try.prog 60 args σ Q :=
  acalls_of Try.func60 ok60 rfl (Nat.le_of_ble_eq_true hl) h
/- spans.Set).Add -/
def c63 : Cfg := ⟨qs, [], 78, [], ps⟩
def ir63 : IFun := ⟨2, [.tmp s4],
  (.seq (.reg (.one ⟨some s3, none, (.box 2 (.t s1))⟩
    (.one ⟨some s4, none, (.mv (.c (.v (.int .i64 0))))⟩
    .done)))
  (.scope (.seq (.seq (.reg (.one ⟨some s10, none, (.mv (.t s0))⟩
    (.one ⟨some s11, none, (.load (some 2) (.t s3))⟩
    (.one ⟨some s12, none, (.callq 98 [(.t s10), (.t s11)])⟩
    (.one ⟨some s5, none, (.mv (.t s12))⟩
    .done)))))
  (.seq (.reg (.one ⟨some s13, none, (.mv (.t s5))⟩
    (.one ⟨some s14, none, (.bin false .neq (.t s13) (.c (.v (.int .i64 0))))⟩
    .done)))
  (.cond (.t s14) (.seq (.reg (.one ⟨some s15, none, (.mv (.t s5))⟩
    (.one ⟨some s4, none, (.mv (.t s15))⟩
    .done)))
  .ret) .skip)))
  (.seq (.reg (.one ⟨some s6, none, (.mv (.c (.slice 2 [] .full)))⟩
    .done))
  (.seq (.reg (.one ⟨some s7, none, (.mv (.c (.v (.int .i64 0))))⟩
    (.one ⟨some s8, none, (.mv (.c (.v (.bool false))))⟩
    .done)))
  (.seq (.label 0)
  (.seq (.seq (.reg (.one ⟨some s16, none, (.mv (.t s7))⟩
    (.one ⟨some s17, none, (.mv (.t s0))⟩
    (.one ⟨some s18, none, (.nilchk (.t s17))⟩
    (.one ⟨some s19, none, (.faddr 0 (.t s18))⟩
    (.one ⟨some s20, none, (.load none (.t s19))⟩
    (.one ⟨some s21, none, (.len false (.t s20))⟩
    (.one ⟨some s22, none, (.bin false .lss (.t s16) (.t s21))⟩
    .done))))))))
  (.cond (.t s22) (.seq (.reg (.one ⟨some s23, none, (.mv (.t s0))⟩
    (.one ⟨some s24, none, (.nilchk (.t s23))⟩
    (.one ⟨some s25, none, (.faddr 0 (.t s24))⟩
    (.one ⟨some s26, none, (.load none (.t s25))⟩
    (.one ⟨some s27, none, (.mv (.t s7))⟩
    (.one ⟨some s28, none, (.iaddr 2 (.t s26) (.t s27))⟩
    (.one ⟨some s29, none, (.load (some 2) (.t s28))⟩
    (.one ⟨some s9, none, (.new [(.v (.int .i64 0)), (.v (.int .i64 0))])⟩
    (.one ⟨none, none, (.store 2 (.t s9) (.t s29))⟩
    .done))))))))))
  (.seq (.block 0 (.seq (.reg (.one ⟨some s42, none, (.faddr 1 (.t s9))⟩
    (.one ⟨some s43, none, (.load none (.t s42))⟩
    (.one ⟨some s44, none, (.faddr 0 (.t s3))⟩
    (.one ⟨some s45, none, (.load none (.t s44))⟩
    (.one ⟨some s46, none, (.bin false .lss (.t s43) (.t s45))⟩
    (.one ⟨some s41, none, (.mv (.t s46))⟩
    .done)))))))
  (.cond (.t s41) (.reg (.one ⟨some s47, none, (.mv (.t s6))⟩
    (.one ⟨some s48, none, (.load (some 2) (.t s9))⟩
    (.one ⟨some s49, none, (.row 2 [(.t s48)])⟩
    (.one ⟨some s50, none, (.app 2 16 (.t s47) (.t s49))⟩
    (.one ⟨some s6, none, (.mv (.t s50))⟩
    .done)))))) (.seq (.reg (.one ⟨some s52, none, (.faddr 0 (.t s9))⟩
    (.one ⟨some s53, none, (.load none (.t s52))⟩
    (.one ⟨some s54, none, (.faddr 1 (.t s3))⟩
    (.one ⟨some s55, none, (.load none (.t s54))⟩
    (.one ⟨some s56, none, (.bin false .gtr (.t s53) (.t s55))⟩
    (.one ⟨some s51, none, (.mv (.t s56))⟩
    .done)))))))
  (.cond (.t s51) (.seq (.seq (.reg (.one ⟨some s57, none, (.mv (.t s8))⟩
    (.one ⟨some s58, none, (.not (.t s57))⟩
    .done)))
  (.cond (.t s58) (.reg (.one ⟨some s59, none, (.mv (.t s6))⟩
    (.one ⟨some s60, none, (.load (some 2) (.t s3))⟩
    (.one ⟨some s61, none, (.row 2 [(.t s60)])⟩
    (.one ⟨some s62, none, (.app 2 16 (.t s59) (.t s61))⟩
    (.one ⟨some s6, none, (.mv (.t s62))⟩
    (.one ⟨some s8, none, (.mv (.c (.v (.bool true))))⟩
    .done))))))) .skip))
  (.reg (.one ⟨some s63, none, (.mv (.t s6))⟩
    (.one ⟨some s64, none, (.load (some 2) (.t s9))⟩
    (.one ⟨some s65, none, (.row 2 [(.t s64)])⟩
    (.one ⟨some s66, none, (.app 2 16 (.t s63) (.t s65))⟩
    (.one ⟨some s6, none, (.mv (.t s66))⟩
    .done))))))) (.reg (.one ⟨some s30, none, (.faddr 0 (.t s3))⟩
    (.one ⟨some s31, none, (.load none (.t s30))⟩
    (.one ⟨some s32, none, (.faddr 0 (.t s9))⟩
    (.one ⟨some s33, none, (.load none (.t s32))⟩
    (.one ⟨some s34, none, (.mxmn false (.t s31) (.t s33))⟩
    (.one ⟨some s35, none, (.faddr 1 (.t s3))⟩
    (.one ⟨some s36, none, (.load none (.t s35))⟩
    (.one ⟨some s37, none, (.faddr 1 (.t s9))⟩
    (.one ⟨some s38, none, (.load none (.t s37))⟩
    (.one ⟨some s39, none, (.mxmn true (.t s36) (.t s38))⟩
    (.one ⟨some s40, none, (.build [(.v (.int .i64 0)), (.v (.int .i64 0))] [(0, 1, (.t s34)), (1, 1, (.t s39))])⟩
    (.one ⟨none, none, (.store 2 (.t s3) (.t s40))⟩
    .done))))))))))))))))))
  (.seq (.reg (.one ⟨some s67, none, (.mv (.t s7))⟩
    (.one ⟨some s68, none, (.bin false .add (.t s67) (.c (.v (.int .i64 1))))⟩
    (.one ⟨some s7, none, (.mv (.t s68))⟩
    .done))))
  (.goto 0)))) .skip))
  (.seq (.seq (.reg (.one ⟨some s69, none, (.mv (.t s8))⟩
    (.one ⟨some s70, none, (.not (.t s69))⟩
    .done)))
  (.cond (.t s70) (.reg (.one ⟨some s71, none, (.mv (.t s6))⟩
    (.one ⟨some s72, none, (.load (some 2) (.t s3))⟩
    (.one ⟨some s73, none, (.row 2 [(.t s72)])⟩
    (.one ⟨some s74, none, (.app 2 16 (.t s71) (.t s73))⟩
    (.one ⟨some s6, none, (.mv (.t s74))⟩
    .done)))))) .skip))
  (.seq (.reg (.one ⟨some s75, none, (.mv (.t s0))⟩
    (.one ⟨some s76, none, (.mv (.t s6))⟩
    (.one ⟨some s77, none, (.call 99 [(.t s75), (.t s76)])⟩
    (.one ⟨some s4, none, (.mv (.t s77))⟩
    .done)))))
  .ret)))))))))⟩
theorem ok63 : compF Try.prog c63 Try.f63 = some ir63 := by kernel_rfl
theorem k_spans_Set_Add {args : List AVal} {σ : AHeap} {Q : AVal → AHeap → Prop} (hl : Nat.ble args.length 78 = true) (h : argsK (Env.full 9) 0 args fun env => evC Try.prog c63 ir63.body env σ (retQ ir63 Q)) : ACalls Try.prog 63 args σ Q :=
  acalls_of Try.func63 ok63 rfl (Nat.le_of_ble_eq_true hl) h
/- spans.Set).Has -/
def c79 : Cfg := ⟨qs, [], 17, [], ps⟩
def ir79 : IFun := ⟨2, [.tmp s4],
  (.seq (.reg (.one ⟨some s3, none, (.box 2 (.t s1))⟩
    (.one ⟨some s4, none, (.mv (.c (.v (.bool false))))⟩
    .done)))
  (.seq (.reg (.one ⟨some s5, none, (.mv (.t s0))⟩
    (.one ⟨some s6, none, (.load (some 2) (.t s3))⟩
    (.one ⟨some s7, none, (.callq 98 [(.t s5), (.t s6)])⟩
    (.one ⟨some s8, none, (.bin false .eql (.t s7) (.c (.v (.int .i64 0))))⟩
    (.one ⟨some s9, none, (.mv (.t s8))⟩
    (.one ⟨some s10, some (s9, true), (.mv (.t s0))⟩
    (.one ⟨some s11, some (s9, true), (.nilchk (.t s10))⟩
    (.one ⟨some s12, some (s9, true), (.faddr 0 (.t s11))⟩
    (.one ⟨some s13, some (s9, true), (.load none (.t s12))⟩
    (.one ⟨some s14, some (s9, true), (.fn 105 [] [(.t s3)])⟩
    (.one ⟨some s15, some (s9, true), (.callq 104 [(.t s13), (.t s14)])⟩
    (.one ⟨some s16, none, (.pick (.t s9) (.t s15) (.c (.v (.bool false))))⟩
    (.one ⟨some s4, none, (.mv (.t s16))⟩
    .done))))))))))))))
  .ret))⟩
theorem ok79 : compF Try.prog c79 Try.f79 = some ir79 := by kernel_rfl
theorem k_spans_Set_Has {args : List AVal} {σ : AHeap} {Q : AVal → AHeap → Prop} (hl : Nat.ble args.length 17 = true) (h : argsK (Env.full 9) 0 args fun env => evC Try.prog c79 ir79.body env σ (retQ ir79 Q)) : ACalls Try.prog 79 args σ Q :=
  acalls_of Try.func79 ok79 rfl (Nat.le_of_ble_eq_true hl) h
/- spans.Set).Spans -/
def c80 : Cfg := ⟨qs, [], 10, [], ps⟩
def ir80 : IFun := ⟨1, [.tmp s2],
  (.seq (.reg (.one ⟨some s2, none, (.mv (.c (.slice 2 [] .full)))⟩
    .done))
  (.seq (.seq (.reg (.one ⟨some s3, none, (.mv (.t s0))⟩
    (.one ⟨some s4, none, (.eqNil 1 false (.t s3))⟩
    .done)))
  (.cond (.t s4) (.seq (.reg (.one ⟨some s2, none, (.mv (.c (.slice 2 [] .full)))⟩
    .done))
  .ret) .skip))
  (.seq (.reg (.one ⟨some s5, none, (.mv (.t s0))⟩
    (.one ⟨some s6, none, (.nilchk (.t s5))⟩
    (.one ⟨some s7, none, (.faddr 0 (.t s6))⟩
    (.one ⟨some s8, none, (.load none (.t s7))⟩
    (.one ⟨some s9, none, (.callq 106 [(.t s8)])⟩
    (.one ⟨some s2, none, (.mv (.t s9))⟩
    .done)))))))
  .ret)))⟩
theorem ok80 : compF Try.prog c80 Try.f80 = some ir80 := by kernel_rfl
theorem k_spans_Set_Spans {args : List AVal} {σ : AHeap} {Q : AVal → AHeap → Prop} (hl : Nat.ble args.length 10 = true) (h : argsK (Env.full 9) 0 args fun env => evC Try.prog c80 ir80.body env σ (retQ ir80 Q)) : ACalls Try.prog 80 args σ Q :=
  acalls_of Try.func80 ok80 rfl (Nat.le_of_ble_eq_true hl) h
/- spans.Set).ask -/
def c98 : Cfg := ⟨qs, [], 12, [], ps⟩
def ir98 : IFun := ⟨2, [.tmp s4],
  (.seq (.reg (.one ⟨some s3, none, (.box 2 (.t s1))⟩
    (.one ⟨some s4, none, (.mv (.c (.v (.int .i64 0))))⟩
    .done)))
  (.seq (.block 0 (.seq (.reg (.one ⟨some s6, none, (.mv (.t s0))⟩
    (.one ⟨some s7, none, (.eqNil 1 false (.t s6))⟩
    (.one ⟨some s5, none, (.mv (.t s7))⟩
    .done))))
  (.cond (.t s5) (.seq (.reg (.one ⟨some s4, none, (.mv (.c (.v (.int .i64 6))))⟩
    .done))
  .ret) (.seq (.reg (.one ⟨some s9, none, (.load (some 2) (.t s3))⟩
    (.one ⟨some s10, none, (.callq 122 [(.t s9)])⟩
    (.one ⟨some s11, none, (.not (.t s10))⟩
    (.one ⟨some s8, none, (.mv (.t s11))⟩
    .done)))))
  (.cond (.t s8) (.seq (.reg (.one ⟨some s4, none, (.mv (.c (.v (.int .i64 1))))⟩
    .done))
  .ret) .skip)))))
  (.seq (.reg (.one ⟨some s4, none, (.mv (.c (.v (.int .i64 0))))⟩
    .done))
  .ret)))⟩
theorem ok98 : compF Try.prog c98 Try.f98 = some ir98 := by kernel_rfl
theorem k_spans_Set_ask {args : List AVal} {σ : AHeap} {Q : AVal → AHeap → Prop} (hl : Nat.ble args.length 12 = true) (h : argsK (Env.full 9) 0 args fun env => evC Try.prog c98 ir98.body env σ (retQ ir98 Q)) : ACalls Try.prog 98 args σ Q :=
  acalls_of Try.func98 ok98 rfl (Nat.le_of_ble_eq_true hl) h
/- spans.Set).keep -/
def c99 : Cfg := ⟨qs, [], 12, [], ps⟩
def ir99 : IFun := ⟨2, [.tmp s4],
  (.seq (.reg (.one ⟨some s4, none, (.mv (.c (.v (.int .i64 0))))⟩
    .done))
  (.seq (.seq (.reg (.one ⟨some s5, none, (.mv (.t s1))⟩
    (.one ⟨some s6, none, (.len false (.t s5))⟩
    (.one ⟨some s7, none, (.bin false .gtr (.t s6) (.c (.v (.int .i64 2048))))⟩
    .done))))
  (.cond (.t s7) (.seq (.reg (.one ⟨some s4, none, (.mv (.c (.v (.int .i64 5))))⟩
    .done))
  .ret) .skip))
  (.seq (.reg (.one ⟨some s8, none, (.mv (.t s0))⟩
    (.one ⟨some s9, none, (.mv (.t s1))⟩
    (.one ⟨some s10, none, (.nilchk (.t s8))⟩
    (.one ⟨some s11, none, (.faddr 0 (.t s10))⟩
    (.one ⟨none, none, (.store 1 (.t s11) (.t s9))⟩
    .done))))))
  (.seq (.reg (.one ⟨some s4, none, (.mv (.c (.v (.int .i64 0))))⟩
    .done))
  .ret))))⟩
theorem ok99 : compF Try.prog c99 Try.f99 = some ir99 := by kernel_rfl
theorem k_spans_Set_keep {args : List AVal} {σ : AHeap} {Q : AVal → AHeap → Prop} (hl : Nat.ble args.length 12 = true) (h : argsK (Env.full 9) 0 args fun env => evC Try.prog c99 ir99.body env σ (retQ ir99 Q)) : ACalls Try.prog 99 args σ Q :=
  acalls_of Try.func99 ok99 rfl (Nat.le_of_ble_eq_true hl) h
/- spans.Span] -/
def c104 : Cfg := ⟨qs, [], 9, [], ps⟩
def ir104 : IFun := ⟨2, [.tmp s4],
  (.seq (.reg (.one ⟨some s4, none, (.mv (.c (.v (.bool false))))⟩
    .done))
  (.seq (.reg (.one ⟨some s5, none, (.mv (.t s0))⟩
    (.one ⟨some s6, none, (.mv (.t s1))⟩
    (.one ⟨some s7, none, (.callq 134 [(.t s5), (.t s6)])⟩
    (.one ⟨some s8, none, (.bin false .geq (.t s7) (.c (.v (.int .i64 0))))⟩
    (.one ⟨some s4, none, (.mv (.t s8))⟩
    .done))))))
  .ret))⟩
theorem ok104 : compF Try.prog c104 Try.f104 = some ir104 := by kernel_rfl
theorem k_slices_ContainsFunc_spans_Span {args : List AVal} {σ : AHeap} {Q : AVal → AHeap → Prop} (hl : Nat.ble args.length 9 = true) (h : argsK (Env.full 9) 0 args fun env => evC Try.prog c104 ir104.body env σ (retQ ir104 Q)) : ACalls Try.prog 104 args σ Q :=
  acalls_of Try.func104 ok104 rfl (Nat.le_of_ble_eq_true hl) h
/- spans.Set).Has$1 -/
def c105 : Cfg := ⟨qs, [], 16, [], ps⟩
def ir105 : IFun := ⟨2, [.tmp s3],
  (.seq (.reg (.one ⟨some s2, none, (.box 2 (.t s0))⟩
    (.one ⟨some s3, none, (.mv (.c (.v (.bool false))))⟩
    .done)))
  (.seq (.reg (.one ⟨some s4, none, (.faddr 0 (.t s2))⟩
    (.one ⟨some s5, none, (.load none (.t s4))⟩
    (.one ⟨some s6, none, (.faddr 0 (.t s1))⟩
    (.one ⟨some s7, none, (.load none (.t s6))⟩
    (.one ⟨some s8, none, (.bin false .leq (.t s5) (.t s7))⟩
    (.one ⟨some s9, none, (.mv (.t s8))⟩
    (.one ⟨some s10, some (s9, true), (.faddr 1 (.t s1))⟩
    (.one ⟨some s11, some (s9, true), (.load none (.t s10))⟩
    (.one ⟨some s12, some (s9, true), (.faddr 1 (.t s2))⟩
    (.one ⟨some s13, some (s9, true), (.load none (.t s12))⟩
    (.one ⟨some s14, some (s9, true), (.bin false .leq (.t s11) (.t s13))⟩
    (.one ⟨some s15, none, (.pick (.t s9) (.t s14) (.c (.v (.bool false))))⟩
    (.one ⟨some s3, none, (.mv (.t s15))⟩
    .done))))))))))))))
  .ret))⟩
theorem ok105 : compF Try.prog c105 Try.f105 = some ir105 := by kernel_rfl
theorem k_spans_Set_Has_1 {args : List AVal} {σ : AHeap} {Q : AVal → AHeap → Prop} (hl : Nat.ble args.length 16 = true) (h : argsK (Env.full 9) 0 args fun env => evC Try.prog c105 ir105.body env σ (retQ ir105 Q)) : ACalls Try.prog 105 args σ Q :=
  acalls_of Try.func105 ok105 rfl (Nat.le_of_ble_eq_true hl) h
/- spans.Span] -/
def c106 : Cfg := ⟨qs, [], 8, [], ps⟩
def ir106 : IFun := ⟨1, [.tmp s2],
  (.seq (.reg (.one ⟨some s2, none, (.mv (.c (.slice 2 [] .full)))⟩
    .done))
  (.seq (.seq (.reg (.one ⟨some s3, none, (.mv (.t s0))⟩
    (.one ⟨some s4, none, (.eqNil 0 false (.t s3))⟩
    .done)))
  (.cond (.t s4) (.seq (.reg (.one ⟨some s2, none, (.mv (.c (.slice 2 [] .full)))⟩
    .done))
  .ret) .skip))
  (.seq (.reg (.one ⟨some s5, none, (.row 2 [])⟩
    (.one ⟨some s6, none, (.mv (.t s0))⟩
    (.one ⟨some s7, none, (.app 2 16 (.t s5) (.t s6))⟩
    (.one ⟨some s2, none, (.mv (.t s7))⟩
    .done)))))
  .ret)))⟩
theorem ok106 : compF Try.prog c106 Try.f106 = some ir106 := by kernel_rfl
theorem k_spans_Span {args : List AVal} {σ : AHeap} {Q : AVal → AHeap → Prop} (hl : Nat.ble args.length 8 = true) (h : argsK (Env.full 9) 0 args fun env => evC Try.prog c106 ir106.body env σ (retQ ir106 Q)) : ACalls Try.prog 106 args σ Q :=
  acalls_of Try.func106 ok106 rfl (Nat.le_of_ble_eq_true hl) h
/- spans.Right -/
def c122 : Cfg := ⟨qs, [], 18, [], ps⟩
def ir122 : IFun := ⟨1, [.tmp s2],
  (.seq (.reg (.one ⟨some s1, none, (.box 2 (.t s0))⟩
    (.one ⟨some s2, none, (.mv (.c (.v (.bool false))))⟩
    .done)))
  (.seq (.reg (.one ⟨some s3, none, (.faddr 0 (.t s1))⟩
    (.one ⟨some s4, none, (.load none (.t s3))⟩
    (.one ⟨some s5, none, (.bin false .geq (.t s4) (.c (.v (.int .i64 0))))⟩
    (.one ⟨some s6, none, (.mv (.t s5))⟩
    (.one ⟨some s7, some (s6, true), (.faddr 0 (.t s1))⟩
    (.one ⟨some s8, some (s6, true), (.load none (.t s7))⟩
    (.one ⟨some s9, some (s6, true), (.faddr 1 (.t s1))⟩
    (.one ⟨some s10, some (s6, true), (.load none (.t s9))⟩
    (.one ⟨some s11, some (s6, true), (.bin false .lss (.t s8) (.t s10))⟩
    (.one ⟨some s12, none, (.pick (.t s6) (.t s11) (.c (.v (.bool false))))⟩
    (.one ⟨some s13, none, (.mv (.t s12))⟩
    (.one ⟨some s14, some (s13, true), (.faddr 1 (.t s1))⟩
    (.one ⟨some s15, some (s13, true), (.load none (.t s14))⟩
    (.one ⟨some s16, some (s13, true), (.bin false .leq (.t s15) (.c (.v (.int .i64 65536))))⟩
    (.one ⟨some s17, none, (.pick (.t s13) (.t s16) (.c (.v (.bool false))))⟩
    (.one ⟨some s2, none, (.mv (.t s17))⟩
    .done)))))))))))))))))
  .ret))⟩
theorem ok122 : compF Try.prog c122 Try.f122 = some ir122 := by kernel_rfl
theorem k_spans_Right {args : List AVal} {σ : AHeap} {Q : AVal → AHeap → Prop} (hl : Nat.ble args.length 18 = true) (h : argsK (Env.full 9) 0 args fun env => evC Try.prog c122 ir122.body env σ (retQ ir122 Q)) : ACalls Try.prog 122 args σ Q :=
  acalls_of Try.func122 ok122 rfl (Nat.le_of_ble_eq_true hl) h
/- spans.Span] -/
def c134 : Cfg := ⟨qs, [], 19, [], ps⟩
def ir134 : IFun := ⟨2, [.tmp s4],
  (.seq (.reg (.one ⟨some s4, none, (.mv (.c (.v (.int .i64 0))))⟩
    .done))
  (.seq (.seq (.reg (.one ⟨some s6, none, (.mv (.t s0))⟩
    (.one ⟨some s7, none, (.len false (.t s6))⟩
    (.one ⟨some s8, none, (.mv (.c (.v (.int .i64 0))))⟩
    .done))))
  (.block 0 (.loop (.seq (.reg (.one ⟨some s9, none, (.bin false .lss (.t s8) (.t s7))⟩
    .done))
  (.seq (.cond (.t s9) .skip (.exit 0))
  (.seq (.block 1 (.seq (.reg (.one ⟨some s10, none, (.mv (.t s8))⟩
    (.one ⟨some s5, none, (.mv (.t s10))⟩
    .done)))
  (.seq (.reg (.one ⟨some s11, none, (.mv (.t s1))⟩
    (.one ⟨some s12, none, (.mv (.t s0))⟩
    (.one ⟨some s13, none, (.mv (.t s5))⟩
    (.one ⟨some s14, none, (.iaddr 2 (.t s12) (.t s13))⟩
    (.one ⟨some s15, none, (.load (some 2) (.t s14))⟩
    (.one ⟨some s16, none, (.callv (.t s11) [(.t s15)])⟩
    .done)))))))
  (.cond (.t s16) (.seq (.reg (.one ⟨some s17, none, (.mv (.t s5))⟩
    (.one ⟨some s4, none, (.mv (.t s17))⟩
    .done)))
  .ret) .skip))))
  (.reg (.one ⟨some s18, none, (.bin false .add (.t s8) (.c (.v (.int .i64 1))))⟩
    (.one ⟨some s8, none, (.mv (.t s18))⟩
    .done)))))))))
  (.seq (.reg (.one ⟨some s4, none, (.mv (.c (.v (.int .i64 (-1)))))⟩
    .done))
  .ret)))⟩
theorem ok134 : compF Try.prog c134 Try.f134 = some ir134 := by kernel_rfl
theorem k_slices_IndexFunc_spans_Span {args : List AVal} {σ : AHeap} {Q : AVal → AHeap → Prop} (hl : Nat.ble args.length 19 = true) (h : argsK (Env.full 9) 0 args fun env => evC Try.prog c134 ir134.body env σ (retQ ir134 Q)) : ACalls Try.prog 134 args σ Q :=
  acalls_of Try.func134 ok134 rfl (Nat.le_of_ble_eq_true hl) h
end Go.Proofs.Ytgobbmdbkmjlnaa
/-
  The bodies of one package, compiled to the framework's language (printed by a program of this session).
-/
namespace Go.Proofs.Ytgobbmdbkmjlnaa
set_option linter.unusedVariables false
set_option linter.unusedSimpArgs false
open Go Go.Am
/- seqnum.Space).Is -/
def c117 : Cfg := ⟨qs, [], 13, [], ps⟩
def ir117 : IFun := ⟨2, [.tmp s4],
  (.seq (.reg (.one ⟨some s2, none, (.box 1 (.t s0))⟩
    (.one ⟨some s4, none, (.mv (.c (.v (.bool false))))⟩
    .done)))
  (.seq (.reg (.one ⟨some s5, none, (.mv (.t s1))⟩
    (.one ⟨some s6, none, (.bin false .geq (.t s5) (.c (.v (.int .i64 0))))⟩
    (.one ⟨some s7, none, (.mv (.t s6))⟩
    (.one ⟨some s8, some (s7, true), (.mv (.t s1))⟩
    (.one ⟨some s9, some (s7, true), (.load (some 1) (.t s2))⟩
    (.one ⟨some s10, some (s7, true), (.callq 136 [(.t s9)])⟩
    (.one ⟨some s11, some (s7, true), (.bin false .lss (.t s8) (.t s10))⟩
    (.one ⟨some s12, none, (.pick (.t s7) (.t s11) (.c (.v (.bool false))))⟩
    (.one ⟨some s4, none, (.mv (.t s12))⟩
    .done))))))))))
  .ret))⟩
theorem ok117 : compF Try.prog c117 Try.f117 = some ir117 := by kernel_rfl
theorem k_seqnum_Space_Is {args : List AVal} {σ : AHeap} {Q : AVal → AHeap → Prop} (hl : Nat.ble args.length 13 = true) (h : argsK (Env.full 9) 0 args fun env => evC Try.prog c117 ir117.body env σ (retQ ir117 Q)) : ACalls Try.prog 117 args σ Q :=
  acalls_of Try.func117 ok117 rfl (Nat.le_of_ble_eq_true hl) h
/- seqnum.Space).Size -/
def c136 : Cfg := ⟨qs, [], 9, [], ps⟩
def ir136 : IFun := ⟨1, [.tmp s2],
  (.seq (.reg (.one ⟨some s1, none, (.box 1 (.t s0))⟩
    (.one ⟨some s2, none, (.mv (.c (.v (.int .i64 0))))⟩
    .done)))
  (.seq (.seq (.reg (.one ⟨some s3, none, (.load (some 1) (.t s1))⟩
    (.one ⟨some s4, none, (.callq 143 [(.t s3)])⟩
    (.one ⟨some s5, none, (.not (.t s4))⟩
    .done))))
  (.cond (.t s5) (.seq (.reg (.one ⟨some s2, none, (.mv (.c (.v (.int .i64 0))))⟩
    .done))
  .ret) .skip))
  (.seq (.reg (.one ⟨some s6, none, (.faddr 0 (.t s1))⟩
    (.one ⟨some s7, none, (.load none (.t s6))⟩
    (.one ⟨some s8, none, (.bin false .shl (.c (.v (.int .i64 1))) (.t s7))⟩
    (.one ⟨some s2, none, (.mv (.t s8))⟩
    .done)))))
  .ret)))⟩
theorem ok136 : compF Try.prog c136 Try.f136 = some ir136 := by kernel_rfl
theorem k_seqnum_Space_Size {args : List AVal} {σ : AHeap} {Q : AVal → AHeap → Prop} (hl : Nat.ble args.length 9 = true) (h : argsK (Env.full 9) 0 args fun env => evC Try.prog c136 ir136.body env σ (retQ ir136 Q)) : ACalls Try.prog 136 args σ Q :=
  acalls_of Try.func136 ok136 rfl (Nat.le_of_ble_eq_true hl) h
/- seqnum.Right -/
def c143 : Cfg := ⟨qs, [], 16, [], ps⟩
def ir143 : IFun := ⟨1, [.tmp s2],
  (.seq (.reg (.one ⟨some s1, none, (.box 1 (.t s0))⟩
    (.one ⟨some s2, none, (.mv (.c (.v (.bool false))))⟩
    .done)))
  (.seq (.reg (.one ⟨some s3, none, (.load (some 1) (.t s1))⟩
    (.one ⟨some s4, none, (.build [(.v (.int .i64 0))] [])⟩
    (.one ⟨some s5, none, (.eqAgg true [false] (.t s3) (.t s4))⟩
    (.one ⟨some s6, none, (.mv (.t s5))⟩
    (.one ⟨some s7, some (s6, true), (.faddr 0 (.t s1))⟩
    (.one ⟨some s8, some (s6, true), (.load none (.t s7))⟩
    (.one ⟨some s9, some (s6, true), (.bin false .geq (.t s8) (.c (.v (.int .i64 1))))⟩
    (.one ⟨some s10, none, (.pick (.t s6) (.t s9) (.c (.v (.bool false))))⟩
    (.one ⟨some s11, none, (.mv (.t s10))⟩
    (.one ⟨some s12, some (s11, true), (.faddr 0 (.t s1))⟩
    (.one ⟨some s13, some (s11, true), (.load none (.t s12))⟩
    (.one ⟨some s14, some (s11, true), (.bin false .leq (.t s13) (.c (.v (.int .i64 16))))⟩
    (.one ⟨some s15, none, (.pick (.t s11) (.t s14) (.c (.v (.bool false))))⟩
    (.one ⟨some s2, none, (.mv (.t s15))⟩
    .done)))))))))))))))
  .ret))⟩
theorem ok143 : compF Try.prog c143 Try.f143 = some ir143 := by kernel_rfl
theorem k_seqnum_Right {args : List AVal} {σ : AHeap} {Q : AVal → AHeap → Prop} (hl : Nat.ble args.length 16 = true) (h : argsK (Env.full 9) 0 args fun env => evC Try.prog c143 ir143.body env σ (retQ ir143 Q)) : ACalls Try.prog 143 args σ Q :=
  acalls_of Try.func143 ok143 rfl (Nat.le_of_ble_eq_true hl) h
end Go.Proofs.Ytgobbmdbkmjlnaa
/-
  The bodies of one package, compiled to the framework's language (printed by a program of this session).
-/
namespace Go.Proofs.Ytgobbmdbkmjlnaa
set_option linter.unusedVariables false
set_option linter.unusedSimpArgs false
open Go Go.Am
end Go.Proofs.Ytgobbmdbkmjlnaa
/-
  The bodies of one package, compiled to the framework's language (printed by a program of this session).
-/
namespace Go.Proofs.Ytgobbmdbkmjlnaa
set_option linter.unusedVariables false
set_option linter.unusedSimpArgs false
open Go Go.Am
/- amd.Data -/
def c33 : Cfg := ⟨qs, [], 6, [], ps⟩
def ir33 : IFun := ⟨1, [.tmp s2],
  (.seq (.reg (.one ⟨some s1, none, (.box 7 (.t s0))⟩
    (.one ⟨some s2, none, (.mv (.c (.slice 1 [] .full)))⟩
    .done)))
  (.seq (.reg (.one ⟨some s3, none, (.faddr 6 (.t s1))⟩
    (.one ⟨some s4, none, (.load none (.t s3))⟩
    (.one ⟨some s5, none, (.callq 76 [(.t s4), (.c (.slice 1 [] .full))])⟩
    (.one ⟨some s2, none, (.mv (.t s5))⟩
    .done)))))
  .ret))⟩
theorem ok33 : compF Try.prog c33 Try.f33 = some ir33 := by kernel_rfl
theorem k_amd_Data {args : List AVal} {σ : AHeap} {Q : AVal → AHeap → Prop} (hl : Nat.ble args.length 6 = true) (h : argsK (Env.full 9) 0 args fun env => evC Try.prog c33 ir33.body env σ (retQ ir33 Q)) : ACalls Try.prog 33 args σ Q :=
  acalls_of Try.func33 ok33 rfl (Nat.le_of_ble_eq_true hl) h
/- amd.Right -/
def c49 : Cfg := ⟨qs, [], 9, [], ps⟩
def ir49 : IFun := ⟨2, [.tmp s4],
  (.seq (.reg (.one ⟨some s2, none, (.box 7 (.t s0))⟩
    (.one ⟨some s4, none, (.mv (.c (.v (.bool false))))⟩
    .done)))
  (.seq (.reg (.one ⟨some s5, none, (.load (some 7) (.t s2))⟩
    (.one ⟨some s6, none, (.mv (.t s1))⟩
    (.one ⟨some s7, none, (.callq 91 [(.t s5), (.t s6)])⟩
    (.one ⟨some s8, none, (.bin false .gtr (.t s7) (.c (.v (.int .i64 0))))⟩
    (.one ⟨some s4, none, (.mv (.t s8))⟩
    .done))))))
  .ret))⟩
theorem ok49 : compF Try.prog c49 Try.f49 = some ir49 := by kernel_rfl
theorem k_amd_Right {args : List AVal} {σ : AHeap} {Q : AVal → AHeap → Prop} (hl : Nat.ble args.length 9 = true) (h : argsK (Env.full 9) 0 args fun env => evC Try.prog c49 ir49.body env σ (retQ ir49 Q)) : ACalls Try.prog 49 args σ Q :=
  acalls_of Try.func49 ok49 rfl (Nat.le_of_ble_eq_true hl) h
/- amd.Size -/
def c91 : Cfg := ⟨qs, [], 118, [], ps⟩
def ir91 : IFun := ⟨2, [.tmp s4],
  (.seq (.reg (.one ⟨some s2, none, (.box 7 (.t s0))⟩
    (.one ⟨some s4, none, (.mv (.c (.v (.int .i64 0))))⟩
    .done)))
  (.seq (.reg (.one ⟨some s9, none, (.mv (.t s1))⟩
    (.one ⟨some s10, none, (.build [(.v (.int .i64 0))] [(0, 1, (.t s9))])⟩
    (.one ⟨some s5, none, (.new [(.v (.int .i64 0))])⟩
    (.one ⟨none, none, (.store 1 (.t s5) (.t s10))⟩
    .done)))))
  (.seq (.block 0 (.seq (.reg (.one ⟨some s12, none, (.mv (.t s1))⟩
    (.one ⟨some s13, none, (.callq 116 [(.t s12)])⟩
    (.one ⟨some s14, none, (.not (.t s13))⟩
    (.one ⟨some s15, none, (.mv (.t s14))⟩
    (.one ⟨some s16, some (s15, false), (.faddr 1 (.t s2))⟩
    (.one ⟨some s17, some (s15, false), (.load none (.t s16))⟩
    (.one ⟨some s18, some (s15, false), (.bin false .lss (.t s17) (.c (.v (.int .i64 0))))⟩
    (.one ⟨some s19, none, (.pick (.t s15) (.c (.v (.bool true))) (.t s18))⟩
    (.one ⟨some s20, none, (.mv (.t s19))⟩
    (.one ⟨some s21, some (s20, false), (.faddr 1 (.t s2))⟩
    (.one ⟨some s22, some (s20, false), (.load none (.t s21))⟩
    (.one ⟨some s23, some (s20, false), (.bin false .gtr (.t s22) (.c (.v (.int .i64 3))))⟩
    (.one ⟨some s24, none, (.pick (.t s20) (.c (.v (.bool true))) (.t s23))⟩
    (.one ⟨some s25, none, (.mv (.t s24))⟩
    (.one ⟨some s26, some (s25, false), (.load (some 1) (.t s5))⟩
    (.one ⟨some s27, some (s25, false), (.faddr 2 (.t s2))⟩
    (.one ⟨some s28, some (s25, false), (.load none (.t s27))⟩
    (.one ⟨some s29, some (s25, false), (.callq 117 [(.t s26), (.t s28)])⟩
    (.one ⟨some s30, some (s25, false), (.not (.t s29))⟩
    (.one ⟨some s31, none, (.pick (.t s25) (.c (.v (.bool true))) (.t s30))⟩
    (.one ⟨some s11, none, (.mv (.t s31))⟩
    .done))))))))))))))))))))))
  (.cond (.t s11) (.seq (.reg (.one ⟨some s4, none, (.mv (.c (.v (.int .i64 0))))⟩
    .done))
  .ret) (.seq (.reg (.one ⟨some s33, none, (.faddr 3 (.t s2))⟩
    (.one ⟨some s34, none, (.load none (.t s33))⟩
    (.one ⟨some s35, none, (.not (.t s34))⟩
    (.one ⟨some s36, none, (.mv (.t s35))⟩
    (.one ⟨some s37, some (s36, true), (.faddr 4 (.t s2))⟩
    (.one ⟨some s38, some (s36, true), (.load none (.t s37))⟩
    (.one ⟨some s39, some (s36, true), (.mv (.t s38))⟩
    (.one ⟨some s40, some (s39, false), (.faddr 5 (.t s2))⟩
    (.one ⟨some s41, some (s39, false), (.load none (.t s40))⟩
    (.one ⟨some s42, some (s39, false), (.bin false .neq (.t s41) (.c (.v (.int .i64 0))))⟩
    (.one ⟨some s43, some (s36, true), (.pick (.t s39) (.c (.v (.bool true))) (.t s42))⟩
    (.one ⟨some s44, none, (.pick (.t s36) (.t s43) (.c (.v (.bool false))))⟩
    (.one ⟨some s45, none, (.mv (.t s44))⟩
    (.one ⟨some s46, some (s45, false), (.faddr 5 (.t s2))⟩
    (.one ⟨some s47, some (s45, false), (.load none (.t s46))⟩
    (.one ⟨some s48, some (s45, false), (.bin false .lss (.t s47) (.c (.v (.int .i64 0))))⟩
    (.one ⟨some s49, none, (.pick (.t s45) (.c (.v (.bool true))) (.t s48))⟩
    (.one ⟨some s50, none, (.mv (.t s49))⟩
    (.one ⟨some s51, some (s50, false), (.faddr 5 (.t s2))⟩
    (.one ⟨some s52, some (s50, false), (.load none (.t s51))⟩
    (.one ⟨some s53, some (s50, false), (.mv (.t s1))⟩
    (.one ⟨some s54, some (s50, false), (.callq 118 [(.t s53)])⟩
    (.one ⟨some s55, some (s50, false), (.bin false .shl (.c (.v (.int .i64 1))) (.t s54))⟩
    (.one ⟨some s56, some (s50, false), (.bin false .geq (.t s52) (.t s55))⟩
    (.one ⟨some s57, none, (.pick (.t s50) (.c (.v (.bool true))) (.t s56))⟩
    (.one ⟨some s32, none, (.mv (.t s57))⟩
    .done)))))))))))))))))))))))))))
  (.cond (.t s32) (.seq (.reg (.one ⟨some s4, none, (.mv (.c (.v (.int .i64 0))))⟩
    .done))
  .ret) (.seq (.reg (.one ⟨some s59, none, (.faddr 6 (.t s2))⟩
    (.one ⟨some s60, none, (.load none (.t s59))⟩
    (.one ⟨some s61, none, (.len false (.t s60))⟩
    (.one ⟨some s62, none, (.bin false .lss (.t s61) (.c (.v (.int .i64 1))))⟩
    (.one ⟨some s63, none, (.mv (.t s62))⟩
    (.one ⟨some s64, some (s63, false), (.faddr 6 (.t s2))⟩
    (.one ⟨some s65, some (s63, false), (.load none (.t s64))⟩
    (.one ⟨some s66, some (s63, false), (.len false (.t s65))⟩
    (.one ⟨some s67, some (s63, false), (.bin false .gtr (.t s66) (.c (.v (.int .i64 24))))⟩
    (.one ⟨some s68, none, (.pick (.t s63) (.c (.v (.bool true))) (.t s67))⟩
    (.one ⟨some s58, none, (.mv (.t s68))⟩
    .done))))))))))))
  (.cond (.t s58) (.seq (.reg (.one ⟨some s4, none, (.mv (.c (.v (.int .i64 0))))⟩
    .done))
  .ret) .skip)))))))
  (.seq (.reg (.one ⟨some s69, none, (.faddr 3 (.t s2))⟩
    (.one ⟨some s70, none, (.load none (.t s69))⟩
    (.one ⟨some s71, none, (.mv (.t s1))⟩
    (.one ⟨some s73, none, (.faddr 6 (.t s2))⟩
    (.one ⟨some s74, none, (.load none (.t s73))⟩
    (.one ⟨some s75, none, (.len false (.t s74))⟩
    (.one ⟨some s76, none, (.bin false .sub (.t s75) (.c (.v (.int .i64 1))))⟩
    (.one ⟨some s77, none, (.mv (.t s1))⟩
    (.one ⟨some s72, none, (.callq 93 [(.t s70), (.t s71)])⟩
    (.one ⟨some s78, none, (.callq 119 [(.t s77)])⟩
    (.one ⟨some s79, none, (.callq 94 [(.t s76), (.t s78)])⟩
    (.one ⟨some s80, none, (.bin false .add (.t s72) (.t s79))⟩
    (.one ⟨some s6, none, (.mv (.t s80))⟩
    .done))))))))))))))
  (.seq (.seq (.reg (.one ⟨some s81, none, (.faddr 6 (.t s2))⟩
    (.one ⟨some s82, none, (.load none (.t s81))⟩
    (.one ⟨some s83, none, (.len false (.t s82))⟩
    (.one ⟨some s84, none, (.mv (.c (.v (.int .i64 0))))⟩
    .done)))))
  (.block 1 (.loop (.seq (.reg (.one ⟨some s85, none, (.bin false .lss (.t s84) (.t s83))⟩
    .done))
  (.seq (.cond (.t s85) .skip (.exit 1))
  (.seq (.block 2 (.seq (.reg (.one ⟨some s86, none, (.mv (.t s84))⟩
    (.one ⟨some s87, none, (.iaddr 1 (.t s82) (.t s84))⟩
    (.one ⟨some s88, none, (.load none (.t s87))⟩
    (.one ⟨some s7, none, (.mv (.t s86))⟩
    (.one ⟨some s8, none, (.mv (.t s88))⟩
    .done))))))
  (.seq (.seq (.reg (.one ⟨some s89, none, (.mv (.t s8))⟩
    (.one ⟨some s90, none, (.len false (.t s89))⟩
    (.one ⟨some s91, none, (.bin false .eql (.t s90) (.c (.v (.int .i64 0))))⟩
    (.one ⟨some s92, none, (.mv (.t s91))⟩
    (.one ⟨some s93, some (s92, false), (.mv (.t s8))⟩
    (.one ⟨some s94, some (s92, false), (.len false (.t s93))⟩
    (.one ⟨some s95, some (s92, false), (.bin false .gtr (.t s94) (.c (.v (.int .i64 2047))))⟩
    (.one ⟨some s96, some (s92, false), (.mv (.t s95))⟩
    (.one ⟨some s97, some (s96, true), (.mv (.t s7))⟩
    (.one ⟨some s98, some (s96, true), (.faddr 6 (.t s2))⟩
    (.one ⟨some s99, some (s96, true), (.load none (.t s98))⟩
    (.one ⟨some s100, some (s96, true), (.len false (.t s99))⟩
    (.one ⟨some s101, some (s96, true), (.bin false .sub (.t s100) (.c (.v (.int .i64 1))))⟩
    (.one ⟨some s102, some (s96, true), (.bin false .lss (.t s97) (.t s101))⟩
    (.one ⟨some s103, some (s92, false), (.pick (.t s96) (.t s102) (.c (.v (.bool false))))⟩
    (.one ⟨some s104, none, (.pick (.t s92) (.c (.v (.bool true))) (.t s103))⟩
    (.one ⟨some s105, none, (.mv (.t s104))⟩
    (.one ⟨some s106, some (s105, false), (.mv (.t s8))⟩
    (.one ⟨some s107, some (s105, false), (.len false (.t s106))⟩
    (.one ⟨some s108, some (s105, false), (.mv (.t s6))⟩
    (.one ⟨some s109, some (s105, false), (.bin false .sub (.c (.v (.int .i64 4000))) (.t s108))⟩
    (.one ⟨some s110, some (s105, false), (.bin false .gtr (.t s107) (.t s109))⟩
    (.one ⟨some s111, none, (.pick (.t s105) (.c (.v (.bool true))) (.t s110))⟩
    .done))))))))))))))))))))))))
  (.cond (.t s111) (.seq (.reg (.one ⟨some s4, none, (.mv (.c (.v (.int .i64 0))))⟩
    .done))
  .ret) .skip))
  (.reg (.one ⟨some s112, none, (.mv (.t s6))⟩
    (.one ⟨some s113, none, (.mv (.t s8))⟩
    (.one ⟨some s114, none, (.len false (.t s113))⟩
    (.one ⟨some s115, none, (.bin false .add (.t s112) (.t s114))⟩
    (.one ⟨some s6, none, (.mv (.t s115))⟩
    .done)))))))))
  (.reg (.one ⟨some s116, none, (.bin false .add (.t s84) (.c (.v (.int .i64 1))))⟩
    (.one ⟨some s84, none, (.mv (.t s116))⟩
    .done)))))))))
  (.seq (.reg (.one ⟨some s117, none, (.mv (.t s6))⟩
    (.one ⟨some s4, none, (.mv (.t s117))⟩
    .done)))
  .ret))))))⟩
theorem ok91 : compF Try.prog c91 Try.f91 = some ir91 := by kernel_rfl
theorem k_amd_Size {args : List AVal} {σ : AHeap} {Q : AVal → AHeap → Prop} (hl : Nat.ble args.length 118 = true) (h : argsK (Env.full 9) 0 args fun env => evC Try.prog c91 ir91.body env σ (retQ ir91 Q)) : ACalls Try.prog 91 args σ Q :=
  acalls_of Try.func91 ok91 rfl (Nat.le_of_ble_eq_true hl) h
/- amd.Head -/
def c93 : Cfg := ⟨qs, [], 15, [], ps⟩
def ir93 : IFun := ⟨2, [.tmp s4],
  (.seq (.reg (.one ⟨some s4, none, (.mv (.c (.v (.int .i64 0))))⟩
    .done))
  (.seq (.seq (.reg (.one ⟨some s6, none, (.mv (.t s1))⟩
    (.one ⟨some s7, none, (.callq 116 [(.t s6)])⟩
    (.one ⟨some s8, none, (.not (.t s7))⟩
    .done))))
  (.cond (.t s8) (.seq (.reg (.one ⟨some s4, none, (.mv (.c (.v (.int .i64 0))))⟩
    .done))
  .ret) .skip))
  (.seq (.reg (.one ⟨some s5, none, (.mv (.c (.v (.int .i64 2))))⟩
    .done))
  (.seq (.seq (.reg (.one ⟨some s9, none, (.mv (.t s1))⟩
    (.one ⟨some s10, none, (.bin false .eql (.t s9) (.c (.v (.int .i64 16))))⟩
    .done)))
  (.cond (.t s10) (.reg (.one ⟨some s5, none, (.mv (.c (.v (.int .i64 3))))⟩
    .done)) .skip))
  (.seq (.seq (.reg (.one ⟨some s11, none, (.mv (.t s0))⟩
    .done))
  (.cond (.t s11) (.reg (.one ⟨some s12, none, (.mv (.t s5))⟩
    (.one ⟨some s13, none, (.bin false .add (.t s12) (.c (.v (.int .i64 2))))⟩
    (.one ⟨some s5, none, (.mv (.t s13))⟩
    .done)))) .skip))
  (.seq (.reg (.one ⟨some s14, none, (.mv (.t s5))⟩
    (.one ⟨some s4, none, (.mv (.t s14))⟩
    .done)))
  .ret))))))⟩
theorem ok93 : compF Try.prog c93 Try.f93 = some ir93 := by kernel_rfl
theorem k_amd_Head {args : List AVal} {σ : AHeap} {Q : AVal → AHeap → Prop} (hl : Nat.ble args.length 15 = true) (h : argsK (Env.full 9) 0 args fun env => evC Try.prog c93 ir93.body env σ (retQ ir93 Q)) : ACalls Try.prog 93 args σ Q :=
  acalls_of Try.func93 ok93 rfl (Nat.le_of_ble_eq_true hl) h
/- amd.isWidth -/
def c116 : Cfg := ⟨qs, [], 9, [], ps⟩
def ir116 : IFun := ⟨1, [.tmp s2],
  (.seq (.reg (.one ⟨some s2, none, (.mv (.c (.v (.bool false))))⟩
    .done))
  (.seq (.reg (.one ⟨some s3, none, (.mv (.t s0))⟩
    (.one ⟨some s4, none, (.bin false .eql (.t s3) (.c (.v (.int .i64 10))))⟩
    (.one ⟨some s5, none, (.mv (.t s4))⟩
    (.one ⟨some s6, some (s5, false), (.mv (.t s0))⟩
    (.one ⟨some s7, some (s5, false), (.bin false .eql (.t s6) (.c (.v (.int .i64 16))))⟩
    (.one ⟨some s8, none, (.pick (.t s5) (.c (.v (.bool true))) (.t s7))⟩
    (.one ⟨some s2, none, (.mv (.t s8))⟩
    .done))))))))
  .ret))⟩
theorem ok116 : compF Try.prog c116 Try.f116 = some ir116 := by kernel_rfl
theorem k_amd_isWidth {args : List AVal} {σ : AHeap} {Q : AVal → AHeap → Prop} (hl : Nat.ble args.length 9 = true) (h : argsK (Env.full 9) 0 args fun env => evC Try.prog c116 ir116.body env σ (retQ ir116 Q)) : ACalls Try.prog 116 args σ Q :=
  acalls_of Try.func116 ok116 rfl (Nat.le_of_ble_eq_true hl) h
/- amd.offsetWidth -/
def c118 : Cfg := ⟨qs, [], 5, [], ps⟩
def ir118 : IFun := ⟨1, [.tmp s2],
  (.seq (.reg (.one ⟨some s2, none, (.mv (.c (.v (.int .i64 0))))⟩
    .done))
  (.seq (.seq (.reg (.one ⟨some s3, none, (.mv (.t s0))⟩
    (.one ⟨some s4, none, (.bin false .eql (.t s3) (.c (.v (.int .i64 10))))⟩
    .done)))
  (.cond (.t s4) (.seq (.reg (.one ⟨some s2, none, (.mv (.c (.v (.int .i64 15))))⟩
    .done))
  .ret) .skip))
  (.seq (.reg (.one ⟨some s2, none, (.mv (.c (.v (.int .i64 16))))⟩
    .done))
  .ret)))⟩
theorem ok118 : compF Try.prog c118 Try.f118 = some ir118 := by kernel_rfl
theorem k_amd_offsetWidth {args : List AVal} {σ : AHeap} {Q : AVal → AHeap → Prop} (hl : Nat.ble args.length 5 = true) (h : argsK (Env.full 9) 0 args fun env => evC Try.prog c118 ir118.body env σ (retQ ir118 Q)) : ACalls Try.prog 118 args σ Q :=
  acalls_of Try.func118 ok118 rfl (Nat.le_of_ble_eq_true hl) h
/- amd.lenWidth -/
def c119 : Cfg := ⟨qs, [], 5, [], ps⟩
def ir119 : IFun := ⟨1, [.tmp s2],
  (.seq (.reg (.one ⟨some s2, none, (.mv (.c (.v (.int .i64 0))))⟩
    .done))
  (.seq (.seq (.reg (.one ⟨some s3, none, (.mv (.t s0))⟩
    (.one ⟨some s4, none, (.bin false .eql (.t s3) (.c (.v (.int .i64 10))))⟩
    .done)))
  (.cond (.t s4) (.seq (.reg (.one ⟨some s2, none, (.mv (.c (.v (.int .i64 11))))⟩
    .done))
  .ret) .skip))
  (.seq (.reg (.one ⟨some s2, none, (.mv (.c (.v (.int .i64 15))))⟩
    .done))
  .ret)))⟩
theorem ok119 : compF Try.prog c119 Try.f119 = some ir119 := by kernel_rfl
theorem k_amd_lenWidth {args : List AVal} {σ : AHeap} {Q : AVal → AHeap → Prop} (hl : Nat.ble args.length 5 = true) (h : argsK (Env.full 9) 0 args fun env => evC Try.prog c119 ir119.body env σ (retQ ir119 Q)) : ACalls Try.prog 119 args σ Q :=
  acalls_of Try.func119 ok119 rfl (Nat.le_of_ble_eq_true hl) h
end Go.Proofs.Ytgobbmdbkmjlnaa
/-
  The bodies of one package, compiled to the framework's language (printed by a program of this session).
-/
namespace Go.Proofs.Ytgobbmdbkmjlnaa
set_option linter.unusedVariables false
set_option linter.unusedSimpArgs false
open Go Go.Am
/- rxbuf.New -/
def c9 : Cfg := ⟨qs, [], 4, [], ps⟩
def ir9 : IFun := ⟨0, [.tmp s0],
  (.seq (.reg (.one ⟨some s0, none, (.mv (.c (.v (.pointer none))))⟩
    .done))
  (.seq (.reg (.one ⟨some s1, none, .mkmap⟩
    (.one ⟨some s2, none, (.build [(.v (.map none))] [(0, 1, (.t s1))])⟩
    (.one ⟨some s3, none, (.box 1 (.t s2))⟩
    (.one ⟨some s0, none, (.mv (.t s3))⟩
    .done)))))
  .ret))⟩
theorem ok9 : compF Try.prog c9 Try.f9 = some ir9 := by kernel_rfl
theorem k_rxbuf_New {args : List AVal} {σ : AHeap} {Q : AVal → AHeap → Prop} (hl : Nat.ble args.length 4 = true) (h : argsK (Env.full 9) 0 args fun env => evC Try.prog c9 ir9.body env σ (retQ ir9 Q)) : ACalls Try.prog 9 args σ Q :=
  acalls_of Try.func9 ok9 rfl (Nat.le_of_ble_eq_true hl) h
/- rxbuf.Buffer).Take -/
def c12 : Cfg := ⟨qs, [], 70, [], ps⟩
def ir12 : IFun := ⟨2, [.tmp s4, .tmp s5, .tmp s6],
  (.seq (.reg (.one ⟨some s4, none, (.mv (.c (.v (.int .i64 0))))⟩
    (.one ⟨some s5, none, (.mv (.c (.slice 1 [] .full)))⟩
    (.one ⟨some s6, none, (.mv (.c (.v (.int .i64 0))))⟩
    .done))))
  (.seq (.reg (.one ⟨some s13, none, (.mv (.t s0))⟩
    (.one ⟨some s14, none, (.mv (.t s1))⟩
    (.one ⟨some s15, none, (.callq 52 [(.t s13), (.t s14)])⟩
    (.one ⟨some s12, none, (.mv (.t s15))⟩
    (.one ⟨some s16, none, (.ext (.t s12) 0)⟩
    (.one ⟨some s17, none, (.ext (.t s12) 1)⟩
    (.one ⟨some s7, none, (.mv (.t s16))⟩
    (.one ⟨some s8, none, (.mv (.t s17))⟩
    .done)))))))))
  (.seq (.block 0 (.seq (.reg (.one ⟨some s19, none, (.mv (.t s8))⟩
    (.one ⟨some s20, none, (.bin false .neq (.t s19) (.c (.v (.int .i64 0))))⟩
    (.one ⟨some s18, none, (.mv (.t s20))⟩
    .done))))
  (.cond (.t s18) (.seq (.reg (.one ⟨some s21, none, (.mv (.t s8))⟩
    (.one ⟨some s4, none, (.mv (.c (.v (.int .i64 0))))⟩
    (.one ⟨some s5, none, (.mv (.c (.slice 1 [] .full)))⟩
    (.one ⟨some s6, none, (.mv (.t s21))⟩
    .done)))))
  .ret) (.seq (.reg (.one ⟨some s23, none, (.mv (.t s7))⟩
    (.one ⟨some s24, none, (.callq 53 [(.t s23)])⟩
    (.one ⟨some s25, none, (.not (.t s24))⟩
    (.one ⟨some s22, none, (.mv (.t s25))⟩
    .done)))))
  (.cond (.t s22) (.seq (.reg (.one ⟨some s4, none, (.mv (.c (.v (.int .i64 0))))⟩
    (.one ⟨some s5, none, (.mv (.c (.slice 1 [] .full)))⟩
    (.one ⟨some s6, none, (.mv (.c (.v (.int .i64 8))))⟩
    .done))))
  .ret) .skip)))))
  (.seq (.reg (.one ⟨some s9, none, (.mv (.c (.slice 1 [] .full)))⟩
    .done))
  (.seq (.reg (.one ⟨some s10, none, (.mv (.c (.v (.int .i64 0))))⟩
    .done))
  (.seq (.seq (.reg (.one ⟨some s11, none, (.mv (.c (.v (.int .i64 1))))⟩
    .done))
  (.block 1 (.loop (.seq (.seq (.reg (.one ⟨some s26, none, (.mv (.t s11))⟩
    (.one ⟨some s27, none, (.mv (.t s7))⟩
    (.one ⟨some s28, none, (.nilchk (.t s27))⟩
    (.one ⟨some s29, none, (.faddr 2 (.t s28))⟩
    (.one ⟨some s30, none, (.load none (.t s29))⟩
    (.one ⟨some s31, none, (.bin false .leq (.t s26) (.t s30))⟩
    .done)))))))
  (.cond (.t s31) .skip (.exit 1)))
  (.seq (.block 2 (.seq (.reg (.one ⟨some s34, none, (.mv (.t s11))⟩
    (.one ⟨some s35, none, (.mv (.t s7))⟩
    (.one ⟨some s36, none, (.nilchk (.t s35))⟩
    (.one ⟨some s37, none, (.faddr 2 (.t s36))⟩
    (.one ⟨some s38, none, (.load none (.t s37))⟩
    (.one ⟨some s39, none, (.bin false .eql (.t s34) (.t s38))⟩
    (.one ⟨some s40, none, (.mv (.t s39))⟩
    (.one ⟨some s41, some (s40, false), (.mv (.t s7))⟩
    (.one ⟨some s42, some (s40, false), (.nilchk (.t s41))⟩
    (.one ⟨some s43, some (s40, false), (.faddr 3 (.t s42))⟩
    (.one ⟨some s44, some (s40, false), (.load none (.t s43))⟩
    (.one ⟨some s45, some (s40, false), (.mv (.t s11))⟩
    (.one ⟨some s46, some (s40, false), (.look (.v (.bool false)) (.t s44) (.t s45))⟩
    (.one ⟨some s47, none, (.pick (.t s40) (.c (.v (.bool true))) (.t s46))⟩
    .done)))))))))))))))
  (.cond (.t s47) (.seq (.reg (.one ⟨some s48, none, (.mv (.t s9))⟩
    (.one ⟨some s49, none, (.mv (.t s7))⟩
    (.one ⟨some s50, none, (.nilchk (.t s49))⟩
    (.one ⟨some s51, none, (.faddr 0 (.t s50))⟩
    (.one ⟨some s52, none, (.load none (.t s51))⟩
    (.one ⟨some s53, none, (.mv (.t s10))⟩
    (.one ⟨some s54, none, (.mv (.t s11))⟩
    (.one ⟨some s55, none, (.cut 1 (.t s52) (some (.t s53)) (some (.t s54)) none)⟩
    (.one ⟨some s56, none, (.callq 54 [(.t s55)])⟩
    (.one ⟨some s57, none, (.row 1 [(.t s56)])⟩
    (.one ⟨some s58, none, (.app 1 24 (.t s48) (.t s57))⟩
    (.one ⟨some s9, none, (.mv (.t s58))⟩
    .done)))))))))))))
  (.reg (.one ⟨some s59, none, (.mv (.t s11))⟩
    (.one ⟨some s10, none, (.mv (.t s59))⟩
    .done)))) .skip)))
  (.reg (.one ⟨some s32, none, (.mv (.t s11))⟩
    (.one ⟨some s33, none, (.bin false .add (.t s32) (.c (.v (.int .i64 1))))⟩
    (.one ⟨some s11, none, (.mv (.t s33))⟩
    .done)))))))))
  (.seq (.reg (.one ⟨some s60, none, (.mv (.t s0))⟩
    (.one ⟨some s61, none, (.nilchk (.t s60))⟩
    (.one ⟨some s62, none, (.faddr 0 (.t s61))⟩
    (.one ⟨some s63, none, (.load none (.t s62))⟩
    (.one ⟨some s64, none, (.mv (.t s1))⟩
    (.one ⟨none, none, (.mdel (.t s63) (.t s64))⟩
    .done)))))))
  (.seq (.reg (.one ⟨some s65, none, (.mv (.t s7))⟩
    (.one ⟨some s66, none, (.nilchk (.t s65))⟩
    (.one ⟨some s67, none, (.faddr 4 (.t s66))⟩
    (.one ⟨some s68, none, (.load none (.t s67))⟩
    (.one ⟨some s69, none, (.mv (.t s9))⟩
    (.one ⟨some s4, none, (.mv (.t s68))⟩
    (.one ⟨some s5, none, (.mv (.t s69))⟩
    (.one ⟨some s6, none, (.mv (.c (.v (.int .i64 0))))⟩
    .done)))))))))
  .ret))))))))⟩
theorem ok12 : compF Try.prog c12 Try.f12 = some ir12 := by kernel_rfl
theorem k_rxbuf_Buffer_Take {args : List AVal} {σ : AHeap} {Q : AVal → AHeap → Prop} (hl : Nat.ble args.length 70 = true) (h : argsK (Env.full 9) 0 args fun env => evC Try.prog c12 ir12.body env σ (retQ ir12 Q)) : ACalls Try.prog 12 args σ Q :=
  acalls_of Try.func12 ok12 rfl (Nat.le_of_ble_eq_true hl) h
/- rxbuf.Buffer).Bytes -/
def c13 : Cfg := ⟨qs, [], 27, [], ps⟩
def ir13 : IFun := ⟨1, [.tmp s2],
  (.seq (.reg (.one ⟨some s2, none, (.mv (.c (.v (.int .i64 0))))⟩
    .done))
  (.seq (.reg (.one ⟨some s3, none, (.mv (.c (.v (.int .i64 0))))⟩
    .done))
  (.seq (.seq (.reg (.one ⟨some s6, none, (.mv (.t s0))⟩
    (.one ⟨some s7, none, (.callq 24 [(.t s6)])⟩
    (.one ⟨some s8, none, (.len false (.t s7))⟩
    (.one ⟨some s9, none, (.mv (.c (.v (.int .i64 0))))⟩
    .done)))))
  (.block 0 (.loop (.seq (.reg (.one ⟨some s10, none, (.bin false .lss (.t s9) (.t s8))⟩
    .done))
  (.seq (.cond (.t s10) .skip (.exit 0))
  (.seq (.block 1 (.seq (.reg (.one ⟨some s11, none, (.iaddr 1 (.t s7) (.t s9))⟩
    (.one ⟨some s12, none, (.load none (.t s11))⟩
    (.one ⟨some s5, none, (.mv (.t s12))⟩
    .done))))
  (.reg (.one ⟨some s13, none, (.mv (.t s3))⟩
    (.one ⟨some s14, none, (.mv (.t s0))⟩
    (.one ⟨some s15, none, (.nilchk (.t s14))⟩
    (.one ⟨some s16, none, (.faddr 0 (.t s15))⟩
    (.one ⟨some s17, none, (.load none (.t s16))⟩
    (.one ⟨some s18, none, (.mv (.t s5))⟩
    (.one ⟨some s19, none, (.look (.v (.pointer none)) (.t s17) (.t s18))⟩
    (.one ⟨some s20, none, (.nilchk (.t s19))⟩
    (.one ⟨some s21, none, (.faddr 1 (.t s20))⟩
    (.one ⟨some s22, none, (.load none (.t s21))⟩
    (.one ⟨some s23, none, (.callq 55 [(.t s22)])⟩
    (.one ⟨some s24, none, (.bin false .add (.t s13) (.t s23))⟩
    (.one ⟨some s3, none, (.mv (.t s24))⟩
    .done))))))))))))))))
  (.reg (.one ⟨some s25, none, (.bin false .add (.t s9) (.c (.v (.int .i64 1))))⟩
    (.one ⟨some s9, none, (.mv (.t s25))⟩
    .done)))))))))
  (.seq (.reg (.one ⟨some s26, none, (.mv (.t s3))⟩
    (.one ⟨some s2, none, (.mv (.t s26))⟩
    .done)))
  .ret))))⟩
theorem ok13 : compF Try.prog c13 Try.f13 = some ir13 := by kernel_rfl
theorem k_rxbuf_Buffer_Bytes {args : List AVal} {σ : AHeap} {Q : AVal → AHeap → Prop} (hl : Nat.ble args.length 27 = true) (h : argsK (Env.full 9) 0 args fun env => evC Try.prog c13 ir13.body env σ (retQ ir13 Q)) : ACalls Try.prog 13 args σ Q :=
  acalls_of Try.func13 ok13 rfl (Nat.le_of_ble_eq_true hl) h
/- rxbuf.Buffer).Missing -/
def c14 : Cfg := ⟨qs, [], 41, [], ps⟩
def ir14 : IFun := ⟨2, [.tmp s4],
  (.seq (.reg (.one ⟨some s4, none, (.mv (.c (.slice 2 [] .full)))⟩
    .done))
  (.seq (.reg (.one ⟨some s8, none, (.mv (.t s0))⟩
    (.one ⟨some s9, none, (.mv (.t s1))⟩
    (.one ⟨some s10, none, (.callq 52 [(.t s8), (.t s9)])⟩
    (.one ⟨some s7, none, (.mv (.t s10))⟩
    (.one ⟨some s11, none, (.ext (.t s7) 0)⟩
    (.one ⟨some s12, none, (.ext (.t s7) 1)⟩
    (.one ⟨some s5, none, (.mv (.t s11))⟩
    (.one ⟨some s6, none, (.mv (.t s12))⟩
    .done)))))))))
  (.seq (.seq (.reg (.one ⟨some s13, none, (.mv (.t s6))⟩
    (.one ⟨some s14, none, (.bin false .neq (.t s13) (.c (.v (.int .i64 0))))⟩
    .done)))
  (.cond (.t s14) (.seq (.reg (.one ⟨some s4, none, (.mv (.c (.slice 2 [] .full)))⟩
    .done))
  .ret) .skip))
  (.seq (.seq (.reg (.one ⟨some s15, none, (.mv (.t s5))⟩
    (.one ⟨some s16, none, (.nilchk (.t s15))⟩
    (.one ⟨some s17, none, (.faddr 2 (.t s16))⟩
    (.one ⟨some s18, none, (.load none (.t s17))⟩
    (.one ⟨some s19, none, (.bin false .neq (.t s18) (.c (.v (.int .i64 (-1)))))⟩
    .done))))))
  (.cond (.t s19) (.seq (.reg (.one ⟨some s20, none, (.mv (.t s5))⟩
    (.one ⟨some s21, none, (.nilchk (.t s20))⟩
    (.one ⟨some s22, none, (.faddr 1 (.t s21))⟩
    (.one ⟨some s23, none, (.load none (.t s22))⟩
    (.one ⟨some s24, none, (.mv (.t s5))⟩
    (.one ⟨some s25, none, (.nilchk (.t s24))⟩
    (.one ⟨some s26, none, (.faddr 2 (.t s25))⟩
    (.one ⟨some s27, none, (.load none (.t s26))⟩
    (.one ⟨some s28, none, (.callq 56 [(.t s23), (.t s27)])⟩
    (.one ⟨some s4, none, (.mv (.t s28))⟩
    .done)))))))))))
  .ret) .skip))
  (.seq (.reg (.one ⟨some s29, none, (.mv (.t s5))⟩
    (.one ⟨some s30, none, (.nilchk (.t s29))⟩
    (.one ⟨some s31, none, (.faddr 1 (.t s30))⟩
    (.one ⟨some s32, none, (.load none (.t s31))⟩
    (.one ⟨some s33, none, (.mv (.t s5))⟩
    (.one ⟨some s36, none, (.mv (.t s5))⟩
    (.one ⟨some s34, none, (.callq 57 [(.t s33)])⟩
    (.one ⟨some s35, none, (.callq 56 [(.t s32), (.t s34)])⟩
    (.one ⟨some s37, none, (.callq 57 [(.t s36)])⟩
    (.one ⟨some s38, none, (.build [(.v (.int .i64 0)), (.v (.int .i64 0))] [(0, 1, (.t s37))])⟩
    (.one ⟨some s39, none, (.row 2 [(.t s38)])⟩
    (.one ⟨some s40, none, (.app 2 16 (.t s35) (.t s39))⟩
    (.one ⟨some s4, none, (.mv (.t s40))⟩
    .done))))))))))))))
  .ret)))))⟩
theorem ok14 : compF Try.prog c14 Try.f14 = some ir14 := by kernel_rfl
theorem k_rxbuf_Buffer_Missing {args : List AVal} {σ : AHeap} {Q : AVal → AHeap → Prop} (hl : Nat.ble args.length 41 = true) (h : argsK (Env.full 9) 0 args fun env => evC Try.prog c14 ir14.body env σ (retQ ir14 Q)) : ACalls Try.prog 14 args σ Q :=
  acalls_of Try.func14 ok14 rfl (Nat.le_of_ble_eq_true hl) h
/- rxbuf.Buffer).Whole -/
def c15 : Cfg := ⟨qs, [], 19, [], ps⟩
def ir15 : IFun := ⟨2, [.tmp s4],
  (.seq (.reg (.one ⟨some s4, none, (.mv (.c (.v (.bool false))))⟩
    .done))
  (.seq (.reg (.one ⟨some s8, none, (.mv (.t s0))⟩
    (.one ⟨some s9, none, (.mv (.t s1))⟩
    (.one ⟨some s10, none, (.callq 52 [(.t s8), (.t s9)])⟩
    (.one ⟨some s7, none, (.mv (.t s10))⟩
    (.one ⟨some s11, none, (.ext (.t s7) 0)⟩
    (.one ⟨some s12, none, (.ext (.t s7) 1)⟩
    (.one ⟨some s5, none, (.mv (.t s11))⟩
    (.one ⟨some s6, none, (.mv (.t s12))⟩
    .done)))))))))
  (.seq (.reg (.one ⟨some s13, none, (.mv (.t s6))⟩
    (.one ⟨some s14, none, (.bin false .eql (.t s13) (.c (.v (.int .i64 0))))⟩
    (.one ⟨some s15, none, (.mv (.t s14))⟩
    (.one ⟨some s16, some (s15, true), (.mv (.t s5))⟩
    (.one ⟨some s17, some (s15, true), (.callq 53 [(.t s16)])⟩
    (.one ⟨some s18, none, (.pick (.t s15) (.t s17) (.c (.v (.bool false))))⟩
    (.one ⟨some s4, none, (.mv (.t s18))⟩
    .done))))))))
  .ret)))⟩
theorem ok15 : compF Try.prog c15 Try.f15 = some ir15 := by kernel_rfl
theorem k_rxbuf_Buffer_Whole {args : List AVal} {σ : AHeap} {Q : AVal → AHeap → Prop} (hl : Nat.ble args.length 19 = true) (h : argsK (Env.full 9) 0 args fun env => evC Try.prog c15 ir15.body env σ (retQ ir15 Q)) : ACalls Try.prog 15 args σ Q :=
  acalls_of Try.func15 ok15 rfl (Nat.le_of_ble_eq_true hl) h
/- rxbuf.Buffer).Put -/
def c16 : Cfg := ⟨qs, [], 104, [], ps⟩
def ir16 : IFun := ⟨2, [.tmp s4],
  (.seq (.reg (.one ⟨some s3, none, (.box 7 (.t s1))⟩
    (.one ⟨some s4, none, (.mv (.c (.v (.int .i64 0))))⟩
    .done)))
  (.seq (.block 0 (.seq (.reg (.one ⟨some s15, none, (.mv (.t s0))⟩
    (.one ⟨some s16, none, (.callq 58 [(.t s15)])⟩
    (.one ⟨some s17, none, (.not (.t s16))⟩
    (.one ⟨some s14, none, (.mv (.t s17))⟩
    .done)))))
  (.cond (.t s14) (.seq (.reg (.one ⟨some s4, none, (.mv (.c (.v (.int .i64 6))))⟩
    .done))
  .ret) (.seq (.reg (.one ⟨some s19, none, (.load (some 7) (.t s3))⟩
    (.one ⟨some s20, none, (.callq 59 [(.t s19)])⟩
    (.one ⟨some s21, none, (.not (.t s20))⟩
    (.one ⟨some s18, none, (.mv (.t s21))⟩
    .done)))))
  (.cond (.t s18) (.seq (.reg (.one ⟨some s4, none, (.mv (.c (.v (.int .i64 1))))⟩
    .done))
  .ret) .skip)))))
  (.seq (.reg (.one ⟨some s22, none, (.load (some 7) (.t s3))⟩
    (.one ⟨some s23, none, (.callq 33 [(.t s22)])⟩
    (.one ⟨some s5, none, (.mv (.t s23))⟩
    .done))))
  (.seq (.reg (.one ⟨some s24, none, (.faddr 5 (.t s3))⟩
    (.one ⟨some s25, none, (.load none (.t s24))⟩
    (.one ⟨some s26, none, (.faddr 5 (.t s3))⟩
    (.one ⟨some s27, none, (.load none (.t s26))⟩
    (.one ⟨some s28, none, (.mv (.t s5))⟩
    (.one ⟨some s29, none, (.len false (.t s28))⟩
    (.one ⟨some s30, none, (.bin false .add (.t s27) (.t s29))⟩
    (.one ⟨some s31, none, (.build [(.v (.int .i64 0)), (.v (.int .i64 0))] [(0, 1, (.t s25)), (1, 1, (.t s30))])⟩
    (.one ⟨some s6, none, (.new [(.v (.int .i64 0)), (.v (.int .i64 0))])⟩
    (.one ⟨none, none, (.store 2 (.t s6) (.t s31))⟩
    .done)))))))))))
  (.seq (.reg (.one ⟨some s32, none, (.faddr 3 (.t s3))⟩
    (.one ⟨some s33, none, (.load none (.t s32))⟩
    (.one ⟨some s34, none, (.not (.t s33))⟩
    (.one ⟨some s35, none, (.mv (.t s34))⟩
    (.one ⟨some s36, some (s35, false), (.faddr 4 (.t s3))⟩
    (.one ⟨some s37, some (s35, false), (.load none (.t s36))⟩
    (.one ⟨some s38, none, (.pick (.t s35) (.c (.v (.bool true))) (.t s37))⟩
    (.one ⟨some s7, none, (.mv (.t s38))⟩
    .done)))))))))
  (.seq (.reg (.one ⟨some s39, none, (.mv (.t s0))⟩
    (.one ⟨some s40, none, (.nilchk (.t s39))⟩
    (.one ⟨some s41, none, (.faddr 0 (.t s40))⟩
    (.one ⟨some s42, none, (.load none (.t s41))⟩
    (.one ⟨some s43, none, (.faddr 2 (.t s3))⟩
    (.one ⟨some s44, none, (.load none (.t s43))⟩
    (.one ⟨some s45, none, (.look (.v (.pointer none)) (.t s42) (.t s44))⟩
    (.one ⟨some s8, none, (.mv (.t s45))⟩
    .done)))))))))
  (.seq (.seq (.reg (.one ⟨some s46, none, (.mv (.t s8))⟩
    (.one ⟨some s47, none, (.eqNil 1 false (.t s46))⟩
    .done)))
  (.cond (.t s47) (.seq (.reg (.one ⟨some s49, none, (.callq 60 [(.c (.slice 2 [] .full))])⟩
    (.one ⟨some s48, none, (.mv (.t s49))⟩
    (.one ⟨some s50, none, (.ext (.t s48) 0)⟩
    (.one ⟨some s51, none, (.ext (.t s48) 1)⟩
    (.one ⟨some s9, none, (.mv (.t s50))⟩
    (.one ⟨some s10, none, (.mv (.t s51))⟩
    .done)))))))
  (.seq (.seq (.reg (.one ⟨some s52, none, (.mv (.t s10))⟩
    (.one ⟨some s53, none, (.bin false .neq (.t s52) (.c (.v (.int .i64 0))))⟩
    .done)))
  (.cond (.t s53) (.seq (.reg (.one ⟨some s54, none, (.mv (.t s10))⟩
    (.one ⟨some s4, none, (.mv (.t s54))⟩
    .done)))
  .ret) .skip))
  (.reg (.one ⟨some s55, none, (.mv (.t s9))⟩
    (.one ⟨some s56, none, .mkmap⟩
    (.one ⟨some s57, none, (.build [(.slice 1 [] .full), (.v (.pointer none)), (.v (.int .i64 0)), (.v (.map none)), (.v (.int .i64 0))] [(1, 1, (.t s55)), (2, 1, (.c (.v (.int .i64 (-1))))), (3, 1, (.t s56))])⟩
    (.one ⟨some s58, none, (.box 5 (.t s57))⟩
    (.one ⟨some s8, none, (.mv (.t s58))⟩
    .done)))))))) .skip))
  (.seq (.seq (.reg (.one ⟨some s59, none, (.mv (.t s8))⟩
    (.one ⟨some s60, none, (.load (some 2) (.t s6))⟩
    (.one ⟨some s61, none, (.mv (.t s7))⟩
    (.one ⟨some s62, none, (.callq 61 [(.t s59), (.t s60), (.t s61)])⟩
    (.one ⟨some s11, none, (.mv (.t s62))⟩
    .done))))))
  (.seq (.reg (.one ⟨some s63, none, (.mv (.t s11))⟩
    (.one ⟨some s64, none, (.bin false .neq (.t s63) (.c (.v (.int .i64 0))))⟩
    .done)))
  (.cond (.t s64) (.seq (.reg (.one ⟨some s65, none, (.mv (.t s11))⟩
    (.one ⟨some s4, none, (.mv (.t s65))⟩
    .done)))
  .ret) .skip)))
  (.seq (.reg (.one ⟨some s66, none, (.mv (.t s8))⟩
    (.one ⟨some s67, none, (.nilchk (.t s66))⟩
    (.one ⟨some s68, none, (.faddr 0 (.t s67))⟩
    (.one ⟨some s69, none, (.load none (.t s68))⟩
    (.one ⟨some s12, none, (.mv (.t s69))⟩
    .done))))))
  (.seq (.reg (.one ⟨some s70, none, (.mv (.t s8))⟩
    (.one ⟨some s71, none, (.mv (.t s12))⟩
    (.one ⟨some s72, none, (.callq 54 [(.t s71)])⟩
    (.one ⟨some s73, none, (.nilchk (.t s70))⟩
    (.one ⟨some s74, none, (.faddr 0 (.t s73))⟩
    (.one ⟨none, none, (.store 1 (.t s74) (.t s72))⟩
    .done)))))))
  (.seq (.reg (.one ⟨some s75, none, (.mv (.t s8))⟩
    (.one ⟨some s76, none, (.faddr 5 (.t s3))⟩
    (.one ⟨some s77, none, (.load none (.t s76))⟩
    (.one ⟨some s78, none, (.mv (.t s5))⟩
    (.one ⟨some s79, none, (.call 62 [(.t s75), (.t s77), (.t s78)])⟩
    .done))))))
  (.seq (.seq (.reg (.one ⟨some s80, none, (.mv (.t s8))⟩
    (.one ⟨some s81, none, (.nilchk (.t s80))⟩
    (.one ⟨some s82, none, (.faddr 1 (.t s81))⟩
    (.one ⟨some s83, none, (.load none (.t s82))⟩
    (.one ⟨some s84, none, (.load (some 2) (.t s6))⟩
    (.one ⟨some s85, none, (.call 63 [(.t s83), (.t s84)])⟩
    (.one ⟨some s13, none, (.mv (.t s85))⟩
    .done))))))))
  (.seq (.reg (.one ⟨some s86, none, (.mv (.t s13))⟩
    (.one ⟨some s87, none, (.bin false .neq (.t s86) (.c (.v (.int .i64 0))))⟩
    .done)))
  (.cond (.t s87) (.seq (.reg (.one ⟨some s88, none, (.mv (.t s8))⟩
    (.one ⟨some s89, none, (.mv (.t s12))⟩
    (.one ⟨some s90, none, (.nilchk (.t s88))⟩
    (.one ⟨some s91, none, (.faddr 0 (.t s90))⟩
    (.one ⟨none, none, (.store 1 (.t s91) (.t s89))⟩
    .done))))))
  (.seq (.reg (.one ⟨some s92, none, (.mv (.t s13))⟩
    (.one ⟨some s4, none, (.mv (.t s92))⟩
    .done)))
  .ret)) .skip)))
  (.seq (.reg (.one ⟨some s93, none, (.mv (.t s8))⟩
    (.one ⟨some s94, none, (.load (some 7) (.t s3))⟩
    (.one ⟨some s95, none, (.mv (.t s7))⟩
    (.one ⟨some s96, none, (.call 64 [(.t s93), (.t s94), (.t s95)])⟩
    .done)))))
  (.seq (.reg (.one ⟨some s97, none, (.mv (.t s0))⟩
    (.one ⟨some s98, none, (.nilchk (.t s97))⟩
    (.one ⟨some s99, none, (.faddr 0 (.t s98))⟩
    (.one ⟨some s100, none, (.load none (.t s99))⟩
    (.one ⟨some s101, none, (.faddr 2 (.t s3))⟩
    (.one ⟨some s102, none, (.load none (.t s101))⟩
    (.one ⟨some s103, none, (.mv (.t s8))⟩
    (.one ⟨none, none, (.mset (.t s100) (.t s102) (.t s103))⟩
    .done)))))))))
  (.seq (.reg (.one ⟨some s4, none, (.mv (.c (.v (.int .i64 0))))⟩
    .done))
  .ret)))))))))))))))⟩
theorem ok16 : compF Try.prog c16 Try.f16 = some ir16 := by kernel_rfl
theorem k_rxbuf_Buffer_Put {args : List AVal} {σ : AHeap} {Q : AVal → AHeap → Prop} (hl : Nat.ble args.length 104 = true) (h : argsK (Env.full 9) 0 args fun env => evC Try.prog c16 ir16.body env σ (retQ ir16 Q)) : ACalls Try.prog 16 args σ Q :=
  acalls_of Try.func16 ok16 rfl (Nat.le_of_ble_eq_true hl) h
/- rxbuf.Buffer).find -/
def c52 : Cfg := ⟨qs, [], 19, [], ps⟩
def ir52 : IFun := ⟨2, [.tmp s4, .tmp s5],
  (.seq (.reg (.one ⟨some s4, none, (.mv (.c (.v (.pointer none))))⟩
    (.one ⟨some s5, none, (.mv (.c (.v (.int .i64 0))))⟩
    .done)))
  (.seq (.seq (.reg (.one ⟨some s7, none, (.mv (.t s0))⟩
    (.one ⟨some s8, none, (.callq 58 [(.t s7)])⟩
    (.one ⟨some s9, none, (.not (.t s8))⟩
    .done))))
  (.cond (.t s9) (.seq (.reg (.one ⟨some s4, none, (.mv (.c (.v (.pointer none))))⟩
    (.one ⟨some s5, none, (.mv (.c (.v (.int .i64 6))))⟩
    .done)))
  .ret) .skip))
  (.seq (.reg (.one ⟨some s10, none, (.mv (.t s0))⟩
    (.one ⟨some s11, none, (.nilchk (.t s10))⟩
    (.one ⟨some s12, none, (.faddr 0 (.t s11))⟩
    (.one ⟨some s13, none, (.load none (.t s12))⟩
    (.one ⟨some s14, none, (.mv (.t s1))⟩
    (.one ⟨some s15, none, (.look (.v (.pointer none)) (.t s13) (.t s14))⟩
    (.one ⟨some s6, none, (.mv (.t s15))⟩
    .done))))))))
  (.seq (.seq (.reg (.one ⟨some s16, none, (.mv (.t s6))⟩
    (.one ⟨some s17, none, (.eqNil 1 false (.t s16))⟩
    .done)))
  (.cond (.t s17) (.seq (.reg (.one ⟨some s4, none, (.mv (.c (.v (.pointer none))))⟩
    (.one ⟨some s5, none, (.mv (.c (.v (.int .i64 4))))⟩
    .done)))
  .ret) .skip))
  (.seq (.reg (.one ⟨some s18, none, (.mv (.t s6))⟩
    (.one ⟨some s4, none, (.mv (.t s18))⟩
    (.one ⟨some s5, none, (.mv (.c (.v (.int .i64 0))))⟩
    .done))))
  .ret)))))⟩
theorem ok52 : compF Try.prog c52 Try.f52 = some ir52 := by kernel_rfl
theorem k_rxbuf_Buffer_find {args : List AVal} {σ : AHeap} {Q : AVal → AHeap → Prop} (hl : Nat.ble args.length 19 = true) (h : argsK (Env.full 9) 0 args fun env => evC Try.prog c52 ir52.body env σ (retQ ir52 Q)) : ACalls Try.prog 52 args σ Q :=
  acalls_of Try.func52 ok52 rfl (Nat.le_of_ble_eq_true hl) h
/- rxbuf.piece).whole -/
def c53 : Cfg := ⟨qs, [], 20, [], ps⟩
def ir53 : IFun := ⟨1, [.tmp s2],
  (.seq (.reg (.one ⟨some s2, none, (.mv (.c (.v (.bool false))))⟩
    .done))
  (.seq (.reg (.one ⟨some s3, none, (.mv (.t s0))⟩
    (.one ⟨some s4, none, (.nilchk (.t s3))⟩
    (.one ⟨some s5, none, (.faddr 2 (.t s4))⟩
    (.one ⟨some s6, none, (.load none (.t s5))⟩
    (.one ⟨some s7, none, (.bin false .gtr (.t s6) (.c (.v (.int .i64 0))))⟩
    (.one ⟨some s8, none, (.mv (.t s7))⟩
    (.one ⟨some s9, some (s8, true), (.mv (.t s0))⟩
    (.one ⟨some s10, some (s8, true), (.nilchk (.t s9))⟩
    (.one ⟨some s11, some (s8, true), (.faddr 1 (.t s10))⟩
    (.one ⟨some s12, some (s8, true), (.load none (.t s11))⟩
    (.one ⟨some s13, some (s8, true), (.mv (.t s0))⟩
    (.one ⟨some s14, some (s8, true), (.nilchk (.t s13))⟩
    (.one ⟨some s15, some (s8, true), (.faddr 2 (.t s14))⟩
    (.one ⟨some s16, some (s8, true), (.load none (.t s15))⟩
    (.one ⟨some s17, some (s8, true), (.build [(.v (.int .i64 0)), (.v (.int .i64 0))] [(0, 1, (.c (.v (.int .i64 0)))), (1, 1, (.t s16))])⟩
    (.one ⟨some s18, some (s8, true), (.callq 79 [(.t s12), (.t s17)])⟩
    (.one ⟨some s19, none, (.pick (.t s8) (.t s18) (.c (.v (.bool false))))⟩
    (.one ⟨some s2, none, (.mv (.t s19))⟩
    .done)))))))))))))))))))
  .ret))⟩
theorem ok53 : compF Try.prog c53 Try.f53 = some ir53 := by kernel_rfl
theorem k_rxbuf_piece_whole {args : List AVal} {σ : AHeap} {Q : AVal → AHeap → Prop} (hl : Nat.ble args.length 20 = true) (h : argsK (Env.full 9) 0 args fun env => evC Try.prog c53 ir53.body env σ (retQ ir53 Q)) : ACalls Try.prog 53 args σ Q :=
  acalls_of Try.func53 ok53 rfl (Nat.le_of_ble_eq_true hl) h
/- rxbuf.piece).top -/
def c57 : Cfg := ⟨qs, [], 19, [], ps⟩
def ir57 : IFun := ⟨1, [.tmp s2],
  (.seq (.reg (.one ⟨some s2, none, (.mv (.c (.v (.int .i64 0))))⟩
    .done))
  (.seq (.reg (.one ⟨some s4, none, (.mv (.t s0))⟩
    (.one ⟨some s5, none, (.nilchk (.t s4))⟩
    (.one ⟨some s6, none, (.faddr 1 (.t s5))⟩
    (.one ⟨some s7, none, (.load none (.t s6))⟩
    (.one ⟨some s8, none, (.callq 80 [(.t s7)])⟩
    (.one ⟨some s3, none, (.mv (.t s8))⟩
    .done)))))))
  (.seq (.seq (.reg (.one ⟨some s9, none, (.mv (.t s3))⟩
    (.one ⟨some s10, none, (.len false (.t s9))⟩
    (.one ⟨some s11, none, (.bin false .eql (.t s10) (.c (.v (.int .i64 0))))⟩
    .done))))
  (.cond (.t s11) (.seq (.reg (.one ⟨some s2, none, (.mv (.c (.v (.int .i64 0))))⟩
    .done))
  .ret) .skip))
  (.seq (.reg (.one ⟨some s12, none, (.mv (.t s3))⟩
    (.one ⟨some s13, none, (.mv (.t s3))⟩
    (.one ⟨some s14, none, (.len false (.t s13))⟩
    (.one ⟨some s15, none, (.bin false .sub (.t s14) (.c (.v (.int .i64 1))))⟩
    (.one ⟨some s16, none, (.iaddr 2 (.t s12) (.t s15))⟩
    (.one ⟨some s17, none, (.faddr 1 (.t s16))⟩
    (.one ⟨some s18, none, (.load none (.t s17))⟩
    (.one ⟨some s2, none, (.mv (.t s18))⟩
    .done)))))))))
  .ret))))⟩
theorem ok57 : compF Try.prog c57 Try.f57 = some ir57 := by kernel_rfl
theorem k_rxbuf_piece_top {args : List AVal} {σ : AHeap} {Q : AVal → AHeap → Prop} (hl : Nat.ble args.length 19 = true) (h : argsK (Env.full 9) 0 args fun env => evC Try.prog c57 ir57.body env σ (retQ ir57 Q)) : ACalls Try.prog 57 args σ Q :=
  acalls_of Try.func57 ok57 rfl (Nat.le_of_ble_eq_true hl) h
/- rxbuf.Buffer).made -/
def c58 : Cfg := ⟨qs, [], 12, [], ps⟩
def ir58 : IFun := ⟨1, [.tmp s2],
  (.seq (.reg (.one ⟨some s2, none, (.mv (.c (.v (.bool false))))⟩
    .done))
  (.seq (.reg (.one ⟨some s3, none, (.mv (.t s0))⟩
    (.one ⟨some s4, none, (.eqNil 1 true (.t s3))⟩
    (.one ⟨some s5, none, (.mv (.t s4))⟩
    (.one ⟨some s6, some (s5, true), (.mv (.t s0))⟩
    (.one ⟨some s7, some (s5, true), (.nilchk (.t s6))⟩
    (.one ⟨some s8, some (s5, true), (.faddr 0 (.t s7))⟩
    (.one ⟨some s9, some (s5, true), (.load none (.t s8))⟩
    (.one ⟨some s10, some (s5, true), (.eqNil 2 true (.t s9))⟩
    (.one ⟨some s11, none, (.pick (.t s5) (.t s10) (.c (.v (.bool false))))⟩
    (.one ⟨some s2, none, (.mv (.t s11))⟩
    .done)))))))))))
  .ret))⟩
theorem ok58 : compF Try.prog c58 Try.f58 = some ir58 := by kernel_rfl
theorem k_rxbuf_Buffer_made {args : List AVal} {σ : AHeap} {Q : AVal → AHeap → Prop} (hl : Nat.ble args.length 12 = true) (h : argsK (Env.full 9) 0 args fun env => evC Try.prog c58 ir58.body env σ (retQ ir58 Q)) : ACalls Try.prog 58 args σ Q :=
  acalls_of Try.func58 ok58 rfl (Nat.le_of_ble_eq_true hl) h
/- rxbuf.right -/
def c59 : Cfg := ⟨qs, [], 56, [], ps⟩
def ir59 : IFun := ⟨1, [.tmp s2],
  (.seq (.reg (.one ⟨some s1, none, (.box 7 (.t s0))⟩
    (.one ⟨some s2, none, (.mv (.c (.v (.bool false))))⟩
    .done)))
  (.seq (.reg (.one ⟨some s3, none, (.mv (.c (.func 96 [] [])))⟩
    .done))
  (.seq (.reg (.one ⟨some s5, none, (.faddr 6 (.t s1))⟩
    (.one ⟨some s6, none, (.load none (.t s5))⟩
    (.one ⟨some s7, none, (.len false (.t s6))⟩
    (.one ⟨some s4, none, (.mv (.t s7))⟩
    .done)))))
  (.seq (.seq (.reg (.one ⟨some s8, none, (.mv (.t s4))⟩
    (.one ⟨some s9, none, (.bin false .lss (.t s8) (.c (.v (.int .i64 1))))⟩
    (.one ⟨some s10, none, (.mv (.t s9))⟩
    (.one ⟨some s11, some (s10, false), (.mv (.t s4))⟩
    (.one ⟨some s12, some (s10, false), (.bin false .gtr (.t s11) (.c (.v (.int .i64 24))))⟩
    (.one ⟨some s13, none, (.pick (.t s10) (.c (.v (.bool true))) (.t s12))⟩
    (.one ⟨some s14, none, (.mv (.t s13))⟩
    (.one ⟨some s15, some (s14, false), (.faddr 6 (.t s1))⟩
    (.one ⟨some s16, some (s14, false), (.load none (.t s15))⟩
    (.one ⟨some s17, some (s14, false), (.mv (.t s3))⟩
    (.one ⟨some s18, some (s14, false), (.callq 97 [(.t s16), (.t s17)])⟩
    (.one ⟨some s19, none, (.pick (.t s14) (.c (.v (.bool true))) (.t s18))⟩
    (.one ⟨some s20, none, (.mv (.t s19))⟩
    (.one ⟨some s21, some (s20, false), (.faddr 1 (.t s1))⟩
    (.one ⟨some s22, some (s20, false), (.load none (.t s21))⟩
    (.one ⟨some s23, some (s20, false), (.bin false .lss (.t s22) (.c (.v (.int .i64 0))))⟩
    (.one ⟨some s24, none, (.pick (.t s20) (.c (.v (.bool true))) (.t s23))⟩
    (.one ⟨some s25, none, (.mv (.t s24))⟩
    (.one ⟨some s26, some (s25, false), (.faddr 1 (.t s1))⟩
    (.one ⟨some s27, some (s25, false), (.load none (.t s26))⟩
    (.one ⟨some s28, some (s25, false), (.bin false .gtr (.t s27) (.c (.v (.int .i64 3))))⟩
    (.one ⟨some s29, none, (.pick (.t s25) (.c (.v (.bool true))) (.t s28))⟩
    .done)))))))))))))))))))))))
  (.cond (.t s29) (.seq (.reg (.one ⟨some s2, none, (.mv (.c (.v (.bool false))))⟩
    .done))
  .ret) .skip))
  (.seq (.reg (.one ⟨some s30, none, (.faddr 5 (.t s1))⟩
    (.one ⟨some s31, none, (.load none (.t s30))⟩
    (.one ⟨some s32, none, (.bin false .geq (.t s31) (.c (.v (.int .i64 0))))⟩
    (.one ⟨some s33, none, (.mv (.t s32))⟩
    (.one ⟨some s34, some (s33, true), (.faddr 5 (.t s1))⟩
    (.one ⟨some s35, some (s33, true), (.load none (.t s34))⟩
    (.one ⟨some s36, some (s33, true), (.bin false .leq (.t s35) (.c (.v (.int .i64 4000))))⟩
    (.one ⟨some s37, none, (.pick (.t s33) (.t s36) (.c (.v (.bool false))))⟩
    (.one ⟨some s38, none, (.mv (.t s37))⟩
    (.one ⟨some s39, some (s38, true), (.faddr 3 (.t s1))⟩
    (.one ⟨some s40, some (s38, true), (.load none (.t s39))⟩
    (.one ⟨some s41, some (s38, true), (.mv (.t s40))⟩
    (.one ⟨some s42, some (s41, false), (.faddr 5 (.t s1))⟩
    (.one ⟨some s43, some (s41, false), (.load none (.t s42))⟩
    (.one ⟨some s44, some (s41, false), (.bin false .eql (.t s43) (.c (.v (.int .i64 0))))⟩
    (.one ⟨some s45, some (s38, true), (.pick (.t s41) (.c (.v (.bool true))) (.t s44))⟩
    (.one ⟨some s46, none, (.pick (.t s38) (.t s45) (.c (.v (.bool false))))⟩
    (.one ⟨some s47, none, (.mv (.t s46))⟩
    (.one ⟨some s48, some (s47, true), (.load (some 7) (.t s1))⟩
    (.one ⟨some s51, some (s47, true), (.faddr 5 (.t s1))⟩
    (.one ⟨some s52, some (s47, true), (.load none (.t s51))⟩
    (.one ⟨some s53, some (s47, true), (.bin false .sub (.c (.v (.int .i64 4000))) (.t s52))⟩
    (.one ⟨some s49, some (s47, true), (.callq 33 [(.t s48)])⟩
    (.one ⟨some s50, some (s47, true), (.len false (.t s49))⟩
    (.one ⟨some s54, some (s47, true), (.bin false .leq (.t s50) (.t s53))⟩
    (.one ⟨some s55, none, (.pick (.t s47) (.t s54) (.c (.v (.bool false))))⟩
    (.one ⟨some s2, none, (.mv (.t s55))⟩
    .done))))))))))))))))))))))))))))
  .ret)))))⟩
theorem ok59 : compF Try.prog c59 Try.f59 = some ir59 := by kernel_rfl
theorem k_rxbuf_right {args : List AVal} {σ : AHeap} {Q : AVal → AHeap → Prop} (hl : Nat.ble args.length 56 = true) (h : argsK (Env.full 9) 0 args fun env => evC Try.prog c59 ir59.body env σ (retQ ir59 Q)) : ACalls Try.prog 59 args σ Q :=
  acalls_of Try.func59 ok59 rfl (Nat.le_of_ble_eq_true hl) h
/- rxbuf.piece).fits -/
def c61 : Cfg := ⟨qs, [], 49, [], ps⟩
def ir61 : IFun := ⟨3, [.tmp s6],
  (.seq (.reg (.one ⟨some s4, none, (.box 2 (.t s1))⟩
    (.one ⟨some s6, none, (.mv (.c (.v (.int .i64 0))))⟩
    .done)))
  (.seq (.block 0 (.seq (.seq (.reg (.one ⟨some s8, none, (.mv (.t s0))⟩
    (.one ⟨some s9, none, (.nilchk (.t s8))⟩
    (.one ⟨some s10, none, (.faddr 2 (.t s9))⟩
    (.one ⟨some s11, none, (.load none (.t s10))⟩
    (.one ⟨some s12, none, (.bin false .neq (.t s11) (.c (.v (.int .i64 (-1)))))⟩
    (.one ⟨some s13, none, (.mv (.t s12))⟩
    (.one ⟨some s14, some (s13, true), (.faddr 1 (.t s4))⟩
    (.one ⟨some s15, some (s13, true), (.load none (.t s14))⟩
    (.one ⟨some s16, some (s13, true), (.mv (.t s0))⟩
    (.one ⟨some s17, some (s13, true), (.nilchk (.t s16))⟩
    (.one ⟨some s18, some (s13, true), (.faddr 2 (.t s17))⟩
    (.one ⟨some s19, some (s13, true), (.load none (.t s18))⟩
    (.one ⟨some s20, some (s13, true), (.bin false .gtr (.t s15) (.t s19))⟩
    (.one ⟨some s21, some (s13, true), (.mv (.t s20))⟩
    (.one ⟨some s22, some (s21, false), (.mv (.t s2))⟩
    (.one ⟨some s23, some (s21, false), (.mv (.t s22))⟩
    (.one ⟨some s24, some (s23, true), (.faddr 1 (.t s4))⟩
    (.one ⟨some s25, some (s23, true), (.load none (.t s24))⟩
    (.one ⟨some s26, some (s23, true), (.mv (.t s0))⟩
    (.one ⟨some s27, some (s23, true), (.nilchk (.t s26))⟩
    (.one ⟨some s28, some (s23, true), (.faddr 2 (.t s27))⟩
    (.one ⟨some s29, some (s23, true), (.load none (.t s28))⟩
    (.one ⟨some s30, some (s23, true), (.bin false .neq (.t s25) (.t s29))⟩
    (.one ⟨some s31, some (s21, false), (.pick (.t s23) (.t s30) (.c (.v (.bool false))))⟩
    (.one ⟨some s32, some (s13, true), (.pick (.t s21) (.c (.v (.bool true))) (.t s31))⟩
    (.one ⟨some s33, none, (.pick (.t s13) (.t s32) (.c (.v (.bool false))))⟩
    (.one ⟨some s7, none, (.mv (.t s33))⟩
    .done))))))))))))))))))))))))))))
  (.cond (.t s7) .skip (.reg (.one ⟨some s34, none, (.mv (.t s2))⟩
    (.one ⟨some s35, none, (.mv (.t s34))⟩
    (.one ⟨some s36, some (s35, true), (.mv (.t s0))⟩
    (.one ⟨some s38, some (s35, true), (.faddr 1 (.t s4))⟩
    (.one ⟨some s39, some (s35, true), (.load none (.t s38))⟩
    (.one ⟨some s37, some (s35, true), (.callq 57 [(.t s36)])⟩
    (.one ⟨some s40, some (s35, true), (.bin false .gtr (.t s37) (.t s39))⟩
    (.one ⟨some s41, none, (.pick (.t s35) (.t s40) (.c (.v (.bool false))))⟩
    (.one ⟨some s7, none, (.mv (.t s41))⟩
    .done))))))))))))
  (.cond (.t s7) (.seq (.reg (.one ⟨some s6, none, (.mv (.c (.v (.int .i64 3))))⟩
    .done))
  .ret) (.seq (.reg (.one ⟨some s43, none, (.mv (.t s0))⟩
    (.one ⟨some s44, none, (.nilchk (.t s43))⟩
    (.one ⟨some s45, none, (.faddr 1 (.t s44))⟩
    (.one ⟨some s46, none, (.load none (.t s45))⟩
    (.one ⟨some s47, none, (.load (some 2) (.t s4))⟩
    (.one ⟨some s48, none, (.callq 79 [(.t s46), (.t s47)])⟩
    (.one ⟨some s42, none, (.mv (.t s48))⟩
    .done))))))))
  (.cond (.t s42) (.seq (.reg (.one ⟨some s6, none, (.mv (.c (.v (.int .i64 12))))⟩
    .done))
  .ret) .skip)))))
  (.seq (.reg (.one ⟨some s6, none, (.mv (.c (.v (.int .i64 0))))⟩
    .done))
  .ret)))⟩
theorem ok61 : compF Try.prog c61 Try.f61 = some ir61 := by kernel_rfl
theorem k_rxbuf_piece_fits {args : List AVal} {σ : AHeap} {Q : AVal → AHeap → Prop} (hl : Nat.ble args.length 49 = true) (h : argsK (Env.full 9) 0 args fun env => evC Try.prog c61 ir61.body env σ (retQ ir61 Q)) : ACalls Try.prog 61 args σ Q :=
  acalls_of Try.func61 ok61 rfl (Nat.le_of_ble_eq_true hl) h
/- rxbuf.piece).fill -/
def c62m : Cfg := ⟨qs, [22, 25, 36, 42, 51, 54, 58, 64, 77, 79, 91], 66, [], ps⟩
def ir62m : IFun := ⟨3, [],
  (.seq (.reg (.one ⟨some s9, none, (.mv (.t s1))⟩
    (.one ⟨some s10, none, (.mv (.t s2))⟩
    (.one ⟨some s11, none, (.len false (.t s10))⟩
    (.one ⟨some s12, none, (.bin false .add (.t s9) (.t s11))⟩
    (.one ⟨some s6, none, (.mv (.t s12))⟩
    .done))))))
  (.seq (.seq (.reg (.one ⟨some s13, none, (.mv (.t s0))⟩
    (.one ⟨some s14, none, (.nilchk (.t s13))⟩
    (.one ⟨some s15, none, (.faddr 0 (.t s14))⟩
    (.one ⟨some s16, none, (.load none (.t s15))⟩
    (.one ⟨some s17, none, (.len false (.t s16))⟩
    (.one ⟨some s18, none, (.mv (.t s6))⟩
    (.one ⟨some s19, none, (.bin false .lss (.t s17) (.t s18))⟩
    .done))))))))
  (.cond (.t s19) (.reg (.one ⟨some s20, none, (.mv (.t s0))⟩
    (.one ⟨some s21, none, (.mv (.t s0))⟩
    (.one ⟨some s22, none, (.nilchk (.t s21))⟩
    (.one ⟨some s23, none, (.faddr 0 (.t s22))⟩
    (.one ⟨some s24, none, (.load none (.t s23))⟩
    (.one ⟨some s25, none, (.mv (.t s6))⟩
    (.one ⟨some s26, none, (.mv (.t s0))⟩
    (.one ⟨some s27, none, (.nilchk (.t s26))⟩
    (.one ⟨some s28, none, (.faddr 0 (.t s27))⟩
    (.one ⟨some s29, none, (.load none (.t s28))⟩
    (.one ⟨some s30, none, (.len false (.t s29))⟩
    (.one ⟨some s31, none, (.bin false .sub (.t s25) (.t s30))⟩
    (.one ⟨some s32, none, (.app0 1 1 (.v (.int .u8 0)) (.t s24) (.t s31))⟩
    (.one ⟨some s33, none, (.nilchk (.t s20))⟩
    (.one ⟨some s34, none, (.faddr 0 (.t s33))⟩
    (.one ⟨none, none, (.store 1 (.t s34) (.t s32))⟩
    .done))))))))))))))))) .skip))
  (.seq (.reg (.one ⟨some s35, none, (.mv (.t s2))⟩
    (.one ⟨some s36, none, (.len false (.t s35))⟩
    (.one ⟨some s37, none, (.mv (.c (.v (.int .i64 0))))⟩
    .done))))
  (.block 0 (.loop (.seq (.reg (.one ⟨some s38, none, (.bin false .lss (.t s37) (.t s36))⟩
    .done))
  (.seq (.cond (.t s38) .skip (.exit 0))
  (.seq (.block 1 (.seq (.reg (.one ⟨some s39, none, (.mv (.t s37))⟩
    (.one ⟨some s40, none, (.iaddr 1 (.t s35) (.t s37))⟩
    (.one ⟨some s41, none, (.load none (.t s40))⟩
    (.one ⟨some s7, none, (.mv (.t s39))⟩
    (.one ⟨some s8, none, (.mv (.t s41))⟩
    .done))))))
  (.seq (.reg (.one ⟨some s42, none, (.mv (.t s0))⟩
    (.one ⟨some s43, none, (.nilchk (.t s42))⟩
    (.one ⟨some s44, none, (.faddr 1 (.t s43))⟩
    (.one ⟨some s45, none, (.load none (.t s44))⟩
    (.one ⟨some s46, none, (.mv (.t s1))⟩
    (.one ⟨some s47, none, (.mv (.t s7))⟩
    (.one ⟨some s48, none, (.bin false .add (.t s46) (.t s47))⟩
    (.one ⟨some s49, none, (.mv (.t s1))⟩
    (.one ⟨some s50, none, (.mv (.t s7))⟩
    (.one ⟨some s51, none, (.bin false .add (.t s49) (.t s50))⟩
    (.one ⟨some s52, none, (.bin false .add (.t s51) (.c (.v (.int .i64 1))))⟩
    (.one ⟨some s53, none, (.build [(.v (.int .i64 0)), (.v (.int .i64 0))] [(0, 1, (.t s48)), (1, 1, (.t s52))])⟩
    (.one ⟨some s54, none, (.callq 79 [(.t s45), (.t s53)])⟩
    (.one ⟨some s55, none, (.not (.t s54))⟩
    .done)))))))))))))))
  (.cond (.t s55) (.reg (.one ⟨some s56, none, (.mv (.t s0))⟩
    (.one ⟨some s57, none, (.nilchk (.t s56))⟩
    (.one ⟨some s58, none, (.faddr 0 (.t s57))⟩
    (.one ⟨some s59, none, (.load none (.t s58))⟩
    (.one ⟨some s60, none, (.mv (.t s1))⟩
    (.one ⟨some s61, none, (.mv (.t s7))⟩
    (.one ⟨some s62, none, (.bin false .add (.t s60) (.t s61))⟩
    (.one ⟨some s63, none, (.mv (.t s8))⟩
    (.one ⟨some s64, none, (.iaddr 1 (.t s59) (.t s62))⟩
    (.one ⟨none, none, (.store 1 (.t s64) (.t s63))⟩
    .done))))))))))) .skip))))
  (.reg (.one ⟨some s65, none, (.bin false .add (.t s37) (.c (.v (.int .i64 1))))⟩
    (.one ⟨some s37, none, (.mv (.t s65))⟩
    .done)))))))))))⟩
theorem ok62m : compF Try.prog c62m Try.f62 = some ir62m := by kernel_rfl
theorem km_rxbuf_piece_fill {args : List AVal} {σ : AHeap} {Q : AVal → AHeap → Prop} (hl : Nat.ble args.length 66 = true) (h : argsK (Env.full 9) 0 args fun env => evC Try.prog c62m ir62m.body env σ (retQ ir62m Q)) : ACalls Try.prog 62 args σ Q :=
  acalls_of Try.func62 ok62m rfl (Nat.le_of_ble_eq_true hl) h
/- rxbuf.piece).note -/
def c64 : Cfg := ⟨qs, [], 78, [], ps⟩
def ir64 : IFun := ⟨3, [],
  (.seq (.reg (.one ⟨some s4, none, (.box 7 (.t s1))⟩
    .done))
  (.seq (.reg (.one ⟨some s9, none, (.faddr 5 (.t s4))⟩
    (.one ⟨some s10, none, (.load none (.t s9))⟩
    (.one ⟨some s6, none, (.mv (.t s10))⟩
    .done))))
  (.seq (.seq (.reg (.one ⟨some s11, none, (.mv (.t s6))⟩
    (.one ⟨some s12, none, (.bin false .eql (.t s11) (.c (.v (.int .i64 0))))⟩
    .done)))
  (.cond (.t s12) (.reg (.one ⟨some s13, none, (.mv (.t s0))⟩
    (.one ⟨some s14, none, (.nilchk (.t s13))⟩
    (.one ⟨some s15, none, (.faddr 4 (.t s14))⟩
    (.one ⟨some s16, none, (.load none (.t s15))⟩
    (.one ⟨some s17, none, (.faddr 1 (.t s4))⟩
    (.one ⟨some s18, none, (.load none (.t s17))⟩
    (.one ⟨some s19, none, (.bin false .and (.t s18) (.c (.v (.int .i64 2))))⟩
    (.one ⟨some s20, none, (.bin false .or (.t s16) (.t s19))⟩
    (.one ⟨some s21, none, (.nilchk (.t s13))⟩
    (.one ⟨some s22, none, (.faddr 4 (.t s21))⟩
    (.one ⟨none, none, (.store 1 (.t s22) (.t s20))⟩
    .done)))))))))))) (.seq (.reg (.one ⟨some s23, none, (.faddr 1 (.t s4))⟩
    (.one ⟨some s24, none, (.load none (.t s23))⟩
    (.one ⟨some s25, none, (.bin false .and (.t s24) (.c (.v (.int .i64 2))))⟩
    (.one ⟨some s26, none, (.bin false .eql (.t s25) (.c (.v (.int .i64 0))))⟩
    .done)))))
  (.cond (.t s26) (.reg (.one ⟨some s27, none, (.mv (.t s0))⟩
    (.one ⟨some s28, none, (.nilchk (.t s27))⟩
    (.one ⟨some s29, none, (.faddr 3 (.t s28))⟩
    (.one ⟨some s30, none, (.load none (.t s29))⟩
    (.one ⟨some s31, none, (.mv (.t s6))⟩
    (.one ⟨none, none, (.mset (.t s30) (.t s31) (.c (.v (.bool true))))⟩
    .done))))))) .skip))))
  (.seq (.seq (.reg (.one ⟨some s32, none, (.faddr 6 (.t s4))⟩
    (.one ⟨some s33, none, (.load none (.t s32))⟩
    (.one ⟨some s34, none, (.len false (.t s33))⟩
    (.one ⟨some s35, none, (.mv (.c (.v (.int .i64 0))))⟩
    .done)))))
  (.block 0 (.loop (.seq (.reg (.one ⟨some s36, none, (.bin false .lss (.t s35) (.t s34))⟩
    .done))
  (.seq (.cond (.t s36) .skip (.exit 0))
  (.seq (.block 1 (.seq (.reg (.one ⟨some s37, none, (.mv (.t s35))⟩
    (.one ⟨some s38, none, (.iaddr 1 (.t s33) (.t s35))⟩
    (.one ⟨some s39, none, (.load none (.t s38))⟩
    (.one ⟨some s7, none, (.mv (.t s37))⟩
    (.one ⟨some s8, none, (.mv (.t s39))⟩
    .done))))))
  (.seq (.seq (.reg (.one ⟨some s40, none, (.mv (.t s7))⟩
    (.one ⟨some s41, none, (.bin false .gtr (.t s40) (.c (.v (.int .i64 0))))⟩
    .done)))
  (.cond (.t s41) (.reg (.one ⟨some s42, none, (.mv (.t s0))⟩
    (.one ⟨some s43, none, (.nilchk (.t s42))⟩
    (.one ⟨some s44, none, (.faddr 3 (.t s43))⟩
    (.one ⟨some s45, none, (.load none (.t s44))⟩
    (.one ⟨some s46, none, (.mv (.t s6))⟩
    (.one ⟨none, none, (.mset (.t s45) (.t s46) (.c (.v (.bool true))))⟩
    .done))))))) .skip))
  (.reg (.one ⟨some s47, none, (.mv (.t s6))⟩
    (.one ⟨some s48, none, (.mv (.t s8))⟩
    (.one ⟨some s49, none, (.len false (.t s48))⟩
    (.one ⟨some s50, none, (.bin false .add (.t s47) (.t s49))⟩
    (.one ⟨some s6, none, (.mv (.t s50))⟩
    .done)))))))))
  (.reg (.one ⟨some s51, none, (.bin false .add (.t s35) (.c (.v (.int .i64 1))))⟩
    (.one ⟨some s35, none, (.mv (.t s51))⟩
    .done)))))))))
  (.block 2 (.seq (.reg (.one ⟨some s53, none, (.mv (.t s2))⟩
    (.one ⟨some s52, none, (.mv (.t s53))⟩
    .done)))
  (.cond (.t s52) (.seq (.reg (.one ⟨some s54, none, (.mv (.t s0))⟩
    (.one ⟨some s55, none, (.mv (.t s6))⟩
    (.one ⟨some s56, none, (.nilchk (.t s54))⟩
    (.one ⟨some s57, none, (.faddr 2 (.t s56))⟩
    (.one ⟨none, none, (.store 1 (.t s57) (.t s55))⟩
    .done))))))
  (.reg (.one ⟨some s58, none, (.mv (.t s0))⟩
    (.one ⟨some s59, none, (.nilchk (.t s58))⟩
    (.one ⟨some s60, none, (.faddr 4 (.t s59))⟩
    (.one ⟨some s61, none, (.load none (.t s60))⟩
    (.one ⟨some s62, none, (.faddr 1 (.t s4))⟩
    (.one ⟨some s63, none, (.load none (.t s62))⟩
    (.one ⟨some s64, none, (.bin false .and (.t s63) (.c (.v (.int .i64 1))))⟩
    (.one ⟨some s65, none, (.bin false .or (.t s61) (.t s64))⟩
    (.one ⟨some s66, none, (.nilchk (.t s58))⟩
    (.one ⟨some s67, none, (.faddr 4 (.t s66))⟩
    (.one ⟨none, none, (.store 1 (.t s67) (.t s65))⟩
    .done))))))))))))) (.seq (.reg (.one ⟨some s69, none, (.faddr 1 (.t s4))⟩
    (.one ⟨some s70, none, (.load none (.t s69))⟩
    (.one ⟨some s71, none, (.bin false .and (.t s70) (.c (.v (.int .i64 1))))⟩
    (.one ⟨some s72, none, (.bin false .eql (.t s71) (.c (.v (.int .i64 0))))⟩
    (.one ⟨some s68, none, (.mv (.t s72))⟩
    .done))))))
  (.cond (.t s68) (.reg (.one ⟨some s73, none, (.mv (.t s0))⟩
    (.one ⟨some s74, none, (.nilchk (.t s73))⟩
    (.one ⟨some s75, none, (.faddr 3 (.t s74))⟩
    (.one ⟨some s76, none, (.load none (.t s75))⟩
    (.one ⟨some s77, none, (.mv (.t s6))⟩
    (.one ⟨none, none, (.mset (.t s76) (.t s77) (.c (.v (.bool true))))⟩
    .done))))))) .skip)))))))))⟩
theorem ok64 : compF Try.prog c64 Try.f64 = some ir64 := by kernel_rfl
theorem k_rxbuf_piece_note {args : List AVal} {σ : AHeap} {Q : AVal → AHeap → Prop} (hl : Nat.ble args.length 78 = true) (h : argsK (Env.full 9) 0 args fun env => evC Try.prog c64 ir64.body env σ (retQ ir64 Q)) : ACalls Try.prog 64 args σ Q :=
  acalls_of Try.func64 ok64 rfl (Nat.le_of_ble_eq_true hl) h
/- rxbuf.right$1 -/
def c96 : Cfg := ⟨qs, [], 6, [], ps⟩
def ir96 : IFun := ⟨1, [.tmp s2],
  (.seq (.reg (.one ⟨some s2, none, (.mv (.c (.v (.bool false))))⟩
    .done))
  (.seq (.reg (.one ⟨some s3, none, (.mv (.t s0))⟩
    (.one ⟨some s4, none, (.len false (.t s3))⟩
    (.one ⟨some s5, none, (.bin false .eql (.t s4) (.c (.v (.int .i64 0))))⟩
    (.one ⟨some s2, none, (.mv (.t s5))⟩
    .done)))))
  .ret))⟩
theorem ok96 : compF Try.prog c96 Try.f96 = some ir96 := by kernel_rfl
theorem k_rxbuf_right_1 {args : List AVal} {σ : AHeap} {Q : AVal → AHeap → Prop} (hl : Nat.ble args.length 6 = true) (h : argsK (Env.full 9) 0 args fun env => evC Try.prog c96 ir96.body env σ (retQ ir96 Q)) : ACalls Try.prog 96 args σ Q :=
  acalls_of Try.func96 ok96 rfl (Nat.le_of_ble_eq_true hl) h
end Go.Proofs.Ytgobbmdbkmjlnaa
/-
  The bodies of one package, compiled to the framework's language (printed by a program of this session).
-/
namespace Go.Proofs.Ytgobbmdbkmjlnaa
set_option linter.unusedVariables false
set_option linter.unusedSimpArgs false
open Go Go.Am
/- bowlinelaw09.Great -/
def c10 : Cfg := ⟨qs, [], 31, [], ps⟩
def ir10 : IFun := ⟨1, [.tmp s2],
  (.seq (.reg (.one ⟨some s2, none, (.mv (.c (.v (.bool false))))⟩
    .done))
  (.seq (.reg (.one ⟨some s3, none, (.mv (.c (.v (.int .i64 0))))⟩
    .done))
  (.seq (.seq (.reg (.one ⟨some s4, none, (.mv (.c (.v (.int .i64 0))))⟩
    .done))
  (.block 0 (.loop (.seq (.seq (.reg (.one ⟨some s5, none, (.mv (.t s4))⟩
    (.one ⟨some s6, none, (.mv (.t s0))⟩
    (.one ⟨some s7, none, (.len false (.t s6))⟩
    (.one ⟨some s8, none, (.bin false .lss (.t s5) (.t s7))⟩
    .done)))))
  (.cond (.t s8) .skip (.exit 0)))
  (.seq (.block 1 (.seq (.seq (.reg (.one ⟨some s11, none, (.mv (.t s0))⟩
    (.one ⟨some s12, none, (.len false (.t s11))⟩
    (.one ⟨some s13, none, (.bin false .gtr (.t s12) (.c (.v (.int .i64 40))))⟩
    (.one ⟨some s14, none, (.mv (.t s13))⟩
    (.one ⟨some s15, some (s14, false), (.mv (.t s0))⟩
    (.one ⟨some s16, some (s14, false), (.mv (.t s4))⟩
    (.one ⟨some s17, some (s14, false), (.iaddr 1 (.t s15) (.t s16))⟩
    (.one ⟨some s18, some (s14, false), (.load none (.t s17))⟩
    (.one ⟨some s19, some (s14, false), (.len false (.t s18))⟩
    (.one ⟨some s20, some (s14, false), (.bin false .gtr (.t s19) (.c (.v (.int .i64 4200))))⟩
    (.one ⟨some s21, none, (.pick (.t s14) (.c (.v (.bool true))) (.t s20))⟩
    .done))))))))))))
  (.cond (.t s21) (.seq (.reg (.one ⟨some s2, none, (.mv (.c (.v (.bool true))))⟩
    .done))
  .ret) .skip))
  (.reg (.one ⟨some s22, none, (.mv (.t s3))⟩
    (.one ⟨some s23, none, (.mv (.t s0))⟩
    (.one ⟨some s24, none, (.mv (.t s4))⟩
    (.one ⟨some s25, none, (.iaddr 1 (.t s23) (.t s24))⟩
    (.one ⟨some s26, none, (.load none (.t s25))⟩
    (.one ⟨some s27, none, (.len false (.t s26))⟩
    (.one ⟨some s28, none, (.bin false .add (.t s22) (.t s27))⟩
    (.one ⟨some s3, none, (.mv (.t s28))⟩
    .done)))))))))))
  (.reg (.one ⟨some s9, none, (.mv (.t s4))⟩
    (.one ⟨some s10, none, (.bin false .add (.t s9) (.c (.v (.int .i64 1))))⟩
    (.one ⟨some s4, none, (.mv (.t s10))⟩
    .done)))))))))
  (.seq (.reg (.one ⟨some s29, none, (.mv (.t s3))⟩
    (.one ⟨some s30, none, (.bin false .gtr (.t s29) (.c (.v (.int .i64 9000))))⟩
    (.one ⟨some s2, none, (.mv (.t s30))⟩
    .done))))
  .ret))))⟩
theorem ok10 : compF Try.prog c10 Try.f10 = some ir10 := by kernel_rfl
theorem k_bowlinelaw09_Great {args : List AVal} {σ : AHeap} {Q : AVal → AHeap → Prop} (hl : Nat.ble args.length 31 = true) (h : argsK (Env.full 9) 0 args fun env => evC Try.prog c10 ir10.body env σ (retQ ir10 Q)) : ACalls Try.prog 10 args σ Q :=
  acalls_of Try.func10 ok10 rfl (Nat.le_of_ble_eq_true hl) h
end Go.Proofs.Ytgobbmdbkmjlnaa
/-
  The bodies of one package, compiled to the framework's language (printed by a program of this session).
-/
namespace Go.Proofs.Ytgobbmdbkmjlnaa
set_option linter.unusedVariables false
set_option linter.unusedSimpArgs false
open Go Go.Am
/- bowlinelaw24.RxbufTwice -/
def c3 : Cfg := ⟨qs, [], 120, [], ps⟩
def ir3 : IFun := ⟨1, [.tmp s2],
  (.seq (.reg (.one ⟨some s2, none, (.mv (.c (.v (.bool false))))⟩
    .done))
  (.seq (.reg (.one ⟨some s11, none, (.callq 9 [])⟩
    (.one ⟨some s3, none, (.mv (.t s11))⟩
    .done)))
  (.seq (.seq (.reg (.one ⟨some s4, none, (.mv (.c (.v (.int .i64 0))))⟩
    .done))
  (.block 0 (.loop (.seq (.seq (.reg (.one ⟨some s12, none, (.mv (.t s4))⟩
    (.one ⟨some s13, none, (.mv (.t s0))⟩
    (.one ⟨some s14, none, (.len false (.t s13))⟩
    (.one ⟨some s15, none, (.bin false .lss (.t s12) (.t s14))⟩
    (.one ⟨some s16, none, (.mv (.t s15))⟩
    (.one ⟨some s17, some (s16, true), (.mv (.t s4))⟩
    (.one ⟨some s18, some (s16, true), (.bin false .lss (.t s17) (.c (.v (.int .i64 60))))⟩
    (.one ⟨some s19, none, (.pick (.t s16) (.t s18) (.c (.v (.bool false))))⟩
    .done)))))))))
  (.cond (.t s19) .skip (.exit 0)))
  (.seq (.block 1 (.seq (.reg (.one ⟨some s22, none, (.mv (.t s0))⟩
    (.one ⟨some s23, none, (.mv (.t s4))⟩
    (.one ⟨some s24, none, (.iaddr 9 (.t s22) (.t s23))⟩
    (.one ⟨some s25, none, (.load (some 9) (.t s24))⟩
    (.one ⟨some s5, none, (.new [(.v (.int .i64 0)), (.v (.int .i64 0)), (.v (.bool false)), (.v (.int .i64 0)), (.v (.int .i64 0)), (.v (.bool false)), (.v (.bool false)), (.v (.int .i64 0)), (.slice 1 [] .full)])⟩
    (.one ⟨none, none, (.store 9 (.t s5) (.t s25))⟩
    .done)))))))
  (.seq (.seq (.reg (.one ⟨some s26, none, (.faddr 2 (.t s5))⟩
    (.one ⟨some s27, none, (.faddr 6 (.t s26))⟩
    (.one ⟨some s28, none, (.load none (.t s27))⟩
    (.one ⟨some s29, none, (.callq 10 [(.t s28)])⟩
    .done)))))
  (.cond (.t s29) (.seq (.reg (.one ⟨some s30, none, (.callq 11 [])⟩
    (.one ⟨some s2, none, (.mv (.t s30))⟩
    .done)))
  .ret) .skip))
  (.seq (.seq (.reg (.one ⟨some s31, none, (.faddr 0 (.t s5))⟩
    (.one ⟨some s32, none, (.load none (.t s31))⟩
    (.one ⟨some s33, none, (.bin false .neq (.t s32) (.c (.v (.int .i64 0))))⟩
    .done))))
  (.cond (.t s33) (.seq (.reg (.one ⟨some s34, none, (.mv (.t s3))⟩
    (.one ⟨some s35, none, (.faddr 1 (.t s5))⟩
    (.one ⟨some s36, none, (.load none (.t s35))⟩
    (.one ⟨some s37, none, (.call 12 [(.t s34), (.t s36)])⟩
    .done)))))
  (.exit 1)) .skip))
  (.seq (.reg (.one ⟨some s38, none, (.mv (.t s3))⟩
    (.one ⟨some s40, none, (.mv (.t s3))⟩
    (.one ⟨some s41, none, (.faddr 2 (.t s5))⟩
    (.one ⟨some s42, none, (.faddr 2 (.t s41))⟩
    (.one ⟨some s43, none, (.load none (.t s42))⟩
    (.one ⟨some s46, none, (.mv (.t s3))⟩
    (.one ⟨some s47, none, (.faddr 2 (.t s5))⟩
    (.one ⟨some s48, none, (.faddr 2 (.t s47))⟩
    (.one ⟨some s49, none, (.load none (.t s48))⟩
    (.one ⟨some s39, none, (.callq 13 [(.t s38)])⟩
    (.one ⟨some s44, none, (.callq 14 [(.t s40), (.t s43)])⟩
    (.one ⟨some s45, none, (.len false (.t s44))⟩
    (.one ⟨some s50, none, (.callq 15 [(.t s46), (.t s49)])⟩
    (.one ⟨some s6, none, (.mv (.t s39))⟩
    (.one ⟨some s7, none, (.mv (.t s45))⟩
    (.one ⟨some s8, none, (.mv (.t s50))⟩
    .done)))))))))))))))))
  (.seq (.reg (.one ⟨some s51, none, (.mv (.t s3))⟩
    (.one ⟨some s52, none, (.faddr 2 (.t s5))⟩
    (.one ⟨some s53, none, (.load (some 7) (.t s52))⟩
    (.one ⟨some s54, none, (.call 16 [(.t s51), (.t s53)])⟩
    (.one ⟨some s9, none, (.mv (.t s54))⟩
    .done))))))
  (.seq (.seq (.reg (.one ⟨some s55, none, (.mv (.t s9))⟩
    (.one ⟨some s56, none, (.bin false .neq (.t s55) (.c (.v (.int .i64 0))))⟩
    (.one ⟨some s57, none, (.mv (.t s56))⟩
    (.one ⟨some s58, some (s57, true), (.mv (.t s3))⟩
    (.one ⟨some s59, some (s57, true), (.callq 13 [(.t s58)])⟩
    (.one ⟨some s60, some (s57, true), (.mv (.t s6))⟩
    (.one ⟨some s61, some (s57, true), (.bin false .neq (.t s59) (.t s60))⟩
    (.one ⟨some s62, some (s57, true), (.mv (.t s61))⟩
    (.one ⟨some s63, some (s62, false), (.mv (.t s3))⟩
    (.one ⟨some s64, some (s62, false), (.faddr 2 (.t s5))⟩
    (.one ⟨some s65, some (s62, false), (.faddr 2 (.t s64))⟩
    (.one ⟨some s66, some (s62, false), (.load none (.t s65))⟩
    (.one ⟨some s67, some (s62, false), (.callq 14 [(.t s63), (.t s66)])⟩
    (.one ⟨some s68, some (s62, false), (.len false (.t s67))⟩
    (.one ⟨some s69, some (s62, false), (.mv (.t s7))⟩
    (.one ⟨some s70, some (s62, false), (.bin false .neq (.t s68) (.t s69))⟩
    (.one ⟨some s71, some (s57, true), (.pick (.t s62) (.c (.v (.bool true))) (.t s70))⟩
    (.one ⟨some s72, some (s57, true), (.mv (.t s71))⟩
    (.one ⟨some s73, some (s72, false), (.mv (.t s3))⟩
    (.one ⟨some s74, some (s72, false), (.faddr 2 (.t s5))⟩
    (.one ⟨some s75, some (s72, false), (.faddr 2 (.t s74))⟩
    (.one ⟨some s76, some (s72, false), (.load none (.t s75))⟩
    (.one ⟨some s77, some (s72, false), (.callq 15 [(.t s73), (.t s76)])⟩
    (.one ⟨some s78, some (s72, false), (.mv (.t s8))⟩
    (.one ⟨some s79, some (s72, false), (.bin true .neq (.t s77) (.t s78))⟩
    (.one ⟨some s80, some (s57, true), (.pick (.t s72) (.c (.v (.bool true))) (.t s79))⟩
    (.one ⟨some s81, none, (.pick (.t s57) (.t s80) (.c (.v (.bool false))))⟩
    (.one ⟨some s82, none, (.mv (.t s81))⟩
    (.one ⟨some s83, some (s82, false), (.mv (.t s9))⟩
    (.one ⟨some s84, some (s82, false), (.bin false .eql (.t s83) (.c (.v (.int .i64 0))))⟩
    (.one ⟨some s85, some (s82, false), (.mv (.t s84))⟩
    (.one ⟨some s86, some (s85, true), (.mv (.t s3))⟩
    (.one ⟨some s87, some (s85, true), (.callq 13 [(.t s86)])⟩
    (.one ⟨some s88, some (s85, true), (.mv (.t s6))⟩
    (.one ⟨some s89, some (s85, true), (.bin false .leq (.t s87) (.t s88))⟩
    (.one ⟨some s90, some (s82, false), (.pick (.t s85) (.t s89) (.c (.v (.bool false))))⟩
    (.one ⟨some s91, none, (.pick (.t s82) (.c (.v (.bool true))) (.t s90))⟩
    .done))))))))))))))))))))))))))))))))))))))
  (.cond (.t s91) (.seq (.reg (.one ⟨some s2, none, (.mv (.c (.v (.bool false))))⟩
    .done))
  .ret) .skip))
  (.seq (.reg (.one ⟨some s92, none, (.mv (.t s3))⟩
    (.one ⟨some s93, none, (.callq 13 [(.t s92)])⟩
    (.one ⟨some s6, none, (.mv (.t s93))⟩
    .done))))
  (.seq (.reg (.one ⟨some s94, none, (.mv (.t s3))⟩
    (.one ⟨some s95, none, (.faddr 2 (.t s5))⟩
    (.one ⟨some s96, none, (.load (some 7) (.t s95))⟩
    (.one ⟨some s97, none, (.call 16 [(.t s94), (.t s96)])⟩
    (.one ⟨some s10, none, (.mv (.t s97))⟩
    .done))))))
  (.seq (.reg (.one ⟨some s98, none, (.mv (.t s9))⟩
    (.one ⟨some s99, none, (.bin false .eql (.t s98) (.c (.v (.int .i64 0))))⟩
    (.one ⟨some s100, none, (.mv (.t s99))⟩
    (.one ⟨some s101, some (s100, true), (.mv (.t s10))⟩
    (.one ⟨some s102, some (s100, true), (.bin false .neq (.t s101) (.c (.v (.int .i64 12))))⟩
    (.one ⟨some s103, none, (.pick (.t s100) (.t s102) (.c (.v (.bool false))))⟩
    (.one ⟨some s104, none, (.mv (.t s103))⟩
    (.one ⟨some s105, some (s104, false), (.mv (.t s9))⟩
    (.one ⟨some s106, some (s104, false), (.bin false .neq (.t s105) (.c (.v (.int .i64 0))))⟩
    (.one ⟨some s107, some (s104, false), (.mv (.t s106))⟩
    (.one ⟨some s108, some (s107, true), (.mv (.t s10))⟩
    (.one ⟨some s109, some (s107, true), (.mv (.t s9))⟩
    (.one ⟨some s110, some (s107, true), (.bin false .neq (.t s108) (.t s109))⟩
    (.one ⟨some s111, some (s104, false), (.pick (.t s107) (.t s110) (.c (.v (.bool false))))⟩
    (.one ⟨some s112, none, (.pick (.t s104) (.c (.v (.bool true))) (.t s111))⟩
    (.one ⟨some s113, none, (.mv (.t s112))⟩
    (.one ⟨some s114, some (s113, false), (.mv (.t s3))⟩
    (.one ⟨some s115, some (s113, false), (.callq 13 [(.t s114)])⟩
    (.one ⟨some s116, some (s113, false), (.mv (.t s6))⟩
    (.one ⟨some s117, some (s113, false), (.bin false .neq (.t s115) (.t s116))⟩
    (.one ⟨some s118, none, (.pick (.t s113) (.c (.v (.bool true))) (.t s117))⟩
    .done))))))))))))))))))))))
  (.cond (.t s118) (.seq (.reg (.one ⟨some s2, none, (.mv (.c (.v (.bool false))))⟩
    .done))
  .ret) .skip)))))))))))
  (.reg (.one ⟨some s20, none, (.mv (.t s4))⟩
    (.one ⟨some s21, none, (.bin false .add (.t s20) (.c (.v (.int .i64 1))))⟩
    (.one ⟨some s4, none, (.mv (.t s21))⟩
    .done)))))))))
  (.seq (.reg (.one ⟨some s119, none, (.callq 11 [])⟩
    (.one ⟨some s2, none, (.mv (.t s119))⟩
    .done)))
  .ret))))⟩
theorem ok3 : compF Try.prog c3 Try.f3 = some ir3 := by kernel_rfl
theorem k_bowlinelaw24_RxbufTwice {args : List AVal} {σ : AHeap} {Q : AVal → AHeap → Prop} (hl : Nat.ble args.length 120 = true) (h : argsK (Env.full 9) 0 args fun env => evC Try.prog c3 ir3.body env σ (retQ ir3 Q)) : ACalls Try.prog 3 args σ Q :=
  acalls_of Try.func3 ok3 rfl (Nat.le_of_ble_eq_true hl) h
/- bowlinelaw24.RxbufLives -/
def c4 : Cfg := ⟨qs, [], 221, [], ps⟩
def ir4 : IFun := ⟨1, [.tmp s2],
  (.seq (.reg (.one ⟨some s2, none, (.mv (.c (.v (.bool false))))⟩
    .done))
  (.seq (.reg (.one ⟨some s23, none, (.callq 9 [])⟩
    (.one ⟨some s24, none, (.build [(.slice 6 [] .full)] [])⟩
    (.one ⟨some s25, none, (.box 1 (.t s24))⟩
    (.one ⟨some s3, none, (.mv (.t s23))⟩
    (.one ⟨some s4, none, (.mv (.t s25))⟩
    .done))))))
  (.seq (.seq (.reg (.one ⟨some s5, none, (.mv (.c (.v (.int .i64 0))))⟩
    .done))
  (.block 0 (.loop (.seq (.seq (.reg (.one ⟨some s26, none, (.mv (.t s5))⟩
    (.one ⟨some s27, none, (.mv (.t s0))⟩
    (.one ⟨some s28, none, (.len false (.t s27))⟩
    (.one ⟨some s29, none, (.bin false .lss (.t s26) (.t s28))⟩
    (.one ⟨some s30, none, (.mv (.t s29))⟩
    (.one ⟨some s31, some (s30, true), (.mv (.t s5))⟩
    (.one ⟨some s32, some (s30, true), (.bin false .lss (.t s31) (.c (.v (.int .i64 60))))⟩
    (.one ⟨some s33, none, (.pick (.t s30) (.t s32) (.c (.v (.bool false))))⟩
    .done)))))))))
  (.cond (.t s33) .skip (.exit 0)))
  (.seq (.block 1 (.seq (.reg (.one ⟨some s36, none, (.mv (.t s0))⟩
    (.one ⟨some s37, none, (.mv (.t s5))⟩
    (.one ⟨some s38, none, (.iaddr 9 (.t s36) (.t s37))⟩
    (.one ⟨some s39, none, (.load (some 9) (.t s38))⟩
    (.one ⟨some s6, none, (.new [(.v (.int .i64 0)), (.v (.int .i64 0)), (.v (.bool false)), (.v (.int .i64 0)), (.v (.int .i64 0)), (.v (.bool false)), (.v (.bool false)), (.v (.int .i64 0)), (.slice 1 [] .full)])⟩
    (.one ⟨none, none, (.store 9 (.t s6) (.t s39))⟩
    .done)))))))
  (.seq (.seq (.reg (.one ⟨some s40, none, (.faddr 2 (.t s6))⟩
    (.one ⟨some s41, none, (.faddr 6 (.t s40))⟩
    (.one ⟨some s42, none, (.load none (.t s41))⟩
    (.one ⟨some s43, none, (.callq 10 [(.t s42)])⟩
    .done)))))
  (.cond (.t s43) (.seq (.reg (.one ⟨some s44, none, (.callq 11 [])⟩
    (.one ⟨some s2, none, (.mv (.t s44))⟩
    .done)))
  .ret) .skip))
  (.seq (.reg (.one ⟨some s45, none, (.faddr 1 (.t s6))⟩
    (.one ⟨some s46, none, (.load none (.t s45))⟩
    (.one ⟨some s7, none, (.mv (.t s46))⟩
    (.one ⟨some s8, none, (.mv (.c (.v (.bool true))))⟩
    .done)))))
  (.seq (.seq (.reg (.one ⟨some s47, none, (.faddr 0 (.t s6))⟩
    (.one ⟨some s48, none, (.load none (.t s47))⟩
    .done)))
  (.block 2 (.seq (.reg (.one ⟨some s50, none, (.bin false .eql (.t s48) (.c (.v (.int .i64 0))))⟩
    (.one ⟨some s49, none, (.mv (.t s50))⟩
    .done)))
  (.cond (.t s49) (.seq (.reg (.one ⟨some s51, none, (.faddr 2 (.t s6))⟩
    (.one ⟨some s52, none, (.faddr 2 (.t s51))⟩
    (.one ⟨some s53, none, (.load none (.t s52))⟩
    (.one ⟨some s7, none, (.mv (.t s53))⟩
    .done)))))
  (.reg (.one ⟨some s54, none, (.mv (.t s3))⟩
    (.one ⟨some s55, none, (.faddr 2 (.t s6))⟩
    (.one ⟨some s56, none, (.load (some 7) (.t s55))⟩
    (.one ⟨some s58, none, (.mv (.t s4))⟩
    (.one ⟨some s59, none, (.faddr 2 (.t s6))⟩
    (.both (.one ⟨some s57, none, (.call 16 [(.t s54), (.t s56)])⟩
    (.one ⟨some s60, none, (.load (some 7) (.t s59))⟩
    (.one ⟨some s61, none, (.callq 18 [(.t s60)])⟩
    (.one ⟨some s62, none, (.call 17 [(.t s58), (.t s61)])⟩
    (.one ⟨some s63, none, (.bin false .eql (.t s57) (.t s62))⟩
    (.one ⟨some s8, none, (.mv (.t s63))⟩
    .done)))))) (.one ⟨some s60, none, (.load (some 7) (.t s59))⟩
    (.one ⟨some s57, none, (.call 16 [(.t s54), (.t s56)])⟩
    (.one ⟨some s61, none, (.callq 18 [(.t s60)])⟩
    (.one ⟨some s62, none, (.call 17 [(.t s58), (.t s61)])⟩
    (.one ⟨some s63, none, (.bin false .eql (.t s57) (.t s62))⟩
    (.one ⟨some s8, none, (.mv (.t s63))⟩
    .done)))))))))))))) (.seq (.reg (.one ⟨some s65, none, (.bin false .eql (.t s48) (.c (.v (.int .i64 1))))⟩
    (.one ⟨some s64, none, (.mv (.t s65))⟩
    .done)))
  (.cond (.t s64) (.seq (.reg (.one ⟨some s67, none, (.mv (.t s3))⟩
    (.one ⟨some s68, none, (.mv (.t s7))⟩
    (.one ⟨some s69, none, (.call 12 [(.t s67), (.t s68)])⟩
    (.one ⟨some s66, none, (.mv (.t s69))⟩
    (.one ⟨some s70, none, (.ext (.t s66) 0)⟩
    (.one ⟨some s71, none, (.ext (.t s66) 1)⟩
    (.one ⟨some s72, none, (.ext (.t s66) 2)⟩
    (.one ⟨some s9, none, (.mv (.t s70))⟩
    (.one ⟨some s10, none, (.mv (.t s71))⟩
    (.one ⟨some s11, none, (.mv (.t s72))⟩
    .done)))))))))))
  (.seq (.reg (.one ⟨some s74, none, (.mv (.t s4))⟩
    (.one ⟨some s75, none, (.mv (.t s7))⟩
    (.one ⟨some s76, none, (.call 19 [(.t s74), (.t s75)])⟩
    (.one ⟨some s73, none, (.mv (.t s76))⟩
    (.one ⟨some s77, none, (.ext (.t s73) 0)⟩
    (.one ⟨some s78, none, (.ext (.t s73) 1)⟩
    (.one ⟨some s79, none, (.ext (.t s73) 2)⟩
    (.one ⟨some s12, none, (.mv (.t s77))⟩
    (.one ⟨some s13, none, (.mv (.t s78))⟩
    (.one ⟨some s14, none, (.mv (.t s79))⟩
    .done)))))))))))
  (.reg (.one ⟨some s80, none, (.mv (.t s9))⟩
    (.one ⟨some s81, none, (.mv (.t s12))⟩
    (.one ⟨some s82, none, (.bin false .eql (.t s80) (.t s81))⟩
    (.one ⟨some s83, none, (.mv (.t s82))⟩
    (.one ⟨some s84, some (s83, true), (.mv (.t s10))⟩
    (.one ⟨some s85, some (s83, true), (.mv (.t s13))⟩
    (.one ⟨some s86, some (s83, true), (.callq 20 [(.t s84), (.t s85)])⟩
    (.one ⟨some s87, none, (.pick (.t s83) (.t s86) (.c (.v (.bool false))))⟩
    (.one ⟨some s88, none, (.mv (.t s87))⟩
    (.one ⟨some s89, some (s88, true), (.mv (.t s11))⟩
    (.one ⟨some s90, some (s88, true), (.mv (.t s14))⟩
    (.one ⟨some s91, some (s88, true), (.bin false .eql (.t s89) (.t s90))⟩
    (.one ⟨some s92, none, (.pick (.t s88) (.t s91) (.c (.v (.bool false))))⟩
    (.one ⟨some s8, none, (.mv (.t s92))⟩
    .done))))))))))))))))) (.seq (.reg (.one ⟨some s94, none, (.bin false .eql (.t s48) (.c (.v (.int .i64 2))))⟩
    (.one ⟨some s93, none, (.mv (.t s94))⟩
    .done)))
  (.cond (.t s93) (.reg (.one ⟨some s95, none, (.mv (.t s3))⟩
    (.one ⟨some s96, none, (.mv (.t s7))⟩
    (.one ⟨some s97, none, (.call 21 [(.t s95), (.t s96)])⟩
    (.one ⟨some s98, none, (.mv (.t s4))⟩
    (.one ⟨some s99, none, (.mv (.t s7))⟩
    (.one ⟨some s100, none, (.call 22 [(.t s98), (.t s99)])⟩
    (.one ⟨some s101, none, (.bin false .eql (.t s97) (.t s100))⟩
    (.one ⟨some s8, none, (.mv (.t s101))⟩
    .done))))))))) .skip))))))))
  (.seq (.reg (.one ⟨some s102, none, (.mv (.t s4))⟩
    (.one ⟨some s103, none, (.mv (.t s7))⟩
    (.one ⟨some s104, none, (.callq 23 [(.t s102), (.t s103)])⟩
    (.one ⟨some s15, none, (.mv (.t s104))⟩
    .done)))))
  (.seq (.reg (.one ⟨some s105, none, (.mv (.t s3))⟩
    (.one ⟨some s106, none, (.callq 24 [(.t s105)])⟩
    (.one ⟨some s16, none, (.mv (.t s106))⟩
    .done))))
  (.seq (.seq (.reg (.one ⟨some s107, none, (.mv (.t s8))⟩
    (.one ⟨some s108, none, (.not (.t s107))⟩
    (.one ⟨some s109, none, (.mv (.t s108))⟩
    (.one ⟨some s110, some (s109, false), (.mv (.t s3))⟩
    (.one ⟨some s111, some (s109, false), (.callq 13 [(.t s110)])⟩
    (.one ⟨some s112, some (s109, false), (.mv (.t s4))⟩
    (.one ⟨some s113, some (s109, false), (.callq 25 [(.t s112)])⟩
    (.one ⟨some s114, some (s109, false), (.bin false .neq (.t s111) (.t s113))⟩
    (.one ⟨some s115, none, (.pick (.t s109) (.c (.v (.bool true))) (.t s114))⟩
    (.one ⟨some s116, none, (.mv (.t s115))⟩
    (.one ⟨some s117, some (s116, false), (.mv (.t s16))⟩
    (.one ⟨some s118, some (s116, false), (.len false (.t s117))⟩
    (.one ⟨some s119, some (s116, false), (.mv (.t s4))⟩
    (.one ⟨some s120, some (s116, false), (.nilchk (.t s119))⟩
    (.one ⟨some s121, some (s116, false), (.faddr 0 (.t s120))⟩
    (.one ⟨some s122, some (s116, false), (.load none (.t s121))⟩
    (.one ⟨some s123, some (s116, false), (.len false (.t s122))⟩
    (.one ⟨some s124, some (s116, false), (.bin false .neq (.t s118) (.t s123))⟩
    (.one ⟨some s125, none, (.pick (.t s116) (.c (.v (.bool true))) (.t s124))⟩
    (.one ⟨some s126, none, (.mv (.t s125))⟩
    (.one ⟨some s127, some (s126, false), (.mv (.t s3))⟩
    (.one ⟨some s128, some (s126, false), (.mv (.t s7))⟩
    (.one ⟨some s129, some (s126, false), (.callq 15 [(.t s127), (.t s128)])⟩
    (.one ⟨some s130, some (s126, false), (.mv (.t s15))⟩
    (.one ⟨some s131, some (s126, false), (.bin false .geq (.t s130) (.c (.v (.int .i64 0))))⟩
    (.one ⟨some s132, some (s126, false), (.mv (.t s131))⟩
    (.one ⟨some s133, some (s132, true), (.mv (.t s4))⟩
    (.one ⟨some s134, some (s132, true), (.nilchk (.t s133))⟩
    (.one ⟨some s135, some (s132, true), (.faddr 0 (.t s134))⟩
    (.one ⟨some s136, some (s132, true), (.load none (.t s135))⟩
    (.one ⟨some s137, some (s132, true), (.mv (.t s15))⟩
    (.one ⟨some s138, some (s132, true), (.iaddr 6 (.t s136) (.t s137))⟩
    (.one ⟨some s139, some (s132, true), (.load (some 6) (.t s138))⟩
    (.one ⟨some s140, some (s132, true), (.callq 26 [(.t s139)])⟩
    (.one ⟨some s141, some (s126, false), (.pick (.t s132) (.t s140) (.c (.v (.bool false))))⟩
    (.one ⟨some s142, some (s126, false), (.bin true .neq (.t s129) (.t s141))⟩
    (.one ⟨some s143, none, (.pick (.t s126) (.c (.v (.bool true))) (.t s142))⟩
    (.one ⟨some s144, none, (.mv (.t s143))⟩
    (.one ⟨some s145, some (s144, false), (.mv (.t s3))⟩
    (.one ⟨some s146, some (s144, false), (.mv (.t s7))⟩
    (.one ⟨some s147, some (s144, false), (.callq 14 [(.t s145), (.t s146)])⟩
    (.one ⟨some s148, some (s144, false), (.callq 28 [(.t s147)])⟩
    (.one ⟨some s149, some (s144, false), (.mv (.t s4))⟩
    (.one ⟨some s150, some (s144, false), (.mv (.t s7))⟩
    (.one ⟨some s151, some (s144, false), (.callq 29 [(.t s149), (.t s150)])⟩
    (.one ⟨some s152, some (s144, false), (.callq 27 [(.t s148), (.t s151)])⟩
    (.one ⟨some s153, some (s144, false), (.not (.t s152))⟩
    (.one ⟨some s154, none, (.pick (.t s144) (.c (.v (.bool true))) (.t s153))⟩
    .done)))))))))))))))))))))))))))))))))))))))))))))))))
  (.cond (.t s154) (.seq (.reg (.one ⟨some s2, none, (.mv (.c (.v (.bool false))))⟩
    .done))
  .ret) .skip))
  (.seq (.reg (.one ⟨some s17, none, (.mv (.c (.v (.int .i64 0))))⟩
    .done))
  (.block 3 (.loop (.seq (.seq (.reg (.one ⟨some s155, none, (.mv (.t s17))⟩
    (.one ⟨some s156, none, (.mv (.t s16))⟩
    (.one ⟨some s157, none, (.len false (.t s156))⟩
    (.one ⟨some s158, none, (.bin false .lss (.t s155) (.t s157))⟩
    .done)))))
  (.cond (.t s158) .skip (.exit 3)))
  (.seq (.block 4 (.seq (.reg (.one ⟨some s161, none, (.mv (.t s16))⟩
    (.one ⟨some s162, none, (.mv (.t s17))⟩
    (.one ⟨some s163, none, (.iaddr 1 (.t s161) (.t s162))⟩
    (.one ⟨some s164, none, (.load none (.t s163))⟩
    (.one ⟨some s165, none, (.mv (.t s4))⟩
    (.one ⟨some s166, none, (.nilchk (.t s165))⟩
    (.one ⟨some s167, none, (.faddr 0 (.t s166))⟩
    (.one ⟨some s168, none, (.load none (.t s167))⟩
    (.one ⟨some s169, none, (.mv (.t s17))⟩
    (.one ⟨some s170, none, (.iaddr 6 (.t s168) (.t s169))⟩
    (.one ⟨some s171, none, (.faddr 0 (.t s170))⟩
    (.one ⟨some s172, none, (.load none (.t s171))⟩
    (.one ⟨some s173, none, (.bin false .neq (.t s164) (.t s172))⟩
    .done))))))))))))))
  (.cond (.t s173) (.seq (.reg (.one ⟨some s2, none, (.mv (.c (.v (.bool false))))⟩
    .done))
  .ret) .skip)))
  (.reg (.one ⟨some s159, none, (.mv (.t s17))⟩
    (.one ⟨some s160, none, (.bin false .add (.t s159) (.c (.v (.int .i64 1))))⟩
    (.one ⟨some s17, none, (.mv (.t s160))⟩
    .done)))))))))))))))))
  (.reg (.one ⟨some s34, none, (.mv (.t s5))⟩
    (.one ⟨some s35, none, (.bin false .add (.t s34) (.c (.v (.int .i64 1))))⟩
    (.one ⟨some s5, none, (.mv (.t s35))⟩
    .done)))))))))
  (.seq (.reg (.one ⟨some s18, none, (.mv (.c (.v (.pointer none))))⟩
    .done))
  (.seq (.reg (.one ⟨some s19, none, (.new [(.v (.map none))])⟩
    .done))
  (.seq (.reg (.one ⟨some s175, none, (.mv (.t s18))⟩
    (.one ⟨some s176, none, (.call 12 [(.t s175), (.c (.v (.int .i64 1)))])⟩
    (.one ⟨some s174, none, (.mv (.t s176))⟩
    (.one ⟨some s177, none, (.ext (.t s174) 0)⟩
    (.one ⟨some s178, none, (.ext (.t s174) 1)⟩
    (.one ⟨some s179, none, (.ext (.t s174) 2)⟩
    (.one ⟨some s20, none, (.mv (.t s177))⟩
    (.one ⟨some s21, none, (.mv (.t s178))⟩
    (.one ⟨some s22, none, (.mv (.t s179))⟩
    .done))))))))))
  (.seq (.reg (.one ⟨some s180, none, (.callq 11 [])⟩
    (.one ⟨some s181, none, (.mv (.t s180))⟩
    (.one ⟨some s182, some (s181, true), (.mv (.t s22))⟩
    (.one ⟨some s183, some (s181, true), (.bin false .eql (.t s182) (.c (.v (.int .i64 6))))⟩
    (.one ⟨some s184, none, (.pick (.t s181) (.t s183) (.c (.v (.bool false))))⟩
    (.one ⟨some s185, none, (.mv (.t s184))⟩
    (.one ⟨some s186, some (s185, true), (.mv (.t s18))⟩
    (.one ⟨some s187, some (s185, true), (.row 1 [(.c (.v (.int .u8 1)))])⟩
    (.one ⟨some s188, some (s185, true), (.row 1 [(.t s187)])⟩
    (.one ⟨some s189, some (s185, true), (.build [(.v (.bool false)), (.v (.int .i64 0)), (.v (.int .i64 0)), (.v (.bool false)), (.v (.bool false)), (.v (.int .i64 0)), (.slice 1 [] .full)] [(6, 1, (.t s188))])⟩
    (.one ⟨some s190, some (s185, true), (.call 16 [(.t s186), (.t s189)])⟩
    (.one ⟨some s191, some (s185, true), (.bin false .eql (.t s190) (.c (.v (.int .i64 6))))⟩
    (.one ⟨some s192, none, (.pick (.t s185) (.t s191) (.c (.v (.bool false))))⟩
    (.one ⟨some s193, none, (.mv (.t s192))⟩
    (.one ⟨some s194, some (s193, true), (.row 1 [(.c (.v (.int .u8 1)))])⟩
    (.one ⟨some s195, some (s193, true), (.row 1 [(.t s194)])⟩
    (.one ⟨some s196, some (s193, true), (.build [(.v (.bool false)), (.v (.int .i64 0)), (.v (.int .i64 0)), (.v (.bool false)), (.v (.bool false)), (.v (.int .i64 0)), (.slice 1 [] .full)] [(6, 1, (.t s195))])⟩
    (.one ⟨some s197, some (s193, true), (.call 16 [(.t s19), (.t s196)])⟩
    (.one ⟨some s198, some (s193, true), (.bin false .eql (.t s197) (.c (.v (.int .i64 6))))⟩
    (.one ⟨some s199, none, (.pick (.t s193) (.t s198) (.c (.v (.bool false))))⟩
    (.one ⟨some s200, none, (.mv (.t s199))⟩
    (.one ⟨some s201, some (s200, true), (.call 21 [(.t s19), (.c (.v (.int .i64 1)))])⟩
    (.one ⟨some s202, some (s200, true), (.bin false .eql (.t s201) (.c (.v (.int .i64 6))))⟩
    (.one ⟨some s203, none, (.pick (.t s200) (.t s202) (.c (.v (.bool false))))⟩
    (.one ⟨some s204, none, (.mv (.t s203))⟩
    (.one ⟨some s205, some (s204, true), (.mv (.t s18))⟩
    (.one ⟨some s206, some (s204, true), (.callq 15 [(.t s205), (.c (.v (.int .i64 1)))])⟩
    (.one ⟨some s207, some (s204, true), (.not (.t s206))⟩
    (.one ⟨some s208, none, (.pick (.t s204) (.t s207) (.c (.v (.bool false))))⟩
    (.one ⟨some s209, none, (.mv (.t s208))⟩
    (.one ⟨some s210, some (s209, true), (.mv (.t s18))⟩
    (.one ⟨some s211, some (s209, true), (.callq 13 [(.t s210)])⟩
    (.one ⟨some s212, some (s209, true), (.callq 24 [(.t s19)])⟩
    (.one ⟨some s213, some (s209, true), (.len false (.t s212))⟩
    (.one ⟨some s214, some (s209, true), (.bin false .add (.t s211) (.t s213))⟩
    (.one ⟨some s215, some (s209, true), (.mv (.t s18))⟩
    (.one ⟨some s216, some (s209, true), (.callq 14 [(.t s215), (.c (.v (.int .i64 1)))])⟩
    (.one ⟨some s217, some (s209, true), (.len false (.t s216))⟩
    (.one ⟨some s218, some (s209, true), (.bin false .add (.t s214) (.t s217))⟩
    (.one ⟨some s219, some (s209, true), (.bin false .eql (.t s218) (.c (.v (.int .i64 0))))⟩
    (.one ⟨some s220, none, (.pick (.t s209) (.t s219) (.c (.v (.bool false))))⟩
    (.one ⟨some s2, none, (.mv (.t s220))⟩
    .done)))))))))))))))))))))))))))))))))))))))))))
  .ret)))))))⟩
theorem ok4 : compF Try.prog c4 Try.f4 = some ir4 := by kernel_rfl
/- bowlinelaw24.RxbufMakes -/
def c8m : Cfg := ⟨qs, [54], 244, [], ps⟩
def ir8m : IFun := ⟨4, [.tmp s8],
  (.seq (.reg (.one ⟨some s4, none, (.box 7 (.t s0))⟩
    (.one ⟨some s8, none, (.mv (.c (.v (.bool false))))⟩
    .done)))
  (.seq (.seq (.reg (.one ⟨some s26, none, (.faddr 6 (.t s4))⟩
    (.one ⟨some s27, none, (.load none (.t s26))⟩
    (.one ⟨some s28, none, (.callq 10 [(.t s27)])⟩
    (.one ⟨some s29, none, (.mv (.t s28))⟩
    (.one ⟨some s30, some (s29, false), (.faddr 3 (.t s4))⟩
    (.one ⟨some s31, some (s29, false), (.load none (.t s30))⟩
    (.one ⟨some s32, none, (.pick (.t s29) (.c (.v (.bool true))) (.t s31))⟩
    (.one ⟨some s33, none, (.mv (.t s32))⟩
    (.one ⟨some s34, some (s33, false), (.load (some 7) (.t s4))⟩
    (.one ⟨some s35, some (s33, false), (.mv (.t s3))⟩
    (.one ⟨some s36, some (s33, false), (.callq 49 [(.t s34), (.t s35)])⟩
    (.one ⟨some s37, some (s33, false), (.not (.t s36))⟩
    (.one ⟨some s38, none, (.pick (.t s33) (.c (.v (.bool true))) (.t s37))⟩
    (.one ⟨some s39, none, (.mv (.t s38))⟩
    (.one ⟨some s40, some (s39, false), (.mv (.t s2))⟩
    (.one ⟨some s41, some (s39, false), (.len false (.t s40))⟩
    (.one ⟨some s42, some (s39, false), (.bin false .eql (.t s41) (.c (.v (.int .i64 0))))⟩
    (.one ⟨some s43, none, (.pick (.t s39) (.c (.v (.bool true))) (.t s42))⟩
    .done)))))))))))))))))))
  (.cond (.t s43) (.seq (.reg (.one ⟨some s44, none, (.callq 11 [])⟩
    (.one ⟨some s8, none, (.mv (.t s44))⟩
    .done)))
  .ret) .skip))
  (.seq (.reg (.one ⟨some s45, none, (.load (some 7) (.t s4))⟩
    (.one ⟨some s46, none, (.callq 33 [(.t s45)])⟩
    (.one ⟨some s47, none, (.len false (.t s46))⟩
    (.one ⟨some s9, none, (.mv (.t s47))⟩
    .done)))))
  (.seq (.reg (.one ⟨some s48, none, (.mv (.t s9))⟩
    (.one ⟨some s49, none, (.mkm 1 (.v (.bool false)) (.t s48) (.t s48))⟩
    (.one ⟨some s10, none, (.mv (.t s49))⟩
    .done))))
  (.seq (.reg (.one ⟨some s50, none, (.callq 9 [])⟩
    (.one ⟨some s11, none, (.mv (.t s50))⟩
    .done)))
  (.seq (.seq (.reg (.one ⟨some s51, none, (.mv (.t s9))⟩
    (.one ⟨some s52, none, (.bin false .eql (.t s51) (.c (.v (.int .i64 0))))⟩
    .done)))
  (.cond (.t s52) (.seq (.reg (.one ⟨some s8, none, (.mv (.c (.v (.bool false))))⟩
    .done))
  .ret) .skip))
  (.seq (.seq (.reg (.one ⟨some s12, none, (.mv (.c (.v (.int .i64 0))))⟩
    .done))
  (.block 0 (.loop (.seq (.seq (.reg (.one ⟨some s53, none, (.mv (.t s12))⟩
    (.one ⟨some s54, none, (.mv (.t s1))⟩
    (.one ⟨some s55, none, (.len false (.t s54))⟩
    (.one ⟨some s56, none, (.mv (.t s9))⟩
    (.one ⟨some s57, none, (.bin false .add (.t s55) (.t s56))⟩
    (.one ⟨some s58, none, (.bin false .lss (.t s53) (.t s57))⟩
    (.one ⟨some s59, none, (.mv (.t s58))⟩
    (.one ⟨some s60, some (s59, true), (.mv (.t s12))⟩
    (.one ⟨some s61, some (s59, true), (.bin false .lss (.t s60) (.c (.v (.int .i64 300))))⟩
    (.one ⟨some s62, none, (.pick (.t s59) (.t s61) (.c (.v (.bool false))))⟩
    .done)))))))))))
  (.cond (.t s62) .skip (.exit 0)))
  (.seq (.block 1 (.seq (.reg (.one ⟨some s13, none, (.mv (.c (.v (.int .i64 0))))⟩
    .done))
  (.seq (.seq (.reg (.one ⟨some s65, none, (.mv (.t s12))⟩
    (.one ⟨some s66, none, (.mv (.t s1))⟩
    (.one ⟨some s67, none, (.len false (.t s66))⟩
    (.one ⟨some s68, none, (.bin false .lss (.t s65) (.t s67))⟩
    .done)))))
  (.cond (.t s68) (.reg (.one ⟨some s69, none, (.mv (.t s1))⟩
    (.one ⟨some s70, none, (.mv (.t s12))⟩
    (.one ⟨some s71, none, (.iaddr 1 (.t s69) (.t s70))⟩
    (.one ⟨some s72, none, (.load none (.t s71))⟩
    (.one ⟨some s73, none, (.conv .i64 (.t s72))⟩
    (.one ⟨some s74, none, (.mv (.t s9))⟩
    (.one ⟨some s75, none, (.bin false .rem (.t s73) (.t s74))⟩
    (.one ⟨some s13, none, (.mv (.t s75))⟩
    .done))))))))) (.block 2 (.loop (.seq (.seq (.reg (.one ⟨some s76, none, (.mv (.t s13))⟩
    (.one ⟨some s77, none, (.mv (.t s9))⟩
    (.one ⟨some s78, none, (.bin false .lss (.t s76) (.t s77))⟩
    (.one ⟨some s79, none, (.mv (.t s78))⟩
    (.one ⟨some s80, some (s79, true), (.mv (.t s10))⟩
    (.one ⟨some s81, some (s79, true), (.mv (.t s13))⟩
    (.one ⟨some s82, some (s79, true), (.iaddr 1 (.t s80) (.t s81))⟩
    (.one ⟨some s83, some (s79, true), (.load none (.t s82))⟩
    (.one ⟨some s84, none, (.pick (.t s79) (.t s83) (.c (.v (.bool false))))⟩
    .done))))))))))
  (.cond (.t s84) .skip (.exit 2)))
  (.block 3 (.reg (.one ⟨some s85, none, (.mv (.t s13))⟩
    (.one ⟨some s86, none, (.bin false .add (.t s85) (.c (.v (.int .i64 1))))⟩
    (.one ⟨some s13, none, (.mv (.t s86))⟩
    .done))))))))))
  (.seq (.seq (.reg (.one ⟨some s87, none, (.mv (.t s13))⟩
    (.one ⟨some s88, none, (.mv (.t s9))⟩
    (.one ⟨some s89, none, (.bin false .eql (.t s87) (.t s88))⟩
    .done))))
  (.cond (.t s89) (.exit 0) .skip))
  (.seq (.reg (.one ⟨some s91, none, (.load (some 7) (.t s4))⟩
    (.one ⟨some s92, none, (.mv (.t s13))⟩
    (.one ⟨some s93, none, (.mv (.t s9))⟩
    (.one ⟨some s94, none, (.mv (.t s3))⟩
    (.one ⟨some s95, none, (.callp 51 [(.t s94)])⟩
    (.one ⟨some s96, none, (.mv (.t s2))⟩
    (.one ⟨some s97, none, (.mv (.t s12))⟩
    (.one ⟨some s98, none, (.mv (.t s2))⟩
    (.one ⟨some s99, none, (.len false (.t s98))⟩
    (.one ⟨some s100, none, (.bin false .rem (.t s97) (.t s99))⟩
    (.one ⟨some s101, none, (.iaddr 1 (.t s96) (.t s100))⟩
    (.one ⟨some s102, none, (.load none (.t s101))⟩
    (.one ⟨some s103, none, (.conv .i64 (.t s102))⟩
    (.one ⟨some s104, none, (.bin false .rem (.t s103) (.c (.v (.int .i64 40))))⟩
    (.one ⟨some s105, none, (.bin false .add (.t s95) (.t s104))⟩
    (.one ⟨some s106, none, (.mv (.t s3))⟩
    (.one ⟨some s107, none, (.callp 50 [(.t s91), (.t s92), (.t s93), (.t s105), (.t s106)])⟩
    (.one ⟨some s90, none, (.mv (.t s107))⟩
    (.one ⟨some s108, none, (.ext (.t s90) 0)⟩
    (.one ⟨some s109, none, (.ext (.t s90) 1)⟩
    (.one ⟨some s110, none, (.ext (.t s90) 2)⟩
    (.one ⟨some s14, none, (.new [(.v (.bool false)), (.v (.int .i64 0)), (.v (.int .i64 0)), (.v (.bool false)), (.v (.bool false)), (.v (.int .i64 0)), (.slice 1 [] .full)])⟩
    (.one ⟨none, none, (.store 7 (.t s14) (.t s108))⟩
    (.one ⟨some s15, none, (.mv (.t s109))⟩
    (.one ⟨some s16, none, (.mv (.t s110))⟩
    .done))))))))))))))))))))))))))
  (.seq (.seq (.reg (.one ⟨some s111, none, (.mv (.t s16))⟩
    (.one ⟨some s112, none, (.bin false .neq (.t s111) (.c (.v (.int .i64 0))))⟩
    (.one ⟨some s113, none, (.mv (.t s112))⟩
    (.one ⟨some s114, some (s113, false), (.mv (.t s15))⟩
    (.one ⟨some s115, some (s113, false), (.mv (.t s13))⟩
    (.one ⟨some s116, some (s113, false), (.bin false .leq (.t s114) (.t s115))⟩
    (.one ⟨some s117, none, (.pick (.t s113) (.c (.v (.bool true))) (.t s116))⟩
    (.one ⟨some s118, none, (.mv (.t s117))⟩
    (.one ⟨some s119, some (s118, false), (.mv (.t s15))⟩
    (.one ⟨some s120, some (s118, false), (.mv (.t s9))⟩
    (.one ⟨some s121, some (s118, false), (.bin false .gtr (.t s119) (.t s120))⟩
    (.one ⟨some s122, none, (.pick (.t s118) (.c (.v (.bool true))) (.t s121))⟩
    .done)))))))))))))
  (.cond (.t s122) (.seq (.reg (.one ⟨some s8, none, (.mv (.c (.v (.bool false))))⟩
    .done))
  .ret) .skip))
  (.seq (.reg (.one ⟨some s17, none, (.mv (.c (.v (.bool true))))⟩
    .done))
  (.seq (.seq (.reg (.one ⟨some s123, none, (.mv (.t s13))⟩
    (.one ⟨some s18, none, (.mv (.t s123))⟩
    .done)))
  (.block 4 (.loop (.seq (.seq (.reg (.one ⟨some s124, none, (.mv (.t s18))⟩
    (.one ⟨some s125, none, (.mv (.t s15))⟩
    (.one ⟨some s126, none, (.bin false .lss (.t s124) (.t s125))⟩
    .done))))
  (.cond (.t s126) .skip (.exit 4)))
  (.seq (.block 5 (.reg (.one ⟨some s129, none, (.mv (.t s17))⟩
    (.one ⟨some s130, none, (.mv (.t s129))⟩
    (.one ⟨some s131, some (s130, true), (.mv (.t s10))⟩
    (.one ⟨some s132, some (s130, true), (.mv (.t s18))⟩
    (.one ⟨some s133, some (s130, true), (.iaddr 1 (.t s131) (.t s132))⟩
    (.one ⟨some s134, some (s130, true), (.load none (.t s133))⟩
    (.one ⟨some s135, none, (.pick (.t s130) (.t s134) (.c (.v (.bool false))))⟩
    (.one ⟨some s17, none, (.mv (.t s135))⟩
    .done))))))))))
  (.reg (.one ⟨some s127, none, (.mv (.t s18))⟩
    (.one ⟨some s128, none, (.bin false .add (.t s127) (.c (.v (.int .i64 1))))⟩
    (.one ⟨some s18, none, (.mv (.t s128))⟩
    .done)))))))))
  (.seq (.reg (.one ⟨some s136, none, (.mv (.t s11))⟩
    (.one ⟨some s137, none, (.load (some 7) (.t s14))⟩
    (.one ⟨some s138, none, (.call 16 [(.t s136), (.t s137)])⟩
    (.one ⟨some s19, none, (.mv (.t s138))⟩
    .done)))))
  (.seq (.seq (.reg (.one ⟨some s139, none, (.mv (.t s17))⟩
    (.one ⟨some s140, none, (.mv (.t s19))⟩
    (.one ⟨some s141, none, (.bin false .eql (.t s140) (.c (.v (.int .i64 12))))⟩
    (.one ⟨some s142, none, (.bin true .neq (.t s139) (.t s141))⟩
    (.one ⟨some s143, none, (.mv (.t s142))⟩
    (.one ⟨some s144, some (s143, false), (.mv (.t s17))⟩
    (.one ⟨some s145, some (s143, false), (.not (.t s144))⟩
    (.one ⟨some s146, some (s143, false), (.mv (.t s145))⟩
    (.one ⟨some s147, some (s146, true), (.mv (.t s19))⟩
    (.one ⟨some s148, some (s146, true), (.bin false .eql (.t s147) (.c (.v (.int .i64 5))))⟩
    (.one ⟨some s149, some (s143, false), (.pick (.t s146) (.t s148) (.c (.v (.bool false))))⟩
    (.one ⟨some s150, none, (.pick (.t s143) (.c (.v (.bool true))) (.t s149))⟩
    .done)))))))))))))
  (.cond (.t s150) (.seq (.reg (.one ⟨some s151, none, (.mv (.t s17))⟩
    (.one ⟨some s152, none, (.not (.t s151))⟩
    (.one ⟨some s153, none, (.mv (.t s152))⟩
    (.one ⟨some s154, some (s153, true), (.mv (.t s19))⟩
    (.one ⟨some s155, some (s153, true), (.bin false .eql (.t s154) (.c (.v (.int .i64 5))))⟩
    (.one ⟨some s156, none, (.pick (.t s153) (.t s155) (.c (.v (.bool false))))⟩
    (.one ⟨some s157, none, (.mv (.t s156))⟩
    (.one ⟨some s158, some (s157, true), (.callq 11 [])⟩
    (.one ⟨some s159, none, (.pick (.t s157) (.t s158) (.c (.v (.bool false))))⟩
    (.one ⟨some s8, none, (.mv (.t s159))⟩
    .done)))))))))))
  .ret) .skip))
  (.seq (.seq (.reg (.one ⟨some s160, none, (.mv (.t s17))⟩
    (.one ⟨some s161, none, (.not (.t s160))⟩
    (.one ⟨some s162, none, (.mv (.t s161))⟩
    (.one ⟨some s163, some (s162, true), (.mv (.t s19))⟩
    (.one ⟨some s164, some (s162, true), (.bin false .neq (.t s163) (.c (.v (.int .i64 0))))⟩
    (.one ⟨some s165, none, (.pick (.t s162) (.t s164) (.c (.v (.bool false))))⟩
    .done)))))))
  (.cond (.t s165) (.seq (.reg (.one ⟨some s8, none, (.mv (.c (.v (.bool false))))⟩
    .done))
  .ret) .skip))
  (.seq (.reg (.one ⟨some s20, none, (.mv (.c (.v (.bool true))))⟩
    .done))
  (.seq (.seq (.reg (.one ⟨some s21, none, (.mv (.c (.v (.int .i64 0))))⟩
    .done))
  (.block 6 (.loop (.seq (.seq (.reg (.one ⟨some s166, none, (.mv (.t s21))⟩
    (.one ⟨some s167, none, (.mv (.t s9))⟩
    (.one ⟨some s168, none, (.bin false .lss (.t s166) (.t s167))⟩
    .done))))
  (.cond (.t s168) .skip (.exit 6)))
  (.seq (.block 7 (.seq (.reg (.one ⟨some s171, none, (.mv (.t s10))⟩
    (.one ⟨some s172, none, (.mv (.t s21))⟩
    (.one ⟨some s173, none, (.mv (.t s10))⟩
    (.one ⟨some s174, none, (.mv (.t s21))⟩
    (.one ⟨some s175, none, (.iaddr 1 (.t s173) (.t s174))⟩
    (.one ⟨some s176, none, (.load none (.t s175))⟩
    (.one ⟨some s177, none, (.mv (.t s176))⟩
    (.one ⟨some s178, some (s177, false), (.mv (.t s21))⟩
    (.one ⟨some s179, some (s177, false), (.mv (.t s13))⟩
    (.one ⟨some s180, some (s177, false), (.bin false .geq (.t s178) (.t s179))⟩
    (.one ⟨some s181, some (s177, false), (.mv (.t s180))⟩
    (.one ⟨some s182, some (s181, true), (.mv (.t s21))⟩
    (.one ⟨some s183, some (s181, true), (.mv (.t s15))⟩
    (.one ⟨some s184, some (s181, true), (.bin false .lss (.t s182) (.t s183))⟩
    (.one ⟨some s185, some (s177, false), (.pick (.t s181) (.t s184) (.c (.v (.bool false))))⟩
    (.one ⟨some s186, none, (.pick (.t s177) (.c (.v (.bool true))) (.t s185))⟩
    (.one ⟨some s187, none, (.iaddr 1 (.t s171) (.t s172))⟩
    (.one ⟨none, none, (.store 1 (.t s187) (.t s186))⟩
    .done)))))))))))))))))))
  (.reg (.one ⟨some s188, none, (.mv (.t s20))⟩
    (.one ⟨some s189, none, (.mv (.t s188))⟩
    (.one ⟨some s190, some (s189, true), (.mv (.t s10))⟩
    (.one ⟨some s191, some (s189, true), (.mv (.t s21))⟩
    (.one ⟨some s192, some (s189, true), (.iaddr 1 (.t s190) (.t s191))⟩
    (.one ⟨some s193, some (s189, true), (.load none (.t s192))⟩
    (.one ⟨some s194, none, (.pick (.t s189) (.t s193) (.c (.v (.bool false))))⟩
    (.one ⟨some s20, none, (.mv (.t s194))⟩
    .done)))))))))))
  (.reg (.one ⟨some s169, none, (.mv (.t s21))⟩
    (.one ⟨some s170, none, (.bin false .add (.t s169) (.c (.v (.int .i64 1))))⟩
    (.one ⟨some s21, none, (.mv (.t s170))⟩
    .done)))))))))
  (.seq (.reg (.one ⟨some s195, none, (.mv (.t s11))⟩
    (.one ⟨some s196, none, (.faddr 2 (.t s4))⟩
    (.one ⟨some s197, none, (.load none (.t s196))⟩
    (.one ⟨some s198, none, (.callq 15 [(.t s195), (.t s197)])⟩
    (.one ⟨some s199, none, (.mv (.t s198))⟩
    (.one ⟨some s200, some (s199, true), (.mv (.t s20))⟩
    (.one ⟨some s201, some (s199, true), (.not (.t s200))⟩
    (.one ⟨some s202, none, (.pick (.t s199) (.t s201) (.c (.v (.bool false))))⟩
    .done)))))))))
  (.cond (.t s202) (.seq (.reg (.one ⟨some s8, none, (.mv (.c (.v (.bool false))))⟩
    .done))
  .ret) .skip)))))))))))))))
  (.reg (.one ⟨some s63, none, (.mv (.t s12))⟩
    (.one ⟨some s64, none, (.bin false .add (.t s63) (.c (.v (.int .i64 1))))⟩
    (.one ⟨some s12, none, (.mv (.t s64))⟩
    .done)))))))))
  (.seq (.seq (.reg (.one ⟨some s22, none, (.mv (.c (.v (.int .i64 0))))⟩
    .done))
  (.block 8 (.loop (.seq (.seq (.reg (.one ⟨some s203, none, (.mv (.t s22))⟩
    (.one ⟨some s204, none, (.mv (.t s9))⟩
    (.one ⟨some s205, none, (.bin false .lss (.t s203) (.t s204))⟩
    .done))))
  (.cond (.t s205) .skip (.exit 8)))
  (.seq (.block 9 (.seq (.reg (.one ⟨some s208, none, (.mv (.t s10))⟩
    (.one ⟨some s209, none, (.mv (.t s22))⟩
    (.one ⟨some s210, none, (.iaddr 1 (.t s208) (.t s209))⟩
    (.one ⟨some s211, none, (.load none (.t s210))⟩
    (.one ⟨some s212, none, (.not (.t s211))⟩
    .done))))))
  (.cond (.t s212) (.seq (.reg (.one ⟨some s213, none, (.callq 11 [])⟩
    (.one ⟨some s8, none, (.mv (.t s213))⟩
    .done)))
  .ret) .skip)))
  (.reg (.one ⟨some s206, none, (.mv (.t s22))⟩
    (.one ⟨some s207, none, (.bin false .add (.t s206) (.c (.v (.int .i64 1))))⟩
    (.one ⟨some s22, none, (.mv (.t s207))⟩
    .done)))))))))
  (.seq (.reg (.one ⟨some s215, none, (.mv (.t s11))⟩
    (.one ⟨some s216, none, (.faddr 2 (.t s4))⟩
    (.one ⟨some s217, none, (.load none (.t s216))⟩
    (.one ⟨some s218, none, (.call 12 [(.t s215), (.t s217)])⟩
    (.one ⟨some s214, none, (.mv (.t s218))⟩
    (.one ⟨some s219, none, (.ext (.t s214) 0)⟩
    (.one ⟨some s220, none, (.ext (.t s214) 1)⟩
    (.one ⟨some s221, none, (.ext (.t s214) 2)⟩
    (.one ⟨some s23, none, (.mv (.t s219))⟩
    (.one ⟨some s24, none, (.mv (.t s220))⟩
    (.one ⟨some s25, none, (.mv (.t s221))⟩
    .done))))))))))))
  (.seq (.reg (.one ⟨some s222, none, (.callq 11 [])⟩
    (.one ⟨some s223, none, (.mv (.t s222))⟩
    (.one ⟨some s224, some (s223, true), (.mv (.t s25))⟩
    (.one ⟨some s225, some (s223, true), (.bin false .eql (.t s224) (.c (.v (.int .i64 0))))⟩
    (.one ⟨some s226, none, (.pick (.t s223) (.t s225) (.c (.v (.bool false))))⟩
    (.one ⟨some s227, none, (.mv (.t s226))⟩
    (.one ⟨some s228, some (s227, true), (.mv (.t s23))⟩
    (.one ⟨some s229, some (s227, true), (.faddr 1 (.t s4))⟩
    (.one ⟨some s230, some (s227, true), (.load none (.t s229))⟩
    (.one ⟨some s231, some (s227, true), (.bin false .eql (.t s228) (.t s230))⟩
    (.one ⟨some s232, none, (.pick (.t s227) (.t s231) (.c (.v (.bool false))))⟩
    (.one ⟨some s233, none, (.mv (.t s232))⟩
    (.one ⟨some s234, some (s233, true), (.mv (.t s24))⟩
    (.one ⟨some s235, some (s233, true), (.faddr 6 (.t s4))⟩
    (.one ⟨some s236, some (s233, true), (.load none (.t s235))⟩
    (.one ⟨some s237, some (s233, true), (.callq 20 [(.t s234), (.t s236)])⟩
    (.one ⟨some s238, none, (.pick (.t s233) (.t s237) (.c (.v (.bool false))))⟩
    (.one ⟨some s239, none, (.mv (.t s238))⟩
    (.one ⟨some s240, some (s239, true), (.mv (.t s11))⟩
    (.one ⟨some s241, some (s239, true), (.callq 13 [(.t s240)])⟩
    (.one ⟨some s242, some (s239, true), (.bin false .eql (.t s241) (.c (.v (.int .i64 0))))⟩
    (.one ⟨some s243, none, (.pick (.t s239) (.t s242) (.c (.v (.bool false))))⟩
    (.one ⟨some s8, none, (.mv (.t s243))⟩
    .done))))))))))))))))))))))))
  .ret))))))))))⟩
theorem ok8m : compF Try.prog c8m Try.f8 = some ir8m := by kernel_rfl
theorem km_bowlinelaw24_RxbufMakes {args : List AVal} {σ : AHeap} {Q : AVal → AHeap → Prop} (hl : Nat.ble args.length 244 = true) (h : argsK (Env.full 9) 0 args fun env => evC Try.prog c8m ir8m.body env σ (retQ ir8m Q)) : ACalls Try.prog 8 args σ Q :=
  acalls_of Try.func8 ok8m rfl (Nat.le_of_ble_eq_true hl) h
/- bowlinelaw24.alive -/
def c11 : Cfg := ⟨qs, [], 104, [14, 22, 28], ps⟩
def ir11 : IFun := ⟨0, [.tmp s0],
  (.seq (.reg (.one ⟨some s0, none, (.mv (.c (.v (.bool false))))⟩
    .done))
  (.seq (.reg (.one ⟨some s12, none, (.callq 9 [])⟩
    (.one ⟨some s1, none, (.mv (.t s12))⟩
    .done)))
  (.seq (.reg (.one ⟨some s13, none, (.mv (.t s1))⟩
    (.one ⟨some s14, none, (.rowT 1 [(.c (.v (.int .u8 99))), (.c (.v (.int .u8 100)))])⟩
    (.one ⟨some s15, none, (.mark (.t s14))⟩
    (.one ⟨some s16, none, (.row 1 [(.t s15)])⟩
    (.one ⟨some s17, none, (.build [(.v (.bool false)), (.v (.int .i64 0)), (.v (.int .i64 0)), (.v (.bool false)), (.v (.bool false)), (.v (.int .i64 0)), (.slice 1 [] .full)] [(2, 1, (.c (.v (.int .i64 3)))), (3, 1, (.c (.v (.bool true)))), (4, 1, (.c (.v (.bool true)))), (5, 1, (.c (.v (.int .i64 2)))), (1, 1, (.c (.v (.int .i64 1)))), (6, 1, (.t s16))])⟩
    (.one ⟨some s18, none, (.call 16 [(.t s13), (.t s17)])⟩
    (.one ⟨some s2, none, (.mv (.t s18))⟩
    .done))))))))
  (.seq (.reg (.one ⟨some s19, none, (.mv (.t s1))⟩
    (.one ⟨some s20, none, (.callq 14 [(.t s19), (.c (.v (.int .i64 3)))])⟩
    (.one ⟨some s3, none, (.mv (.t s20))⟩
    .done))))
  (.seq (.reg (.one ⟨some s21, none, (.mv (.t s1))⟩
    (.one ⟨some s22, none, (.rowT 1 [(.c (.v (.int .u8 97))), (.c (.v (.int .u8 98)))])⟩
    (.one ⟨some s23, none, (.mark (.t s22))⟩
    (.one ⟨some s24, none, (.row 1 [(.t s23)])⟩
    (.one ⟨some s25, none, (.build [(.v (.bool false)), (.v (.int .i64 0)), (.v (.int .i64 0)), (.v (.bool false)), (.v (.bool false)), (.v (.int .i64 0)), (.slice 1 [] .full)] [(2, 1, (.c (.v (.int .i64 3)))), (3, 1, (.c (.v (.bool true)))), (1, 1, (.c (.v (.int .i64 2)))), (6, 1, (.t s24))])⟩
    (.one ⟨some s26, none, (.call 16 [(.t s21), (.t s25)])⟩
    (.one ⟨some s4, none, (.mv (.t s26))⟩
    .done))))))))
  (.seq (.reg (.one ⟨some s27, none, (.mv (.t s1))⟩
    (.one ⟨some s28, none, (.rowT 1 [(.c (.v (.int .u8 97))), (.c (.v (.int .u8 98)))])⟩
    (.one ⟨some s29, none, (.mark (.t s28))⟩
    (.one ⟨some s30, none, (.row 1 [(.t s29)])⟩
    (.one ⟨some s31, none, (.build [(.v (.bool false)), (.v (.int .i64 0)), (.v (.int .i64 0)), (.v (.bool false)), (.v (.bool false)), (.v (.int .i64 0)), (.slice 1 [] .full)] [(2, 1, (.c (.v (.int .i64 3)))), (3, 1, (.c (.v (.bool true)))), (6, 1, (.t s30))])⟩
    (.one ⟨some s32, none, (.call 16 [(.t s27), (.t s31)])⟩
    (.one ⟨some s5, none, (.mv (.t s32))⟩
    .done))))))))
  (.seq (.reg (.one ⟨some s34, none, (.mv (.t s1))⟩
    (.one ⟨some s35, none, (.call 12 [(.t s34), (.c (.v (.int .i64 3)))])⟩
    (.one ⟨some s33, none, (.mv (.t s35))⟩
    (.one ⟨some s36, none, (.ext (.t s33) 0)⟩
    (.one ⟨some s37, none, (.ext (.t s33) 1)⟩
    (.one ⟨some s38, none, (.ext (.t s33) 2)⟩
    (.one ⟨some s6, none, (.mv (.t s36))⟩
    (.one ⟨some s7, none, (.mv (.t s37))⟩
    (.one ⟨some s8, none, (.mv (.t s38))⟩
    .done))))))))))
  (.seq (.reg (.one ⟨some s40, none, (.mv (.t s1))⟩
    (.one ⟨some s41, none, (.call 12 [(.t s40), (.c (.v (.int .i64 3)))])⟩
    (.one ⟨some s39, none, (.mv (.t s41))⟩
    (.one ⟨some s42, none, (.ext (.t s39) 0)⟩
    (.one ⟨some s43, none, (.ext (.t s39) 1)⟩
    (.one ⟨some s44, none, (.ext (.t s39) 2)⟩
    (.one ⟨some s9, none, (.mv (.t s42))⟩
    (.one ⟨some s10, none, (.mv (.t s43))⟩
    (.one ⟨some s11, none, (.mv (.t s44))⟩
    .done))))))))))
  (.seq (.reg (.one ⟨some s45, none, (.mv (.t s2))⟩
    (.one ⟨some s46, none, (.bin false .eql (.t s45) (.c (.v (.int .i64 0))))⟩
    (.one ⟨some s47, none, (.mv (.t s46))⟩
    (.one ⟨some s48, some (s47, true), (.mv (.t s3))⟩
    (.one ⟨some s49, some (s47, true), (.len false (.t s48))⟩
    (.one ⟨some s50, some (s47, true), (.bin false .eql (.t s49) (.c (.v (.int .i64 1))))⟩
    (.one ⟨some s51, none, (.pick (.t s47) (.t s50) (.c (.v (.bool false))))⟩
    (.one ⟨some s52, none, (.mv (.t s51))⟩
    (.one ⟨some s53, some (s52, true), (.mv (.t s3))⟩
    (.one ⟨some s54, some (s52, true), (.iaddr 2 (.t s53) (.c (.v (.int .i64 0))))⟩
    (.one ⟨some s55, some (s52, true), (.faddr 1 (.t s54))⟩
    (.one ⟨some s56, some (s52, true), (.load none (.t s55))⟩
    (.one ⟨some s57, some (s52, true), (.bin false .eql (.t s56) (.c (.v (.int .i64 2))))⟩
    (.one ⟨some s58, none, (.pick (.t s52) (.t s57) (.c (.v (.bool false))))⟩
    (.one ⟨some s59, none, (.mv (.t s58))⟩
    (.one ⟨some s60, some (s59, true), (.mv (.t s4))⟩
    (.one ⟨some s61, some (s59, true), (.bin false .eql (.t s60) (.c (.v (.int .i64 0))))⟩
    (.one ⟨some s62, none, (.pick (.t s59) (.t s61) (.c (.v (.bool false))))⟩
    (.one ⟨some s63, none, (.mv (.t s62))⟩
    (.one ⟨some s64, some (s63, true), (.mv (.t s5))⟩
    (.one ⟨some s65, some (s63, true), (.bin false .eql (.t s64) (.c (.v (.int .i64 12))))⟩
    (.one ⟨some s66, none, (.pick (.t s63) (.t s65) (.c (.v (.bool false))))⟩
    (.one ⟨some s67, none, (.mv (.t s66))⟩
    (.one ⟨some s68, some (s67, true), (.mv (.t s6))⟩
    (.one ⟨some s69, some (s67, true), (.bin false .eql (.t s68) (.c (.v (.int .i64 3))))⟩
    (.one ⟨some s70, none, (.pick (.t s67) (.t s69) (.c (.v (.bool false))))⟩
    (.one ⟨some s71, none, (.mv (.t s70))⟩
    (.one ⟨some s72, some (s71, true), (.mv (.t s7))⟩
    (.one ⟨some s73, some (s71, true), (.len false (.t s72))⟩
    (.one ⟨some s74, some (s71, true), (.bin false .eql (.t s73) (.c (.v (.int .i64 2))))⟩
    (.one ⟨some s75, none, (.pick (.t s71) (.t s74) (.c (.v (.bool false))))⟩
    (.one ⟨some s76, none, (.mv (.t s75))⟩
    (.one ⟨some s77, some (s76, true), (.mv (.t s7))⟩
    (.one ⟨some s78, some (s76, true), (.iaddr 1 (.t s77) (.c (.v (.int .i64 0))))⟩
    (.one ⟨some s79, some (s76, true), (.load none (.t s78))⟩
    (.one ⟨some s80, some (s76, true), (.b2s (.t s79))⟩
    (.one ⟨some s81, some (s76, true), (.bin false .eql (.t s80) (.c (.v (.string ⟨#[97, 98]⟩))))⟩
    (.one ⟨some s82, none, (.pick (.t s76) (.t s81) (.c (.v (.bool false))))⟩
    (.one ⟨some s83, none, (.mv (.t s82))⟩
    (.one ⟨some s84, some (s83, true), (.mv (.t s7))⟩
    (.one ⟨some s85, some (s83, true), (.iaddr 1 (.t s84) (.c (.v (.int .i64 1))))⟩
    (.one ⟨some s86, some (s83, true), (.load none (.t s85))⟩
    (.one ⟨some s87, some (s83, true), (.b2s (.t s86))⟩
    (.one ⟨some s88, some (s83, true), (.bin false .eql (.t s87) (.c (.v (.string ⟨#[99, 100]⟩))))⟩
    (.one ⟨some s89, none, (.pick (.t s83) (.t s88) (.c (.v (.bool false))))⟩
    (.one ⟨some s90, none, (.mv (.t s89))⟩
    (.one ⟨some s91, some (s90, true), (.mv (.t s8))⟩
    (.one ⟨some s92, some (s90, true), (.bin false .eql (.t s91) (.c (.v (.int .i64 0))))⟩
    (.one ⟨some s93, none, (.pick (.t s90) (.t s92) (.c (.v (.bool false))))⟩
    (.one ⟨some s94, none, (.mv (.t s93))⟩
    (.one ⟨some s95, some (s94, true), (.mv (.t s11))⟩
    (.one ⟨some s96, some (s94, true), (.bin false .eql (.t s95) (.c (.v (.int .i64 4))))⟩
    (.one ⟨some s97, none, (.pick (.t s94) (.t s96) (.c (.v (.bool false))))⟩
    (.one ⟨some s98, none, (.mv (.t s97))⟩
    (.one ⟨some s99, some (s98, true), (.mv (.t s1))⟩
    (.one ⟨some s100, some (s98, true), (.build [(.v (.bool false)), (.v (.int .i64 0)), (.v (.int .i64 0)), (.v (.bool false)), (.v (.bool false)), (.v (.int .i64 0)), (.slice 1 [] .full)] [])⟩
    (.one ⟨some s101, some (s98, true), (.call 16 [(.t s99), (.t s100)])⟩
    (.one ⟨some s102, some (s98, true), (.bin false .eql (.t s101) (.c (.v (.int .i64 1))))⟩
    (.one ⟨some s103, none, (.pick (.t s98) (.t s102) (.c (.v (.bool false))))⟩
    (.one ⟨some s0, none, (.mv (.t s103))⟩
    .done)))))))))))))))))))))))))))))))))))))))))))))))))))))))))))))
  .ret)))))))))⟩
theorem ok11 : compF Try.prog c11 Try.f11 = some ir11 := by kernel_rfl
theorem k_bowlinelaw24_alive {args : List AVal} {σ : AHeap} {Q : AVal → AHeap → Prop} (hl : Nat.ble args.length 104 = true) (h : argsK (Env.full 9) 0 args fun env => evC Try.prog c11 ir11.body env σ (retQ ir11 Q)) : ACalls Try.prog 11 args σ Q :=
  acalls_of Try.func11 ok11 rfl (Nat.le_of_ble_eq_true hl) h
end Go.Proofs.Ytgobbmdbkmjlnaa
/-
  The bodies of one package, compiled to the framework's language (printed by a program of this session).
-/
namespace Go.Proofs.Ytgobbmdbkmjlnaa
set_option linter.unusedVariables false
set_option linter.unusedSimpArgs false
open Go Go.Am
/- bowlineref09.SameFields -/
def c20 : Cfg := ⟨qs, [], 28, [], ps⟩
def ir20 : IFun := ⟨2, [.tmp s4],
  (.seq (.reg (.one ⟨some s4, none, (.mv (.c (.v (.bool false))))⟩
    .done))
  (.seq (.seq (.reg (.one ⟨some s6, none, (.mv (.t s0))⟩
    (.one ⟨some s7, none, (.len false (.t s6))⟩
    (.one ⟨some s8, none, (.mv (.t s1))⟩
    (.one ⟨some s9, none, (.len false (.t s8))⟩
    (.one ⟨some s10, none, (.bin false .neq (.t s7) (.t s9))⟩
    .done))))))
  (.cond (.t s10) (.seq (.reg (.one ⟨some s4, none, (.mv (.c (.v (.bool false))))⟩
    .done))
  .ret) .skip))
  (.seq (.seq (.reg (.one ⟨some s5, none, (.mv (.c (.v (.int .i64 0))))⟩
    .done))
  (.block 0 (.loop (.seq (.seq (.reg (.one ⟨some s11, none, (.mv (.t s5))⟩
    (.one ⟨some s12, none, (.mv (.t s0))⟩
    (.one ⟨some s13, none, (.len false (.t s12))⟩
    (.one ⟨some s14, none, (.bin false .lss (.t s11) (.t s13))⟩
    .done)))))
  (.cond (.t s14) .skip (.exit 0)))
  (.seq (.block 1 (.seq (.reg (.one ⟨some s17, none, (.mv (.t s0))⟩
    (.one ⟨some s18, none, (.mv (.t s5))⟩
    (.one ⟨some s19, none, (.iaddr 1 (.t s17) (.t s18))⟩
    (.one ⟨some s20, none, (.load none (.t s19))⟩
    (.one ⟨some s21, none, (.b2s (.t s20))⟩
    (.one ⟨some s22, none, (.mv (.t s1))⟩
    (.one ⟨some s23, none, (.mv (.t s5))⟩
    (.one ⟨some s24, none, (.iaddr 1 (.t s22) (.t s23))⟩
    (.one ⟨some s25, none, (.load none (.t s24))⟩
    (.one ⟨some s26, none, (.b2s (.t s25))⟩
    (.one ⟨some s27, none, (.bin false .neq (.t s21) (.t s26))⟩
    .done))))))))))))
  (.cond (.t s27) (.seq (.reg (.one ⟨some s4, none, (.mv (.c (.v (.bool false))))⟩
    .done))
  .ret) .skip)))
  (.reg (.one ⟨some s15, none, (.mv (.t s5))⟩
    (.one ⟨some s16, none, (.bin false .add (.t s15) (.c (.v (.int .i64 1))))⟩
    (.one ⟨some s5, none, (.mv (.t s16))⟩
    .done)))))))))
  (.seq (.reg (.one ⟨some s4, none, (.mv (.c (.v (.bool true))))⟩
    .done))
  .ret))))⟩
theorem ok20 : compF Try.prog c20 Try.f20 = some ir20 := by kernel_rfl
theorem k_bowlineref09_SameFields {args : List AVal} {σ : AHeap} {Q : AVal → AHeap → Prop} (hl : Nat.ble args.length 28 = true) (h : argsK (Env.full 9) 0 args fun env => evC Try.prog c20 ir20.body env σ (retQ ir20 Q)) : ACalls Try.prog 20 args σ Q :=
  acalls_of Try.func20 ok20 rfl (Nat.le_of_ble_eq_true hl) h
end Go.Proofs.Ytgobbmdbkmjlnaa
/-
  The bodies of one package, compiled to the framework's language (printed by a program of this session).
-/
namespace Go.Proofs.Ytgobbmdbkmjlnaa
set_option linter.unusedVariables false
set_option linter.unusedSimpArgs false
open Go Go.Am
end Go.Proofs.Ytgobbmdbkmjlnaa
/-
  The bodies of one package, compiled to the framework's language (printed by a program of this session).
-/
namespace Go.Proofs.Ytgobbmdbkmjlnaa
set_option linter.unusedVariables false
set_option linter.unusedSimpArgs false
open Go Go.Am
end Go.Proofs.Ytgobbmdbkmjlnaa
/-
  The bodies of one package, compiled to the framework's language (printed by a program of this session).
-/
namespace Go.Proofs.Ytgobbmdbkmjlnaa
set_option linter.unusedVariables false
set_option linter.unusedSimpArgs false
open Go Go.Am
/- reseg.Cut -/
def c50 : Cfg := ⟨qs, [], 209, [], ps⟩
def ir50 : IFun := ⟨5, [.cell s10 (some 7), .tmp s11, .tmp s12],
  (.seq (.reg (.one ⟨some s5, none, (.box 7 (.t s0))⟩
    (.one ⟨some s10, none, (.new [(.v (.bool false)), (.v (.int .i64 0)), (.v (.int .i64 0)), (.v (.bool false)), (.v (.bool false)), (.v (.int .i64 0)), (.slice 1 [] .full)])⟩
    (.one ⟨some s11, none, (.mv (.c (.v (.int .i64 0))))⟩
    (.one ⟨some s12, none, (.mv (.c (.v (.int .i64 0))))⟩
    .done)))))
  (.scope (.seq (.seq (.reg (.one ⟨some s22, none, (.faddr 3 (.t s5))⟩
    (.one ⟨some s23, none, (.load none (.t s22))⟩
    (.one ⟨some s24, none, (.mv (.t s23))⟩
    (.one ⟨some s25, some (s24, false), (.load (some 7) (.t s5))⟩
    (.one ⟨some s26, some (s24, false), (.mv (.t s4))⟩
    (.one ⟨some s27, some (s24, false), (.callq 49 [(.t s25), (.t s26)])⟩
    (.one ⟨some s28, some (s24, false), (.not (.t s27))⟩
    (.one ⟨some s29, none, (.pick (.t s24) (.c (.v (.bool true))) (.t s28))⟩
    .done)))))))))
  (.cond (.t s29) (.seq (.reg (.one ⟨some s30, none, (.build [(.v (.bool false)), (.v (.int .i64 0)), (.v (.int .i64 0)), (.v (.bool false)), (.v (.bool false)), (.v (.int .i64 0)), (.slice 1 [] .full)] [])⟩
    (.one ⟨none, none, (.store 7 (.t s10) (.t s30))⟩
    (.one ⟨some s11, none, (.mv (.c (.v (.int .i64 0))))⟩
    (.one ⟨some s12, none, (.mv (.c (.v (.int .i64 3))))⟩
    .done)))))
  .ret) .skip))
  (.seq (.reg (.one ⟨some s31, none, (.load (some 7) (.t s5))⟩
    (.one ⟨some s33, none, (.load (some 7) (.t s5))⟩
    (.one ⟨some s32, none, (.callq 33 [(.t s31)])⟩
    (.one ⟨some s34, none, (.callq 92 [(.t s33)])⟩
    (.one ⟨some s13, none, (.mv (.t s32))⟩
    (.one ⟨some s14, none, (.mv (.t s34))⟩
    .done)))))))
  (.seq (.block 0 (.seq (.reg (.one ⟨some s36, none, (.mv (.t s3))⟩
    (.one ⟨some s37, none, (.bin false .lss (.t s36) (.c (.v (.int .i64 0))))⟩
    (.one ⟨some s38, none, (.mv (.t s37))⟩
    (.one ⟨some s39, some (s38, false), (.mv (.t s3))⟩
    (.one ⟨some s40, some (s38, false), (.bin false .gtr (.t s39) (.c (.v (.int .i64 4096))))⟩
    (.one ⟨some s41, none, (.pick (.t s38) (.c (.v (.bool true))) (.t s40))⟩
    (.one ⟨some s42, none, (.mv (.t s41))⟩
    (.one ⟨some s43, some (s42, false), (.mv (.t s1))⟩
    (.one ⟨some s44, some (s42, false), (.bin false .lss (.t s43) (.c (.v (.int .i64 0))))⟩
    (.one ⟨some s45, none, (.pick (.t s42) (.c (.v (.bool true))) (.t s44))⟩
    (.one ⟨some s46, none, (.mv (.t s45))⟩
    (.one ⟨some s47, some (s46, false), (.mv (.t s1))⟩
    (.one ⟨some s48, some (s46, false), (.mv (.t s2))⟩
    (.one ⟨some s49, some (s46, false), (.bin false .geq (.t s47) (.t s48))⟩
    (.one ⟨some s50, none, (.pick (.t s46) (.c (.v (.bool true))) (.t s49))⟩
    (.one ⟨some s51, none, (.mv (.t s50))⟩
    (.one ⟨some s52, some (s51, false), (.mv (.t s2))⟩
    (.one ⟨some s53, some (s51, false), (.mv (.t s13))⟩
    (.one ⟨some s54, some (s51, false), (.len false (.t s53))⟩
    (.one ⟨some s55, some (s51, false), (.bin false .gtr (.t s52) (.t s54))⟩
    (.one ⟨some s56, none, (.pick (.t s51) (.c (.v (.bool true))) (.t s55))⟩
    (.one ⟨some s35, none, (.mv (.t s56))⟩
    .done)))))))))))))))))))))))
  (.cond (.t s35) (.seq (.reg (.one ⟨some s57, none, (.build [(.v (.bool false)), (.v (.int .i64 0)), (.v (.int .i64 0)), (.v (.bool false)), (.v (.bool false)), (.v (.int .i64 0)), (.slice 1 [] .full)] [])⟩
    (.one ⟨none, none, (.store 7 (.t s10) (.t s57))⟩
    (.one ⟨some s11, none, (.mv (.c (.v (.int .i64 0))))⟩
    (.one ⟨some s12, none, (.mv (.c (.v (.int .i64 1))))⟩
    .done)))))
  .ret) (.seq (.reg (.one ⟨some s59, none, (.mv (.t s1))⟩
    (.one ⟨some s60, none, (.bin false .eql (.t s59) (.c (.v (.int .i64 0))))⟩
    (.one ⟨some s61, none, (.mv (.t s60))⟩
    (.one ⟨some s62, some (s61, true), (.mv (.t s2))⟩
    (.one ⟨some s63, some (s61, true), (.mv (.t s13))⟩
    (.one ⟨some s64, some (s61, true), (.len false (.t s63))⟩
    (.one ⟨some s65, some (s61, true), (.bin false .eql (.t s62) (.t s64))⟩
    (.one ⟨some s66, none, (.pick (.t s61) (.t s65) (.c (.v (.bool false))))⟩
    (.one ⟨some s67, none, (.mv (.t s66))⟩
    (.one ⟨some s68, some (s67, true), (.load (some 7) (.t s5))⟩
    (.one ⟨some s69, some (s67, true), (.mv (.t s4))⟩
    (.one ⟨some s70, some (s67, true), (.callq 91 [(.t s68), (.t s69)])⟩
    (.one ⟨some s71, some (s67, true), (.mv (.t s3))⟩
    (.one ⟨some s72, some (s67, true), (.bin false .leq (.t s70) (.t s71))⟩
    (.one ⟨some s73, none, (.pick (.t s67) (.t s72) (.c (.v (.bool false))))⟩
    (.one ⟨some s58, none, (.mv (.t s73))⟩
    .done)))))))))))))))))
  (.cond (.t s58) (.seq (.reg (.one ⟨some s74, none, (.faddr 0 (.t s5))⟩
    (.one ⟨none, none, (.store 1 (.t s74) (.c (.v (.bool false))))⟩
    .done)))
  (.seq (.reg (.one ⟨some s75, none, (.load (some 7) (.t s5))⟩
    (.one ⟨some s76, none, (.mv (.t s2))⟩
    (.one ⟨none, none, (.store 7 (.t s10) (.t s75))⟩
    (.one ⟨some s11, none, (.mv (.t s76))⟩
    (.one ⟨some s12, none, (.mv (.c (.v (.int .i64 0))))⟩
    .done))))))
  .ret)) .skip)))))
  (.seq (.reg (.one ⟨some s77, none, (.faddr 2 (.t s5))⟩
    (.one ⟨some s78, none, (.load none (.t s77))⟩
    (.one ⟨some s79, none, (.mv (.t s1))⟩
    (.one ⟨some s80, none, (.build [(.v (.bool false)), (.v (.int .i64 0)), (.v (.int .i64 0)), (.v (.bool false)), (.v (.bool false)), (.v (.int .i64 0)), (.slice 1 [] .full)] [(2, 1, (.t s78)), (3, 1, (.c (.v (.bool true)))), (5, 1, (.t s79))])⟩
    (.one ⟨some s15, none, (.new [(.v (.bool false)), (.v (.int .i64 0)), (.v (.int .i64 0)), (.v (.bool false)), (.v (.bool false)), (.v (.int .i64 0)), (.slice 1 [] .full)])⟩
    (.one ⟨none, none, (.store 7 (.t s15) (.t s80))⟩
    .done)))))))
  (.seq (.reg (.one ⟨some s81, none, (.mv (.t s3))⟩
    (.one ⟨some s82, none, (.mxmn false (.t s81) (.c (.v (.int .i64 4000))))⟩
    (.one ⟨some s83, none, (.mv (.t s4))⟩
    (.one ⟨some s84, none, (.callq 93 [(.c (.v (.bool true))), (.t s83)])⟩
    (.one ⟨some s85, none, (.bin false .sub (.t s82) (.t s84))⟩
    (.one ⟨some s16, none, (.mv (.t s85))⟩
    .done)))))))
  (.seq (.reg (.one ⟨some s86, none, (.mv (.t s1))⟩
    (.one ⟨some s17, none, (.mv (.t s86))⟩
    (.one ⟨some s18, none, (.mv (.c (.v (.int .i64 0))))⟩
    .done))))
  (.seq (.reg (.one ⟨some s19, none, (.mv (.c (.v (.int .i64 0))))⟩
    .done))
  (.seq (.label 0)
  (.seq (.seq (.reg (.one ⟨some s87, none, (.mv (.t s14))⟩
    (.one ⟨some s88, none, (.mv (.t s18))⟩
    (.one ⟨some s89, none, (.iaddr 1 (.t s87) (.t s88))⟩
    (.one ⟨some s90, none, (.load none (.t s89))⟩
    (.one ⟨some s91, none, (.mv (.t s17))⟩
    (.one ⟨some s92, none, (.bin false .leq (.t s90) (.t s91))⟩
    .done)))))))
  (.cond (.t s92) (.seq (.reg (.one ⟨some s93, none, (.mv (.t s14))⟩
    (.one ⟨some s94, none, (.mv (.t s18))⟩
    (.one ⟨some s95, none, (.iaddr 1 (.t s93) (.t s94))⟩
    (.one ⟨some s96, none, (.load none (.t s95))⟩
    (.one ⟨some s19, none, (.mv (.t s96))⟩
    .done))))))
  (.seq (.reg (.one ⟨some s97, none, (.mv (.t s18))⟩
    (.one ⟨some s98, none, (.bin false .add (.t s97) (.c (.v (.int .i64 1))))⟩
    (.one ⟨some s18, none, (.mv (.t s98))⟩
    .done))))
  (.goto 0))) .skip))
  (.seq (.seq (.reg (.one ⟨some s99, none, (.mv (.t s17))⟩
    (.one ⟨some s100, none, (.mv (.t s19))⟩
    (.one ⟨some s101, none, (.bin false .neq (.t s99) (.t s100))⟩
    (.one ⟨some s102, none, (.mv (.t s101))⟩
    (.one ⟨some s103, some (s102, false), (.mv (.t s17))⟩
    (.one ⟨some s104, some (s102, false), (.bin false .eql (.t s103) (.c (.v (.int .i64 0))))⟩
    (.one ⟨some s105, some (s102, false), (.mv (.t s104))⟩
    (.one ⟨some s106, some (s105, true), (.faddr 1 (.t s5))⟩
    (.one ⟨some s107, some (s105, true), (.load none (.t s106))⟩
    (.one ⟨some s108, some (s105, true), (.bin false .and (.t s107) (.c (.v (.int .i64 2))))⟩
    (.one ⟨some s109, some (s105, true), (.bin false .neq (.t s108) (.c (.v (.int .i64 0))))⟩
    (.one ⟨some s110, some (s102, false), (.pick (.t s105) (.t s109) (.c (.v (.bool false))))⟩
    (.one ⟨some s111, none, (.pick (.t s102) (.c (.v (.bool true))) (.t s110))⟩
    .done))))))))))))))
  (.cond (.t s111) (.reg (.one ⟨some s112, none, (.faddr 1 (.t s15))⟩
    (.one ⟨none, none, (.store 1 (.t s112) (.c (.v (.int .i64 2))))⟩
    .done))) .skip))
  (.seq (.label 1)
  (.seq (.reg (.one ⟨some s113, none, (.mv (.t s16))⟩
    (.one ⟨some s114, none, (.mv (.t s17))⟩
    (.one ⟨some s115, none, (.mv (.t s1))⟩
    (.one ⟨some s116, none, (.bin false .sub (.t s114) (.t s115))⟩
    (.one ⟨some s117, none, (.bin false .sub (.t s113) (.t s116))⟩
    (.one ⟨some s118, none, (.faddr 6 (.t s15))⟩
    (.one ⟨some s119, none, (.load none (.t s118))⟩
    (.one ⟨some s120, none, (.len false (.t s119))⟩
    (.one ⟨some s121, none, (.mv (.t s4))⟩
    (.one ⟨some s122, none, (.callq 95 [(.t s121)])⟩
    (.one ⟨some s123, none, (.callq 94 [(.t s120), (.t s122)])⟩
    (.one ⟨some s124, none, (.bin false .sub (.t s117) (.t s123))⟩
    (.one ⟨some s20, none, (.mv (.t s124))⟩
    .done))))))))))))))
  (.seq (.reg (.one ⟨some s125, none, (.mv (.t s20))⟩
    (.one ⟨some s126, none, (.mv (.t s14))⟩
    (.one ⟨some s127, none, (.mv (.t s18))⟩
    (.one ⟨some s128, none, (.iaddr 1 (.t s126) (.t s127))⟩
    (.one ⟨some s129, none, (.load none (.t s128))⟩
    (.one ⟨some s130, none, (.mv (.t s17))⟩
    (.one ⟨some s131, none, (.bin false .sub (.t s129) (.t s130))⟩
    (.one ⟨some s132, none, (.mv (.t s2))⟩
    (.one ⟨some s133, none, (.mv (.t s17))⟩
    (.one ⟨some s134, none, (.bin false .sub (.t s132) (.t s133))⟩
    (.one ⟨some s135, none, (.min3 (.t s125) (.t s131) (.t s134))⟩
    (.one ⟨some s21, none, (.mv (.t s135))⟩
    .done)))))))))))))
  (.seq (.seq (.reg (.one ⟨some s136, none, (.mv (.t s21))⟩
    (.one ⟨some s137, none, (.bin false .geq (.t s136) (.c (.v (.int .i64 1))))⟩
    .done)))
  (.cond (.t s137) (.seq (.reg (.one ⟨some s138, none, (.faddr 6 (.t s15))⟩
    (.one ⟨some s139, none, (.load none (.t s138))⟩
    (.one ⟨some s140, none, (.row 1 [])⟩
    (.one ⟨some s141, none, (.mv (.t s13))⟩
    (.one ⟨some s142, none, (.mv (.t s17))⟩
    (.one ⟨some s143, none, (.mv (.t s17))⟩
    (.one ⟨some s144, none, (.mv (.t s21))⟩
    (.one ⟨some s145, none, (.bin false .add (.t s143) (.t s144))⟩
    (.one ⟨some s146, none, (.cut 1 (.t s141) (some (.t s142)) (some (.t s145)) none)⟩
    (.one ⟨some s147, none, (.app 1 1 (.t s140) (.t s146))⟩
    (.one ⟨some s148, none, (.row 1 [(.t s147)])⟩
    (.one ⟨some s149, none, (.app 1 24 (.t s139) (.t s148))⟩
    (.one ⟨some s150, none, (.faddr 6 (.t s15))⟩
    (.one ⟨none, none, (.store 1 (.t s150) (.t s149))⟩
    .done)))))))))))))))
  (.reg (.one ⟨some s151, none, (.mv (.t s17))⟩
    (.one ⟨some s152, none, (.mv (.t s21))⟩
    (.one ⟨some s153, none, (.bin false .add (.t s151) (.t s152))⟩
    (.one ⟨some s17, none, (.mv (.t s153))⟩
    .done)))))) .skip))
  (.seq (.seq (.reg (.one ⟨some s154, none, (.mv (.t s21))⟩
    (.one ⟨some s155, none, (.bin false .geq (.t s154) (.c (.v (.int .i64 1))))⟩
    (.one ⟨some s156, none, (.mv (.t s155))⟩
    (.one ⟨some s157, some (s156, true), (.mv (.t s17))⟩
    (.one ⟨some s158, some (s156, true), (.mv (.t s14))⟩
    (.one ⟨some s159, some (s156, true), (.mv (.t s18))⟩
    (.one ⟨some s160, some (s156, true), (.iaddr 1 (.t s158) (.t s159))⟩
    (.one ⟨some s161, some (s156, true), (.load none (.t s160))⟩
    (.one ⟨some s162, some (s156, true), (.bin false .eql (.t s157) (.t s161))⟩
    (.one ⟨some s163, none, (.pick (.t s156) (.t s162) (.c (.v (.bool false))))⟩
    (.one ⟨some s164, none, (.mv (.t s163))⟩
    (.one ⟨some s165, some (s164, true), (.mv (.t s17))⟩
    (.one ⟨some s166, some (s164, true), (.mv (.t s2))⟩
    (.one ⟨some s167, some (s164, true), (.bin false .lss (.t s165) (.t s166))⟩
    (.one ⟨some s168, none, (.pick (.t s164) (.t s167) (.c (.v (.bool false))))⟩
    .done))))))))))))))))
  (.cond (.t s168) (.seq (.reg (.one ⟨some s169, none, (.mv (.t s18))⟩
    (.one ⟨some s170, none, (.bin false .add (.t s169) (.c (.v (.int .i64 1))))⟩
    (.one ⟨some s18, none, (.mv (.t s170))⟩
    .done))))
  (.goto 1)) .skip))
  (.seq (.seq (.reg (.one ⟨some s171, none, (.faddr 6 (.t s15))⟩
    (.one ⟨some s172, none, (.load none (.t s171))⟩
    (.one ⟨some s173, none, (.len false (.t s172))⟩
    (.one ⟨some s174, none, (.bin false .eql (.t s173) (.c (.v (.int .i64 0))))⟩
    .done)))))
  (.cond (.t s174) (.seq (.reg (.one ⟨some s175, none, (.build [(.v (.bool false)), (.v (.int .i64 0)), (.v (.int .i64 0)), (.v (.bool false)), (.v (.bool false)), (.v (.int .i64 0)), (.slice 1 [] .full)] [])⟩
    (.one ⟨none, none, (.store 7 (.t s10) (.t s175))⟩
    (.one ⟨some s11, none, (.mv (.c (.v (.int .i64 0))))⟩
    (.one ⟨some s12, none, (.mv (.c (.v (.int .i64 16))))⟩
    .done)))))
  .ret) .skip))
  (.seq (.seq (.reg (.one ⟨some s176, none, (.mv (.t s21))⟩
    (.one ⟨some s177, none, (.bin false .lss (.t s176) (.c (.v (.int .i64 1))))⟩
    .done)))
  (.cond (.t s177) (.reg (.one ⟨some s178, none, (.mv (.t s18))⟩
    (.one ⟨some s179, none, (.bin false .sub (.t s178) (.c (.v (.int .i64 1))))⟩
    (.one ⟨some s18, none, (.mv (.t s179))⟩
    .done)))) .skip))
  (.seq (.seq (.reg (.one ⟨some s180, none, (.mv (.t s17))⟩
    (.one ⟨some s181, none, (.mv (.t s14))⟩
    (.one ⟨some s182, none, (.mv (.t s18))⟩
    (.one ⟨some s183, none, (.iaddr 1 (.t s181) (.t s182))⟩
    (.one ⟨some s184, none, (.load none (.t s183))⟩
    (.one ⟨some s185, none, (.bin false .neq (.t s180) (.t s184))⟩
    (.one ⟨some s186, none, (.mv (.t s185))⟩
    (.one ⟨some s187, some (s186, false), (.mv (.t s17))⟩
    (.one ⟨some s188, some (s186, false), (.mv (.t s13))⟩
    (.one ⟨some s189, some (s186, false), (.len false (.t s188))⟩
    (.one ⟨some s190, some (s186, false), (.bin false .eql (.t s187) (.t s189))⟩
    (.one ⟨some s191, some (s186, false), (.mv (.t s190))⟩
    (.one ⟨some s192, some (s191, true), (.faddr 1 (.t s5))⟩
    (.one ⟨some s193, some (s191, true), (.load none (.t s192))⟩
    (.one ⟨some s194, some (s191, true), (.bin false .and (.t s193) (.c (.v (.int .i64 1))))⟩
    (.one ⟨some s195, some (s191, true), (.bin false .neq (.t s194) (.c (.v (.int .i64 0))))⟩
    (.one ⟨some s196, some (s186, false), (.pick (.t s191) (.t s195) (.c (.v (.bool false))))⟩
    (.one ⟨some s197, none, (.pick (.t s186) (.c (.v (.bool true))) (.t s196))⟩
    .done)))))))))))))))))))
  (.cond (.t s197) (.reg (.one ⟨some s198, none, (.faddr 1 (.t s15))⟩
    (.one ⟨some s199, none, (.load none (.t s198))⟩
    (.one ⟨some s200, none, (.bin false .or (.t s199) (.c (.v (.int .i64 1))))⟩
    (.one ⟨some s201, none, (.faddr 1 (.t s15))⟩
    (.one ⟨none, none, (.store 1 (.t s201) (.t s200))⟩
    .done)))))) .skip))
  (.seq (.reg (.one ⟨some s202, none, (.mv (.t s17))⟩
    (.one ⟨some s203, none, (.mv (.t s13))⟩
    (.one ⟨some s204, none, (.len false (.t s203))⟩
    (.one ⟨some s205, none, (.bin false .eql (.t s202) (.t s204))⟩
    (.one ⟨some s206, none, (.faddr 4 (.t s15))⟩
    (.one ⟨none, none, (.store 1 (.t s206) (.t s205))⟩
    .done)))))))
  (.seq (.reg (.one ⟨some s207, none, (.load (some 7) (.t s15))⟩
    (.one ⟨some s208, none, (.mv (.t s17))⟩
    (.one ⟨none, none, (.store 7 (.t s10) (.t s207))⟩
    (.one ⟨some s11, none, (.mv (.t s208))⟩
    (.one ⟨some s12, none, (.mv (.c (.v (.int .i64 0))))⟩
    .done))))))
  .ret))))))))))))))))))))))⟩
theorem ok50 : compF Try.prog c50 Try.f50 = some ir50 := by kernel_rfl
theorem k_reseg_Cut {args : List AVal} {σ : AHeap} {Q : AVal → AHeap → Prop} (hl : Nat.ble args.length 209 = true) (h : argsK (Env.full 9) 0 args fun env => evC Try.prog c50 ir50.body env σ (retQ ir50 Q)) : ACalls Try.prog 50 args σ Q :=
  acalls_of Try.func50 ok50 rfl (Nat.le_of_ble_eq_true hl) h
/- reseg.Least -/
def c51 : Cfg := ⟨qs, [], 10, [], ps⟩
def ir51 : IFun := ⟨1, [.tmp s2],
  (.seq (.reg (.one ⟨some s2, none, (.mv (.c (.v (.int .i64 0))))⟩
    .done))
  (.seq (.reg (.one ⟨some s4, none, (.mv (.t s0))⟩
    (.one ⟨some s5, none, (.callq 93 [(.c (.v (.bool true))), (.t s4)])⟩
    (.one ⟨some s3, none, (.mv (.t s5))⟩
    .done))))
  (.seq (.seq (.reg (.one ⟨some s6, none, (.mv (.t s3))⟩
    (.one ⟨some s7, none, (.bin false .eql (.t s6) (.c (.v (.int .i64 0))))⟩
    .done)))
  (.cond (.t s7) (.seq (.reg (.one ⟨some s2, none, (.mv (.c (.v (.int .i64 0))))⟩
    .done))
  .ret) .skip))
  (.seq (.reg (.one ⟨some s8, none, (.mv (.t s3))⟩
    (.one ⟨some s9, none, (.bin false .add (.t s8) (.c (.v (.int .i64 1))))⟩
    (.one ⟨some s2, none, (.mv (.t s9))⟩
    .done))))
  .ret))))⟩
theorem ok51 : compF Try.prog c51 Try.f51 = some ir51 := by kernel_rfl
theorem k_reseg_Least {args : List AVal} {σ : AHeap} {Q : AVal → AHeap → Prop} (hl : Nat.ble args.length 10 = true) (h : argsK (Env.full 9) 0 args fun env => evC Try.prog c51 ir51.body env σ (retQ ir51 Q)) : ACalls Try.prog 51 args σ Q :=
  acalls_of Try.func51 ok51 rfl (Nat.le_of_ble_eq_true hl) h
/- reseg.ends -/
def c92 : Cfg := ⟨qs, [], 24, [], ps⟩
def ir92 : IFun := ⟨1, [.tmp s2],
  (.seq (.reg (.one ⟨some s1, none, (.box 7 (.t s0))⟩
    (.one ⟨some s2, none, (.mv (.c (.slice 1 [] .full)))⟩
    .done)))
  (.seq (.reg (.one ⟨some s3, none, (.mv (.c (.slice 1 [] .full)))⟩
    .done))
  (.seq (.reg (.one ⟨some s4, none, (.mv (.c (.v (.int .i64 0))))⟩
    .done))
  (.seq (.seq (.reg (.one ⟨some s7, none, (.faddr 6 (.t s1))⟩
    (.one ⟨some s8, none, (.load none (.t s7))⟩
    (.one ⟨some s9, none, (.len false (.t s8))⟩
    (.one ⟨some s10, none, (.mv (.c (.v (.int .i64 0))))⟩
    .done)))))
  (.block 0 (.loop (.seq (.reg (.one ⟨some s11, none, (.bin false .lss (.t s10) (.t s9))⟩
    .done))
  (.seq (.cond (.t s11) .skip (.exit 0))
  (.seq (.block 1 (.seq (.reg (.one ⟨some s12, none, (.iaddr 1 (.t s8) (.t s10))⟩
    (.one ⟨some s13, none, (.load none (.t s12))⟩
    (.one ⟨some s6, none, (.mv (.t s13))⟩
    .done))))
  (.seq (.reg (.one ⟨some s14, none, (.mv (.t s4))⟩
    (.one ⟨some s15, none, (.mv (.t s6))⟩
    (.one ⟨some s16, none, (.len false (.t s15))⟩
    (.one ⟨some s17, none, (.bin false .add (.t s14) (.t s16))⟩
    (.one ⟨some s4, none, (.mv (.t s17))⟩
    .done))))))
  (.reg (.one ⟨some s18, none, (.mv (.t s3))⟩
    (.one ⟨some s19, none, (.mv (.t s4))⟩
    (.one ⟨some s20, none, (.row 1 [(.t s19)])⟩
    (.one ⟨some s21, none, (.app 1 8 (.t s18) (.t s20))⟩
    (.one ⟨some s3, none, (.mv (.t s21))⟩
    .done)))))))))
  (.reg (.one ⟨some s22, none, (.bin false .add (.t s10) (.c (.v (.int .i64 1))))⟩
    (.one ⟨some s10, none, (.mv (.t s22))⟩
    .done)))))))))
  (.seq (.reg (.one ⟨some s23, none, (.mv (.t s3))⟩
    (.one ⟨some s2, none, (.mv (.t s23))⟩
    .done)))
  .ret)))))⟩
theorem ok92 : compF Try.prog c92 Try.f92 = some ir92 := by kernel_rfl
theorem k_reseg_ends {args : List AVal} {σ : AHeap} {Q : AVal → AHeap → Prop} (hl : Nat.ble args.length 24 = true) (h : argsK (Env.full 9) 0 args fun env => evC Try.prog c92 ir92.body env σ (retQ ir92 Q)) : ACalls Try.prog 92 args σ Q :=
  acalls_of Try.func92 ok92 rfl (Nat.le_of_ble_eq_true hl) h
/- reseg.lenWidth -/
def c95 : Cfg := ⟨qs, [], 5, [], ps⟩
def ir95 : IFun := ⟨1, [.tmp s2],
  (.seq (.reg (.one ⟨some s2, none, (.mv (.c (.v (.int .i64 0))))⟩
    .done))
  (.seq (.seq (.reg (.one ⟨some s3, none, (.mv (.t s0))⟩
    (.one ⟨some s4, none, (.bin false .eql (.t s3) (.c (.v (.int .i64 10))))⟩
    .done)))
  (.cond (.t s4) (.seq (.reg (.one ⟨some s2, none, (.mv (.c (.v (.int .i64 11))))⟩
    .done))
  .ret) .skip))
  (.seq (.reg (.one ⟨some s2, none, (.mv (.c (.v (.int .i64 15))))⟩
    .done))
  .ret)))⟩
theorem ok95 : compF Try.prog c95 Try.f95 = some ir95 := by kernel_rfl
theorem k_reseg_lenWidth {args : List AVal} {σ : AHeap} {Q : AVal → AHeap → Prop} (hl : Nat.ble args.length 5 = true) (h : argsK (Env.full 9) 0 args fun env => evC Try.prog c95 ir95.body env σ (retQ ir95 Q)) : ACalls Try.prog 95 args σ Q :=
  acalls_of Try.func95 ok95 rfl (Nat.le_of_ble_eq_true hl) h
end Go.Proofs.Ytgobbmdbkmjlnaa
/-
  The bodies of one package, compiled to the framework's language (printed by a program of this session).
-/
namespace Go.Proofs.Ytgobbmdbkmjlnaa
set_option linter.unusedVariables false
set_option linter.unusedSimpArgs false
open Go Go.Am
end Go.Proofs.Ytgobbmdbkmjlnaa
