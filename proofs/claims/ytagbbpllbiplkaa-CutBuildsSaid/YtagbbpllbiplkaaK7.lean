/-
  Texts of this claim, pack 7: Irlens, Ircut, Irref09, Irlaw13, Irref08, Irref13.
-/
import Derived.Test.YtagbbpllbiplkaaK2
/-
  The bodies of one package, compiled to the framework's language (printed by a program of this session).
-/
namespace Go.Proofs.Ytagbbpllbiplkaa
set_option linter.unusedVariables false
set_option linter.unusedSimpArgs false
open Go Go.Am
/- lens.Size -/
def c34 : Cfg := ⟨qs, [], 23, [], ps⟩
def ir34 : IFun := ⟨2, [.tmp s4],
  (.seq (.reg (.one ⟨some s4, none, (.mv (.c (.v (.int .i64 0))))⟩
    .done))
  (.seq (.seq (.reg (.one ⟨some s5, none, (.mv (.t s1))⟩
    (.one ⟨some s6, none, (.callq 39 [(.t s5)])⟩
    (.one ⟨some s7, none, (.not (.t s6))⟩
    (.one ⟨some s8, none, (.mv (.t s7))⟩
    (.one ⟨some s9, some (s8, false), (.mv (.t s0))⟩
    (.one ⟨some s10, some (s8, false), (.bin false .lss (.t s9) (.c (.v (.int .i64 1))))⟩
    (.one ⟨some s11, none, (.pick (.t s8) (.c (.v (.bool true))) (.t s10))⟩
    (.one ⟨some s12, none, (.mv (.t s11))⟩
    (.one ⟨some s13, some (s12, false), (.mv (.t s0))⟩
    (.one ⟨some s14, some (s12, false), (.bin false .gtr (.t s13) (.c (.v (.int .i64 23))))⟩
    (.one ⟨some s15, none, (.pick (.t s12) (.c (.v (.bool true))) (.t s14))⟩
    .done))))))))))))
  (.cond (.t s15) (.seq (.reg (.one ⟨some s4, none, (.mv (.c (.v (.int .i64 0))))⟩
    .done))
  .ret) .skip))
  (.seq (.reg (.one ⟨some s16, none, (.mv (.t s0))⟩
    (.one ⟨some s17, none, (.mv (.t s1))⟩
    (.one ⟨some s18, none, (.bin false .add (.t s17) (.c (.v (.int .i64 1))))⟩
    (.one ⟨some s19, none, (.bin false .mul (.t s16) (.t s18))⟩
    (.one ⟨some s20, none, (.bin false .add (.t s19) (.c (.v (.int .i64 8))))⟩
    (.one ⟨some s21, none, (.bin false .sub (.t s20) (.c (.v (.int .i64 1))))⟩
    (.one ⟨some s22, none, (.bin false .quo (.t s21) (.c (.v (.int .i64 8))))⟩
    (.one ⟨some s4, none, (.mv (.t s22))⟩
    .done)))))))))
  .ret)))⟩
theorem ok34 : compF Try.prog c34 Try.f34 = some ir34 := by kernel_rfl
theorem k_lens_Size {args : List AVal} {σ : AHeap} {Q : AVal → AHeap → Prop} (hl : Nat.ble args.length 23 = true) (h : argsK (Env.full 9) 0 args fun env => evC Try.prog c34 ir34.body env σ (retQ ir34 Q)) : ACalls Try.prog 34 args σ Q :=
  acalls_of Try.func34 ok34 rfl (Nat.le_of_ble_eq_true hl) h
/- lens.isWidth -/
def c39 : Cfg := ⟨qs, [], 9, [], ps⟩
def ir39 : IFun := ⟨1, [.tmp s2],
  (.seq (.reg (.one ⟨some s2, none, (.mv (.c (.v (.bool false))))⟩
    .done))
  (.seq (.reg (.one ⟨some s3, none, (.mv (.t s0))⟩
    (.one ⟨some s4, none, (.bin false .eql (.t s3) (.c (.v (.int .i64 11))))⟩
    (.one ⟨some s5, none, (.mv (.t s4))⟩
    (.one ⟨some s6, some (s5, false), (.mv (.t s0))⟩
    (.one ⟨some s7, some (s5, false), (.bin false .eql (.t s6) (.c (.v (.int .i64 15))))⟩
    (.one ⟨some s8, none, (.pick (.t s5) (.c (.v (.bool true))) (.t s7))⟩
    (.one ⟨some s2, none, (.mv (.t s8))⟩
    .done))))))))
  .ret))⟩
theorem ok39 : compF Try.prog c39 Try.f39 = some ir39 := by kernel_rfl
theorem k_lens_isWidth {args : List AVal} {σ : AHeap} {Q : AVal → AHeap → Prop} (hl : Nat.ble args.length 9 = true) (h : argsK (Env.full 9) 0 args fun env => evC Try.prog c39 ir39.body env σ (retQ ir39 Q)) : ACalls Try.prog 39 args σ Q :=
  acalls_of Try.func39 ok39 rfl (Nat.le_of_ble_eq_true hl) h
end Go.Proofs.Ytagbbpllbiplkaa
/-
  The bodies of one package, compiled to the framework's language (printed by a program of this session).
-/
namespace Go.Proofs.Ytagbbpllbiplkaa
set_option linter.unusedVariables false
set_option linter.unusedSimpArgs false
open Go Go.Am
/- cut.Fits -/
def c23 : Cfg := ⟨qs, [], 21, [], ps⟩
def ir23 : IFun := ⟨3, [.tmp s6],
  (.seq (.reg (.one ⟨some s6, none, (.mv (.c (.v (.bool false))))⟩
    .done))
  (.seq (.reg (.one ⟨some s7, none, (.mv (.t s0))⟩
    (.one ⟨some s8, none, (.mv (.t s1))⟩
    (.one ⟨some s9, none, (.mv (.t s2))⟩
    (.one ⟨some s10, none, (.callq 33 [(.t s7), (.t s8), (.t s9)])⟩
    (.one ⟨some s11, none, (.bin false .eql (.t s10) (.c (.v (.int .i64 0))))⟩
    (.one ⟨some s12, none, (.mv (.t s11))⟩
    (.one ⟨some s13, some (s12, true), (.mv (.t s1))⟩
    (.one ⟨some s14, some (s12, true), (.bin false .gtr (.t s13) (.c (.v (.int .i64 0))))⟩
    (.one ⟨some s15, none, (.pick (.t s12) (.t s14) (.c (.v (.bool false))))⟩
    (.one ⟨some s16, none, (.mv (.t s15))⟩
    (.one ⟨some s17, some (s16, true), (.mv (.t s0))⟩
    (.one ⟨some s18, some (s16, true), (.callq 18 [(.t s17)])⟩
    (.one ⟨some s19, some (s16, true), (.bin false .gtr (.t s18) (.c (.v (.int .i64 0))))⟩
    (.one ⟨some s20, none, (.pick (.t s16) (.t s19) (.c (.v (.bool false))))⟩
    (.one ⟨some s6, none, (.mv (.t s20))⟩
    .done))))))))))))))))
  .ret))⟩
theorem ok23 : compF Try.prog c23 Try.f23 = some ir23 := by kernel_rfl
theorem k_cut_Fits {args : List AVal} {σ : AHeap} {Q : AVal → AHeap → Prop} (hl : Nat.ble args.length 21 = true) (h : argsK (Env.full 9) 0 args fun env => evC Try.prog c23 ir23.body env σ (retQ ir23 Q)) : ACalls Try.prog 23 args σ Q :=
  acalls_of Try.func23 ok23 rfl (Nat.le_of_ble_eq_true hl) h
/- cut.Build -/
def c24 : Cfg := ⟨qs, [], 111, [], ps⟩
def ir24 : IFun := ⟨3, [.cell s6 (some 3), .tmp s7],
  (.seq (.reg (.one ⟨some s6, none, (.new [(.v (.int .i64 0)), (.slice 1 [] .full), (.slice 1 [] .full)])⟩
    (.one ⟨some s7, none, (.mv (.c (.v (.int .i64 0))))⟩
    .done)))
  (.scope (.seq (.seq (.reg (.one ⟨some s21, none, (.mv (.t s0))⟩
    (.one ⟨some s22, none, (.mv (.t s1))⟩
    (.one ⟨some s23, none, (.mv (.t s2))⟩
    (.one ⟨some s24, none, (.callq 33 [(.t s21), (.t s22), (.t s23)])⟩
    (.one ⟨some s8, none, (.mv (.t s24))⟩
    .done))))))
  (.seq (.reg (.one ⟨some s25, none, (.mv (.t s8))⟩
    (.one ⟨some s26, none, (.bin false .neq (.t s25) (.c (.v (.int .i64 0))))⟩
    .done)))
  (.cond (.t s26) (.seq (.reg (.one ⟨some s27, none, (.build [(.v (.int .i64 0)), (.slice 1 [] .full), (.slice 1 [] .full)] [])⟩
    (.one ⟨some s28, none, (.mv (.t s8))⟩
    (.one ⟨none, none, (.store 3 (.t s6) (.t s27))⟩
    (.one ⟨some s7, none, (.mv (.t s28))⟩
    .done)))))
  .ret) .skip)))
  (.seq (.seq (.reg (.one ⟨some s30, none, (.mv (.t s0))⟩
    (.one ⟨some s31, none, (.call 9 [(.t s30), (.c (.v (.int .i64 0)))])⟩
    (.one ⟨some s29, none, (.mv (.t s31))⟩
    (.one ⟨some s32, none, (.ext (.t s29) 0)⟩
    (.one ⟨some s33, none, (.ext (.t s29) 1)⟩
    (.one ⟨some s34, none, (.ext (.t s29) 2)⟩
    (.one ⟨some s9, none, (.mv (.t s32))⟩
    (.one ⟨some s10, none, (.mv (.t s33))⟩
    (.one ⟨some s11, none, (.mv (.t s34))⟩
    .done))))))))))
  (.seq (.reg (.one ⟨some s35, none, (.mv (.t s11))⟩
    (.one ⟨some s36, none, (.bin false .eql (.t s35) (.c (.v (.int .i64 6))))⟩
    .done)))
  (.cond (.t s36) (.seq (.reg (.one ⟨some s37, none, (.build [(.v (.int .i64 0)), (.slice 1 [] .full), (.slice 1 [] .full)] [])⟩
    (.one ⟨some s38, none, (.mv (.t s11))⟩
    (.one ⟨none, none, (.store 3 (.t s6) (.t s37))⟩
    (.one ⟨some s7, none, (.mv (.t s38))⟩
    .done)))))
  .ret) .skip)))
  (.seq (.reg (.one ⟨some s12, none, (.new [(.v (.int .i64 0)), (.slice 1 [] .full), (.slice 1 [] .full)])⟩
    .done))
  (.seq (.reg (.one ⟨some s13, none, (.mv (.c (.v (.int .i64 0))))⟩
    .done))
  (.seq (.label 0)
  (.seq (.reg (.one ⟨some s40, none, (.mv (.t s0))⟩
    (.one ⟨some s41, none, (.callq 16 [(.t s40)])⟩
    (.one ⟨some s39, none, (.mv (.t s41))⟩
    (.one ⟨some s42, none, (.ext (.t s39) 0)⟩
    (.one ⟨some s43, none, (.ext (.t s39) 1)⟩
    (.one ⟨some s44, none, (.ext (.t s39) 2)⟩
    (.one ⟨some s14, none, (.mv (.t s42))⟩
    (.one ⟨some s15, none, (.mv (.t s43))⟩
    (.one ⟨some s16, none, (.mv (.t s44))⟩
    .done))))))))))
  (.seq (.reg (.one ⟨some s45, none, (.mv (.t s1))⟩
    (.one ⟨some s46, none, (.mv (.t s13))⟩
    (.one ⟨some s47, none, (.bin false .sub (.t s45) (.t s46))⟩
    (.one ⟨some s48, none, (.faddr 1 (.t s12))⟩
    (.one ⟨some s49, none, (.load none (.t s48))⟩
    (.one ⟨some s50, none, (.len false (.t s49))⟩
    (.one ⟨some s51, none, (.mv (.t s2))⟩
    (.one ⟨some s52, none, (.callq 34 [(.t s50), (.t s51)])⟩
    (.one ⟨some s53, none, (.bin false .sub (.t s47) (.t s52))⟩
    (.one ⟨some s17, none, (.mv (.t s53))⟩
    .done)))))))))))
  (.seq (.seq (.reg (.one ⟨some s54, none, (.mv (.t s15))⟩
    (.one ⟨some s55, none, (.len false (.t s54))⟩
    (.one ⟨some s56, none, (.bin false .eql (.t s55) (.c (.v (.int .i64 0))))⟩
    (.one ⟨some s57, none, (.mv (.t s56))⟩
    (.one ⟨some s58, some (s57, false), (.mv (.t s17))⟩
    (.one ⟨some s59, some (s57, false), (.bin false .lss (.t s58) (.c (.v (.int .i64 1))))⟩
    (.one ⟨some s60, none, (.pick (.t s57) (.c (.v (.bool true))) (.t s59))⟩
    (.one ⟨some s61, none, (.mv (.t s60))⟩
    (.one ⟨some s62, some (s61, false), (.faddr 1 (.t s12))⟩
    (.one ⟨some s63, some (s61, false), (.load none (.t s62))⟩
    (.one ⟨some s64, some (s61, false), (.len false (.t s63))⟩
    (.one ⟨some s65, some (s61, false), (.bin false .eql (.t s64) (.c (.v (.int .i64 24))))⟩
    (.one ⟨some s66, none, (.pick (.t s61) (.c (.v (.bool true))) (.t s65))⟩
    .done))))))))))))))
  (.cond (.t s66) (.goto 1) .skip))
  (.seq (.seq (.reg (.one ⟨some s67, none, (.mv (.t s16))⟩
    .done))
  (.cond (.t s67) (.reg (.one ⟨some s68, none, (.faddr 0 (.t s12))⟩
    (.one ⟨some s69, none, (.load none (.t s68))⟩
    (.one ⟨some s70, none, (.bin false .or (.t s69) (.c (.v (.int .i64 2))))⟩
    (.one ⟨some s71, none, (.faddr 0 (.t s12))⟩
    (.one ⟨none, none, (.store 1 (.t s71) (.t s70))⟩
    .done)))))) .skip))
  (.seq (.seq (.reg (.one ⟨some s73, none, (.mv (.t s0))⟩
    (.one ⟨some s74, none, (.mv (.t s17))⟩
    (.one ⟨some s75, none, (.mv (.t s15))⟩
    (.one ⟨some s76, none, (.len false (.t s75))⟩
    (.one ⟨some s77, none, (.mxmn false (.t s74) (.t s76))⟩
    (.one ⟨some s78, none, (.call 9 [(.t s73), (.t s77)])⟩
    (.one ⟨some s72, none, (.mv (.t s78))⟩
    (.one ⟨some s79, none, (.ext (.t s72) 0)⟩
    (.one ⟨some s80, none, (.ext (.t s72) 1)⟩
    (.one ⟨some s81, none, (.ext (.t s72) 2)⟩
    (.one ⟨some s18, none, (.mv (.t s79))⟩
    (.one ⟨some s19, none, (.mv (.t s80))⟩
    (.one ⟨some s20, none, (.mv (.t s81))⟩
    .done))))))))))))))
  (.seq (.reg (.one ⟨some s82, none, (.mv (.t s20))⟩
    (.one ⟨some s83, none, (.bin false .eql (.t s82) (.c (.v (.int .i64 0))))⟩
    .done)))
  (.cond (.t s83) (.seq (.reg (.one ⟨some s84, none, (.faddr 1 (.t s12))⟩
    (.one ⟨some s85, none, (.load none (.t s84))⟩
    (.one ⟨some s86, none, (.mv (.t s18))⟩
    (.one ⟨some s87, none, (.row 1 [(.t s86)])⟩
    (.one ⟨some s88, none, (.app 1 24 (.t s85) (.t s87))⟩
    (.one ⟨some s89, none, (.faddr 1 (.t s12))⟩
    (.one ⟨none, none, (.store 1 (.t s89) (.t s88))⟩
    .done))))))))
  (.seq (.reg (.one ⟨some s90, none, (.mv (.t s13))⟩
    (.one ⟨some s91, none, (.mv (.t s18))⟩
    (.one ⟨some s92, none, (.len false (.t s91))⟩
    (.one ⟨some s93, none, (.bin false .add (.t s90) (.t s92))⟩
    (.one ⟨some s13, none, (.mv (.t s93))⟩
    .done))))))
  (.seq (.seq (.reg (.one ⟨some s94, none, (.mv (.t s19))⟩
    .done))
  (.cond (.t s94) (.seq (.reg (.one ⟨some s95, none, (.faddr 2 (.t s12))⟩
    (.one ⟨some s96, none, (.load none (.t s95))⟩
    (.one ⟨some s97, none, (.mv (.t s14))⟩
    (.one ⟨some s98, none, (.row 1 [(.t s97)])⟩
    (.one ⟨some s99, none, (.app 1 8 (.t s96) (.t s98))⟩
    (.one ⟨some s100, none, (.faddr 2 (.t s12))⟩
    (.one ⟨none, none, (.store 1 (.t s100) (.t s99))⟩
    .done))))))))
  (.goto 0)) .skip))
  (.reg (.one ⟨some s101, none, (.faddr 0 (.t s12))⟩
    (.one ⟨some s102, none, (.load none (.t s101))⟩
    (.one ⟨some s103, none, (.bin false .or (.t s102) (.c (.v (.int .i64 1))))⟩
    (.one ⟨some s104, none, (.faddr 0 (.t s12))⟩
    (.one ⟨none, none, (.store 1 (.t s104) (.t s103))⟩
    .done))))))))) .skip)))
  (.seq (.label 1)
  (.seq (.seq (.reg (.one ⟨some s105, none, (.faddr 1 (.t s12))⟩
    (.one ⟨some s106, none, (.load none (.t s105))⟩
    (.one ⟨some s107, none, (.len false (.t s106))⟩
    (.one ⟨some s108, none, (.bin false .eql (.t s107) (.c (.v (.int .i64 0))))⟩
    .done)))))
  (.cond (.t s108) (.seq (.reg (.one ⟨some s109, none, (.build [(.v (.int .i64 0)), (.slice 1 [] .full), (.slice 1 [] .full)] [])⟩
    (.one ⟨none, none, (.store 3 (.t s6) (.t s109))⟩
    (.one ⟨some s7, none, (.mv (.c (.v (.int .i64 4))))⟩
    .done))))
  .ret) .skip))
  (.seq (.reg (.one ⟨some s110, none, (.load (some 3) (.t s12))⟩
    (.one ⟨none, none, (.store 3 (.t s6) (.t s110))⟩
    (.one ⟨some s7, none, (.mv (.c (.v (.int .i64 0))))⟩
    .done))))
  .ret)))))))))))))))⟩
theorem ok24 : compF Try.prog c24 Try.f24 = some ir24 := by kernel_rfl
theorem k_cut_Build {args : List AVal} {σ : AHeap} {Q : AVal → AHeap → Prop} (hl : Nat.ble args.length 111 = true) (h : argsK (Env.full 9) 0 args fun env => evC Try.prog c24 ir24.body env σ (retQ ir24 Q)) : ACalls Try.prog 24 args σ Q :=
  acalls_of Try.func24 ok24 rfl (Nat.le_of_ble_eq_true hl) h
/- cut.Bytes -/
def c27 : Cfg := ⟨qs, [], 36, [], ps⟩
def ir27 : IFun := ⟨2, [.tmp s4],
  (.seq (.reg (.one ⟨some s2, none, (.box 3 (.t s0))⟩
    (.one ⟨some s4, none, (.mv (.c (.v (.int .i64 0))))⟩
    .done)))
  (.seq (.seq (.reg (.one ⟨some s8, none, (.mv (.t s1))⟩
    (.one ⟨some s9, none, (.callq 37 [(.t s8)])⟩
    (.one ⟨some s10, none, (.not (.t s9))⟩
    (.one ⟨some s11, none, (.mv (.t s10))⟩
    (.one ⟨some s12, some (s11, false), (.faddr 1 (.t s2))⟩
    (.one ⟨some s13, some (s11, false), (.load none (.t s12))⟩
    (.one ⟨some s14, some (s11, false), (.len false (.t s13))⟩
    (.one ⟨some s15, some (s11, false), (.bin false .eql (.t s14) (.c (.v (.int .i64 0))))⟩
    (.one ⟨some s16, none, (.pick (.t s11) (.c (.v (.bool true))) (.t s15))⟩
    .done))))))))))
  (.cond (.t s16) (.seq (.reg (.one ⟨some s4, none, (.mv (.c (.v (.int .i64 0))))⟩
    .done))
  .ret) .skip))
  (.seq (.reg (.one ⟨some s17, none, (.faddr 1 (.t s2))⟩
    (.one ⟨some s18, none, (.load none (.t s17))⟩
    (.one ⟨some s19, none, (.len false (.t s18))⟩
    (.one ⟨some s20, none, (.bin false .sub (.t s19) (.c (.v (.int .i64 1))))⟩
    (.one ⟨some s21, none, (.mv (.t s1))⟩
    (.one ⟨some s22, none, (.callq 34 [(.t s20), (.t s21)])⟩
    (.one ⟨some s5, none, (.mv (.t s22))⟩
    .done))))))))
  (.seq (.seq (.reg (.one ⟨some s23, none, (.faddr 1 (.t s2))⟩
    (.one ⟨some s24, none, (.load none (.t s23))⟩
    (.one ⟨some s25, none, (.len false (.t s24))⟩
    (.one ⟨some s26, none, (.mv (.c (.v (.int .i64 0))))⟩
    .done)))))
  (.block 0 (.loop (.seq (.reg (.one ⟨some s27, none, (.bin false .lss (.t s26) (.t s25))⟩
    .done))
  (.seq (.cond (.t s27) .skip (.exit 0))
  (.seq (.block 1 (.seq (.reg (.one ⟨some s28, none, (.iaddr 1 (.t s24) (.t s26))⟩
    (.one ⟨some s29, none, (.load none (.t s28))⟩
    (.one ⟨some s7, none, (.mv (.t s29))⟩
    .done))))
  (.reg (.one ⟨some s30, none, (.mv (.t s5))⟩
    (.one ⟨some s31, none, (.mv (.t s7))⟩
    (.one ⟨some s32, none, (.len false (.t s31))⟩
    (.one ⟨some s33, none, (.bin false .add (.t s30) (.t s32))⟩
    (.one ⟨some s5, none, (.mv (.t s33))⟩
    .done))))))))
  (.reg (.one ⟨some s34, none, (.bin false .add (.t s26) (.c (.v (.int .i64 1))))⟩
    (.one ⟨some s26, none, (.mv (.t s34))⟩
    .done)))))))))
  (.seq (.reg (.one ⟨some s35, none, (.mv (.t s5))⟩
    (.one ⟨some s4, none, (.mv (.t s35))⟩
    .done)))
  .ret)))))⟩
theorem ok27 : compF Try.prog c27 Try.f27 = some ir27 := by kernel_rfl
theorem k_cut_Bytes {args : List AVal} {σ : AHeap} {Q : AVal → AHeap → Prop} (hl : Nat.ble args.length 36 = true) (h : argsK (Env.full 9) 0 args fun env => evC Try.prog c27 ir27.body env σ (retQ ir27 Q)) : ACalls Try.prog 27 args σ Q :=
  acalls_of Try.func27 ok27 rfl (Nat.le_of_ble_eq_true hl) h
/- cut.ask -/
def c33 : Cfg := ⟨qs, [], 21, [], ps⟩
def ir33 : IFun := ⟨3, [.tmp s6],
  (.seq (.reg (.one ⟨some s6, none, (.mv (.c (.v (.int .i64 0))))⟩
    .done))
  (.seq (.block 0 (.seq (.reg (.one ⟨some s8, none, (.mv (.t s0))⟩
    (.one ⟨some s9, none, (.eqNil 1 false (.t s8))⟩
    (.one ⟨some s7, none, (.mv (.t s9))⟩
    .done))))
  (.cond (.t s7) (.seq (.reg (.one ⟨some s6, none, (.mv (.c (.v (.int .i64 6))))⟩
    .done))
  .ret) (.seq (.reg (.one ⟨some s11, none, (.mv (.t s2))⟩
    (.one ⟨some s12, none, (.callq 37 [(.t s11)])⟩
    (.one ⟨some s13, none, (.not (.t s12))⟩
    (.one ⟨some s10, none, (.mv (.t s13))⟩
    .done)))))
  (.cond (.t s10) (.seq (.reg (.one ⟨some s6, none, (.mv (.c (.v (.int .i64 9))))⟩
    .done))
  .ret) (.seq (.reg (.one ⟨some s15, none, (.mv (.t s1))⟩
    (.one ⟨some s16, none, (.bin false .lss (.t s15) (.c (.v (.int .i64 0))))⟩
    (.one ⟨some s17, none, (.mv (.t s16))⟩
    (.one ⟨some s18, some (s17, false), (.mv (.t s1))⟩
    (.one ⟨some s19, some (s17, false), (.bin false .gtr (.t s18) (.c (.v (.int .i64 4000))))⟩
    (.one ⟨some s20, none, (.pick (.t s17) (.c (.v (.bool true))) (.t s19))⟩
    (.one ⟨some s14, none, (.mv (.t s20))⟩
    .done))))))))
  (.cond (.t s14) (.seq (.reg (.one ⟨some s6, none, (.mv (.c (.v (.int .i64 1))))⟩
    .done))
  .ret) .skip)))))))
  (.seq (.reg (.one ⟨some s6, none, (.mv (.c (.v (.int .i64 0))))⟩
    .done))
  .ret)))⟩
theorem ok33 : compF Try.prog c33 Try.f33 = some ir33 := by kernel_rfl
theorem k_cut_ask {args : List AVal} {σ : AHeap} {Q : AVal → AHeap → Prop} (hl : Nat.ble args.length 21 = true) (h : argsK (Env.full 9) 0 args fun env => evC Try.prog c33 ir33.body env σ (retQ ir33 Q)) : ACalls Try.prog 33 args σ Q :=
  acalls_of Try.func33 ok33 rfl (Nat.le_of_ble_eq_true hl) h
/- cut.isWidth -/
def c37 : Cfg := ⟨qs, [], 9, [], ps⟩
def ir37 : IFun := ⟨1, [.tmp s2],
  (.seq (.reg (.one ⟨some s2, none, (.mv (.c (.v (.bool false))))⟩
    .done))
  (.seq (.reg (.one ⟨some s3, none, (.mv (.t s0))⟩
    (.one ⟨some s4, none, (.bin false .eql (.t s3) (.c (.v (.int .i64 11))))⟩
    (.one ⟨some s5, none, (.mv (.t s4))⟩
    (.one ⟨some s6, some (s5, false), (.mv (.t s0))⟩
    (.one ⟨some s7, some (s5, false), (.bin false .eql (.t s6) (.c (.v (.int .i64 15))))⟩
    (.one ⟨some s8, none, (.pick (.t s5) (.c (.v (.bool true))) (.t s7))⟩
    (.one ⟨some s2, none, (.mv (.t s8))⟩
    .done))))))))
  .ret))⟩
theorem ok37 : compF Try.prog c37 Try.f37 = some ir37 := by kernel_rfl
theorem k_cut_isWidth {args : List AVal} {σ : AHeap} {Q : AVal → AHeap → Prop} (hl : Nat.ble args.length 9 = true) (h : argsK (Env.full 9) 0 args fun env => evC Try.prog c37 ir37.body env σ (retQ ir37 Q)) : ACalls Try.prog 37 args σ Q :=
  acalls_of Try.func37 ok37 rfl (Nat.le_of_ble_eq_true hl) h
end Go.Proofs.Ytagbbpllbiplkaa
/-
  The bodies of one package, compiled to the framework's language (printed by a program of this session).
-/
namespace Go.Proofs.Ytagbbpllbiplkaa
set_option linter.unusedVariables false
set_option linter.unusedSimpArgs false
open Go Go.Am
/- bowlineref09.SameFields -/
def c36 : Cfg := ⟨qs, [], 28, [], ps⟩
def ir36 : IFun := ⟨2, [.tmp s4],
  (.seq (.reg (.one ⟨some s4, none, (.mv (.c (.v (.bool false))))⟩
    .done))
  (.seq (.seq (.reg (.one ⟨some s6, none, (.mv (.t s0))⟩
    (.one ⟨some s7, none, (.len false (.t s6))⟩
    (.one ⟨some s8, none, (.mv (.t s1))⟩
    (.one ⟨some s9, none, (.len false (.t s8))⟩
    (.one ⟨some s10, none, (.bin false .neq (.t s7) (.t s9))⟩
    .done))))))
  (.cond (.t s10) (.seq (.reg (.one ⟨some s4, none, (.mv (.c (.v (.bool false))))⟩
    .done))
  .ret) .skip))
  (.seq (.seq (.reg (.one ⟨some s5, none, (.mv (.c (.v (.int .i64 0))))⟩
    .done))
  (.block 0 (.loop (.seq (.seq (.reg (.one ⟨some s11, none, (.mv (.t s5))⟩
    (.one ⟨some s12, none, (.mv (.t s0))⟩
    (.one ⟨some s13, none, (.len false (.t s12))⟩
    (.one ⟨some s14, none, (.bin false .lss (.t s11) (.t s13))⟩
    .done)))))
  (.cond (.t s14) .skip (.exit 0)))
  (.seq (.block 1 (.seq (.reg (.one ⟨some s17, none, (.mv (.t s0))⟩
    (.one ⟨some s18, none, (.mv (.t s5))⟩
    (.one ⟨some s19, none, (.iaddr 1 (.t s17) (.t s18))⟩
    (.one ⟨some s20, none, (.load none (.t s19))⟩
    (.one ⟨some s21, none, (.b2s (.t s20))⟩
    (.one ⟨some s22, none, (.mv (.t s1))⟩
    (.one ⟨some s23, none, (.mv (.t s5))⟩
    (.one ⟨some s24, none, (.iaddr 1 (.t s22) (.t s23))⟩
    (.one ⟨some s25, none, (.load none (.t s24))⟩
    (.one ⟨some s26, none, (.b2s (.t s25))⟩
    (.one ⟨some s27, none, (.bin false .neq (.t s21) (.t s26))⟩
    .done))))))))))))
  (.cond (.t s27) (.seq (.reg (.one ⟨some s4, none, (.mv (.c (.v (.bool false))))⟩
    .done))
  .ret) .skip)))
  (.reg (.one ⟨some s15, none, (.mv (.t s5))⟩
    (.one ⟨some s16, none, (.bin false .add (.t s15) (.c (.v (.int .i64 1))))⟩
    (.one ⟨some s5, none, (.mv (.t s16))⟩
    .done)))))))))
  (.seq (.reg (.one ⟨some s4, none, (.mv (.c (.v (.bool true))))⟩
    .done))
  .ret))))⟩
theorem ok36 : compF Try.prog c36 Try.f36 = some ir36 := by kernel_rfl
theorem k_bowlineref09_SameFields {args : List AVal} {σ : AHeap} {Q : AVal → AHeap → Prop} (hl : Nat.ble args.length 28 = true) (h : argsK (Env.full 9) 0 args fun env => evC Try.prog c36 ir36.body env σ (retQ ir36 Q)) : ACalls Try.prog 36 args σ Q :=
  acalls_of Try.func36 ok36 rfl (Nat.le_of_ble_eq_true hl) h
end Go.Proofs.Ytagbbpllbiplkaa
/-
  The bodies of one package, compiled to the framework's language (printed by a program of this session).
-/
namespace Go.Proofs.Ytagbbpllbiplkaa
set_option linter.unusedVariables false
set_option linter.unusedSimpArgs false
open Go Go.Am
/- bowlinelaw13.CutBuilds -/
def c4 : Cfg := ⟨qs, [], 137, [], ps⟩
def ir4 : IFun := ⟨1, [.tmp s2],
  (.seq (.reg (.one ⟨some s2, none, (.mv (.c (.v (.bool false))))⟩
    .done))
  (.seq (.reg (.one ⟨some s19, none, (.callq 5 [(.c (.v (.int .i64 20000)))])⟩
    (.one ⟨some s18, none, (.mv (.t s19))⟩
    (.one ⟨some s20, none, (.ext (.t s18) 0)⟩
    (.one ⟨some s21, none, (.ext (.t s18) 1)⟩
    (.one ⟨some s3, none, (.mv (.t s20))⟩
    (.one ⟨some s4, none, (.mv (.t s21))⟩
    .done)))))))
  (.seq (.seq (.reg (.one ⟨some s22, none, (.mv (.t s4))⟩
    (.one ⟨some s23, none, (.bin false .neq (.t s22) (.c (.v (.int .i64 0))))⟩
    (.one ⟨some s24, none, (.mv (.t s23))⟩
    (.one ⟨some s25, some (s24, false), (.mv (.t s3))⟩
    (.one ⟨some s26, some (s24, false), (.eqNil 1 false (.t s25))⟩
    (.one ⟨some s27, none, (.pick (.t s24) (.c (.v (.bool true))) (.t s26))⟩
    .done)))))))
  (.cond (.t s27) (.seq (.reg (.one ⟨some s2, none, (.mv (.c (.v (.bool false))))⟩
    .done))
  .ret) .skip))
  (.seq (.reg (.one ⟨some s28, none, (.build [(.v (.int .i64 0)), (.slice 1 [] .full), (.slice 1 [] .full), (.slice 1 [] .full)] [(0, 1, (.c (.v (.int .i64 20000))))])⟩
    (.one ⟨some s29, none, (.box 4 (.t s28))⟩
    (.one ⟨some s5, none, (.mv (.t s29))⟩
    .done))))
  (.seq (.seq (.reg (.one ⟨some s6, none, (.mv (.c (.v (.int .i64 0))))⟩
    .done))
  (.block 0 (.loop (.seq (.seq (.reg (.one ⟨some s30, none, (.mv (.t s6))⟩
    (.one ⟨some s31, none, (.mv (.t s0))⟩
    (.one ⟨some s32, none, (.len false (.t s31))⟩
    (.one ⟨some s33, none, (.bin false .lss (.t s30) (.t s32))⟩
    (.one ⟨some s34, none, (.mv (.t s33))⟩
    (.one ⟨some s35, some (s34, true), (.mv (.t s6))⟩
    (.one ⟨some s36, some (s34, true), (.bin false .lss (.t s35) (.c (.v (.int .i64 60))))⟩
    (.one ⟨some s37, none, (.pick (.t s34) (.t s36) (.c (.v (.bool false))))⟩
    .done)))))))))
  (.cond (.t s37) .skip (.exit 0)))
  (.seq (.block 1 (.seq (.reg (.one ⟨some s40, none, (.mv (.t s0))⟩
    (.one ⟨some s41, none, (.mv (.t s6))⟩
    (.one ⟨some s42, none, (.iaddr 3 (.t s40) (.t s41))⟩
    (.one ⟨some s43, none, (.load (some 3) (.t s42))⟩
    (.one ⟨some s7, none, (.new [(.slice 1 [] .full), (.v (.int .i64 0)), (.v (.int .i64 0))])⟩
    (.one ⟨none, none, (.store 3 (.t s7) (.t s43))⟩
    .done)))))))
  (.seq (.seq (.reg (.one ⟨some s44, none, (.faddr 0 (.t s7))⟩
    (.one ⟨some s45, none, (.load none (.t s44))⟩
    (.one ⟨some s46, none, (.len false (.t s45))⟩
    (.one ⟨some s47, none, (.bin false .gtr (.t s46) (.c (.v (.int .i64 1100))))⟩
    .done)))))
  (.cond (.t s47) (.seq (.reg (.one ⟨some s48, none, (.callq 22 [])⟩
    (.one ⟨some s2, none, (.mv (.t s48))⟩
    .done)))
  .ret) .skip))
  (.seq (.seq (.reg (.one ⟨some s49, none, (.faddr 0 (.t s7))⟩
    (.one ⟨some s50, none, (.load none (.t s49))⟩
    (.one ⟨some s51, none, (.len false (.t s50))⟩
    (.one ⟨some s52, none, (.bin false .gtr (.t s51) (.c (.v (.int .i64 0))))⟩
    .done)))))
  (.cond (.t s52) (.seq (.reg (.one ⟨some s53, none, (.mv (.t s3))⟩
    (.one ⟨some s54, none, (.faddr 0 (.t s7))⟩
    (.one ⟨some s55, none, (.load none (.t s54))⟩
    (.one ⟨some s56, none, (.call 7 [(.t s53), (.t s55)])⟩
    .done)))))
  (.seq (.reg (.one ⟨some s57, none, (.mv (.t s5))⟩
    (.one ⟨some s58, none, (.faddr 0 (.t s7))⟩
    (.one ⟨some s59, none, (.load none (.t s58))⟩
    (.one ⟨some s60, none, (.call 8 [(.t s57), (.t s59)])⟩
    .done)))))
  (.exit 1))) .skip))
  (.seq (.reg (.one ⟨some s61, none, (.mv (.t s3))⟩
    (.one ⟨some s62, none, (.faddr 1 (.t s7))⟩
    (.one ⟨some s63, none, (.load none (.t s62))⟩
    (.one ⟨some s64, none, (.faddr 2 (.t s7))⟩
    (.one ⟨some s65, none, (.load none (.t s64))⟩
    (.one ⟨some s66, none, (.callq 23 [(.t s61), (.t s63), (.t s65)])⟩
    (.one ⟨some s8, none, (.mv (.t s66))⟩
    .done))))))))
  (.seq (.reg (.one ⟨some s68, none, (.mv (.t s3))⟩
    (.one ⟨some s69, none, (.faddr 1 (.t s7))⟩
    (.one ⟨some s70, none, (.load none (.t s69))⟩
    (.one ⟨some s71, none, (.faddr 2 (.t s7))⟩
    (.one ⟨some s72, none, (.load none (.t s71))⟩
    (.one ⟨some s73, none, (.call 24 [(.t s68), (.t s70), (.t s72)])⟩
    (.one ⟨some s67, none, (.mv (.t s73))⟩
    (.one ⟨some s74, none, (.ext (.t s67) 0)⟩
    (.one ⟨some s75, none, (.ext (.t s67) 1)⟩
    (.one ⟨some s9, none, (.new [(.v (.int .i64 0)), (.slice 1 [] .full), (.slice 1 [] .full)])⟩
    (.one ⟨none, none, (.store 3 (.t s9) (.t s74))⟩
    (.one ⟨some s10, none, (.mv (.t s75))⟩
    .done)))))))))))))
  (.seq (.reg (.one ⟨some s77, none, (.mv (.t s5))⟩
    (.one ⟨some s78, none, (.faddr 1 (.t s7))⟩
    (.one ⟨some s79, none, (.load none (.t s78))⟩
    (.one ⟨some s80, none, (.faddr 2 (.t s7))⟩
    (.one ⟨some s81, none, (.load none (.t s80))⟩
    (.one ⟨some s82, none, (.call 25 [(.t s77), (.t s79), (.t s81)])⟩
    (.one ⟨some s76, none, (.mv (.t s82))⟩
    (.one ⟨some s83, none, (.ext (.t s76) 0)⟩
    (.one ⟨some s84, none, (.ext (.t s76) 1)⟩
    (.one ⟨some s11, none, (.new [(.v (.int .i64 0)), (.slice 1 [] .full), (.slice 1 [] .full)])⟩
    (.one ⟨none, none, (.store 3 (.t s11) (.t s83))⟩
    (.one ⟨some s12, none, (.mv (.t s84))⟩
    .done)))))))))))))
  (.seq (.reg (.one ⟨some s85, none, (.mv (.t s10))⟩
    (.one ⟨some s86, none, (.mv (.t s12))⟩
    (.one ⟨some s87, none, (.bin false .neq (.t s85) (.t s86))⟩
    (.one ⟨some s88, none, (.mv (.t s87))⟩
    (.one ⟨some s89, some (s88, false), (.load (some 3) (.t s9))⟩
    (.one ⟨some s90, some (s88, false), (.load (some 3) (.t s11))⟩
    (.one ⟨some s91, some (s88, false), (.callq 26 [(.t s89), (.t s90)])⟩
    (.one ⟨some s92, some (s88, false), (.not (.t s91))⟩
    (.one ⟨some s93, none, (.pick (.t s88) (.c (.v (.bool true))) (.t s92))⟩
    (.one ⟨some s94, none, (.mv (.t s93))⟩
    (.one ⟨some s95, some (s94, false), (.mv (.t s8))⟩
    (.one ⟨some s96, some (s94, false), (.mv (.t s12))⟩
    (.one ⟨some s97, some (s94, false), (.bin false .eql (.t s96) (.c (.v (.int .i64 0))))⟩
    (.one ⟨some s98, some (s94, false), (.bin true .neq (.t s95) (.t s97))⟩
    (.one ⟨some s99, none, (.pick (.t s94) (.c (.v (.bool true))) (.t s98))⟩
    (.one ⟨some s100, none, (.mv (.t s99))⟩
    (.one ⟨some s101, some (s100, false), (.mv (.t s3))⟩
    (.one ⟨some s102, some (s100, false), (.callq 18 [(.t s101)])⟩
    (.one ⟨some s103, some (s100, false), (.mv (.t s5))⟩
    (.one ⟨some s104, some (s100, false), (.callq 19 [(.t s103)])⟩
    (.one ⟨some s105, some (s100, false), (.bin false .neq (.t s102) (.t s104))⟩
    (.one ⟨some s106, none, (.pick (.t s100) (.c (.v (.bool true))) (.t s105))⟩
    .done)))))))))))))))))))))))
  (.cond (.t s106) (.seq (.reg (.one ⟨some s2, none, (.mv (.c (.v (.bool false))))⟩
    .done))
  .ret) .skip)))))))))
  (.reg (.one ⟨some s38, none, (.mv (.t s6))⟩
    (.one ⟨some s39, none, (.bin false .add (.t s38) (.c (.v (.int .i64 1))))⟩
    (.one ⟨some s6, none, (.mv (.t s39))⟩
    .done)))))))))
  (.seq (.reg (.one ⟨some s13, none, (.new [(.v (.int .i64 0)), (.slice 2 [] .full), (.v (.int .i64 0)), (.v (.int .u64 0)), (.v (.int .i64 0))])⟩
    .done))
  (.seq (.reg (.one ⟨some s108, none, (.call 24 [(.c (.v (.pointer none))), (.c (.v (.int .i64 5))), (.c (.v (.int .i64 11)))])⟩
    (.one ⟨some s107, none, (.mv (.t s108))⟩
    (.one ⟨some s109, none, (.ext (.t s107) 0)⟩
    (.one ⟨some s110, none, (.ext (.t s107) 1)⟩
    (.one ⟨some s14, none, (.new [(.v (.int .i64 0)), (.slice 1 [] .full), (.slice 1 [] .full)])⟩
    (.one ⟨none, none, (.store 3 (.t s14) (.t s109))⟩
    (.one ⟨some s15, none, (.mv (.t s110))⟩
    .done))))))))
  (.seq (.reg (.one ⟨some s112, none, (.call 24 [(.t s13), (.c (.v (.int .i64 5))), (.c (.v (.int .i64 11)))])⟩
    (.one ⟨some s111, none, (.mv (.t s112))⟩
    (.one ⟨some s113, none, (.ext (.t s111) 0)⟩
    (.one ⟨some s114, none, (.ext (.t s111) 1)⟩
    (.one ⟨some s16, none, (.new [(.v (.int .i64 0)), (.slice 1 [] .full), (.slice 1 [] .full)])⟩
    (.one ⟨none, none, (.store 3 (.t s16) (.t s113))⟩
    (.one ⟨some s17, none, (.mv (.t s114))⟩
    .done))))))))
  (.seq (.reg (.one ⟨some s115, none, (.callq 22 [])⟩
    (.one ⟨some s116, none, (.mv (.t s115))⟩
    (.one ⟨some s117, some (s116, true), (.mv (.t s15))⟩
    (.one ⟨some s118, some (s116, true), (.bin false .eql (.t s117) (.c (.v (.int .i64 6))))⟩
    (.one ⟨some s119, none, (.pick (.t s116) (.t s118) (.c (.v (.bool false))))⟩
    (.one ⟨some s120, none, (.mv (.t s119))⟩
    (.one ⟨some s121, some (s120, true), (.mv (.t s17))⟩
    (.one ⟨some s122, some (s120, true), (.bin false .eql (.t s121) (.c (.v (.int .i64 6))))⟩
    (.one ⟨some s123, none, (.pick (.t s120) (.t s122) (.c (.v (.bool false))))⟩
    (.one ⟨some s124, none, (.mv (.t s123))⟩
    (.one ⟨some s125, some (s124, true), (.callq 23 [(.c (.v (.pointer none))), (.c (.v (.int .i64 5))), (.c (.v (.int .i64 11)))])⟩
    (.one ⟨some s126, some (s124, true), (.not (.t s125))⟩
    (.one ⟨some s127, none, (.pick (.t s124) (.t s126) (.c (.v (.bool false))))⟩
    (.one ⟨some s128, none, (.mv (.t s127))⟩
    (.one ⟨some s129, some (s128, true), (.callq 23 [(.t s13), (.c (.v (.int .i64 5))), (.c (.v (.int .i64 11)))])⟩
    (.one ⟨some s130, some (s128, true), (.not (.t s129))⟩
    (.one ⟨some s131, none, (.pick (.t s128) (.t s130) (.c (.v (.bool false))))⟩
    (.one ⟨some s132, none, (.mv (.t s131))⟩
    (.one ⟨some s133, some (s132, true), (.build [(.v (.int .i64 0)), (.slice 1 [] .full), (.slice 1 [] .full)] [])⟩
    (.one ⟨some s134, some (s132, true), (.callq 27 [(.t s133), (.c (.v (.int .i64 11)))])⟩
    (.one ⟨some s135, some (s132, true), (.bin false .eql (.t s134) (.c (.v (.int .i64 0))))⟩
    (.one ⟨some s136, none, (.pick (.t s132) (.t s135) (.c (.v (.bool false))))⟩
    (.one ⟨some s2, none, (.mv (.t s136))⟩
    .done))))))))))))))))))))))))
  .ret)))))))))⟩
theorem ok4 : compF Try.prog c4 Try.f4 = some ir4 := by kernel_rfl
theorem k_bowlinelaw13_CutBuilds {args : List AVal} {σ : AHeap} {Q : AVal → AHeap → Prop} (hl : Nat.ble args.length 137 = true) (h : argsK (Env.full 9) 0 args fun env => evC Try.prog c4 ir4.body env σ (retQ ir4 Q)) : ACalls Try.prog 4 args σ Q :=
  acalls_of Try.func4 ok4 rfl (Nat.le_of_ble_eq_true hl) h
/- bowlinelaw13.alive -/
def c22 : Cfg := ⟨qs, [], 111, [22, 26, 30], ps⟩
def ir22 : IFun := ⟨0, [.tmp s0],
  (.seq (.reg (.one ⟨some s0, none, (.mv (.c (.v (.bool false))))⟩
    .done))
  (.seq (.reg (.one ⟨some s12, none, (.callq 5 [(.c (.v (.int .i64 100)))])⟩
    (.one ⟨some s11, none, (.mv (.t s12))⟩
    (.one ⟨some s13, none, (.ext (.t s11) 0)⟩
    (.one ⟨some s14, none, (.ext (.t s11) 1)⟩
    (.one ⟨some s1, none, (.mv (.t s13))⟩
    (.one ⟨some s2, none, (.mv (.t s14))⟩
    .done)))))))
  (.seq (.seq (.reg (.one ⟨some s15, none, (.mv (.t s2))⟩
    (.one ⟨some s16, none, (.bin false .neq (.t s15) (.c (.v (.int .i64 0))))⟩
    (.one ⟨some s17, none, (.mv (.t s16))⟩
    (.one ⟨some s18, some (s17, false), (.mv (.t s1))⟩
    (.one ⟨some s19, some (s17, false), (.eqNil 1 false (.t s18))⟩
    (.one ⟨some s20, none, (.pick (.t s17) (.c (.v (.bool true))) (.t s19))⟩
    .done)))))))
  (.cond (.t s20) (.seq (.reg (.one ⟨some s0, none, (.mv (.c (.v (.bool false))))⟩
    .done))
  .ret) .skip))
  (.seq (.reg (.one ⟨some s21, none, (.mv (.t s1))⟩
    (.one ⟨some s22, none, (.rowT 1 [(.c (.v (.int .u8 97))), (.c (.v (.int .u8 98)))])⟩
    (.one ⟨some s23, none, (.mark (.t s22))⟩
    (.one ⟨some s24, none, (.call 7 [(.t s21), (.t s23)])⟩
    .done)))))
  (.seq (.reg (.one ⟨some s25, none, (.mv (.t s1))⟩
    (.one ⟨some s26, none, (.rowT 1 [(.c (.v (.int .u8 99)))])⟩
    (.one ⟨some s27, none, (.mark (.t s26))⟩
    (.one ⟨some s28, none, (.call 7 [(.t s25), (.t s27)])⟩
    .done)))))
  (.seq (.reg (.one ⟨some s29, none, (.mv (.t s1))⟩
    (.one ⟨some s30, none, (.rowT 1 [(.c (.v (.int .u8 100))), (.c (.v (.int .u8 101))), (.c (.v (.int .u8 102)))])⟩
    (.one ⟨some s31, none, (.mark (.t s30))⟩
    (.one ⟨some s32, none, (.call 7 [(.t s29), (.t s31)])⟩
    .done)))))
  (.seq (.reg (.one ⟨some s34, none, (.mv (.t s1))⟩
    (.one ⟨some s35, none, (.call 24 [(.t s34), (.c (.v (.int .i64 5))), (.c (.v (.int .i64 11)))])⟩
    (.one ⟨some s33, none, (.mv (.t s35))⟩
    (.one ⟨some s36, none, (.ext (.t s33) 0)⟩
    (.one ⟨some s37, none, (.ext (.t s33) 1)⟩
    (.one ⟨some s3, none, (.new [(.v (.int .i64 0)), (.slice 1 [] .full), (.slice 1 [] .full)])⟩
    (.one ⟨none, none, (.store 3 (.t s3) (.t s36))⟩
    (.one ⟨some s4, none, (.mv (.t s37))⟩
    .done)))))))))
  (.seq (.reg (.one ⟨some s39, none, (.mv (.t s1))⟩
    (.one ⟨some s40, none, (.call 24 [(.t s39), (.c (.v (.int .i64 2))), (.c (.v (.int .i64 11)))])⟩
    (.one ⟨some s38, none, (.mv (.t s40))⟩
    (.one ⟨some s41, none, (.ext (.t s38) 0)⟩
    (.one ⟨some s42, none, (.ext (.t s38) 1)⟩
    (.one ⟨some s5, none, (.new [(.v (.int .i64 0)), (.slice 1 [] .full), (.slice 1 [] .full)])⟩
    (.one ⟨none, none, (.store 3 (.t s5) (.t s41))⟩
    (.one ⟨some s6, none, (.mv (.t s42))⟩
    .done)))))))))
  (.seq (.reg (.one ⟨some s44, none, (.mv (.t s1))⟩
    (.one ⟨some s45, none, (.call 24 [(.t s44), (.c (.v (.int .i64 9))), (.c (.v (.int .i64 11)))])⟩
    (.one ⟨some s43, none, (.mv (.t s45))⟩
    (.one ⟨some s46, none, (.ext (.t s43) 0)⟩
    (.one ⟨some s47, none, (.ext (.t s43) 1)⟩
    (.one ⟨some s7, none, (.new [(.v (.int .i64 0)), (.slice 1 [] .full), (.slice 1 [] .full)])⟩
    (.one ⟨none, none, (.store 3 (.t s7) (.t s46))⟩
    (.one ⟨some s8, none, (.mv (.t s47))⟩
    .done)))))))))
  (.seq (.reg (.one ⟨some s49, none, (.mv (.t s1))⟩
    (.one ⟨some s50, none, (.call 24 [(.t s49), (.c (.v (.int .i64 9))), (.c (.v (.int .i64 11)))])⟩
    (.one ⟨some s48, none, (.mv (.t s50))⟩
    (.one ⟨some s51, none, (.ext (.t s48) 0)⟩
    (.one ⟨some s52, none, (.ext (.t s48) 1)⟩
    (.one ⟨some s9, none, (.new [(.v (.int .i64 0)), (.slice 1 [] .full), (.slice 1 [] .full)])⟩
    (.one ⟨none, none, (.store 3 (.t s9) (.t s51))⟩
    (.one ⟨some s10, none, (.mv (.t s52))⟩
    .done)))))))))
  (.seq (.reg (.one ⟨some s53, none, (.mv (.t s4))⟩
    (.one ⟨some s54, none, (.bin false .eql (.t s53) (.c (.v (.int .i64 0))))⟩
    (.one ⟨some s55, none, (.mv (.t s54))⟩
    (.one ⟨some s56, some (s55, true), (.faddr 1 (.t s3))⟩
    (.one ⟨some s57, some (s55, true), (.load none (.t s56))⟩
    (.one ⟨some s58, some (s55, true), (.len false (.t s57))⟩
    (.one ⟨some s59, some (s55, true), (.bin false .eql (.t s58) (.c (.v (.int .i64 2))))⟩
    (.one ⟨some s60, none, (.pick (.t s55) (.t s59) (.c (.v (.bool false))))⟩
    (.one ⟨some s61, none, (.mv (.t s60))⟩
    (.one ⟨some s62, some (s61, true), (.faddr 2 (.t s3))⟩
    (.one ⟨some s63, some (s61, true), (.load none (.t s62))⟩
    (.one ⟨some s64, some (s61, true), (.len false (.t s63))⟩
    (.one ⟨some s65, some (s61, true), (.bin false .eql (.t s64) (.c (.v (.int .i64 2))))⟩
    (.one ⟨some s66, none, (.pick (.t s61) (.t s65) (.c (.v (.bool false))))⟩
    (.one ⟨some s67, none, (.mv (.t s66))⟩
    (.one ⟨some s68, some (s67, true), (.faddr 0 (.t s3))⟩
    (.one ⟨some s69, some (s67, true), (.load none (.t s68))⟩
    (.one ⟨some s70, some (s67, true), (.bin false .eql (.t s69) (.c (.v (.int .i64 0))))⟩
    (.one ⟨some s71, none, (.pick (.t s67) (.t s70) (.c (.v (.bool false))))⟩
    (.one ⟨some s72, none, (.mv (.t s71))⟩
    (.one ⟨some s73, some (s72, true), (.mv (.t s6))⟩
    (.one ⟨some s74, some (s72, true), (.bin false .eql (.t s73) (.c (.v (.int .i64 0))))⟩
    (.one ⟨some s75, none, (.pick (.t s72) (.t s74) (.c (.v (.bool false))))⟩
    (.one ⟨some s76, none, (.mv (.t s75))⟩
    (.one ⟨some s77, some (s76, true), (.faddr 0 (.t s5))⟩
    (.one ⟨some s78, some (s76, true), (.load none (.t s77))⟩
    (.one ⟨some s79, some (s76, true), (.bin false .eql (.t s78) (.c (.v (.int .i64 1))))⟩
    (.one ⟨some s80, none, (.pick (.t s76) (.t s79) (.c (.v (.bool false))))⟩
    (.one ⟨some s81, none, (.mv (.t s80))⟩
    (.one ⟨some s82, some (s81, true), (.faddr 2 (.t s5))⟩
    (.one ⟨some s83, some (s81, true), (.load none (.t s82))⟩
    (.one ⟨some s84, some (s81, true), (.len false (.t s83))⟩
    (.one ⟨some s85, some (s81, true), (.bin false .eql (.t s84) (.c (.v (.int .i64 0))))⟩
    (.one ⟨some s86, none, (.pick (.t s81) (.t s85) (.c (.v (.bool false))))⟩
    (.one ⟨some s87, none, (.mv (.t s86))⟩
    (.one ⟨some s88, some (s87, true), (.mv (.t s8))⟩
    (.one ⟨some s89, some (s87, true), (.bin false .eql (.t s88) (.c (.v (.int .i64 0))))⟩
    (.one ⟨some s90, none, (.pick (.t s87) (.t s89) (.c (.v (.bool false))))⟩
    (.one ⟨some s91, none, (.mv (.t s90))⟩
    (.one ⟨some s92, some (s91, true), (.faddr 0 (.t s7))⟩
    (.one ⟨some s93, some (s91, true), (.load none (.t s92))⟩
    (.one ⟨some s94, some (s91, true), (.bin false .eql (.t s93) (.c (.v (.int .i64 2))))⟩
    (.one ⟨some s95, none, (.pick (.t s91) (.t s94) (.c (.v (.bool false))))⟩
    (.one ⟨some s96, none, (.mv (.t s95))⟩
    (.one ⟨some s97, some (s96, true), (.faddr 2 (.t s7))⟩
    (.one ⟨some s98, some (s96, true), (.load none (.t s97))⟩
    (.one ⟨some s99, some (s96, true), (.len false (.t s98))⟩
    (.one ⟨some s100, some (s96, true), (.bin false .eql (.t s99) (.c (.v (.int .i64 1))))⟩
    (.one ⟨some s101, none, (.pick (.t s96) (.t s100) (.c (.v (.bool false))))⟩
    (.one ⟨some s102, none, (.mv (.t s101))⟩
    (.one ⟨some s103, some (s102, true), (.mv (.t s10))⟩
    (.one ⟨some s104, some (s102, true), (.bin false .eql (.t s103) (.c (.v (.int .i64 4))))⟩
    (.one ⟨some s105, none, (.pick (.t s102) (.t s104) (.c (.v (.bool false))))⟩
    (.one ⟨some s106, none, (.mv (.t s105))⟩
    (.one ⟨some s107, some (s106, true), (.load (some 3) (.t s3))⟩
    (.one ⟨some s108, some (s106, true), (.callq 27 [(.t s107), (.c (.v (.int .i64 11)))])⟩
    (.one ⟨some s109, some (s106, true), (.bin false .eql (.t s108) (.c (.v (.int .i64 5))))⟩
    (.one ⟨some s110, none, (.pick (.t s106) (.t s109) (.c (.v (.bool false))))⟩
    (.one ⟨some s0, none, (.mv (.t s110))⟩
    .done))))))))))))))))))))))))))))))))))))))))))))))))))))))))))))
  .ret)))))))))))⟩
theorem ok22 : compF Try.prog c22 Try.f22 = some ir22 := by kernel_rfl
theorem k_bowlinelaw13_alive {args : List AVal} {σ : AHeap} {Q : AVal → AHeap → Prop} (hl : Nat.ble args.length 111 = true) (h : argsK (Env.full 9) 0 args fun env => evC Try.prog c22 ir22.body env σ (retQ ir22 Q)) : ACalls Try.prog 22 args σ Q :=
  acalls_of Try.func22 ok22 rfl (Nat.le_of_ble_eq_true hl) h
/- bowlinelaw13.Same -/
def c26 : Cfg := ⟨qs, [], 46, [], ps⟩
def ir26 : IFun := ⟨2, [.tmp s4],
  (.seq (.reg (.one ⟨some s2, none, (.box 3 (.t s0))⟩
    (.one ⟨some s3, none, (.box 3 (.t s1))⟩
    (.one ⟨some s4, none, (.mv (.c (.v (.bool false))))⟩
    .done))))
  (.seq (.seq (.reg (.one ⟨some s6, none, (.faddr 0 (.t s2))⟩
    (.one ⟨some s7, none, (.load none (.t s6))⟩
    (.one ⟨some s8, none, (.faddr 0 (.t s3))⟩
    (.one ⟨some s9, none, (.load none (.t s8))⟩
    (.one ⟨some s10, none, (.bin false .neq (.t s7) (.t s9))⟩
    (.one ⟨some s11, none, (.mv (.t s10))⟩
    (.one ⟨some s12, some (s11, false), (.faddr 1 (.t s2))⟩
    (.one ⟨some s13, some (s11, false), (.load none (.t s12))⟩
    (.one ⟨some s14, some (s11, false), (.faddr 1 (.t s3))⟩
    (.one ⟨some s15, some (s11, false), (.load none (.t s14))⟩
    (.one ⟨some s16, some (s11, false), (.callq 36 [(.t s13), (.t s15)])⟩
    (.one ⟨some s17, some (s11, false), (.not (.t s16))⟩
    (.one ⟨some s18, none, (.pick (.t s11) (.c (.v (.bool true))) (.t s17))⟩
    (.one ⟨some s19, none, (.mv (.t s18))⟩
    (.one ⟨some s20, some (s19, false), (.faddr 2 (.t s2))⟩
    (.one ⟨some s21, some (s19, false), (.load none (.t s20))⟩
    (.one ⟨some s22, some (s19, false), (.len false (.t s21))⟩
    (.one ⟨some s23, some (s19, false), (.faddr 2 (.t s3))⟩
    (.one ⟨some s24, some (s19, false), (.load none (.t s23))⟩
    (.one ⟨some s25, some (s19, false), (.len false (.t s24))⟩
    (.one ⟨some s26, some (s19, false), (.bin false .neq (.t s22) (.t s25))⟩
    (.one ⟨some s27, none, (.pick (.t s19) (.c (.v (.bool true))) (.t s26))⟩
    .done)))))))))))))))))))))))
  (.cond (.t s27) (.seq (.reg (.one ⟨some s4, none, (.mv (.c (.v (.bool false))))⟩
    .done))
  .ret) .skip))
  (.seq (.seq (.reg (.one ⟨some s5, none, (.mv (.c (.v (.int .i64 0))))⟩
    .done))
  (.block 0 (.loop (.seq (.seq (.reg (.one ⟨some s28, none, (.mv (.t s5))⟩
    (.one ⟨some s29, none, (.faddr 2 (.t s3))⟩
    (.one ⟨some s30, none, (.load none (.t s29))⟩
    (.one ⟨some s31, none, (.len false (.t s30))⟩
    (.one ⟨some s32, none, (.bin false .lss (.t s28) (.t s31))⟩
    .done))))))
  (.cond (.t s32) .skip (.exit 0)))
  (.seq (.block 1 (.seq (.reg (.one ⟨some s35, none, (.faddr 2 (.t s2))⟩
    (.one ⟨some s36, none, (.load none (.t s35))⟩
    (.one ⟨some s37, none, (.mv (.t s5))⟩
    (.one ⟨some s38, none, (.iaddr 1 (.t s36) (.t s37))⟩
    (.one ⟨some s39, none, (.load none (.t s38))⟩
    (.one ⟨some s40, none, (.faddr 2 (.t s3))⟩
    (.one ⟨some s41, none, (.load none (.t s40))⟩
    (.one ⟨some s42, none, (.mv (.t s5))⟩
    (.one ⟨some s43, none, (.iaddr 1 (.t s41) (.t s42))⟩
    (.one ⟨some s44, none, (.load none (.t s43))⟩
    (.one ⟨some s45, none, (.bin false .neq (.t s39) (.t s44))⟩
    .done))))))))))))
  (.cond (.t s45) (.seq (.reg (.one ⟨some s4, none, (.mv (.c (.v (.bool false))))⟩
    .done))
  .ret) .skip)))
  (.reg (.one ⟨some s33, none, (.mv (.t s5))⟩
    (.one ⟨some s34, none, (.bin false .add (.t s33) (.c (.v (.int .i64 1))))⟩
    (.one ⟨some s5, none, (.mv (.t s34))⟩
    .done)))))))))
  (.seq (.reg (.one ⟨some s4, none, (.mv (.c (.v (.bool true))))⟩
    .done))
  .ret))))⟩
theorem ok26 : compF Try.prog c26 Try.f26 = some ir26 := by kernel_rfl
theorem k_bowlinelaw13_Same {args : List AVal} {σ : AHeap} {Q : AVal → AHeap → Prop} (hl : Nat.ble args.length 46 = true) (h : argsK (Env.full 9) 0 args fun env => evC Try.prog c26 ir26.body env σ (retQ ir26 Q)) : ACalls Try.prog 26 args σ Q :=
  acalls_of Try.func26 ok26 rfl (Nat.le_of_ble_eq_true hl) h
end Go.Proofs.Ytagbbpllbiplkaa
/-
  The bodies of one package, compiled to the framework's language (printed by a program of this session).
-/
namespace Go.Proofs.Ytagbbpllbiplkaa
set_option linter.unusedVariables false
set_option linter.unusedSimpArgs false
open Go Go.Am
/- bowlineref08.Size -/
def c35 : Cfg := ⟨qs, [], 30, [], ps⟩
def ir35 : IFun := ⟨2, [.tmp s4],
  (.seq (.reg (.one ⟨some s4, none, (.mv (.c (.v (.int .i64 0))))⟩
    .done))
  (.seq (.seq (.reg (.one ⟨some s6, none, (.mv (.t s1))⟩
    (.one ⟨some s7, none, (.bin false .neq (.t s6) (.c (.v (.int .i64 11))))⟩
    (.one ⟨some s8, none, (.mv (.t s7))⟩
    (.one ⟨some s9, some (s8, true), (.mv (.t s1))⟩
    (.one ⟨some s10, some (s8, true), (.bin false .neq (.t s9) (.c (.v (.int .i64 15))))⟩
    (.one ⟨some s11, none, (.pick (.t s8) (.t s10) (.c (.v (.bool false))))⟩
    (.one ⟨some s12, none, (.mv (.t s11))⟩
    (.one ⟨some s13, some (s12, false), (.mv (.t s0))⟩
    (.one ⟨some s14, some (s12, false), (.bin false .lss (.t s13) (.c (.v (.int .i64 1))))⟩
    (.one ⟨some s15, none, (.pick (.t s12) (.c (.v (.bool true))) (.t s14))⟩
    (.one ⟨some s16, none, (.mv (.t s15))⟩
    (.one ⟨some s17, some (s16, false), (.mv (.t s0))⟩
    (.one ⟨some s18, some (s16, false), (.bin false .gtr (.t s17) (.c (.v (.int .i64 23))))⟩
    (.one ⟨some s19, none, (.pick (.t s16) (.c (.v (.bool true))) (.t s18))⟩
    .done)))))))))))))))
  (.cond (.t s19) (.seq (.reg (.one ⟨some s4, none, (.mv (.c (.v (.int .i64 0))))⟩
    .done))
  .ret) .skip))
  (.seq (.reg (.one ⟨some s5, none, (.mv (.c (.v (.int .i64 0))))⟩
    .done))
  (.seq (.block 0 (.loop (.seq (.seq (.reg (.one ⟨some s20, none, (.mv (.t s5))⟩
    (.one ⟨some s21, none, (.bin false .mul (.c (.v (.int .i64 8))) (.t s20))⟩
    (.one ⟨some s22, none, (.mv (.t s0))⟩
    (.one ⟨some s23, none, (.mv (.t s1))⟩
    (.one ⟨some s24, none, (.bin false .add (.t s23) (.c (.v (.int .i64 1))))⟩
    (.one ⟨some s25, none, (.bin false .mul (.t s22) (.t s24))⟩
    (.one ⟨some s26, none, (.bin false .lss (.t s21) (.t s25))⟩
    .done))))))))
  (.cond (.t s26) .skip (.exit 0)))
  (.block 1 (.reg (.one ⟨some s27, none, (.mv (.t s5))⟩
    (.one ⟨some s28, none, (.bin false .add (.t s27) (.c (.v (.int .i64 1))))⟩
    (.one ⟨some s5, none, (.mv (.t s28))⟩
    .done))))))))
  (.seq (.reg (.one ⟨some s29, none, (.mv (.t s5))⟩
    (.one ⟨some s4, none, (.mv (.t s29))⟩
    .done)))
  .ret)))))⟩
theorem ok35 : compF Try.prog c35 Try.f35 = some ir35 := by kernel_rfl
theorem k_bowlineref08_Size {args : List AVal} {σ : AHeap} {Q : AVal → AHeap → Prop} (hl : Nat.ble args.length 30 = true) (h : argsK (Env.full 9) 0 args fun env => evC Try.prog c35 ir35.body env σ (retQ ir35 Q)) : ACalls Try.prog 35 args σ Q :=
  acalls_of Try.func35 ok35 rfl (Nat.le_of_ble_eq_true hl) h
end Go.Proofs.Ytagbbpllbiplkaa
/-
  The bodies of one package, compiled to the framework's language (printed by a program of this session).
-/
namespace Go.Proofs.Ytagbbpllbiplkaa
set_option linter.unusedVariables false
set_option linter.unusedSimpArgs false
open Go Go.Am
/- bowlineref13.Build -/
def c25 : Cfg := ⟨qs, [], 106, [], ps⟩
def ir25 : IFun := ⟨3, [.cell s6 (some 3), .tmp s7],
  (.seq (.reg (.one ⟨some s6, none, (.new [(.v (.int .i64 0)), (.slice 1 [] .full), (.slice 1 [] .full)])⟩
    (.one ⟨some s7, none, (.mv (.c (.v (.int .i64 0))))⟩
    .done)))
  (.seq (.seq (.reg (.one ⟨some s18, none, (.mv (.t s2))⟩
    (.one ⟨some s19, none, (.bin false .neq (.t s18) (.c (.v (.int .i64 11))))⟩
    (.one ⟨some s20, none, (.mv (.t s19))⟩
    (.one ⟨some s21, some (s20, true), (.mv (.t s2))⟩
    (.one ⟨some s22, some (s20, true), (.bin false .neq (.t s21) (.c (.v (.int .i64 15))))⟩
    (.one ⟨some s23, none, (.pick (.t s20) (.t s22) (.c (.v (.bool false))))⟩
    .done)))))))
  (.cond (.t s23) (.seq (.reg (.one ⟨some s24, none, (.build [(.v (.int .i64 0)), (.slice 1 [] .full), (.slice 1 [] .full)] [])⟩
    (.one ⟨none, none, (.store 3 (.t s6) (.t s24))⟩
    (.one ⟨some s7, none, (.mv (.c (.v (.int .i64 9))))⟩
    .done))))
  .ret) .skip))
  (.seq (.seq (.reg (.one ⟨some s25, none, (.mv (.t s1))⟩
    (.one ⟨some s26, none, (.bin false .lss (.t s25) (.c (.v (.int .i64 0))))⟩
    (.one ⟨some s27, none, (.mv (.t s26))⟩
    (.one ⟨some s28, some (s27, false), (.mv (.t s1))⟩
    (.one ⟨some s29, some (s27, false), (.bin false .gtr (.t s28) (.c (.v (.int .i64 4000))))⟩
    (.one ⟨some s30, none, (.pick (.t s27) (.c (.v (.bool true))) (.t s29))⟩
    .done)))))))
  (.cond (.t s30) (.seq (.reg (.one ⟨some s31, none, (.build [(.v (.int .i64 0)), (.slice 1 [] .full), (.slice 1 [] .full)] [])⟩
    (.one ⟨none, none, (.store 3 (.t s6) (.t s31))⟩
    (.one ⟨some s7, none, (.mv (.c (.v (.int .i64 1))))⟩
    .done))))
  .ret) .skip))
  (.seq (.reg (.one ⟨some s32, none, (.build [(.v (.int .i64 0)), (.slice 1 [] .full), (.slice 1 [] .full)] [])⟩
    (.one ⟨some s8, none, (.new [(.v (.int .i64 0)), (.slice 1 [] .full), (.slice 1 [] .full)])⟩
    (.one ⟨none, none, (.store 3 (.t s8) (.t s32))⟩
    .done))))
  (.seq (.reg (.one ⟨some s9, none, (.mv (.c (.v (.int .i64 0))))⟩
    .done))
  (.seq (.block 0 (.loop (.seq (.seq (.reg (.one ⟨some s33, none, (.faddr 1 (.t s8))⟩
    (.one ⟨some s34, none, (.load none (.t s33))⟩
    (.one ⟨some s35, none, (.len false (.t s34))⟩
    (.one ⟨some s36, none, (.bin false .lss (.t s35) (.c (.v (.int .i64 24))))⟩
    .done)))))
  (.cond (.t s36) .skip (.exit 0)))
  (.block 1 (.seq (.reg (.one ⟨some s38, none, (.mv (.t s0))⟩
    (.one ⟨some s39, none, (.callq 17 [(.t s38)])⟩
    (.one ⟨some s37, none, (.mv (.t s39))⟩
    (.one ⟨some s40, none, (.ext (.t s37) 0)⟩
    (.one ⟨some s41, none, (.ext (.t s37) 1)⟩
    (.one ⟨some s42, none, (.ext (.t s37) 2)⟩
    (.one ⟨some s10, none, (.mv (.t s40))⟩
    (.one ⟨some s11, none, (.mv (.t s41))⟩
    (.one ⟨some s12, none, (.mv (.t s42))⟩
    .done))))))))))
  (.seq (.reg (.one ⟨some s43, none, (.mv (.t s1))⟩
    (.one ⟨some s44, none, (.mv (.t s9))⟩
    (.one ⟨some s45, none, (.bin false .sub (.t s43) (.t s44))⟩
    (.one ⟨some s46, none, (.faddr 1 (.t s8))⟩
    (.one ⟨some s47, none, (.load none (.t s46))⟩
    (.one ⟨some s48, none, (.len false (.t s47))⟩
    (.one ⟨some s49, none, (.mv (.t s2))⟩
    (.one ⟨some s50, none, (.callq 35 [(.t s48), (.t s49)])⟩
    (.one ⟨some s51, none, (.bin false .sub (.t s45) (.t s50))⟩
    (.one ⟨some s13, none, (.mv (.t s51))⟩
    .done)))))))))))
  (.seq (.seq (.reg (.one ⟨some s52, none, (.mv (.t s10))⟩
    (.one ⟨some s53, none, (.bin false .eql (.t s52) (.c (.v (.int .u64 0))))⟩
    (.one ⟨some s54, none, (.mv (.t s53))⟩
    (.one ⟨some s55, some (s54, false), (.mv (.t s13))⟩
    (.one ⟨some s56, some (s54, false), (.bin false .lss (.t s55) (.c (.v (.int .i64 1))))⟩
    (.one ⟨some s57, none, (.pick (.t s54) (.c (.v (.bool true))) (.t s56))⟩
    .done)))))))
  (.cond (.t s57) (.exit 0) .skip))
  (.seq (.reg (.one ⟨some s58, none, (.mv (.t s11))⟩
    (.one ⟨some s59, none, (.len false (.t s58))⟩
    (.one ⟨some s14, none, (.mv (.t s59))⟩
    .done))))
  (.seq (.seq (.reg (.one ⟨some s60, none, (.mv (.t s14))⟩
    (.one ⟨some s61, none, (.mv (.t s13))⟩
    (.one ⟨some s62, none, (.bin false .gtr (.t s60) (.t s61))⟩
    .done))))
  (.cond (.t s62) (.reg (.one ⟨some s63, none, (.mv (.t s13))⟩
    (.one ⟨some s14, none, (.mv (.t s63))⟩
    .done))) .skip))
  (.seq (.reg (.one ⟨some s65, none, (.mv (.t s0))⟩
    (.one ⟨some s66, none, (.mv (.t s14))⟩
    (.one ⟨some s67, none, (.call 10 [(.t s65), (.t s66)])⟩
    (.one ⟨some s64, none, (.mv (.t s67))⟩
    (.one ⟨some s68, none, (.ext (.t s64) 0)⟩
    (.one ⟨some s69, none, (.ext (.t s64) 1)⟩
    (.one ⟨some s70, none, (.ext (.t s64) 2)⟩
    (.one ⟨some s15, none, (.mv (.t s68))⟩
    (.one ⟨some s16, none, (.mv (.t s69))⟩
    (.one ⟨some s17, none, (.mv (.t s70))⟩
    .done)))))))))))
  (.seq (.seq (.reg (.one ⟨some s71, none, (.mv (.t s12))⟩
    (.one ⟨some s72, none, (.mv (.t s71))⟩
    (.one ⟨some s73, some (s72, true), (.faddr 1 (.t s8))⟩
    (.one ⟨some s74, some (s72, true), (.load none (.t s73))⟩
    (.one ⟨some s75, some (s72, true), (.len false (.t s74))⟩
    (.one ⟨some s76, some (s72, true), (.bin false .eql (.t s75) (.c (.v (.int .i64 0))))⟩
    (.one ⟨some s77, none, (.pick (.t s72) (.t s76) (.c (.v (.bool false))))⟩
    .done))))))))
  (.cond (.t s77) (.reg (.one ⟨some s78, none, (.faddr 0 (.t s8))⟩
    (.one ⟨none, none, (.store 1 (.t s78) (.c (.v (.int .i64 2))))⟩
    .done))) .skip))
  (.seq (.reg (.one ⟨some s79, none, (.faddr 1 (.t s8))⟩
    (.one ⟨some s80, none, (.load none (.t s79))⟩
    (.one ⟨some s81, none, (.mv (.t s15))⟩
    (.one ⟨some s82, none, (.row 1 [(.t s81)])⟩
    (.one ⟨some s83, none, (.app 1 24 (.t s80) (.t s82))⟩
    (.one ⟨some s84, none, (.faddr 1 (.t s8))⟩
    (.one ⟨none, none, (.store 1 (.t s84) (.t s83))⟩
    .done))))))))
  (.seq (.reg (.one ⟨some s85, none, (.mv (.t s9))⟩
    (.one ⟨some s86, none, (.mv (.t s14))⟩
    (.one ⟨some s87, none, (.bin false .add (.t s85) (.t s86))⟩
    (.one ⟨some s9, none, (.mv (.t s87))⟩
    .done)))))
  (.seq (.seq (.reg (.one ⟨some s88, none, (.mv (.t s16))⟩
    (.one ⟨some s89, none, (.not (.t s88))⟩
    .done)))
  (.cond (.t s89) (.seq (.reg (.one ⟨some s90, none, (.faddr 0 (.t s8))⟩
    (.one ⟨some s91, none, (.load none (.t s90))⟩
    (.one ⟨some s92, none, (.bin false .add (.t s91) (.c (.v (.int .i64 1))))⟩
    (.one ⟨some s93, none, (.faddr 0 (.t s8))⟩
    (.one ⟨none, none, (.store 1 (.t s93) (.t s92))⟩
    .done))))))
  (.exit 0)) .skip))
  (.reg (.one ⟨some s94, none, (.faddr 2 (.t s8))⟩
    (.one ⟨some s95, none, (.load none (.t s94))⟩
    (.one ⟨some s96, none, (.mv (.t s10))⟩
    (.one ⟨some s97, none, (.row 1 [(.t s96)])⟩
    (.one ⟨some s98, none, (.app 1 8 (.t s95) (.t s97))⟩
    (.one ⟨some s99, none, (.faddr 2 (.t s8))⟩
    (.one ⟨none, none, (.store 1 (.t s99) (.t s98))⟩
    .done))))))))))))))))))))))
  (.seq (.seq (.reg (.one ⟨some s100, none, (.faddr 1 (.t s8))⟩
    (.one ⟨some s101, none, (.load none (.t s100))⟩
    (.one ⟨some s102, none, (.len false (.t s101))⟩
    (.one ⟨some s103, none, (.bin false .eql (.t s102) (.c (.v (.int .i64 0))))⟩
    .done)))))
  (.cond (.t s103) (.seq (.reg (.one ⟨some s104, none, (.build [(.v (.int .i64 0)), (.slice 1 [] .full), (.slice 1 [] .full)] [])⟩
    (.one ⟨none, none, (.store 3 (.t s6) (.t s104))⟩
    (.one ⟨some s7, none, (.mv (.c (.v (.int .i64 4))))⟩
    .done))))
  .ret) .skip))
  (.seq (.reg (.one ⟨some s105, none, (.load (some 3) (.t s8))⟩
    (.one ⟨none, none, (.store 3 (.t s6) (.t s105))⟩
    (.one ⟨some s7, none, (.mv (.c (.v (.int .i64 0))))⟩
    .done))))
  .ret))))))))⟩
theorem ok25 : compF Try.prog c25 Try.f25 = some ir25 := by kernel_rfl
theorem k_bowlineref13_Build {args : List AVal} {σ : AHeap} {Q : AVal → AHeap → Prop} (hl : Nat.ble args.length 106 = true) (h : argsK (Env.full 9) 0 args fun env => evC Try.prog c25 ir25.body env σ (retQ ir25 Q)) : ACalls Try.prog 25 args σ Q :=
  acalls_of Try.func25 ok25 rfl (Nat.le_of_ble_eq_true hl) h
end Go.Proofs.Ytagbbpllbiplkaa
