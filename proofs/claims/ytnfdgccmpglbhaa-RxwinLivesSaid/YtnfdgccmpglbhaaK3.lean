/-
  Texts of this claim, pack 3: Irslices, Irseqnum, Irref02, Irrxwin, Irref23, Irlaw23.
-/
import Derived.Test.YtnfdgccmpglbhaaK2
/-
  The bodies of one package, compiled to the framework's language (printed by a program of this session).
-/
namespace Go.Proofs.Ytnfdgccmpglbhaa
set_option linter.unusedVariables false
set_option linter.unusedSimpArgs false
open Go Go.Am
/- slices.Clone[[]byte,byte] -/
def c69 : Cfg := ⟨qs, [], 8, [], ps⟩
def ir69 : IFun := ⟨1, [.tmp s2],
  (.seq (.reg (.one ⟨some s2, none, (.mv (.c (.slice 1 [] .full)))⟩
    .done))
  (.seq (.seq (.reg (.one ⟨some s3, none, (.mv (.t s0))⟩
    (.one ⟨some s4, none, (.eqNil 0 false (.t s3))⟩
    .done)))
  (.cond (.t s4) (.seq (.reg (.one ⟨some s2, none, (.mv (.c (.slice 1 [] .full)))⟩
    .done))
  .ret) .skip))
  (.seq (.reg (.one ⟨some s5, none, (.row 1 [])⟩
    (.one ⟨some s6, none, (.mv (.t s0))⟩
    (.one ⟨some s7, none, (.app 1 1 (.t s5) (.t s6))⟩
    (.one ⟨some s2, none, (.mv (.t s7))⟩
    .done)))))
  .ret)))⟩
theorem ok69 : compF Try.prog c69 Try.f69 = some ir69 := by kernel_rfl
theorem k_slices_Clone_byte_byte {args : List AVal} {σ : AHeap} {Q : AVal → AHeap → Prop} (hl : Nat.ble args.length 8 = true) (h : argsK (Env.full 9) 0 args fun env => evC Try.prog c69 ir69.body env σ (retQ ir69 Q)) : ACalls Try.prog 69 args σ Q :=
  acalls_of Try.func69 ok69 rfl (Nat.le_of_ble_eq_true hl) h
/- slices.Clone[[]byte,byte] -/
def c69m : Cfg := ⟨qs, [22, 23, 29, 36, 45, 47, 48, 58, 62, 87, 92], 8, [], ps⟩
def ir69m : IFun := ⟨1, [.tmp s2],
  (.seq (.reg (.one ⟨some s2, none, (.mv (.c (.slice 1 [] .full)))⟩
    .done))
  (.seq (.seq (.reg (.one ⟨some s3, none, (.mv (.t s0))⟩
    (.one ⟨some s4, none, (.eqNil 0 false (.t s3))⟩
    .done)))
  (.cond (.t s4) (.seq (.reg (.one ⟨some s2, none, (.mv (.c (.slice 1 [] .full)))⟩
    .done))
  .ret) .skip))
  (.seq (.reg (.one ⟨some s5, none, (.row 1 [])⟩
    (.one ⟨some s6, none, (.mv (.t s0))⟩
    (.one ⟨some s7, none, (.appm 1 1 (.t s5) (.t s6))⟩
    (.one ⟨some s2, none, (.mv (.t s7))⟩
    .done)))))
  .ret)))⟩
theorem ok69m : compF Try.prog c69m Try.f69 = some ir69m := by kernel_rfl
theorem km_slices_Clone_byte_byte {args : List AVal} {σ : AHeap} {Q : AVal → AHeap → Prop} (hl : Nat.ble args.length 8 = true) (h : argsK (Env.full 9) 0 args fun env => evC Try.prog c69m ir69m.body env σ (retQ ir69m Q)) : ACalls Try.prog 69 args σ Q :=
  acalls_of Try.func69 ok69m rfl (Nat.le_of_ble_eq_true hl) h
end Go.Proofs.Ytnfdgccmpglbhaa
/-
  The bodies of one package, compiled to the framework's language (printed by a program of this session).
-/
namespace Go.Proofs.Ytnfdgccmpglbhaa
set_option linter.unusedVariables false
set_option linter.unusedSimpArgs false
open Go Go.Am
/- seqnum.Right -/
def c79 : Cfg := ⟨qs, [], 16, [], ps⟩
def ir79 : IFun := ⟨1, [.tmp s2],
  (.seq (.reg (.one ⟨some s1, none, (.box 1 (.t s0))⟩
    (.one ⟨some s2, none, (.mv (.c (.v (.bool false))))⟩
    .done)))
  (.seq (.reg (.one ⟨some s3, none, (.load (some 1) (.t s1))⟩
    (.one ⟨some s4, none, (.build [(.v (.int .i64 0))] [])⟩
    (.one ⟨some s5, none, (.eqAgg true [false] (.t s3) (.t s4))⟩
    (.one ⟨some s6, none, (.mv (.t s5))⟩
    (.one ⟨some s7, some (s6, true), (.faddr 0 (.t s1))⟩
    (.one ⟨some s8, some (s6, true), (.load none (.t s7))⟩
    (.one ⟨some s9, some (s6, true), (.bin false .geq (.t s8) (.c (.v (.int .i64 1))))⟩
    (.one ⟨some s10, none, (.pick (.t s6) (.t s9) (.c (.v (.bool false))))⟩
    (.one ⟨some s11, none, (.mv (.t s10))⟩
    (.one ⟨some s12, some (s11, true), (.faddr 0 (.t s1))⟩
    (.one ⟨some s13, some (s11, true), (.load none (.t s12))⟩
    (.one ⟨some s14, some (s11, true), (.bin false .leq (.t s13) (.c (.v (.int .i64 16))))⟩
    (.one ⟨some s15, none, (.pick (.t s11) (.t s14) (.c (.v (.bool false))))⟩
    (.one ⟨some s2, none, (.mv (.t s15))⟩
    .done)))))))))))))))
  .ret))⟩
theorem ok79 : compF Try.prog c79 Try.f79 = some ir79 := by kernel_rfl
theorem k_seqnum_Right {args : List AVal} {σ : AHeap} {Q : AVal → AHeap → Prop} (hl : Nat.ble args.length 16 = true) (h : argsK (Env.full 9) 0 args fun env => evC Try.prog c79 ir79.body env σ (retQ ir79 Q)) : ACalls Try.prog 79 args σ Q :=
  acalls_of Try.func79 ok79 rfl (Nat.le_of_ble_eq_true hl) h
/- seqnum.Space).Size -/
def c80 : Cfg := ⟨qs, [], 9, [], ps⟩
def ir80 : IFun := ⟨1, [.tmp s2],
  (.seq (.reg (.one ⟨some s1, none, (.box 1 (.t s0))⟩
    (.one ⟨some s2, none, (.mv (.c (.v (.int .i64 0))))⟩
    .done)))
  (.seq (.seq (.reg (.one ⟨some s3, none, (.load (some 1) (.t s1))⟩
    (.one ⟨some s4, none, (.callq 79 [(.t s3)])⟩
    (.one ⟨some s5, none, (.not (.t s4))⟩
    .done))))
  (.cond (.t s5) (.seq (.reg (.one ⟨some s2, none, (.mv (.c (.v (.int .i64 0))))⟩
    .done))
  .ret) .skip))
  (.seq (.reg (.one ⟨some s6, none, (.faddr 0 (.t s1))⟩
    (.one ⟨some s7, none, (.load none (.t s6))⟩
    (.one ⟨some s8, none, (.bin false .shl (.c (.v (.int .i64 1))) (.t s7))⟩
    (.one ⟨some s2, none, (.mv (.t s8))⟩
    .done)))))
  .ret)))⟩
theorem ok80 : compF Try.prog c80 Try.f80 = some ir80 := by kernel_rfl
theorem k_seqnum_Space_Size {args : List AVal} {σ : AHeap} {Q : AVal → AHeap → Prop} (hl : Nat.ble args.length 9 = true) (h : argsK (Env.full 9) 0 args fun env => evC Try.prog c80 ir80.body env σ (retQ ir80 Q)) : ACalls Try.prog 80 args σ Q :=
  acalls_of Try.func80 ok80 rfl (Nat.le_of_ble_eq_true hl) h
/- seqnum.Space).Far -/
def c85 : Cfg := ⟨qs, [], 24, [], ps⟩
def ir85 : IFun := ⟨3, [.tmp s6, .tmp s7],
  (.seq (.reg (.one ⟨some s3, none, (.box 1 (.t s0))⟩
    (.one ⟨some s6, none, (.mv (.c (.v (.int .i64 0))))⟩
    (.one ⟨some s7, none, (.mv (.c (.v (.int .i64 0))))⟩
    .done))))
  (.seq (.seq (.reg (.one ⟨some s9, none, (.load (some 1) (.t s3))⟩
    (.one ⟨some s10, none, (.mv (.t s1))⟩
    (.one ⟨some s11, none, (.mv (.t s2))⟩
    (.one ⟨some s12, none, (.row 1 [(.t s10), (.t s11)])⟩
    (.one ⟨some s13, none, (.callq 121 [(.t s9), (.t s12)])⟩
    (.one ⟨some s8, none, (.mv (.t s13))⟩
    .done)))))))
  (.seq (.reg (.one ⟨some s14, none, (.mv (.t s8))⟩
    (.one ⟨some s15, none, (.bin false .neq (.t s14) (.c (.v (.int .i64 0))))⟩
    .done)))
  (.cond (.t s15) (.seq (.reg (.one ⟨some s16, none, (.mv (.t s8))⟩
    (.one ⟨some s6, none, (.mv (.c (.v (.int .i64 0))))⟩
    (.one ⟨some s7, none, (.mv (.t s16))⟩
    .done))))
  .ret) .skip)))
  (.seq (.reg (.one ⟨some s17, none, (.mv (.t s2))⟩
    (.one ⟨some s18, none, (.mv (.t s1))⟩
    (.one ⟨some s19, none, (.bin false .sub (.t s17) (.t s18))⟩
    (.one ⟨some s20, none, (.load (some 1) (.t s3))⟩
    (.one ⟨some s21, none, (.callq 80 [(.t s20)])⟩
    (.one ⟨some s22, none, (.bin false .sub (.t s21) (.c (.v (.int .i64 1))))⟩
    (.one ⟨some s23, none, (.bin false .and (.t s19) (.t s22))⟩
    (.one ⟨some s6, none, (.mv (.t s23))⟩
    (.one ⟨some s7, none, (.mv (.c (.v (.int .i64 0))))⟩
    .done))))))))))
  .ret)))⟩
theorem ok85 : compF Try.prog c85 Try.f85 = some ir85 := by kernel_rfl
theorem k_seqnum_Space_Far {args : List AVal} {σ : AHeap} {Q : AVal → AHeap → Prop} (hl : Nat.ble args.length 24 = true) (h : argsK (Env.full 9) 0 args fun env => evC Try.prog c85 ir85.body env σ (retQ ir85 Q)) : ACalls Try.prog 85 args σ Q :=
  acalls_of Try.func85 ok85 rfl (Nat.le_of_ble_eq_true hl) h
/- seqnum.Space).Is -/
def c106 : Cfg := ⟨qs, [], 13, [], ps⟩
def ir106 : IFun := ⟨2, [.tmp s4],
  (.seq (.reg (.one ⟨some s2, none, (.box 1 (.t s0))⟩
    (.one ⟨some s4, none, (.mv (.c (.v (.bool false))))⟩
    .done)))
  (.seq (.reg (.one ⟨some s5, none, (.mv (.t s1))⟩
    (.one ⟨some s6, none, (.bin false .geq (.t s5) (.c (.v (.int .i64 0))))⟩
    (.one ⟨some s7, none, (.mv (.t s6))⟩
    (.one ⟨some s8, some (s7, true), (.mv (.t s1))⟩
    (.one ⟨some s9, some (s7, true), (.load (some 1) (.t s2))⟩
    (.one ⟨some s10, some (s7, true), (.callq 80 [(.t s9)])⟩
    (.one ⟨some s11, some (s7, true), (.bin false .lss (.t s8) (.t s10))⟩
    (.one ⟨some s12, none, (.pick (.t s7) (.t s11) (.c (.v (.bool false))))⟩
    (.one ⟨some s4, none, (.mv (.t s12))⟩
    .done))))))))))
  .ret))⟩
theorem ok106 : compF Try.prog c106 Try.f106 = some ir106 := by kernel_rfl
theorem k_seqnum_Space_Is {args : List AVal} {σ : AHeap} {Q : AVal → AHeap → Prop} (hl : Nat.ble args.length 13 = true) (h : argsK (Env.full 9) 0 args fun env => evC Try.prog c106 ir106.body env σ (retQ ir106 Q)) : ACalls Try.prog 106 args σ Q :=
  acalls_of Try.func106 ok106 rfl (Nat.le_of_ble_eq_true hl) h
/- seqnum.Space).Go -/
def c120 : Cfg := ⟨qs, [], 30, [], ps⟩
def ir120 : IFun := ⟨3, [.tmp s6, .tmp s7],
  (.seq (.reg (.one ⟨some s3, none, (.box 1 (.t s0))⟩
    (.one ⟨some s6, none, (.mv (.c (.v (.int .i64 0))))⟩
    (.one ⟨some s7, none, (.mv (.c (.v (.int .i64 0))))⟩
    .done))))
  (.seq (.seq (.reg (.one ⟨some s9, none, (.load (some 1) (.t s3))⟩
    (.one ⟨some s10, none, (.mv (.t s1))⟩
    (.one ⟨some s11, none, (.row 1 [(.t s10)])⟩
    (.one ⟨some s12, none, (.callq 121 [(.t s9), (.t s11)])⟩
    (.one ⟨some s8, none, (.mv (.t s12))⟩
    .done))))))
  (.seq (.reg (.one ⟨some s13, none, (.mv (.t s8))⟩
    (.one ⟨some s14, none, (.bin false .neq (.t s13) (.c (.v (.int .i64 0))))⟩
    .done)))
  (.cond (.t s14) (.seq (.reg (.one ⟨some s15, none, (.mv (.t s8))⟩
    (.one ⟨some s6, none, (.mv (.c (.v (.int .i64 0))))⟩
    (.one ⟨some s7, none, (.mv (.t s15))⟩
    .done))))
  .ret) .skip)))
  (.seq (.seq (.reg (.one ⟨some s16, none, (.mv (.t s2))⟩
    (.one ⟨some s17, none, (.bin false .lss (.t s16) (.c (.v (.int .i64 (-65536)))))⟩
    (.one ⟨some s18, none, (.mv (.t s17))⟩
    (.one ⟨some s19, some (s18, false), (.mv (.t s2))⟩
    (.one ⟨some s20, some (s18, false), (.bin false .gtr (.t s19) (.c (.v (.int .i64 65536))))⟩
    (.one ⟨some s21, none, (.pick (.t s18) (.c (.v (.bool true))) (.t s20))⟩
    .done)))))))
  (.cond (.t s21) (.seq (.reg (.one ⟨some s6, none, (.mv (.c (.v (.int .i64 0))))⟩
    (.one ⟨some s7, none, (.mv (.c (.v (.int .i64 1))))⟩
    .done)))
  .ret) .skip))
  (.seq (.reg (.one ⟨some s22, none, (.mv (.t s1))⟩
    (.one ⟨some s23, none, (.mv (.t s2))⟩
    (.one ⟨some s24, none, (.bin false .add (.t s22) (.t s23))⟩
    (.one ⟨some s25, none, (.bin false .add (.t s24) (.c (.v (.int .i64 65536))))⟩
    (.one ⟨some s26, none, (.load (some 1) (.t s3))⟩
    (.one ⟨some s27, none, (.callq 80 [(.t s26)])⟩
    (.one ⟨some s28, none, (.bin false .sub (.t s27) (.c (.v (.int .i64 1))))⟩
    (.one ⟨some s29, none, (.bin false .and (.t s25) (.t s28))⟩
    (.one ⟨some s6, none, (.mv (.t s29))⟩
    (.one ⟨some s7, none, (.mv (.c (.v (.int .i64 0))))⟩
    .done)))))))))))
  .ret))))⟩
theorem ok120 : compF Try.prog c120 Try.f120 = some ir120 := by kernel_rfl
theorem k_seqnum_Space_Go {args : List AVal} {σ : AHeap} {Q : AVal → AHeap → Prop} (hl : Nat.ble args.length 30 = true) (h : argsK (Env.full 9) 0 args fun env => evC Try.prog c120 ir120.body env σ (retQ ir120 Q)) : ACalls Try.prog 120 args σ Q :=
  acalls_of Try.func120 ok120 rfl (Nat.le_of_ble_eq_true hl) h
/- seqnum.Space).ask -/
def c121 : Cfg := ⟨qs, [], 22, [], ps⟩
def ir121 : IFun := ⟨2, [.tmp s4],
  (.seq (.reg (.one ⟨some s2, none, (.box 1 (.t s0))⟩
    (.one ⟨some s4, none, (.mv (.c (.v (.int .i64 0))))⟩
    .done)))
  (.scope (.seq (.seq (.reg (.one ⟨some s6, none, (.load (some 1) (.t s2))⟩
    (.one ⟨some s7, none, (.callq 79 [(.t s6)])⟩
    (.one ⟨some s8, none, (.not (.t s7))⟩
    .done))))
  (.cond (.t s8) (.seq (.reg (.one ⟨some s4, none, (.mv (.c (.v (.int .i64 3))))⟩
    .done))
  .ret) .skip))
  (.seq (.reg (.one ⟨some s5, none, (.mv (.c (.v (.int .i64 0))))⟩
    .done))
  (.seq (.label 0)
  (.seq (.seq (.reg (.one ⟨some s9, none, (.mv (.t s5))⟩
    (.one ⟨some s10, none, (.mv (.t s1))⟩
    (.one ⟨some s11, none, (.len false (.t s10))⟩
    (.one ⟨some s12, none, (.bin false .lss (.t s9) (.t s11))⟩
    .done)))))
  (.cond (.t s12) (.seq (.seq (.reg (.one ⟨some s13, none, (.load (some 1) (.t s2))⟩
    (.one ⟨some s14, none, (.mv (.t s1))⟩
    (.one ⟨some s15, none, (.mv (.t s5))⟩
    (.one ⟨some s16, none, (.iaddr 1 (.t s14) (.t s15))⟩
    (.one ⟨some s17, none, (.load none (.t s16))⟩
    (.one ⟨some s18, none, (.callq 106 [(.t s13), (.t s17)])⟩
    (.one ⟨some s19, none, (.not (.t s18))⟩
    .done))))))))
  (.cond (.t s19) (.seq (.reg (.one ⟨some s4, none, (.mv (.c (.v (.int .i64 1))))⟩
    .done))
  .ret) .skip))
  (.seq (.reg (.one ⟨some s20, none, (.mv (.t s5))⟩
    (.one ⟨some s21, none, (.bin false .add (.t s20) (.c (.v (.int .i64 1))))⟩
    (.one ⟨some s5, none, (.mv (.t s21))⟩
    .done))))
  (.goto 0))) .skip))
  (.seq (.reg (.one ⟨some s4, none, (.mv (.c (.v (.int .i64 0))))⟩
    .done))
  .ret)))))))⟩
theorem ok121 : compF Try.prog c121 Try.f121 = some ir121 := by kernel_rfl
theorem k_seqnum_Space_ask {args : List AVal} {σ : AHeap} {Q : AVal → AHeap → Prop} (hl : Nat.ble args.length 22 = true) (h : argsK (Env.full 9) 0 args fun env => evC Try.prog c121 ir121.body env σ (retQ ir121 Q)) : ACalls Try.prog 121 args σ Q :=
  acalls_of Try.func121 ok121 rfl (Nat.le_of_ble_eq_true hl) h
end Go.Proofs.Ytnfdgccmpglbhaa
/-
  The bodies of one package, compiled to the framework's language (printed by a program of this session).
-/
namespace Go.Proofs.Ytnfdgccmpglbhaa
set_option linter.unusedVariables false
set_option linter.unusedSimpArgs false
open Go Go.Am
/- bowlineref02.Size -/
def c36 : Cfg := ⟨qs, [], 19, [], ps⟩
def ir36 : IFun := ⟨1, [.tmp s2],
  (.seq (.reg (.one ⟨some s2, none, (.mv (.c (.v (.int .i64 0))))⟩
    .done))
  (.seq (.seq (.reg (.one ⟨some s5, none, (.mv (.t s0))⟩
    (.one ⟨some s6, none, (.bin false .lss (.t s5) (.c (.v (.int .i64 1))))⟩
    (.one ⟨some s7, none, (.mv (.t s6))⟩
    (.one ⟨some s8, some (s7, false), (.mv (.t s0))⟩
    (.one ⟨some s9, some (s7, false), (.bin false .gtr (.t s8) (.c (.v (.int .i64 16))))⟩
    (.one ⟨some s10, none, (.pick (.t s7) (.c (.v (.bool true))) (.t s9))⟩
    .done)))))))
  (.cond (.t s10) (.seq (.reg (.one ⟨some s2, none, (.mv (.c (.v (.int .i64 0))))⟩
    .done))
  .ret) .skip))
  (.seq (.reg (.one ⟨some s3, none, (.mv (.c (.v (.int .i64 1))))⟩
    .done))
  (.seq (.seq (.reg (.one ⟨some s4, none, (.mv (.c (.v (.int .i64 0))))⟩
    .done))
  (.block 0 (.loop (.seq (.seq (.reg (.one ⟨some s11, none, (.mv (.t s4))⟩
    (.one ⟨some s12, none, (.mv (.t s0))⟩
    (.one ⟨some s13, none, (.bin false .lss (.t s11) (.t s12))⟩
    .done))))
  (.cond (.t s13) .skip (.exit 0)))
  (.seq (.block 1 (.reg (.one ⟨some s16, none, (.mv (.t s3))⟩
    (.one ⟨some s17, none, (.bin false .mul (.c (.v (.int .i64 2))) (.t s16))⟩
    (.one ⟨some s3, none, (.mv (.t s17))⟩
    .done)))))
  (.reg (.one ⟨some s14, none, (.mv (.t s4))⟩
    (.one ⟨some s15, none, (.bin false .add (.t s14) (.c (.v (.int .i64 1))))⟩
    (.one ⟨some s4, none, (.mv (.t s15))⟩
    .done)))))))))
  (.seq (.reg (.one ⟨some s18, none, (.mv (.t s3))⟩
    (.one ⟨some s2, none, (.mv (.t s18))⟩
    .done)))
  .ret)))))⟩
theorem ok36 : compF Try.prog c36 Try.f36 = some ir36 := by kernel_rfl
theorem k_bowlineref02_Size {args : List AVal} {σ : AHeap} {Q : AVal → AHeap → Prop} (hl : Nat.ble args.length 19 = true) (h : argsK (Env.full 9) 0 args fun env => evC Try.prog c36 ir36.body env σ (retQ ir36 Q)) : ACalls Try.prog 36 args σ Q :=
  acalls_of Try.func36 ok36 rfl (Nat.le_of_ble_eq_true hl) h
/- bowlineref02.Is -/
def c89 : Cfg := ⟨qs, [], 13, [], ps⟩
def ir89 : IFun := ⟨2, [.tmp s4],
  (.seq (.reg (.one ⟨some s4, none, (.mv (.c (.v (.bool false))))⟩
    .done))
  (.seq (.reg (.one ⟨some s5, none, (.mv (.t s1))⟩
    (.one ⟨some s6, none, (.bin false .geq (.t s5) (.c (.v (.int .i64 0))))⟩
    (.one ⟨some s7, none, (.mv (.t s6))⟩
    (.one ⟨some s8, some (s7, true), (.mv (.t s1))⟩
    (.one ⟨some s9, some (s7, true), (.mv (.t s0))⟩
    (.one ⟨some s10, some (s7, true), (.callq 36 [(.t s9)])⟩
    (.one ⟨some s11, some (s7, true), (.bin false .lss (.t s8) (.t s10))⟩
    (.one ⟨some s12, none, (.pick (.t s7) (.t s11) (.c (.v (.bool false))))⟩
    (.one ⟨some s4, none, (.mv (.t s12))⟩
    .done))))))))))
  .ret))⟩
theorem ok89 : compF Try.prog c89 Try.f89 = some ir89 := by kernel_rfl
theorem k_bowlineref02_Is {args : List AVal} {σ : AHeap} {Q : AVal → AHeap → Prop} (hl : Nat.ble args.length 13 = true) (h : argsK (Env.full 9) 0 args fun env => evC Try.prog c89 ir89.body env σ (retQ ir89 Q)) : ACalls Try.prog 89 args σ Q :=
  acalls_of Try.func89 ok89 rfl (Nat.le_of_ble_eq_true hl) h
/- bowlineref02.Far -/
def c90 : Cfg := ⟨qs, [], 27, [], ps⟩
def ir90 : IFun := ⟨3, [.tmp s6, .tmp s7],
  (.seq (.reg (.one ⟨some s6, none, (.mv (.c (.v (.int .i64 0))))⟩
    (.one ⟨some s7, none, (.mv (.c (.v (.int .i64 0))))⟩
    .done)))
  (.seq (.seq (.reg (.one ⟨some s8, none, (.mv (.t s0))⟩
    (.one ⟨some s9, none, (.callq 36 [(.t s8)])⟩
    (.one ⟨some s10, none, (.bin false .eql (.t s9) (.c (.v (.int .i64 0))))⟩
    .done))))
  (.cond (.t s10) (.seq (.reg (.one ⟨some s6, none, (.mv (.c (.v (.int .i64 0))))⟩
    (.one ⟨some s7, none, (.mv (.c (.v (.int .i64 3))))⟩
    .done)))
  .ret) .skip))
  (.seq (.seq (.reg (.one ⟨some s11, none, (.mv (.t s0))⟩
    (.one ⟨some s12, none, (.mv (.t s1))⟩
    (.one ⟨some s13, none, (.callq 89 [(.t s11), (.t s12)])⟩
    (.one ⟨some s14, none, (.not (.t s13))⟩
    (.one ⟨some s15, none, (.mv (.t s14))⟩
    (.one ⟨some s16, some (s15, false), (.mv (.t s0))⟩
    (.one ⟨some s17, some (s15, false), (.mv (.t s2))⟩
    (.one ⟨some s18, some (s15, false), (.callq 89 [(.t s16), (.t s17)])⟩
    (.one ⟨some s19, some (s15, false), (.not (.t s18))⟩
    (.one ⟨some s20, none, (.pick (.t s15) (.c (.v (.bool true))) (.t s19))⟩
    .done)))))))))))
  (.cond (.t s20) (.seq (.reg (.one ⟨some s6, none, (.mv (.c (.v (.int .i64 0))))⟩
    (.one ⟨some s7, none, (.mv (.c (.v (.int .i64 1))))⟩
    .done)))
  .ret) .skip))
  (.seq (.reg (.one ⟨some s21, none, (.mv (.t s2))⟩
    (.one ⟨some s22, none, (.mv (.t s1))⟩
    (.one ⟨some s23, none, (.bin false .sub (.t s21) (.t s22))⟩
    (.one ⟨some s24, none, (.mv (.t s0))⟩
    (.one ⟨some s25, none, (.callq 36 [(.t s24)])⟩
    (.one ⟨some s26, none, (.callq 122 [(.t s23), (.t s25)])⟩
    (.one ⟨some s6, none, (.mv (.t s26))⟩
    (.one ⟨some s7, none, (.mv (.c (.v (.int .i64 0))))⟩
    .done)))))))))
  .ret))))⟩
theorem ok90 : compF Try.prog c90 Try.f90 = some ir90 := by kernel_rfl
theorem k_bowlineref02_Far {args : List AVal} {σ : AHeap} {Q : AVal → AHeap → Prop} (hl : Nat.ble args.length 27 = true) (h : argsK (Env.full 9) 0 args fun env => evC Try.prog c90 ir90.body env σ (retQ ir90 Q)) : ACalls Try.prog 90 args σ Q :=
  acalls_of Try.func90 ok90 rfl (Nat.le_of_ble_eq_true hl) h
/- bowlineref02.mod -/
def c122 : Cfg := ⟨qs, [], 14, [], ps⟩
def ir122 : IFun := ⟨2, [.tmp s4],
  (.seq (.reg (.one ⟨some s4, none, (.mv (.c (.v (.int .i64 0))))⟩
    .done))
  (.seq (.reg (.one ⟨some s5, none, (.mv (.t s0))⟩
    (.one ⟨some s6, none, (.mv (.t s1))⟩
    (.one ⟨some s7, none, (.bin false .rem (.t s5) (.t s6))⟩
    (.one ⟨some s0, none, (.mv (.t s7))⟩
    .done)))))
  (.seq (.seq (.reg (.one ⟨some s8, none, (.mv (.t s0))⟩
    (.one ⟨some s9, none, (.bin false .lss (.t s8) (.c (.v (.int .i64 0))))⟩
    .done)))
  (.cond (.t s9) (.reg (.one ⟨some s10, none, (.mv (.t s0))⟩
    (.one ⟨some s11, none, (.mv (.t s1))⟩
    (.one ⟨some s12, none, (.bin false .add (.t s10) (.t s11))⟩
    (.one ⟨some s0, none, (.mv (.t s12))⟩
    .done))))) .skip))
  (.seq (.reg (.one ⟨some s13, none, (.mv (.t s0))⟩
    (.one ⟨some s4, none, (.mv (.t s13))⟩
    .done)))
  .ret))))⟩
theorem ok122 : compF Try.prog c122 Try.f122 = some ir122 := by kernel_rfl
theorem k_bowlineref02_mod {args : List AVal} {σ : AHeap} {Q : AVal → AHeap → Prop} (hl : Nat.ble args.length 14 = true) (h : argsK (Env.full 9) 0 args fun env => evC Try.prog c122 ir122.body env σ (retQ ir122 Q)) : ACalls Try.prog 122 args σ Q :=
  acalls_of Try.func122 ok122 rfl (Nat.le_of_ble_eq_true hl) h
end Go.Proofs.Ytnfdgccmpglbhaa
/-
  The bodies of one package, compiled to the framework's language (printed by a program of this session).
-/
namespace Go.Proofs.Ytnfdgccmpglbhaa
set_option linter.unusedVariables false
set_option linter.unusedSimpArgs false
open Go Go.Am
/- rxwin.New -/
def c26 : Cfg := ⟨qs, [], 28, [], ps⟩
def ir26 : IFun := ⟨2, [.tmp s4, .tmp s5],
  (.seq (.reg (.one ⟨some s4, none, (.mv (.c (.v (.pointer none))))⟩
    (.one ⟨some s5, none, (.mv (.c (.v (.int .i64 0))))⟩
    .done)))
  (.seq (.reg (.one ⟨some s7, none, (.mv (.t s0))⟩
    (.one ⟨some s8, none, (.build [(.v (.int .i64 0))] [(0, 1, (.t s7))])⟩
    (.one ⟨some s6, none, (.new [(.v (.int .i64 0))])⟩
    (.one ⟨none, none, (.store 1 (.t s6) (.t s8))⟩
    .done)))))
  (.seq (.seq (.reg (.one ⟨some s9, none, (.load (some 1) (.t s6))⟩
    (.one ⟨some s10, none, (.callq 79 [(.t s9)])⟩
    (.one ⟨some s11, none, (.not (.t s10))⟩
    (.one ⟨some s12, none, (.mv (.t s11))⟩
    (.one ⟨some s13, some (s12, false), (.mv (.t s1))⟩
    (.one ⟨some s14, some (s12, false), (.bin false .lss (.t s13) (.c (.v (.int .i64 1))))⟩
    (.one ⟨some s15, none, (.pick (.t s12) (.c (.v (.bool true))) (.t s14))⟩
    (.one ⟨some s16, none, (.mv (.t s15))⟩
    (.one ⟨some s17, some (s16, false), (.mv (.t s1))⟩
    (.one ⟨some s18, some (s16, false), (.load (some 1) (.t s6))⟩
    (.one ⟨some s19, some (s16, false), (.callq 80 [(.t s18)])⟩
    (.one ⟨some s20, some (s16, false), (.bin false .quo (.t s19) (.c (.v (.int .i64 2))))⟩
    (.one ⟨some s21, some (s16, false), (.bin false .gtr (.t s17) (.t s20))⟩
    (.one ⟨some s22, none, (.pick (.t s16) (.c (.v (.bool true))) (.t s21))⟩
    .done)))))))))))))))
  (.cond (.t s22) (.seq (.reg (.one ⟨some s4, none, (.mv (.c (.v (.pointer none))))⟩
    (.one ⟨some s5, none, (.mv (.c (.v (.int .i64 1))))⟩
    .done)))
  .ret) .skip))
  (.seq (.reg (.one ⟨some s23, none, (.load (some 1) (.t s6))⟩
    (.one ⟨some s24, none, (.mv (.t s1))⟩
    (.one ⟨some s25, none, .mkmap⟩
    (.one ⟨some s26, none, (.build [(.v (.int .i64 0)), (.v (.int .i64 0)), (.v (.int .i64 0)), (.v (.int .i64 0)), (.v (.int .i64 0)), (.v (.map none))] [(0, 1, (.t s23)), (1, 1, (.t s24)), (5, 1, (.t s25))])⟩
    (.one ⟨some s27, none, (.box 6 (.t s26))⟩
    (.one ⟨some s4, none, (.mv (.t s27))⟩
    (.one ⟨some s5, none, (.mv (.c (.v (.int .i64 0))))⟩
    .done))))))))
  .ret))))⟩
theorem ok26 : compF Try.prog c26 Try.f26 = some ir26 := by kernel_rfl
theorem k_rxwin_New {args : List AVal} {σ : AHeap} {Q : AVal → AHeap → Prop} (hl : Nat.ble args.length 28 = true) (h : argsK (Env.full 9) 0 args fun env => evC Try.prog c26 ir26.body env σ (retQ ir26 Q)) : ACalls Try.prog 26 args σ Q :=
  acalls_of Try.func26 ok26 rfl (Nat.le_of_ble_eq_true hl) h
/- rxwin.Window).Came -/
def c28 : Cfg := ⟨qs, [], 30, [], ps⟩
def ir28 : IFun := ⟨2, [.tmp s4],
  (.seq (.reg (.one ⟨some s4, none, (.mv (.c (.v (.int .i64 0))))⟩
    .done))
  (.seq (.reg (.one ⟨some s6, none, (.mv (.t s0))⟩
    (.one ⟨some s7, none, (.mv (.t s1))⟩
    (.one ⟨some s8, none, (.callq 81 [(.t s6), (.t s7)])⟩
    (.one ⟨some s5, none, (.mv (.t s8))⟩
    .done)))))
  (.seq (.seq (.reg (.one ⟨some s9, none, (.mv (.t s5))⟩
    (.one ⟨some s10, none, (.bin false .eql (.t s9) (.c (.v (.int .i64 0))))⟩
    (.one ⟨some s11, none, (.mv (.t s10))⟩
    (.one ⟨some s12, some (s11, true), (.mv (.t s0))⟩
    (.one ⟨some s13, some (s11, true), (.mv (.t s1))⟩
    (.one ⟨some s15, some (s11, true), (.mv (.t s0))⟩
    (.one ⟨some s16, some (s11, true), (.mv (.t s0))⟩
    (.one ⟨some s17, some (s11, true), (.nilchk (.t s16))⟩
    (.one ⟨some s18, some (s11, true), (.faddr 4 (.t s17))⟩
    (.one ⟨some s19, some (s11, true), (.load none (.t s18))⟩
    (.one ⟨some s14, some (s11, true), (.callq 32 [(.t s12), (.t s13)])⟩
    (.one ⟨some s20, some (s11, true), (.callq 32 [(.t s15), (.t s19)])⟩
    (.one ⟨some s21, some (s11, true), (.bin false .geq (.t s14) (.t s20))⟩
    (.one ⟨some s22, none, (.pick (.t s11) (.t s21) (.c (.v (.bool false))))⟩
    .done)))))))))))))))
  (.cond (.t s22) (.reg (.one ⟨some s23, none, (.mv (.t s0))⟩
    (.one ⟨some s24, none, (.mv (.t s0))⟩
    (.one ⟨some s25, none, (.mv (.t s1))⟩
    (.one ⟨some s26, none, (.callq 82 [(.t s24), (.t s25)])⟩
    (.one ⟨some s27, none, (.nilchk (.t s23))⟩
    (.one ⟨some s28, none, (.faddr 4 (.t s27))⟩
    (.one ⟨none, none, (.store 1 (.t s28) (.t s26))⟩
    .done)))))))) .skip))
  (.seq (.reg (.one ⟨some s29, none, (.mv (.t s5))⟩
    (.one ⟨some s4, none, (.mv (.t s29))⟩
    .done)))
  .ret))))⟩
theorem ok28 : compF Try.prog c28 Try.f28 = some ir28 := by kernel_rfl
theorem k_rxwin_Window_Came {args : List AVal} {σ : AHeap} {Q : AVal → AHeap → Prop} (hl : Nat.ble args.length 30 = true) (h : argsK (Env.full 9) 0 args fun env => evC Try.prog c28 ir28.body env σ (retQ ir28 Q)) : ACalls Try.prog 28 args σ Q :=
  acalls_of Try.func28 ok28 rfl (Nat.le_of_ble_eq_true hl) h
/- rxwin.Window).Whole -/
def c29 : Cfg := ⟨qs, [], 93, [], ps⟩
def ir29 : IFun := ⟨2, [.tmp s4, .tmp s5],
  (.seq (.reg (.one ⟨some s4, none, (.mv (.c (.slice 1 [] .full)))⟩
    (.one ⟨some s5, none, (.mv (.c (.v (.int .i64 0))))⟩
    .done)))
  (.seq (.seq (.reg (.one ⟨some s9, none, (.mv (.t s0))⟩
    (.one ⟨some s10, none, (.mv (.t s1))⟩
    (.one ⟨some s11, none, (.callq 81 [(.t s9), (.t s10)])⟩
    (.one ⟨some s6, none, (.mv (.t s11))⟩
    .done)))))
  (.seq (.reg (.one ⟨some s12, none, (.mv (.t s6))⟩
    (.one ⟨some s13, none, (.bin false .neq (.t s12) (.c (.v (.int .i64 0))))⟩
    .done)))
  (.cond (.t s13) (.seq (.reg (.one ⟨some s14, none, (.mv (.t s6))⟩
    (.one ⟨some s4, none, (.mv (.c (.slice 1 [] .full)))⟩
    (.one ⟨some s5, none, (.mv (.t s14))⟩
    .done))))
  .ret) .skip)))
  (.seq (.seq (.reg (.one ⟨some s15, none, (.mv (.t s0))⟩
    (.one ⟨some s16, none, (.nilchk (.t s15))⟩
    (.one ⟨some s17, none, (.faddr 5 (.t s16))⟩
    (.one ⟨some s18, none, (.load none (.t s17))⟩
    (.one ⟨some s19, none, (.mv (.t s1))⟩
    (.one ⟨some s20, none, (.look (.v (.bool false)) (.t s18) (.t s19))⟩
    .done)))))))
  (.cond (.t s20) (.seq (.reg (.one ⟨some s4, none, (.mv (.c (.slice 1 [] .full)))⟩
    (.one ⟨some s5, none, (.mv (.c (.v (.int .i64 12))))⟩
    .done)))
  .ret) .skip))
  (.seq (.reg (.one ⟨some s21, none, (.mv (.t s0))⟩
    (.one ⟨some s22, none, (.mv (.t s1))⟩
    (.one ⟨some s23, none, (.call 28 [(.t s21), (.t s22)])⟩
    .done))))
  (.seq (.reg (.one ⟨some s24, none, (.mv (.t s0))⟩
    (.one ⟨some s25, none, (.nilchk (.t s24))⟩
    (.one ⟨some s26, none, (.faddr 5 (.t s25))⟩
    (.one ⟨some s27, none, (.load none (.t s26))⟩
    (.one ⟨some s28, none, (.mv (.t s1))⟩
    (.one ⟨none, none, (.mset (.t s27) (.t s28) (.c (.v (.bool true))))⟩
    .done)))))))
  (.seq (.reg (.one ⟨some s29, none, (.mv (.t s0))⟩
    (.one ⟨some s30, none, (.mv (.t s0))⟩
    (.one ⟨some s31, none, (.mv (.t s0))⟩
    (.one ⟨some s32, none, (.nilchk (.t s31))⟩
    (.one ⟨some s33, none, (.faddr 3 (.t s32))⟩
    (.one ⟨some s34, none, (.load none (.t s33))⟩
    (.one ⟨some s35, none, (.callq 83 [(.t s30), (.t s34)])⟩
    (.one ⟨some s36, none, (.nilchk (.t s29))⟩
    (.one ⟨some s37, none, (.faddr 3 (.t s36))⟩
    (.one ⟨none, none, (.store 1 (.t s37) (.t s35))⟩
    .done)))))))))))
  (.seq (.reg (.one ⟨some s38, none, (.mv (.t s0))⟩
    (.one ⟨some s39, none, (.mv (.t s0))⟩
    (.one ⟨some s40, none, (.nilchk (.t s39))⟩
    (.one ⟨some s41, none, (.faddr 2 (.t s40))⟩
    (.one ⟨some s42, none, (.load none (.t s41))⟩
    (.one ⟨some s43, none, (.callq 83 [(.t s38), (.t s42)])⟩
    (.one ⟨some s7, none, (.mv (.t s43))⟩
    .done))))))))
  (.seq (.reg (.one ⟨some s8, none, (.mv (.c (.slice 1 [] .full)))⟩
    .done))
  (.seq (.block 0 (.loop (.seq (.seq (.reg (.one ⟨some s44, none, (.mv (.t s0))⟩
    (.one ⟨some s45, none, (.nilchk (.t s44))⟩
    (.one ⟨some s46, none, (.faddr 2 (.t s45))⟩
    (.one ⟨some s47, none, (.load none (.t s46))⟩
    (.one ⟨some s48, none, (.mv (.t s7))⟩
    (.one ⟨some s49, none, (.bin false .neq (.t s47) (.t s48))⟩
    .done)))))))
  (.cond (.t s49) .skip (.exit 0)))
  (.block 1 (.seq (.reg (.one ⟨some s50, none, (.mv (.t s8))⟩
    (.one ⟨some s51, none, (.mv (.t s0))⟩
    (.one ⟨some s52, none, (.nilchk (.t s51))⟩
    (.one ⟨some s53, none, (.faddr 2 (.t s52))⟩
    (.one ⟨some s54, none, (.load none (.t s53))⟩
    (.one ⟨some s55, none, (.row 1 [(.t s54)])⟩
    (.one ⟨some s56, none, (.app 1 8 (.t s50) (.t s55))⟩
    (.one ⟨some s8, none, (.mv (.t s56))⟩
    .done)))))))))
  (.seq (.reg (.one ⟨some s57, none, (.mv (.t s0))⟩
    (.one ⟨some s58, none, (.nilchk (.t s57))⟩
    (.one ⟨some s59, none, (.faddr 5 (.t s58))⟩
    (.one ⟨some s60, none, (.load none (.t s59))⟩
    (.one ⟨some s61, none, (.mv (.t s0))⟩
    (.one ⟨some s62, none, (.nilchk (.t s61))⟩
    (.one ⟨some s63, none, (.faddr 2 (.t s62))⟩
    (.one ⟨some s64, none, (.load none (.t s63))⟩
    (.one ⟨none, none, (.mdel (.t s60) (.t s64))⟩
    .done))))))))))
  (.seq (.seq (.reg (.one ⟨some s65, none, (.mv (.t s0))⟩
    (.one ⟨some s66, none, (.nilchk (.t s65))⟩
    (.one ⟨some s67, none, (.faddr 3 (.t s66))⟩
    (.one ⟨some s68, none, (.load none (.t s67))⟩
    (.one ⟨some s69, none, (.mv (.t s0))⟩
    (.one ⟨some s70, none, (.nilchk (.t s69))⟩
    (.one ⟨some s71, none, (.faddr 2 (.t s70))⟩
    (.one ⟨some s72, none, (.load none (.t s71))⟩
    (.one ⟨some s73, none, (.bin false .eql (.t s68) (.t s72))⟩
    .done))))))))))
  (.cond (.t s73) (.reg (.one ⟨some s74, none, (.mv (.t s0))⟩
    (.one ⟨some s75, none, (.mv (.t s0))⟩
    (.one ⟨some s76, none, (.mv (.t s0))⟩
    (.one ⟨some s77, none, (.nilchk (.t s76))⟩
    (.one ⟨some s78, none, (.faddr 2 (.t s77))⟩
    (.one ⟨some s79, none, (.load none (.t s78))⟩
    (.one ⟨some s80, none, (.callq 82 [(.t s75), (.t s79)])⟩
    (.one ⟨some s81, none, (.nilchk (.t s74))⟩
    (.one ⟨some s82, none, (.faddr 3 (.t s81))⟩
    (.one ⟨none, none, (.store 1 (.t s82) (.t s80))⟩
    .done))))))))))) .skip))
  (.reg (.one ⟨some s83, none, (.mv (.t s0))⟩
    (.one ⟨some s84, none, (.mv (.t s0))⟩
    (.one ⟨some s85, none, (.mv (.t s0))⟩
    (.one ⟨some s86, none, (.nilchk (.t s85))⟩
    (.one ⟨some s87, none, (.faddr 2 (.t s86))⟩
    (.one ⟨some s88, none, (.load none (.t s87))⟩
    (.one ⟨some s89, none, (.callq 82 [(.t s84), (.t s88)])⟩
    (.one ⟨some s90, none, (.nilchk (.t s83))⟩
    (.one ⟨some s91, none, (.faddr 2 (.t s90))⟩
    (.one ⟨none, none, (.store 1 (.t s91) (.t s89))⟩
    .done))))))))))))))))))
  (.seq (.reg (.one ⟨some s92, none, (.mv (.t s8))⟩
    (.one ⟨some s4, none, (.mv (.t s92))⟩
    (.one ⟨some s5, none, (.mv (.c (.v (.int .i64 0))))⟩
    .done))))
  .ret))))))))))⟩
theorem ok29 : compF Try.prog c29 Try.f29 = some ir29 := by kernel_rfl
theorem k_rxwin_Window_Whole {args : List AVal} {σ : AHeap} {Q : AVal → AHeap → Prop} (hl : Nat.ble args.length 93 = true) (h : argsK (Env.full 9) 0 args fun env => evC Try.prog c29 ir29.body env σ (retQ ir29 Q)) : ACalls Try.prog 29 args σ Q :=
  acalls_of Try.func29 ok29 rfl (Nat.le_of_ble_eq_true hl) h
/- rxwin.Window).Late -/
def c30 : Cfg := ⟨qs, [], 41, [], ps⟩
def ir30 : IFun := ⟨2, [.tmp s4],
  (.seq (.reg (.one ⟨some s4, none, (.mv (.c (.v (.int .i64 0))))⟩
    .done))
  (.seq (.block 0 (.seq (.reg (.one ⟨some s6, none, (.mv (.t s0))⟩
    (.one ⟨some s7, none, (.callq 84 [(.t s6)])⟩
    (.one ⟨some s8, none, (.not (.t s7))⟩
    (.one ⟨some s5, none, (.mv (.t s8))⟩
    .done)))))
  (.cond (.t s5) (.seq (.reg (.one ⟨some s4, none, (.mv (.c (.v (.int .i64 6))))⟩
    .done))
  .ret) (.seq (.reg (.one ⟨some s10, none, (.mv (.t s0))⟩
    (.one ⟨some s11, none, (.mv (.t s1))⟩
    (.one ⟨some s12, none, (.callq 32 [(.t s10), (.t s11)])⟩
    (.one ⟨some s13, none, (.bin false .lss (.t s12) (.c (.v (.int .i64 0))))⟩
    (.one ⟨some s9, none, (.mv (.t s13))⟩
    .done))))))
  (.cond (.t s9) (.seq (.reg (.one ⟨some s4, none, (.mv (.c (.v (.int .i64 1))))⟩
    .done))
  .ret) (.seq (.reg (.one ⟨some s15, none, (.mv (.t s0))⟩
    (.one ⟨some s16, none, (.mv (.t s1))⟩
    (.one ⟨some s18, none, (.mv (.t s0))⟩
    (.one ⟨some s19, none, (.mv (.t s0))⟩
    (.one ⟨some s20, none, (.nilchk (.t s19))⟩
    (.one ⟨some s21, none, (.faddr 4 (.t s20))⟩
    (.one ⟨some s22, none, (.load none (.t s21))⟩
    (.one ⟨some s17, none, (.callq 32 [(.t s15), (.t s16)])⟩
    (.one ⟨some s23, none, (.callq 32 [(.t s18), (.t s22)])⟩
    (.one ⟨some s24, none, (.bin false .gtr (.t s17) (.t s23))⟩
    (.one ⟨some s14, none, (.mv (.t s24))⟩
    .done))))))))))))
  (.cond (.t s14) (.seq (.reg (.one ⟨some s4, none, (.mv (.c (.v (.int .i64 11))))⟩
    .done))
  .ret) .skip)))))))
  (.seq (.seq (.reg (.one ⟨some s25, none, (.mv (.t s0))⟩
    (.one ⟨some s26, none, (.mv (.t s1))⟩
    (.one ⟨some s28, none, (.mv (.t s0))⟩
    (.one ⟨some s29, none, (.mv (.t s0))⟩
    (.one ⟨some s30, none, (.nilchk (.t s29))⟩
    (.one ⟨some s31, none, (.faddr 3 (.t s30))⟩
    (.one ⟨some s32, none, (.load none (.t s31))⟩
    (.one ⟨some s27, none, (.callq 32 [(.t s25), (.t s26)])⟩
    (.one ⟨some s33, none, (.callq 32 [(.t s28), (.t s32)])⟩
    (.one ⟨some s34, none, (.bin false .geq (.t s27) (.t s33))⟩
    .done)))))))))))
  (.cond (.t s34) (.reg (.one ⟨some s35, none, (.mv (.t s0))⟩
    (.one ⟨some s36, none, (.mv (.t s0))⟩
    (.one ⟨some s37, none, (.mv (.t s1))⟩
    (.one ⟨some s38, none, (.callq 83 [(.t s36), (.t s37)])⟩
    (.one ⟨some s39, none, (.nilchk (.t s35))⟩
    (.one ⟨some s40, none, (.faddr 3 (.t s39))⟩
    (.one ⟨none, none, (.store 1 (.t s40) (.t s38))⟩
    .done)))))))) .skip))
  (.seq (.reg (.one ⟨some s4, none, (.mv (.c (.v (.int .i64 0))))⟩
    .done))
  .ret))))⟩
theorem ok30 : compF Try.prog c30 Try.f30 = some ir30 := by kernel_rfl
theorem k_rxwin_Window_Late {args : List AVal} {σ : AHeap} {Q : AVal → AHeap → Prop} (hl : Nat.ble args.length 41 = true) (h : argsK (Env.full 9) 0 args fun env => evC Try.prog c30 ir30.body env σ (retQ ir30 Q)) : ACalls Try.prog 30 args σ Q :=
  acalls_of Try.func30 ok30 rfl (Nat.le_of_ble_eq_true hl) h
/- rxwin.Window).State -/
def c31 : Cfg := ⟨qs, [], 20, [], ps⟩
def ir31 : IFun := ⟨1, [.cell s2 (some 3)],
  (.seq (.reg (.one ⟨some s2, none, (.new [(.v (.int .i64 0)), (.v (.int .i64 0)), (.v (.int .i64 0))])⟩
    .done))
  (.seq (.seq (.reg (.one ⟨some s3, none, (.mv (.t s0))⟩
    (.one ⟨some s4, none, (.callq 84 [(.t s3)])⟩
    (.one ⟨some s5, none, (.not (.t s4))⟩
    .done))))
  (.cond (.t s5) (.seq (.reg (.one ⟨some s6, none, (.build [(.v (.int .i64 0)), (.v (.int .i64 0)), (.v (.int .i64 0))] [])⟩
    (.one ⟨none, none, (.store 3 (.t s2) (.t s6))⟩
    .done)))
  .ret) .skip))
  (.seq (.reg (.one ⟨some s7, none, (.mv (.t s0))⟩
    (.one ⟨some s8, none, (.nilchk (.t s7))⟩
    (.one ⟨some s9, none, (.faddr 2 (.t s8))⟩
    (.one ⟨some s10, none, (.load none (.t s9))⟩
    (.one ⟨some s11, none, (.mv (.t s0))⟩
    (.one ⟨some s12, none, (.nilchk (.t s11))⟩
    (.one ⟨some s13, none, (.faddr 3 (.t s12))⟩
    (.one ⟨some s14, none, (.load none (.t s13))⟩
    (.one ⟨some s15, none, (.mv (.t s0))⟩
    (.one ⟨some s16, none, (.nilchk (.t s15))⟩
    (.one ⟨some s17, none, (.faddr 4 (.t s16))⟩
    (.one ⟨some s18, none, (.load none (.t s17))⟩
    (.one ⟨some s19, none, (.build [(.v (.int .i64 0)), (.v (.int .i64 0)), (.v (.int .i64 0))] [(0, 1, (.t s10)), (1, 1, (.t s14)), (2, 1, (.t s18))])⟩
    (.one ⟨none, none, (.store 3 (.t s2) (.t s19))⟩
    .done)))))))))))))))
  .ret)))⟩
theorem ok31 : compF Try.prog c31 Try.f31 = some ir31 := by kernel_rfl
theorem k_rxwin_Window_State {args : List AVal} {σ : AHeap} {Q : AVal → AHeap → Prop} (hl : Nat.ble args.length 20 = true) (h : argsK (Env.full 9) 0 args fun env => evC Try.prog c31 ir31.body env σ (retQ ir31 Q)) : ACalls Try.prog 31 args σ Q :=
  acalls_of Try.func31 ok31 rfl (Nat.le_of_ble_eq_true hl) h
/- rxwin.Window).Far -/
def c32 : Cfg := ⟨qs, [], 26, [], ps⟩
def ir32 : IFun := ⟨2, [.tmp s4],
  (.seq (.reg (.one ⟨some s4, none, (.mv (.c (.v (.int .i64 0))))⟩
    .done))
  (.seq (.seq (.reg (.one ⟨some s7, none, (.mv (.t s0))⟩
    (.one ⟨some s8, none, (.callq 84 [(.t s7)])⟩
    (.one ⟨some s9, none, (.not (.t s8))⟩
    .done))))
  (.cond (.t s9) (.seq (.reg (.one ⟨some s4, none, (.mv (.c (.v (.int .i64 0))))⟩
    .done))
  .ret) .skip))
  (.seq (.reg (.one ⟨some s11, none, (.mv (.t s0))⟩
    (.one ⟨some s12, none, (.nilchk (.t s11))⟩
    (.one ⟨some s13, none, (.faddr 0 (.t s12))⟩
    (.one ⟨some s14, none, (.load (some 1) (.t s13))⟩
    (.one ⟨some s15, none, (.mv (.t s0))⟩
    (.one ⟨some s16, none, (.nilchk (.t s15))⟩
    (.one ⟨some s17, none, (.faddr 2 (.t s16))⟩
    (.one ⟨some s18, none, (.load none (.t s17))⟩
    (.one ⟨some s19, none, (.mv (.t s1))⟩
    (.one ⟨some s20, none, (.callq 85 [(.t s14), (.t s18), (.t s19)])⟩
    (.one ⟨some s10, none, (.mv (.t s20))⟩
    (.one ⟨some s21, none, (.ext (.t s10) 0)⟩
    (.one ⟨some s22, none, (.ext (.t s10) 1)⟩
    (.one ⟨some s5, none, (.mv (.t s21))⟩
    (.one ⟨some s6, none, (.mv (.t s22))⟩
    .done))))))))))))))))
  (.seq (.seq (.reg (.one ⟨some s23, none, (.mv (.t s6))⟩
    (.one ⟨some s24, none, (.bin false .neq (.t s23) (.c (.v (.int .i64 0))))⟩
    .done)))
  (.cond (.t s24) (.seq (.reg (.one ⟨some s4, none, (.mv (.c (.v (.int .i64 (-1)))))⟩
    .done))
  .ret) .skip))
  (.seq (.reg (.one ⟨some s25, none, (.mv (.t s5))⟩
    (.one ⟨some s4, none, (.mv (.t s25))⟩
    .done)))
  .ret)))))⟩
theorem ok32 : compF Try.prog c32 Try.f32 = some ir32 := by kernel_rfl
theorem k_rxwin_Window_Far {args : List AVal} {σ : AHeap} {Q : AVal → AHeap → Prop} (hl : Nat.ble args.length 26 = true) (h : argsK (Env.full 9) 0 args fun env => evC Try.prog c32 ir32.body env σ (retQ ir32 Q)) : ACalls Try.prog 32 args σ Q :=
  acalls_of Try.func32 ok32 rfl (Nat.le_of_ble_eq_true hl) h
/- rxwin.Window).Is -/
def c33 : Cfg := ⟨qs, [], 16, [], ps⟩
def ir33 : IFun := ⟨2, [.tmp s4],
  (.seq (.reg (.one ⟨some s4, none, (.mv (.c (.v (.bool false))))⟩
    .done))
  (.seq (.reg (.one ⟨some s5, none, (.mv (.t s0))⟩
    (.one ⟨some s6, none, (.mv (.t s1))⟩
    (.one ⟨some s7, none, (.callp 35 [(.t s5), (.t s6)])⟩
    (.one ⟨some s8, none, (.mv (.t s7))⟩
    (.one ⟨some s9, some (s8, true), (.mv (.t s0))⟩
    (.one ⟨some s10, some (s8, true), (.nilchk (.t s9))⟩
    (.one ⟨some s11, some (s8, true), (.faddr 5 (.t s10))⟩
    (.one ⟨some s12, some (s8, true), (.load none (.t s11))⟩
    (.one ⟨some s13, some (s8, true), (.mv (.t s1))⟩
    (.one ⟨some s14, some (s8, true), (.look (.v (.bool false)) (.t s12) (.t s13))⟩
    (.one ⟨some s15, none, (.pick (.t s8) (.t s14) (.c (.v (.bool false))))⟩
    (.one ⟨some s4, none, (.mv (.t s15))⟩
    .done)))))))))))))
  .ret))⟩
theorem ok33 : compF Try.prog c33 Try.f33 = some ir33 := by kernel_rfl
theorem k_rxwin_Window_Is {args : List AVal} {σ : AHeap} {Q : AVal → AHeap → Prop} (hl : Nat.ble args.length 16 = true) (h : argsK (Env.full 9) 0 args fun env => evC Try.prog c33 ir33.body env σ (retQ ir33 Q)) : ACalls Try.prog 33 args σ Q :=
  acalls_of Try.func33 ok33 rfl (Nat.le_of_ble_eq_true hl) h
/- rxwin.Window).Missing -/
def c34 : Cfg := ⟨qs, [], 32, [], ps⟩
def ir34 : IFun := ⟨1, [.tmp s2],
  (.seq (.reg (.one ⟨some s2, none, (.mv (.c (.slice 1 [] .full)))⟩
    .done))
  (.seq (.reg (.one ⟨some s3, none, (.mv (.c (.slice 1 [] .full)))⟩
    .done))
  (.seq (.seq (.reg (.one ⟨some s5, none, (.mv (.t s0))⟩
    (.one ⟨some s6, none, (.callq 84 [(.t s5)])⟩
    .done)))
  (.cond (.t s6) (.seq (.reg (.one ⟨some s7, none, (.mv (.t s0))⟩
    (.one ⟨some s8, none, (.nilchk (.t s7))⟩
    (.one ⟨some s9, none, (.faddr 2 (.t s8))⟩
    (.one ⟨some s10, none, (.load none (.t s9))⟩
    (.one ⟨some s4, none, (.mv (.t s10))⟩
    .done))))))
  (.block 0 (.loop (.seq (.seq (.reg (.one ⟨some s11, none, (.mv (.t s4))⟩
    (.one ⟨some s12, none, (.mv (.t s0))⟩
    (.one ⟨some s13, none, (.nilchk (.t s12))⟩
    (.one ⟨some s14, none, (.faddr 3 (.t s13))⟩
    (.one ⟨some s15, none, (.load none (.t s14))⟩
    (.one ⟨some s16, none, (.bin false .neq (.t s11) (.t s15))⟩
    .done)))))))
  (.cond (.t s16) .skip (.exit 0)))
  (.seq (.block 1 (.seq (.reg (.one ⟨some s20, none, (.mv (.t s0))⟩
    (.one ⟨some s21, none, (.nilchk (.t s20))⟩
    (.one ⟨some s22, none, (.faddr 5 (.t s21))⟩
    (.one ⟨some s23, none, (.load none (.t s22))⟩
    (.one ⟨some s24, none, (.mv (.t s4))⟩
    (.one ⟨some s25, none, (.look (.v (.bool false)) (.t s23) (.t s24))⟩
    (.one ⟨some s26, none, (.not (.t s25))⟩
    .done))))))))
  (.cond (.t s26) (.reg (.one ⟨some s27, none, (.mv (.t s3))⟩
    (.one ⟨some s28, none, (.mv (.t s4))⟩
    (.one ⟨some s29, none, (.row 1 [(.t s28)])⟩
    (.one ⟨some s30, none, (.app 1 8 (.t s27) (.t s29))⟩
    (.one ⟨some s3, none, (.mv (.t s30))⟩
    .done)))))) .skip)))
  (.reg (.one ⟨some s17, none, (.mv (.t s0))⟩
    (.one ⟨some s18, none, (.mv (.t s4))⟩
    (.one ⟨some s19, none, (.callq 82 [(.t s17), (.t s18)])⟩
    (.one ⟨some s4, none, (.mv (.t s19))⟩
    .done)))))))))) .skip))
  (.seq (.reg (.one ⟨some s31, none, (.mv (.t s3))⟩
    (.one ⟨some s2, none, (.mv (.t s31))⟩
    .done)))
  .ret))))⟩
theorem ok34 : compF Try.prog c34 Try.f34 = some ir34 := by kernel_rfl
theorem k_rxwin_Window_Missing {args : List AVal} {σ : AHeap} {Q : AVal → AHeap → Prop} (hl : Nat.ble args.length 32 = true) (h : argsK (Env.full 9) 0 args fun env => evC Try.prog c34 ir34.body env σ (retQ ir34 Q)) : ACalls Try.prog 34 args σ Q :=
  acalls_of Try.func34 ok34 rfl (Nat.le_of_ble_eq_true hl) h
/- rxwin.Window).In -/
def c35 : Cfg := ⟨qs, [], 23, [], ps⟩
def ir35 : IFun := ⟨2, [.tmp s4],
  (.seq (.reg (.one ⟨some s4, none, (.mv (.c (.v (.bool false))))⟩
    .done))
  (.seq (.reg (.one ⟨some s5, none, (.mv (.t s0))⟩
    (.one ⟨some s6, none, (.callq 84 [(.t s5)])⟩
    (.one ⟨some s7, none, (.mv (.t s6))⟩
    (.one ⟨some s8, some (s7, true), (.mv (.t s0))⟩
    (.one ⟨some s9, some (s7, true), (.mv (.t s1))⟩
    (.one ⟨some s10, some (s7, true), (.callq 32 [(.t s8), (.t s9)])⟩
    (.one ⟨some s11, some (s7, true), (.bin false .geq (.t s10) (.c (.v (.int .i64 0))))⟩
    (.one ⟨some s12, none, (.pick (.t s7) (.t s11) (.c (.v (.bool false))))⟩
    (.one ⟨some s13, none, (.mv (.t s12))⟩
    (.one ⟨some s14, some (s13, true), (.mv (.t s0))⟩
    (.one ⟨some s15, some (s13, true), (.mv (.t s1))⟩
    (.one ⟨some s17, some (s13, true), (.mv (.t s0))⟩
    (.one ⟨some s18, some (s13, true), (.nilchk (.t s17))⟩
    (.one ⟨some s19, some (s13, true), (.faddr 1 (.t s18))⟩
    (.one ⟨some s20, some (s13, true), (.load none (.t s19))⟩
    (.one ⟨some s16, some (s13, true), (.callq 32 [(.t s14), (.t s15)])⟩
    (.one ⟨some s21, some (s13, true), (.bin false .lss (.t s16) (.t s20))⟩
    (.one ⟨some s22, none, (.pick (.t s13) (.t s21) (.c (.v (.bool false))))⟩
    (.one ⟨some s4, none, (.mv (.t s22))⟩
    .done))))))))))))))))))))
  .ret))⟩
theorem ok35 : compF Try.prog c35 Try.f35 = some ir35 := by kernel_rfl
theorem k_rxwin_Window_In {args : List AVal} {σ : AHeap} {Q : AVal → AHeap → Prop} (hl : Nat.ble args.length 23 = true) (h : argsK (Env.full 9) 0 args fun env => evC Try.prog c35 ir35.body env σ (retQ ir35 Q)) : ACalls Try.prog 35 args σ Q :=
  acalls_of Try.func35 ok35 rfl (Nat.le_of_ble_eq_true hl) h
/- rxwin.Window).Reset -/
def c41 : Cfg := ⟨qs, [], 17, [], ps⟩
def ir41 : IFun := ⟨1, [],
  (.seq (.reg (.one ⟨some s2, none, (.mv (.t s0))⟩
    (.one ⟨some s3, none, (.callq 84 [(.t s2)])⟩
    .done)))
  (.cond (.t s3) (.reg (.one ⟨some s4, none, (.mv (.t s0))⟩
    (.one ⟨some s5, none, (.mv (.t s0))⟩
    (.one ⟨some s6, none, (.mv (.t s0))⟩
    (.one ⟨some s7, none, (.mv (.t s0))⟩
    (.one ⟨some s8, none, .mkmap⟩
    (.one ⟨some s9, none, (.nilchk (.t s4))⟩
    (.one ⟨some s10, none, (.faddr 2 (.t s9))⟩
    (.one ⟨none, none, (.store 1 (.t s10) (.c (.v (.int .i64 0))))⟩
    (.one ⟨some s11, none, (.nilchk (.t s5))⟩
    (.one ⟨some s12, none, (.faddr 3 (.t s11))⟩
    (.one ⟨none, none, (.store 1 (.t s12) (.c (.v (.int .i64 0))))⟩
    (.one ⟨some s13, none, (.nilchk (.t s6))⟩
    (.one ⟨some s14, none, (.faddr 4 (.t s13))⟩
    (.one ⟨none, none, (.store 1 (.t s14) (.c (.v (.int .i64 0))))⟩
    (.one ⟨some s15, none, (.nilchk (.t s7))⟩
    (.one ⟨some s16, none, (.faddr 5 (.t s15))⟩
    (.one ⟨none, none, (.store 1 (.t s16) (.t s8))⟩
    .done)))))))))))))))))) .skip))⟩
theorem ok41 : compF Try.prog c41 Try.f41 = some ir41 := by kernel_rfl
theorem k_rxwin_Window_Reset {args : List AVal} {σ : AHeap} {Q : AVal → AHeap → Prop} (hl : Nat.ble args.length 17 = true) (h : argsK (Env.full 9) 0 args fun env => evC Try.prog c41 ir41.body env σ (retQ ir41 Q)) : ACalls Try.prog 41 args σ Q :=
  acalls_of Try.func41 ok41 rfl (Nat.le_of_ble_eq_true hl) h
/- rxwin.Window).ask -/
def c81 : Cfg := ⟨qs, [], 19, [], ps⟩
def ir81 : IFun := ⟨2, [.tmp s4],
  (.seq (.reg (.one ⟨some s4, none, (.mv (.c (.v (.int .i64 0))))⟩
    .done))
  (.seq (.block 0 (.seq (.reg (.one ⟨some s6, none, (.mv (.t s0))⟩
    (.one ⟨some s7, none, (.callq 84 [(.t s6)])⟩
    (.one ⟨some s8, none, (.not (.t s7))⟩
    (.one ⟨some s5, none, (.mv (.t s8))⟩
    .done)))))
  (.cond (.t s5) (.seq (.reg (.one ⟨some s4, none, (.mv (.c (.v (.int .i64 6))))⟩
    .done))
  .ret) (.seq (.reg (.one ⟨some s10, none, (.mv (.t s0))⟩
    (.one ⟨some s11, none, (.mv (.t s1))⟩
    (.one ⟨some s12, none, (.callq 32 [(.t s10), (.t s11)])⟩
    (.one ⟨some s13, none, (.bin false .lss (.t s12) (.c (.v (.int .i64 0))))⟩
    (.one ⟨some s9, none, (.mv (.t s13))⟩
    .done))))))
  (.cond (.t s9) (.seq (.reg (.one ⟨some s4, none, (.mv (.c (.v (.int .i64 1))))⟩
    .done))
  .ret) (.seq (.reg (.one ⟨some s15, none, (.mv (.t s0))⟩
    (.one ⟨some s16, none, (.mv (.t s1))⟩
    (.one ⟨some s17, none, (.callp 35 [(.t s15), (.t s16)])⟩
    (.one ⟨some s18, none, (.not (.t s17))⟩
    (.one ⟨some s14, none, (.mv (.t s18))⟩
    .done))))))
  (.cond (.t s14) (.seq (.reg (.one ⟨some s4, none, (.mv (.c (.v (.int .i64 11))))⟩
    .done))
  .ret) .skip)))))))
  (.seq (.reg (.one ⟨some s4, none, (.mv (.c (.v (.int .i64 0))))⟩
    .done))
  .ret)))⟩
theorem ok81 : compF Try.prog c81 Try.f81 = some ir81 := by kernel_rfl
theorem k_rxwin_Window_ask {args : List AVal} {σ : AHeap} {Q : AVal → AHeap → Prop} (hl : Nat.ble args.length 19 = true) (h : argsK (Env.full 9) 0 args fun env => evC Try.prog c81 ir81.body env σ (retQ ir81 Q)) : ACalls Try.prog 81 args σ Q :=
  acalls_of Try.func81 ok81 rfl (Nat.le_of_ble_eq_true hl) h
/- rxwin.Window).after -/
def c82 : Cfg := ⟨qs, [], 17, [], ps⟩
def ir82 : IFun := ⟨2, [.tmp s4],
  (.seq (.reg (.one ⟨some s4, none, (.mv (.c (.v (.int .i64 0))))⟩
    .done))
  (.seq (.reg (.one ⟨some s8, none, (.mv (.t s0))⟩
    (.one ⟨some s9, none, (.nilchk (.t s8))⟩
    (.one ⟨some s10, none, (.faddr 0 (.t s9))⟩
    (.one ⟨some s11, none, (.load (some 1) (.t s10))⟩
    (.one ⟨some s12, none, (.mv (.t s1))⟩
    (.one ⟨some s13, none, (.callq 120 [(.t s11), (.t s12), (.c (.v (.int .i64 1)))])⟩
    (.one ⟨some s7, none, (.mv (.t s13))⟩
    (.one ⟨some s14, none, (.ext (.t s7) 0)⟩
    (.one ⟨some s15, none, (.ext (.t s7) 1)⟩
    (.one ⟨some s5, none, (.mv (.t s14))⟩
    (.one ⟨some s6, none, (.mv (.t s15))⟩
    .done))))))))))))
  (.seq (.reg (.one ⟨some s16, none, (.mv (.t s5))⟩
    (.one ⟨some s4, none, (.mv (.t s16))⟩
    .done)))
  .ret)))⟩
theorem ok82 : compF Try.prog c82 Try.f82 = some ir82 := by kernel_rfl
theorem k_rxwin_Window_after {args : List AVal} {σ : AHeap} {Q : AVal → AHeap → Prop} (hl : Nat.ble args.length 17 = true) (h : argsK (Env.full 9) 0 args fun env => evC Try.prog c82 ir82.body env σ (retQ ir82 Q)) : ACalls Try.prog 82 args σ Q :=
  acalls_of Try.func82 ok82 rfl (Nat.le_of_ble_eq_true hl) h
/- rxwin.Window).skip -/
def c83 : Cfg := ⟨qs, [], 15, [], ps⟩
def ir83 : IFun := ⟨2, [.tmp s4],
  (.seq (.reg (.one ⟨some s4, none, (.mv (.c (.v (.int .i64 0))))⟩
    .done))
  (.seq (.block 0 (.loop (.seq (.seq (.reg (.one ⟨some s5, none, (.mv (.t s0))⟩
    (.one ⟨some s6, none, (.nilchk (.t s5))⟩
    (.one ⟨some s7, none, (.faddr 5 (.t s6))⟩
    (.one ⟨some s8, none, (.load none (.t s7))⟩
    (.one ⟨some s9, none, (.mv (.t s1))⟩
    (.one ⟨some s10, none, (.look (.v (.bool false)) (.t s8) (.t s9))⟩
    .done)))))))
  (.cond (.t s10) .skip (.exit 0)))
  (.block 1 (.reg (.one ⟨some s11, none, (.mv (.t s0))⟩
    (.one ⟨some s12, none, (.mv (.t s1))⟩
    (.one ⟨some s13, none, (.callq 82 [(.t s11), (.t s12)])⟩
    (.one ⟨some s1, none, (.mv (.t s13))⟩
    .done)))))))))
  (.seq (.reg (.one ⟨some s14, none, (.mv (.t s1))⟩
    (.one ⟨some s4, none, (.mv (.t s14))⟩
    .done)))
  .ret)))⟩
theorem ok83 : compF Try.prog c83 Try.f83 = some ir83 := by kernel_rfl
theorem k_rxwin_Window_skip {args : List AVal} {σ : AHeap} {Q : AVal → AHeap → Prop} (hl : Nat.ble args.length 15 = true) (h : argsK (Env.full 9) 0 args fun env => evC Try.prog c83 ir83.body env σ (retQ ir83 Q)) : ACalls Try.prog 83 args σ Q :=
  acalls_of Try.func83 ok83 rfl (Nat.le_of_ble_eq_true hl) h
/- rxwin.Window).made -/
def c84 : Cfg := ⟨qs, [], 12, [], ps⟩
def ir84 : IFun := ⟨1, [.tmp s2],
  (.seq (.reg (.one ⟨some s2, none, (.mv (.c (.v (.bool false))))⟩
    .done))
  (.seq (.reg (.one ⟨some s3, none, (.mv (.t s0))⟩
    (.one ⟨some s4, none, (.eqNil 1 true (.t s3))⟩
    (.one ⟨some s5, none, (.mv (.t s4))⟩
    (.one ⟨some s6, some (s5, true), (.mv (.t s0))⟩
    (.one ⟨some s7, some (s5, true), (.nilchk (.t s6))⟩
    (.one ⟨some s8, some (s5, true), (.faddr 5 (.t s7))⟩
    (.one ⟨some s9, some (s5, true), (.load none (.t s8))⟩
    (.one ⟨some s10, some (s5, true), (.eqNil 2 true (.t s9))⟩
    (.one ⟨some s11, none, (.pick (.t s5) (.t s10) (.c (.v (.bool false))))⟩
    (.one ⟨some s2, none, (.mv (.t s11))⟩
    .done)))))))))))
  .ret))⟩
theorem ok84 : compF Try.prog c84 Try.f84 = some ir84 := by kernel_rfl
theorem k_rxwin_Window_made {args : List AVal} {σ : AHeap} {Q : AVal → AHeap → Prop} (hl : Nat.ble args.length 12 = true) (h : argsK (Env.full 9) 0 args fun env => evC Try.prog c84 ir84.body env σ (retQ ir84 Q)) : ACalls Try.prog 84 args σ Q :=
  acalls_of Try.func84 ok84 rfl (Nat.le_of_ble_eq_true hl) h
end Go.Proofs.Ytnfdgccmpglbhaa
/-
  The bodies of one package, compiled to the framework's language (printed by a program of this session).
-/
namespace Go.Proofs.Ytnfdgccmpglbhaa
set_option linter.unusedVariables false
set_option linter.unusedSimpArgs false
open Go Go.Am
/- bowlineref23.Window).Came -/
def c37 : Cfg := ⟨qs, [], 39, [], ps⟩
def ir37 : IFun := ⟨2, [.tmp s4],
  (.seq (.reg (.one ⟨some s4, none, (.mv (.c (.v (.int .i64 0))))⟩
    .done))
  (.seq (.reg (.one ⟨some s6, none, (.mv (.t s0))⟩
    (.one ⟨some s7, none, (.mv (.t s1))⟩
    (.one ⟨some s8, none, (.callq 86 [(.t s6), (.t s7)])⟩
    (.one ⟨some s5, none, (.mv (.t s8))⟩
    .done)))))
  (.seq (.seq (.reg (.one ⟨some s9, none, (.mv (.t s5))⟩
    (.one ⟨some s10, none, (.bin false .eql (.t s9) (.c (.v (.int .i64 0))))⟩
    (.one ⟨some s11, none, (.mv (.t s10))⟩
    (.one ⟨some s12, some (s11, true), (.mv (.t s0))⟩
    (.one ⟨some s13, some (s11, true), (.nilchk (.t s12))⟩
    (.one ⟨some s14, some (s11, true), (.faddr 2 (.t s13))⟩
    (.one ⟨some s15, some (s11, true), (.load none (.t s14))⟩
    (.one ⟨some s16, some (s11, true), (.mv (.t s0))⟩
    (.one ⟨some s17, some (s11, true), (.mv (.t s1))⟩
    (.one ⟨some s20, some (s11, true), (.mv (.t s0))⟩
    (.one ⟨some s21, some (s11, true), (.nilchk (.t s20))⟩
    (.one ⟨some s22, some (s11, true), (.faddr 4 (.t s21))⟩
    (.one ⟨some s23, some (s11, true), (.load none (.t s22))⟩
    (.one ⟨some s18, some (s11, true), (.callq 45 [(.t s16), (.t s17)])⟩
    (.one ⟨some s19, some (s11, true), (.bin false .add (.t s15) (.t s18))⟩
    (.one ⟨some s24, some (s11, true), (.bin false .geq (.t s19) (.t s23))⟩
    (.one ⟨some s25, none, (.pick (.t s11) (.t s24) (.c (.v (.bool false))))⟩
    .done))))))))))))))))))
  (.cond (.t s25) (.reg (.one ⟨some s26, none, (.mv (.t s0))⟩
    (.one ⟨some s27, none, (.mv (.t s0))⟩
    (.one ⟨some s28, none, (.nilchk (.t s27))⟩
    (.one ⟨some s29, none, (.faddr 2 (.t s28))⟩
    (.one ⟨some s30, none, (.load none (.t s29))⟩
    (.one ⟨some s31, none, (.mv (.t s0))⟩
    (.one ⟨some s32, none, (.mv (.t s1))⟩
    (.one ⟨some s33, none, (.callq 45 [(.t s31), (.t s32)])⟩
    (.one ⟨some s34, none, (.bin false .add (.t s30) (.t s33))⟩
    (.one ⟨some s35, none, (.bin false .add (.t s34) (.c (.v (.int .i64 1))))⟩
    (.one ⟨some s36, none, (.nilchk (.t s26))⟩
    (.one ⟨some s37, none, (.faddr 4 (.t s36))⟩
    (.one ⟨none, none, (.store 1 (.t s37) (.t s35))⟩
    .done)))))))))))))) .skip))
  (.seq (.reg (.one ⟨some s38, none, (.mv (.t s5))⟩
    (.one ⟨some s4, none, (.mv (.t s38))⟩
    .done)))
  .ret))))⟩
theorem ok37 : compF Try.prog c37 Try.f37 = some ir37 := by kernel_rfl
theorem k_bowlineref23_Window_Came {args : List AVal} {σ : AHeap} {Q : AVal → AHeap → Prop} (hl : Nat.ble args.length 39 = true) (h : argsK (Env.full 9) 0 args fun env => evC Try.prog c37 ir37.body env σ (retQ ir37 Q)) : ACalls Try.prog 37 args σ Q :=
  acalls_of Try.func37 ok37 rfl (Nat.le_of_ble_eq_true hl) h
/- bowlineref23.Window).Whole -/
def c38 : Cfg := ⟨qs, [], 109, [], ps⟩
def ir38 : IFun := ⟨2, [.tmp s4, .tmp s5],
  (.seq (.reg (.one ⟨some s4, none, (.mv (.c (.slice 1 [] .full)))⟩
    (.one ⟨some s5, none, (.mv (.c (.v (.int .i64 0))))⟩
    .done)))
  (.seq (.reg (.one ⟨some s9, none, (.mv (.t s0))⟩
    (.one ⟨some s10, none, (.mv (.t s1))⟩
    (.one ⟨some s11, none, (.callq 86 [(.t s9), (.t s10)])⟩
    (.one ⟨some s6, none, (.mv (.t s11))⟩
    .done)))))
  (.seq (.seq (.reg (.one ⟨some s12, none, (.mv (.t s6))⟩
    (.one ⟨some s13, none, (.bin false .neq (.t s12) (.c (.v (.int .i64 0))))⟩
    .done)))
  (.cond (.t s13) (.seq (.reg (.one ⟨some s14, none, (.mv (.t s6))⟩
    (.one ⟨some s4, none, (.mv (.c (.slice 1 [] .full)))⟩
    (.one ⟨some s5, none, (.mv (.t s14))⟩
    .done))))
  .ret) .skip))
  (.seq (.seq (.reg (.one ⟨some s15, none, (.mv (.t s0))⟩
    (.one ⟨some s16, none, (.mv (.t s1))⟩
    (.one ⟨some s17, none, (.callq 46 [(.t s15), (.t s16)])⟩
    .done))))
  (.cond (.t s17) (.seq (.reg (.one ⟨some s4, none, (.mv (.c (.slice 1 [] .full)))⟩
    (.one ⟨some s5, none, (.mv (.c (.v (.int .i64 12))))⟩
    .done)))
  .ret) .skip))
  (.seq (.reg (.one ⟨some s18, none, (.mv (.t s0))⟩
    (.one ⟨some s19, none, (.mv (.t s1))⟩
    (.one ⟨some s20, none, (.call 37 [(.t s18), (.t s19)])⟩
    .done))))
  (.seq (.reg (.one ⟨some s7, none, (.mv (.c (.slice 1 [] .full)))⟩
    .done))
  (.seq (.reg (.one ⟨some s21, none, (.mv (.t s7))⟩
    (.one ⟨some s22, none, (.mv (.t s0))⟩
    (.one ⟨some s23, none, (.nilchk (.t s22))⟩
    (.one ⟨some s24, none, (.faddr 5 (.t s23))⟩
    (.one ⟨some s25, none, (.load none (.t s24))⟩
    (.one ⟨some s26, none, (.app 1 1 (.t s21) (.t s25))⟩
    (.one ⟨some s7, none, (.mv (.t s26))⟩
    .done))))))))
  (.seq (.block 0 (.loop (.seq (.seq (.reg (.one ⟨some s27, none, (.mv (.t s7))⟩
    (.one ⟨some s28, none, (.len false (.t s27))⟩
    (.one ⟨some s29, none, (.mv (.t s0))⟩
    (.one ⟨some s30, none, (.nilchk (.t s29))⟩
    (.one ⟨some s31, none, (.faddr 2 (.t s30))⟩
    (.one ⟨some s32, none, (.load none (.t s31))⟩
    (.one ⟨some s33, none, (.mv (.t s0))⟩
    (.one ⟨some s34, none, (.mv (.t s1))⟩
    (.one ⟨some s35, none, (.callq 45 [(.t s33), (.t s34)])⟩
    (.one ⟨some s36, none, (.bin false .add (.t s32) (.t s35))⟩
    (.one ⟨some s37, none, (.bin false .leq (.t s28) (.t s36))⟩
    .done))))))))))))
  (.cond (.t s37) .skip (.exit 0)))
  (.block 1 (.reg (.one ⟨some s38, none, (.mv (.t s7))⟩
    (.one ⟨some s39, none, (.row 1 [(.c (.v (.bool false)))])⟩
    (.one ⟨some s40, none, (.app 1 1 (.t s38) (.t s39))⟩
    (.one ⟨some s7, none, (.mv (.t s40))⟩
    .done)))))))))
  (.seq (.reg (.one ⟨some s41, none, (.mv (.t s7))⟩
    (.one ⟨some s42, none, (.mv (.t s0))⟩
    (.one ⟨some s43, none, (.nilchk (.t s42))⟩
    (.one ⟨some s44, none, (.faddr 2 (.t s43))⟩
    (.one ⟨some s45, none, (.load none (.t s44))⟩
    (.one ⟨some s46, none, (.mv (.t s0))⟩
    (.one ⟨some s47, none, (.mv (.t s1))⟩
    (.one ⟨some s48, none, (.callq 45 [(.t s46), (.t s47)])⟩
    (.one ⟨some s49, none, (.bin false .add (.t s45) (.t s48))⟩
    (.one ⟨some s50, none, (.iaddr 1 (.t s41) (.t s49))⟩
    (.one ⟨none, none, (.store 1 (.t s50) (.c (.v (.bool true))))⟩
    .done))))))))))))
  (.seq (.reg (.one ⟨some s51, none, (.mv (.t s0))⟩
    (.one ⟨some s52, none, (.mv (.t s7))⟩
    (.one ⟨some s53, none, (.nilchk (.t s51))⟩
    (.one ⟨some s54, none, (.faddr 5 (.t s53))⟩
    (.one ⟨none, none, (.store 1 (.t s54) (.t s52))⟩
    .done))))))
  (.seq (.block 2 (.loop (.seq (.seq (.reg (.one ⟨some s55, none, (.mv (.t s0))⟩
    (.one ⟨some s56, none, (.mv (.t s0))⟩
    (.one ⟨some s57, none, (.nilchk (.t s56))⟩
    (.one ⟨some s58, none, (.faddr 3 (.t s57))⟩
    (.one ⟨some s59, none, (.load none (.t s58))⟩
    (.one ⟨some s60, none, (.callq 87 [(.t s55), (.t s59)])⟩
    .done)))))))
  (.cond (.t s60) .skip (.exit 2)))
  (.block 3 (.reg (.one ⟨some s61, none, (.mv (.t s0))⟩
    (.one ⟨some s62, none, (.mv (.t s0))⟩
    (.one ⟨some s63, none, (.nilchk (.t s62))⟩
    (.one ⟨some s64, none, (.faddr 3 (.t s63))⟩
    (.one ⟨some s65, none, (.load none (.t s64))⟩
    (.one ⟨some s66, none, (.bin false .add (.t s65) (.c (.v (.int .i64 1))))⟩
    (.one ⟨some s67, none, (.nilchk (.t s61))⟩
    (.one ⟨some s68, none, (.faddr 3 (.t s67))⟩
    (.one ⟨none, none, (.store 1 (.t s68) (.t s66))⟩
    .done))))))))))))))
  (.seq (.reg (.one ⟨some s8, none, (.mv (.c (.slice 1 [] .full)))⟩
    .done))
  (.seq (.block 4 (.loop (.seq (.seq (.reg (.one ⟨some s69, none, (.mv (.t s0))⟩
    (.one ⟨some s70, none, (.mv (.t s0))⟩
    (.one ⟨some s71, none, (.nilchk (.t s70))⟩
    (.one ⟨some s72, none, (.faddr 2 (.t s71))⟩
    (.one ⟨some s73, none, (.load none (.t s72))⟩
    (.one ⟨some s74, none, (.callq 87 [(.t s69), (.t s73)])⟩
    .done)))))))
  (.cond (.t s74) .skip (.exit 4)))
  (.block 5 (.seq (.reg (.one ⟨some s75, none, (.mv (.t s8))⟩
    (.one ⟨some s76, none, (.mv (.t s0))⟩
    (.one ⟨some s77, none, (.mv (.t s0))⟩
    (.one ⟨some s78, none, (.nilchk (.t s77))⟩
    (.one ⟨some s79, none, (.faddr 2 (.t s78))⟩
    (.one ⟨some s80, none, (.load none (.t s79))⟩
    (.one ⟨some s81, none, (.callq 88 [(.t s76), (.t s80)])⟩
    (.one ⟨some s82, none, (.row 1 [(.t s81)])⟩
    (.one ⟨some s83, none, (.app 1 8 (.t s75) (.t s82))⟩
    (.one ⟨some s8, none, (.mv (.t s83))⟩
    .done)))))))))))
  (.reg (.one ⟨some s84, none, (.mv (.t s0))⟩
    (.one ⟨some s85, none, (.mv (.t s0))⟩
    (.one ⟨some s86, none, (.nilchk (.t s85))⟩
    (.one ⟨some s87, none, (.faddr 2 (.t s86))⟩
    (.one ⟨some s88, none, (.load none (.t s87))⟩
    (.one ⟨some s89, none, (.bin false .add (.t s88) (.c (.v (.int .i64 1))))⟩
    (.one ⟨some s90, none, (.nilchk (.t s84))⟩
    (.one ⟨some s91, none, (.faddr 2 (.t s90))⟩
    (.one ⟨none, none, (.store 1 (.t s91) (.t s89))⟩
    .done)))))))))))))))
  (.seq (.seq (.reg (.one ⟨some s92, none, (.mv (.t s0))⟩
    (.one ⟨some s93, none, (.nilchk (.t s92))⟩
    (.one ⟨some s94, none, (.faddr 3 (.t s93))⟩
    (.one ⟨some s95, none, (.load none (.t s94))⟩
    (.one ⟨some s96, none, (.mv (.t s0))⟩
    (.one ⟨some s97, none, (.nilchk (.t s96))⟩
    (.one ⟨some s98, none, (.faddr 2 (.t s97))⟩
    (.one ⟨some s99, none, (.load none (.t s98))⟩
    (.one ⟨some s100, none, (.bin false .lss (.t s95) (.t s99))⟩
    .done))))))))))
  (.cond (.t s100) (.reg (.one ⟨some s101, none, (.mv (.t s0))⟩
    (.one ⟨some s102, none, (.mv (.t s0))⟩
    (.one ⟨some s103, none, (.nilchk (.t s102))⟩
    (.one ⟨some s104, none, (.faddr 2 (.t s103))⟩
    (.one ⟨some s105, none, (.load none (.t s104))⟩
    (.one ⟨some s106, none, (.nilchk (.t s101))⟩
    (.one ⟨some s107, none, (.faddr 3 (.t s106))⟩
    (.one ⟨none, none, (.store 1 (.t s107) (.t s105))⟩
    .done))))))))) .skip))
  (.seq (.reg (.one ⟨some s108, none, (.mv (.t s8))⟩
    (.one ⟨some s4, none, (.mv (.t s108))⟩
    (.one ⟨some s5, none, (.mv (.c (.v (.int .i64 0))))⟩
    .done))))
  .ret)))))))))))))))⟩
theorem ok38 : compF Try.prog c38 Try.f38 = some ir38 := by kernel_rfl
theorem k_bowlineref23_Window_Whole {args : List AVal} {σ : AHeap} {Q : AVal → AHeap → Prop} (hl : Nat.ble args.length 109 = true) (h : argsK (Env.full 9) 0 args fun env => evC Try.prog c38 ir38.body env σ (retQ ir38 Q)) : ACalls Try.prog 38 args σ Q :=
  acalls_of Try.func38 ok38 rfl (Nat.le_of_ble_eq_true hl) h
/- bowlineref23.Window).Whole -/
def c38m : Cfg := ⟨qs, [48], 109, [], ps⟩
def ir38m : IFun := ⟨2, [.tmp s4, .tmp s5],
  (.seq (.reg (.one ⟨some s4, none, (.mv (.c (.slice 1 [] .full)))⟩
    (.one ⟨some s5, none, (.mv (.c (.v (.int .i64 0))))⟩
    .done)))
  (.seq (.reg (.one ⟨some s9, none, (.mv (.t s0))⟩
    (.one ⟨some s10, none, (.mv (.t s1))⟩
    (.one ⟨some s11, none, (.callq 86 [(.t s9), (.t s10)])⟩
    (.one ⟨some s6, none, (.mv (.t s11))⟩
    .done)))))
  (.seq (.seq (.reg (.one ⟨some s12, none, (.mv (.t s6))⟩
    (.one ⟨some s13, none, (.bin false .neq (.t s12) (.c (.v (.int .i64 0))))⟩
    .done)))
  (.cond (.t s13) (.seq (.reg (.one ⟨some s14, none, (.mv (.t s6))⟩
    (.one ⟨some s4, none, (.mv (.c (.slice 1 [] .full)))⟩
    (.one ⟨some s5, none, (.mv (.t s14))⟩
    .done))))
  .ret) .skip))
  (.seq (.seq (.reg (.one ⟨some s15, none, (.mv (.t s0))⟩
    (.one ⟨some s16, none, (.mv (.t s1))⟩
    (.one ⟨some s17, none, (.callq 46 [(.t s15), (.t s16)])⟩
    .done))))
  (.cond (.t s17) (.seq (.reg (.one ⟨some s4, none, (.mv (.c (.slice 1 [] .full)))⟩
    (.one ⟨some s5, none, (.mv (.c (.v (.int .i64 12))))⟩
    .done)))
  .ret) .skip))
  (.seq (.reg (.one ⟨some s18, none, (.mv (.t s0))⟩
    (.one ⟨some s19, none, (.mv (.t s1))⟩
    (.one ⟨some s20, none, (.call 37 [(.t s18), (.t s19)])⟩
    .done))))
  (.seq (.reg (.one ⟨some s7, none, (.mv (.c (.slice 1 [] .full)))⟩
    .done))
  (.seq (.reg (.one ⟨some s21, none, (.mv (.t s7))⟩
    (.one ⟨some s22, none, (.mv (.t s0))⟩
    (.one ⟨some s23, none, (.nilchk (.t s22))⟩
    (.one ⟨some s24, none, (.faddr 5 (.t s23))⟩
    (.one ⟨some s25, none, (.load none (.t s24))⟩
    (.one ⟨some s26, none, (.appm 1 1 (.t s21) (.t s25))⟩
    (.one ⟨some s7, none, (.mv (.t s26))⟩
    .done))))))))
  (.seq (.block 0 (.loop (.seq (.seq (.reg (.one ⟨some s27, none, (.mv (.t s7))⟩
    (.one ⟨some s28, none, (.len false (.t s27))⟩
    (.one ⟨some s29, none, (.mv (.t s0))⟩
    (.one ⟨some s30, none, (.nilchk (.t s29))⟩
    (.one ⟨some s31, none, (.faddr 2 (.t s30))⟩
    (.one ⟨some s32, none, (.load none (.t s31))⟩
    (.one ⟨some s33, none, (.mv (.t s0))⟩
    (.one ⟨some s34, none, (.mv (.t s1))⟩
    (.one ⟨some s35, none, (.callq 45 [(.t s33), (.t s34)])⟩
    (.one ⟨some s36, none, (.bin false .add (.t s32) (.t s35))⟩
    (.one ⟨some s37, none, (.bin false .leq (.t s28) (.t s36))⟩
    .done))))))))))))
  (.cond (.t s37) .skip (.exit 0)))
  (.block 1 (.reg (.one ⟨some s38, none, (.mv (.t s7))⟩
    (.one ⟨some s39, none, (.row 1 [(.c (.v (.bool false)))])⟩
    (.one ⟨some s40, none, (.appm 1 1 (.t s38) (.t s39))⟩
    (.one ⟨some s7, none, (.mv (.t s40))⟩
    .done)))))))))
  (.seq (.reg (.one ⟨some s41, none, (.mv (.t s7))⟩
    (.one ⟨some s42, none, (.mv (.t s0))⟩
    (.one ⟨some s43, none, (.nilchk (.t s42))⟩
    (.one ⟨some s44, none, (.faddr 2 (.t s43))⟩
    (.one ⟨some s45, none, (.load none (.t s44))⟩
    (.one ⟨some s46, none, (.mv (.t s0))⟩
    (.one ⟨some s47, none, (.mv (.t s1))⟩
    (.one ⟨some s48, none, (.callq 45 [(.t s46), (.t s47)])⟩
    (.one ⟨some s49, none, (.bin false .add (.t s45) (.t s48))⟩
    (.one ⟨some s50, none, (.iaddr 1 (.t s41) (.t s49))⟩
    (.one ⟨none, none, (.store 1 (.t s50) (.c (.v (.bool true))))⟩
    .done))))))))))))
  (.seq (.reg (.one ⟨some s51, none, (.mv (.t s0))⟩
    (.one ⟨some s52, none, (.mv (.t s7))⟩
    (.one ⟨some s53, none, (.nilchk (.t s51))⟩
    (.one ⟨some s54, none, (.faddr 5 (.t s53))⟩
    (.one ⟨none, none, (.store 1 (.t s54) (.t s52))⟩
    .done))))))
  (.seq (.block 2 (.loop (.seq (.seq (.reg (.one ⟨some s55, none, (.mv (.t s0))⟩
    (.one ⟨some s56, none, (.mv (.t s0))⟩
    (.one ⟨some s57, none, (.nilchk (.t s56))⟩
    (.one ⟨some s58, none, (.faddr 3 (.t s57))⟩
    (.one ⟨some s59, none, (.load none (.t s58))⟩
    (.one ⟨some s60, none, (.callq 87 [(.t s55), (.t s59)])⟩
    .done)))))))
  (.cond (.t s60) .skip (.exit 2)))
  (.block 3 (.reg (.one ⟨some s61, none, (.mv (.t s0))⟩
    (.one ⟨some s62, none, (.mv (.t s0))⟩
    (.one ⟨some s63, none, (.nilchk (.t s62))⟩
    (.one ⟨some s64, none, (.faddr 3 (.t s63))⟩
    (.one ⟨some s65, none, (.load none (.t s64))⟩
    (.one ⟨some s66, none, (.bin false .add (.t s65) (.c (.v (.int .i64 1))))⟩
    (.one ⟨some s67, none, (.nilchk (.t s61))⟩
    (.one ⟨some s68, none, (.faddr 3 (.t s67))⟩
    (.one ⟨none, none, (.store 1 (.t s68) (.t s66))⟩
    .done))))))))))))))
  (.seq (.reg (.one ⟨some s8, none, (.mv (.c (.slice 1 [] .full)))⟩
    .done))
  (.seq (.block 4 (.loop (.seq (.seq (.reg (.one ⟨some s69, none, (.mv (.t s0))⟩
    (.one ⟨some s70, none, (.mv (.t s0))⟩
    (.one ⟨some s71, none, (.nilchk (.t s70))⟩
    (.one ⟨some s72, none, (.faddr 2 (.t s71))⟩
    (.one ⟨some s73, none, (.load none (.t s72))⟩
    (.one ⟨some s74, none, (.callq 87 [(.t s69), (.t s73)])⟩
    .done)))))))
  (.cond (.t s74) .skip (.exit 4)))
  (.block 5 (.seq (.reg (.one ⟨some s75, none, (.mv (.t s8))⟩
    (.one ⟨some s76, none, (.mv (.t s0))⟩
    (.one ⟨some s77, none, (.mv (.t s0))⟩
    (.one ⟨some s78, none, (.nilchk (.t s77))⟩
    (.one ⟨some s79, none, (.faddr 2 (.t s78))⟩
    (.one ⟨some s80, none, (.load none (.t s79))⟩
    (.one ⟨some s81, none, (.callq 88 [(.t s76), (.t s80)])⟩
    (.one ⟨some s82, none, (.row 1 [(.t s81)])⟩
    (.one ⟨some s83, none, (.app 1 8 (.t s75) (.t s82))⟩
    (.one ⟨some s8, none, (.mv (.t s83))⟩
    .done)))))))))))
  (.reg (.one ⟨some s84, none, (.mv (.t s0))⟩
    (.one ⟨some s85, none, (.mv (.t s0))⟩
    (.one ⟨some s86, none, (.nilchk (.t s85))⟩
    (.one ⟨some s87, none, (.faddr 2 (.t s86))⟩
    (.one ⟨some s88, none, (.load none (.t s87))⟩
    (.one ⟨some s89, none, (.bin false .add (.t s88) (.c (.v (.int .i64 1))))⟩
    (.one ⟨some s90, none, (.nilchk (.t s84))⟩
    (.one ⟨some s91, none, (.faddr 2 (.t s90))⟩
    (.one ⟨none, none, (.store 1 (.t s91) (.t s89))⟩
    .done)))))))))))))))
  (.seq (.seq (.reg (.one ⟨some s92, none, (.mv (.t s0))⟩
    (.one ⟨some s93, none, (.nilchk (.t s92))⟩
    (.one ⟨some s94, none, (.faddr 3 (.t s93))⟩
    (.one ⟨some s95, none, (.load none (.t s94))⟩
    (.one ⟨some s96, none, (.mv (.t s0))⟩
    (.one ⟨some s97, none, (.nilchk (.t s96))⟩
    (.one ⟨some s98, none, (.faddr 2 (.t s97))⟩
    (.one ⟨some s99, none, (.load none (.t s98))⟩
    (.one ⟨some s100, none, (.bin false .lss (.t s95) (.t s99))⟩
    .done))))))))))
  (.cond (.t s100) (.reg (.one ⟨some s101, none, (.mv (.t s0))⟩
    (.one ⟨some s102, none, (.mv (.t s0))⟩
    (.one ⟨some s103, none, (.nilchk (.t s102))⟩
    (.one ⟨some s104, none, (.faddr 2 (.t s103))⟩
    (.one ⟨some s105, none, (.load none (.t s104))⟩
    (.one ⟨some s106, none, (.nilchk (.t s101))⟩
    (.one ⟨some s107, none, (.faddr 3 (.t s106))⟩
    (.one ⟨none, none, (.store 1 (.t s107) (.t s105))⟩
    .done))))))))) .skip))
  (.seq (.reg (.one ⟨some s108, none, (.mv (.t s8))⟩
    (.one ⟨some s4, none, (.mv (.t s108))⟩
    (.one ⟨some s5, none, (.mv (.c (.v (.int .i64 0))))⟩
    .done))))
  .ret)))))))))))))))⟩
theorem ok38m : compF Try.prog c38m Try.f38 = some ir38m := by kernel_rfl
theorem km_bowlineref23_Window_Whole {args : List AVal} {σ : AHeap} {Q : AVal → AHeap → Prop} (hl : Nat.ble args.length 109 = true) (h : argsK (Env.full 9) 0 args fun env => evC Try.prog c38m ir38m.body env σ (retQ ir38m Q)) : ACalls Try.prog 38 args σ Q :=
  acalls_of Try.func38 ok38m rfl (Nat.le_of_ble_eq_true hl) h
/- bowlineref23.Window).Late -/
def c40 : Cfg := ⟨qs, [], 63, [], ps⟩
def ir40 : IFun := ⟨2, [.tmp s4],
  (.seq (.reg (.one ⟨some s4, none, (.mv (.c (.v (.int .i64 0))))⟩
    .done))
  (.seq (.seq (.reg (.one ⟨some s5, none, (.mv (.t s0))⟩
    (.one ⟨some s6, none, (.nilchk (.t s5))⟩
    (.one ⟨some s7, none, (.faddr 0 (.t s6))⟩
    (.one ⟨some s8, none, (.load none (.t s7))⟩
    (.one ⟨some s9, none, (.mv (.t s1))⟩
    (.one ⟨some s10, none, (.callq 89 [(.t s8), (.t s9)])⟩
    (.one ⟨some s11, none, (.not (.t s10))⟩
    .done))))))))
  (.cond (.t s11) (.seq (.reg (.one ⟨some s4, none, (.mv (.c (.v (.int .i64 1))))⟩
    .done))
  .ret) .skip))
  (.seq (.seq (.reg (.one ⟨some s12, none, (.mv (.t s0))⟩
    (.one ⟨some s13, none, (.nilchk (.t s12))⟩
    (.one ⟨some s14, none, (.faddr 2 (.t s13))⟩
    (.one ⟨some s15, none, (.load none (.t s14))⟩
    (.one ⟨some s16, none, (.mv (.t s0))⟩
    (.one ⟨some s17, none, (.mv (.t s1))⟩
    (.one ⟨some s20, none, (.mv (.t s0))⟩
    (.one ⟨some s21, none, (.nilchk (.t s20))⟩
    (.one ⟨some s22, none, (.faddr 4 (.t s21))⟩
    (.one ⟨some s23, none, (.load none (.t s22))⟩
    (.one ⟨some s18, none, (.callq 45 [(.t s16), (.t s17)])⟩
    (.one ⟨some s19, none, (.bin false .add (.t s15) (.t s18))⟩
    (.one ⟨some s24, none, (.bin false .gtr (.t s19) (.t s23))⟩
    .done))))))))))))))
  (.cond (.t s24) (.seq (.reg (.one ⟨some s4, none, (.mv (.c (.v (.int .i64 11))))⟩
    .done))
  .ret) .skip))
  (.seq (.seq (.reg (.one ⟨some s25, none, (.mv (.t s0))⟩
    (.one ⟨some s26, none, (.nilchk (.t s25))⟩
    (.one ⟨some s27, none, (.faddr 2 (.t s26))⟩
    (.one ⟨some s28, none, (.load none (.t s27))⟩
    (.one ⟨some s29, none, (.mv (.t s0))⟩
    (.one ⟨some s30, none, (.mv (.t s1))⟩
    (.one ⟨some s33, none, (.mv (.t s0))⟩
    (.one ⟨some s34, none, (.nilchk (.t s33))⟩
    (.one ⟨some s35, none, (.faddr 3 (.t s34))⟩
    (.one ⟨some s36, none, (.load none (.t s35))⟩
    (.one ⟨some s31, none, (.callq 45 [(.t s29), (.t s30)])⟩
    (.one ⟨some s32, none, (.bin false .add (.t s28) (.t s31))⟩
    (.one ⟨some s37, none, (.bin false .geq (.t s32) (.t s36))⟩
    .done))))))))))))))
  (.cond (.t s37) (.seq (.reg (.one ⟨some s38, none, (.mv (.t s0))⟩
    (.one ⟨some s39, none, (.mv (.t s0))⟩
    (.one ⟨some s40, none, (.nilchk (.t s39))⟩
    (.one ⟨some s41, none, (.faddr 2 (.t s40))⟩
    (.one ⟨some s42, none, (.load none (.t s41))⟩
    (.one ⟨some s43, none, (.mv (.t s0))⟩
    (.one ⟨some s44, none, (.mv (.t s1))⟩
    (.one ⟨some s45, none, (.callq 45 [(.t s43), (.t s44)])⟩
    (.one ⟨some s46, none, (.bin false .add (.t s42) (.t s45))⟩
    (.one ⟨some s47, none, (.nilchk (.t s38))⟩
    (.one ⟨some s48, none, (.faddr 3 (.t s47))⟩
    (.one ⟨none, none, (.store 1 (.t s48) (.t s46))⟩
    .done)))))))))))))
  (.block 0 (.loop (.seq (.seq (.reg (.one ⟨some s49, none, (.mv (.t s0))⟩
    (.one ⟨some s50, none, (.mv (.t s0))⟩
    (.one ⟨some s51, none, (.nilchk (.t s50))⟩
    (.one ⟨some s52, none, (.faddr 3 (.t s51))⟩
    (.one ⟨some s53, none, (.load none (.t s52))⟩
    (.one ⟨some s54, none, (.callq 87 [(.t s49), (.t s53)])⟩
    .done)))))))
  (.cond (.t s54) .skip (.exit 0)))
  (.block 1 (.reg (.one ⟨some s55, none, (.mv (.t s0))⟩
    (.one ⟨some s56, none, (.mv (.t s0))⟩
    (.one ⟨some s57, none, (.nilchk (.t s56))⟩
    (.one ⟨some s58, none, (.faddr 3 (.t s57))⟩
    (.one ⟨some s59, none, (.load none (.t s58))⟩
    (.one ⟨some s60, none, (.bin false .add (.t s59) (.c (.v (.int .i64 1))))⟩
    (.one ⟨some s61, none, (.nilchk (.t s55))⟩
    (.one ⟨some s62, none, (.faddr 3 (.t s61))⟩
    (.one ⟨none, none, (.store 1 (.t s62) (.t s60))⟩
    .done))))))))))))))) .skip))
  (.seq (.reg (.one ⟨some s4, none, (.mv (.c (.v (.int .i64 0))))⟩
    .done))
  .ret)))))⟩
theorem ok40 : compF Try.prog c40 Try.f40 = some ir40 := by kernel_rfl
theorem k_bowlineref23_Window_Late {args : List AVal} {σ : AHeap} {Q : AVal → AHeap → Prop} (hl : Nat.ble args.length 63 = true) (h : argsK (Env.full 9) 0 args fun env => evC Try.prog c40 ir40.body env σ (retQ ir40 Q)) : ACalls Try.prog 40 args σ Q :=
  acalls_of Try.func40 ok40 rfl (Nat.le_of_ble_eq_true hl) h
/- bowlineref23.Window).State -/
def c42 : Cfg := ⟨qs, [], 22, [], ps⟩
def ir42 : IFun := ⟨1, [.cell s2 (some 3)],
  (.seq (.reg (.one ⟨some s2, none, (.new [(.v (.int .i64 0)), (.v (.int .i64 0)), (.v (.int .i64 0))])⟩
    .done))
  (.seq (.reg (.one ⟨some s3, none, (.mv (.t s0))⟩
    (.one ⟨some s4, none, (.mv (.t s0))⟩
    (.one ⟨some s5, none, (.nilchk (.t s4))⟩
    (.one ⟨some s6, none, (.faddr 2 (.t s5))⟩
    (.one ⟨some s7, none, (.load none (.t s6))⟩
    (.one ⟨some s9, none, (.mv (.t s0))⟩
    (.one ⟨some s10, none, (.mv (.t s0))⟩
    (.one ⟨some s11, none, (.nilchk (.t s10))⟩
    (.one ⟨some s12, none, (.faddr 3 (.t s11))⟩
    (.one ⟨some s13, none, (.load none (.t s12))⟩
    (.one ⟨some s15, none, (.mv (.t s0))⟩
    (.one ⟨some s16, none, (.mv (.t s0))⟩
    (.one ⟨some s17, none, (.nilchk (.t s16))⟩
    (.one ⟨some s18, none, (.faddr 4 (.t s17))⟩
    (.one ⟨some s19, none, (.load none (.t s18))⟩
    (.one ⟨some s8, none, (.callq 88 [(.t s3), (.t s7)])⟩
    (.one ⟨some s14, none, (.callq 88 [(.t s9), (.t s13)])⟩
    (.one ⟨some s20, none, (.callq 88 [(.t s15), (.t s19)])⟩
    (.one ⟨some s21, none, (.build [(.v (.int .i64 0)), (.v (.int .i64 0)), (.v (.int .i64 0))] [(0, 1, (.t s8)), (1, 1, (.t s14)), (2, 1, (.t s20))])⟩
    (.one ⟨none, none, (.store 3 (.t s2) (.t s21))⟩
    .done)))))))))))))))))))))
  .ret))⟩
theorem ok42 : compF Try.prog c42 Try.f42 = some ir42 := by kernel_rfl
theorem k_bowlineref23_Window_State {args : List AVal} {σ : AHeap} {Q : AVal → AHeap → Prop} (hl : Nat.ble args.length 22 = true) (h : argsK (Env.full 9) 0 args fun env => evC Try.prog c42 ir42.body env σ (retQ ir42 Q)) : ACalls Try.prog 42 args σ Q :=
  acalls_of Try.func42 ok42 rfl (Nat.le_of_ble_eq_true hl) h
/- bowlineref23.Window).Missing -/
def c43 : Cfg := ⟨qs, [], 28, [], ps⟩
def ir43 : IFun := ⟨1, [.tmp s2],
  (.seq (.reg (.one ⟨some s2, none, (.mv (.c (.slice 1 [] .full)))⟩
    .done))
  (.seq (.reg (.one ⟨some s3, none, (.mv (.c (.slice 1 [] .full)))⟩
    .done))
  (.seq (.seq (.reg (.one ⟨some s5, none, (.mv (.t s0))⟩
    (.one ⟨some s6, none, (.nilchk (.t s5))⟩
    (.one ⟨some s7, none, (.faddr 2 (.t s6))⟩
    (.one ⟨some s8, none, (.load none (.t s7))⟩
    (.one ⟨some s4, none, (.mv (.t s8))⟩
    .done))))))
  (.block 0 (.loop (.seq (.seq (.reg (.one ⟨some s9, none, (.mv (.t s4))⟩
    (.one ⟨some s10, none, (.mv (.t s0))⟩
    (.one ⟨some s11, none, (.nilchk (.t s10))⟩
    (.one ⟨some s12, none, (.faddr 3 (.t s11))⟩
    (.one ⟨some s13, none, (.load none (.t s12))⟩
    (.one ⟨some s14, none, (.bin false .lss (.t s9) (.t s13))⟩
    .done)))))))
  (.cond (.t s14) .skip (.exit 0)))
  (.seq (.block 1 (.seq (.reg (.one ⟨some s17, none, (.mv (.t s0))⟩
    (.one ⟨some s18, none, (.mv (.t s4))⟩
    (.one ⟨some s19, none, (.callq 87 [(.t s17), (.t s18)])⟩
    (.one ⟨some s20, none, (.not (.t s19))⟩
    .done)))))
  (.cond (.t s20) (.reg (.one ⟨some s21, none, (.mv (.t s3))⟩
    (.one ⟨some s22, none, (.mv (.t s0))⟩
    (.one ⟨some s23, none, (.mv (.t s4))⟩
    (.one ⟨some s24, none, (.callq 88 [(.t s22), (.t s23)])⟩
    (.one ⟨some s25, none, (.row 1 [(.t s24)])⟩
    (.one ⟨some s26, none, (.app 1 8 (.t s21) (.t s25))⟩
    (.one ⟨some s3, none, (.mv (.t s26))⟩
    .done)))))))) .skip)))
  (.reg (.one ⟨some s15, none, (.mv (.t s4))⟩
    (.one ⟨some s16, none, (.bin false .add (.t s15) (.c (.v (.int .i64 1))))⟩
    (.one ⟨some s4, none, (.mv (.t s16))⟩
    .done)))))))))
  (.seq (.reg (.one ⟨some s27, none, (.mv (.t s3))⟩
    (.one ⟨some s2, none, (.mv (.t s27))⟩
    .done)))
  .ret))))⟩
theorem ok43 : compF Try.prog c43 Try.f43 = some ir43 := by kernel_rfl
theorem k_bowlineref23_Window_Missing {args : List AVal} {σ : AHeap} {Q : AVal → AHeap → Prop} (hl : Nat.ble args.length 28 = true) (h : argsK (Env.full 9) 0 args fun env => evC Try.prog c43 ir43.body env σ (retQ ir43 Q)) : ACalls Try.prog 43 args σ Q :=
  acalls_of Try.func43 ok43 rfl (Nat.le_of_ble_eq_true hl) h
/- bowlineref23.Window).In -/
def c44 : Cfg := ⟨qs, [], 19, [], ps⟩
def ir44 : IFun := ⟨2, [.tmp s4],
  (.seq (.reg (.one ⟨some s4, none, (.mv (.c (.v (.bool false))))⟩
    .done))
  (.seq (.reg (.one ⟨some s5, none, (.mv (.t s0))⟩
    (.one ⟨some s6, none, (.mv (.t s1))⟩
    (.one ⟨some s7, none, (.callq 45 [(.t s5), (.t s6)])⟩
    (.one ⟨some s8, none, (.bin false .geq (.t s7) (.c (.v (.int .i64 0))))⟩
    (.one ⟨some s9, none, (.mv (.t s8))⟩
    (.one ⟨some s10, some (s9, true), (.mv (.t s0))⟩
    (.one ⟨some s11, some (s9, true), (.mv (.t s1))⟩
    (.one ⟨some s13, some (s9, true), (.mv (.t s0))⟩
    (.one ⟨some s14, some (s9, true), (.nilchk (.t s13))⟩
    (.one ⟨some s15, some (s9, true), (.faddr 1 (.t s14))⟩
    (.one ⟨some s16, some (s9, true), (.load none (.t s15))⟩
    (.one ⟨some s12, some (s9, true), (.callq 45 [(.t s10), (.t s11)])⟩
    (.one ⟨some s17, some (s9, true), (.bin false .lss (.t s12) (.t s16))⟩
    (.one ⟨some s18, none, (.pick (.t s9) (.t s17) (.c (.v (.bool false))))⟩
    (.one ⟨some s4, none, (.mv (.t s18))⟩
    .done))))))))))))))))
  .ret))⟩
theorem ok44 : compF Try.prog c44 Try.f44 = some ir44 := by kernel_rfl
theorem k_bowlineref23_Window_In {args : List AVal} {σ : AHeap} {Q : AVal → AHeap → Prop} (hl : Nat.ble args.length 19 = true) (h : argsK (Env.full 9) 0 args fun env => evC Try.prog c44 ir44.body env σ (retQ ir44 Q)) : ACalls Try.prog 44 args σ Q :=
  acalls_of Try.func44 ok44 rfl (Nat.le_of_ble_eq_true hl) h
/- bowlineref23.Window).Far -/
def c45 : Cfg := ⟨qs, [], 25, [], ps⟩
def ir45 : IFun := ⟨2, [.tmp s4],
  (.seq (.reg (.one ⟨some s4, none, (.mv (.c (.v (.int .i64 0))))⟩
    .done))
  (.seq (.reg (.one ⟨some s8, none, (.mv (.t s0))⟩
    (.one ⟨some s9, none, (.nilchk (.t s8))⟩
    (.one ⟨some s10, none, (.faddr 0 (.t s9))⟩
    (.one ⟨some s11, none, (.load none (.t s10))⟩
    (.one ⟨some s12, none, (.mv (.t s0))⟩
    (.one ⟨some s13, none, (.mv (.t s0))⟩
    (.one ⟨some s14, none, (.nilchk (.t s13))⟩
    (.one ⟨some s15, none, (.faddr 2 (.t s14))⟩
    (.one ⟨some s16, none, (.load none (.t s15))⟩
    (.one ⟨some s18, none, (.mv (.t s1))⟩
    (.one ⟨some s17, none, (.callq 88 [(.t s12), (.t s16)])⟩
    (.one ⟨some s19, none, (.callq 90 [(.t s11), (.t s17), (.t s18)])⟩
    (.one ⟨some s7, none, (.mv (.t s19))⟩
    (.one ⟨some s20, none, (.ext (.t s7) 0)⟩
    (.one ⟨some s21, none, (.ext (.t s7) 1)⟩
    (.one ⟨some s5, none, (.mv (.t s20))⟩
    (.one ⟨some s6, none, (.mv (.t s21))⟩
    .done))))))))))))))))))
  (.seq (.seq (.reg (.one ⟨some s22, none, (.mv (.t s6))⟩
    (.one ⟨some s23, none, (.bin false .neq (.t s22) (.c (.v (.int .i64 0))))⟩
    .done)))
  (.cond (.t s23) (.seq (.reg (.one ⟨some s4, none, (.mv (.c (.v (.int .i64 (-1)))))⟩
    .done))
  .ret) .skip))
  (.seq (.reg (.one ⟨some s24, none, (.mv (.t s5))⟩
    (.one ⟨some s4, none, (.mv (.t s24))⟩
    .done)))
  .ret))))⟩
theorem ok45 : compF Try.prog c45 Try.f45 = some ir45 := by kernel_rfl
theorem k_bowlineref23_Window_Far {args : List AVal} {σ : AHeap} {Q : AVal → AHeap → Prop} (hl : Nat.ble args.length 25 = true) (h : argsK (Env.full 9) 0 args fun env => evC Try.prog c45 ir45.body env σ (retQ ir45 Q)) : ACalls Try.prog 45 args σ Q :=
  acalls_of Try.func45 ok45 rfl (Nat.le_of_ble_eq_true hl) h
/- bowlineref23.Window).Is -/
def c46 : Cfg := ⟨qs, [], 20, [], ps⟩
def ir46 : IFun := ⟨2, [.tmp s4],
  (.seq (.reg (.one ⟨some s4, none, (.mv (.c (.v (.bool false))))⟩
    .done))
  (.seq (.reg (.one ⟨some s5, none, (.mv (.t s0))⟩
    (.one ⟨some s6, none, (.mv (.t s1))⟩
    (.one ⟨some s7, none, (.callq 44 [(.t s5), (.t s6)])⟩
    (.one ⟨some s8, none, (.mv (.t s7))⟩
    (.one ⟨some s9, some (s8, true), (.mv (.t s0))⟩
    (.one ⟨some s10, some (s8, true), (.mv (.t s0))⟩
    (.one ⟨some s11, some (s8, true), (.nilchk (.t s10))⟩
    (.one ⟨some s12, some (s8, true), (.faddr 2 (.t s11))⟩
    (.one ⟨some s13, some (s8, true), (.load none (.t s12))⟩
    (.one ⟨some s14, some (s8, true), (.mv (.t s0))⟩
    (.one ⟨some s15, some (s8, true), (.mv (.t s1))⟩
    (.one ⟨some s16, some (s8, true), (.callq 45 [(.t s14), (.t s15)])⟩
    (.one ⟨some s17, some (s8, true), (.bin false .add (.t s13) (.t s16))⟩
    (.one ⟨some s18, some (s8, true), (.callq 87 [(.t s9), (.t s17)])⟩
    (.one ⟨some s19, none, (.pick (.t s8) (.t s18) (.c (.v (.bool false))))⟩
    (.one ⟨some s4, none, (.mv (.t s19))⟩
    .done)))))))))))))))))
  .ret))⟩
theorem ok46 : compF Try.prog c46 Try.f46 = some ir46 := by kernel_rfl
theorem k_bowlineref23_Window_Is {args : List AVal} {σ : AHeap} {Q : AVal → AHeap → Prop} (hl : Nat.ble args.length 20 = true) (h : argsK (Env.full 9) 0 args fun env => evC Try.prog c46 ir46.body env σ (retQ ir46 Q)) : ACalls Try.prog 46 args σ Q :=
  acalls_of Try.func46 ok46 rfl (Nat.le_of_ble_eq_true hl) h
/- bowlineref23.Window).ask -/
def c86 : Cfg := ⟨qs, [], 16, [], ps⟩
def ir86 : IFun := ⟨2, [.tmp s4],
  (.seq (.reg (.one ⟨some s4, none, (.mv (.c (.v (.int .i64 0))))⟩
    .done))
  (.seq (.seq (.reg (.one ⟨some s5, none, (.mv (.t s0))⟩
    (.one ⟨some s6, none, (.nilchk (.t s5))⟩
    (.one ⟨some s7, none, (.faddr 0 (.t s6))⟩
    (.one ⟨some s8, none, (.load none (.t s7))⟩
    (.one ⟨some s9, none, (.mv (.t s1))⟩
    (.one ⟨some s10, none, (.callq 89 [(.t s8), (.t s9)])⟩
    (.one ⟨some s11, none, (.not (.t s10))⟩
    .done))))))))
  (.cond (.t s11) (.seq (.reg (.one ⟨some s4, none, (.mv (.c (.v (.int .i64 1))))⟩
    .done))
  .ret) .skip))
  (.seq (.seq (.reg (.one ⟨some s12, none, (.mv (.t s0))⟩
    (.one ⟨some s13, none, (.mv (.t s1))⟩
    (.one ⟨some s14, none, (.callq 44 [(.t s12), (.t s13)])⟩
    (.one ⟨some s15, none, (.not (.t s14))⟩
    .done)))))
  (.cond (.t s15) (.seq (.reg (.one ⟨some s4, none, (.mv (.c (.v (.int .i64 11))))⟩
    .done))
  .ret) .skip))
  (.seq (.reg (.one ⟨some s4, none, (.mv (.c (.v (.int .i64 0))))⟩
    .done))
  .ret))))⟩
theorem ok86 : compF Try.prog c86 Try.f86 = some ir86 := by kernel_rfl
theorem k_bowlineref23_Window_ask {args : List AVal} {σ : AHeap} {Q : AVal → AHeap → Prop} (hl : Nat.ble args.length 16 = true) (h : argsK (Env.full 9) 0 args fun env => evC Try.prog c86 ir86.body env σ (retQ ir86 Q)) : ACalls Try.prog 86 args σ Q :=
  acalls_of Try.func86 ok86 rfl (Nat.le_of_ble_eq_true hl) h
/- bowlineref23.Window).done -/
def c87 : Cfg := ⟨qs, [], 21, [], ps⟩
def ir87 : IFun := ⟨2, [.tmp s4],
  (.seq (.reg (.one ⟨some s4, none, (.mv (.c (.v (.bool false))))⟩
    .done))
  (.seq (.reg (.one ⟨some s5, none, (.mv (.t s1))⟩
    (.one ⟨some s6, none, (.mv (.t s0))⟩
    (.one ⟨some s7, none, (.nilchk (.t s6))⟩
    (.one ⟨some s8, none, (.faddr 5 (.t s7))⟩
    (.one ⟨some s9, none, (.load none (.t s8))⟩
    (.one ⟨some s10, none, (.len false (.t s9))⟩
    (.one ⟨some s11, none, (.bin false .lss (.t s5) (.t s10))⟩
    (.one ⟨some s12, none, (.mv (.t s11))⟩
    (.one ⟨some s13, some (s12, true), (.mv (.t s0))⟩
    (.one ⟨some s14, some (s12, true), (.nilchk (.t s13))⟩
    (.one ⟨some s15, some (s12, true), (.faddr 5 (.t s14))⟩
    (.one ⟨some s16, some (s12, true), (.load none (.t s15))⟩
    (.one ⟨some s17, some (s12, true), (.mv (.t s1))⟩
    (.one ⟨some s18, some (s12, true), (.iaddr 1 (.t s16) (.t s17))⟩
    (.one ⟨some s19, some (s12, true), (.load none (.t s18))⟩
    (.one ⟨some s20, none, (.pick (.t s12) (.t s19) (.c (.v (.bool false))))⟩
    (.one ⟨some s4, none, (.mv (.t s20))⟩
    .done))))))))))))))))))
  .ret))⟩
theorem ok87 : compF Try.prog c87 Try.f87 = some ir87 := by kernel_rfl
theorem k_bowlineref23_Window_done {args : List AVal} {σ : AHeap} {Q : AVal → AHeap → Prop} (hl : Nat.ble args.length 21 = true) (h : argsK (Env.full 9) 0 args fun env => evC Try.prog c87 ir87.body env σ (retQ ir87 Q)) : ACalls Try.prog 87 args σ Q :=
  acalls_of Try.func87 ok87 rfl (Nat.le_of_ble_eq_true hl) h
/- bowlineref23.Window).Number -/
def c88 : Cfg := ⟨qs, [], 12, [], ps⟩
def ir88 : IFun := ⟨2, [.tmp s4],
  (.seq (.reg (.one ⟨some s4, none, (.mv (.c (.v (.int .i64 0))))⟩
    .done))
  (.seq (.reg (.one ⟨some s5, none, (.mv (.t s1))⟩
    (.one ⟨some s6, none, (.mv (.t s0))⟩
    (.one ⟨some s7, none, (.nilchk (.t s6))⟩
    (.one ⟨some s8, none, (.faddr 0 (.t s7))⟩
    (.one ⟨some s9, none, (.load none (.t s8))⟩
    (.one ⟨some s10, none, (.callq 36 [(.t s9)])⟩
    (.one ⟨some s11, none, (.bin false .rem (.t s5) (.t s10))⟩
    (.one ⟨some s4, none, (.mv (.t s11))⟩
    .done)))))))))
  .ret))⟩
theorem ok88 : compF Try.prog c88 Try.f88 = some ir88 := by kernel_rfl
theorem k_bowlineref23_Window_Number {args : List AVal} {σ : AHeap} {Q : AVal → AHeap → Prop} (hl : Nat.ble args.length 12 = true) (h : argsK (Env.full 9) 0 args fun env => evC Try.prog c88 ir88.body env σ (retQ ir88 Q)) : ACalls Try.prog 88 args σ Q :=
  acalls_of Try.func88 ok88 rfl (Nat.le_of_ble_eq_true hl) h
end Go.Proofs.Ytnfdgccmpglbhaa
/-
  The bodies of one package, compiled to the framework's language (printed by a program of this session).
-/
namespace Go.Proofs.Ytnfdgccmpglbhaa
set_option linter.unusedVariables false
set_option linter.unusedSimpArgs false
open Go Go.Am
/- bowlinelaw23.RxwinOnce -/
def c6 : Cfg := ⟨qs, [], 192, [], ps⟩
def ir6 : IFun := ⟨3, [.tmp s6],
  (.seq (.reg (.one ⟨some s6, none, (.mv (.c (.v (.bool false))))⟩
    .done))
  (.seq (.reg (.one ⟨some s19, none, (.mv (.t s0))⟩
    (.one ⟨some s20, none, (.mv (.t s1))⟩
    (.one ⟨some s21, none, (.callq 26 [(.t s19), (.t s20)])⟩
    (.one ⟨some s18, none, (.mv (.t s21))⟩
    (.one ⟨some s22, none, (.ext (.t s18) 0)⟩
    (.one ⟨some s23, none, (.ext (.t s18) 1)⟩
    (.one ⟨some s7, none, (.mv (.t s22))⟩
    (.one ⟨some s8, none, (.mv (.t s23))⟩
    .done)))))))))
  (.seq (.seq (.reg (.one ⟨some s24, none, (.mv (.t s8))⟩
    (.one ⟨some s25, none, (.bin false .neq (.t s24) (.c (.v (.int .i64 0))))⟩
    (.one ⟨some s26, none, (.mv (.t s25))⟩
    (.one ⟨some s27, some (s26, false), (.mv (.t s7))⟩
    (.one ⟨some s28, some (s26, false), (.eqNil 1 false (.t s27))⟩
    (.one ⟨some s29, none, (.pick (.t s26) (.c (.v (.bool true))) (.t s28))⟩
    .done)))))))
  (.cond (.t s29) (.seq (.reg (.one ⟨some s30, none, (.callq 27 [])⟩
    (.one ⟨some s31, none, (.mv (.t s30))⟩
    (.one ⟨some s32, some (s31, true), (.mv (.t s0))⟩
    (.one ⟨some s33, some (s31, true), (.bin false .lss (.t s32) (.c (.v (.int .i64 1))))⟩
    (.one ⟨some s34, some (s31, true), (.mv (.t s33))⟩
    (.one ⟨some s35, some (s34, false), (.mv (.t s0))⟩
    (.one ⟨some s36, some (s34, false), (.bin false .gtr (.t s35) (.c (.v (.int .i64 16))))⟩
    (.one ⟨some s37, some (s31, true), (.pick (.t s34) (.c (.v (.bool true))) (.t s36))⟩
    (.one ⟨some s38, some (s31, true), (.mv (.t s37))⟩
    (.one ⟨some s39, some (s38, false), (.mv (.t s1))⟩
    (.one ⟨some s40, some (s38, false), (.bin false .lss (.t s39) (.c (.v (.int .i64 1))))⟩
    (.one ⟨some s41, some (s31, true), (.pick (.t s38) (.c (.v (.bool true))) (.t s40))⟩
    (.one ⟨some s42, some (s31, true), (.mv (.t s41))⟩
    (.one ⟨some s43, some (s42, false), (.mv (.t s1))⟩
    (.one ⟨some s44, some (s42, false), (.mv (.t s0))⟩
    (.one ⟨some s45, some (s42, false), (.bin false .sub (.t s44) (.c (.v (.int .i64 1))))⟩
    (.one ⟨some s46, some (s42, false), (.bin false .shl (.c (.v (.int .i64 1))) (.t s45))⟩
    (.one ⟨some s47, some (s42, false), (.bin false .gtr (.t s43) (.t s46))⟩
    (.one ⟨some s48, some (s31, true), (.pick (.t s42) (.c (.v (.bool true))) (.t s47))⟩
    (.one ⟨some s49, none, (.pick (.t s31) (.t s48) (.c (.v (.bool false))))⟩
    (.one ⟨some s6, none, (.mv (.t s49))⟩
    .done))))))))))))))))))))))
  .ret) .skip))
  (.seq (.reg (.one ⟨some s9, none, (.mv (.c (.v (.int .i64 0))))⟩
    .done))
  (.seq (.seq (.reg (.one ⟨some s10, none, (.mv (.c (.v (.int .i64 0))))⟩
    .done))
  (.block 0 (.loop (.seq (.seq (.reg (.one ⟨some s50, none, (.mv (.t s10))⟩
    (.one ⟨some s51, none, (.mv (.t s2))⟩
    (.one ⟨some s52, none, (.len false (.t s51))⟩
    (.one ⟨some s53, none, (.bin false .lss (.t s50) (.t s52))⟩
    (.one ⟨some s54, none, (.mv (.t s53))⟩
    (.one ⟨some s55, some (s54, true), (.mv (.t s10))⟩
    (.one ⟨some s56, some (s54, true), (.bin false .lss (.t s55) (.c (.v (.int .i64 150))))⟩
    (.one ⟨some s57, none, (.pick (.t s54) (.t s56) (.c (.v (.bool false))))⟩
    .done)))))))))
  (.cond (.t s57) .skip (.exit 0)))
  (.seq (.block 1 (.seq (.reg (.one ⟨some s60, none, (.mv (.t s2))⟩
    (.one ⟨some s61, none, (.mv (.t s10))⟩
    (.one ⟨some s62, none, (.iaddr 2 (.t s60) (.t s61))⟩
    (.one ⟨some s63, none, (.load (some 2) (.t s62))⟩
    (.one ⟨some s11, none, (.new [(.v (.int .i64 0)), (.v (.int .i64 0))])⟩
    (.one ⟨none, none, (.store 2 (.t s11) (.t s63))⟩
    .done)))))))
  (.seq (.seq (.reg (.one ⟨some s64, none, (.faddr 0 (.t s11))⟩
    (.one ⟨some s65, none, (.load none (.t s64))⟩
    .done)))
  (.block 2 (.seq (.reg (.one ⟨some s67, none, (.bin false .eql (.t s65) (.c (.v (.int .i64 0))))⟩
    (.one ⟨some s66, none, (.mv (.t s67))⟩
    .done)))
  (.cond (.t s66) (.reg (.one ⟨some s68, none, (.mv (.t s7))⟩
    (.one ⟨some s69, none, (.faddr 1 (.t s11))⟩
    (.one ⟨some s70, none, (.load none (.t s69))⟩
    (.one ⟨some s71, none, (.call 28 [(.t s68), (.t s70)])⟩
    .done))))) (.seq (.reg (.one ⟨some s73, none, (.bin false .eql (.t s65) (.c (.v (.int .i64 1))))⟩
    (.one ⟨some s72, none, (.mv (.t s73))⟩
    .done)))
  (.cond (.t s72) (.seq (.reg (.one ⟨some s75, none, (.mv (.t s7))⟩
    (.one ⟨some s76, none, (.faddr 1 (.t s11))⟩
    (.one ⟨some s77, none, (.load none (.t s76))⟩
    (.one ⟨some s78, none, (.call 29 [(.t s75), (.t s77)])⟩
    (.one ⟨some s74, none, (.mv (.t s78))⟩
    (.one ⟨some s79, none, (.ext (.t s74) 0)⟩
    (.one ⟨some s80, none, (.ext (.t s74) 1)⟩
    (.one ⟨some s12, none, (.mv (.t s79))⟩
    (.one ⟨some s13, none, (.mv (.t s80))⟩
    .done))))))))))
  (.seq (.reg (.one ⟨some s14, none, (.mv (.c (.v (.int .i64 0))))⟩
    .done))
  (.block 3 (.loop (.seq (.seq (.reg (.one ⟨some s81, none, (.mv (.t s14))⟩
    (.one ⟨some s82, none, (.mv (.t s12))⟩
    (.one ⟨some s83, none, (.len false (.t s82))⟩
    (.one ⟨some s84, none, (.bin false .lss (.t s81) (.t s83))⟩
    .done)))))
  (.cond (.t s84) .skip (.exit 3)))
  (.seq (.block 4 (.seq (.seq (.reg (.one ⟨some s87, none, (.mv (.t s12))⟩
    (.one ⟨some s88, none, (.mv (.t s14))⟩
    (.one ⟨some s89, none, (.iaddr 1 (.t s87) (.t s88))⟩
    (.one ⟨some s90, none, (.load none (.t s89))⟩
    (.one ⟨some s91, none, (.mv (.t s9))⟩
    (.one ⟨some s92, none, (.bin false .neq (.t s90) (.t s91))⟩
    .done)))))))
  (.cond (.t s92) (.seq (.reg (.one ⟨some s6, none, (.mv (.c (.v (.bool false))))⟩
    .done))
  .ret) .skip))
  (.reg (.one ⟨some s93, none, (.mv (.t s9))⟩
    (.one ⟨some s94, none, (.bin false .add (.t s93) (.c (.v (.int .i64 1))))⟩
    (.one ⟨some s95, none, (.mv (.t s0))⟩
    (.one ⟨some s96, none, (.bin false .shl (.c (.v (.int .i64 1))) (.t s95))⟩
    (.one ⟨some s97, none, (.bin false .rem (.t s94) (.t s96))⟩
    (.one ⟨some s9, none, (.mv (.t s97))⟩
    .done)))))))))
  (.reg (.one ⟨some s85, none, (.mv (.t s14))⟩
    (.one ⟨some s86, none, (.bin false .add (.t s85) (.c (.v (.int .i64 1))))⟩
    (.one ⟨some s14, none, (.mv (.t s86))⟩
    .done)))))))))) (.seq (.reg (.one ⟨some s99, none, (.bin false .eql (.t s65) (.c (.v (.int .i64 2))))⟩
    (.one ⟨some s98, none, (.mv (.t s99))⟩
    .done)))
  (.cond (.t s98) (.reg (.one ⟨some s100, none, (.mv (.t s7))⟩
    (.one ⟨some s101, none, (.faddr 1 (.t s11))⟩
    (.one ⟨some s102, none, (.load none (.t s101))⟩
    (.one ⟨some s103, none, (.call 30 [(.t s100), (.t s102)])⟩
    .done))))) .skip))))))))
  (.seq (.reg (.one ⟨some s104, none, (.mv (.t s7))⟩
    (.one ⟨some s105, none, (.callp 31 [(.t s104)])⟩
    (.one ⟨some s15, none, (.new [(.v (.int .i64 0)), (.v (.int .i64 0)), (.v (.int .i64 0))])⟩
    (.one ⟨none, none, (.store 3 (.t s15) (.t s105))⟩
    .done)))))
  (.seq (.seq (.reg (.one ⟨some s106, none, (.iaddrA 1 3 (.t s15) (.c (.v (.int .i64 0))))⟩
    (.one ⟨some s107, none, (.load none (.t s106))⟩
    (.one ⟨some s108, none, (.mv (.t s9))⟩
    (.one ⟨some s109, none, (.bin false .neq (.t s107) (.t s108))⟩
    (.one ⟨some s110, none, (.mv (.t s109))⟩
    (.one ⟨some s111, some (s110, false), (.mv (.t s7))⟩
    (.one ⟨some s112, some (s110, false), (.iaddrA 1 3 (.t s15) (.c (.v (.int .i64 1))))⟩
    (.one ⟨some s113, some (s110, false), (.load none (.t s112))⟩
    (.one ⟨some s115, some (s110, false), (.mv (.t s7))⟩
    (.one ⟨some s116, some (s110, false), (.iaddrA 1 3 (.t s15) (.c (.v (.int .i64 2))))⟩
    (.one ⟨some s117, some (s110, false), (.load none (.t s116))⟩
    (.one ⟨some s114, some (s110, false), (.callq 32 [(.t s111), (.t s113)])⟩
    (.one ⟨some s118, some (s110, false), (.callq 32 [(.t s115), (.t s117)])⟩
    (.one ⟨some s119, some (s110, false), (.bin false .gtr (.t s114) (.t s118))⟩
    (.one ⟨some s120, none, (.pick (.t s110) (.c (.v (.bool true))) (.t s119))⟩
    (.one ⟨some s121, none, (.mv (.t s120))⟩
    (.one ⟨some s122, some (s121, false), (.mv (.t s7))⟩
    (.one ⟨some s123, some (s121, false), (.iaddrA 1 3 (.t s15) (.c (.v (.int .i64 2))))⟩
    (.one ⟨some s124, some (s121, false), (.load none (.t s123))⟩
    (.one ⟨some s126, some (s121, false), (.mv (.t s1))⟩
    (.one ⟨some s125, some (s121, false), (.callq 32 [(.t s122), (.t s124)])⟩
    (.one ⟨some s127, some (s121, false), (.bin false .gtr (.t s125) (.t s126))⟩
    (.one ⟨some s128, none, (.pick (.t s121) (.c (.v (.bool true))) (.t s127))⟩
    (.one ⟨some s129, none, (.mv (.t s128))⟩
    (.one ⟨some s130, some (s129, false), (.mv (.t s7))⟩
    (.one ⟨some s131, some (s129, false), (.iaddrA 1 3 (.t s15) (.c (.v (.int .i64 0))))⟩
    (.one ⟨some s132, some (s129, false), (.load none (.t s131))⟩
    (.one ⟨some s133, some (s129, false), (.callp 33 [(.t s130), (.t s132)])⟩
    (.one ⟨some s134, none, (.pick (.t s129) (.c (.v (.bool true))) (.t s133))⟩
    .done))))))))))))))))))))))))))))))
  (.cond (.t s134) (.seq (.reg (.one ⟨some s6, none, (.mv (.c (.v (.bool false))))⟩
    .done))
  .ret) .skip))
  (.seq (.reg (.one ⟨some s135, none, (.mv (.t s7))⟩
    (.one ⟨some s136, none, (.callq 34 [(.t s135)])⟩
    (.one ⟨some s16, none, (.mv (.t s136))⟩
    .done))))
  (.seq (.reg (.one ⟨some s17, none, (.mv (.c (.v (.int .i64 0))))⟩
    .done))
  (.block 5 (.loop (.seq (.seq (.reg (.one ⟨some s137, none, (.mv (.t s17))⟩
    (.one ⟨some s138, none, (.mv (.t s16))⟩
    (.one ⟨some s139, none, (.len false (.t s138))⟩
    (.one ⟨some s140, none, (.bin false .lss (.t s137) (.t s139))⟩
    .done)))))
  (.cond (.t s140) .skip (.exit 5)))
  (.seq (.block 6 (.seq (.reg (.one ⟨some s143, none, (.mv (.t s7))⟩
    (.one ⟨some s144, none, (.mv (.t s16))⟩
    (.one ⟨some s145, none, (.mv (.t s17))⟩
    (.one ⟨some s146, none, (.iaddr 1 (.t s144) (.t s145))⟩
    (.one ⟨some s147, none, (.load none (.t s146))⟩
    (.one ⟨some s148, none, (.callp 33 [(.t s143), (.t s147)])⟩
    (.one ⟨some s149, none, (.mv (.t s148))⟩
    (.one ⟨some s150, some (s149, false), (.mv (.t s7))⟩
    (.one ⟨some s151, some (s149, false), (.mv (.t s16))⟩
    (.one ⟨some s152, some (s149, false), (.mv (.t s17))⟩
    (.one ⟨some s153, some (s149, false), (.iaddr 1 (.t s151) (.t s152))⟩
    (.one ⟨some s154, some (s149, false), (.load none (.t s153))⟩
    (.one ⟨some s155, some (s149, false), (.callp 35 [(.t s150), (.t s154)])⟩
    (.one ⟨some s156, some (s149, false), (.not (.t s155))⟩
    (.one ⟨some s157, none, (.pick (.t s149) (.c (.v (.bool true))) (.t s156))⟩
    (.one ⟨some s158, none, (.mv (.t s157))⟩
    (.one ⟨some s159, some (s158, false), (.mv (.t s7))⟩
    (.one ⟨some s160, some (s158, false), (.mv (.t s16))⟩
    (.one ⟨some s161, some (s158, false), (.mv (.t s17))⟩
    (.one ⟨some s162, some (s158, false), (.iaddr 1 (.t s160) (.t s161))⟩
    (.one ⟨some s163, some (s158, false), (.load none (.t s162))⟩
    (.one ⟨some s165, some (s158, false), (.mv (.t s7))⟩
    (.one ⟨some s166, some (s158, false), (.iaddrA 1 3 (.t s15) (.c (.v (.int .i64 1))))⟩
    (.one ⟨some s167, some (s158, false), (.load none (.t s166))⟩
    (.one ⟨some s164, some (s158, false), (.callq 32 [(.t s159), (.t s163)])⟩
    (.one ⟨some s168, some (s158, false), (.callq 32 [(.t s165), (.t s167)])⟩
    (.one ⟨some s169, some (s158, false), (.bin false .geq (.t s164) (.t s168))⟩
    (.one ⟨some s170, none, (.pick (.t s158) (.c (.v (.bool true))) (.t s169))⟩
    (.one ⟨some s171, none, (.mv (.t s170))⟩
    (.one ⟨some s172, some (s171, false), (.mv (.t s17))⟩
    (.one ⟨some s173, some (s171, false), (.bin false .gtr (.t s172) (.c (.v (.int .i64 0))))⟩
    (.one ⟨some s174, some (s171, false), (.mv (.t s173))⟩
    (.one ⟨some s175, some (s174, true), (.mv (.t s7))⟩
    (.one ⟨some s176, some (s174, true), (.mv (.t s16))⟩
    (.one ⟨some s177, some (s174, true), (.mv (.t s17))⟩
    (.one ⟨some s178, some (s174, true), (.bin false .sub (.t s177) (.c (.v (.int .i64 1))))⟩
    (.one ⟨some s179, some (s174, true), (.iaddr 1 (.t s176) (.t s178))⟩
    (.one ⟨some s180, some (s174, true), (.load none (.t s179))⟩
    (.one ⟨some s182, some (s174, true), (.mv (.t s7))⟩
    (.one ⟨some s183, some (s174, true), (.mv (.t s16))⟩
    (.one ⟨some s184, some (s174, true), (.mv (.t s17))⟩
    (.one ⟨some s185, some (s174, true), (.iaddr 1 (.t s183) (.t s184))⟩
    (.one ⟨some s186, some (s174, true), (.load none (.t s185))⟩
    (.one ⟨some s181, some (s174, true), (.callq 32 [(.t s175), (.t s180)])⟩
    (.one ⟨some s187, some (s174, true), (.callq 32 [(.t s182), (.t s186)])⟩
    (.one ⟨some s188, some (s174, true), (.bin false .geq (.t s181) (.t s187))⟩
    (.one ⟨some s189, some (s171, false), (.pick (.t s174) (.t s188) (.c (.v (.bool false))))⟩
    (.one ⟨some s190, none, (.pick (.t s171) (.c (.v (.bool true))) (.t s189))⟩
    .done)))))))))))))))))))))))))))))))))))))))))))))))))
  (.cond (.t s190) (.seq (.reg (.one ⟨some s6, none, (.mv (.c (.v (.bool false))))⟩
    .done))
  .ret) .skip)))
  (.reg (.one ⟨some s141, none, (.mv (.t s17))⟩
    (.one ⟨some s142, none, (.bin false .add (.t s141) (.c (.v (.int .i64 1))))⟩
    (.one ⟨some s17, none, (.mv (.t s142))⟩
    .done)))))))))))))))
  (.reg (.one ⟨some s58, none, (.mv (.t s10))⟩
    (.one ⟨some s59, none, (.bin false .add (.t s58) (.c (.v (.int .i64 1))))⟩
    (.one ⟨some s10, none, (.mv (.t s59))⟩
    .done)))))))))
  (.seq (.reg (.one ⟨some s191, none, (.callq 27 [])⟩
    (.one ⟨some s6, none, (.mv (.t s191))⟩
    .done)))
  .ret))))))⟩
theorem ok6 : compF Try.prog c6 Try.f6 = some ir6 := by kernel_rfl
theorem k_bowlinelaw23_RxwinOnce {args : List AVal} {σ : AHeap} {Q : AVal → AHeap → Prop} (hl : Nat.ble args.length 192 = true) (h : argsK (Env.full 9) 0 args fun env => evC Try.prog c6 ir6.body env σ (retQ ir6 Q)) : ACalls Try.prog 6 args σ Q :=
  acalls_of Try.func6 ok6 rfl (Nat.le_of_ble_eq_true hl) h
/- bowlinelaw23.RxwinFar -/
def c7 : Cfg := ⟨qs, [], 126, [], ps⟩
def ir7 : IFun := ⟨3, [.tmp s6],
  (.seq (.reg (.one ⟨some s6, none, (.mv (.c (.v (.bool false))))⟩
    .done))
  (.seq (.reg (.one ⟨some s18, none, (.mv (.t s0))⟩
    (.one ⟨some s19, none, (.mv (.t s1))⟩
    (.one ⟨some s20, none, (.callq 26 [(.t s18), (.t s19)])⟩
    (.one ⟨some s17, none, (.mv (.t s20))⟩
    (.one ⟨some s21, none, (.ext (.t s17) 0)⟩
    (.one ⟨some s22, none, (.ext (.t s17) 1)⟩
    (.one ⟨some s7, none, (.mv (.t s21))⟩
    (.one ⟨some s8, none, (.mv (.t s22))⟩
    .done)))))))))
  (.seq (.seq (.reg (.one ⟨some s23, none, (.mv (.t s8))⟩
    (.one ⟨some s24, none, (.bin false .neq (.t s23) (.c (.v (.int .i64 0))))⟩
    (.one ⟨some s25, none, (.mv (.t s24))⟩
    (.one ⟨some s26, some (s25, false), (.mv (.t s7))⟩
    (.one ⟨some s27, some (s25, false), (.eqNil 1 false (.t s26))⟩
    (.one ⟨some s28, none, (.pick (.t s25) (.c (.v (.bool true))) (.t s27))⟩
    .done)))))))
  (.cond (.t s28) (.seq (.reg (.one ⟨some s29, none, (.callq 27 [])⟩
    (.one ⟨some s6, none, (.mv (.t s29))⟩
    .done)))
  .ret) .skip))
  (.seq (.seq (.reg (.one ⟨some s9, none, (.mv (.c (.v (.int .i64 0))))⟩
    .done))
  (.block 0 (.loop (.seq (.seq (.reg (.one ⟨some s30, none, (.mv (.t s9))⟩
    (.one ⟨some s31, none, (.mv (.t s2))⟩
    (.one ⟨some s32, none, (.len false (.t s31))⟩
    (.one ⟨some s33, none, (.bin false .lss (.t s30) (.t s32))⟩
    (.one ⟨some s34, none, (.mv (.t s33))⟩
    (.one ⟨some s35, some (s34, true), (.mv (.t s9))⟩
    (.one ⟨some s36, some (s34, true), (.bin false .lss (.t s35) (.c (.v (.int .i64 100))))⟩
    (.one ⟨some s37, none, (.pick (.t s34) (.t s36) (.c (.v (.bool false))))⟩
    .done)))))))))
  (.cond (.t s37) .skip (.exit 0)))
  (.seq (.block 1 (.seq (.reg (.one ⟨some s40, none, (.mv (.t s2))⟩
    (.one ⟨some s41, none, (.mv (.t s9))⟩
    (.one ⟨some s42, none, (.iaddr 2 (.t s40) (.t s41))⟩
    (.one ⟨some s43, none, (.load (some 2) (.t s42))⟩
    (.one ⟨some s10, none, (.new [(.v (.int .i64 0)), (.v (.int .i64 0))])⟩
    (.one ⟨none, none, (.store 2 (.t s10) (.t s43))⟩
    .done)))))))
  (.seq (.reg (.one ⟨some s44, none, (.mv (.t s7))⟩
    (.one ⟨some s45, none, (.callp 31 [(.t s44)])⟩
    (.one ⟨some s46, none, (.mv (.t s7))⟩
    (.one ⟨some s47, none, (.faddr 1 (.t s10))⟩
    (.one ⟨some s48, none, (.load none (.t s47))⟩
    (.one ⟨some s49, none, (.callp 35 [(.t s46), (.t s48)])⟩
    (.one ⟨some s50, none, (.mv (.t s7))⟩
    (.one ⟨some s51, none, (.faddr 1 (.t s10))⟩
    (.one ⟨some s52, none, (.load none (.t s51))⟩
    (.one ⟨some s53, none, (.callp 33 [(.t s50), (.t s52)])⟩
    (.one ⟨some s11, none, (.new [(.v (.int .i64 0)), (.v (.int .i64 0)), (.v (.int .i64 0))])⟩
    (.one ⟨none, none, (.store 3 (.t s11) (.t s45))⟩
    (.one ⟨some s12, none, (.mv (.t s49))⟩
    (.one ⟨some s13, none, (.mv (.t s53))⟩
    .done)))))))))))))))
  (.seq (.seq (.reg (.one ⟨some s54, none, (.faddr 0 (.t s10))⟩
    (.one ⟨some s55, none, (.load none (.t s54))⟩
    (.one ⟨some s56, none, (.bin false .eql (.t s55) (.c (.v (.int .i64 0))))⟩
    .done))))
  (.cond (.t s56) (.seq (.reg (.one ⟨some s57, none, (.mv (.t s7))⟩
    (.one ⟨some s58, none, (.faddr 1 (.t s10))⟩
    (.one ⟨some s59, none, (.load none (.t s58))⟩
    (.one ⟨some s60, none, (.call 28 [(.t s57), (.t s59)])⟩
    (.one ⟨some s14, none, (.mv (.t s60))⟩
    .done))))))
  (.seq (.reg (.one ⟨some s61, none, (.mv (.t s14))⟩
    (.one ⟨some s62, none, (.bin false .eql (.t s61) (.c (.v (.int .i64 0))))⟩
    (.one ⟨some s63, none, (.mv (.t s12))⟩
    (.one ⟨some s64, none, (.bin true .neq (.t s62) (.t s63))⟩
    (.one ⟨some s65, none, (.mv (.t s64))⟩
    (.one ⟨some s66, some (s65, false), (.mv (.t s14))⟩
    (.one ⟨some s67, some (s65, false), (.bin false .neq (.t s66) (.c (.v (.int .i64 0))))⟩
    (.one ⟨some s68, some (s65, false), (.mv (.t s67))⟩
    (.one ⟨some s69, some (s68, true), (.mv (.t s7))⟩
    (.one ⟨some s70, some (s68, true), (.callp 31 [(.t s69)])⟩
    (.one ⟨some s71, some (s68, true), (.load (some 3) (.t s11))⟩
    (.one ⟨some s72, some (s68, true), (.eqAgg true [false, false, false] (.t s70) (.t s71))⟩
    (.one ⟨some s73, some (s65, false), (.pick (.t s68) (.t s72) (.c (.v (.bool false))))⟩
    (.one ⟨some s74, none, (.pick (.t s65) (.c (.v (.bool true))) (.t s73))⟩
    .done)))))))))))))))
  (.cond (.t s74) (.seq (.reg (.one ⟨some s6, none, (.mv (.c (.v (.bool false))))⟩
    .done))
  .ret) .skip))) .skip))
  (.seq (.reg (.one ⟨some s75, none, (.faddr 0 (.t s10))⟩
    (.one ⟨some s76, none, (.load none (.t s75))⟩
    (.one ⟨some s77, none, (.bin false .eql (.t s76) (.c (.v (.int .i64 1))))⟩
    .done))))
  (.cond (.t s77) (.seq (.reg (.one ⟨some s79, none, (.mv (.t s7))⟩
    (.one ⟨some s80, none, (.faddr 1 (.t s10))⟩
    (.one ⟨some s81, none, (.load none (.t s80))⟩
    (.one ⟨some s82, none, (.call 29 [(.t s79), (.t s81)])⟩
    (.one ⟨some s78, none, (.mv (.t s82))⟩
    (.one ⟨some s83, none, (.ext (.t s78) 0)⟩
    (.one ⟨some s84, none, (.ext (.t s78) 1)⟩
    (.one ⟨some s15, none, (.mv (.t s83))⟩
    (.one ⟨some s16, none, (.mv (.t s84))⟩
    .done))))))))))
  (.seq (.reg (.one ⟨some s85, none, (.mv (.t s16))⟩
    (.one ⟨some s86, none, (.bin false .eql (.t s85) (.c (.v (.int .i64 0))))⟩
    (.one ⟨some s87, none, (.mv (.t s12))⟩
    (.one ⟨some s88, none, (.mv (.t s87))⟩
    (.one ⟨some s89, some (s88, true), (.mv (.t s13))⟩
    (.one ⟨some s90, some (s88, true), (.not (.t s89))⟩
    (.one ⟨some s91, none, (.pick (.t s88) (.t s90) (.c (.v (.bool false))))⟩
    (.one ⟨some s92, none, (.bin true .neq (.t s86) (.t s91))⟩
    (.one ⟨some s93, none, (.mv (.t s92))⟩
    (.one ⟨some s94, some (s93, false), (.mv (.t s16))⟩
    (.one ⟨some s95, some (s93, false), (.bin false .neq (.t s94) (.c (.v (.int .i64 0))))⟩
    (.one ⟨some s96, some (s93, false), (.mv (.t s95))⟩
    (.one ⟨some s97, some (s96, true), (.mv (.t s7))⟩
    (.one ⟨some s98, some (s96, true), (.callp 31 [(.t s97)])⟩
    (.one ⟨some s99, some (s96, true), (.load (some 3) (.t s11))⟩
    (.one ⟨some s100, some (s96, true), (.eqAgg true [false, false, false] (.t s98) (.t s99))⟩
    (.one ⟨some s101, some (s96, true), (.mv (.t s100))⟩
    (.one ⟨some s102, some (s101, false), (.mv (.t s15))⟩
    (.one ⟨some s103, some (s101, false), (.len false (.t s102))⟩
    (.one ⟨some s104, some (s101, false), (.bin false .gtr (.t s103) (.c (.v (.int .i64 0))))⟩
    (.one ⟨some s105, some (s96, true), (.pick (.t s101) (.c (.v (.bool true))) (.t s104))⟩
    (.one ⟨some s106, some (s93, false), (.pick (.t s96) (.t s105) (.c (.v (.bool false))))⟩
    (.one ⟨some s107, none, (.pick (.t s93) (.c (.v (.bool true))) (.t s106))⟩
    (.one ⟨some s108, none, (.mv (.t s107))⟩
    (.one ⟨some s109, some (s108, false), (.mv (.t s16))⟩
    (.one ⟨some s110, some (s108, false), (.bin false .eql (.t s109) (.c (.v (.int .i64 0))))⟩
    (.one ⟨some s111, some (s108, false), (.mv (.t s110))⟩
    (.one ⟨some s112, some (s111, true), (.mv (.t s15))⟩
    (.one ⟨some s113, some (s111, true), (.len false (.t s112))⟩
    (.one ⟨some s114, some (s111, true), (.bin false .gtr (.t s113) (.c (.v (.int .i64 0))))⟩
    (.one ⟨some s115, some (s108, false), (.pick (.t s111) (.t s114) (.c (.v (.bool false))))⟩
    (.one ⟨some s116, some (s108, false), (.mv (.t s115))⟩
    (.one ⟨some s117, some (s116, true), (.mv (.t s15))⟩
    (.one ⟨some s118, some (s116, true), (.iaddr 1 (.t s117) (.c (.v (.int .i64 0))))⟩
    (.one ⟨some s119, some (s116, true), (.load none (.t s118))⟩
    (.one ⟨some s120, some (s116, true), (.iaddrA 1 3 (.t s11) (.c (.v (.int .i64 0))))⟩
    (.one ⟨some s121, some (s116, true), (.load none (.t s120))⟩
    (.one ⟨some s122, some (s116, true), (.bin false .neq (.t s119) (.t s121))⟩
    (.one ⟨some s123, some (s108, false), (.pick (.t s116) (.t s122) (.c (.v (.bool false))))⟩
    (.one ⟨some s124, none, (.pick (.t s108) (.c (.v (.bool true))) (.t s123))⟩
    .done)))))))))))))))))))))))))))))))))))))))))
  (.cond (.t s124) (.seq (.reg (.one ⟨some s6, none, (.mv (.c (.v (.bool false))))⟩
    .done))
  .ret) .skip))) .skip))))))
  (.reg (.one ⟨some s38, none, (.mv (.t s9))⟩
    (.one ⟨some s39, none, (.bin false .add (.t s38) (.c (.v (.int .i64 1))))⟩
    (.one ⟨some s9, none, (.mv (.t s39))⟩
    .done)))))))))
  (.seq (.reg (.one ⟨some s125, none, (.callq 27 [])⟩
    (.one ⟨some s6, none, (.mv (.t s125))⟩
    .done)))
  .ret)))))⟩
theorem ok7 : compF Try.prog c7 Try.f7 = some ir7 := by kernel_rfl
theorem k_bowlinelaw23_RxwinFar {args : List AVal} {σ : AHeap} {Q : AVal → AHeap → Prop} (hl : Nat.ble args.length 126 = true) (h : argsK (Env.full 9) 0 args fun env => evC Try.prog c7 ir7.body env σ (retQ ir7 Q)) : ACalls Try.prog 7 args σ Q :=
  acalls_of Try.func7 ok7 rfl (Nat.le_of_ble_eq_true hl) h
/- bowlinelaw23.RxwinLives -/
def c8 : Cfg := ⟨qs, [], 229, [], ps⟩
def ir8 : IFun := ⟨4, [.tmp s8],
  (.seq (.reg (.one ⟨some s8, none, (.mv (.c (.v (.bool false))))⟩
    .done))
  (.seq (.reg (.one ⟨some s25, none, (.mv (.t s0))⟩
    (.one ⟨some s26, none, (.mv (.t s1))⟩
    (.one ⟨some s27, none, (.callq 26 [(.t s25), (.t s26)])⟩
    (.one ⟨some s24, none, (.mv (.t s27))⟩
    (.one ⟨some s28, none, (.ext (.t s24) 0)⟩
    (.one ⟨some s29, none, (.ext (.t s24) 1)⟩
    (.one ⟨some s9, none, (.mv (.t s28))⟩
    (.one ⟨some s10, none, (.mv (.t s29))⟩
    .done)))))))))
  (.seq (.reg (.one ⟨some s30, none, (.mv (.t s0))⟩
    (.one ⟨some s31, none, (.callq 36 [(.t s30)])⟩
    (.one ⟨some s11, none, (.mv (.t s31))⟩
    .done))))
  (.seq (.seq (.reg (.one ⟨some s32, none, (.mv (.t s11))⟩
    (.one ⟨some s33, none, (.bin false .eql (.t s32) (.c (.v (.int .i64 0))))⟩
    (.one ⟨some s34, none, (.mv (.t s33))⟩
    (.one ⟨some s35, some (s34, false), (.mv (.t s1))⟩
    (.one ⟨some s36, some (s34, false), (.bin false .lss (.t s35) (.c (.v (.int .i64 1))))⟩
    (.one ⟨some s37, none, (.pick (.t s34) (.c (.v (.bool true))) (.t s36))⟩
    (.one ⟨some s38, none, (.mv (.t s37))⟩
    (.one ⟨some s39, some (s38, false), (.mv (.t s1))⟩
    (.one ⟨some s40, some (s38, false), (.mv (.t s11))⟩
    (.one ⟨some s41, some (s38, false), (.bin false .quo (.t s40) (.c (.v (.int .i64 2))))⟩
    (.one ⟨some s42, some (s38, false), (.bin false .gtr (.t s39) (.t s41))⟩
    (.one ⟨some s43, none, (.pick (.t s38) (.c (.v (.bool true))) (.t s42))⟩
    .done)))))))))))))
  (.cond (.t s43) (.seq (.reg (.one ⟨some s44, none, (.callq 27 [])⟩
    (.one ⟨some s45, none, (.mv (.t s44))⟩
    (.one ⟨some s46, some (s45, true), (.mv (.t s9))⟩
    (.one ⟨some s47, some (s45, true), (.eqNil 1 false (.t s46))⟩
    (.one ⟨some s48, none, (.pick (.t s45) (.t s47) (.c (.v (.bool false))))⟩
    (.one ⟨some s49, none, (.mv (.t s48))⟩
    (.one ⟨some s50, some (s49, true), (.mv (.t s10))⟩
    (.one ⟨some s51, some (s49, true), (.bin false .eql (.t s50) (.c (.v (.int .i64 1))))⟩
    (.one ⟨some s52, none, (.pick (.t s49) (.t s51) (.c (.v (.bool false))))⟩
    (.one ⟨some s8, none, (.mv (.t s52))⟩
    .done)))))))))))
  .ret) .skip))
  (.seq (.seq (.reg (.one ⟨some s53, none, (.mv (.t s10))⟩
    (.one ⟨some s54, none, (.bin false .neq (.t s53) (.c (.v (.int .i64 0))))⟩
    (.one ⟨some s55, none, (.mv (.t s54))⟩
    (.one ⟨some s56, some (s55, false), (.mv (.t s9))⟩
    (.one ⟨some s57, some (s55, false), (.eqNil 1 false (.t s56))⟩
    (.one ⟨some s58, none, (.pick (.t s55) (.c (.v (.bool true))) (.t s57))⟩
    .done)))))))
  (.cond (.t s58) (.seq (.reg (.one ⟨some s8, none, (.mv (.c (.v (.bool false))))⟩
    .done))
  .ret) .skip))
  (.seq (.reg (.one ⟨some s59, none, (.mv (.t s0))⟩
    (.one ⟨some s60, none, (.mv (.t s1))⟩
    (.one ⟨some s61, none, (.build [(.v (.int .i64 0)), (.v (.int .i64 0)), (.v (.int .i64 0)), (.v (.int .i64 0)), (.v (.int .i64 0)), (.slice 1 [] .full)] [(0, 1, (.t s59)), (1, 1, (.t s60))])⟩
    (.one ⟨some s62, none, (.box 6 (.t s61))⟩
    (.one ⟨some s12, none, (.mv (.t s62))⟩
    .done))))))
  (.seq (.seq (.reg (.one ⟨some s13, none, (.mv (.c (.v (.int .i64 0))))⟩
    .done))
  (.block 0 (.loop (.seq (.seq (.reg (.one ⟨some s63, none, (.mv (.t s13))⟩
    (.one ⟨some s64, none, (.mv (.t s2))⟩
    (.one ⟨some s65, none, (.len false (.t s64))⟩
    (.one ⟨some s66, none, (.bin false .lss (.t s63) (.t s65))⟩
    (.one ⟨some s67, none, (.mv (.t s66))⟩
    (.one ⟨some s68, some (s67, true), (.mv (.t s13))⟩
    (.one ⟨some s69, some (s67, true), (.bin false .lss (.t s68) (.c (.v (.int .i64 100))))⟩
    (.one ⟨some s70, none, (.pick (.t s67) (.t s69) (.c (.v (.bool false))))⟩
    .done)))))))))
  (.cond (.t s70) .skip (.exit 0)))
  (.seq (.block 1 (.seq (.reg (.one ⟨some s73, none, (.mv (.t s2))⟩
    (.one ⟨some s74, none, (.mv (.t s13))⟩
    (.one ⟨some s75, none, (.iaddr 2 (.t s73) (.t s74))⟩
    (.one ⟨some s76, none, (.load (some 2) (.t s75))⟩
    (.one ⟨some s14, none, (.new [(.v (.int .i64 0)), (.v (.int .i64 0))])⟩
    (.one ⟨none, none, (.store 2 (.t s14) (.t s76))⟩
    .done)))))))
  (.seq (.reg (.one ⟨some s15, none, (.mv (.c (.v (.bool true))))⟩
    .done))
  (.seq (.seq (.reg (.one ⟨some s77, none, (.faddr 0 (.t s14))⟩
    (.one ⟨some s78, none, (.load none (.t s77))⟩
    .done)))
  (.block 2 (.seq (.reg (.one ⟨some s80, none, (.bin false .eql (.t s78) (.c (.v (.int .i64 0))))⟩
    (.one ⟨some s79, none, (.mv (.t s80))⟩
    .done)))
  (.cond (.t s79) (.reg (.one ⟨some s81, none, (.mv (.t s9))⟩
    (.one ⟨some s82, none, (.faddr 1 (.t s14))⟩
    (.one ⟨some s83, none, (.load none (.t s82))⟩
    (.one ⟨some s85, none, (.mv (.t s12))⟩
    (.one ⟨some s86, none, (.faddr 1 (.t s14))⟩
    (.both (.one ⟨some s84, none, (.call 28 [(.t s81), (.t s83)])⟩
    (.one ⟨some s87, none, (.load none (.t s86))⟩
    (.one ⟨some s88, none, (.call 37 [(.t s85), (.t s87)])⟩
    (.one ⟨some s89, none, (.bin false .eql (.t s84) (.t s88))⟩
    (.one ⟨some s15, none, (.mv (.t s89))⟩
    .done))))) (.one ⟨some s87, none, (.load none (.t s86))⟩
    (.one ⟨some s84, none, (.call 28 [(.t s81), (.t s83)])⟩
    (.one ⟨some s88, none, (.call 37 [(.t s85), (.t s87)])⟩
    (.one ⟨some s89, none, (.bin false .eql (.t s84) (.t s88))⟩
    (.one ⟨some s15, none, (.mv (.t s89))⟩
    .done)))))))))))) (.seq (.reg (.one ⟨some s91, none, (.bin false .eql (.t s78) (.c (.v (.int .i64 1))))⟩
    (.one ⟨some s90, none, (.mv (.t s91))⟩
    .done)))
  (.cond (.t s90) (.seq (.reg (.one ⟨some s93, none, (.mv (.t s9))⟩
    (.one ⟨some s94, none, (.faddr 1 (.t s14))⟩
    (.one ⟨some s95, none, (.load none (.t s94))⟩
    (.one ⟨some s96, none, (.call 29 [(.t s93), (.t s95)])⟩
    (.one ⟨some s92, none, (.mv (.t s96))⟩
    (.one ⟨some s97, none, (.ext (.t s92) 0)⟩
    (.one ⟨some s98, none, (.ext (.t s92) 1)⟩
    (.one ⟨some s16, none, (.mv (.t s97))⟩
    (.one ⟨some s17, none, (.mv (.t s98))⟩
    .done))))))))))
  (.seq (.reg (.one ⟨some s100, none, (.mv (.t s12))⟩
    (.one ⟨some s101, none, (.faddr 1 (.t s14))⟩
    (.one ⟨some s102, none, (.load none (.t s101))⟩
    (.one ⟨some s103, none, (.call 38 [(.t s100), (.t s102)])⟩
    (.one ⟨some s99, none, (.mv (.t s103))⟩
    (.one ⟨some s104, none, (.ext (.t s99) 0)⟩
    (.one ⟨some s105, none, (.ext (.t s99) 1)⟩
    (.one ⟨some s18, none, (.mv (.t s104))⟩
    (.one ⟨some s19, none, (.mv (.t s105))⟩
    .done))))))))))
  (.reg (.one ⟨some s106, none, (.mv (.t s16))⟩
    (.one ⟨some s107, none, (.mv (.t s18))⟩
    (.one ⟨some s108, none, (.callq 39 [(.t s106), (.t s107)])⟩
    (.one ⟨some s109, none, (.mv (.t s108))⟩
    (.one ⟨some s110, some (s109, true), (.mv (.t s17))⟩
    (.one ⟨some s111, some (s109, true), (.mv (.t s19))⟩
    (.one ⟨some s112, some (s109, true), (.bin false .eql (.t s110) (.t s111))⟩
    (.one ⟨some s113, none, (.pick (.t s109) (.t s112) (.c (.v (.bool false))))⟩
    (.one ⟨some s15, none, (.mv (.t s113))⟩
    .done)))))))))))) (.seq (.reg (.one ⟨some s115, none, (.bin false .eql (.t s78) (.c (.v (.int .i64 2))))⟩
    (.one ⟨some s114, none, (.mv (.t s115))⟩
    .done)))
  (.cond (.t s114) (.reg (.one ⟨some s116, none, (.mv (.t s9))⟩
    (.one ⟨some s117, none, (.faddr 1 (.t s14))⟩
    (.one ⟨some s118, none, (.load none (.t s117))⟩
    (.one ⟨some s120, none, (.mv (.t s12))⟩
    (.one ⟨some s121, none, (.faddr 1 (.t s14))⟩
    (.both (.one ⟨some s119, none, (.call 30 [(.t s116), (.t s118)])⟩
    (.one ⟨some s122, none, (.load none (.t s121))⟩
    (.one ⟨some s123, none, (.call 40 [(.t s120), (.t s122)])⟩
    (.one ⟨some s124, none, (.bin false .eql (.t s119) (.t s123))⟩
    (.one ⟨some s15, none, (.mv (.t s124))⟩
    .done))))) (.one ⟨some s122, none, (.load none (.t s121))⟩
    (.one ⟨some s119, none, (.call 30 [(.t s116), (.t s118)])⟩
    (.one ⟨some s123, none, (.call 40 [(.t s120), (.t s122)])⟩
    (.one ⟨some s124, none, (.bin false .eql (.t s119) (.t s123))⟩
    (.one ⟨some s15, none, (.mv (.t s124))⟩
    .done)))))))))))) (.seq (.reg (.one ⟨some s126, none, (.bin false .eql (.t s78) (.c (.v (.int .i64 3))))⟩
    (.one ⟨some s125, none, (.mv (.t s126))⟩
    .done)))
  (.cond (.t s125) (.seq (.reg (.one ⟨some s127, none, (.mv (.t s9))⟩
    (.one ⟨some s128, none, (.call 41 [(.t s127)])⟩
    .done)))
  (.reg (.one ⟨some s129, none, (.mv (.t s12))⟩
    (.one ⟨some s130, none, (.mv (.t s12))⟩
    (.one ⟨some s131, none, (.mv (.t s12))⟩
    (.one ⟨some s132, none, (.mv (.t s12))⟩
    (.one ⟨some s133, none, (.nilchk (.t s129))⟩
    (.one ⟨some s134, none, (.faddr 2 (.t s133))⟩
    (.one ⟨none, none, (.store 1 (.t s134) (.c (.v (.int .i64 0))))⟩
    (.one ⟨some s135, none, (.nilchk (.t s130))⟩
    (.one ⟨some s136, none, (.faddr 3 (.t s135))⟩
    (.one ⟨none, none, (.store 1 (.t s136) (.c (.v (.int .i64 0))))⟩
    (.one ⟨some s137, none, (.nilchk (.t s131))⟩
    (.one ⟨some s138, none, (.faddr 4 (.t s137))⟩
    (.one ⟨none, none, (.store 1 (.t s138) (.c (.v (.int .i64 0))))⟩
    (.one ⟨some s139, none, (.nilchk (.t s132))⟩
    (.one ⟨some s140, none, (.faddr 5 (.t s139))⟩
    (.one ⟨none, none, (.store 1 (.t s140) (.c (.slice 1 [] .full)))⟩
    .done)))))))))))))))))) .skip))))))))))
  (.seq (.reg (.one ⟨some s141, none, (.mv (.t s15))⟩
    (.one ⟨some s142, none, (.not (.t s141))⟩
    (.one ⟨some s143, none, (.mv (.t s142))⟩
    (.one ⟨some s144, some (s143, false), (.mv (.t s9))⟩
    (.one ⟨some s145, some (s143, false), (.callp 31 [(.t s144)])⟩
    (.one ⟨some s146, some (s143, false), (.mv (.t s12))⟩
    (.one ⟨some s147, some (s143, false), (.callq 42 [(.t s146)])⟩
    (.one ⟨some s148, some (s143, false), (.eqAgg true [false, false, false] (.t s145) (.t s147))⟩
    (.one ⟨some s149, none, (.pick (.t s143) (.c (.v (.bool true))) (.t s148))⟩
    (.one ⟨some s150, none, (.mv (.t s149))⟩
    (.one ⟨some s151, some (s150, false), (.mv (.t s9))⟩
    (.one ⟨some s152, some (s150, false), (.callq 34 [(.t s151)])⟩
    (.one ⟨some s153, some (s150, false), (.mv (.t s12))⟩
    (.one ⟨some s154, some (s150, false), (.callq 43 [(.t s153)])⟩
    (.one ⟨some s155, some (s150, false), (.callq 39 [(.t s152), (.t s154)])⟩
    (.one ⟨some s156, some (s150, false), (.not (.t s155))⟩
    (.one ⟨some s157, none, (.pick (.t s150) (.c (.v (.bool true))) (.t s156))⟩
    (.one ⟨some s158, none, (.mv (.t s157))⟩
    (.one ⟨some s159, some (s158, false), (.mv (.t s9))⟩
    (.one ⟨some s160, some (s158, false), (.mv (.t s3))⟩
    (.one ⟨some s161, some (s158, false), (.callp 35 [(.t s159), (.t s160)])⟩
    (.one ⟨some s162, some (s158, false), (.mv (.t s12))⟩
    (.one ⟨some s163, some (s158, false), (.mv (.t s3))⟩
    (.one ⟨some s164, some (s158, false), (.callq 44 [(.t s162), (.t s163)])⟩
    (.one ⟨some s165, some (s158, false), (.bin true .neq (.t s161) (.t s164))⟩
    (.one ⟨some s166, none, (.pick (.t s158) (.c (.v (.bool true))) (.t s165))⟩
    (.one ⟨some s167, none, (.mv (.t s166))⟩
    (.one ⟨some s168, some (s167, false), (.mv (.t s9))⟩
    (.one ⟨some s169, some (s167, false), (.mv (.t s3))⟩
    (.one ⟨some s170, some (s167, false), (.callq 32 [(.t s168), (.t s169)])⟩
    (.one ⟨some s171, some (s167, false), (.mv (.t s12))⟩
    (.one ⟨some s172, some (s167, false), (.mv (.t s3))⟩
    (.one ⟨some s173, some (s167, false), (.callq 45 [(.t s171), (.t s172)])⟩
    (.one ⟨some s174, some (s167, false), (.bin false .neq (.t s170) (.t s173))⟩
    (.one ⟨some s175, none, (.pick (.t s167) (.c (.v (.bool true))) (.t s174))⟩
    (.one ⟨some s176, none, (.mv (.t s175))⟩
    (.one ⟨some s177, some (s176, false), (.mv (.t s9))⟩
    (.one ⟨some s178, some (s176, false), (.mv (.t s3))⟩
    (.one ⟨some s179, some (s176, false), (.callp 33 [(.t s177), (.t s178)])⟩
    (.one ⟨some s180, some (s176, false), (.mv (.t s12))⟩
    (.one ⟨some s181, some (s176, false), (.mv (.t s3))⟩
    (.one ⟨some s182, some (s176, false), (.callq 46 [(.t s180), (.t s181)])⟩
    (.one ⟨some s183, some (s176, false), (.bin true .neq (.t s179) (.t s182))⟩
    (.one ⟨some s184, none, (.pick (.t s176) (.c (.v (.bool true))) (.t s183))⟩
    .done)))))))))))))))))))))))))))))))))))))))))))))
  (.cond (.t s184) (.seq (.reg (.one ⟨some s8, none, (.mv (.c (.v (.bool false))))⟩
    .done))
  .ret) .skip))))))
  (.reg (.one ⟨some s71, none, (.mv (.t s13))⟩
    (.one ⟨some s72, none, (.bin false .add (.t s71) (.c (.v (.int .i64 1))))⟩
    (.one ⟨some s13, none, (.mv (.t s72))⟩
    .done)))))))))
  (.seq (.reg (.one ⟨some s20, none, (.mv (.c (.v (.pointer none))))⟩
    .done))
  (.seq (.reg (.one ⟨some s21, none, (.new [(.v (.int .i64 0)), (.v (.int .i64 0)), (.v (.int .i64 0)), (.v (.int .i64 0)), (.v (.int .i64 0)), (.v (.map none))])⟩
    .done))
  (.seq (.reg (.one ⟨some s185, none, (.mv (.t s20))⟩
    (.one ⟨some s186, none, (.call 41 [(.t s185)])⟩
    .done)))
  (.seq (.reg (.one ⟨some s188, none, (.mv (.t s20))⟩
    (.one ⟨some s189, none, (.call 29 [(.t s188), (.c (.v (.int .i64 0)))])⟩
    (.one ⟨some s187, none, (.mv (.t s189))⟩
    (.one ⟨some s190, none, (.ext (.t s187) 0)⟩
    (.one ⟨some s191, none, (.ext (.t s187) 1)⟩
    (.one ⟨some s22, none, (.mv (.t s190))⟩
    (.one ⟨some s23, none, (.mv (.t s191))⟩
    .done))))))))
  (.seq (.reg (.one ⟨some s192, none, (.callq 27 [])⟩
    (.one ⟨some s193, none, (.mv (.t s192))⟩
    (.one ⟨some s194, some (s193, true), (.mv (.t s23))⟩
    (.one ⟨some s195, some (s193, true), (.bin false .eql (.t s194) (.c (.v (.int .i64 6))))⟩
    (.one ⟨some s196, none, (.pick (.t s193) (.t s195) (.c (.v (.bool false))))⟩
    (.one ⟨some s197, none, (.mv (.t s196))⟩
    (.one ⟨some s198, some (s197, true), (.call 28 [(.t s21), (.c (.v (.int .i64 0)))])⟩
    (.one ⟨some s199, some (s197, true), (.bin false .eql (.t s198) (.c (.v (.int .i64 6))))⟩
    (.one ⟨some s200, none, (.pick (.t s197) (.t s199) (.c (.v (.bool false))))⟩
    (.one ⟨some s201, none, (.mv (.t s200))⟩
    (.one ⟨some s202, some (s201, true), (.mv (.t s20))⟩
    (.one ⟨some s203, some (s201, true), (.call 30 [(.t s202), (.c (.v (.int .i64 0)))])⟩
    (.one ⟨some s204, some (s201, true), (.bin false .eql (.t s203) (.c (.v (.int .i64 6))))⟩
    (.one ⟨some s205, none, (.pick (.t s201) (.t s204) (.c (.v (.bool false))))⟩
    (.one ⟨some s206, none, (.mv (.t s205))⟩
    (.one ⟨some s207, some (s206, true), (.mv (.t s20))⟩
    (.one ⟨some s208, some (s206, true), (.callp 35 [(.t s207), (.c (.v (.int .i64 0)))])⟩
    (.one ⟨some s209, some (s206, true), (.not (.t s208))⟩
    (.one ⟨some s210, none, (.pick (.t s206) (.t s209) (.c (.v (.bool false))))⟩
    (.one ⟨some s211, none, (.mv (.t s210))⟩
    (.one ⟨some s212, some (s211, true), (.callp 33 [(.t s21), (.c (.v (.int .i64 0)))])⟩
    (.one ⟨some s213, some (s211, true), (.not (.t s212))⟩
    (.one ⟨some s214, none, (.pick (.t s211) (.t s213) (.c (.v (.bool false))))⟩
    (.one ⟨some s215, none, (.mv (.t s214))⟩
    (.one ⟨some s216, some (s215, true), (.mv (.t s20))⟩
    (.one ⟨some s217, some (s215, true), (.callp 31 [(.t s216)])⟩
    (.one ⟨some s218, some (s215, true), (.build [(.v (.int .i64 0)), (.v (.int .i64 0)), (.v (.int .i64 0))] [])⟩
    (.one ⟨some s219, some (s215, true), (.eqAgg false [false, false, false] (.t s217) (.t s218))⟩
    (.one ⟨some s220, none, (.pick (.t s215) (.t s219) (.c (.v (.bool false))))⟩
    (.one ⟨some s221, none, (.mv (.t s220))⟩
    (.one ⟨some s222, some (s221, true), (.mv (.t s20))⟩
    (.one ⟨some s223, some (s221, true), (.callq 32 [(.t s222), (.c (.v (.int .i64 0)))])⟩
    (.one ⟨some s224, some (s221, true), (.callq 34 [(.t s21)])⟩
    (.one ⟨some s225, some (s221, true), (.len false (.t s224))⟩
    (.one ⟨some s226, some (s221, true), (.bin false .add (.t s223) (.t s225))⟩
    (.one ⟨some s227, some (s221, true), (.bin false .eql (.t s226) (.c (.v (.int .i64 0))))⟩
    (.one ⟨some s228, none, (.pick (.t s221) (.t s227) (.c (.v (.bool false))))⟩
    (.one ⟨some s8, none, (.mv (.t s228))⟩
    .done)))))))))))))))))))))))))))))))))))))))
  .ret))))))))))))⟩
theorem ok8 : compF Try.prog c8 Try.f8 = some ir8 := by kernel_rfl
theorem k_bowlinelaw23_RxwinLives {args : List AVal} {σ : AHeap} {Q : AVal → AHeap → Prop} (hl : Nat.ble args.length 229 = true) (h : argsK (Env.full 9) 0 args fun env => evC Try.prog c8 ir8.body env σ (retQ ir8 Q)) : ACalls Try.prog 8 args σ Q :=
  acalls_of Try.func8 ok8 rfl (Nat.le_of_ble_eq_true hl) h
/- bowlinelaw23.alive -/
def c27 : Cfg := ⟨qs, [], 97, [], ps⟩
def ir27 : IFun := ⟨0, [.tmp s0],
  (.seq (.reg (.one ⟨some s0, none, (.mv (.c (.v (.bool false))))⟩
    .done))
  (.seq (.reg (.one ⟨some s12, none, (.callq 26 [(.c (.v (.int .i64 3))), (.c (.v (.int .i64 4)))])⟩
    (.one ⟨some s11, none, (.mv (.t s12))⟩
    (.one ⟨some s13, none, (.ext (.t s11) 0)⟩
    (.one ⟨some s14, none, (.ext (.t s11) 1)⟩
    (.one ⟨some s1, none, (.mv (.t s13))⟩
    (.one ⟨some s2, none, (.mv (.t s14))⟩
    .done)))))))
  (.seq (.seq (.reg (.one ⟨some s15, none, (.mv (.t s2))⟩
    (.one ⟨some s16, none, (.bin false .neq (.t s15) (.c (.v (.int .i64 0))))⟩
    (.one ⟨some s17, none, (.mv (.t s16))⟩
    (.one ⟨some s18, some (s17, false), (.mv (.t s1))⟩
    (.one ⟨some s19, some (s17, false), (.eqNil 1 false (.t s18))⟩
    (.one ⟨some s20, none, (.pick (.t s17) (.c (.v (.bool true))) (.t s19))⟩
    .done)))))))
  (.cond (.t s20) (.seq (.reg (.one ⟨some s0, none, (.mv (.c (.v (.bool false))))⟩
    .done))
  .ret) .skip))
  (.seq (.reg (.one ⟨some s22, none, (.mv (.t s1))⟩
    (.one ⟨some s23, none, (.call 29 [(.t s22), (.c (.v (.int .i64 1)))])⟩
    (.one ⟨some s21, none, (.mv (.t s23))⟩
    (.one ⟨some s24, none, (.ext (.t s21) 0)⟩
    (.one ⟨some s25, none, (.ext (.t s21) 1)⟩
    (.one ⟨some s3, none, (.mv (.t s24))⟩
    (.one ⟨some s4, none, (.mv (.t s25))⟩
    .done))))))))
  (.seq (.reg (.one ⟨some s26, none, (.mv (.t s1))⟩
    (.one ⟨some s27, none, (.call 30 [(.t s26), (.c (.v (.int .i64 2)))])⟩
    (.one ⟨some s5, none, (.mv (.t s27))⟩
    .done))))
  (.seq (.reg (.one ⟨some s28, none, (.mv (.t s1))⟩
    (.one ⟨some s29, none, (.callq 34 [(.t s28)])⟩
    (.one ⟨some s6, none, (.mv (.t s29))⟩
    .done))))
  (.seq (.reg (.one ⟨some s31, none, (.mv (.t s1))⟩
    (.one ⟨some s32, none, (.call 29 [(.t s31), (.c (.v (.int .i64 0)))])⟩
    (.one ⟨some s30, none, (.mv (.t s32))⟩
    (.one ⟨some s33, none, (.ext (.t s30) 0)⟩
    (.one ⟨some s34, none, (.ext (.t s30) 1)⟩
    (.one ⟨some s7, none, (.mv (.t s33))⟩
    (.one ⟨some s8, none, (.mv (.t s34))⟩
    .done))))))))
  (.seq (.reg (.one ⟨some s36, none, (.mv (.t s1))⟩
    (.one ⟨some s37, none, (.call 29 [(.t s36), (.c (.v (.int .i64 0)))])⟩
    (.one ⟨some s35, none, (.mv (.t s37))⟩
    (.one ⟨some s38, none, (.ext (.t s35) 0)⟩
    (.one ⟨some s39, none, (.ext (.t s35) 1)⟩
    (.one ⟨some s9, none, (.mv (.t s38))⟩
    (.one ⟨some s10, none, (.mv (.t s39))⟩
    .done))))))))
  (.seq (.reg (.one ⟨some s40, none, (.mv (.t s3))⟩
    (.one ⟨some s41, none, (.len false (.t s40))⟩
    (.one ⟨some s42, none, (.bin false .eql (.t s41) (.c (.v (.int .i64 0))))⟩
    (.one ⟨some s43, none, (.mv (.t s42))⟩
    (.one ⟨some s44, some (s43, true), (.mv (.t s4))⟩
    (.one ⟨some s45, some (s43, true), (.bin false .eql (.t s44) (.c (.v (.int .i64 0))))⟩
    (.one ⟨some s46, none, (.pick (.t s43) (.t s45) (.c (.v (.bool false))))⟩
    (.one ⟨some s47, none, (.mv (.t s46))⟩
    (.one ⟨some s48, some (s47, true), (.mv (.t s5))⟩
    (.one ⟨some s49, some (s47, true), (.bin false .eql (.t s48) (.c (.v (.int .i64 0))))⟩
    (.one ⟨some s50, none, (.pick (.t s47) (.t s49) (.c (.v (.bool false))))⟩
    (.one ⟨some s51, none, (.mv (.t s50))⟩
    (.one ⟨some s52, some (s51, true), (.mv (.t s6))⟩
    (.one ⟨some s53, some (s51, true), (.len false (.t s52))⟩
    (.one ⟨some s54, some (s51, true), (.bin false .eql (.t s53) (.c (.v (.int .i64 1))))⟩
    (.one ⟨some s55, none, (.pick (.t s51) (.t s54) (.c (.v (.bool false))))⟩
    (.one ⟨some s56, none, (.mv (.t s55))⟩
    (.one ⟨some s57, some (s56, true), (.mv (.t s6))⟩
    (.one ⟨some s58, some (s56, true), (.iaddr 1 (.t s57) (.c (.v (.int .i64 0))))⟩
    (.one ⟨some s59, some (s56, true), (.load none (.t s58))⟩
    (.one ⟨some s60, some (s56, true), (.bin false .eql (.t s59) (.c (.v (.int .i64 0))))⟩
    (.one ⟨some s61, none, (.pick (.t s56) (.t s60) (.c (.v (.bool false))))⟩
    (.one ⟨some s62, none, (.mv (.t s61))⟩
    (.one ⟨some s63, some (s62, true), (.mv (.t s7))⟩
    (.one ⟨some s64, some (s62, true), (.len false (.t s63))⟩
    (.one ⟨some s65, some (s62, true), (.bin false .eql (.t s64) (.c (.v (.int .i64 2))))⟩
    (.one ⟨some s66, none, (.pick (.t s62) (.t s65) (.c (.v (.bool false))))⟩
    (.one ⟨some s67, none, (.mv (.t s66))⟩
    (.one ⟨some s68, some (s67, true), (.mv (.t s7))⟩
    (.one ⟨some s69, some (s67, true), (.iaddr 1 (.t s68) (.c (.v (.int .i64 1))))⟩
    (.one ⟨some s70, some (s67, true), (.load none (.t s69))⟩
    (.one ⟨some s71, some (s67, true), (.bin false .eql (.t s70) (.c (.v (.int .i64 1))))⟩
    (.one ⟨some s72, none, (.pick (.t s67) (.t s71) (.c (.v (.bool false))))⟩
    (.one ⟨some s73, none, (.mv (.t s72))⟩
    (.one ⟨some s74, some (s73, true), (.mv (.t s8))⟩
    (.one ⟨some s75, some (s73, true), (.bin false .eql (.t s74) (.c (.v (.int .i64 0))))⟩
    (.one ⟨some s76, none, (.pick (.t s73) (.t s75) (.c (.v (.bool false))))⟩
    (.one ⟨some s77, none, (.mv (.t s76))⟩
    (.one ⟨some s78, some (s77, true), (.mv (.t s10))⟩
    (.one ⟨some s79, some (s77, true), (.bin false .eql (.t s78) (.c (.v (.int .i64 11))))⟩
    (.one ⟨some s80, none, (.pick (.t s77) (.t s79) (.c (.v (.bool false))))⟩
    (.one ⟨some s81, none, (.mv (.t s80))⟩
    (.one ⟨some s82, some (s81, true), (.mv (.t s1))⟩
    (.one ⟨some s83, some (s81, true), (.callp 31 [(.t s82)])⟩
    (.one ⟨some s84, some (s81, true), (.build [(.v (.int .i64 0)), (.v (.int .i64 0)), (.v (.int .i64 0))] [(0, 1, (.c (.v (.int .i64 2)))), (1, 1, (.c (.v (.int .i64 2)))), (2, 1, (.c (.v (.int .i64 2))))])⟩
    (.one ⟨some s85, some (s81, true), (.eqAgg false [false, false, false] (.t s83) (.t s84))⟩
    (.one ⟨some s86, none, (.pick (.t s81) (.t s85) (.c (.v (.bool false))))⟩
    (.one ⟨some s87, none, (.mv (.t s86))⟩
    (.one ⟨some s88, some (s87, true), (.mv (.t s1))⟩
    (.one ⟨some s89, some (s87, true), (.call 28 [(.t s88), (.c (.v (.int .i64 7)))])⟩
    (.one ⟨some s90, some (s87, true), (.bin false .eql (.t s89) (.c (.v (.int .i64 11))))⟩
    (.one ⟨some s91, none, (.pick (.t s87) (.t s90) (.c (.v (.bool false))))⟩
    (.one ⟨some s92, none, (.mv (.t s91))⟩
    (.one ⟨some s93, some (s92, true), (.mv (.t s1))⟩
    (.one ⟨some s94, some (s92, true), (.call 28 [(.t s93), (.c (.v (.int .i64 8)))])⟩
    (.one ⟨some s95, some (s92, true), (.bin false .eql (.t s94) (.c (.v (.int .i64 1))))⟩
    (.one ⟨some s96, none, (.pick (.t s92) (.t s95) (.c (.v (.bool false))))⟩
    (.one ⟨some s0, none, (.mv (.t s96))⟩
    .done)))))))))))))))))))))))))))))))))))))))))))))))))))))))))))
  .ret)))))))))⟩
theorem ok27 : compF Try.prog c27 Try.f27 = some ir27 := by kernel_rfl
theorem k_bowlinelaw23_alive {args : List AVal} {σ : AHeap} {Q : AVal → AHeap → Prop} (hl : Nat.ble args.length 97 = true) (h : argsK (Env.full 9) 0 args fun env => evC Try.prog c27 ir27.body env σ (retQ ir27 Q)) : ACalls Try.prog 27 args σ Q :=
  acalls_of Try.func27 ok27 rfl (Nat.le_of_ble_eq_true hl) h
/- bowlinelaw23.same -/
def c39 : Cfg := ⟨qs, [], 26, [], ps⟩
def ir39 : IFun := ⟨2, [.tmp s4],
  (.seq (.reg (.one ⟨some s4, none, (.mv (.c (.v (.bool false))))⟩
    .done))
  (.seq (.seq (.reg (.one ⟨some s6, none, (.mv (.t s0))⟩
    (.one ⟨some s7, none, (.len false (.t s6))⟩
    (.one ⟨some s8, none, (.mv (.t s1))⟩
    (.one ⟨some s9, none, (.len false (.t s8))⟩
    (.one ⟨some s10, none, (.bin false .neq (.t s7) (.t s9))⟩
    .done))))))
  (.cond (.t s10) (.seq (.reg (.one ⟨some s4, none, (.mv (.c (.v (.bool false))))⟩
    .done))
  .ret) .skip))
  (.seq (.seq (.reg (.one ⟨some s5, none, (.mv (.c (.v (.int .i64 0))))⟩
    .done))
  (.block 0 (.loop (.seq (.seq (.reg (.one ⟨some s11, none, (.mv (.t s5))⟩
    (.one ⟨some s12, none, (.mv (.t s0))⟩
    (.one ⟨some s13, none, (.len false (.t s12))⟩
    (.one ⟨some s14, none, (.bin false .lss (.t s11) (.t s13))⟩
    .done)))))
  (.cond (.t s14) .skip (.exit 0)))
  (.seq (.block 1 (.seq (.reg (.one ⟨some s17, none, (.mv (.t s0))⟩
    (.one ⟨some s18, none, (.mv (.t s5))⟩
    (.one ⟨some s19, none, (.iaddr 1 (.t s17) (.t s18))⟩
    (.one ⟨some s20, none, (.load none (.t s19))⟩
    (.one ⟨some s21, none, (.mv (.t s1))⟩
    (.one ⟨some s22, none, (.mv (.t s5))⟩
    (.one ⟨some s23, none, (.iaddr 1 (.t s21) (.t s22))⟩
    (.one ⟨some s24, none, (.load none (.t s23))⟩
    (.one ⟨some s25, none, (.bin false .neq (.t s20) (.t s24))⟩
    .done))))))))))
  (.cond (.t s25) (.seq (.reg (.one ⟨some s4, none, (.mv (.c (.v (.bool false))))⟩
    .done))
  .ret) .skip)))
  (.reg (.one ⟨some s15, none, (.mv (.t s5))⟩
    (.one ⟨some s16, none, (.bin false .add (.t s15) (.c (.v (.int .i64 1))))⟩
    (.one ⟨some s5, none, (.mv (.t s16))⟩
    .done)))))))))
  (.seq (.reg (.one ⟨some s4, none, (.mv (.c (.v (.bool true))))⟩
    .done))
  .ret))))⟩
theorem ok39 : compF Try.prog c39 Try.f39 = some ir39 := by kernel_rfl
theorem k_bowlinelaw23_same {args : List AVal} {σ : AHeap} {Q : AVal → AHeap → Prop} (hl : Nat.ble args.length 26 = true) (h : argsK (Env.full 9) 0 args fun env => evC Try.prog c39 ir39.body env σ (retQ ir39 Q)) : ACalls Try.prog 39 args σ Q :=
  acalls_of Try.func39 ok39 rfl (Nat.le_of_ble_eq_true hl) h
end Go.Proofs.Ytnfdgccmpglbhaa
