/-
  Texts of this claim, pack 3: Irslices, Irseqnum, Irref02, Irstatus, Irbits, Irref11, Irlaw11, Irref01.
-/
import Derived.Test.YtnfdgccmpglbhaaK2
/-
  The bodies of one package, compiled to the framework's language (printed by a program of this session).
-/
namespace Go.Proofs.Ytnfdgccmpglbhaa
set_option linter.unusedVariables false
set_option linter.unusedSimpArgs false
open Go Go.Am
/- slices.Clone[[]byte,byte] -/
def c69 : Cfg := ⟨qs, [], 8, []⟩
def ir69 : IFun := ⟨1, [.tmp s2],
  (.seq (.reg (.one ⟨some s2, none, (.mv (.c (.slice 1 [] .full)))⟩
    .done))
  (.seq (.seq (.reg (.one ⟨some s3, none, (.mv (.t s0))⟩
    (.one ⟨some s4, none, (.eqNil 0 false (.t s3))⟩
    .done)))
  (.cond (.t s4) (.seq (.reg (.one ⟨some s2, none, (.mv (.c (.slice 1 [] .full)))⟩
    .done))
  .ret) .skip))
  (.seq (.reg (.one ⟨some s5, none, (.row 1 [])⟩
    (.one ⟨some s6, none, (.mv (.t s0))⟩
    (.one ⟨some s7, none, (.app 1 1 (.t s5) (.t s6))⟩
    (.one ⟨some s2, none, (.mv (.t s7))⟩
    .done)))))
  .ret)))⟩
theorem ok69 : compF Try.prog c69 Try.f69 = some ir69 := by kernel_rfl
theorem k_slices_Clone_byte_byte {args : List AVal} {σ : AHeap} {Q : AVal → AHeap → Prop} (hl : Nat.ble args.length 8 = true) (h : argsK (Env.full 9) 0 args fun env => evC Try.prog c69 ir69.body env σ (retQ ir69 Q)) : ACalls Try.prog 69 args σ Q :=
  acalls_of Try.func69 ok69 rfl (Nat.le_of_ble_eq_true hl) h
/- slices.Clone[[]byte,byte] -/
def c69m : Cfg := ⟨qs, [22, 23, 29, 36, 45, 47, 48, 58, 62, 87, 92], 8, []⟩
def ir69m : IFun := ⟨1, [.tmp s2],
  (.seq (.reg (.one ⟨some s2, none, (.mv (.c (.slice 1 [] .full)))⟩
    .done))
  (.seq (.seq (.reg (.one ⟨some s3, none, (.mv (.t s0))⟩
    (.one ⟨some s4, none, (.eqNil 0 false (.t s3))⟩
    .done)))
  (.cond (.t s4) (.seq (.reg (.one ⟨some s2, none, (.mv (.c (.slice 1 [] .full)))⟩
    .done))
  .ret) .skip))
  (.seq (.reg (.one ⟨some s5, none, (.row 1 [])⟩
    (.one ⟨some s6, none, (.mv (.t s0))⟩
    (.one ⟨some s7, none, (.appm 1 1 (.t s5) (.t s6))⟩
    (.one ⟨some s2, none, (.mv (.t s7))⟩
    .done)))))
  .ret)))⟩
theorem ok69m : compF Try.prog c69m Try.f69 = some ir69m := by kernel_rfl
theorem km_slices_Clone_byte_byte {args : List AVal} {σ : AHeap} {Q : AVal → AHeap → Prop} (hl : Nat.ble args.length 8 = true) (h : argsK (Env.full 9) 0 args fun env => evC Try.prog c69m ir69m.body env σ (retQ ir69m Q)) : ACalls Try.prog 69 args σ Q :=
  acalls_of Try.func69 ok69m rfl (Nat.le_of_ble_eq_true hl) h
end Go.Proofs.Ytnfdgccmpglbhaa
/-
  The bodies of one package, compiled to the framework's language (printed by a program of this session).
-/
namespace Go.Proofs.Ytnfdgccmpglbhaa
set_option linter.unusedVariables false
set_option linter.unusedSimpArgs false
open Go Go.Am
/- seqnum.Right -/
def c79 : Cfg := ⟨qs, [], 16, []⟩
def ir79 : IFun := ⟨1, [.tmp s2],
  (.seq (.reg (.one ⟨some s1, none, (.box 1 (.t s0))⟩
    (.one ⟨some s2, none, (.mv (.c (.v (.bool false))))⟩
    .done)))
  (.seq (.reg (.one ⟨some s3, none, (.load (some 1) (.t s1))⟩
    (.one ⟨some s4, none, (.build [(.v (.int .i64 0))] [])⟩
    (.one ⟨some s5, none, (.eqAgg true [false] (.t s3) (.t s4))⟩
    (.one ⟨some s6, none, (.mv (.t s5))⟩
    (.one ⟨some s7, some (s6, true), (.faddr 0 (.t s1))⟩
    (.one ⟨some s8, some (s6, true), (.load none (.t s7))⟩
    (.one ⟨some s9, some (s6, true), (.bin false .geq (.t s8) (.c (.v (.int .i64 1))))⟩
    (.one ⟨some s10, none, (.pick (.t s6) (.t s9) (.c (.v (.bool false))))⟩
    (.one ⟨some s11, none, (.mv (.t s10))⟩
    (.one ⟨some s12, some (s11, true), (.faddr 0 (.t s1))⟩
    (.one ⟨some s13, some (s11, true), (.load none (.t s12))⟩
    (.one ⟨some s14, some (s11, true), (.bin false .leq (.t s13) (.c (.v (.int .i64 16))))⟩
    (.one ⟨some s15, none, (.pick (.t s11) (.t s14) (.c (.v (.bool false))))⟩
    (.one ⟨some s2, none, (.mv (.t s15))⟩
    .done)))))))))))))))
  .ret))⟩
theorem ok79 : compF Try.prog c79 Try.f79 = some ir79 := by kernel_rfl
theorem k_seqnum_Right {args : List AVal} {σ : AHeap} {Q : AVal → AHeap → Prop} (hl : Nat.ble args.length 16 = true) (h : argsK (Env.full 9) 0 args fun env => evC Try.prog c79 ir79.body env σ (retQ ir79 Q)) : ACalls Try.prog 79 args σ Q :=
  acalls_of Try.func79 ok79 rfl (Nat.le_of_ble_eq_true hl) h
/- seqnum.Space).Size -/
def c80 : Cfg := ⟨qs, [], 9, []⟩
def ir80 : IFun := ⟨1, [.tmp s2],
  (.seq (.reg (.one ⟨some s1, none, (.box 1 (.t s0))⟩
    (.one ⟨some s2, none, (.mv (.c (.v (.int .i64 0))))⟩
    .done)))
  (.seq (.seq (.reg (.one ⟨some s3, none, (.load (some 1) (.t s1))⟩
    (.one ⟨some s4, none, (.callq 79 [(.t s3)])⟩
    (.one ⟨some s5, none, (.not (.t s4))⟩
    .done))))
  (.cond (.t s5) (.seq (.reg (.one ⟨some s2, none, (.mv (.c (.v (.int .i64 0))))⟩
    .done))
  .ret) .skip))
  (.seq (.reg (.one ⟨some s6, none, (.faddr 0 (.t s1))⟩
    (.one ⟨some s7, none, (.load none (.t s6))⟩
    (.one ⟨some s8, none, (.bin false .shl (.c (.v (.int .i64 1))) (.t s7))⟩
    (.one ⟨some s2, none, (.mv (.t s8))⟩
    .done)))))
  .ret)))⟩
theorem ok80 : compF Try.prog c80 Try.f80 = some ir80 := by kernel_rfl
theorem k_seqnum_Space_Size {args : List AVal} {σ : AHeap} {Q : AVal → AHeap → Prop} (hl : Nat.ble args.length 9 = true) (h : argsK (Env.full 9) 0 args fun env => evC Try.prog c80 ir80.body env σ (retQ ir80 Q)) : ACalls Try.prog 80 args σ Q :=
  acalls_of Try.func80 ok80 rfl (Nat.le_of_ble_eq_true hl) h
/- seqnum.Space).Far -/
def c85 : Cfg := ⟨qs, [], 24, []⟩
def ir85 : IFun := ⟨3, [.tmp s6, .tmp s7],
  (.seq (.reg (.one ⟨some s3, none, (.box 1 (.t s0))⟩
    (.one ⟨some s6, none, (.mv (.c (.v (.int .i64 0))))⟩
    (.one ⟨some s7, none, (.mv (.c (.v (.int .i64 0))))⟩
    .done))))
  (.seq (.seq (.reg (.one ⟨some s9, none, (.load (some 1) (.t s3))⟩
    (.one ⟨some s10, none, (.mv (.t s1))⟩
    (.one ⟨some s11, none, (.mv (.t s2))⟩
    (.one ⟨some s12, none, (.row 1 [(.t s10), (.t s11)])⟩
    (.one ⟨some s13, none, (.callq 121 [(.t s9), (.t s12)])⟩
    (.one ⟨some s8, none, (.mv (.t s13))⟩
    .done)))))))
  (.seq (.reg (.one ⟨some s14, none, (.mv (.t s8))⟩
    (.one ⟨some s15, none, (.bin false .neq (.t s14) (.c (.v (.int .i64 0))))⟩
    .done)))
  (.cond (.t s15) (.seq (.reg (.one ⟨some s16, none, (.mv (.t s8))⟩
    (.one ⟨some s6, none, (.mv (.c (.v (.int .i64 0))))⟩
    (.one ⟨some s7, none, (.mv (.t s16))⟩
    .done))))
  .ret) .skip)))
  (.seq (.reg (.one ⟨some s17, none, (.mv (.t s2))⟩
    (.one ⟨some s18, none, (.mv (.t s1))⟩
    (.one ⟨some s19, none, (.bin false .sub (.t s17) (.t s18))⟩
    (.one ⟨some s20, none, (.load (some 1) (.t s3))⟩
    (.one ⟨some s21, none, (.callq 80 [(.t s20)])⟩
    (.one ⟨some s22, none, (.bin false .sub (.t s21) (.c (.v (.int .i64 1))))⟩
    (.one ⟨some s23, none, (.bin false .and (.t s19) (.t s22))⟩
    (.one ⟨some s6, none, (.mv (.t s23))⟩
    (.one ⟨some s7, none, (.mv (.c (.v (.int .i64 0))))⟩
    .done))))))))))
  .ret)))⟩
theorem ok85 : compF Try.prog c85 Try.f85 = some ir85 := by kernel_rfl
theorem k_seqnum_Space_Far {args : List AVal} {σ : AHeap} {Q : AVal → AHeap → Prop} (hl : Nat.ble args.length 24 = true) (h : argsK (Env.full 9) 0 args fun env => evC Try.prog c85 ir85.body env σ (retQ ir85 Q)) : ACalls Try.prog 85 args σ Q :=
  acalls_of Try.func85 ok85 rfl (Nat.le_of_ble_eq_true hl) h
/- seqnum.Space).Is -/
def c106 : Cfg := ⟨qs, [], 13, []⟩
def ir106 : IFun := ⟨2, [.tmp s4],
  (.seq (.reg (.one ⟨some s2, none, (.box 1 (.t s0))⟩
    (.one ⟨some s4, none, (.mv (.c (.v (.bool false))))⟩
    .done)))
  (.seq (.reg (.one ⟨some s5, none, (.mv (.t s1))⟩
    (.one ⟨some s6, none, (.bin false .geq (.t s5) (.c (.v (.int .i64 0))))⟩
    (.one ⟨some s7, none, (.mv (.t s6))⟩
    (.one ⟨some s8, some (s7, true), (.mv (.t s1))⟩
    (.one ⟨some s9, some (s7, true), (.load (some 1) (.t s2))⟩
    (.one ⟨some s10, some (s7, true), (.callq 80 [(.t s9)])⟩
    (.one ⟨some s11, some (s7, true), (.bin false .lss (.t s8) (.t s10))⟩
    (.one ⟨some s12, none, (.pick (.t s7) (.t s11) (.c (.v (.bool false))))⟩
    (.one ⟨some s4, none, (.mv (.t s12))⟩
    .done))))))))))
  .ret))⟩
theorem ok106 : compF Try.prog c106 Try.f106 = some ir106 := by kernel_rfl
theorem k_seqnum_Space_Is {args : List AVal} {σ : AHeap} {Q : AVal → AHeap → Prop} (hl : Nat.ble args.length 13 = true) (h : argsK (Env.full 9) 0 args fun env => evC Try.prog c106 ir106.body env σ (retQ ir106 Q)) : ACalls Try.prog 106 args σ Q :=
  acalls_of Try.func106 ok106 rfl (Nat.le_of_ble_eq_true hl) h
/- seqnum.Space).Go -/
def c120 : Cfg := ⟨qs, [], 30, []⟩
def ir120 : IFun := ⟨3, [.tmp s6, .tmp s7],
  (.seq (.reg (.one ⟨some s3, none, (.box 1 (.t s0))⟩
    (.one ⟨some s6, none, (.mv (.c (.v (.int .i64 0))))⟩
    (.one ⟨some s7, none, (.mv (.c (.v (.int .i64 0))))⟩
    .done))))
  (.seq (.seq (.reg (.one ⟨some s9, none, (.load (some 1) (.t s3))⟩
    (.one ⟨some s10, none, (.mv (.t s1))⟩
    (.one ⟨some s11, none, (.row 1 [(.t s10)])⟩
    (.one ⟨some s12, none, (.callq 121 [(.t s9), (.t s11)])⟩
    (.one ⟨some s8, none, (.mv (.t s12))⟩
    .done))))))
  (.seq (.reg (.one ⟨some s13, none, (.mv (.t s8))⟩
    (.one ⟨some s14, none, (.bin false .neq (.t s13) (.c (.v (.int .i64 0))))⟩
    .done)))
  (.cond (.t s14) (.seq (.reg (.one ⟨some s15, none, (.mv (.t s8))⟩
    (.one ⟨some s6, none, (.mv (.c (.v (.int .i64 0))))⟩
    (.one ⟨some s7, none, (.mv (.t s15))⟩
    .done))))
  .ret) .skip)))
  (.seq (.seq (.reg (.one ⟨some s16, none, (.mv (.t s2))⟩
    (.one ⟨some s17, none, (.bin false .lss (.t s16) (.c (.v (.int .i64 (-65536)))))⟩
    (.one ⟨some s18, none, (.mv (.t s17))⟩
    (.one ⟨some s19, some (s18, false), (.mv (.t s2))⟩
    (.one ⟨some s20, some (s18, false), (.bin false .gtr (.t s19) (.c (.v (.int .i64 65536))))⟩
    (.one ⟨some s21, none, (.pick (.t s18) (.c (.v (.bool true))) (.t s20))⟩
    .done)))))))
  (.cond (.t s21) (.seq (.reg (.one ⟨some s6, none, (.mv (.c (.v (.int .i64 0))))⟩
    (.one ⟨some s7, none, (.mv (.c (.v (.int .i64 1))))⟩
    .done)))
  .ret) .skip))
  (.seq (.reg (.one ⟨some s22, none, (.mv (.t s1))⟩
    (.one ⟨some s23, none, (.mv (.t s2))⟩
    (.one ⟨some s24, none, (.bin false .add (.t s22) (.t s23))⟩
    (.one ⟨some s25, none, (.bin false .add (.t s24) (.c (.v (.int .i64 65536))))⟩
    (.one ⟨some s26, none, (.load (some 1) (.t s3))⟩
    (.one ⟨some s27, none, (.callq 80 [(.t s26)])⟩
    (.one ⟨some s28, none, (.bin false .sub (.t s27) (.c (.v (.int .i64 1))))⟩
    (.one ⟨some s29, none, (.bin false .and (.t s25) (.t s28))⟩
    (.one ⟨some s6, none, (.mv (.t s29))⟩
    (.one ⟨some s7, none, (.mv (.c (.v (.int .i64 0))))⟩
    .done)))))))))))
  .ret))))⟩
theorem ok120 : compF Try.prog c120 Try.f120 = some ir120 := by kernel_rfl
theorem k_seqnum_Space_Go {args : List AVal} {σ : AHeap} {Q : AVal → AHeap → Prop} (hl : Nat.ble args.length 30 = true) (h : argsK (Env.full 9) 0 args fun env => evC Try.prog c120 ir120.body env σ (retQ ir120 Q)) : ACalls Try.prog 120 args σ Q :=
  acalls_of Try.func120 ok120 rfl (Nat.le_of_ble_eq_true hl) h
/- seqnum.Space).ask -/
def c121 : Cfg := ⟨qs, [], 22, []⟩
def ir121 : IFun := ⟨2, [.tmp s4],
  (.seq (.reg (.one ⟨some s2, none, (.box 1 (.t s0))⟩
    (.one ⟨some s4, none, (.mv (.c (.v (.int .i64 0))))⟩
    .done)))
  (.scope (.seq (.seq (.reg (.one ⟨some s6, none, (.load (some 1) (.t s2))⟩
    (.one ⟨some s7, none, (.callq 79 [(.t s6)])⟩
    (.one ⟨some s8, none, (.not (.t s7))⟩
    .done))))
  (.cond (.t s8) (.seq (.reg (.one ⟨some s4, none, (.mv (.c (.v (.int .i64 3))))⟩
    .done))
  .ret) .skip))
  (.seq (.reg (.one ⟨some s5, none, (.mv (.c (.v (.int .i64 0))))⟩
    .done))
  (.seq (.label 0)
  (.seq (.seq (.reg (.one ⟨some s9, none, (.mv (.t s5))⟩
    (.one ⟨some s10, none, (.mv (.t s1))⟩
    (.one ⟨some s11, none, (.len false (.t s10))⟩
    (.one ⟨some s12, none, (.bin false .lss (.t s9) (.t s11))⟩
    .done)))))
  (.cond (.t s12) (.seq (.seq (.reg (.one ⟨some s13, none, (.load (some 1) (.t s2))⟩
    (.one ⟨some s14, none, (.mv (.t s1))⟩
    (.one ⟨some s15, none, (.mv (.t s5))⟩
    (.one ⟨some s16, none, (.iaddr 1 (.t s14) (.t s15))⟩
    (.one ⟨some s17, none, (.load none (.t s16))⟩
    (.one ⟨some s18, none, (.callq 106 [(.t s13), (.t s17)])⟩
    (.one ⟨some s19, none, (.not (.t s18))⟩
    .done))))))))
  (.cond (.t s19) (.seq (.reg (.one ⟨some s4, none, (.mv (.c (.v (.int .i64 1))))⟩
    .done))
  .ret) .skip))
  (.seq (.reg (.one ⟨some s20, none, (.mv (.t s5))⟩
    (.one ⟨some s21, none, (.bin false .add (.t s20) (.c (.v (.int .i64 1))))⟩
    (.one ⟨some s5, none, (.mv (.t s21))⟩
    .done))))
  (.goto 0))) .skip))
  (.seq (.reg (.one ⟨some s4, none, (.mv (.c (.v (.int .i64 0))))⟩
    .done))
  .ret)))))))⟩
theorem ok121 : compF Try.prog c121 Try.f121 = some ir121 := by kernel_rfl
theorem k_seqnum_Space_ask {args : List AVal} {σ : AHeap} {Q : AVal → AHeap → Prop} (hl : Nat.ble args.length 22 = true) (h : argsK (Env.full 9) 0 args fun env => evC Try.prog c121 ir121.body env σ (retQ ir121 Q)) : ACalls Try.prog 121 args σ Q :=
  acalls_of Try.func121 ok121 rfl (Nat.le_of_ble_eq_true hl) h
end Go.Proofs.Ytnfdgccmpglbhaa
/-
  The bodies of one package, compiled to the framework's language (printed by a program of this session).
-/
namespace Go.Proofs.Ytnfdgccmpglbhaa
set_option linter.unusedVariables false
set_option linter.unusedSimpArgs false
open Go Go.Am
/- bowlineref02.Size -/
def c36 : Cfg := ⟨qs, [], 19, []⟩
def ir36 : IFun := ⟨1, [.tmp s2],
  (.seq (.reg (.one ⟨some s2, none, (.mv (.c (.v (.int .i64 0))))⟩
    .done))
  (.seq (.seq (.reg (.one ⟨some s5, none, (.mv (.t s0))⟩
    (.one ⟨some s6, none, (.bin false .lss (.t s5) (.c (.v (.int .i64 1))))⟩
    (.one ⟨some s7, none, (.mv (.t s6))⟩
    (.one ⟨some s8, some (s7, false), (.mv (.t s0))⟩
    (.one ⟨some s9, some (s7, false), (.bin false .gtr (.t s8) (.c (.v (.int .i64 16))))⟩
    (.one ⟨some s10, none, (.pick (.t s7) (.c (.v (.bool true))) (.t s9))⟩
    .done)))))))
  (.cond (.t s10) (.seq (.reg (.one ⟨some s2, none, (.mv (.c (.v (.int .i64 0))))⟩
    .done))
  .ret) .skip))
  (.seq (.reg (.one ⟨some s3, none, (.mv (.c (.v (.int .i64 1))))⟩
    .done))
  (.seq (.seq (.reg (.one ⟨some s4, none, (.mv (.c (.v (.int .i64 0))))⟩
    .done))
  (.block 0 (.loop (.seq (.seq (.reg (.one ⟨some s11, none, (.mv (.t s4))⟩
    (.one ⟨some s12, none, (.mv (.t s0))⟩
    (.one ⟨some s13, none, (.bin false .lss (.t s11) (.t s12))⟩
    .done))))
  (.cond (.t s13) .skip (.exit 0)))
  (.seq (.block 1 (.reg (.one ⟨some s16, none, (.mv (.t s3))⟩
    (.one ⟨some s17, none, (.bin false .mul (.c (.v (.int .i64 2))) (.t s16))⟩
    (.one ⟨some s3, none, (.mv (.t s17))⟩
    .done)))))
  (.reg (.one ⟨some s14, none, (.mv (.t s4))⟩
    (.one ⟨some s15, none, (.bin false .add (.t s14) (.c (.v (.int .i64 1))))⟩
    (.one ⟨some s4, none, (.mv (.t s15))⟩
    .done)))))))))
  (.seq (.reg (.one ⟨some s18, none, (.mv (.t s3))⟩
    (.one ⟨some s2, none, (.mv (.t s18))⟩
    .done)))
  .ret)))))⟩
theorem ok36 : compF Try.prog c36 Try.f36 = some ir36 := by kernel_rfl
theorem k_bowlineref02_Size {args : List AVal} {σ : AHeap} {Q : AVal → AHeap → Prop} (hl : Nat.ble args.length 19 = true) (h : argsK (Env.full 9) 0 args fun env => evC Try.prog c36 ir36.body env σ (retQ ir36 Q)) : ACalls Try.prog 36 args σ Q :=
  acalls_of Try.func36 ok36 rfl (Nat.le_of_ble_eq_true hl) h
/- bowlineref02.Is -/
def c89 : Cfg := ⟨qs, [], 13, []⟩
def ir89 : IFun := ⟨2, [.tmp s4],
  (.seq (.reg (.one ⟨some s4, none, (.mv (.c (.v (.bool false))))⟩
    .done))
  (.seq (.reg (.one ⟨some s5, none, (.mv (.t s1))⟩
    (.one ⟨some s6, none, (.bin false .geq (.t s5) (.c (.v (.int .i64 0))))⟩
    (.one ⟨some s7, none, (.mv (.t s6))⟩
    (.one ⟨some s8, some (s7, true), (.mv (.t s1))⟩
    (.one ⟨some s9, some (s7, true), (.mv (.t s0))⟩
    (.one ⟨some s10, some (s7, true), (.callq 36 [(.t s9)])⟩
    (.one ⟨some s11, some (s7, true), (.bin false .lss (.t s8) (.t s10))⟩
    (.one ⟨some s12, none, (.pick (.t s7) (.t s11) (.c (.v (.bool false))))⟩
    (.one ⟨some s4, none, (.mv (.t s12))⟩
    .done))))))))))
  .ret))⟩
theorem ok89 : compF Try.prog c89 Try.f89 = some ir89 := by kernel_rfl
theorem k_bowlineref02_Is {args : List AVal} {σ : AHeap} {Q : AVal → AHeap → Prop} (hl : Nat.ble args.length 13 = true) (h : argsK (Env.full 9) 0 args fun env => evC Try.prog c89 ir89.body env σ (retQ ir89 Q)) : ACalls Try.prog 89 args σ Q :=
  acalls_of Try.func89 ok89 rfl (Nat.le_of_ble_eq_true hl) h
/- bowlineref02.Far -/
def c90 : Cfg := ⟨qs, [], 27, []⟩
def ir90 : IFun := ⟨3, [.tmp s6, .tmp s7],
  (.seq (.reg (.one ⟨some s6, none, (.mv (.c (.v (.int .i64 0))))⟩
    (.one ⟨some s7, none, (.mv (.c (.v (.int .i64 0))))⟩
    .done)))
  (.seq (.seq (.reg (.one ⟨some s8, none, (.mv (.t s0))⟩
    (.one ⟨some s9, none, (.callq 36 [(.t s8)])⟩
    (.one ⟨some s10, none, (.bin false .eql (.t s9) (.c (.v (.int .i64 0))))⟩
    .done))))
  (.cond (.t s10) (.seq (.reg (.one ⟨some s6, none, (.mv (.c (.v (.int .i64 0))))⟩
    (.one ⟨some s7, none, (.mv (.c (.v (.int .i64 3))))⟩
    .done)))
  .ret) .skip))
  (.seq (.seq (.reg (.one ⟨some s11, none, (.mv (.t s0))⟩
    (.one ⟨some s12, none, (.mv (.t s1))⟩
    (.one ⟨some s13, none, (.callq 89 [(.t s11), (.t s12)])⟩
    (.one ⟨some s14, none, (.not (.t s13))⟩
    (.one ⟨some s15, none, (.mv (.t s14))⟩
    (.one ⟨some s16, some (s15, false), (.mv (.t s0))⟩
    (.one ⟨some s17, some (s15, false), (.mv (.t s2))⟩
    (.one ⟨some s18, some (s15, false), (.callq 89 [(.t s16), (.t s17)])⟩
    (.one ⟨some s19, some (s15, false), (.not (.t s18))⟩
    (.one ⟨some s20, none, (.pick (.t s15) (.c (.v (.bool true))) (.t s19))⟩
    .done)))))))))))
  (.cond (.t s20) (.seq (.reg (.one ⟨some s6, none, (.mv (.c (.v (.int .i64 0))))⟩
    (.one ⟨some s7, none, (.mv (.c (.v (.int .i64 1))))⟩
    .done)))
  .ret) .skip))
  (.seq (.reg (.one ⟨some s21, none, (.mv (.t s2))⟩
    (.one ⟨some s22, none, (.mv (.t s1))⟩
    (.one ⟨some s23, none, (.bin false .sub (.t s21) (.t s22))⟩
    (.one ⟨some s24, none, (.mv (.t s0))⟩
    (.one ⟨some s25, none, (.callq 36 [(.t s24)])⟩
    (.one ⟨some s26, none, (.callq 122 [(.t s23), (.t s25)])⟩
    (.one ⟨some s6, none, (.mv (.t s26))⟩
    (.one ⟨some s7, none, (.mv (.c (.v (.int .i64 0))))⟩
    .done)))))))))
  .ret))))⟩
theorem ok90 : compF Try.prog c90 Try.f90 = some ir90 := by kernel_rfl
theorem k_bowlineref02_Far {args : List AVal} {σ : AHeap} {Q : AVal → AHeap → Prop} (hl : Nat.ble args.length 27 = true) (h : argsK (Env.full 9) 0 args fun env => evC Try.prog c90 ir90.body env σ (retQ ir90 Q)) : ACalls Try.prog 90 args σ Q :=
  acalls_of Try.func90 ok90 rfl (Nat.le_of_ble_eq_true hl) h
/- bowlineref02.mod -/
def c122 : Cfg := ⟨qs, [], 14, []⟩
def ir122 : IFun := ⟨2, [.tmp s4],
  (.seq (.reg (.one ⟨some s4, none, (.mv (.c (.v (.int .i64 0))))⟩
    .done))
  (.seq (.reg (.one ⟨some s5, none, (.mv (.t s0))⟩
    (.one ⟨some s6, none, (.mv (.t s1))⟩
    (.one ⟨some s7, none, (.bin false .rem (.t s5) (.t s6))⟩
    (.one ⟨some s0, none, (.mv (.t s7))⟩
    .done)))))
  (.seq (.seq (.reg (.one ⟨some s8, none, (.mv (.t s0))⟩
    (.one ⟨some s9, none, (.bin false .lss (.t s8) (.c (.v (.int .i64 0))))⟩
    .done)))
  (.cond (.t s9) (.reg (.one ⟨some s10, none, (.mv (.t s0))⟩
    (.one ⟨some s11, none, (.mv (.t s1))⟩
    (.one ⟨some s12, none, (.bin false .add (.t s10) (.t s11))⟩
    (.one ⟨some s0, none, (.mv (.t s12))⟩
    .done))))) .skip))
  (.seq (.reg (.one ⟨some s13, none, (.mv (.t s0))⟩
    (.one ⟨some s4, none, (.mv (.t s13))⟩
    .done)))
  .ret))))⟩
theorem ok122 : compF Try.prog c122 Try.f122 = some ir122 := by kernel_rfl
theorem k_bowlineref02_mod {args : List AVal} {σ : AHeap} {Q : AVal → AHeap → Prop} (hl : Nat.ble args.length 14 = true) (h : argsK (Env.full 9) 0 args fun env => evC Try.prog c122 ir122.body env σ (retQ ir122 Q)) : ACalls Try.prog 122 args σ Q :=
  acalls_of Try.func122 ok122 rfl (Nat.le_of_ble_eq_true hl) h
end Go.Proofs.Ytnfdgccmpglbhaa
/-
  The bodies of one package, compiled to the framework's language (printed by a program of this session).
-/
namespace Go.Proofs.Ytnfdgccmpglbhaa
set_option linter.unusedVariables false
set_option linter.unusedSimpArgs false
open Go Go.Am
/- status.Read -/
def c48 : Cfg := ⟨qs, [], 114, []⟩
def ir48 : IFun := ⟨2, [.cell s4 (some 2), .tmp s5],
  (.seq (.reg (.one ⟨some s4, none, (.new [(.v (.int .i64 0)), (.slice 4 [] .full)])⟩
    (.one ⟨some s5, none, (.mv (.c (.v (.int .i64 0))))⟩
    .done)))
  (.scope (.seq (.block 0 (.seq (.reg (.one ⟨some s14, none, (.mv (.t s1))⟩
    (.one ⟨some s15, none, (.callq 91 [(.t s14)])⟩
    (.one ⟨some s16, none, (.not (.t s15))⟩
    (.one ⟨some s13, none, (.mv (.t s16))⟩
    .done)))))
  (.cond (.t s13) (.seq (.reg (.one ⟨some s17, none, (.build [(.v (.int .i64 0)), (.slice 4 [] .full)] [])⟩
    (.one ⟨none, none, (.store 2 (.t s4) (.t s17))⟩
    (.one ⟨some s5, none, (.mv (.c (.v (.int .i64 9))))⟩
    .done))))
  .ret) (.seq (.reg (.one ⟨some s19, none, (.mv (.t s0))⟩
    (.one ⟨some s20, none, (.len false (.t s19))⟩
    (.one ⟨some s21, none, (.bin false .eql (.t s20) (.c (.v (.int .i64 0))))⟩
    (.one ⟨some s18, none, (.mv (.t s21))⟩
    .done)))))
  (.cond (.t s18) (.seq (.reg (.one ⟨some s22, none, (.build [(.v (.int .i64 0)), (.slice 4 [] .full)] [])⟩
    (.one ⟨none, none, (.store 2 (.t s4) (.t s22))⟩
    (.one ⟨some s5, none, (.mv (.c (.v (.int .i64 8))))⟩
    .done))))
  .ret) (.seq (.reg (.one ⟨some s24, none, (.mv (.t s0))⟩
    (.one ⟨some s25, none, (.iaddr 1 (.t s24) (.c (.v (.int .i64 0))))⟩
    (.one ⟨some s26, none, (.load none (.t s25))⟩
    (.one ⟨some s27, none, (.bin false .and (.t s26) (.c (.v (.int .u8 128))))⟩
    (.one ⟨some s28, none, (.bin false .neq (.t s27) (.c (.v (.int .u8 0))))⟩
    (.one ⟨some s23, none, (.mv (.t s28))⟩
    .done)))))))
  (.cond (.t s23) (.seq (.reg (.one ⟨some s29, none, (.build [(.v (.int .i64 0)), (.slice 4 [] .full)] [])⟩
    (.one ⟨none, none, (.store 2 (.t s4) (.t s29))⟩
    (.one ⟨some s5, none, (.mv (.c (.v (.int .i64 4))))⟩
    .done))))
  .ret) (.seq (.reg (.one ⟨some s31, none, (.mv (.t s0))⟩
    (.one ⟨some s32, none, (.iaddr 1 (.t s31) (.c (.v (.int .i64 0))))⟩
    (.one ⟨some s33, none, (.load none (.t s32))⟩
    (.one ⟨some s34, none, (.bin false .and (.t s33) (.c (.v (.int .u8 112))))⟩
    (.one ⟨some s35, none, (.bin false .neq (.t s34) (.c (.v (.int .u8 0))))⟩
    (.one ⟨some s30, none, (.mv (.t s35))⟩
    .done)))))))
  (.cond (.t s30) (.seq (.reg (.one ⟨some s36, none, (.build [(.v (.int .i64 0)), (.slice 4 [] .full)] [])⟩
    (.one ⟨none, none, (.store 2 (.t s4) (.t s36))⟩
    (.one ⟨some s5, none, (.mv (.c (.v (.int .i64 3))))⟩
    .done))))
  .ret) .skip)))))))))
  (.seq (.reg (.one ⟨some s37, none, (.mv (.t s0))⟩
    (.one ⟨some s38, none, (.callq 92 [(.t s37)])⟩
    (.one ⟨some s39, none, (.build [(.v (.pointer none)), (.v (.int .i64 0))] [(0, 1, (.t s38))])⟩
    (.one ⟨some s40, none, (.box 2 (.t s39))⟩
    (.one ⟨some s6, none, (.mv (.t s40))⟩
    .done))))))
  (.seq (.reg (.one ⟨some s41, none, (.mv (.t s6))⟩
    (.one ⟨some s42, none, (.call 93 [(.t s41), (.c (.v (.int .i64 4)))])⟩
    .done)))
  (.seq (.reg (.one ⟨some s7, none, (.new [(.v (.int .i64 0)), (.slice 4 [] .full)])⟩
    .done))
  (.seq (.reg (.one ⟨some s43, none, (.mv (.t s6))⟩
    (.one ⟨some s44, none, (.mv (.t s1))⟩
    (.one ⟨some s45, none, (.call 93 [(.t s43), (.t s44)])⟩
    (.one ⟨some s46, none, (.faddr 0 (.t s7))⟩
    (.one ⟨none, none, (.store 1 (.t s46) (.t s45))⟩
    .done))))))
  (.seq (.reg (.one ⟨some s47, none, (.mv (.t s6))⟩
    (.one ⟨some s48, none, (.call 93 [(.t s47), (.c (.v (.int .i64 1)))])⟩
    (.one ⟨some s49, none, (.bin false .eql (.t s48) (.c (.v (.int .i64 1))))⟩
    (.one ⟨some s8, none, (.mv (.t s49))⟩
    .done)))))
  (.seq (.label 0)
  (.seq (.block 1 (.seq (.reg (.one ⟨some s51, none, (.mv (.t s6))⟩
    (.one ⟨some s52, none, (.nilchk (.t s51))⟩
    (.one ⟨some s53, none, (.faddr 1 (.t s52))⟩
    (.one ⟨some s54, none, (.load none (.t s53))⟩
    (.one ⟨some s55, none, (.bin false .neq (.t s54) (.c (.v (.int .i64 0))))⟩
    (.one ⟨some s50, none, (.mv (.t s55))⟩
    .done)))))))
  (.cond (.t s50) (.seq (.reg (.one ⟨some s56, none, (.build [(.v (.int .i64 0)), (.slice 4 [] .full)] [])⟩
    (.one ⟨some s57, none, (.mv (.t s6))⟩
    (.one ⟨some s58, none, (.nilchk (.t s57))⟩
    (.one ⟨some s59, none, (.faddr 1 (.t s58))⟩
    (.both (.one ⟨some s60, none, (.load none (.t s59))⟩
    (.one ⟨none, none, (.store 2 (.t s4) (.t s56))⟩
    (.one ⟨some s5, none, (.mv (.t s60))⟩
    .done))) (.one ⟨none, none, (.store 2 (.t s4) (.t s56))⟩
    (.one ⟨some s60, none, (.load none (.t s59))⟩
    (.one ⟨some s5, none, (.mv (.t s60))⟩
    .done)))))))))
  .ret) (.seq (.reg (.one ⟨some s62, none, (.mv (.t s8))⟩
    (.one ⟨some s63, none, (.mv (.t s62))⟩
    (.one ⟨some s64, some (s63, true), (.faddr 1 (.t s7))⟩
    (.one ⟨some s65, some (s63, true), (.load none (.t s64))⟩
    (.one ⟨some s66, some (s63, true), (.len false (.t s65))⟩
    (.one ⟨some s67, some (s63, true), (.bin false .eql (.t s66) (.c (.v (.int .i64 32))))⟩
    (.one ⟨some s68, none, (.pick (.t s63) (.t s67) (.c (.v (.bool false))))⟩
    (.one ⟨some s61, none, (.mv (.t s68))⟩
    .done)))))))))
  (.cond (.t s61) (.seq (.reg (.one ⟨some s69, none, (.build [(.v (.int .i64 0)), (.slice 4 [] .full)] [])⟩
    (.one ⟨none, none, (.store 2 (.t s4) (.t s69))⟩
    (.one ⟨some s5, none, (.mv (.c (.v (.int .i64 2))))⟩
    .done))))
  .ret) (.seq (.reg (.one ⟨some s71, none, (.mv (.t s8))⟩
    (.one ⟨some s70, none, (.mv (.t s71))⟩
    .done)))
  (.cond (.t s70) (.seq (.reg (.one ⟨some s73, none, (.mv (.t s6))⟩
    (.one ⟨some s74, none, (.mv (.t s1))⟩
    (.one ⟨some s75, none, (.call 94 [(.t s73), (.t s74)])⟩
    (.one ⟨some s72, none, (.mv (.t s75))⟩
    (.one ⟨some s76, none, (.ext (.t s72) 0)⟩
    (.one ⟨some s77, none, (.ext (.t s72) 1)⟩
    (.one ⟨some s9, none, (.new [(.v (.int .i64 0)), (.v (.bool false)), (.v (.int .i64 0)), (.v (.int .i64 0))])⟩
    (.one ⟨none, none, (.store 4 (.t s9) (.t s76))⟩
    (.one ⟨some s10, none, (.mv (.t s77))⟩
    .done))))))))))
  (.seq (.seq (.reg (.one ⟨some s78, none, (.mv (.t s6))⟩
    (.one ⟨some s79, none, (.nilchk (.t s78))⟩
    (.one ⟨some s80, none, (.faddr 1 (.t s79))⟩
    (.one ⟨some s81, none, (.load none (.t s80))⟩
    (.one ⟨some s82, none, (.bin false .eql (.t s81) (.c (.v (.int .i64 0))))⟩
    (.one ⟨some s83, none, (.mv (.t s82))⟩
    (.one ⟨some s84, some (s83, true), (.load (some 4) (.t s9))⟩
    (.one ⟨some s85, some (s83, true), (.mv (.t s1))⟩
    (.one ⟨some s86, some (s83, true), (.callq 95 [(.t s84), (.t s85)])⟩
    (.one ⟨some s87, some (s83, true), (.not (.t s86))⟩
    (.one ⟨some s88, none, (.pick (.t s83) (.t s87) (.c (.v (.bool false))))⟩
    .done))))))))))))
  (.cond (.t s88) (.seq (.reg (.one ⟨some s89, none, (.build [(.v (.int .i64 0)), (.slice 4 [] .full)] [])⟩
    (.one ⟨none, none, (.store 2 (.t s4) (.t s89))⟩
    (.one ⟨some s5, none, (.mv (.c (.v (.int .i64 3))))⟩
    .done))))
  .ret) .skip))
  (.seq (.reg (.one ⟨some s90, none, (.faddr 1 (.t s7))⟩
    (.one ⟨some s91, none, (.load none (.t s90))⟩
    (.one ⟨some s92, none, (.load (some 4) (.t s9))⟩
    (.one ⟨some s93, none, (.row 4 [(.t s92)])⟩
    (.one ⟨some s94, none, (.app 4 32 (.t s91) (.t s93))⟩
    (.one ⟨some s95, none, (.faddr 1 (.t s7))⟩
    (.one ⟨none, none, (.store 1 (.t s95) (.t s94))⟩
    .done))))))))
  (.seq (.reg (.one ⟨some s96, none, (.mv (.t s10))⟩
    (.one ⟨some s8, none, (.mv (.t s96))⟩
    .done)))
  (.goto 0))))) .skip)))))))
  (.seq (.seq (.reg (.one ⟨some s98, none, (.mv (.t s6))⟩
    (.one ⟨some s99, none, (.nilchk (.t s98))⟩
    (.one ⟨some s100, none, (.faddr 0 (.t s99))⟩
    (.one ⟨some s101, none, (.load none (.t s100))⟩
    (.one ⟨some s102, none, (.call 96 [(.t s101)])⟩
    (.one ⟨some s97, none, (.mv (.t s102))⟩
    (.one ⟨some s103, none, (.ext (.t s97) 0)⟩
    (.one ⟨some s104, none, (.ext (.t s97) 1)⟩
    (.one ⟨some s11, none, (.mv (.t s103))⟩
    (.one ⟨some s12, none, (.mv (.t s104))⟩
    .done)))))))))))
  (.seq (.reg (.one ⟨some s105, none, (.mv (.t s12))⟩
    (.one ⟨some s106, none, (.bin false .neq (.t s105) (.c (.v (.int .i64 0))))⟩
    (.one ⟨some s107, none, (.mv (.t s106))⟩
    (.one ⟨some s108, some (s107, false), (.mv (.t s11))⟩
    (.one ⟨some s109, some (s107, false), (.len false (.t s108))⟩
    (.one ⟨some s110, some (s107, false), (.bin false .gtr (.t s109) (.c (.v (.int .i64 0))))⟩
    (.one ⟨some s111, none, (.pick (.t s107) (.c (.v (.bool true))) (.t s110))⟩
    .done))))))))
  (.cond (.t s111) (.seq (.reg (.one ⟨some s112, none, (.build [(.v (.int .i64 0)), (.slice 4 [] .full)] [])⟩
    (.one ⟨none, none, (.store 2 (.t s4) (.t s112))⟩
    (.one ⟨some s5, none, (.mv (.c (.v (.int .i64 3))))⟩
    .done))))
  .ret) .skip)))
  (.seq (.reg (.one ⟨some s113, none, (.load (some 2) (.t s7))⟩
    (.one ⟨none, none, (.store 2 (.t s4) (.t s113))⟩
    (.one ⟨some s5, none, (.mv (.c (.v (.int .i64 0))))⟩
    .done))))
  .ret))))))))))))⟩
theorem ok48 : compF Try.prog c48 Try.f48 = some ir48 := by kernel_rfl
theorem k_status_Read {args : List AVal} {σ : AHeap} {Q : AVal → AHeap → Prop} (hl : Nat.ble args.length 114 = true) (h : argsK (Env.full 9) 0 args fun env => evC Try.prog c48 ir48.body env σ (retQ ir48 Q)) : ACalls Try.prog 48 args σ Q :=
  acalls_of Try.func48 ok48 rfl (Nat.le_of_ble_eq_true hl) h
/- status.Write -/
def c52 : Cfg := ⟨qs, [], 87, []⟩
def ir52 : IFun := ⟨2, [.tmp s4, .tmp s5],
  (.seq (.reg (.one ⟨some s2, none, (.box 2 (.t s0))⟩
    (.one ⟨some s4, none, (.mv (.c (.slice 1 [] .full)))⟩
    (.one ⟨some s5, none, (.mv (.c (.v (.int .i64 0))))⟩
    .done))))
  (.seq (.block 0 (.seq (.reg (.one ⟨some s11, none, (.mv (.t s1))⟩
    (.one ⟨some s12, none, (.callq 91 [(.t s11)])⟩
    (.one ⟨some s13, none, (.not (.t s12))⟩
    (.one ⟨some s10, none, (.mv (.t s13))⟩
    .done)))))
  (.cond (.t s10) (.seq (.reg (.one ⟨some s4, none, (.mv (.c (.slice 1 [] .full)))⟩
    (.one ⟨some s5, none, (.mv (.c (.v (.int .i64 9))))⟩
    .done)))
  .ret) (.seq (.reg (.one ⟨some s15, none, (.load (some 2) (.t s2))⟩
    (.one ⟨some s16, none, (.mv (.t s1))⟩
    (.one ⟨some s17, none, (.callq 54 [(.t s15), (.t s16)])⟩
    (.one ⟨some s18, none, (.not (.t s17))⟩
    (.one ⟨some s14, none, (.mv (.t s18))⟩
    .done))))))
  (.cond (.t s14) (.seq (.reg (.one ⟨some s4, none, (.mv (.c (.slice 1 [] .full)))⟩
    (.one ⟨some s5, none, (.mv (.c (.v (.int .i64 3))))⟩
    .done)))
  .ret) .skip)))))
  (.seq (.reg (.one ⟨some s19, none, (.callq 101 [])⟩
    (.one ⟨some s6, none, (.mv (.t s19))⟩
    .done)))
  (.seq (.reg (.one ⟨some s20, none, (.mv (.t s6))⟩
    (.one ⟨some s21, none, (.call 102 [(.t s20), (.c (.v (.int .u64 0))), (.c (.v (.int .i64 4)))])⟩
    .done)))
  (.seq (.reg (.one ⟨some s22, none, (.mv (.t s6))⟩
    (.one ⟨some s23, none, (.faddr 0 (.t s2))⟩
    (.one ⟨some s24, none, (.load none (.t s23))⟩
    (.one ⟨some s25, none, (.conv .u64 (.t s24))⟩
    (.one ⟨some s26, none, (.mv (.t s1))⟩
    (.one ⟨some s27, none, (.call 102 [(.t s22), (.t s25), (.t s26)])⟩
    .done)))))))
  (.seq (.reg (.one ⟨some s28, none, (.mv (.t s6))⟩
    (.one ⟨some s29, none, (.faddr 1 (.t s2))⟩
    (.one ⟨some s30, none, (.load none (.t s29))⟩
    (.one ⟨some s31, none, (.len false (.t s30))⟩
    (.one ⟨some s32, none, (.bin false .gtr (.t s31) (.c (.v (.int .i64 0))))⟩
    (.one ⟨some s33, none, (.callq 103 [(.t s32)])⟩
    (.one ⟨some s34, none, (.call 102 [(.t s28), (.t s33), (.c (.v (.int .i64 1)))])⟩
    .done))))))))
  (.seq (.seq (.reg (.one ⟨some s35, none, (.faddr 1 (.t s2))⟩
    (.one ⟨some s36, none, (.load none (.t s35))⟩
    (.one ⟨some s37, none, (.len false (.t s36))⟩
    (.one ⟨some s38, none, (.mv (.c (.v (.int .i64 0))))⟩
    .done)))))
  (.block 1 (.loop (.seq (.reg (.one ⟨some s39, none, (.bin false .lss (.t s38) (.t s37))⟩
    .done))
  (.seq (.cond (.t s39) .skip (.exit 1))
  (.seq (.block 2 (.seq (.reg (.one ⟨some s40, none, (.mv (.t s38))⟩
    (.one ⟨some s41, none, (.iaddr 4 (.t s36) (.t s38))⟩
    (.one ⟨some s42, none, (.load (some 4) (.t s41))⟩
    (.one ⟨some s8, none, (.new [(.v (.int .i64 0)), (.v (.bool false)), (.v (.int .i64 0)), (.v (.int .i64 0))])⟩
    (.one ⟨some s7, none, (.mv (.t s40))⟩
    (.one ⟨none, none, (.store 4 (.t s8) (.t s42))⟩
    .done)))))))
  (.seq (.reg (.one ⟨some s43, none, (.mv (.t s6))⟩
    (.one ⟨some s44, none, (.faddr 0 (.t s8))⟩
    (.one ⟨some s45, none, (.load none (.t s44))⟩
    (.one ⟨some s46, none, (.conv .u64 (.t s45))⟩
    (.one ⟨some s47, none, (.mv (.t s1))⟩
    (.one ⟨some s48, none, (.call 102 [(.t s43), (.t s46), (.t s47)])⟩
    .done)))))))
  (.seq (.reg (.one ⟨some s49, none, (.mv (.t s6))⟩
    (.one ⟨some s50, none, (.mv (.t s7))⟩
    (.one ⟨some s51, none, (.faddr 1 (.t s2))⟩
    (.one ⟨some s52, none, (.load none (.t s51))⟩
    (.one ⟨some s53, none, (.len false (.t s52))⟩
    (.one ⟨some s54, none, (.bin false .sub (.t s53) (.c (.v (.int .i64 1))))⟩
    (.one ⟨some s55, none, (.bin false .lss (.t s50) (.t s54))⟩
    (.one ⟨some s56, none, (.callq 103 [(.t s55)])⟩
    (.one ⟨some s57, none, (.call 102 [(.t s49), (.t s56), (.c (.v (.int .i64 1)))])⟩
    .done))))))))))
  (.seq (.reg (.one ⟨some s58, none, (.mv (.t s6))⟩
    (.one ⟨some s59, none, (.faddr 1 (.t s8))⟩
    (.one ⟨some s60, none, (.load none (.t s59))⟩
    (.one ⟨some s61, none, (.callq 103 [(.t s60)])⟩
    (.one ⟨some s62, none, (.call 102 [(.t s58), (.t s61), (.c (.v (.int .i64 1)))])⟩
    .done))))))
  (.seq (.reg (.one ⟨some s63, none, (.faddr 1 (.t s8))⟩
    (.one ⟨some s64, none, (.load none (.t s63))⟩
    .done)))
  (.cond (.t s64) (.seq (.reg (.one ⟨some s65, none, (.mv (.t s1))⟩
    (.one ⟨some s66, none, (.callq 104 [(.t s65)])⟩
    (.one ⟨some s9, none, (.mv (.t s66))⟩
    .done))))
  (.seq (.reg (.one ⟨some s67, none, (.mv (.t s6))⟩
    (.one ⟨some s68, none, (.faddr 2 (.t s8))⟩
    (.one ⟨some s69, none, (.load none (.t s68))⟩
    (.one ⟨some s70, none, (.conv .u64 (.t s69))⟩
    (.one ⟨some s71, none, (.mv (.t s9))⟩
    (.one ⟨some s72, none, (.call 102 [(.t s67), (.t s70), (.t s71)])⟩
    .done)))))))
  (.reg (.one ⟨some s73, none, (.mv (.t s6))⟩
    (.one ⟨some s74, none, (.faddr 3 (.t s8))⟩
    (.one ⟨some s78, none, (.mv (.t s9))⟩
    (.one ⟨some s79, none, (.bin false .shl (.c (.v (.int .u64 1))) (.t s78))⟩
    (.one ⟨some s80, none, (.bin false .sub (.t s79) (.c (.v (.int .u64 1))))⟩
    (.one ⟨some s82, none, (.mv (.t s9))⟩
    (.one ⟨some s75, none, (.load none (.t s74))⟩
    (.one ⟨some s76, none, (.bin false .sub (.t s75) (.c (.v (.int .i64 1))))⟩
    (.one ⟨some s77, none, (.conv .u64 (.t s76))⟩
    (.one ⟨some s81, none, (.bin false .and (.t s77) (.t s80))⟩
    (.one ⟨some s83, none, (.call 102 [(.t s73), (.t s81), (.t s82)])⟩
    .done)))))))))))))) .skip)))))))
  (.reg (.one ⟨some s84, none, (.bin false .add (.t s38) (.c (.v (.int .i64 1))))⟩
    (.one ⟨some s38, none, (.mv (.t s84))⟩
    .done)))))))))
  (.seq (.reg (.one ⟨some s85, none, (.mv (.t s6))⟩
    (.one ⟨some s86, none, (.callq 105 [(.t s85)])⟩
    (.one ⟨some s4, none, (.mv (.t s86))⟩
    (.one ⟨some s5, none, (.mv (.c (.v (.int .i64 0))))⟩
    .done)))))
  .ret))))))))⟩
theorem ok52 : compF Try.prog c52 Try.f52 = some ir52 := by kernel_rfl
theorem k_status_Write {args : List AVal} {σ : AHeap} {Q : AVal → AHeap → Prop} (hl : Nat.ble args.length 87 = true) (h : argsK (Env.full 9) 0 args fun env => evC Try.prog c52 ir52.body env σ (retQ ir52 Q)) : ACalls Try.prog 52 args σ Q :=
  acalls_of Try.func52 ok52 rfl (Nat.le_of_ble_eq_true hl) h
/- status.Size -/
def c53 : Cfg := ⟨qs, [], 38, []⟩
def ir53 : IFun := ⟨2, [.tmp s4],
  (.seq (.reg (.one ⟨some s2, none, (.box 2 (.t s0))⟩
    (.one ⟨some s4, none, (.mv (.c (.v (.int .i64 0))))⟩
    .done)))
  (.seq (.seq (.reg (.one ⟨some s8, none, (.load (some 2) (.t s2))⟩
    (.one ⟨some s9, none, (.mv (.t s1))⟩
    (.one ⟨some s10, none, (.callq 54 [(.t s8), (.t s9)])⟩
    (.one ⟨some s11, none, (.not (.t s10))⟩
    .done)))))
  (.cond (.t s11) (.seq (.reg (.one ⟨some s4, none, (.mv (.c (.v (.int .i64 0))))⟩
    .done))
  .ret) .skip))
  (.seq (.reg (.one ⟨some s12, none, (.mv (.t s1))⟩
    (.one ⟨some s13, none, (.bin false .add (.c (.v (.int .i64 4))) (.t s12))⟩
    (.one ⟨some s14, none, (.bin false .add (.t s13) (.c (.v (.int .i64 1))))⟩
    (.one ⟨some s5, none, (.mv (.t s14))⟩
    .done)))))
  (.seq (.seq (.reg (.one ⟨some s15, none, (.faddr 1 (.t s2))⟩
    (.one ⟨some s16, none, (.load none (.t s15))⟩
    (.one ⟨some s17, none, (.len false (.t s16))⟩
    (.one ⟨some s18, none, (.mv (.c (.v (.int .i64 0))))⟩
    .done)))))
  (.block 0 (.loop (.seq (.reg (.one ⟨some s19, none, (.bin false .lss (.t s18) (.t s17))⟩
    .done))
  (.seq (.cond (.t s19) .skip (.exit 0))
  (.seq (.block 1 (.seq (.reg (.one ⟨some s20, none, (.iaddr 4 (.t s16) (.t s18))⟩
    (.one ⟨some s21, none, (.load (some 4) (.t s20))⟩
    (.one ⟨some s7, none, (.new [(.v (.int .i64 0)), (.v (.bool false)), (.v (.int .i64 0)), (.v (.int .i64 0))])⟩
    (.one ⟨none, none, (.store 4 (.t s7) (.t s21))⟩
    .done)))))
  (.seq (.reg (.one ⟨some s22, none, (.mv (.t s5))⟩
    (.one ⟨some s23, none, (.mv (.t s1))⟩
    (.one ⟨some s24, none, (.bin false .add (.t s23) (.c (.v (.int .i64 2))))⟩
    (.one ⟨some s25, none, (.bin false .add (.t s22) (.t s24))⟩
    (.one ⟨some s5, none, (.mv (.t s25))⟩
    .done))))))
  (.seq (.reg (.one ⟨some s26, none, (.faddr 1 (.t s7))⟩
    (.one ⟨some s27, none, (.load none (.t s26))⟩
    .done)))
  (.cond (.t s27) (.reg (.one ⟨some s28, none, (.mv (.t s5))⟩
    (.one ⟨some s29, none, (.mv (.t s1))⟩
    (.one ⟨some s30, none, (.callq 104 [(.t s29)])⟩
    (.one ⟨some s31, none, (.bin false .mul (.c (.v (.int .i64 2))) (.t s30))⟩
    (.one ⟨some s32, none, (.bin false .add (.t s28) (.t s31))⟩
    (.one ⟨some s5, none, (.mv (.t s32))⟩
    .done))))))) .skip)))))
  (.reg (.one ⟨some s33, none, (.bin false .add (.t s18) (.c (.v (.int .i64 1))))⟩
    (.one ⟨some s18, none, (.mv (.t s33))⟩
    .done)))))))))
  (.seq (.reg (.one ⟨some s34, none, (.mv (.t s5))⟩
    (.one ⟨some s35, none, (.bin false .add (.t s34) (.c (.v (.int .i64 8))))⟩
    (.one ⟨some s36, none, (.bin false .sub (.t s35) (.c (.v (.int .i64 1))))⟩
    (.one ⟨some s37, none, (.bin false .quo (.t s36) (.c (.v (.int .i64 8))))⟩
    (.one ⟨some s4, none, (.mv (.t s37))⟩
    .done))))))
  .ret)))))⟩
theorem ok53 : compF Try.prog c53 Try.f53 = some ir53 := by kernel_rfl
theorem k_status_Size {args : List AVal} {σ : AHeap} {Q : AVal → AHeap → Prop} (hl : Nat.ble args.length 38 = true) (h : argsK (Env.full 9) 0 args fun env => evC Try.prog c53 ir53.body env σ (retQ ir53 Q)) : ACalls Try.prog 53 args σ Q :=
  acalls_of Try.func53 ok53 rfl (Nat.le_of_ble_eq_true hl) h
/- status.Right -/
def c54 : Cfg := ⟨qs, [], 29, []⟩
def ir54 : IFun := ⟨2, [.tmp s4],
  (.seq (.reg (.one ⟨some s2, none, (.box 2 (.t s0))⟩
    (.one ⟨some s3, none, (.box 1 (.t s1))⟩
    (.one ⟨some s4, none, (.mv (.c (.v (.bool false))))⟩
    .done))))
  (.seq (.reg (.one ⟨some s6, none, (.load none (.t s3))⟩
    (.one ⟨some s7, none, (.build [(.v (.int .i64 0))] [(0, 1, (.t s6))])⟩
    (.one ⟨some s5, none, (.new [(.v (.int .i64 0))])⟩
    (.one ⟨none, none, (.store 1 (.t s5) (.t s7))⟩
    .done)))))
  (.seq (.reg (.one ⟨some s8, none, (.load none (.t s3))⟩
    (.one ⟨some s9, none, (.callq 91 [(.t s8)])⟩
    (.one ⟨some s10, none, (.mv (.t s9))⟩
    (.one ⟨some s11, some (s10, true), (.load (some 1) (.t s5))⟩
    (.one ⟨some s12, some (s10, true), (.faddr 0 (.t s2))⟩
    (.one ⟨some s13, some (s10, true), (.load none (.t s12))⟩
    (.one ⟨some s14, some (s10, true), (.callq 106 [(.t s11), (.t s13)])⟩
    (.one ⟨some s15, none, (.pick (.t s10) (.t s14) (.c (.v (.bool false))))⟩
    (.one ⟨some s16, none, (.mv (.t s15))⟩
    (.one ⟨some s17, some (s16, true), (.faddr 1 (.t s2))⟩
    (.one ⟨some s18, some (s16, true), (.load none (.t s17))⟩
    (.one ⟨some s19, some (s16, true), (.len false (.t s18))⟩
    (.one ⟨some s20, some (s16, true), (.bin false .leq (.t s19) (.c (.v (.int .i64 32))))⟩
    (.one ⟨some s21, none, (.pick (.t s16) (.t s20) (.c (.v (.bool false))))⟩
    (.one ⟨some s22, none, (.mv (.t s21))⟩
    (.one ⟨some s23, some (s22, true), (.faddr 1 (.t s2))⟩
    (.one ⟨some s24, some (s22, true), (.load none (.t s23))⟩
    (.one ⟨some s25, some (s22, true), (.fn 108 [] [(.t s3)])⟩
    (.one ⟨some s26, some (s22, true), (.callq 107 [(.t s24), (.t s25)])⟩
    (.one ⟨some s27, some (s22, true), (.not (.t s26))⟩
    (.one ⟨some s28, none, (.pick (.t s22) (.t s27) (.c (.v (.bool false))))⟩
    (.one ⟨some s4, none, (.mv (.t s28))⟩
    .done)))))))))))))))))))))))
  .ret)))⟩
theorem ok54 : compF Try.prog c54 Try.f54 = some ir54 := by kernel_rfl
theorem k_status_Right {args : List AVal} {σ : AHeap} {Q : AVal → AHeap → Prop} (hl : Nat.ble args.length 29 = true) (h : argsK (Env.full 9) 0 args fun env => evC Try.prog c54 ir54.body env σ (retQ ir54 Q)) : ACalls Try.prog 54 args σ Q :=
  acalls_of Try.func54 ok54 rfl (Nat.le_of_ble_eq_true hl) h
/- status.Same -/
def c57 : Cfg := ⟨qs, [], 17, []⟩
def ir57 : IFun := ⟨2, [.tmp s4],
  (.seq (.reg (.one ⟨some s2, none, (.box 2 (.t s0))⟩
    (.one ⟨some s3, none, (.box 2 (.t s1))⟩
    (.one ⟨some s4, none, (.mv (.c (.v (.bool false))))⟩
    .done))))
  (.seq (.reg (.one ⟨some s5, none, (.faddr 0 (.t s2))⟩
    (.one ⟨some s6, none, (.load none (.t s5))⟩
    (.one ⟨some s7, none, (.faddr 0 (.t s3))⟩
    (.one ⟨some s8, none, (.load none (.t s7))⟩
    (.one ⟨some s9, none, (.bin false .eql (.t s6) (.t s8))⟩
    (.one ⟨some s10, none, (.mv (.t s9))⟩
    (.one ⟨some s11, some (s10, true), (.faddr 1 (.t s2))⟩
    (.one ⟨some s12, some (s10, true), (.load none (.t s11))⟩
    (.one ⟨some s13, some (s10, true), (.faddr 1 (.t s3))⟩
    (.one ⟨some s14, some (s10, true), (.load none (.t s13))⟩
    (.one ⟨some s15, some (s10, true), (.callq 109 [(.t s12), (.t s14)])⟩
    (.one ⟨some s16, none, (.pick (.t s10) (.t s15) (.c (.v (.bool false))))⟩
    (.one ⟨some s4, none, (.mv (.t s16))⟩
    .done))))))))))))))
  .ret))⟩
theorem ok57 : compF Try.prog c57 Try.f57 = some ir57 := by kernel_rfl
theorem k_status_Same {args : List AVal} {σ : AHeap} {Q : AVal → AHeap → Prop} (hl : Nat.ble args.length 17 = true) (h : argsK (Env.full 9) 0 args fun env => evC Try.prog c57 ir57.body env σ (retQ ir57 Q)) : ACalls Try.prog 57 args σ Q :=
  acalls_of Try.func57 ok57 rfl (Nat.le_of_ble_eq_true hl) h
/- status.isWidth -/
def c91 : Cfg := ⟨qs, [], 9, []⟩
def ir91 : IFun := ⟨1, [.tmp s2],
  (.seq (.reg (.one ⟨some s2, none, (.mv (.c (.v (.bool false))))⟩
    .done))
  (.seq (.reg (.one ⟨some s3, none, (.mv (.t s0))⟩
    (.one ⟨some s4, none, (.bin false .eql (.t s3) (.c (.v (.int .i64 10))))⟩
    (.one ⟨some s5, none, (.mv (.t s4))⟩
    (.one ⟨some s6, some (s5, false), (.mv (.t s0))⟩
    (.one ⟨some s7, some (s5, false), (.bin false .eql (.t s6) (.c (.v (.int .i64 16))))⟩
    (.one ⟨some s8, none, (.pick (.t s5) (.c (.v (.bool true))) (.t s7))⟩
    (.one ⟨some s2, none, (.mv (.t s8))⟩
    .done))))))))
  .ret))⟩
theorem ok91 : compF Try.prog c91 Try.f91 = some ir91 := by kernel_rfl
theorem k_status_isWidth {args : List AVal} {σ : AHeap} {Q : AVal → AHeap → Prop} (hl : Nat.ble args.length 9 = true) (h : argsK (Env.full 9) 0 args fun env => evC Try.prog c91 ir91.body env σ (retQ ir91 Q)) : ACalls Try.prog 91 args σ Q :=
  acalls_of Try.func91 ok91 rfl (Nat.le_of_ble_eq_true hl) h
/- status.reader).get -/
def c93 : Cfg := ⟨qs, [], 27, []⟩
def ir93 : IFun := ⟨2, [.tmp s4],
  (.seq (.reg (.one ⟨some s4, none, (.mv (.c (.v (.int .i64 0))))⟩
    .done))
  (.seq (.seq (.reg (.one ⟨some s7, none, (.mv (.t s0))⟩
    (.one ⟨some s8, none, (.nilchk (.t s7))⟩
    (.one ⟨some s9, none, (.faddr 1 (.t s8))⟩
    (.one ⟨some s10, none, (.load none (.t s9))⟩
    (.one ⟨some s11, none, (.bin false .neq (.t s10) (.c (.v (.int .i64 0))))⟩
    .done))))))
  (.cond (.t s11) (.seq (.reg (.one ⟨some s4, none, (.mv (.c (.v (.int .i64 0))))⟩
    .done))
  .ret) .skip))
  (.seq (.reg (.one ⟨some s13, none, (.mv (.t s0))⟩
    (.one ⟨some s14, none, (.nilchk (.t s13))⟩
    (.one ⟨some s15, none, (.faddr 0 (.t s14))⟩
    (.one ⟨some s16, none, (.load none (.t s15))⟩
    (.one ⟨some s17, none, (.mv (.t s1))⟩
    (.one ⟨some s18, none, (.call 123 [(.t s16), (.t s17)])⟩
    (.one ⟨some s12, none, (.mv (.t s18))⟩
    (.one ⟨some s19, none, (.ext (.t s12) 0)⟩
    (.one ⟨some s20, none, (.ext (.t s12) 1)⟩
    (.one ⟨some s5, none, (.mv (.t s19))⟩
    (.one ⟨some s6, none, (.mv (.t s20))⟩
    .done))))))))))))
  (.seq (.reg (.one ⟨some s21, none, (.mv (.t s0))⟩
    (.one ⟨some s22, none, (.mv (.t s6))⟩
    (.one ⟨some s23, none, (.nilchk (.t s21))⟩
    (.one ⟨some s24, none, (.faddr 1 (.t s23))⟩
    (.one ⟨none, none, (.store 1 (.t s24) (.t s22))⟩
    .done))))))
  (.seq (.reg (.one ⟨some s25, none, (.mv (.t s5))⟩
    (.one ⟨some s26, none, (.conv .i64 (.t s25))⟩
    (.one ⟨some s4, none, (.mv (.t s26))⟩
    .done))))
  .ret)))))⟩
theorem ok93 : compF Try.prog c93 Try.f93 = some ir93 := by kernel_rfl
theorem k_status_reader_get {args : List AVal} {σ : AHeap} {Q : AVal → AHeap → Prop} (hl : Nat.ble args.length 27 = true) (h : argsK (Env.full 9) 0 args fun env => evC Try.prog c93 ir93.body env σ (retQ ir93 Q)) : ACalls Try.prog 93 args σ Q :=
  acalls_of Try.func93 ok93 rfl (Nat.le_of_ble_eq_true hl) h
/- status.reader).miss -/
def c94 : Cfg := ⟨qs, [], 37, []⟩
def ir94 : IFun := ⟨2, [.cell s4 (some 4), .tmp s5],
  (.seq (.reg (.one ⟨some s4, none, (.new [(.v (.int .i64 0)), (.v (.bool false)), (.v (.int .i64 0)), (.v (.int .i64 0))])⟩
    (.one ⟨some s5, none, (.mv (.c (.v (.bool false))))⟩
    .done)))
  (.seq (.reg (.one ⟨some s7, none, (.mv (.t s0))⟩
    (.one ⟨some s8, none, (.mv (.t s1))⟩
    (.one ⟨some s9, none, (.call 93 [(.t s7), (.t s8)])⟩
    (.one ⟨some s10, none, (.faddr 0 (.t s4))⟩
    (.one ⟨none, none, (.store 1 (.t s10) (.t s9))⟩
    .done))))))
  (.seq (.reg (.one ⟨some s11, none, (.mv (.t s0))⟩
    (.one ⟨some s12, none, (.call 93 [(.t s11), (.c (.v (.int .i64 1)))])⟩
    (.one ⟨some s13, none, (.bin false .eql (.t s12) (.c (.v (.int .i64 1))))⟩
    (.one ⟨some s5, none, (.mv (.t s13))⟩
    .done)))))
  (.seq (.reg (.one ⟨some s14, none, (.mv (.t s0))⟩
    (.one ⟨some s15, none, (.call 93 [(.t s14), (.c (.v (.int .i64 1)))])⟩
    (.one ⟨some s16, none, (.bin false .eql (.t s15) (.c (.v (.int .i64 1))))⟩
    (.one ⟨some s17, none, (.faddr 1 (.t s4))⟩
    (.one ⟨none, none, (.store 1 (.t s17) (.t s16))⟩
    .done))))))
  (.seq (.seq (.reg (.one ⟨some s18, none, (.faddr 1 (.t s4))⟩
    (.one ⟨some s19, none, (.load none (.t s18))⟩
    .done)))
  (.cond (.t s19) (.seq (.reg (.one ⟨some s20, none, (.mv (.t s1))⟩
    (.one ⟨some s21, none, (.callq 104 [(.t s20)])⟩
    (.one ⟨some s6, none, (.mv (.t s21))⟩
    .done))))
  (.seq (.reg (.one ⟨some s22, none, (.mv (.t s0))⟩
    (.one ⟨some s23, none, (.mv (.t s6))⟩
    (.one ⟨some s24, none, (.call 93 [(.t s22), (.t s23)])⟩
    (.one ⟨some s25, none, (.faddr 2 (.t s4))⟩
    (.one ⟨none, none, (.store 1 (.t s25) (.t s24))⟩
    .done))))))
  (.reg (.one ⟨some s26, none, (.mv (.t s0))⟩
    (.one ⟨some s27, none, (.mv (.t s6))⟩
    (.one ⟨some s30, none, (.mv (.t s6))⟩
    (.one ⟨some s31, none, (.bin false .shl (.c (.v (.int .i64 1))) (.t s30))⟩
    (.one ⟨some s32, none, (.bin false .sub (.t s31) (.c (.v (.int .i64 1))))⟩
    (.one ⟨some s28, none, (.call 93 [(.t s26), (.t s27)])⟩
    (.one ⟨some s29, none, (.bin false .add (.t s28) (.c (.v (.int .i64 1))))⟩
    (.one ⟨some s33, none, (.bin false .and (.t s29) (.t s32))⟩
    (.one ⟨some s34, none, (.faddr 3 (.t s4))⟩
    (.one ⟨none, none, (.store 1 (.t s34) (.t s33))⟩
    .done))))))))))))) .skip))
  (.seq (.reg (.one ⟨some s35, none, (.load (some 4) (.t s4))⟩
    (.one ⟨some s36, none, (.mv (.t s5))⟩
    (.one ⟨none, none, (.store 4 (.t s4) (.t s35))⟩
    (.one ⟨some s5, none, (.mv (.t s36))⟩
    .done)))))
  .ret))))))⟩
theorem ok94 : compF Try.prog c94 Try.f94 = some ir94 := by kernel_rfl
theorem k_status_reader_miss {args : List AVal} {σ : AHeap} {Q : AVal → AHeap → Prop} (hl : Nat.ble args.length 37 = true) (h : argsK (Env.full 9) 0 args fun env => evC Try.prog c94 ir94.body env σ (retQ ir94 Q)) : ACalls Try.prog 94 args σ Q :=
  acalls_of Try.func94 ok94 rfl (Nat.le_of_ble_eq_true hl) h
/- status.isMiss -/
def c95 : Cfg := ⟨qs, [], 57, []⟩
def ir95 : IFun := ⟨2, [.tmp s4],
  (.seq (.reg (.one ⟨some s2, none, (.box 4 (.t s0))⟩
    (.one ⟨some s4, none, (.mv (.c (.v (.bool false))))⟩
    .done)))
  (.seq (.reg (.one ⟨some s7, none, (.mv (.t s1))⟩
    (.one ⟨some s8, none, (.build [(.v (.int .i64 0))] [(0, 1, (.t s7))])⟩
    (.one ⟨some s5, none, (.new [(.v (.int .i64 0))])⟩
    (.one ⟨none, none, (.store 1 (.t s5) (.t s8))⟩
    .done)))))
  (.seq (.reg (.one ⟨some s9, none, (.mv (.t s1))⟩
    (.one ⟨some s10, none, (.callq 104 [(.t s9)])⟩
    (.one ⟨some s11, none, (.bin false .shl (.c (.v (.int .i64 1))) (.t s10))⟩
    (.one ⟨some s12, none, (.bin false .sub (.t s11) (.c (.v (.int .i64 1))))⟩
    (.one ⟨some s6, none, (.mv (.t s12))⟩
    .done))))))
  (.seq (.block 0 (.seq (.reg (.one ⟨some s14, none, (.load (some 1) (.t s5))⟩
    (.one ⟨some s15, none, (.faddr 0 (.t s2))⟩
    (.one ⟨some s16, none, (.load none (.t s15))⟩
    (.one ⟨some s17, none, (.callq 106 [(.t s14), (.t s16)])⟩
    (.one ⟨some s18, none, (.not (.t s17))⟩
    (.one ⟨some s19, none, (.mv (.t s18))⟩
    (.one ⟨some s20, some (s19, false), (.faddr 2 (.t s2))⟩
    (.one ⟨some s21, some (s19, false), (.load none (.t s20))⟩
    (.one ⟨some s22, some (s19, false), (.bin false .lss (.t s21) (.c (.v (.int .i64 0))))⟩
    (.one ⟨some s23, none, (.pick (.t s19) (.c (.v (.bool true))) (.t s22))⟩
    (.one ⟨some s24, none, (.mv (.t s23))⟩
    (.one ⟨some s25, some (s24, false), (.faddr 3 (.t s2))⟩
    (.one ⟨some s26, some (s24, false), (.load none (.t s25))⟩
    (.one ⟨some s27, some (s24, false), (.bin false .lss (.t s26) (.c (.v (.int .i64 0))))⟩
    (.one ⟨some s28, none, (.pick (.t s24) (.c (.v (.bool true))) (.t s27))⟩
    (.one ⟨some s29, none, (.mv (.t s28))⟩
    (.one ⟨some s30, some (s29, false), (.faddr 3 (.t s2))⟩
    (.one ⟨some s31, some (s29, false), (.load none (.t s30))⟩
    (.one ⟨some s32, some (s29, false), (.mv (.t s6))⟩
    (.one ⟨some s33, some (s29, false), (.bin false .gtr (.t s31) (.t s32))⟩
    (.one ⟨some s34, none, (.pick (.t s29) (.c (.v (.bool true))) (.t s33))⟩
    (.one ⟨some s13, none, (.mv (.t s34))⟩
    .done)))))))))))))))))))))))
  (.cond (.t s13) (.seq (.reg (.one ⟨some s4, none, (.mv (.c (.v (.bool false))))⟩
    .done))
  .ret) (.seq (.reg (.one ⟨some s36, none, (.faddr 1 (.t s2))⟩
    (.one ⟨some s37, none, (.load none (.t s36))⟩
    (.one ⟨some s38, none, (.not (.t s37))⟩
    (.one ⟨some s35, none, (.mv (.t s38))⟩
    .done)))))
  (.cond (.t s35) (.seq (.reg (.one ⟨some s39, none, (.load (some 4) (.t s2))⟩
    (.one ⟨some s40, none, (.faddr 0 (.t s2))⟩
    (.one ⟨some s41, none, (.load none (.t s40))⟩
    (.one ⟨some s42, none, (.build [(.v (.int .i64 0)), (.v (.bool false)), (.v (.int .i64 0)), (.v (.int .i64 0))] [(0, 1, (.t s41))])⟩
    (.one ⟨some s43, none, (.eqAgg false [false, true, false, false] (.t s39) (.t s42))⟩
    (.one ⟨some s4, none, (.mv (.t s43))⟩
    .done)))))))
  .ret) (.seq (.reg (.one ⟨some s45, none, (.faddr 3 (.t s2))⟩
    (.one ⟨some s46, none, (.load none (.t s45))⟩
    (.one ⟨some s47, none, (.bin false .eql (.t s46) (.c (.v (.int .i64 0))))⟩
    (.one ⟨some s44, none, (.mv (.t s47))⟩
    .done)))))
  (.cond (.t s44) (.seq (.reg (.one ⟨some s48, none, (.faddr 2 (.t s2))⟩
    (.one ⟨some s49, none, (.load none (.t s48))⟩
    (.one ⟨some s50, none, (.mv (.t s6))⟩
    (.one ⟨some s51, none, (.bin false .leq (.t s49) (.t s50))⟩
    (.one ⟨some s4, none, (.mv (.t s51))⟩
    .done))))))
  .ret) .skip)))))))
  (.seq (.reg (.one ⟨some s52, none, (.faddr 2 (.t s2))⟩
    (.one ⟨some s53, none, (.load none (.t s52))⟩
    (.one ⟨some s54, none, (.faddr 3 (.t s2))⟩
    (.one ⟨some s55, none, (.load none (.t s54))⟩
    (.one ⟨some s56, none, (.bin false .lss (.t s53) (.t s55))⟩
    (.one ⟨some s4, none, (.mv (.t s56))⟩
    .done)))))))
  .ret)))))⟩
theorem ok95 : compF Try.prog c95 Try.f95 = some ir95 := by kernel_rfl
theorem k_status_isMiss {args : List AVal} {σ : AHeap} {Q : AVal → AHeap → Prop} (hl : Nat.ble args.length 57 = true) (h : argsK (Env.full 9) 0 args fun env => evC Try.prog c95 ir95.body env σ (retQ ir95 Q)) : ACalls Try.prog 95 args σ Q :=
  acalls_of Try.func95 ok95 rfl (Nat.le_of_ble_eq_true hl) h
/- status.bit -/
def c103 : Cfg := ⟨qs, [], 4, []⟩
def ir103 : IFun := ⟨1, [.tmp s2],
  (.seq (.reg (.one ⟨some s2, none, (.mv (.c (.v (.int .u64 0))))⟩
    .done))
  (.seq (.seq (.reg (.one ⟨some s3, none, (.mv (.t s0))⟩
    .done))
  (.cond (.t s3) (.seq (.reg (.one ⟨some s2, none, (.mv (.c (.v (.int .u64 1))))⟩
    .done))
  .ret) .skip))
  (.seq (.reg (.one ⟨some s2, none, (.mv (.c (.v (.int .u64 0))))⟩
    .done))
  .ret)))⟩
theorem ok103 : compF Try.prog c103 Try.f103 = some ir103 := by kernel_rfl
theorem k_status_bit {args : List AVal} {σ : AHeap} {Q : AVal → AHeap → Prop} (hl : Nat.ble args.length 4 = true) (h : argsK (Env.full 9) 0 args fun env => evC Try.prog c103 ir103.body env σ (retQ ir103 Q)) : ACalls Try.prog 103 args σ Q :=
  acalls_of Try.func103 ok103 rfl (Nat.le_of_ble_eq_true hl) h
/- status.offsetWidth -/
def c104 : Cfg := ⟨qs, [], 5, []⟩
def ir104 : IFun := ⟨1, [.tmp s2],
  (.seq (.reg (.one ⟨some s2, none, (.mv (.c (.v (.int .i64 0))))⟩
    .done))
  (.seq (.seq (.reg (.one ⟨some s3, none, (.mv (.t s0))⟩
    (.one ⟨some s4, none, (.bin false .eql (.t s3) (.c (.v (.int .i64 10))))⟩
    .done)))
  (.cond (.t s4) (.seq (.reg (.one ⟨some s2, none, (.mv (.c (.v (.int .i64 15))))⟩
    .done))
  .ret) .skip))
  (.seq (.reg (.one ⟨some s2, none, (.mv (.c (.v (.int .i64 16))))⟩
    .done))
  .ret)))⟩
theorem ok104 : compF Try.prog c104 Try.f104 = some ir104 := by kernel_rfl
theorem k_status_offsetWidth {args : List AVal} {σ : AHeap} {Q : AVal → AHeap → Prop} (hl : Nat.ble args.length 5 = true) (h : argsK (Env.full 9) 0 args fun env => evC Try.prog c104 ir104.body env σ (retQ ir104 Q)) : ACalls Try.prog 104 args σ Q :=
  acalls_of Try.func104 ok104 rfl (Nat.le_of_ble_eq_true hl) h
/- status.Miss] -/
def c107 : Cfg := ⟨qs, [], 9, []⟩
def ir107 : IFun := ⟨2, [.tmp s4],
  (.seq (.reg (.one ⟨some s4, none, (.mv (.c (.v (.bool false))))⟩
    .done))
  (.seq (.reg (.one ⟨some s5, none, (.mv (.t s0))⟩
    (.one ⟨some s6, none, (.mv (.t s1))⟩
    (.one ⟨some s7, none, (.callq 125 [(.t s5), (.t s6)])⟩
    (.one ⟨some s8, none, (.bin false .geq (.t s7) (.c (.v (.int .i64 0))))⟩
    (.one ⟨some s4, none, (.mv (.t s8))⟩
    .done))))))
  .ret))⟩
theorem ok107 : compF Try.prog c107 Try.f107 = some ir107 := by kernel_rfl
theorem k_status_Miss {args : List AVal} {σ : AHeap} {Q : AVal → AHeap → Prop} (hl : Nat.ble args.length 9 = true) (h : argsK (Env.full 9) 0 args fun env => evC Try.prog c107 ir107.body env σ (retQ ir107 Q)) : ACalls Try.prog 107 args σ Q :=
  acalls_of Try.func107 ok107 rfl (Nat.le_of_ble_eq_true hl) h
/- status.Right$1 -/
def c108 : Cfg := ⟨qs, [], 8, []⟩
def ir108 : IFun := ⟨2, [.tmp s3],
  (.seq (.reg (.one ⟨some s2, none, (.box 4 (.t s0))⟩
    (.one ⟨some s3, none, (.mv (.c (.v (.bool false))))⟩
    .done)))
  (.seq (.reg (.one ⟨some s4, none, (.load (some 4) (.t s2))⟩
    (.one ⟨some s5, none, (.load none (.t s1))⟩
    (.one ⟨some s6, none, (.callq 95 [(.t s4), (.t s5)])⟩
    (.one ⟨some s7, none, (.not (.t s6))⟩
    (.one ⟨some s3, none, (.mv (.t s7))⟩
    .done))))))
  .ret))⟩
theorem ok108 : compF Try.prog c108 Try.f108 = some ir108 := by kernel_rfl
theorem k_status_Right_1 {args : List AVal} {σ : AHeap} {Q : AVal → AHeap → Prop} (hl : Nat.ble args.length 8 = true) (h : argsK (Env.full 9) 0 args fun env => evC Try.prog c108 ir108.body env σ (retQ ir108 Q)) : ACalls Try.prog 108 args σ Q :=
  acalls_of Try.func108 ok108 rfl (Nat.le_of_ble_eq_true hl) h
/- status.Miss] -/
def c109 : Cfg := ⟨qs, [], 26, []⟩
def ir109 : IFun := ⟨2, [.tmp s4],
  (.seq (.reg (.one ⟨some s4, none, (.mv (.c (.v (.bool false))))⟩
    .done))
  (.seq (.seq (.reg (.one ⟨some s6, none, (.mv (.t s0))⟩
    (.one ⟨some s7, none, (.len false (.t s6))⟩
    (.one ⟨some s8, none, (.mv (.t s1))⟩
    (.one ⟨some s9, none, (.len false (.t s8))⟩
    (.one ⟨some s10, none, (.bin false .neq (.t s7) (.t s9))⟩
    .done))))))
  (.cond (.t s10) (.seq (.reg (.one ⟨some s4, none, (.mv (.c (.v (.bool false))))⟩
    .done))
  .ret) .skip))
  (.seq (.seq (.reg (.one ⟨some s11, none, (.mv (.t s0))⟩
    (.one ⟨some s12, none, (.len false (.t s11))⟩
    (.one ⟨some s13, none, (.mv (.c (.v (.int .i64 0))))⟩
    .done))))
  (.block 0 (.loop (.seq (.reg (.one ⟨some s14, none, (.bin false .lss (.t s13) (.t s12))⟩
    .done))
  (.seq (.cond (.t s14) .skip (.exit 0))
  (.seq (.block 1 (.seq (.reg (.one ⟨some s15, none, (.mv (.t s13))⟩
    (.one ⟨some s5, none, (.mv (.t s15))⟩
    .done)))
  (.seq (.reg (.one ⟨some s16, none, (.mv (.t s0))⟩
    (.one ⟨some s17, none, (.mv (.t s5))⟩
    (.one ⟨some s18, none, (.iaddr 4 (.t s16) (.t s17))⟩
    (.one ⟨some s19, none, (.load (some 4) (.t s18))⟩
    (.one ⟨some s20, none, (.mv (.t s1))⟩
    (.one ⟨some s21, none, (.mv (.t s5))⟩
    (.one ⟨some s22, none, (.iaddr 4 (.t s20) (.t s21))⟩
    (.one ⟨some s23, none, (.load (some 4) (.t s22))⟩
    (.one ⟨some s24, none, (.eqAgg true [false, true, false, false] (.t s19) (.t s23))⟩
    .done))))))))))
  (.cond (.t s24) (.seq (.reg (.one ⟨some s4, none, (.mv (.c (.v (.bool false))))⟩
    .done))
  .ret) .skip))))
  (.reg (.one ⟨some s25, none, (.bin false .add (.t s13) (.c (.v (.int .i64 1))))⟩
    (.one ⟨some s13, none, (.mv (.t s25))⟩
    .done)))))))))
  (.seq (.reg (.one ⟨some s4, none, (.mv (.c (.v (.bool true))))⟩
    .done))
  .ret))))⟩
theorem ok109 : compF Try.prog c109 Try.f109 = some ir109 := by kernel_rfl
theorem k_status_Miss_109 {args : List AVal} {σ : AHeap} {Q : AVal → AHeap → Prop} (hl : Nat.ble args.length 26 = true) (h : argsK (Env.full 9) 0 args fun env => evC Try.prog c109 ir109.body env σ (retQ ir109 Q)) : ACalls Try.prog 109 args σ Q :=
  acalls_of Try.func109 ok109 rfl (Nat.le_of_ble_eq_true hl) h
/- status.Miss] -/
def c125 : Cfg := ⟨qs, [], 19, []⟩
def ir125 : IFun := ⟨2, [.tmp s4],
  (.seq (.reg (.one ⟨some s4, none, (.mv (.c (.v (.int .i64 0))))⟩
    .done))
  (.seq (.seq (.reg (.one ⟨some s6, none, (.mv (.t s0))⟩
    (.one ⟨some s7, none, (.len false (.t s6))⟩
    (.one ⟨some s8, none, (.mv (.c (.v (.int .i64 0))))⟩
    .done))))
  (.block 0 (.loop (.seq (.reg (.one ⟨some s9, none, (.bin false .lss (.t s8) (.t s7))⟩
    .done))
  (.seq (.cond (.t s9) .skip (.exit 0))
  (.seq (.block 1 (.seq (.reg (.one ⟨some s10, none, (.mv (.t s8))⟩
    (.one ⟨some s5, none, (.mv (.t s10))⟩
    .done)))
  (.seq (.reg (.one ⟨some s11, none, (.mv (.t s1))⟩
    (.one ⟨some s12, none, (.mv (.t s0))⟩
    (.one ⟨some s13, none, (.mv (.t s5))⟩
    (.one ⟨some s14, none, (.iaddr 4 (.t s12) (.t s13))⟩
    (.one ⟨some s15, none, (.load (some 4) (.t s14))⟩
    (.one ⟨some s16, none, (.callv (.t s11) [(.t s15)])⟩
    .done)))))))
  (.cond (.t s16) (.seq (.reg (.one ⟨some s17, none, (.mv (.t s5))⟩
    (.one ⟨some s4, none, (.mv (.t s17))⟩
    .done)))
  .ret) .skip))))
  (.reg (.one ⟨some s18, none, (.bin false .add (.t s8) (.c (.v (.int .i64 1))))⟩
    (.one ⟨some s8, none, (.mv (.t s18))⟩
    .done)))))))))
  (.seq (.reg (.one ⟨some s4, none, (.mv (.c (.v (.int .i64 (-1)))))⟩
    .done))
  .ret)))⟩
theorem ok125 : compF Try.prog c125 Try.f125 = some ir125 := by kernel_rfl
theorem k_status_Miss_125 {args : List AVal} {σ : AHeap} {Q : AVal → AHeap → Prop} (hl : Nat.ble args.length 19 = true) (h : argsK (Env.full 9) 0 args fun env => evC Try.prog c125 ir125.body env σ (retQ ir125 Q)) : ACalls Try.prog 125 args σ Q :=
  acalls_of Try.func125 ok125 rfl (Nat.le_of_ble_eq_true hl) h
end Go.Proofs.Ytnfdgccmpglbhaa
/-
  The bodies of one package, compiled to the framework's language (printed by a program of this session).
-/
namespace Go.Proofs.Ytnfdgccmpglbhaa
set_option linter.unusedVariables false
set_option linter.unusedSimpArgs false
open Go Go.Am
/- bits.Read -/
def c92 : Cfg := ⟨qs, [], 14, []⟩
def ir92 : IFun := ⟨1, [.tmp s2],
  (.seq (.reg (.one ⟨some s2, none, (.mv (.c (.v (.pointer none))))⟩
    .done))
  (.seq (.reg (.one ⟨some s4, none, (.mv (.t s0))⟩
    (.one ⟨some s5, none, (.len false (.t s4))⟩
    (.one ⟨some s6, none, (.mxmn false (.t s5) (.c (.v (.int .i64 8192))))⟩
    (.one ⟨some s3, none, (.mv (.t s6))⟩
    .done)))))
  (.seq (.reg (.one ⟨some s7, none, (.mv (.t s0))⟩
    (.one ⟨some s8, none, (.mv (.t s3))⟩
    (.one ⟨some s9, none, (.mv (.t s3))⟩
    (.one ⟨some s10, none, (.cut 1 (.t s7) none (some (.t s8)) (some (.t s9)))⟩
    (.one ⟨some s11, none, (.callq 69 [(.t s10)])⟩
    (.one ⟨some s12, none, (.build [(.slice 1 [] .full), (.v (.int .i64 0))] [(0, 1, (.t s11))])⟩
    (.one ⟨some s13, none, (.box 2 (.t s12))⟩
    (.one ⟨some s2, none, (.mv (.t s13))⟩
    .done)))))))))
  .ret)))⟩
theorem ok92 : compF Try.prog c92 Try.f92 = some ir92 := by kernel_rfl
theorem k_bits_Read {args : List AVal} {σ : AHeap} {Q : AVal → AHeap → Prop} (hl : Nat.ble args.length 14 = true) (h : argsK (Env.full 9) 0 args fun env => evC Try.prog c92 ir92.body env σ (retQ ir92 Q)) : ACalls Try.prog 92 args σ Q :=
  acalls_of Try.func92 ok92 rfl (Nat.le_of_ble_eq_true hl) h
/- bits.Reader).Rest -/
def c96 : Cfg := ⟨qs, [], 53, []⟩
def ir96 : IFun := ⟨1, [.tmp s2, .tmp s3],
  (.seq (.reg (.one ⟨some s2, none, (.mv (.c (.slice 1 [] .full)))⟩
    (.one ⟨some s3, none, (.mv (.c (.v (.int .i64 0))))⟩
    .done)))
  (.seq (.seq (.reg (.one ⟨some s8, none, (.mv (.t s0))⟩
    (.one ⟨some s9, none, (.eqNil 1 false (.t s8))⟩
    .done)))
  (.cond (.t s9) (.seq (.reg (.one ⟨some s2, none, (.mv (.c (.slice 1 [] .full)))⟩
    (.one ⟨some s3, none, (.mv (.c (.v (.int .i64 6))))⟩
    .done)))
  .ret) .skip))
  (.seq (.reg (.one ⟨some s10, none, (.mv (.t s0))⟩
    (.one ⟨some s11, none, (.nilchk (.t s10))⟩
    (.one ⟨some s12, none, (.faddr 1 (.t s11))⟩
    (.one ⟨some s13, none, (.load none (.t s12))⟩
    (.one ⟨some s4, none, (.mv (.t s13))⟩
    .done))))))
  (.seq (.reg (.one ⟨some s15, none, (.mv (.t s0))⟩
    (.one ⟨some s16, none, (.mv (.t s0))⟩
    (.one ⟨some s17, none, (.nilchk (.t s16))⟩
    (.one ⟨some s18, none, (.faddr 1 (.t s17))⟩
    (.one ⟨some s19, none, (.load none (.t s18))⟩
    (.one ⟨some s20, none, (.bin false .rem (.t s19) (.c (.v (.int .i64 8))))⟩
    (.one ⟨some s21, none, (.bin false .sub (.c (.v (.int .i64 8))) (.t s20))⟩
    (.one ⟨some s22, none, (.bin false .rem (.t s21) (.c (.v (.int .i64 8))))⟩
    (.one ⟨some s23, none, (.call 123 [(.t s15), (.t s22)])⟩
    (.one ⟨some s14, none, (.mv (.t s23))⟩
    (.one ⟨some s24, none, (.ext (.t s14) 0)⟩
    (.one ⟨some s25, none, (.ext (.t s14) 1)⟩
    (.one ⟨some s5, none, (.mv (.t s24))⟩
    (.one ⟨some s6, none, (.mv (.t s25))⟩
    .done)))))))))))))))
  (.seq (.seq (.reg (.one ⟨some s26, none, (.mv (.t s5))⟩
    (.one ⟨some s27, none, (.bin false .neq (.t s26) (.c (.v (.int .u64 0))))⟩
    .done)))
  (.cond (.t s27) (.seq (.reg (.one ⟨some s28, none, (.mv (.t s0))⟩
    (.one ⟨some s29, none, (.mv (.t s4))⟩
    (.one ⟨some s30, none, (.nilchk (.t s28))⟩
    (.one ⟨some s31, none, (.faddr 1 (.t s30))⟩
    (.one ⟨none, none, (.store 1 (.t s31) (.t s29))⟩
    .done))))))
  (.seq (.reg (.one ⟨some s2, none, (.mv (.c (.slice 1 [] .full)))⟩
    (.one ⟨some s3, none, (.mv (.c (.v (.int .i64 3))))⟩
    .done)))
  .ret)) .skip))
  (.seq (.reg (.one ⟨some s32, none, (.mv (.t s0))⟩
    (.one ⟨some s33, none, (.nilchk (.t s32))⟩
    (.one ⟨some s34, none, (.faddr 0 (.t s33))⟩
    (.one ⟨some s35, none, (.load none (.t s34))⟩
    (.one ⟨some s36, none, (.mv (.t s0))⟩
    (.one ⟨some s37, none, (.nilchk (.t s36))⟩
    (.one ⟨some s38, none, (.faddr 1 (.t s37))⟩
    (.one ⟨some s39, none, (.load none (.t s38))⟩
    (.one ⟨some s40, none, (.bin false .quo (.t s39) (.c (.v (.int .i64 8))))⟩
    (.one ⟨some s41, none, (.cut 1 (.t s35) (some (.t s40)) none none)⟩
    (.one ⟨some s42, none, (.callq 69 [(.t s41)])⟩
    (.one ⟨some s7, none, (.mv (.t s42))⟩
    .done)))))))))))))
  (.seq (.reg (.one ⟨some s43, none, (.mv (.t s0))⟩
    (.one ⟨some s44, none, (.mv (.t s0))⟩
    (.one ⟨some s45, none, (.nilchk (.t s44))⟩
    (.one ⟨some s46, none, (.faddr 0 (.t s45))⟩
    (.one ⟨some s47, none, (.load none (.t s46))⟩
    (.one ⟨some s48, none, (.len false (.t s47))⟩
    (.one ⟨some s49, none, (.bin false .mul (.t s48) (.c (.v (.int .i64 8))))⟩
    (.one ⟨some s50, none, (.nilchk (.t s43))⟩
    (.one ⟨some s51, none, (.faddr 1 (.t s50))⟩
    (.one ⟨none, none, (.store 1 (.t s51) (.t s49))⟩
    .done)))))))))))
  (.seq (.reg (.one ⟨some s52, none, (.mv (.t s7))⟩
    (.one ⟨some s2, none, (.mv (.t s52))⟩
    (.one ⟨some s3, none, (.mv (.c (.v (.int .i64 0))))⟩
    .done))))
  .ret))))))))⟩
theorem ok96 : compF Try.prog c96 Try.f96 = some ir96 := by kernel_rfl
theorem k_bits_Reader_Rest {args : List AVal} {σ : AHeap} {Q : AVal → AHeap → Prop} (hl : Nat.ble args.length 53 = true) (h : argsK (Env.full 9) 0 args fun env => evC Try.prog c96 ir96.body env σ (retQ ir96 Q)) : ACalls Try.prog 96 args σ Q :=
  acalls_of Try.func96 ok96 rfl (Nat.le_of_ble_eq_true hl) h
/- bits.New -/
def c101 : Cfg := ⟨qs, [], 3, []⟩
def ir101 : IFun := ⟨0, [.tmp s0],
  (.seq (.reg (.one ⟨some s0, none, (.mv (.c (.v (.pointer none))))⟩
    .done))
  (.seq (.reg (.one ⟨some s1, none, (.build [(.slice 1 [] .full), (.v (.int .i64 0))] [])⟩
    (.one ⟨some s2, none, (.box 2 (.t s1))⟩
    (.one ⟨some s0, none, (.mv (.t s2))⟩
    .done))))
  .ret))⟩
theorem ok101 : compF Try.prog c101 Try.f101 = some ir101 := by kernel_rfl
theorem k_bits_New {args : List AVal} {σ : AHeap} {Q : AVal → AHeap → Prop} (hl : Nat.ble args.length 3 = true) (h : argsK (Env.full 9) 0 args fun env => evC Try.prog c101 ir101.body env σ (retQ ir101 Q)) : ACalls Try.prog 101 args σ Q :=
  acalls_of Try.func101 ok101 rfl (Nat.le_of_ble_eq_true hl) h
/- bits.Writer).Put -/
def c102 : Cfg := ⟨qs, [], 48, []⟩
def ir102 : IFun := ⟨3, [.tmp s6],
  (.seq (.reg (.one ⟨some s6, none, (.mv (.c (.v (.int .i64 0))))⟩
    .done))
  (.scope (.seq (.block 0 (.seq (.reg (.one ⟨some s9, none, (.mv (.t s0))⟩
    (.one ⟨some s10, none, (.eqNil 1 false (.t s9))⟩
    (.one ⟨some s8, none, (.mv (.t s10))⟩
    .done))))
  (.cond (.t s8) (.seq (.reg (.one ⟨some s6, none, (.mv (.c (.v (.int .i64 6))))⟩
    .done))
  .ret) (.seq (.reg (.one ⟨some s12, none, (.mv (.t s2))⟩
    (.one ⟨some s13, none, (.bin false .lss (.t s12) (.c (.v (.int .i64 0))))⟩
    (.one ⟨some s14, none, (.mv (.t s13))⟩
    (.one ⟨some s15, some (s14, false), (.mv (.t s2))⟩
    (.one ⟨some s16, some (s14, false), (.bin false .gtr (.t s15) (.c (.v (.int .i64 64))))⟩
    (.one ⟨some s17, none, (.pick (.t s14) (.c (.v (.bool true))) (.t s16))⟩
    (.one ⟨some s18, none, (.mv (.t s17))⟩
    (.one ⟨some s19, some (s18, false), (.mv (.t s2))⟩
    (.one ⟨some s20, some (s18, false), (.bin false .lss (.t s19) (.c (.v (.int .i64 64))))⟩
    (.one ⟨some s21, some (s18, false), (.mv (.t s20))⟩
    (.one ⟨some s22, some (s21, true), (.mv (.t s1))⟩
    (.one ⟨some s23, some (s21, true), (.mv (.t s2))⟩
    (.one ⟨some s24, some (s21, true), (.bin false .shr (.t s22) (.t s23))⟩
    (.one ⟨some s25, some (s21, true), (.bin false .neq (.t s24) (.c (.v (.int .u64 0))))⟩
    (.one ⟨some s26, some (s18, false), (.pick (.t s21) (.t s25) (.c (.v (.bool false))))⟩
    (.one ⟨some s27, none, (.pick (.t s18) (.c (.v (.bool true))) (.t s26))⟩
    (.one ⟨some s11, none, (.mv (.t s27))⟩
    .done))))))))))))))))))
  (.cond (.t s11) (.seq (.reg (.one ⟨some s6, none, (.mv (.c (.v (.int .i64 1))))⟩
    .done))
  .ret) (.seq (.reg (.one ⟨some s29, none, (.mv (.t s2))⟩
    (.one ⟨some s30, none, (.mv (.t s0))⟩
    (.one ⟨some s31, none, (.nilchk (.t s30))⟩
    (.one ⟨some s32, none, (.faddr 1 (.t s31))⟩
    (.one ⟨some s33, none, (.load none (.t s32))⟩
    (.one ⟨some s34, none, (.bin false .sub (.c (.v (.int .i64 65536))) (.t s33))⟩
    (.one ⟨some s35, none, (.bin false .gtr (.t s29) (.t s34))⟩
    (.one ⟨some s28, none, (.mv (.t s35))⟩
    .done)))))))))
  (.cond (.t s28) (.seq (.reg (.one ⟨some s6, none, (.mv (.c (.v (.int .i64 5))))⟩
    .done))
  .ret) .skip)))))))
  (.seq (.reg (.one ⟨some s36, none, (.mv (.t s2))⟩
    (.one ⟨some s7, none, (.mv (.t s36))⟩
    .done)))
  (.seq (.label 0)
  (.seq (.seq (.reg (.one ⟨some s37, none, (.mv (.t s7))⟩
    (.one ⟨some s38, none, (.bin false .gtr (.t s37) (.c (.v (.int .i64 0))))⟩
    .done)))
  (.cond (.t s38) (.seq (.reg (.one ⟨some s39, none, (.mv (.t s7))⟩
    (.one ⟨some s40, none, (.bin false .sub (.t s39) (.c (.v (.int .i64 1))))⟩
    (.one ⟨some s7, none, (.mv (.t s40))⟩
    .done))))
  (.seq (.reg (.one ⟨some s41, none, (.mv (.t s0))⟩
    (.one ⟨some s42, none, (.mv (.t s1))⟩
    (.one ⟨some s43, none, (.mv (.t s7))⟩
    (.one ⟨some s44, none, (.bin false .shr (.t s42) (.t s43))⟩
    (.one ⟨some s45, none, (.bin false .and (.t s44) (.c (.v (.int .u64 1))))⟩
    (.one ⟨some s46, none, (.conv .u8 (.t s45))⟩
    (.one ⟨some s47, none, (.call 124 [(.t s41), (.t s46)])⟩
    .done))))))))
  (.goto 0))) .skip))
  (.seq (.reg (.one ⟨some s6, none, (.mv (.c (.v (.int .i64 0))))⟩
    .done))
  .ret)))))))⟩
theorem ok102 : compF Try.prog c102 Try.f102 = some ir102 := by kernel_rfl
theorem k_bits_Writer_Put {args : List AVal} {σ : AHeap} {Q : AVal → AHeap → Prop} (hl : Nat.ble args.length 48 = true) (h : argsK (Env.full 9) 0 args fun env => evC Try.prog c102 ir102.body env σ (retQ ir102 Q)) : ACalls Try.prog 102 args σ Q :=
  acalls_of Try.func102 ok102 rfl (Nat.le_of_ble_eq_true hl) h
/- bits.Writer).Bytes -/
def c105 : Cfg := ⟨qs, [], 10, []⟩
def ir105 : IFun := ⟨1, [.tmp s2],
  (.seq (.reg (.one ⟨some s2, none, (.mv (.c (.slice 1 [] .full)))⟩
    .done))
  (.seq (.seq (.reg (.one ⟨some s3, none, (.mv (.t s0))⟩
    (.one ⟨some s4, none, (.eqNil 1 false (.t s3))⟩
    .done)))
  (.cond (.t s4) (.seq (.reg (.one ⟨some s2, none, (.mv (.c (.slice 1 [] .full)))⟩
    .done))
  .ret) .skip))
  (.seq (.reg (.one ⟨some s5, none, (.mv (.t s0))⟩
    (.one ⟨some s6, none, (.nilchk (.t s5))⟩
    (.one ⟨some s7, none, (.faddr 0 (.t s6))⟩
    (.one ⟨some s8, none, (.load none (.t s7))⟩
    (.one ⟨some s9, none, (.callq 69 [(.t s8)])⟩
    (.one ⟨some s2, none, (.mv (.t s9))⟩
    .done)))))))
  .ret)))⟩
theorem ok105 : compF Try.prog c105 Try.f105 = some ir105 := by kernel_rfl
theorem k_bits_Writer_Bytes {args : List AVal} {σ : AHeap} {Q : AVal → AHeap → Prop} (hl : Nat.ble args.length 10 = true) (h : argsK (Env.full 9) 0 args fun env => evC Try.prog c105 ir105.body env σ (retQ ir105 Q)) : ACalls Try.prog 105 args σ Q :=
  acalls_of Try.func105 ok105 rfl (Nat.le_of_ble_eq_true hl) h
/- bits.Reader).Get -/
def c123 : Cfg := ⟨qs, [], 66, []⟩
def ir123 : IFun := ⟨2, [.tmp s4, .tmp s5],
  (.seq (.reg (.one ⟨some s4, none, (.mv (.c (.v (.int .u64 0))))⟩
    (.one ⟨some s5, none, (.mv (.c (.v (.int .i64 0))))⟩
    .done)))
  (.scope (.seq (.block 0 (.seq (.reg (.one ⟨some s9, none, (.mv (.t s0))⟩
    (.one ⟨some s10, none, (.eqNil 1 false (.t s9))⟩
    (.one ⟨some s8, none, (.mv (.t s10))⟩
    .done))))
  (.cond (.t s8) (.seq (.reg (.one ⟨some s4, none, (.mv (.c (.v (.int .u64 0))))⟩
    (.one ⟨some s5, none, (.mv (.c (.v (.int .i64 6))))⟩
    .done)))
  .ret) (.seq (.reg (.one ⟨some s12, none, (.mv (.t s1))⟩
    (.one ⟨some s13, none, (.bin false .lss (.t s12) (.c (.v (.int .i64 0))))⟩
    (.one ⟨some s14, none, (.mv (.t s13))⟩
    (.one ⟨some s15, some (s14, false), (.mv (.t s1))⟩
    (.one ⟨some s16, some (s14, false), (.bin false .gtr (.t s15) (.c (.v (.int .i64 64))))⟩
    (.one ⟨some s17, none, (.pick (.t s14) (.c (.v (.bool true))) (.t s16))⟩
    (.one ⟨some s11, none, (.mv (.t s17))⟩
    .done))))))))
  (.cond (.t s11) (.seq (.reg (.one ⟨some s4, none, (.mv (.c (.v (.int .u64 0))))⟩
    (.one ⟨some s5, none, (.mv (.c (.v (.int .i64 1))))⟩
    .done)))
  .ret) (.seq (.reg (.one ⟨some s19, none, (.mv (.t s1))⟩
    (.one ⟨some s20, none, (.mv (.t s0))⟩
    (.one ⟨some s21, none, (.callq 127 [(.t s20)])⟩
    (.one ⟨some s22, none, (.bin false .gtr (.t s19) (.t s21))⟩
    (.one ⟨some s18, none, (.mv (.t s22))⟩
    .done))))))
  (.cond (.t s18) (.seq (.reg (.one ⟨some s4, none, (.mv (.c (.v (.int .u64 0))))⟩
    (.one ⟨some s5, none, (.mv (.c (.v (.int .i64 8))))⟩
    .done)))
  .ret) .skip)))))))
  (.seq (.reg (.one ⟨some s6, none, (.mv (.c (.v (.int .u64 0))))⟩
    .done))
  (.seq (.reg (.one ⟨some s23, none, (.mv (.t s0))⟩
    (.one ⟨some s24, none, (.nilchk (.t s23))⟩
    (.one ⟨some s25, none, (.faddr 1 (.t s24))⟩
    (.one ⟨some s26, none, (.load none (.t s25))⟩
    (.one ⟨some s27, none, (.mv (.t s1))⟩
    (.one ⟨some s28, none, (.bin false .add (.t s26) (.t s27))⟩
    (.one ⟨some s7, none, (.mv (.t s28))⟩
    .done))))))))
  (.seq (.label 0)
  (.seq (.seq (.reg (.one ⟨some s29, none, (.mv (.t s0))⟩
    (.one ⟨some s30, none, (.nilchk (.t s29))⟩
    (.one ⟨some s31, none, (.faddr 1 (.t s30))⟩
    (.one ⟨some s32, none, (.load none (.t s31))⟩
    (.one ⟨some s33, none, (.mv (.t s7))⟩
    (.one ⟨some s34, none, (.bin false .lss (.t s32) (.t s33))⟩
    .done)))))))
  (.cond (.t s34) (.seq (.reg (.one ⟨some s35, none, (.mv (.t s6))⟩
    (.one ⟨some s36, none, (.bin false .shl (.t s35) (.c (.v (.int .u64 1))))⟩
    (.one ⟨some s37, none, (.mv (.t s0))⟩
    (.one ⟨some s38, none, (.nilchk (.t s37))⟩
    (.one ⟨some s39, none, (.faddr 0 (.t s38))⟩
    (.one ⟨some s40, none, (.load none (.t s39))⟩
    (.one ⟨some s41, none, (.mv (.t s0))⟩
    (.one ⟨some s42, none, (.nilchk (.t s41))⟩
    (.one ⟨some s43, none, (.faddr 1 (.t s42))⟩
    (.one ⟨some s44, none, (.load none (.t s43))⟩
    (.one ⟨some s45, none, (.bin false .quo (.t s44) (.c (.v (.int .i64 8))))⟩
    (.one ⟨some s46, none, (.iaddr 1 (.t s40) (.t s45))⟩
    (.one ⟨some s47, none, (.load none (.t s46))⟩
    (.one ⟨some s48, none, (.mv (.t s0))⟩
    (.one ⟨some s49, none, (.nilchk (.t s48))⟩
    (.one ⟨some s50, none, (.faddr 1 (.t s49))⟩
    (.one ⟨some s51, none, (.load none (.t s50))⟩
    (.one ⟨some s52, none, (.bin false .rem (.t s51) (.c (.v (.int .i64 8))))⟩
    (.one ⟨some s53, none, (.bin false .sub (.c (.v (.int .i64 7))) (.t s52))⟩
    (.one ⟨some s54, none, (.bin false .shr (.t s47) (.t s53))⟩
    (.one ⟨some s55, none, (.bin false .and (.t s54) (.c (.v (.int .u8 1))))⟩
    (.one ⟨some s56, none, (.conv .u64 (.t s55))⟩
    (.one ⟨some s57, none, (.bin false .or (.t s36) (.t s56))⟩
    (.one ⟨some s6, none, (.mv (.t s57))⟩
    .done)))))))))))))))))))))))))
  (.seq (.reg (.one ⟨some s58, none, (.mv (.t s0))⟩
    (.one ⟨some s59, none, (.nilchk (.t s58))⟩
    (.one ⟨some s60, none, (.faddr 1 (.t s59))⟩
    (.one ⟨some s61, none, (.load none (.t s60))⟩
    (.one ⟨some s62, none, (.bin false .add (.t s61) (.c (.v (.int .i64 1))))⟩
    (.one ⟨some s63, none, (.nilchk (.t s58))⟩
    (.one ⟨some s64, none, (.faddr 1 (.t s63))⟩
    (.one ⟨none, none, (.store 1 (.t s64) (.t s62))⟩
    .done)))))))))
  (.goto 0))) .skip))
  (.seq (.reg (.one ⟨some s65, none, (.mv (.t s6))⟩
    (.one ⟨some s4, none, (.mv (.t s65))⟩
    (.one ⟨some s5, none, (.mv (.c (.v (.int .i64 0))))⟩
    .done))))
  .ret))))))))⟩
theorem ok123 : compF Try.prog c123 Try.f123 = some ir123 := by kernel_rfl
theorem k_bits_Reader_Get {args : List AVal} {σ : AHeap} {Q : AVal → AHeap → Prop} (hl : Nat.ble args.length 66 = true) (h : argsK (Env.full 9) 0 args fun env => evC Try.prog c123 ir123.body env σ (retQ ir123 Q)) : ACalls Try.prog 123 args σ Q :=
  acalls_of Try.func123 ok123 rfl (Nat.le_of_ble_eq_true hl) h
/- bits.Writer).one -/
def c124 : Cfg := ⟨qs, [], 47, []⟩
def ir124 : IFun := ⟨2, [],
  (.seq (.seq (.reg (.one ⟨some s4, none, (.mv (.t s0))⟩
    (.one ⟨some s5, none, (.nilchk (.t s4))⟩
    (.one ⟨some s6, none, (.faddr 1 (.t s5))⟩
    (.one ⟨some s7, none, (.load none (.t s6))⟩
    (.one ⟨some s8, none, (.bin false .rem (.t s7) (.c (.v (.int .i64 8))))⟩
    (.one ⟨some s9, none, (.bin false .eql (.t s8) (.c (.v (.int .i64 0))))⟩
    .done)))))))
  (.cond (.t s9) (.reg (.one ⟨some s10, none, (.mv (.t s0))⟩
    (.one ⟨some s11, none, (.mv (.t s0))⟩
    (.one ⟨some s12, none, (.nilchk (.t s11))⟩
    (.one ⟨some s13, none, (.faddr 0 (.t s12))⟩
    (.one ⟨some s14, none, (.load none (.t s13))⟩
    (.one ⟨some s15, none, (.row 1 [(.c (.v (.int .u8 0)))])⟩
    (.one ⟨some s16, none, (.app 1 1 (.t s14) (.t s15))⟩
    (.one ⟨some s17, none, (.nilchk (.t s10))⟩
    (.one ⟨some s18, none, (.faddr 0 (.t s17))⟩
    (.one ⟨none, none, (.store 1 (.t s18) (.t s16))⟩
    .done))))))))))) .skip))
  (.seq (.reg (.one ⟨some s19, none, (.mv (.t s0))⟩
    (.one ⟨some s20, none, (.nilchk (.t s19))⟩
    (.one ⟨some s21, none, (.faddr 0 (.t s20))⟩
    (.one ⟨some s22, none, (.load none (.t s21))⟩
    (.one ⟨some s23, none, (.mv (.t s0))⟩
    (.one ⟨some s24, none, (.nilchk (.t s23))⟩
    (.one ⟨some s25, none, (.faddr 1 (.t s24))⟩
    (.one ⟨some s26, none, (.load none (.t s25))⟩
    (.one ⟨some s27, none, (.bin false .quo (.t s26) (.c (.v (.int .i64 8))))⟩
    (.one ⟨some s28, none, (.iaddr 1 (.t s22) (.t s27))⟩
    (.one ⟨some s29, none, (.load none (.t s28))⟩
    (.one ⟨some s30, none, (.mv (.t s1))⟩
    (.one ⟨some s31, none, (.mv (.t s0))⟩
    (.one ⟨some s32, none, (.nilchk (.t s31))⟩
    (.one ⟨some s33, none, (.faddr 1 (.t s32))⟩
    (.one ⟨some s34, none, (.load none (.t s33))⟩
    (.one ⟨some s35, none, (.bin false .rem (.t s34) (.c (.v (.int .i64 8))))⟩
    (.one ⟨some s36, none, (.bin false .sub (.c (.v (.int .i64 7))) (.t s35))⟩
    (.one ⟨some s37, none, (.bin false .shl (.t s30) (.t s36))⟩
    (.one ⟨some s38, none, (.bin false .or (.t s29) (.t s37))⟩
    (.one ⟨some s39, none, (.iaddr 1 (.t s22) (.t s27))⟩
    (.one ⟨none, none, (.store 1 (.t s39) (.t s38))⟩
    .done)))))))))))))))))))))))
  (.reg (.one ⟨some s40, none, (.mv (.t s0))⟩
    (.one ⟨some s41, none, (.nilchk (.t s40))⟩
    (.one ⟨some s42, none, (.faddr 1 (.t s41))⟩
    (.one ⟨some s43, none, (.load none (.t s42))⟩
    (.one ⟨some s44, none, (.bin false .add (.t s43) (.c (.v (.int .i64 1))))⟩
    (.one ⟨some s45, none, (.nilchk (.t s40))⟩
    (.one ⟨some s46, none, (.faddr 1 (.t s45))⟩
    (.one ⟨none, none, (.store 1 (.t s46) (.t s44))⟩
    .done)))))))))))⟩
theorem ok124 : compF Try.prog c124 Try.f124 = some ir124 := by kernel_rfl
theorem k_bits_Writer_one {args : List AVal} {σ : AHeap} {Q : AVal → AHeap → Prop} (hl : Nat.ble args.length 47 = true) (h : argsK (Env.full 9) 0 args fun env => evC Try.prog c124 ir124.body env σ (retQ ir124 Q)) : ACalls Try.prog 124 args σ Q :=
  acalls_of Try.func124 ok124 rfl (Nat.le_of_ble_eq_true hl) h
/- bits.Writer).one -/
def c124m : Cfg := ⟨qs, [22, 23, 29, 36, 45, 47, 48, 58, 62, 87, 92], 47, []⟩
def ir124m : IFun := ⟨2, [],
  (.seq (.seq (.reg (.one ⟨some s4, none, (.mv (.t s0))⟩
    (.one ⟨some s5, none, (.nilchk (.t s4))⟩
    (.one ⟨some s6, none, (.faddr 1 (.t s5))⟩
    (.one ⟨some s7, none, (.load none (.t s6))⟩
    (.one ⟨some s8, none, (.bin false .rem (.t s7) (.c (.v (.int .i64 8))))⟩
    (.one ⟨some s9, none, (.bin false .eql (.t s8) (.c (.v (.int .i64 0))))⟩
    .done)))))))
  (.cond (.t s9) (.reg (.one ⟨some s10, none, (.mv (.t s0))⟩
    (.one ⟨some s11, none, (.mv (.t s0))⟩
    (.one ⟨some s12, none, (.nilchk (.t s11))⟩
    (.one ⟨some s13, none, (.faddr 0 (.t s12))⟩
    (.one ⟨some s14, none, (.load none (.t s13))⟩
    (.one ⟨some s15, none, (.row 1 [(.c (.v (.int .u8 0)))])⟩
    (.one ⟨some s16, none, (.appm 1 1 (.t s14) (.t s15))⟩
    (.one ⟨some s17, none, (.nilchk (.t s10))⟩
    (.one ⟨some s18, none, (.faddr 0 (.t s17))⟩
    (.one ⟨none, none, (.store 1 (.t s18) (.t s16))⟩
    .done))))))))))) .skip))
  (.seq (.reg (.one ⟨some s19, none, (.mv (.t s0))⟩
    (.one ⟨some s20, none, (.nilchk (.t s19))⟩
    (.one ⟨some s21, none, (.faddr 0 (.t s20))⟩
    (.one ⟨some s22, none, (.load none (.t s21))⟩
    (.one ⟨some s23, none, (.mv (.t s0))⟩
    (.one ⟨some s24, none, (.nilchk (.t s23))⟩
    (.one ⟨some s25, none, (.faddr 1 (.t s24))⟩
    (.one ⟨some s26, none, (.load none (.t s25))⟩
    (.one ⟨some s27, none, (.bin false .quo (.t s26) (.c (.v (.int .i64 8))))⟩
    (.one ⟨some s28, none, (.iaddr 1 (.t s22) (.t s27))⟩
    (.one ⟨some s29, none, (.load none (.t s28))⟩
    (.one ⟨some s30, none, (.mv (.t s1))⟩
    (.one ⟨some s31, none, (.mv (.t s0))⟩
    (.one ⟨some s32, none, (.nilchk (.t s31))⟩
    (.one ⟨some s33, none, (.faddr 1 (.t s32))⟩
    (.one ⟨some s34, none, (.load none (.t s33))⟩
    (.one ⟨some s35, none, (.bin false .rem (.t s34) (.c (.v (.int .i64 8))))⟩
    (.one ⟨some s36, none, (.bin false .sub (.c (.v (.int .i64 7))) (.t s35))⟩
    (.one ⟨some s37, none, (.bin false .shl (.t s30) (.t s36))⟩
    (.one ⟨some s38, none, (.bin false .or (.t s29) (.t s37))⟩
    (.one ⟨some s39, none, (.iaddr 1 (.t s22) (.t s27))⟩
    (.one ⟨none, none, (.store 1 (.t s39) (.t s38))⟩
    .done)))))))))))))))))))))))
  (.reg (.one ⟨some s40, none, (.mv (.t s0))⟩
    (.one ⟨some s41, none, (.nilchk (.t s40))⟩
    (.one ⟨some s42, none, (.faddr 1 (.t s41))⟩
    (.one ⟨some s43, none, (.load none (.t s42))⟩
    (.one ⟨some s44, none, (.bin false .add (.t s43) (.c (.v (.int .i64 1))))⟩
    (.one ⟨some s45, none, (.nilchk (.t s40))⟩
    (.one ⟨some s46, none, (.faddr 1 (.t s45))⟩
    (.one ⟨none, none, (.store 1 (.t s46) (.t s44))⟩
    .done)))))))))))⟩
theorem ok124m : compF Try.prog c124m Try.f124 = some ir124m := by kernel_rfl
theorem km_bits_Writer_one {args : List AVal} {σ : AHeap} {Q : AVal → AHeap → Prop} (hl : Nat.ble args.length 47 = true) (h : argsK (Env.full 9) 0 args fun env => evC Try.prog c124m ir124m.body env σ (retQ ir124m Q)) : ACalls Try.prog 124 args σ Q :=
  acalls_of Try.func124 ok124m rfl (Nat.le_of_ble_eq_true hl) h
/- bits.Reader).Left -/
def c127 : Cfg := ⟨qs, [], 16, []⟩
def ir127 : IFun := ⟨1, [.tmp s2],
  (.seq (.reg (.one ⟨some s2, none, (.mv (.c (.v (.int .i64 0))))⟩
    .done))
  (.seq (.seq (.reg (.one ⟨some s3, none, (.mv (.t s0))⟩
    (.one ⟨some s4, none, (.eqNil 1 false (.t s3))⟩
    .done)))
  (.cond (.t s4) (.seq (.reg (.one ⟨some s2, none, (.mv (.c (.v (.int .i64 0))))⟩
    .done))
  .ret) .skip))
  (.seq (.reg (.one ⟨some s5, none, (.mv (.t s0))⟩
    (.one ⟨some s6, none, (.nilchk (.t s5))⟩
    (.one ⟨some s7, none, (.faddr 0 (.t s6))⟩
    (.one ⟨some s8, none, (.load none (.t s7))⟩
    (.one ⟨some s9, none, (.len false (.t s8))⟩
    (.one ⟨some s10, none, (.bin false .mul (.t s9) (.c (.v (.int .i64 8))))⟩
    (.one ⟨some s11, none, (.mv (.t s0))⟩
    (.one ⟨some s12, none, (.nilchk (.t s11))⟩
    (.one ⟨some s13, none, (.faddr 1 (.t s12))⟩
    (.one ⟨some s14, none, (.load none (.t s13))⟩
    (.one ⟨some s15, none, (.bin false .sub (.t s10) (.t s14))⟩
    (.one ⟨some s2, none, (.mv (.t s15))⟩
    .done)))))))))))))
  .ret)))⟩
theorem ok127 : compF Try.prog c127 Try.f127 = some ir127 := by kernel_rfl
theorem k_bits_Reader_Left {args : List AVal} {σ : AHeap} {Q : AVal → AHeap → Prop} (hl : Nat.ble args.length 16 = true) (h : argsK (Env.full 9) 0 args fun env => evC Try.prog c127 ir127.body env σ (retQ ir127 Q)) : ACalls Try.prog 127 args σ Q :=
  acalls_of Try.func127 ok127 rfl (Nat.le_of_ble_eq_true hl) h
end Go.Proofs.Ytnfdgccmpglbhaa
/-
  The bodies of one package, compiled to the framework's language (printed by a program of this session).
-/
namespace Go.Proofs.Ytnfdgccmpglbhaa
set_option linter.unusedVariables false
set_option linter.unusedSimpArgs false
open Go Go.Am
/- bowlineref11.Read -/
def c49 : Cfg := ⟨qs, [], 120, []⟩
def ir49 : IFun := ⟨2, [.cell s4 (some 2), .tmp s5],
  (.seq (.reg (.one ⟨some s4, none, (.new [(.v (.int .i64 0)), (.slice 4 [] .full)])⟩
    (.one ⟨some s5, none, (.mv (.c (.v (.int .i64 0))))⟩
    .done)))
  (.seq (.seq (.reg (.one ⟨some s17, none, (.mv (.t s1))⟩
    (.one ⟨some s18, none, (.bin false .neq (.t s17) (.c (.v (.int .i64 10))))⟩
    (.one ⟨some s19, none, (.mv (.t s18))⟩
    (.one ⟨some s20, some (s19, true), (.mv (.t s1))⟩
    (.one ⟨some s21, some (s19, true), (.bin false .neq (.t s20) (.c (.v (.int .i64 16))))⟩
    (.one ⟨some s22, none, (.pick (.t s19) (.t s21) (.c (.v (.bool false))))⟩
    .done)))))))
  (.cond (.t s22) (.seq (.reg (.one ⟨some s23, none, (.build [(.v (.int .i64 0)), (.slice 4 [] .full)] [])⟩
    (.one ⟨none, none, (.store 2 (.t s4) (.t s23))⟩
    (.one ⟨some s5, none, (.mv (.c (.v (.int .i64 9))))⟩
    .done))))
  .ret) .skip))
  (.seq (.seq (.reg (.one ⟨some s24, none, (.mv (.t s0))⟩
    (.one ⟨some s25, none, (.len false (.t s24))⟩
    (.one ⟨some s26, none, (.bin false .eql (.t s25) (.c (.v (.int .i64 0))))⟩
    .done))))
  (.cond (.t s26) (.seq (.reg (.one ⟨some s27, none, (.build [(.v (.int .i64 0)), (.slice 4 [] .full)] [])⟩
    (.one ⟨none, none, (.store 2 (.t s4) (.t s27))⟩
    (.one ⟨some s5, none, (.mv (.c (.v (.int .i64 8))))⟩
    .done))))
  .ret) .skip))
  (.seq (.reg (.one ⟨some s28, none, (.mv (.t s0))⟩
    (.one ⟨some s29, none, (.callq 97 [(.t s28)])⟩
    (.one ⟨some s6, none, (.mv (.t s29))⟩
    .done))))
  (.seq (.seq (.reg (.one ⟨some s30, none, (.mv (.t s6))⟩
    (.one ⟨some s31, none, (.iaddr 1 (.t s30) (.c (.v (.int .i64 0))))⟩
    (.one ⟨some s32, none, (.load none (.t s31))⟩
    .done))))
  (.cond (.t s32) (.seq (.reg (.one ⟨some s33, none, (.build [(.v (.int .i64 0)), (.slice 4 [] .full)] [])⟩
    (.one ⟨none, none, (.store 2 (.t s4) (.t s33))⟩
    (.one ⟨some s5, none, (.mv (.c (.v (.int .i64 4))))⟩
    .done))))
  .ret) .skip))
  (.seq (.seq (.reg (.one ⟨some s34, none, (.mv (.t s6))⟩
    (.one ⟨some s35, none, (.iaddr 1 (.t s34) (.c (.v (.int .i64 1))))⟩
    (.one ⟨some s36, none, (.load none (.t s35))⟩
    (.one ⟨some s37, none, (.mv (.t s36))⟩
    (.one ⟨some s38, some (s37, false), (.mv (.t s6))⟩
    (.one ⟨some s39, some (s37, false), (.iaddr 1 (.t s38) (.c (.v (.int .i64 2))))⟩
    (.one ⟨some s40, some (s37, false), (.load none (.t s39))⟩
    (.one ⟨some s41, none, (.pick (.t s37) (.c (.v (.bool true))) (.t s40))⟩
    (.one ⟨some s42, none, (.mv (.t s41))⟩
    (.one ⟨some s43, some (s42, false), (.mv (.t s6))⟩
    (.one ⟨some s44, some (s42, false), (.iaddr 1 (.t s43) (.c (.v (.int .i64 3))))⟩
    (.one ⟨some s45, some (s42, false), (.load none (.t s44))⟩
    (.one ⟨some s46, none, (.pick (.t s42) (.c (.v (.bool true))) (.t s45))⟩
    .done))))))))))))))
  (.cond (.t s46) (.seq (.reg (.one ⟨some s47, none, (.build [(.v (.int .i64 0)), (.slice 4 [] .full)] [])⟩
    (.one ⟨none, none, (.store 2 (.t s4) (.t s47))⟩
    (.one ⟨some s5, none, (.mv (.c (.v (.int .i64 3))))⟩
    .done))))
  .ret) .skip))
  (.seq (.seq (.reg (.one ⟨some s48, none, (.mv (.t s6))⟩
    (.one ⟨some s49, none, (.len false (.t s48))⟩
    (.one ⟨some s50, none, (.mv (.t s1))⟩
    (.one ⟨some s51, none, (.bin false .add (.t s50) (.c (.v (.int .i64 5))))⟩
    (.one ⟨some s52, none, (.bin false .lss (.t s49) (.t s51))⟩
    .done))))))
  (.cond (.t s52) (.seq (.reg (.one ⟨some s53, none, (.build [(.v (.int .i64 0)), (.slice 4 [] .full)] [])⟩
    (.one ⟨none, none, (.store 2 (.t s4) (.t s53))⟩
    (.one ⟨some s5, none, (.mv (.c (.v (.int .i64 8))))⟩
    .done))))
  .ret) .skip))
  (.seq (.reg (.one ⟨some s55, none, (.mv (.t s6))⟩
    (.one ⟨some s56, none, (.mv (.t s1))⟩
    (.one ⟨some s57, none, (.callq 98 [(.t s55), (.c (.v (.int .i64 4))), (.t s56)])⟩
    (.one ⟨some s54, none, (.mv (.t s57))⟩
    (.one ⟨some s58, none, (.ext (.t s54) 0)⟩
    (.one ⟨some s59, none, (.ext (.t s54) 1)⟩
    (.one ⟨some s60, none, (.ext (.t s54) 2)⟩
    (.one ⟨some s7, none, (.mv (.t s58))⟩
    (.one ⟨some s8, none, (.mv (.t s59))⟩
    (.one ⟨some s9, none, (.mv (.t s60))⟩
    .done)))))))))))
  (.seq (.reg (.one ⟨some s61, none, (.mv (.t s7))⟩
    (.one ⟨some s62, none, (.conv .i64 (.t s61))⟩
    (.one ⟨some s63, none, (.build [(.v (.int .i64 0)), (.slice 4 [] .full)] [(0, 1, (.t s62))])⟩
    (.one ⟨some s10, none, (.new [(.v (.int .i64 0)), (.slice 4 [] .full)])⟩
    (.one ⟨none, none, (.store 2 (.t s10) (.t s63))⟩
    .done))))))
  (.seq (.reg (.one ⟨some s64, none, (.mv (.t s6))⟩
    (.one ⟨some s65, none, (.mv (.t s8))⟩
    (.one ⟨some s66, none, (.iaddr 1 (.t s64) (.t s65))⟩
    (.one ⟨some s67, none, (.load none (.t s66))⟩
    (.one ⟨some s11, none, (.mv (.t s67))⟩
    .done))))))
  (.seq (.reg (.one ⟨some s68, none, (.mv (.t s8))⟩
    (.one ⟨some s69, none, (.bin false .add (.t s68) (.c (.v (.int .i64 1))))⟩
    (.one ⟨some s8, none, (.mv (.t s69))⟩
    .done))))
  (.seq (.block 0 (.loop (.seq (.seq (.reg (.one ⟨some s70, none, (.mv (.t s11))⟩
    .done))
  (.cond (.t s70) .skip (.exit 0)))
  (.block 1 (.seq (.seq (.reg (.one ⟨some s71, none, (.faddr 1 (.t s10))⟩
    (.one ⟨some s72, none, (.load none (.t s71))⟩
    (.one ⟨some s73, none, (.len false (.t s72))⟩
    (.one ⟨some s74, none, (.bin false .eql (.t s73) (.c (.v (.int .i64 32))))⟩
    .done)))))
  (.cond (.t s74) (.seq (.reg (.one ⟨some s75, none, (.build [(.v (.int .i64 0)), (.slice 4 [] .full)] [])⟩
    (.one ⟨none, none, (.store 2 (.t s4) (.t s75))⟩
    (.one ⟨some s5, none, (.mv (.c (.v (.int .i64 2))))⟩
    .done))))
  .ret) .skip))
  (.seq (.reg (.one ⟨some s77, none, (.mv (.t s6))⟩
    (.one ⟨some s78, none, (.mv (.t s8))⟩
    (.one ⟨some s79, none, (.mv (.t s1))⟩
    (.one ⟨some s80, none, (.callq 99 [(.t s77), (.t s78), (.t s79)])⟩
    (.one ⟨some s76, none, (.mv (.t s80))⟩
    (.one ⟨some s81, none, (.ext (.t s76) 0)⟩
    (.one ⟨some s82, none, (.ext (.t s76) 1)⟩
    (.one ⟨some s83, none, (.ext (.t s76) 2)⟩
    (.one ⟨some s84, none, (.ext (.t s76) 3)⟩
    (.one ⟨some s12, none, (.new [(.v (.int .i64 0)), (.v (.bool false)), (.v (.int .i64 0)), (.v (.int .i64 0))])⟩
    (.one ⟨none, none, (.store 4 (.t s12) (.t s81))⟩
    (.one ⟨some s13, none, (.mv (.t s82))⟩
    (.one ⟨some s14, none, (.mv (.t s83))⟩
    (.one ⟨some s15, none, (.mv (.t s84))⟩
    .done)))))))))))))))
  (.seq (.seq (.reg (.one ⟨some s85, none, (.mv (.t s15))⟩
    (.one ⟨some s86, none, (.not (.t s85))⟩
    .done)))
  (.cond (.t s86) (.seq (.reg (.one ⟨some s87, none, (.build [(.v (.int .i64 0)), (.slice 4 [] .full)] [])⟩
    (.one ⟨none, none, (.store 2 (.t s4) (.t s87))⟩
    (.one ⟨some s5, none, (.mv (.c (.v (.int .i64 8))))⟩
    .done))))
  .ret) .skip))
  (.seq (.seq (.reg (.one ⟨some s88, none, (.load (some 4) (.t s12))⟩
    (.one ⟨some s89, none, (.mv (.t s1))⟩
    (.one ⟨some s90, none, (.callq 100 [(.t s88), (.t s89)])⟩
    (.one ⟨some s91, none, (.not (.t s90))⟩
    .done)))))
  (.cond (.t s91) (.seq (.reg (.one ⟨some s92, none, (.build [(.v (.int .i64 0)), (.slice 4 [] .full)] [])⟩
    (.one ⟨none, none, (.store 2 (.t s4) (.t s92))⟩
    (.one ⟨some s5, none, (.mv (.c (.v (.int .i64 3))))⟩
    .done))))
  .ret) .skip))
  (.seq (.reg (.one ⟨some s93, none, (.faddr 1 (.t s10))⟩
    (.one ⟨some s94, none, (.load none (.t s93))⟩
    (.one ⟨some s95, none, (.load (some 4) (.t s12))⟩
    (.one ⟨some s96, none, (.row 4 [(.t s95)])⟩
    (.one ⟨some s97, none, (.app 4 32 (.t s94) (.t s96))⟩
    (.one ⟨some s98, none, (.faddr 1 (.t s10))⟩
    (.one ⟨none, none, (.store 1 (.t s98) (.t s97))⟩
    .done))))))))
  (.reg (.one ⟨some s99, none, (.mv (.t s13))⟩
    (.one ⟨some s100, none, (.mv (.t s14))⟩
    (.one ⟨some s11, none, (.mv (.t s99))⟩
    (.one ⟨some s8, none, (.mv (.t s100))⟩
    .done))))))))))))))
  (.seq (.seq (.reg (.one ⟨some s101, none, (.mv (.t s6))⟩
    (.one ⟨some s102, none, (.len false (.t s101))⟩
    (.one ⟨some s103, none, (.mv (.t s8))⟩
    (.one ⟨some s104, none, (.bin false .sub (.t s102) (.t s103))⟩
    (.one ⟨some s105, none, (.bin false .gtr (.t s104) (.c (.v (.int .i64 7))))⟩
    .done))))))
  (.cond (.t s105) (.seq (.reg (.one ⟨some s106, none, (.build [(.v (.int .i64 0)), (.slice 4 [] .full)] [])⟩
    (.one ⟨none, none, (.store 2 (.t s4) (.t s106))⟩
    (.one ⟨some s5, none, (.mv (.c (.v (.int .i64 3))))⟩
    .done))))
  .ret) .skip))
  (.seq (.seq (.reg (.one ⟨some s107, none, (.mv (.t s8))⟩
    (.one ⟨some s16, none, (.mv (.t s107))⟩
    .done)))
  (.block 2 (.loop (.seq (.seq (.reg (.one ⟨some s108, none, (.mv (.t s16))⟩
    (.one ⟨some s109, none, (.mv (.t s6))⟩
    (.one ⟨some s110, none, (.len false (.t s109))⟩
    (.one ⟨some s111, none, (.bin false .lss (.t s108) (.t s110))⟩
    .done)))))
  (.cond (.t s111) .skip (.exit 2)))
  (.seq (.block 3 (.seq (.reg (.one ⟨some s114, none, (.mv (.t s6))⟩
    (.one ⟨some s115, none, (.mv (.t s16))⟩
    (.one ⟨some s116, none, (.iaddr 1 (.t s114) (.t s115))⟩
    (.one ⟨some s117, none, (.load none (.t s116))⟩
    .done)))))
  (.cond (.t s117) (.seq (.reg (.one ⟨some s118, none, (.build [(.v (.int .i64 0)), (.slice 4 [] .full)] [])⟩
    (.one ⟨none, none, (.store 2 (.t s4) (.t s118))⟩
    (.one ⟨some s5, none, (.mv (.c (.v (.int .i64 3))))⟩
    .done))))
  .ret) .skip)))
  (.reg (.one ⟨some s112, none, (.mv (.t s16))⟩
    (.one ⟨some s113, none, (.bin false .add (.t s112) (.c (.v (.int .i64 1))))⟩
    (.one ⟨some s16, none, (.mv (.t s113))⟩
    .done)))))))))
  (.seq (.reg (.one ⟨some s119, none, (.load (some 2) (.t s10))⟩
    (.one ⟨none, none, (.store 2 (.t s4) (.t s119))⟩
    (.one ⟨some s5, none, (.mv (.c (.v (.int .i64 0))))⟩
    .done))))
  .ret)))))))))))))))⟩
theorem ok49 : compF Try.prog c49 Try.f49 = some ir49 := by kernel_rfl
theorem k_bowlineref11_Read {args : List AVal} {σ : AHeap} {Q : AVal → AHeap → Prop} (hl : Nat.ble args.length 120 = true) (h : argsK (Env.full 9) 0 args fun env => evC Try.prog c49 ir49.body env σ (retQ ir49 Q)) : ACalls Try.prog 49 args σ Q :=
  acalls_of Try.func49 ok49 rfl (Nat.le_of_ble_eq_true hl) h
/- bowlineref11.Same -/
def c50 : Cfg := ⟨qs, [], 38, []⟩
def ir50 : IFun := ⟨2, [.tmp s4],
  (.seq (.reg (.one ⟨some s2, none, (.box 2 (.t s0))⟩
    (.one ⟨some s3, none, (.box 2 (.t s1))⟩
    (.one ⟨some s4, none, (.mv (.c (.v (.bool false))))⟩
    .done))))
  (.seq (.seq (.reg (.one ⟨some s6, none, (.faddr 0 (.t s2))⟩
    (.one ⟨some s7, none, (.load none (.t s6))⟩
    (.one ⟨some s8, none, (.faddr 0 (.t s3))⟩
    (.one ⟨some s9, none, (.load none (.t s8))⟩
    (.one ⟨some s10, none, (.bin false .neq (.t s7) (.t s9))⟩
    (.one ⟨some s11, none, (.mv (.t s10))⟩
    (.one ⟨some s12, some (s11, false), (.faddr 1 (.t s2))⟩
    (.one ⟨some s13, some (s11, false), (.load none (.t s12))⟩
    (.one ⟨some s14, some (s11, false), (.len false (.t s13))⟩
    (.one ⟨some s15, some (s11, false), (.faddr 1 (.t s3))⟩
    (.one ⟨some s16, some (s11, false), (.load none (.t s15))⟩
    (.one ⟨some s17, some (s11, false), (.len false (.t s16))⟩
    (.one ⟨some s18, some (s11, false), (.bin false .neq (.t s14) (.t s17))⟩
    (.one ⟨some s19, none, (.pick (.t s11) (.c (.v (.bool true))) (.t s18))⟩
    .done)))))))))))))))
  (.cond (.t s19) (.seq (.reg (.one ⟨some s4, none, (.mv (.c (.v (.bool false))))⟩
    .done))
  .ret) .skip))
  (.seq (.seq (.reg (.one ⟨some s5, none, (.mv (.c (.v (.int .i64 0))))⟩
    .done))
  (.block 0 (.loop (.seq (.seq (.reg (.one ⟨some s20, none, (.mv (.t s5))⟩
    (.one ⟨some s21, none, (.faddr 1 (.t s2))⟩
    (.one ⟨some s22, none, (.load none (.t s21))⟩
    (.one ⟨some s23, none, (.len false (.t s22))⟩
    (.one ⟨some s24, none, (.bin false .lss (.t s20) (.t s23))⟩
    .done))))))
  (.cond (.t s24) .skip (.exit 0)))
  (.seq (.block 1 (.seq (.reg (.one ⟨some s27, none, (.faddr 1 (.t s2))⟩
    (.one ⟨some s28, none, (.load none (.t s27))⟩
    (.one ⟨some s29, none, (.mv (.t s5))⟩
    (.one ⟨some s30, none, (.iaddr 4 (.t s28) (.t s29))⟩
    (.one ⟨some s31, none, (.load (some 4) (.t s30))⟩
    (.one ⟨some s32, none, (.faddr 1 (.t s3))⟩
    (.one ⟨some s33, none, (.load none (.t s32))⟩
    (.one ⟨some s34, none, (.mv (.t s5))⟩
    (.one ⟨some s35, none, (.iaddr 4 (.t s33) (.t s34))⟩
    (.one ⟨some s36, none, (.load (some 4) (.t s35))⟩
    (.one ⟨some s37, none, (.eqAgg true [false, true, false, false] (.t s31) (.t s36))⟩
    .done))))))))))))
  (.cond (.t s37) (.seq (.reg (.one ⟨some s4, none, (.mv (.c (.v (.bool false))))⟩
    .done))
  .ret) .skip)))
  (.reg (.one ⟨some s25, none, (.mv (.t s5))⟩
    (.one ⟨some s26, none, (.bin false .add (.t s25) (.c (.v (.int .i64 1))))⟩
    (.one ⟨some s5, none, (.mv (.t s26))⟩
    .done)))))))))
  (.seq (.reg (.one ⟨some s4, none, (.mv (.c (.v (.bool true))))⟩
    .done))
  .ret))))⟩
theorem ok50 : compF Try.prog c50 Try.f50 = some ir50 := by kernel_rfl
theorem k_bowlineref11_Same {args : List AVal} {σ : AHeap} {Q : AVal → AHeap → Prop} (hl : Nat.ble args.length 38 = true) (h : argsK (Env.full 9) 0 args fun env => evC Try.prog c50 ir50.body env σ (retQ ir50 Q)) : ACalls Try.prog 50 args σ Q :=
  acalls_of Try.func50 ok50 rfl (Nat.le_of_ble_eq_true hl) h
/- bowlineref11.Right -/
def c55 : Cfg := ⟨qs, [], 40, []⟩
def ir55 : IFun := ⟨2, [.tmp s4],
  (.seq (.reg (.one ⟨some s2, none, (.box 2 (.t s0))⟩
    (.one ⟨some s4, none, (.mv (.c (.v (.bool false))))⟩
    .done)))
  (.seq (.seq (.reg (.one ⟨some s6, none, (.mv (.t s1))⟩
    (.one ⟨some s7, none, (.bin false .neq (.t s6) (.c (.v (.int .i64 10))))⟩
    (.one ⟨some s8, none, (.mv (.t s7))⟩
    (.one ⟨some s9, some (s8, true), (.mv (.t s1))⟩
    (.one ⟨some s10, some (s8, true), (.bin false .neq (.t s9) (.c (.v (.int .i64 16))))⟩
    (.one ⟨some s11, none, (.pick (.t s8) (.t s10) (.c (.v (.bool false))))⟩
    (.one ⟨some s12, none, (.mv (.t s11))⟩
    (.one ⟨some s13, some (s12, false), (.mv (.t s1))⟩
    (.one ⟨some s14, some (s12, false), (.faddr 0 (.t s2))⟩
    (.one ⟨some s15, some (s12, false), (.load none (.t s14))⟩
    (.one ⟨some s16, some (s12, false), (.callq 89 [(.t s13), (.t s15)])⟩
    (.one ⟨some s17, some (s12, false), (.not (.t s16))⟩
    (.one ⟨some s18, none, (.pick (.t s12) (.c (.v (.bool true))) (.t s17))⟩
    (.one ⟨some s19, none, (.mv (.t s18))⟩
    (.one ⟨some s20, some (s19, false), (.faddr 1 (.t s2))⟩
    (.one ⟨some s21, some (s19, false), (.load none (.t s20))⟩
    (.one ⟨some s22, some (s19, false), (.len false (.t s21))⟩
    (.one ⟨some s23, some (s19, false), (.bin false .gtr (.t s22) (.c (.v (.int .i64 32))))⟩
    (.one ⟨some s24, none, (.pick (.t s19) (.c (.v (.bool true))) (.t s23))⟩
    .done))))))))))))))))))))
  (.cond (.t s24) (.seq (.reg (.one ⟨some s4, none, (.mv (.c (.v (.bool false))))⟩
    .done))
  .ret) .skip))
  (.seq (.seq (.reg (.one ⟨some s5, none, (.mv (.c (.v (.int .i64 0))))⟩
    .done))
  (.block 0 (.loop (.seq (.seq (.reg (.one ⟨some s25, none, (.mv (.t s5))⟩
    (.one ⟨some s26, none, (.faddr 1 (.t s2))⟩
    (.one ⟨some s27, none, (.load none (.t s26))⟩
    (.one ⟨some s28, none, (.len false (.t s27))⟩
    (.one ⟨some s29, none, (.bin false .lss (.t s25) (.t s28))⟩
    .done))))))
  (.cond (.t s29) .skip (.exit 0)))
  (.seq (.block 1 (.seq (.reg (.one ⟨some s32, none, (.faddr 1 (.t s2))⟩
    (.one ⟨some s33, none, (.load none (.t s32))⟩
    (.one ⟨some s34, none, (.mv (.t s5))⟩
    (.one ⟨some s35, none, (.iaddr 4 (.t s33) (.t s34))⟩
    (.one ⟨some s36, none, (.load (some 4) (.t s35))⟩
    (.one ⟨some s37, none, (.mv (.t s1))⟩
    (.one ⟨some s38, none, (.callq 100 [(.t s36), (.t s37)])⟩
    (.one ⟨some s39, none, (.not (.t s38))⟩
    .done)))))))))
  (.cond (.t s39) (.seq (.reg (.one ⟨some s4, none, (.mv (.c (.v (.bool false))))⟩
    .done))
  .ret) .skip)))
  (.reg (.one ⟨some s30, none, (.mv (.t s5))⟩
    (.one ⟨some s31, none, (.bin false .add (.t s30) (.c (.v (.int .i64 1))))⟩
    (.one ⟨some s5, none, (.mv (.t s31))⟩
    .done)))))))))
  (.seq (.reg (.one ⟨some s4, none, (.mv (.c (.v (.bool true))))⟩
    .done))
  .ret))))⟩
theorem ok55 : compF Try.prog c55 Try.f55 = some ir55 := by kernel_rfl
theorem k_bowlineref11_Right {args : List AVal} {σ : AHeap} {Q : AVal → AHeap → Prop} (hl : Nat.ble args.length 40 = true) (h : argsK (Env.full 9) 0 args fun env => evC Try.prog c55 ir55.body env σ (retQ ir55 Q)) : ACalls Try.prog 55 args σ Q :=
  acalls_of Try.func55 ok55 rfl (Nat.le_of_ble_eq_true hl) h
/- bowlineref11.Size -/
def c56 : Cfg := ⟨qs, [], 13, []⟩
def ir56 : IFun := ⟨2, [.tmp s4],
  (.seq (.reg (.one ⟨some s2, none, (.box 2 (.t s0))⟩
    (.one ⟨some s4, none, (.mv (.c (.v (.int .i64 0))))⟩
    .done)))
  (.seq (.seq (.reg (.one ⟨some s5, none, (.load (some 2) (.t s2))⟩
    (.one ⟨some s6, none, (.mv (.t s1))⟩
    (.one ⟨some s7, none, (.callq 55 [(.t s5), (.t s6)])⟩
    (.one ⟨some s8, none, (.not (.t s7))⟩
    .done)))))
  (.cond (.t s8) (.seq (.reg (.one ⟨some s4, none, (.mv (.c (.v (.int .i64 0))))⟩
    .done))
  .ret) .skip))
  (.seq (.reg (.one ⟨some s9, none, (.load (some 2) (.t s2))⟩
    (.one ⟨some s10, none, (.mv (.t s1))⟩
    (.one ⟨some s11, none, (.callq 58 [(.t s9), (.t s10)])⟩
    (.one ⟨some s12, none, (.len false (.t s11))⟩
    (.one ⟨some s4, none, (.mv (.t s12))⟩
    .done))))))
  .ret)))⟩
theorem ok56 : compF Try.prog c56 Try.f56 = some ir56 := by kernel_rfl
theorem k_bowlineref11_Size {args : List AVal} {σ : AHeap} {Q : AVal → AHeap → Prop} (hl : Nat.ble args.length 13 = true) (h : argsK (Env.full 9) 0 args fun env => evC Try.prog c56 ir56.body env σ (retQ ir56 Q)) : ACalls Try.prog 56 args σ Q :=
  acalls_of Try.func56 ok56 rfl (Nat.le_of_ble_eq_true hl) h
/- bowlineref11.Write -/
def c58 : Cfg := ⟨qs, [], 90, []⟩
def ir58 : IFun := ⟨2, [.tmp s4],
  (.seq (.reg (.one ⟨some s2, none, (.box 2 (.t s0))⟩
    (.one ⟨some s4, none, (.mv (.c (.slice 1 [] .full)))⟩
    .done)))
  (.seq (.reg (.one ⟨some s9, none, (.row 1 [(.c (.v (.bool false))), (.c (.v (.bool false))), (.c (.v (.bool false))), (.c (.v (.bool false)))])⟩
    (.one ⟨some s5, none, (.mv (.t s9))⟩
    .done)))
  (.seq (.reg (.one ⟨some s11, none, (.mv (.t s5))⟩
    (.one ⟨some s12, none, (.faddr 0 (.t s2))⟩
    (.one ⟨some s13, none, (.load none (.t s12))⟩
    (.one ⟨some s14, none, (.conv .u64 (.t s13))⟩
    (.one ⟨some s15, none, (.mv (.t s1))⟩
    (.one ⟨some s16, none, (.callq 110 [(.t s11), (.t s14), (.t s15)])⟩
    (.one ⟨some s10, none, (.mv (.t s16))⟩
    (.one ⟨some s17, none, (.ext (.t s10) 0)⟩
    (.one ⟨some s18, none, (.ext (.t s10) 1)⟩
    (.one ⟨some s5, none, (.mv (.t s17))⟩
    .done)))))))))))
  (.seq (.reg (.one ⟨some s19, none, (.mv (.t s5))⟩
    (.one ⟨some s20, none, (.faddr 1 (.t s2))⟩
    (.one ⟨some s21, none, (.load none (.t s20))⟩
    (.one ⟨some s22, none, (.len false (.t s21))⟩
    (.one ⟨some s23, none, (.bin false .gtr (.t s22) (.c (.v (.int .i64 0))))⟩
    (.one ⟨some s24, none, (.row 1 [(.t s23)])⟩
    (.one ⟨some s25, none, (.app 1 1 (.t s19) (.t s24))⟩
    (.one ⟨some s5, none, (.mv (.t s25))⟩
    .done)))))))))
  (.seq (.seq (.reg (.one ⟨some s6, none, (.mv (.c (.v (.int .i64 0))))⟩
    .done))
  (.block 0 (.loop (.seq (.seq (.reg (.one ⟨some s26, none, (.mv (.t s6))⟩
    (.one ⟨some s27, none, (.faddr 1 (.t s2))⟩
    (.one ⟨some s28, none, (.load none (.t s27))⟩
    (.one ⟨some s29, none, (.len false (.t s28))⟩
    (.one ⟨some s30, none, (.bin false .lss (.t s26) (.t s29))⟩
    .done))))))
  (.cond (.t s30) .skip (.exit 0)))
  (.seq (.block 1 (.seq (.reg (.one ⟨some s33, none, (.faddr 1 (.t s2))⟩
    (.one ⟨some s34, none, (.load none (.t s33))⟩
    (.one ⟨some s35, none, (.mv (.t s6))⟩
    (.one ⟨some s36, none, (.iaddr 4 (.t s34) (.t s35))⟩
    (.one ⟨some s37, none, (.load (some 4) (.t s36))⟩
    (.one ⟨some s7, none, (.new [(.v (.int .i64 0)), (.v (.bool false)), (.v (.int .i64 0)), (.v (.int .i64 0))])⟩
    (.one ⟨none, none, (.store 4 (.t s7) (.t s37))⟩
    .done))))))))
  (.seq (.reg (.one ⟨some s39, none, (.mv (.t s5))⟩
    (.one ⟨some s40, none, (.faddr 0 (.t s7))⟩
    (.one ⟨some s41, none, (.load none (.t s40))⟩
    (.one ⟨some s42, none, (.conv .u64 (.t s41))⟩
    (.one ⟨some s43, none, (.mv (.t s1))⟩
    (.one ⟨some s44, none, (.callq 110 [(.t s39), (.t s42), (.t s43)])⟩
    (.one ⟨some s38, none, (.mv (.t s44))⟩
    (.one ⟨some s45, none, (.ext (.t s38) 0)⟩
    (.one ⟨some s46, none, (.ext (.t s38) 1)⟩
    (.one ⟨some s5, none, (.mv (.t s45))⟩
    .done)))))))))))
  (.seq (.reg (.one ⟨some s47, none, (.mv (.t s5))⟩
    (.one ⟨some s48, none, (.mv (.t s6))⟩
    (.one ⟨some s49, none, (.bin false .add (.t s48) (.c (.v (.int .i64 1))))⟩
    (.one ⟨some s50, none, (.faddr 1 (.t s2))⟩
    (.one ⟨some s51, none, (.load none (.t s50))⟩
    (.one ⟨some s52, none, (.len false (.t s51))⟩
    (.one ⟨some s53, none, (.bin false .lss (.t s49) (.t s52))⟩
    (.one ⟨some s54, none, (.faddr 1 (.t s7))⟩
    (.one ⟨some s55, none, (.load none (.t s54))⟩
    (.one ⟨some s56, none, (.row 1 [(.t s53), (.t s55)])⟩
    (.one ⟨some s57, none, (.app 1 1 (.t s47) (.t s56))⟩
    (.one ⟨some s5, none, (.mv (.t s57))⟩
    .done)))))))))))))
  (.seq (.reg (.one ⟨some s58, none, (.faddr 1 (.t s7))⟩
    (.one ⟨some s59, none, (.load none (.t s58))⟩
    .done)))
  (.cond (.t s59) (.seq (.reg (.one ⟨some s60, none, (.faddr 3 (.t s7))⟩
    (.one ⟨some s61, none, (.load none (.t s60))⟩
    (.one ⟨some s62, none, (.bin false .sub (.t s61) (.c (.v (.int .i64 1))))⟩
    (.one ⟨some s8, none, (.mv (.t s62))⟩
    .done)))))
  (.seq (.seq (.reg (.one ⟨some s63, none, (.faddr 3 (.t s7))⟩
    (.one ⟨some s64, none, (.load none (.t s63))⟩
    (.one ⟨some s65, none, (.bin false .eql (.t s64) (.c (.v (.int .i64 0))))⟩
    .done))))
  (.cond (.t s65) (.reg (.one ⟨some s66, none, (.mv (.t s1))⟩
    (.one ⟨some s67, none, (.callq 111 [(.t s66)])⟩
    (.one ⟨some s68, none, (.bin false .sub (.t s67) (.c (.v (.int .i64 1))))⟩
    (.one ⟨some s8, none, (.mv (.t s68))⟩
    .done))))) .skip))
  (.seq (.reg (.one ⟨some s70, none, (.mv (.t s5))⟩
    (.one ⟨some s71, none, (.faddr 2 (.t s7))⟩
    (.one ⟨some s72, none, (.load none (.t s71))⟩
    (.one ⟨some s73, none, (.conv .u64 (.t s72))⟩
    (.one ⟨some s74, none, (.mv (.t s1))⟩
    (.one ⟨some s75, none, (.callq 112 [(.t s74)])⟩
    (.one ⟨some s76, none, (.callq 110 [(.t s70), (.t s73), (.t s75)])⟩
    (.one ⟨some s69, none, (.mv (.t s76))⟩
    (.one ⟨some s77, none, (.ext (.t s69) 0)⟩
    (.one ⟨some s78, none, (.ext (.t s69) 1)⟩
    (.one ⟨some s5, none, (.mv (.t s77))⟩
    .done))))))))))))
  (.reg (.one ⟨some s80, none, (.mv (.t s5))⟩
    (.one ⟨some s81, none, (.mv (.t s8))⟩
    (.one ⟨some s82, none, (.conv .u64 (.t s81))⟩
    (.one ⟨some s83, none, (.mv (.t s1))⟩
    (.one ⟨some s84, none, (.callq 112 [(.t s83)])⟩
    (.one ⟨some s85, none, (.callq 110 [(.t s80), (.t s82), (.t s84)])⟩
    (.one ⟨some s79, none, (.mv (.t s85))⟩
    (.one ⟨some s86, none, (.ext (.t s79) 0)⟩
    (.one ⟨some s87, none, (.ext (.t s79) 1)⟩
    (.one ⟨some s5, none, (.mv (.t s86))⟩
    .done)))))))))))))) .skip))))))
  (.reg (.one ⟨some s31, none, (.mv (.t s6))⟩
    (.one ⟨some s32, none, (.bin false .add (.t s31) (.c (.v (.int .i64 1))))⟩
    (.one ⟨some s6, none, (.mv (.t s32))⟩
    .done)))))))))
  (.seq (.reg (.one ⟨some s88, none, (.mv (.t s5))⟩
    (.one ⟨some s89, none, (.callq 113 [(.t s88)])⟩
    (.one ⟨some s4, none, (.mv (.t s89))⟩
    .done))))
  .ret))))))⟩
theorem ok58 : compF Try.prog c58 Try.f58 = some ir58 := by kernel_rfl
theorem k_bowlineref11_Write {args : List AVal} {σ : AHeap} {Q : AVal → AHeap → Prop} (hl : Nat.ble args.length 90 = true) (h : argsK (Env.full 9) 0 args fun env => evC Try.prog c58 ir58.body env σ (retQ ir58 Q)) : ACalls Try.prog 58 args σ Q :=
  acalls_of Try.func58 ok58 rfl (Nat.le_of_ble_eq_true hl) h
/- bowlineref11.miss -/
def c99 : Cfg := ⟨qs, [], 97, []⟩
def ir99 : IFun := ⟨3, [.cell s6 (some 4), .tmp s7, .tmp s8, .tmp s9],
  (.seq (.reg (.one ⟨some s6, none, (.new [(.v (.int .i64 0)), (.v (.bool false)), (.v (.int .i64 0)), (.v (.int .i64 0))])⟩
    (.one ⟨some s7, none, (.mv (.c (.v (.bool false))))⟩
    (.one ⟨some s8, none, (.mv (.c (.v (.int .i64 0))))⟩
    (.one ⟨some s9, none, (.mv (.c (.v (.bool false))))⟩
    .done)))))
  (.seq (.seq (.reg (.one ⟨some s18, none, (.mv (.t s0))⟩
    (.one ⟨some s19, none, (.len false (.t s18))⟩
    (.one ⟨some s20, none, (.mv (.t s1))⟩
    (.one ⟨some s21, none, (.bin false .sub (.t s19) (.t s20))⟩
    (.one ⟨some s22, none, (.mv (.t s2))⟩
    (.one ⟨some s23, none, (.bin false .add (.t s22) (.c (.v (.int .i64 2))))⟩
    (.one ⟨some s24, none, (.bin false .lss (.t s21) (.t s23))⟩
    .done))))))))
  (.cond (.t s24) (.seq (.reg (.one ⟨some s25, none, (.build [(.v (.int .i64 0)), (.v (.bool false)), (.v (.int .i64 0)), (.v (.int .i64 0))] [])⟩
    (.one ⟨none, none, (.store 4 (.t s6) (.t s25))⟩
    (.one ⟨some s7, none, (.mv (.c (.v (.bool false))))⟩
    (.one ⟨some s8, none, (.mv (.c (.v (.int .i64 0))))⟩
    (.one ⟨some s9, none, (.mv (.c (.v (.bool false))))⟩
    .done))))))
  .ret) .skip))
  (.seq (.reg (.one ⟨some s27, none, (.mv (.t s0))⟩
    (.one ⟨some s28, none, (.mv (.t s1))⟩
    (.one ⟨some s29, none, (.mv (.t s2))⟩
    (.one ⟨some s30, none, (.callq 98 [(.t s27), (.t s28), (.t s29)])⟩
    (.one ⟨some s26, none, (.mv (.t s30))⟩
    (.one ⟨some s31, none, (.ext (.t s26) 0)⟩
    (.one ⟨some s32, none, (.ext (.t s26) 1)⟩
    (.one ⟨some s33, none, (.ext (.t s26) 2)⟩
    (.one ⟨some s10, none, (.mv (.t s31))⟩
    (.one ⟨some s1, none, (.mv (.t s32))⟩
    (.one ⟨some s11, none, (.mv (.t s33))⟩
    .done))))))))))))
  (.seq (.reg (.one ⟨some s34, none, (.mv (.t s10))⟩
    (.one ⟨some s35, none, (.conv .i64 (.t s34))⟩
    (.one ⟨some s36, none, (.mv (.t s0))⟩
    (.one ⟨some s37, none, (.mv (.t s1))⟩
    (.one ⟨some s38, none, (.bin false .add (.t s37) (.c (.v (.int .i64 1))))⟩
    (.one ⟨some s39, none, (.iaddr 1 (.t s36) (.t s38))⟩
    (.one ⟨some s40, none, (.load none (.t s39))⟩
    (.one ⟨some s41, none, (.build [(.v (.int .i64 0)), (.v (.bool false)), (.v (.int .i64 0)), (.v (.int .i64 0))] [(0, 1, (.t s35)), (1, 1, (.t s40))])⟩
    (.one ⟨some s12, none, (.new [(.v (.int .i64 0)), (.v (.bool false)), (.v (.int .i64 0)), (.v (.int .i64 0))])⟩
    (.one ⟨none, none, (.store 4 (.t s12) (.t s41))⟩
    .done)))))))))))
  (.seq (.reg (.one ⟨some s42, none, (.mv (.t s0))⟩
    (.one ⟨some s43, none, (.mv (.t s1))⟩
    (.one ⟨some s44, none, (.iaddr 1 (.t s42) (.t s43))⟩
    (.one ⟨some s45, none, (.load none (.t s44))⟩
    (.one ⟨some s13, none, (.mv (.t s45))⟩
    .done))))))
  (.seq (.reg (.one ⟨some s46, none, (.mv (.t s1))⟩
    (.one ⟨some s47, none, (.bin false .add (.t s46) (.c (.v (.int .i64 2))))⟩
    (.one ⟨some s1, none, (.mv (.t s47))⟩
    .done))))
  (.seq (.seq (.reg (.one ⟨some s48, none, (.faddr 1 (.t s12))⟩
    (.one ⟨some s49, none, (.load none (.t s48))⟩
    (.one ⟨some s50, none, (.not (.t s49))⟩
    .done))))
  (.cond (.t s50) (.seq (.reg (.one ⟨some s51, none, (.load (some 4) (.t s12))⟩
    (.one ⟨some s52, none, (.mv (.t s13))⟩
    (.one ⟨some s53, none, (.mv (.t s1))⟩
    (.one ⟨none, none, (.store 4 (.t s6) (.t s51))⟩
    (.one ⟨some s7, none, (.mv (.t s52))⟩
    (.one ⟨some s8, none, (.mv (.t s53))⟩
    (.one ⟨some s9, none, (.mv (.c (.v (.bool true))))⟩
    .done))))))))
  .ret) .skip))
  (.seq (.seq (.reg (.one ⟨some s54, none, (.mv (.t s0))⟩
    (.one ⟨some s55, none, (.len false (.t s54))⟩
    (.one ⟨some s56, none, (.mv (.t s1))⟩
    (.one ⟨some s57, none, (.bin false .sub (.t s55) (.t s56))⟩
    (.one ⟨some s58, none, (.mv (.t s2))⟩
    (.one ⟨some s59, none, (.callq 112 [(.t s58)])⟩
    (.one ⟨some s60, none, (.bin false .mul (.c (.v (.int .i64 2))) (.t s59))⟩
    (.one ⟨some s61, none, (.bin false .lss (.t s57) (.t s60))⟩
    .done)))))))))
  (.cond (.t s61) (.seq (.reg (.one ⟨some s62, none, (.build [(.v (.int .i64 0)), (.v (.bool false)), (.v (.int .i64 0)), (.v (.int .i64 0))] [])⟩
    (.one ⟨none, none, (.store 4 (.t s6) (.t s62))⟩
    (.one ⟨some s7, none, (.mv (.c (.v (.bool false))))⟩
    (.one ⟨some s8, none, (.mv (.c (.v (.int .i64 0))))⟩
    (.one ⟨some s9, none, (.mv (.c (.v (.bool false))))⟩
    .done))))))
  .ret) .skip))
  (.seq (.reg (.one ⟨some s64, none, (.mv (.t s0))⟩
    (.one ⟨some s65, none, (.mv (.t s1))⟩
    (.one ⟨some s66, none, (.mv (.t s2))⟩
    (.one ⟨some s67, none, (.callq 112 [(.t s66)])⟩
    (.one ⟨some s68, none, (.callq 98 [(.t s64), (.t s65), (.t s67)])⟩
    (.one ⟨some s63, none, (.mv (.t s68))⟩
    (.one ⟨some s69, none, (.ext (.t s63) 0)⟩
    (.one ⟨some s70, none, (.ext (.t s63) 1)⟩
    (.one ⟨some s71, none, (.ext (.t s63) 2)⟩
    (.one ⟨some s14, none, (.mv (.t s69))⟩
    (.one ⟨some s1, none, (.mv (.t s70))⟩
    (.one ⟨some s15, none, (.mv (.t s71))⟩
    .done)))))))))))))
  (.seq (.reg (.one ⟨some s73, none, (.mv (.t s0))⟩
    (.one ⟨some s74, none, (.mv (.t s1))⟩
    (.one ⟨some s75, none, (.mv (.t s2))⟩
    (.one ⟨some s76, none, (.callq 112 [(.t s75)])⟩
    (.one ⟨some s77, none, (.callq 98 [(.t s73), (.t s74), (.t s76)])⟩
    (.one ⟨some s72, none, (.mv (.t s77))⟩
    (.one ⟨some s78, none, (.ext (.t s72) 0)⟩
    (.one ⟨some s79, none, (.ext (.t s72) 1)⟩
    (.one ⟨some s80, none, (.ext (.t s72) 2)⟩
    (.one ⟨some s16, none, (.mv (.t s78))⟩
    (.one ⟨some s1, none, (.mv (.t s79))⟩
    (.one ⟨some s17, none, (.mv (.t s80))⟩
    .done)))))))))))))
  (.seq (.reg (.one ⟨some s81, none, (.mv (.t s14))⟩
    (.one ⟨some s82, none, (.conv .i64 (.t s81))⟩
    (.one ⟨some s83, none, (.mv (.t s16))⟩
    (.one ⟨some s84, none, (.conv .i64 (.t s83))⟩
    (.one ⟨some s85, none, (.bin false .add (.t s84) (.c (.v (.int .i64 1))))⟩
    (.one ⟨some s86, none, (.faddr 2 (.t s12))⟩
    (.one ⟨none, none, (.store 1 (.t s86) (.t s82))⟩
    (.one ⟨some s87, none, (.faddr 3 (.t s12))⟩
    (.one ⟨none, none, (.store 1 (.t s87) (.t s85))⟩
    .done))))))))))
  (.seq (.seq (.reg (.one ⟨some s88, none, (.faddr 3 (.t s12))⟩
    (.one ⟨some s89, none, (.load none (.t s88))⟩
    (.one ⟨some s90, none, (.mv (.t s2))⟩
    (.one ⟨some s91, none, (.callq 111 [(.t s90)])⟩
    (.one ⟨some s92, none, (.bin false .eql (.t s89) (.t s91))⟩
    .done))))))
  (.cond (.t s92) (.reg (.one ⟨some s93, none, (.faddr 3 (.t s12))⟩
    (.one ⟨none, none, (.store 1 (.t s93) (.c (.v (.int .i64 0))))⟩
    .done))) .skip))
  (.seq (.reg (.one ⟨some s94, none, (.load (some 4) (.t s12))⟩
    (.one ⟨some s95, none, (.mv (.t s13))⟩
    (.one ⟨some s96, none, (.mv (.t s1))⟩
    (.one ⟨none, none, (.store 4 (.t s6) (.t s94))⟩
    (.one ⟨some s7, none, (.mv (.t s95))⟩
    (.one ⟨some s8, none, (.mv (.t s96))⟩
    (.one ⟨some s9, none, (.mv (.c (.v (.bool true))))⟩
    .done))))))))
  .ret)))))))))))))⟩
theorem ok99 : compF Try.prog c99 Try.f99 = some ir99 := by kernel_rfl
theorem k_bowlineref11_miss {args : List AVal} {σ : AHeap} {Q : AVal → AHeap → Prop} (hl : Nat.ble args.length 97 = true) (h : argsK (Env.full 9) 0 args fun env => evC Try.prog c99 ir99.body env σ (retQ ir99 Q)) : ACalls Try.prog 99 args σ Q :=
  acalls_of Try.func99 ok99 rfl (Nat.le_of_ble_eq_true hl) h
/- bowlineref11.IsMiss -/
def c100 : Cfg := ⟨qs, [], 48, []⟩
def ir100 : IFun := ⟨2, [.tmp s4],
  (.seq (.reg (.one ⟨some s2, none, (.box 4 (.t s0))⟩
    (.one ⟨some s4, none, (.mv (.c (.v (.bool false))))⟩
    .done)))
  (.seq (.seq (.reg (.one ⟨some s5, none, (.mv (.t s1))⟩
    (.one ⟨some s6, none, (.faddr 0 (.t s2))⟩
    (.one ⟨some s7, none, (.load none (.t s6))⟩
    (.one ⟨some s8, none, (.callq 89 [(.t s5), (.t s7)])⟩
    (.one ⟨some s9, none, (.not (.t s8))⟩
    .done))))))
  (.cond (.t s9) (.seq (.reg (.one ⟨some s4, none, (.mv (.c (.v (.bool false))))⟩
    .done))
  .ret) .skip))
  (.seq (.seq (.reg (.one ⟨some s10, none, (.faddr 1 (.t s2))⟩
    (.one ⟨some s11, none, (.load none (.t s10))⟩
    (.one ⟨some s12, none, (.not (.t s11))⟩
    .done))))
  (.cond (.t s12) (.seq (.reg (.one ⟨some s13, none, (.faddr 2 (.t s2))⟩
    (.one ⟨some s14, none, (.load none (.t s13))⟩
    (.one ⟨some s15, none, (.bin false .eql (.t s14) (.c (.v (.int .i64 0))))⟩
    (.one ⟨some s16, none, (.mv (.t s15))⟩
    (.one ⟨some s17, some (s16, true), (.faddr 3 (.t s2))⟩
    (.one ⟨some s18, some (s16, true), (.load none (.t s17))⟩
    (.one ⟨some s19, some (s16, true), (.bin false .eql (.t s18) (.c (.v (.int .i64 0))))⟩
    (.one ⟨some s20, none, (.pick (.t s16) (.t s19) (.c (.v (.bool false))))⟩
    (.one ⟨some s4, none, (.mv (.t s20))⟩
    .done))))))))))
  .ret) .skip))
  (.seq (.seq (.reg (.one ⟨some s21, none, (.faddr 2 (.t s2))⟩
    (.one ⟨some s22, none, (.load none (.t s21))⟩
    (.one ⟨some s23, none, (.bin false .lss (.t s22) (.c (.v (.int .i64 0))))⟩
    (.one ⟨some s24, none, (.mv (.t s23))⟩
    (.one ⟨some s25, some (s24, false), (.faddr 2 (.t s2))⟩
    (.one ⟨some s26, some (s24, false), (.load none (.t s25))⟩
    (.one ⟨some s27, some (s24, false), (.mv (.t s1))⟩
    (.one ⟨some s28, some (s24, false), (.callq 111 [(.t s27)])⟩
    (.one ⟨some s29, some (s24, false), (.bin false .geq (.t s26) (.t s28))⟩
    (.one ⟨some s30, none, (.pick (.t s24) (.c (.v (.bool true))) (.t s29))⟩
    .done)))))))))))
  (.cond (.t s30) (.seq (.reg (.one ⟨some s4, none, (.mv (.c (.v (.bool false))))⟩
    .done))
  .ret) .skip))
  (.seq (.reg (.one ⟨some s31, none, (.faddr 3 (.t s2))⟩
    (.one ⟨some s32, none, (.load none (.t s31))⟩
    (.one ⟨some s33, none, (.bin false .eql (.t s32) (.c (.v (.int .i64 0))))⟩
    (.one ⟨some s34, none, (.mv (.t s33))⟩
    (.one ⟨some s35, some (s34, false), (.faddr 3 (.t s2))⟩
    (.one ⟨some s36, some (s34, false), (.load none (.t s35))⟩
    (.one ⟨some s37, some (s34, false), (.faddr 2 (.t s2))⟩
    (.one ⟨some s38, some (s34, false), (.load none (.t s37))⟩
    (.one ⟨some s39, some (s34, false), (.bin false .gtr (.t s36) (.t s38))⟩
    (.one ⟨some s40, some (s34, false), (.mv (.t s39))⟩
    (.one ⟨some s41, some (s40, true), (.faddr 3 (.t s2))⟩
    (.one ⟨some s42, some (s40, true), (.load none (.t s41))⟩
    (.one ⟨some s43, some (s40, true), (.mv (.t s1))⟩
    (.one ⟨some s44, some (s40, true), (.callq 111 [(.t s43)])⟩
    (.one ⟨some s45, some (s40, true), (.bin false .lss (.t s42) (.t s44))⟩
    (.one ⟨some s46, some (s34, false), (.pick (.t s40) (.t s45) (.c (.v (.bool false))))⟩
    (.one ⟨some s47, none, (.pick (.t s34) (.c (.v (.bool true))) (.t s46))⟩
    (.one ⟨some s4, none, (.mv (.t s47))⟩
    .done)))))))))))))))))))
  .ret)))))⟩
theorem ok100 : compF Try.prog c100 Try.f100 = some ir100 := by kernel_rfl
theorem k_bowlineref11_IsMiss {args : List AVal} {σ : AHeap} {Q : AVal → AHeap → Prop} (hl : Nat.ble args.length 48 = true) (h : argsK (Env.full 9) 0 args fun env => evC Try.prog c100 ir100.body env σ (retQ ir100 Q)) : ACalls Try.prog 100 args σ Q :=
  acalls_of Try.func100 ok100 rfl (Nat.le_of_ble_eq_true hl) h
/- bowlineref11.places -/
def c111 : Cfg := ⟨qs, [], 8, []⟩
def ir111 : IFun := ⟨1, [.tmp s2],
  (.seq (.reg (.one ⟨some s2, none, (.mv (.c (.v (.int .i64 0))))⟩
    .done))
  (.seq (.reg (.one ⟨some s3, none, (.mv (.t s0))⟩
    (.one ⟨some s4, none, (.callq 112 [(.t s3)])⟩
    (.one ⟨some s5, none, (.bin false .sub (.t s4) (.c (.v (.int .i64 1))))⟩
    (.one ⟨some s6, none, (.callq 36 [(.t s5)])⟩
    (.one ⟨some s7, none, (.bin false .mul (.t s6) (.c (.v (.int .i64 2))))⟩
    (.one ⟨some s2, none, (.mv (.t s7))⟩
    .done)))))))
  .ret))⟩
theorem ok111 : compF Try.prog c111 Try.f111 = some ir111 := by kernel_rfl
theorem k_bowlineref11_places {args : List AVal} {σ : AHeap} {Q : AVal → AHeap → Prop} (hl : Nat.ble args.length 8 = true) (h : argsK (Env.full 9) 0 args fun env => evC Try.prog c111 ir111.body env σ (retQ ir111 Q)) : ACalls Try.prog 111 args σ Q :=
  acalls_of Try.func111 ok111 rfl (Nat.le_of_ble_eq_true hl) h
/- bowlineref11.offset -/
def c112 : Cfg := ⟨qs, [], 5, []⟩
def ir112 : IFun := ⟨1, [.tmp s2],
  (.seq (.reg (.one ⟨some s2, none, (.mv (.c (.v (.int .i64 0))))⟩
    .done))
  (.seq (.seq (.reg (.one ⟨some s3, none, (.mv (.t s0))⟩
    (.one ⟨some s4, none, (.bin false .eql (.t s3) (.c (.v (.int .i64 10))))⟩
    .done)))
  (.cond (.t s4) (.seq (.reg (.one ⟨some s2, none, (.mv (.c (.v (.int .i64 15))))⟩
    .done))
  .ret) .skip))
  (.seq (.reg (.one ⟨some s2, none, (.mv (.c (.v (.int .i64 16))))⟩
    .done))
  .ret)))⟩
theorem ok112 : compF Try.prog c112 Try.f112 = some ir112 := by kernel_rfl
theorem k_bowlineref11_offset {args : List AVal} {σ : AHeap} {Q : AVal → AHeap → Prop} (hl : Nat.ble args.length 5 = true) (h : argsK (Env.full 9) 0 args fun env => evC Try.prog c112 ir112.body env σ (retQ ir112 Q)) : ACalls Try.prog 112 args σ Q :=
  acalls_of Try.func112 ok112 rfl (Nat.le_of_ble_eq_true hl) h
end Go.Proofs.Ytnfdgccmpglbhaa
/-
  The bodies of one package, compiled to the framework's language (printed by a program of this session).
-/
namespace Go.Proofs.Ytnfdgccmpglbhaa
set_option linter.unusedVariables false
set_option linter.unusedSimpArgs false
open Go Go.Am
/- bowlinelaw11.StatusReads -/
def c9 : Cfg := ⟨qs, [], 37, []⟩
def ir9 : IFun := ⟨2, [.tmp s4],
  (.seq (.reg (.one ⟨some s4, none, (.mv (.c (.v (.bool false))))⟩
    .done))
  (.seq (.seq (.reg (.one ⟨some s9, none, (.mv (.t s0))⟩
    (.one ⟨some s10, none, (.len false (.t s9))⟩
    (.one ⟨some s11, none, (.bin false .gtr (.t s10) (.c (.v (.int .i64 400))))⟩
    .done))))
  (.cond (.t s11) (.seq (.reg (.one ⟨some s12, none, (.callq 47 [])⟩
    (.one ⟨some s4, none, (.mv (.t s12))⟩
    .done)))
  .ret) .skip))
  (.seq (.reg (.one ⟨some s14, none, (.mv (.t s0))⟩
    (.one ⟨some s15, none, (.mv (.t s1))⟩
    (.one ⟨some s16, none, (.callq 48 [(.t s14), (.t s15)])⟩
    (.one ⟨some s13, none, (.mv (.t s16))⟩
    (.one ⟨some s17, none, (.ext (.t s13) 0)⟩
    (.one ⟨some s18, none, (.ext (.t s13) 1)⟩
    (.one ⟨some s5, none, (.new [(.v (.int .i64 0)), (.slice 4 [] .full)])⟩
    (.one ⟨none, none, (.store 2 (.t s5) (.t s17))⟩
    (.one ⟨some s6, none, (.mv (.t s18))⟩
    .done))))))))))
  (.seq (.reg (.one ⟨some s20, none, (.mv (.t s0))⟩
    (.one ⟨some s21, none, (.mv (.t s1))⟩
    (.one ⟨some s22, none, (.callq 49 [(.t s20), (.t s21)])⟩
    (.one ⟨some s19, none, (.mv (.t s22))⟩
    (.one ⟨some s23, none, (.ext (.t s19) 0)⟩
    (.one ⟨some s24, none, (.ext (.t s19) 1)⟩
    (.one ⟨some s7, none, (.new [(.v (.int .i64 0)), (.slice 4 [] .full)])⟩
    (.one ⟨none, none, (.store 2 (.t s7) (.t s23))⟩
    (.one ⟨some s8, none, (.mv (.t s24))⟩
    .done))))))))))
  (.seq (.reg (.one ⟨some s25, none, (.callq 47 [])⟩
    (.one ⟨some s26, none, (.mv (.t s25))⟩
    (.one ⟨some s27, some (s26, true), (.mv (.t s6))⟩
    (.one ⟨some s28, some (s26, true), (.mv (.t s8))⟩
    (.one ⟨some s29, some (s26, true), (.bin false .eql (.t s27) (.t s28))⟩
    (.one ⟨some s30, none, (.pick (.t s26) (.t s29) (.c (.v (.bool false))))⟩
    (.one ⟨some s31, none, (.mv (.t s30))⟩
    (.one ⟨some s32, some (s31, true), (.load (some 2) (.t s5))⟩
    (.one ⟨some s34, some (s31, true), (.load (some 2) (.t s7))⟩
    (.one ⟨some s33, some (s31, true), (.callq 51 [(.t s32)])⟩
    (.one ⟨some s35, some (s31, true), (.callq 50 [(.t s33), (.t s34)])⟩
    (.one ⟨some s36, none, (.pick (.t s31) (.t s35) (.c (.v (.bool false))))⟩
    (.one ⟨some s4, none, (.mv (.t s36))⟩
    .done))))))))))))))
  .ret)))))⟩
theorem ok9 : compF Try.prog c9 Try.f9 = some ir9 := by kernel_rfl
theorem k_bowlinelaw11_StatusReads {args : List AVal} {σ : AHeap} {Q : AVal → AHeap → Prop} (hl : Nat.ble args.length 37 = true) (h : argsK (Env.full 9) 0 args fun env => evC Try.prog c9 ir9.body env σ (retQ ir9 Q)) : ACalls Try.prog 9 args σ Q :=
  acalls_of Try.func9 ok9 rfl (Nat.le_of_ble_eq_true hl) h
/- bowlinelaw11.StatusBack -/
def c10 : Cfg := ⟨qs, [], 90, []⟩
def ir10 : IFun := ⟨3, [.tmp s6],
  (.seq (.reg (.one ⟨some s3, none, (.box 2 (.t s0))⟩
    (.one ⟨some s6, none, (.mv (.c (.v (.bool false))))⟩
    .done)))
  (.seq (.seq (.reg (.one ⟨some s15, none, (.faddr 1 (.t s3))⟩
    (.one ⟨some s16, none, (.load none (.t s15))⟩
    (.one ⟨some s17, none, (.len false (.t s16))⟩
    (.one ⟨some s18, none, (.bin false .gtr (.t s17) (.c (.v (.int .i64 60))))⟩
    (.one ⟨some s19, none, (.mv (.t s18))⟩
    (.one ⟨some s20, some (s19, false), (.mv (.t s1))⟩
    (.one ⟨some s21, some (s19, false), (.len false (.t s20))⟩
    (.one ⟨some s22, some (s19, false), (.bin false .gtr (.t s21) (.c (.v (.int .i64 400))))⟩
    (.one ⟨some s23, none, (.pick (.t s19) (.c (.v (.bool true))) (.t s22))⟩
    .done))))))))))
  (.cond (.t s23) (.seq (.reg (.one ⟨some s24, none, (.callq 47 [])⟩
    (.one ⟨some s6, none, (.mv (.t s24))⟩
    .done)))
  .ret) .skip))
  (.seq (.reg (.one ⟨some s26, none, (.load (some 2) (.t s3))⟩
    (.one ⟨some s27, none, (.mv (.t s2))⟩
    (.one ⟨some s28, none, (.callq 52 [(.t s26), (.t s27)])⟩
    (.one ⟨some s25, none, (.mv (.t s28))⟩
    (.one ⟨some s29, none, (.ext (.t s25) 0)⟩
    (.one ⟨some s30, none, (.ext (.t s25) 1)⟩
    (.one ⟨some s7, none, (.mv (.t s29))⟩
    (.one ⟨some s8, none, (.mv (.t s30))⟩
    .done)))))))))
  (.seq (.seq (.reg (.one ⟨some s31, none, (.mv (.t s8))⟩
    (.one ⟨some s32, none, (.bin false .eql (.t s31) (.c (.v (.int .i64 0))))⟩
    .done)))
  (.cond (.t s32) (.seq (.reg (.one ⟨some s34, none, (.mv (.t s7))⟩
    (.one ⟨some s35, none, (.mv (.t s2))⟩
    (.one ⟨some s36, none, (.callq 48 [(.t s34), (.t s35)])⟩
    (.one ⟨some s33, none, (.mv (.t s36))⟩
    (.one ⟨some s37, none, (.ext (.t s33) 0)⟩
    (.one ⟨some s38, none, (.ext (.t s33) 1)⟩
    (.one ⟨some s9, none, (.new [(.v (.int .i64 0)), (.slice 4 [] .full)])⟩
    (.one ⟨none, none, (.store 2 (.t s9) (.t s37))⟩
    (.one ⟨some s10, none, (.mv (.t s38))⟩
    .done))))))))))
  (.seq (.reg (.one ⟨some s39, none, (.mv (.t s10))⟩
    (.one ⟨some s40, none, (.bin false .neq (.t s39) (.c (.v (.int .i64 0))))⟩
    (.one ⟨some s41, none, (.mv (.t s40))⟩
    (.one ⟨some s42, some (s41, false), (.load (some 2) (.t s3))⟩
    (.one ⟨some s44, some (s41, false), (.load (some 2) (.t s9))⟩
    (.one ⟨some s43, some (s41, false), (.callq 51 [(.t s42)])⟩
    (.one ⟨some s45, some (s41, false), (.callq 51 [(.t s44)])⟩
    (.one ⟨some s46, some (s41, false), (.callq 50 [(.t s43), (.t s45)])⟩
    (.one ⟨some s47, some (s41, false), (.not (.t s46))⟩
    (.one ⟨some s48, none, (.pick (.t s41) (.c (.v (.bool true))) (.t s47))⟩
    (.one ⟨some s49, none, (.mv (.t s48))⟩
    (.one ⟨some s50, some (s49, false), (.mv (.t s7))⟩
    (.one ⟨some s51, some (s49, false), (.len false (.t s50))⟩
    (.one ⟨some s52, some (s49, false), (.load (some 2) (.t s3))⟩
    (.one ⟨some s53, some (s49, false), (.mv (.t s2))⟩
    (.one ⟨some s54, some (s49, false), (.callq 53 [(.t s52), (.t s53)])⟩
    (.one ⟨some s55, some (s49, false), (.bin false .neq (.t s51) (.t s54))⟩
    (.one ⟨some s56, none, (.pick (.t s49) (.c (.v (.bool true))) (.t s55))⟩
    .done)))))))))))))))))))
  (.cond (.t s56) (.seq (.reg (.one ⟨some s6, none, (.mv (.c (.v (.bool false))))⟩
    .done))
  .ret) .skip))) .skip))
  (.seq (.reg (.one ⟨some s58, none, (.mv (.t s1))⟩
    (.one ⟨some s59, none, (.mv (.t s2))⟩
    (.one ⟨some s60, none, (.callq 48 [(.t s58), (.t s59)])⟩
    (.one ⟨some s57, none, (.mv (.t s60))⟩
    (.one ⟨some s61, none, (.ext (.t s57) 0)⟩
    (.one ⟨some s62, none, (.ext (.t s57) 1)⟩
    (.one ⟨some s11, none, (.new [(.v (.int .i64 0)), (.slice 4 [] .full)])⟩
    (.one ⟨none, none, (.store 2 (.t s11) (.t s61))⟩
    (.one ⟨some s12, none, (.mv (.t s62))⟩
    .done))))))))))
  (.seq (.reg (.one ⟨some s64, none, (.load (some 2) (.t s11))⟩
    (.one ⟨some s65, none, (.mv (.t s2))⟩
    (.one ⟨some s66, none, (.callq 52 [(.t s64), (.t s65)])⟩
    (.one ⟨some s63, none, (.mv (.t s66))⟩
    (.one ⟨some s67, none, (.ext (.t s63) 0)⟩
    (.one ⟨some s68, none, (.ext (.t s63) 1)⟩
    (.one ⟨some s13, none, (.mv (.t s67))⟩
    (.one ⟨some s14, none, (.mv (.t s68))⟩
    .done)))))))))
  (.seq (.reg (.one ⟨some s69, none, (.callq 47 [])⟩
    (.one ⟨some s70, none, (.mv (.t s69))⟩
    (.one ⟨some s71, some (s70, true), (.mv (.t s12))⟩
    (.one ⟨some s72, some (s70, true), (.bin false .neq (.t s71) (.c (.v (.int .i64 0))))⟩
    (.one ⟨some s73, some (s70, true), (.mv (.t s72))⟩
    (.one ⟨some s74, some (s73, false), (.load (some 2) (.t s11))⟩
    (.one ⟨some s75, some (s73, false), (.mv (.t s2))⟩
    (.one ⟨some s76, some (s73, false), (.callq 54 [(.t s74), (.t s75)])⟩
    (.one ⟨some s77, some (s73, false), (.mv (.t s76))⟩
    (.one ⟨some s78, some (s77, true), (.mv (.t s14))⟩
    (.one ⟨some s79, some (s77, true), (.bin false .eql (.t s78) (.c (.v (.int .i64 0))))⟩
    (.one ⟨some s80, some (s73, false), (.pick (.t s77) (.t s79) (.c (.v (.bool false))))⟩
    (.one ⟨some s81, some (s73, false), (.mv (.t s80))⟩
    (.one ⟨some s82, some (s81, true), (.mv (.t s13))⟩
    (.one ⟨some s83, some (s81, true), (.b2s (.t s82))⟩
    (.one ⟨some s84, some (s81, true), (.mv (.t s1))⟩
    (.one ⟨some s85, some (s81, true), (.b2s (.t s84))⟩
    (.one ⟨some s86, some (s81, true), (.bin false .eql (.t s83) (.t s85))⟩
    (.one ⟨some s87, some (s73, false), (.pick (.t s81) (.t s86) (.c (.v (.bool false))))⟩
    (.one ⟨some s88, some (s70, true), (.pick (.t s73) (.c (.v (.bool true))) (.t s87))⟩
    (.one ⟨some s89, none, (.pick (.t s70) (.t s88) (.c (.v (.bool false))))⟩
    (.one ⟨some s6, none, (.mv (.t s89))⟩
    .done)))))))))))))))))))))))
  .ret)))))))⟩
theorem ok10 : compF Try.prog c10 Try.f10 = some ir10 := by kernel_rfl
theorem k_bowlinelaw11_StatusBack {args : List AVal} {σ : AHeap} {Q : AVal → AHeap → Prop} (hl : Nat.ble args.length 90 = true) (h : argsK (Env.full 9) 0 args fun env => evC Try.prog c10 ir10.body env σ (retQ ir10 Q)) : ACalls Try.prog 10 args σ Q :=
  acalls_of Try.func10 ok10 rfl (Nat.le_of_ble_eq_true hl) h
/- bowlinelaw11.StatusGrows -/
def c11 : Cfg := ⟨qs, [], 99, []⟩
def ir11 : IFun := ⟨3, [.tmp s6],
  (.seq (.reg (.one ⟨some s3, none, (.box 2 (.t s0))⟩
    (.one ⟨some s4, none, (.box 4 (.t s1))⟩
    (.one ⟨some s6, none, (.mv (.c (.v (.bool false))))⟩
    .done))))
  (.seq (.reg (.one ⟨some s12, none, (.load (some 2) (.t s3))⟩
    (.one ⟨some s13, none, (.mv (.t s2))⟩
    (.one ⟨some s14, none, (.callq 53 [(.t s12), (.t s13)])⟩
    (.one ⟨some s7, none, (.mv (.t s14))⟩
    .done)))))
  (.seq (.seq (.reg (.one ⟨some s15, none, (.mv (.t s7))⟩
    (.one ⟨some s16, none, (.bin false .eql (.t s15) (.c (.v (.int .i64 0))))⟩
    (.one ⟨some s17, none, (.mv (.t s16))⟩
    (.one ⟨some s18, some (s17, false), (.faddr 1 (.t s3))⟩
    (.one ⟨some s19, some (s17, false), (.load none (.t s18))⟩
    (.one ⟨some s20, some (s17, false), (.len false (.t s19))⟩
    (.one ⟨some s21, some (s17, false), (.bin false .gtr (.t s20) (.c (.v (.int .i64 60))))⟩
    (.one ⟨some s22, none, (.pick (.t s17) (.c (.v (.bool true))) (.t s21))⟩
    .done)))))))))
  (.cond (.t s22) (.seq (.reg (.one ⟨some s23, none, (.callq 47 [])⟩
    (.one ⟨some s6, none, (.mv (.t s23))⟩
    .done)))
  .ret) .skip))
  (.seq (.reg (.one ⟨some s24, none, (.faddr 0 (.t s3))⟩
    (.one ⟨some s25, none, (.load none (.t s24))⟩
    (.one ⟨some s26, none, (.row 4 [])⟩
    (.one ⟨some s27, none, (.faddr 1 (.t s3))⟩
    (.one ⟨some s28, none, (.load none (.t s27))⟩
    (.one ⟨some s30, none, (.load (some 4) (.t s4))⟩
    (.one ⟨some s31, none, (.row 4 [(.t s30)])⟩
    (.both (.one ⟨some s29, none, (.app 4 32 (.t s26) (.t s28))⟩
    (.both (.one ⟨some s32, none, (.app 4 32 (.t s29) (.t s31))⟩
    (.one ⟨some s33, none, (.build [(.v (.int .i64 0)), (.slice 4 [] .full)] [(0, 1, (.t s25)), (1, 1, (.t s32))])⟩
    (.one ⟨some s8, none, (.new [(.v (.int .i64 0)), (.slice 4 [] .full)])⟩
    (.one ⟨none, none, (.store 2 (.t s8) (.t s33))⟩
    .done)))) (.one ⟨some s8, none, (.new [(.v (.int .i64 0)), (.slice 4 [] .full)])⟩
    (.one ⟨some s32, none, (.app 4 32 (.t s29) (.t s31))⟩
    (.one ⟨some s33, none, (.build [(.v (.int .i64 0)), (.slice 4 [] .full)] [(0, 1, (.t s25)), (1, 1, (.t s32))])⟩
    (.one ⟨none, none, (.store 2 (.t s8) (.t s33))⟩
    .done)))))) (.one ⟨some s8, none, (.new [(.v (.int .i64 0)), (.slice 4 [] .full)])⟩
    (.one ⟨some s29, none, (.app 4 32 (.t s26) (.t s28))⟩
    (.one ⟨some s32, none, (.app 4 32 (.t s29) (.t s31))⟩
    (.one ⟨some s33, none, (.build [(.v (.int .i64 0)), (.slice 4 [] .full)] [(0, 1, (.t s25)), (1, 1, (.t s32))])⟩
    (.one ⟨none, none, (.store 2 (.t s8) (.t s33))⟩
    .done))))))))))))))
  (.seq (.reg (.one ⟨some s34, none, (.load (some 2) (.t s8))⟩
    (.one ⟨some s35, none, (.mv (.t s2))⟩
    (.one ⟨some s36, none, (.callq 53 [(.t s34), (.t s35)])⟩
    (.one ⟨some s9, none, (.mv (.t s36))⟩
    .done)))))
  (.seq (.reg (.one ⟨some s37, none, (.mv (.t s2))⟩
    (.one ⟨some s38, none, (.bin false .add (.c (.v (.int .i64 5))) (.t s37))⟩
    (.one ⟨some s10, none, (.mv (.t s38))⟩
    .done))))
  (.seq (.seq (.reg (.one ⟨some s11, none, (.mv (.c (.v (.int .i64 0))))⟩
    .done))
  (.block 0 (.loop (.seq (.seq (.reg (.one ⟨some s39, none, (.mv (.t s11))⟩
    (.one ⟨some s40, none, (.faddr 1 (.t s3))⟩
    (.one ⟨some s41, none, (.load none (.t s40))⟩
    (.one ⟨some s42, none, (.len false (.t s41))⟩
    (.one ⟨some s43, none, (.bin false .lss (.t s39) (.t s42))⟩
    .done))))))
  (.cond (.t s43) .skip (.exit 0)))
  (.seq (.block 1 (.seq (.reg (.one ⟨some s46, none, (.mv (.t s10))⟩
    (.one ⟨some s47, none, (.mv (.t s2))⟩
    (.one ⟨some s48, none, (.bin false .add (.t s46) (.t s47))⟩
    (.one ⟨some s49, none, (.bin false .add (.t s48) (.c (.v (.int .i64 2))))⟩
    (.one ⟨some s10, none, (.mv (.t s49))⟩
    .done))))))
  (.seq (.seq (.reg (.one ⟨some s50, none, (.faddr 1 (.t s3))⟩
    (.one ⟨some s51, none, (.load none (.t s50))⟩
    (.one ⟨some s52, none, (.mv (.t s11))⟩
    (.one ⟨some s53, none, (.iaddr 4 (.t s51) (.t s52))⟩
    (.one ⟨some s54, none, (.faddr 1 (.t s53))⟩
    (.one ⟨some s55, none, (.load none (.t s54))⟩
    .done)))))))
  (.cond (.t s55) (.reg (.one ⟨some s56, none, (.mv (.t s10))⟩
    (.one ⟨some s57, none, (.bin false .add (.t s56) (.c (.v (.int .i64 30))))⟩
    (.one ⟨some s10, none, (.mv (.t s57))⟩
    .done)))) .skip))
  (.seq (.reg (.one ⟨some s58, none, (.faddr 1 (.t s3))⟩
    (.one ⟨some s59, none, (.load none (.t s58))⟩
    (.one ⟨some s60, none, (.mv (.t s11))⟩
    (.one ⟨some s61, none, (.iaddr 4 (.t s59) (.t s60))⟩
    (.one ⟨some s62, none, (.faddr 1 (.t s61))⟩
    (.one ⟨some s63, none, (.load none (.t s62))⟩
    (.one ⟨some s64, none, (.mv (.t s63))⟩
    (.one ⟨some s65, some (s64, true), (.mv (.t s2))⟩
    (.one ⟨some s66, some (s64, true), (.bin false .eql (.t s65) (.c (.v (.int .i64 16))))⟩
    (.one ⟨some s67, none, (.pick (.t s64) (.t s66) (.c (.v (.bool false))))⟩
    .done)))))))))))
  (.cond (.t s67) (.reg (.one ⟨some s68, none, (.mv (.t s10))⟩
    (.one ⟨some s69, none, (.bin false .add (.t s68) (.c (.v (.int .i64 2))))⟩
    (.one ⟨some s10, none, (.mv (.t s69))⟩
    .done)))) .skip)))))
  (.reg (.one ⟨some s44, none, (.mv (.t s11))⟩
    (.one ⟨some s45, none, (.bin false .add (.t s44) (.c (.v (.int .i64 1))))⟩
    (.one ⟨some s11, none, (.mv (.t s45))⟩
    .done)))))))))
  (.seq (.reg (.one ⟨some s70, none, (.callq 47 [])⟩
    (.one ⟨some s71, none, (.mv (.t s70))⟩
    (.one ⟨some s72, some (s71, true), (.mv (.t s7))⟩
    (.one ⟨some s73, some (s71, true), (.bin false .mul (.c (.v (.int .i64 8))) (.t s72))⟩
    (.one ⟨some s74, some (s71, true), (.mv (.t s10))⟩
    (.one ⟨some s75, some (s71, true), (.bin false .geq (.t s73) (.t s74))⟩
    (.one ⟨some s76, none, (.pick (.t s71) (.t s75) (.c (.v (.bool false))))⟩
    (.one ⟨some s77, none, (.mv (.t s76))⟩
    (.one ⟨some s78, some (s77, true), (.mv (.t s7))⟩
    (.one ⟨some s79, some (s77, true), (.bin false .mul (.c (.v (.int .i64 8))) (.t s78))⟩
    (.one ⟨some s80, some (s77, true), (.mv (.t s10))⟩
    (.one ⟨some s81, some (s77, true), (.bin false .add (.t s80) (.c (.v (.int .i64 8))))⟩
    (.one ⟨some s82, some (s77, true), (.bin false .lss (.t s79) (.t s81))⟩
    (.one ⟨some s83, none, (.pick (.t s77) (.t s82) (.c (.v (.bool false))))⟩
    (.one ⟨some s84, none, (.mv (.t s83))⟩
    (.one ⟨some s85, some (s84, true), (.mv (.t s9))⟩
    (.one ⟨some s86, some (s84, true), (.bin false .eql (.t s85) (.c (.v (.int .i64 0))))⟩
    (.one ⟨some s87, some (s84, true), (.mv (.t s86))⟩
    (.one ⟨some s88, some (s87, false), (.mv (.t s9))⟩
    (.one ⟨some s89, some (s87, false), (.mv (.t s7))⟩
    (.one ⟨some s90, some (s87, false), (.bin false .geq (.t s88) (.t s89))⟩
    (.one ⟨some s91, some (s87, false), (.mv (.t s90))⟩
    (.one ⟨some s92, some (s91, true), (.mv (.t s9))⟩
    (.one ⟨some s93, some (s91, true), (.mv (.t s7))⟩
    (.one ⟨some s94, some (s91, true), (.bin false .sub (.t s92) (.t s93))⟩
    (.one ⟨some s95, some (s91, true), (.bin false .leq (.t s94) (.c (.v (.int .i64 7))))⟩
    (.one ⟨some s96, some (s87, false), (.pick (.t s91) (.t s95) (.c (.v (.bool false))))⟩
    (.one ⟨some s97, some (s84, true), (.pick (.t s87) (.c (.v (.bool true))) (.t s96))⟩
    (.one ⟨some s98, none, (.pick (.t s84) (.t s97) (.c (.v (.bool false))))⟩
    (.one ⟨some s6, none, (.mv (.t s98))⟩
    .done)))))))))))))))))))))))))))))))
  .ret))))))))⟩
theorem ok11 : compF Try.prog c11 Try.f11 = some ir11 := by kernel_rfl
theorem k_bowlinelaw11_StatusGrows {args : List AVal} {σ : AHeap} {Q : AVal → AHeap → Prop} (hl : Nat.ble args.length 99 = true) (h : argsK (Env.full 9) 0 args fun env => evC Try.prog c11 ir11.body env σ (retQ ir11 Q)) : ACalls Try.prog 11 args σ Q :=
  acalls_of Try.func11 ok11 rfl (Nat.le_of_ble_eq_true hl) h
/- bowlinelaw11.StatusWrites -/
def c12 : Cfg := ⟨qs, [], 99, []⟩
def ir12 : IFun := ⟨3, [.tmp s6],
  (.seq (.reg (.one ⟨some s3, none, (.box 2 (.t s0))⟩
    (.one ⟨some s4, none, (.box 2 (.t s1))⟩
    (.one ⟨some s6, none, (.mv (.c (.v (.bool false))))⟩
    .done))))
  (.seq (.seq (.reg (.one ⟨some s10, none, (.faddr 1 (.t s3))⟩
    (.one ⟨some s11, none, (.load none (.t s10))⟩
    (.one ⟨some s12, none, (.len false (.t s11))⟩
    (.one ⟨some s13, none, (.bin false .gtr (.t s12) (.c (.v (.int .i64 60))))⟩
    (.one ⟨some s14, none, (.mv (.t s13))⟩
    (.one ⟨some s15, some (s14, false), (.faddr 1 (.t s4))⟩
    (.one ⟨some s16, some (s14, false), (.load none (.t s15))⟩
    (.one ⟨some s17, some (s14, false), (.len false (.t s16))⟩
    (.one ⟨some s18, some (s14, false), (.bin false .gtr (.t s17) (.c (.v (.int .i64 60))))⟩
    (.one ⟨some s19, none, (.pick (.t s14) (.c (.v (.bool true))) (.t s18))⟩
    .done)))))))))))
  (.cond (.t s19) (.seq (.reg (.one ⟨some s20, none, (.callq 47 [])⟩
    (.one ⟨some s6, none, (.mv (.t s20))⟩
    .done)))
  .ret) .skip))
  (.seq (.reg (.one ⟨some s21, none, (.load (some 2) (.t s3))⟩
    (.one ⟨some s22, none, (.callq 51 [(.t s21)])⟩
    (.one ⟨some s7, none, (.new [(.v (.int .i64 0)), (.slice 4 [] .full)])⟩
    (.one ⟨none, none, (.store 2 (.t s7) (.t s22))⟩
    .done)))))
  (.seq (.reg (.one ⟨some s24, none, (.load (some 2) (.t s3))⟩
    (.one ⟨some s25, none, (.mv (.t s2))⟩
    (.one ⟨some s26, none, (.callq 52 [(.t s24), (.t s25)])⟩
    (.one ⟨some s23, none, (.mv (.t s26))⟩
    (.one ⟨some s27, none, (.ext (.t s23) 0)⟩
    (.one ⟨some s28, none, (.ext (.t s23) 1)⟩
    (.one ⟨some s8, none, (.mv (.t s27))⟩
    (.one ⟨some s9, none, (.mv (.t s28))⟩
    .done)))))))))
  (.seq (.seq (.reg (.one ⟨some s29, none, (.load (some 2) (.t s3))⟩
    (.one ⟨some s30, none, (.mv (.t s2))⟩
    (.one ⟨some s32, none, (.load (some 2) (.t s7))⟩
    (.one ⟨some s33, none, (.mv (.t s2))⟩
    (.one ⟨some s31, none, (.callq 54 [(.t s29), (.t s30)])⟩
    (.one ⟨some s34, none, (.callq 55 [(.t s32), (.t s33)])⟩
    (.one ⟨some s35, none, (.bin true .neq (.t s31) (.t s34))⟩
    (.one ⟨some s36, none, (.mv (.t s35))⟩
    (.one ⟨some s37, some (s36, false), (.load (some 2) (.t s3))⟩
    (.one ⟨some s38, some (s36, false), (.mv (.t s2))⟩
    (.one ⟨some s40, some (s36, false), (.load (some 2) (.t s7))⟩
    (.one ⟨some s41, some (s36, false), (.mv (.t s2))⟩
    (.one ⟨some s39, some (s36, false), (.callq 53 [(.t s37), (.t s38)])⟩
    (.one ⟨some s42, some (s36, false), (.callq 56 [(.t s40), (.t s41)])⟩
    (.one ⟨some s43, some (s36, false), (.bin false .neq (.t s39) (.t s42))⟩
    (.one ⟨some s44, none, (.pick (.t s36) (.c (.v (.bool true))) (.t s43))⟩
    (.one ⟨some s45, none, (.mv (.t s44))⟩
    (.one ⟨some s46, some (s45, false), (.load (some 2) (.t s3))⟩
    (.one ⟨some s47, some (s45, false), (.load (some 2) (.t s4))⟩
    (.one ⟨some s49, some (s45, false), (.load (some 2) (.t s7))⟩
    (.one ⟨some s50, some (s45, false), (.load (some 2) (.t s4))⟩
    (.one ⟨some s48, some (s45, false), (.callq 57 [(.t s46), (.t s47)])⟩
    (.one ⟨some s51, some (s45, false), (.callq 51 [(.t s50)])⟩
    (.one ⟨some s52, some (s45, false), (.callq 50 [(.t s49), (.t s51)])⟩
    (.one ⟨some s53, some (s45, false), (.bin true .neq (.t s48) (.t s52))⟩
    (.one ⟨some s54, none, (.pick (.t s45) (.c (.v (.bool true))) (.t s53))⟩
    .done)))))))))))))))))))))))))))
  (.cond (.t s54) (.seq (.reg (.one ⟨some s6, none, (.mv (.c (.v (.bool false))))⟩
    .done))
  .ret) .skip))
  (.seq (.seq (.reg (.one ⟨some s55, none, (.mv (.t s2))⟩
    (.one ⟨some s56, none, (.bin false .neq (.t s55) (.c (.v (.int .i64 10))))⟩
    (.one ⟨some s57, none, (.mv (.t s56))⟩
    (.one ⟨some s58, some (s57, true), (.mv (.t s2))⟩
    (.one ⟨some s59, some (s57, true), (.bin false .neq (.t s58) (.c (.v (.int .i64 16))))⟩
    (.one ⟨some s60, none, (.pick (.t s57) (.t s59) (.c (.v (.bool false))))⟩
    .done)))))))
  (.cond (.t s60) (.seq (.reg (.one ⟨some s61, none, (.callq 47 [])⟩
    (.one ⟨some s62, none, (.mv (.t s61))⟩
    (.one ⟨some s63, some (s62, true), (.mv (.t s9))⟩
    (.one ⟨some s64, some (s62, true), (.bin false .eql (.t s63) (.c (.v (.int .i64 9))))⟩
    (.one ⟨some s65, none, (.pick (.t s62) (.t s64) (.c (.v (.bool false))))⟩
    (.one ⟨some s66, none, (.mv (.t s65))⟩
    (.one ⟨some s67, some (s66, true), (.mv (.t s8))⟩
    (.one ⟨some s68, some (s66, true), (.len false (.t s67))⟩
    (.one ⟨some s69, some (s66, true), (.bin false .eql (.t s68) (.c (.v (.int .i64 0))))⟩
    (.one ⟨some s70, none, (.pick (.t s66) (.t s69) (.c (.v (.bool false))))⟩
    (.one ⟨some s6, none, (.mv (.t s70))⟩
    .done))))))))))))
  .ret) .skip))
  (.seq (.seq (.reg (.one ⟨some s71, none, (.load (some 2) (.t s7))⟩
    (.one ⟨some s72, none, (.mv (.t s2))⟩
    (.one ⟨some s73, none, (.callq 55 [(.t s71), (.t s72)])⟩
    (.one ⟨some s74, none, (.not (.t s73))⟩
    .done)))))
  (.cond (.t s74) (.seq (.reg (.one ⟨some s75, none, (.callq 47 [])⟩
    (.one ⟨some s76, none, (.mv (.t s75))⟩
    (.one ⟨some s77, some (s76, true), (.mv (.t s9))⟩
    (.one ⟨some s78, some (s76, true), (.bin false .eql (.t s77) (.c (.v (.int .i64 3))))⟩
    (.one ⟨some s79, none, (.pick (.t s76) (.t s78) (.c (.v (.bool false))))⟩
    (.one ⟨some s80, none, (.mv (.t s79))⟩
    (.one ⟨some s81, some (s80, true), (.mv (.t s8))⟩
    (.one ⟨some s82, some (s80, true), (.len false (.t s81))⟩
    (.one ⟨some s83, some (s80, true), (.bin false .eql (.t s82) (.c (.v (.int .i64 0))))⟩
    (.one ⟨some s84, none, (.pick (.t s80) (.t s83) (.c (.v (.bool false))))⟩
    (.one ⟨some s6, none, (.mv (.t s84))⟩
    .done))))))))))))
  .ret) .skip))
  (.seq (.reg (.one ⟨some s85, none, (.callq 47 [])⟩
    (.one ⟨some s86, none, (.mv (.t s85))⟩
    (.one ⟨some s87, some (s86, true), (.mv (.t s9))⟩
    (.one ⟨some s88, some (s86, true), (.bin false .eql (.t s87) (.c (.v (.int .i64 0))))⟩
    (.one ⟨some s89, none, (.pick (.t s86) (.t s88) (.c (.v (.bool false))))⟩
    (.one ⟨some s90, none, (.mv (.t s89))⟩
    (.one ⟨some s91, some (s90, true), (.mv (.t s8))⟩
    (.one ⟨some s92, some (s90, true), (.b2s (.t s91))⟩
    (.one ⟨some s93, some (s90, true), (.load (some 2) (.t s7))⟩
    (.one ⟨some s94, some (s90, true), (.mv (.t s2))⟩
    (.one ⟨some s95, some (s90, true), (.callq 58 [(.t s93), (.t s94)])⟩
    (.one ⟨some s96, some (s90, true), (.b2s (.t s95))⟩
    (.one ⟨some s97, some (s90, true), (.bin false .eql (.t s92) (.t s96))⟩
    (.one ⟨some s98, none, (.pick (.t s90) (.t s97) (.c (.v (.bool false))))⟩
    (.one ⟨some s6, none, (.mv (.t s98))⟩
    .done))))))))))))))))
  .ret))))))))⟩
theorem ok12 : compF Try.prog c12 Try.f12 = some ir12 := by kernel_rfl
theorem k_bowlinelaw11_StatusWrites {args : List AVal} {σ : AHeap} {Q : AVal → AHeap → Prop} (hl : Nat.ble args.length 99 = true) (h : argsK (Env.full 9) 0 args fun env => evC Try.prog c12 ir12.body env σ (retQ ir12 Q)) : ACalls Try.prog 12 args σ Q :=
  acalls_of Try.func12 ok12 rfl (Nat.le_of_ble_eq_true hl) h
/- bowlinelaw11.alive -/
def c47 : Cfg := ⟨qs, [], 83, []⟩
def ir47 : IFun := ⟨0, [.tmp s0],
  (.seq (.reg (.one ⟨some s0, none, (.mv (.c (.v (.bool false))))⟩
    .done))
  (.seq (.reg (.one ⟨some s12, none, (.build [(.v (.int .i64 0)), (.slice 4 [] .full)] [(0, 1, (.c (.v (.int .i64 5))))])⟩
    (.one ⟨some s13, none, (.callq 52 [(.t s12), (.c (.v (.int .i64 10)))])⟩
    (.one ⟨some s11, none, (.mv (.t s13))⟩
    (.one ⟨some s14, none, (.ext (.t s11) 0)⟩
    (.one ⟨some s15, none, (.ext (.t s11) 1)⟩
    (.one ⟨some s1, none, (.mv (.t s14))⟩
    (.one ⟨some s2, none, (.mv (.t s15))⟩
    .done))))))))
  (.seq (.reg (.one ⟨some s17, none, (.build [(.v (.int .i64 0)), (.v (.bool false)), (.v (.int .i64 0)), (.v (.int .i64 0))] [(0, 1, (.c (.v (.int .i64 3)))), (1, 1, (.c (.v (.bool true)))), (2, 1, (.c (.v (.int .i64 2))))])⟩
    (.one ⟨some s18, none, (.build [(.v (.int .i64 0)), (.v (.bool false)), (.v (.int .i64 0)), (.v (.int .i64 0))] [(0, 1, (.c (.v (.int .i64 7))))])⟩
    (.one ⟨some s19, none, (.row 4 [(.t s17), (.t s18)])⟩
    (.one ⟨some s20, none, (.build [(.v (.int .i64 0)), (.slice 4 [] .full)] [(0, 1, (.c (.v (.int .i64 9)))), (1, 1, (.t s19))])⟩
    (.one ⟨some s21, none, (.callq 52 [(.t s20), (.c (.v (.int .i64 16)))])⟩
    (.one ⟨some s16, none, (.mv (.t s21))⟩
    (.one ⟨some s22, none, (.ext (.t s16) 0)⟩
    (.one ⟨some s23, none, (.ext (.t s16) 1)⟩
    (.one ⟨some s3, none, (.mv (.t s22))⟩
    (.one ⟨some s4, none, (.mv (.t s23))⟩
    .done)))))))))))
  (.seq (.reg (.one ⟨some s25, none, (.mv (.t s3))⟩
    (.one ⟨some s26, none, (.callq 48 [(.t s25), (.c (.v (.int .i64 16)))])⟩
    (.one ⟨some s24, none, (.mv (.t s26))⟩
    (.one ⟨some s27, none, (.ext (.t s24) 0)⟩
    (.one ⟨some s28, none, (.ext (.t s24) 1)⟩
    (.one ⟨some s5, none, (.new [(.v (.int .i64 0)), (.slice 4 [] .full)])⟩
    (.one ⟨none, none, (.store 2 (.t s5) (.t s27))⟩
    (.one ⟨some s6, none, (.mv (.t s28))⟩
    .done)))))))))
  (.seq (.reg (.one ⟨some s30, none, (.row 1 [(.c (.v (.int .u8 128)))])⟩
    (.one ⟨some s31, none, (.callq 48 [(.t s30), (.c (.v (.int .i64 10)))])⟩
    (.one ⟨some s29, none, (.mv (.t s31))⟩
    (.one ⟨some s32, none, (.ext (.t s29) 0)⟩
    (.one ⟨some s33, none, (.ext (.t s29) 1)⟩
    (.one ⟨some s7, none, (.new [(.v (.int .i64 0)), (.slice 4 [] .full)])⟩
    (.one ⟨none, none, (.store 2 (.t s7) (.t s32))⟩
    (.one ⟨some s8, none, (.mv (.t s33))⟩
    .done)))))))))
  (.seq (.reg (.one ⟨some s35, none, (.build [(.v (.int .i64 0)), (.v (.bool false)), (.v (.int .i64 0)), (.v (.int .i64 0))] [(2, 1, (.c (.v (.int .i64 1))))])⟩
    (.one ⟨some s36, none, (.row 4 [(.t s35)])⟩
    (.one ⟨some s37, none, (.build [(.v (.int .i64 0)), (.slice 4 [] .full)] [(1, 1, (.t s36))])⟩
    (.one ⟨some s38, none, (.callq 52 [(.t s37), (.c (.v (.int .i64 10)))])⟩
    (.one ⟨some s34, none, (.mv (.t s38))⟩
    (.one ⟨some s39, none, (.ext (.t s34) 0)⟩
    (.one ⟨some s40, none, (.ext (.t s34) 1)⟩
    (.one ⟨some s9, none, (.mv (.t s39))⟩
    (.one ⟨some s10, none, (.mv (.t s40))⟩
    .done))))))))))
  (.seq (.reg (.one ⟨some s41, none, (.mv (.t s1))⟩
    (.one ⟨some s42, none, (.b2s (.t s41))⟩
    (.one ⟨some s43, none, (.bin false .eql (.t s42) (.c (.v (.string ⟨#[0, 20]⟩))))⟩
    (.one ⟨some s44, none, (.mv (.t s43))⟩
    (.one ⟨some s45, some (s44, true), (.mv (.t s2))⟩
    (.one ⟨some s46, some (s44, true), (.bin false .eql (.t s45) (.c (.v (.int .i64 0))))⟩
    (.one ⟨some s47, none, (.pick (.t s44) (.t s46) (.c (.v (.bool false))))⟩
    (.one ⟨some s48, none, (.mv (.t s47))⟩
    (.one ⟨some s49, some (s48, true), (.mv (.t s4))⟩
    (.one ⟨some s50, some (s48, true), (.bin false .eql (.t s49) (.c (.v (.int .i64 0))))⟩
    (.one ⟨some s51, none, (.pick (.t s48) (.t s50) (.c (.v (.bool false))))⟩
    (.one ⟨some s52, none, (.mv (.t s51))⟩
    (.one ⟨some s53, some (s52, true), (.mv (.t s6))⟩
    (.one ⟨some s54, some (s52, true), (.bin false .eql (.t s53) (.c (.v (.int .i64 0))))⟩
    (.one ⟨some s55, none, (.pick (.t s52) (.t s54) (.c (.v (.bool false))))⟩
    (.one ⟨some s56, none, (.mv (.t s55))⟩
    (.one ⟨some s57, some (s56, true), (.faddr 0 (.t s5))⟩
    (.one ⟨some s58, some (s56, true), (.load none (.t s57))⟩
    (.one ⟨some s59, some (s56, true), (.bin false .eql (.t s58) (.c (.v (.int .i64 9))))⟩
    (.one ⟨some s60, none, (.pick (.t s56) (.t s59) (.c (.v (.bool false))))⟩
    (.one ⟨some s61, none, (.mv (.t s60))⟩
    (.one ⟨some s62, some (s61, true), (.faddr 1 (.t s5))⟩
    (.one ⟨some s63, some (s61, true), (.load none (.t s62))⟩
    (.one ⟨some s64, some (s61, true), (.len false (.t s63))⟩
    (.one ⟨some s65, some (s61, true), (.bin false .eql (.t s64) (.c (.v (.int .i64 2))))⟩
    (.one ⟨some s66, none, (.pick (.t s61) (.t s65) (.c (.v (.bool false))))⟩
    (.one ⟨some s67, none, (.mv (.t s66))⟩
    (.one ⟨some s68, some (s67, true), (.faddr 1 (.t s5))⟩
    (.one ⟨some s69, some (s67, true), (.load none (.t s68))⟩
    (.one ⟨some s70, some (s67, true), (.iaddr 4 (.t s69) (.c (.v (.int .i64 0))))⟩
    (.one ⟨some s71, some (s67, true), (.load (some 4) (.t s70))⟩
    (.one ⟨some s72, some (s67, true), (.build [(.v (.int .i64 0)), (.v (.bool false)), (.v (.int .i64 0)), (.v (.int .i64 0))] [(0, 1, (.c (.v (.int .i64 3)))), (1, 1, (.c (.v (.bool true)))), (2, 1, (.c (.v (.int .i64 2))))])⟩
    (.one ⟨some s73, some (s67, true), (.eqAgg false [false, true, false, false] (.t s71) (.t s72))⟩
    (.one ⟨some s74, none, (.pick (.t s67) (.t s73) (.c (.v (.bool false))))⟩
    (.one ⟨some s75, none, (.mv (.t s74))⟩
    (.one ⟨some s76, some (s75, true), (.mv (.t s8))⟩
    (.one ⟨some s77, some (s75, true), (.bin false .eql (.t s76) (.c (.v (.int .i64 4))))⟩
    (.one ⟨some s78, none, (.pick (.t s75) (.t s77) (.c (.v (.bool false))))⟩
    (.one ⟨some s79, none, (.mv (.t s78))⟩
    (.one ⟨some s80, some (s79, true), (.mv (.t s10))⟩
    (.one ⟨some s81, some (s79, true), (.bin false .eql (.t s80) (.c (.v (.int .i64 3))))⟩
    (.one ⟨some s82, none, (.pick (.t s79) (.t s81) (.c (.v (.bool false))))⟩
    (.one ⟨some s0, none, (.mv (.t s82))⟩
    .done))))))))))))))))))))))))))))))))))))))))))))
  .ret)))))))⟩
theorem ok47 : compF Try.prog c47 Try.f47 = some ir47 := by kernel_rfl
theorem k_bowlinelaw11_alive {args : List AVal} {σ : AHeap} {Q : AVal → AHeap → Prop} (hl : Nat.ble args.length 83 = true) (h : argsK (Env.full 9) 0 args fun env => evC Try.prog c47 ir47.body env σ (retQ ir47 Q)) : ACalls Try.prog 47 args σ Q :=
  acalls_of Try.func47 ok47 rfl (Nat.le_of_ble_eq_true hl) h
/- bowlinelaw11.As -/
def c51 : Cfg := ⟨qs, [], 36, []⟩
def ir51 : IFun := ⟨1, [.cell s2 (some 2)],
  (.seq (.reg (.one ⟨some s1, none, (.box 2 (.t s0))⟩
    (.one ⟨some s2, none, (.new [(.v (.int .i64 0)), (.slice 4 [] .full)])⟩
    .done)))
  (.seq (.reg (.one ⟨some s6, none, (.faddr 0 (.t s1))⟩
    (.one ⟨some s7, none, (.load none (.t s6))⟩
    (.one ⟨some s8, none, (.build [(.v (.int .i64 0)), (.slice 4 [] .full)] [(0, 1, (.t s7))])⟩
    (.one ⟨some s3, none, (.new [(.v (.int .i64 0)), (.slice 4 [] .full)])⟩
    (.one ⟨none, none, (.store 2 (.t s3) (.t s8))⟩
    .done))))))
  (.seq (.seq (.reg (.one ⟨some s4, none, (.mv (.c (.v (.int .i64 0))))⟩
    .done))
  (.block 0 (.loop (.seq (.seq (.reg (.one ⟨some s9, none, (.mv (.t s4))⟩
    (.one ⟨some s10, none, (.faddr 1 (.t s1))⟩
    (.one ⟨some s11, none, (.load none (.t s10))⟩
    (.one ⟨some s12, none, (.len false (.t s11))⟩
    (.one ⟨some s13, none, (.bin false .lss (.t s9) (.t s12))⟩
    .done))))))
  (.cond (.t s13) .skip (.exit 0)))
  (.seq (.block 1 (.seq (.reg (.one ⟨some s16, none, (.faddr 1 (.t s1))⟩
    (.one ⟨some s17, none, (.load none (.t s16))⟩
    (.one ⟨some s18, none, (.mv (.t s4))⟩
    (.one ⟨some s19, none, (.iaddr 4 (.t s17) (.t s18))⟩
    (.one ⟨some s20, none, (.load (some 4) (.t s19))⟩
    (.one ⟨some s5, none, (.new [(.v (.int .i64 0)), (.v (.bool false)), (.v (.int .i64 0)), (.v (.int .i64 0))])⟩
    (.one ⟨none, none, (.store 4 (.t s5) (.t s20))⟩
    .done))))))))
  (.reg (.one ⟨some s21, none, (.faddr 1 (.t s3))⟩
    (.one ⟨some s22, none, (.load none (.t s21))⟩
    (.one ⟨some s23, none, (.faddr 0 (.t s5))⟩
    (.one ⟨some s24, none, (.load none (.t s23))⟩
    (.one ⟨some s25, none, (.faddr 1 (.t s5))⟩
    (.one ⟨some s26, none, (.load none (.t s25))⟩
    (.one ⟨some s27, none, (.faddr 2 (.t s5))⟩
    (.one ⟨some s28, none, (.load none (.t s27))⟩
    (.one ⟨some s29, none, (.faddr 3 (.t s5))⟩
    (.one ⟨some s30, none, (.load none (.t s29))⟩
    (.one ⟨some s31, none, (.build [(.v (.int .i64 0)), (.v (.bool false)), (.v (.int .i64 0)), (.v (.int .i64 0))] [(0, 1, (.t s24)), (1, 1, (.t s26)), (2, 1, (.t s28)), (3, 1, (.t s30))])⟩
    (.one ⟨some s32, none, (.row 4 [(.t s31)])⟩
    (.one ⟨some s33, none, (.app 4 32 (.t s22) (.t s32))⟩
    (.one ⟨some s34, none, (.faddr 1 (.t s3))⟩
    (.one ⟨none, none, (.store 1 (.t s34) (.t s33))⟩
    .done))))))))))))))))))
  (.reg (.one ⟨some s14, none, (.mv (.t s4))⟩
    (.one ⟨some s15, none, (.bin false .add (.t s14) (.c (.v (.int .i64 1))))⟩
    (.one ⟨some s4, none, (.mv (.t s15))⟩
    .done)))))))))
  (.seq (.reg (.one ⟨some s35, none, (.load (some 2) (.t s3))⟩
    (.one ⟨none, none, (.store 2 (.t s2) (.t s35))⟩
    .done)))
  .ret))))⟩
theorem ok51 : compF Try.prog c51 Try.f51 = some ir51 := by kernel_rfl
theorem k_bowlinelaw11_As {args : List AVal} {σ : AHeap} {Q : AVal → AHeap → Prop} (hl : Nat.ble args.length 36 = true) (h : argsK (Env.full 9) 0 args fun env => evC Try.prog c51 ir51.body env σ (retQ ir51 Q)) : ACalls Try.prog 51 args σ Q :=
  acalls_of Try.func51 ok51 rfl (Nat.le_of_ble_eq_true hl) h
end Go.Proofs.Ytnfdgccmpglbhaa
/-
  The bodies of one package, compiled to the framework's language (printed by a program of this session).
-/
namespace Go.Proofs.Ytnfdgccmpglbhaa
set_option linter.unusedVariables false
set_option linter.unusedSimpArgs false
open Go Go.Am
/- bowlineref01.Bits -/
def c97 : Cfg := ⟨qs, [], 32, []⟩
def ir97 : IFun := ⟨1, [.tmp s2],
  (.seq (.reg (.one ⟨some s2, none, (.mv (.c (.slice 1 [] .full)))⟩
    .done))
  (.seq (.reg (.one ⟨some s3, none, (.mv (.c (.slice 1 [] .full)))⟩
    .done))
  (.seq (.seq (.reg (.one ⟨some s4, none, (.mv (.c (.v (.int .i64 0))))⟩
    .done))
  (.block 0 (.loop (.seq (.seq (.reg (.one ⟨some s6, none, (.mv (.t s4))⟩
    (.one ⟨some s7, none, (.mv (.t s0))⟩
    (.one ⟨some s8, none, (.len false (.t s7))⟩
    (.one ⟨some s9, none, (.bin false .lss (.t s6) (.t s8))⟩
    (.one ⟨some s10, none, (.mv (.t s9))⟩
    (.one ⟨some s11, some (s10, true), (.mv (.t s4))⟩
    (.one ⟨some s12, some (s10, true), (.bin false .lss (.t s11) (.c (.v (.int .i64 8192))))⟩
    (.one ⟨some s13, none, (.pick (.t s10) (.t s12) (.c (.v (.bool false))))⟩
    .done)))))))))
  (.cond (.t s13) .skip (.exit 0)))
  (.seq (.block 1 (.seq (.reg (.one ⟨some s5, none, (.mv (.c (.v (.int .u8 128))))⟩
    .done))
  (.block 2 (.loop (.seq (.seq (.reg (.one ⟨some s16, none, (.mv (.t s5))⟩
    (.one ⟨some s17, none, (.bin false .gtr (.t s16) (.c (.v (.int .u8 0))))⟩
    .done)))
  (.cond (.t s17) .skip (.exit 2)))
  (.seq (.block 3 (.reg (.one ⟨some s20, none, (.mv (.t s3))⟩
    (.one ⟨some s21, none, (.mv (.t s0))⟩
    (.one ⟨some s22, none, (.mv (.t s4))⟩
    (.one ⟨some s23, none, (.iaddr 1 (.t s21) (.t s22))⟩
    (.one ⟨some s24, none, (.load none (.t s23))⟩
    (.one ⟨some s25, none, (.mv (.t s5))⟩
    (.one ⟨some s26, none, (.bin false .quo (.t s24) (.t s25))⟩
    (.one ⟨some s27, none, (.bin false .rem (.t s26) (.c (.v (.int .u8 2))))⟩
    (.one ⟨some s28, none, (.bin false .eql (.t s27) (.c (.v (.int .u8 1))))⟩
    (.one ⟨some s29, none, (.row 1 [(.t s28)])⟩
    (.one ⟨some s30, none, (.app 1 1 (.t s20) (.t s29))⟩
    (.one ⟨some s3, none, (.mv (.t s30))⟩
    .done))))))))))))))
  (.reg (.one ⟨some s18, none, (.mv (.t s5))⟩
    (.one ⟨some s19, none, (.bin false .quo (.t s18) (.c (.v (.int .u8 2))))⟩
    (.one ⟨some s5, none, (.mv (.t s19))⟩
    .done))))))))))
  (.reg (.one ⟨some s14, none, (.mv (.t s4))⟩
    (.one ⟨some s15, none, (.bin false .add (.t s14) (.c (.v (.int .i64 1))))⟩
    (.one ⟨some s4, none, (.mv (.t s15))⟩
    .done)))))))))
  (.seq (.reg (.one ⟨some s31, none, (.mv (.t s3))⟩
    (.one ⟨some s2, none, (.mv (.t s31))⟩
    .done)))
  .ret))))⟩
theorem ok97 : compF Try.prog c97 Try.f97 = some ir97 := by kernel_rfl
theorem k_bowlineref01_Bits {args : List AVal} {σ : AHeap} {Q : AVal → AHeap → Prop} (hl : Nat.ble args.length 32 = true) (h : argsK (Env.full 9) 0 args fun env => evC Try.prog c97 ir97.body env σ (retQ ir97 Q)) : ACalls Try.prog 97 args σ Q :=
  acalls_of Try.func97 ok97 rfl (Nat.le_of_ble_eq_true hl) h
/- bowlineref01.Get -/
def c98 : Cfg := ⟨qs, [], 45, []⟩
def ir98 : IFun := ⟨3, [.tmp s6, .tmp s7, .tmp s8],
  (.seq (.reg (.one ⟨some s6, none, (.mv (.c (.v (.int .u64 0))))⟩
    (.one ⟨some s7, none, (.mv (.c (.v (.int .i64 0))))⟩
    (.one ⟨some s8, none, (.mv (.c (.v (.int .i64 0))))⟩
    .done))))
  (.seq (.seq (.reg (.one ⟨some s11, none, (.mv (.t s2))⟩
    (.one ⟨some s12, none, (.bin false .lss (.t s11) (.c (.v (.int .i64 0))))⟩
    (.one ⟨some s13, none, (.mv (.t s12))⟩
    (.one ⟨some s14, some (s13, false), (.mv (.t s2))⟩
    (.one ⟨some s15, some (s13, false), (.bin false .gtr (.t s14) (.c (.v (.int .i64 64))))⟩
    (.one ⟨some s16, none, (.pick (.t s13) (.c (.v (.bool true))) (.t s15))⟩
    .done)))))))
  (.cond (.t s16) (.seq (.reg (.one ⟨some s17, none, (.mv (.t s1))⟩
    (.one ⟨some s6, none, (.mv (.c (.v (.int .u64 0))))⟩
    (.one ⟨some s7, none, (.mv (.t s17))⟩
    (.one ⟨some s8, none, (.mv (.c (.v (.int .i64 1))))⟩
    .done)))))
  .ret) .skip))
  (.seq (.seq (.reg (.one ⟨some s18, none, (.mv (.t s2))⟩
    (.one ⟨some s19, none, (.mv (.t s0))⟩
    (.one ⟨some s20, none, (.len false (.t s19))⟩
    (.one ⟨some s21, none, (.mv (.t s1))⟩
    (.one ⟨some s22, none, (.bin false .sub (.t s20) (.t s21))⟩
    (.one ⟨some s23, none, (.bin false .gtr (.t s18) (.t s22))⟩
    .done)))))))
  (.cond (.t s23) (.seq (.reg (.one ⟨some s24, none, (.mv (.t s1))⟩
    (.one ⟨some s6, none, (.mv (.c (.v (.int .u64 0))))⟩
    (.one ⟨some s7, none, (.mv (.t s24))⟩
    (.one ⟨some s8, none, (.mv (.c (.v (.int .i64 8))))⟩
    .done)))))
  .ret) .skip))
  (.seq (.reg (.one ⟨some s9, none, (.mv (.c (.v (.int .u64 0))))⟩
    .done))
  (.seq (.seq (.reg (.one ⟨some s25, none, (.mv (.t s1))⟩
    (.one ⟨some s10, none, (.mv (.t s25))⟩
    .done)))
  (.block 0 (.loop (.seq (.seq (.reg (.one ⟨some s26, none, (.mv (.t s10))⟩
    (.one ⟨some s27, none, (.mv (.t s1))⟩
    (.one ⟨some s28, none, (.mv (.t s2))⟩
    (.one ⟨some s29, none, (.bin false .add (.t s27) (.t s28))⟩
    (.one ⟨some s30, none, (.bin false .lss (.t s26) (.t s29))⟩
    .done))))))
  (.cond (.t s30) .skip (.exit 0)))
  (.seq (.block 1 (.seq (.reg (.one ⟨some s33, none, (.mv (.t s9))⟩
    (.one ⟨some s34, none, (.bin false .mul (.c (.v (.int .u64 2))) (.t s33))⟩
    (.one ⟨some s9, none, (.mv (.t s34))⟩
    .done))))
  (.seq (.reg (.one ⟨some s35, none, (.mv (.t s0))⟩
    (.one ⟨some s36, none, (.mv (.t s10))⟩
    (.one ⟨some s37, none, (.iaddr 1 (.t s35) (.t s36))⟩
    (.one ⟨some s38, none, (.load none (.t s37))⟩
    .done)))))
  (.cond (.t s38) (.reg (.one ⟨some s39, none, (.mv (.t s9))⟩
    (.one ⟨some s40, none, (.bin false .add (.t s39) (.c (.v (.int .u64 1))))⟩
    (.one ⟨some s9, none, (.mv (.t s40))⟩
    .done)))) .skip))))
  (.reg (.one ⟨some s31, none, (.mv (.t s10))⟩
    (.one ⟨some s32, none, (.bin false .add (.t s31) (.c (.v (.int .i64 1))))⟩
    (.one ⟨some s10, none, (.mv (.t s32))⟩
    .done)))))))))
  (.seq (.reg (.one ⟨some s41, none, (.mv (.t s9))⟩
    (.one ⟨some s42, none, (.mv (.t s1))⟩
    (.one ⟨some s43, none, (.mv (.t s2))⟩
    (.one ⟨some s44, none, (.bin false .add (.t s42) (.t s43))⟩
    (.one ⟨some s6, none, (.mv (.t s41))⟩
    (.one ⟨some s7, none, (.mv (.t s44))⟩
    (.one ⟨some s8, none, (.mv (.c (.v (.int .i64 0))))⟩
    .done))))))))
  .ret))))))⟩
theorem ok98 : compF Try.prog c98 Try.f98 = some ir98 := by kernel_rfl
theorem k_bowlineref01_Get {args : List AVal} {σ : AHeap} {Q : AVal → AHeap → Prop} (hl : Nat.ble args.length 45 = true) (h : argsK (Env.full 9) 0 args fun env => evC Try.prog c98 ir98.body env σ (retQ ir98 Q)) : ACalls Try.prog 98 args σ Q :=
  acalls_of Try.func98 ok98 rfl (Nat.le_of_ble_eq_true hl) h
/- bowlineref01.Put -/
def c110 : Cfg := ⟨qs, [], 53, []⟩
def ir110 : IFun := ⟨3, [.tmp s6, .tmp s7],
  (.seq (.reg (.one ⟨some s6, none, (.mv (.c (.slice 1 [] .full)))⟩
    (.one ⟨some s7, none, (.mv (.c (.v (.int .i64 0))))⟩
    .done)))
  (.seq (.seq (.reg (.one ⟨some s12, none, (.mv (.t s1))⟩
    (.one ⟨some s13, none, (.mv (.t s2))⟩
    (.one ⟨some s14, none, (.callq 126 [(.t s12), (.t s13)])⟩
    (.one ⟨some s15, none, (.not (.t s14))⟩
    .done)))))
  (.cond (.t s15) (.seq (.reg (.one ⟨some s16, none, (.mv (.t s0))⟩
    (.one ⟨some s6, none, (.mv (.t s16))⟩
    (.one ⟨some s7, none, (.mv (.c (.v (.int .i64 1))))⟩
    .done))))
  .ret) .skip))
  (.seq (.seq (.reg (.one ⟨some s17, none, (.mv (.t s0))⟩
    (.one ⟨some s18, none, (.len false (.t s17))⟩
    (.one ⟨some s19, none, (.mv (.t s2))⟩
    (.one ⟨some s20, none, (.bin false .sub (.c (.v (.int .i64 65536))) (.t s19))⟩
    (.one ⟨some s21, none, (.bin false .gtr (.t s18) (.t s20))⟩
    .done))))))
  (.cond (.t s21) (.seq (.reg (.one ⟨some s22, none, (.mv (.t s0))⟩
    (.one ⟨some s6, none, (.mv (.t s22))⟩
    (.one ⟨some s7, none, (.mv (.c (.v (.int .i64 5))))⟩
    .done))))
  .ret) .skip))
  (.seq (.reg (.one ⟨some s8, none, (.mv (.c (.slice 1 [] .full)))⟩
    (.one ⟨some s9, none, (.mv (.c (.slice 1 [] .full)))⟩
    .done)))
  (.seq (.seq (.reg (.one ⟨some s10, none, (.mv (.c (.v (.int .i64 0))))⟩
    .done))
  (.block 0 (.loop (.seq (.seq (.reg (.one ⟨some s23, none, (.mv (.t s10))⟩
    (.one ⟨some s24, none, (.mv (.t s2))⟩
    (.one ⟨some s25, none, (.bin false .lss (.t s23) (.t s24))⟩
    .done))))
  (.cond (.t s25) .skip (.exit 0)))
  (.seq (.block 1 (.seq (.reg (.one ⟨some s28, none, (.mv (.t s8))⟩
    (.one ⟨some s29, none, (.mv (.t s1))⟩
    (.one ⟨some s30, none, (.bin false .rem (.t s29) (.c (.v (.int .u64 2))))⟩
    (.one ⟨some s31, none, (.bin false .eql (.t s30) (.c (.v (.int .u64 1))))⟩
    (.one ⟨some s32, none, (.row 1 [(.t s31)])⟩
    (.one ⟨some s33, none, (.app 1 1 (.t s28) (.t s32))⟩
    (.one ⟨some s8, none, (.mv (.t s33))⟩
    .done))))))))
  (.reg (.one ⟨some s34, none, (.mv (.t s1))⟩
    (.one ⟨some s35, none, (.bin false .quo (.t s34) (.c (.v (.int .u64 2))))⟩
    (.one ⟨some s1, none, (.mv (.t s35))⟩
    .done))))))
  (.reg (.one ⟨some s26, none, (.mv (.t s10))⟩
    (.one ⟨some s27, none, (.bin false .add (.t s26) (.c (.v (.int .i64 1))))⟩
    (.one ⟨some s10, none, (.mv (.t s27))⟩
    .done)))))))))
  (.seq (.reg (.one ⟨some s36, none, (.mv (.t s9))⟩
    (.one ⟨some s37, none, (.mv (.t s0))⟩
    (.one ⟨some s38, none, (.app 1 1 (.t s36) (.t s37))⟩
    (.one ⟨some s9, none, (.mv (.t s38))⟩
    .done)))))
  (.seq (.seq (.reg (.one ⟨some s39, none, (.mv (.t s2))⟩
    (.one ⟨some s40, none, (.bin false .sub (.t s39) (.c (.v (.int .i64 1))))⟩
    (.one ⟨some s11, none, (.mv (.t s40))⟩
    .done))))
  (.block 2 (.loop (.seq (.seq (.reg (.one ⟨some s41, none, (.mv (.t s11))⟩
    (.one ⟨some s42, none, (.bin false .geq (.t s41) (.c (.v (.int .i64 0))))⟩
    .done)))
  (.cond (.t s42) .skip (.exit 2)))
  (.seq (.block 3 (.reg (.one ⟨some s45, none, (.mv (.t s9))⟩
    (.one ⟨some s46, none, (.mv (.t s8))⟩
    (.one ⟨some s47, none, (.mv (.t s11))⟩
    (.one ⟨some s48, none, (.iaddr 1 (.t s46) (.t s47))⟩
    (.one ⟨some s49, none, (.load none (.t s48))⟩
    (.one ⟨some s50, none, (.row 1 [(.t s49)])⟩
    (.one ⟨some s51, none, (.app 1 1 (.t s45) (.t s50))⟩
    (.one ⟨some s9, none, (.mv (.t s51))⟩
    .done))))))))))
  (.reg (.one ⟨some s43, none, (.mv (.t s11))⟩
    (.one ⟨some s44, none, (.bin false .sub (.t s43) (.c (.v (.int .i64 1))))⟩
    (.one ⟨some s11, none, (.mv (.t s44))⟩
    .done)))))))))
  (.seq (.reg (.one ⟨some s52, none, (.mv (.t s9))⟩
    (.one ⟨some s6, none, (.mv (.t s52))⟩
    (.one ⟨some s7, none, (.mv (.c (.v (.int .i64 0))))⟩
    .done))))
  .ret))))))))⟩
theorem ok110 : compF Try.prog c110 Try.f110 = some ir110 := by kernel_rfl
theorem k_bowlineref01_Put {args : List AVal} {σ : AHeap} {Q : AVal → AHeap → Prop} (hl : Nat.ble args.length 53 = true) (h : argsK (Env.full 9) 0 args fun env => evC Try.prog c110 ir110.body env σ (retQ ir110 Q)) : ACalls Try.prog 110 args σ Q :=
  acalls_of Try.func110 ok110 rfl (Nat.le_of_ble_eq_true hl) h
/- bowlineref01.Bytes -/
def c113 : Cfg := ⟨qs, [], 40, []⟩
def ir113 : IFun := ⟨1, [.tmp s2],
  (.seq (.reg (.one ⟨some s2, none, (.mv (.c (.slice 1 [] .full)))⟩
    .done))
  (.seq (.reg (.one ⟨some s3, none, (.mv (.c (.slice 1 [] .full)))⟩
    .done))
  (.seq (.seq (.reg (.one ⟨some s4, none, (.mv (.c (.v (.int .i64 0))))⟩
    .done))
  (.block 0 (.loop (.seq (.seq (.reg (.one ⟨some s7, none, (.mv (.t s4))⟩
    (.one ⟨some s8, none, (.mv (.t s0))⟩
    (.one ⟨some s9, none, (.len false (.t s8))⟩
    (.one ⟨some s10, none, (.bin false .lss (.t s7) (.t s9))⟩
    .done)))))
  (.cond (.t s10) .skip (.exit 0)))
  (.seq (.block 1 (.seq (.reg (.one ⟨some s5, none, (.mv (.c (.v (.int .u8 0))))⟩
    .done))
  (.seq (.seq (.reg (.one ⟨some s6, none, (.mv (.c (.v (.int .i64 0))))⟩
    .done))
  (.block 2 (.loop (.seq (.seq (.reg (.one ⟨some s13, none, (.mv (.t s6))⟩
    (.one ⟨some s14, none, (.bin false .lss (.t s13) (.c (.v (.int .i64 8))))⟩
    .done)))
  (.cond (.t s14) .skip (.exit 2)))
  (.seq (.block 3 (.seq (.reg (.one ⟨some s17, none, (.mv (.t s5))⟩
    (.one ⟨some s18, none, (.bin false .mul (.c (.v (.int .u8 2))) (.t s17))⟩
    (.one ⟨some s5, none, (.mv (.t s18))⟩
    .done))))
  (.seq (.reg (.one ⟨some s19, none, (.mv (.t s4))⟩
    (.one ⟨some s20, none, (.mv (.t s6))⟩
    (.one ⟨some s21, none, (.bin false .add (.t s19) (.t s20))⟩
    (.one ⟨some s22, none, (.mv (.t s0))⟩
    (.one ⟨some s23, none, (.len false (.t s22))⟩
    (.one ⟨some s24, none, (.bin false .lss (.t s21) (.t s23))⟩
    (.one ⟨some s25, none, (.mv (.t s24))⟩
    (.one ⟨some s26, some (s25, true), (.mv (.t s0))⟩
    (.one ⟨some s27, some (s25, true), (.mv (.t s4))⟩
    (.one ⟨some s28, some (s25, true), (.mv (.t s6))⟩
    (.one ⟨some s29, some (s25, true), (.bin false .add (.t s27) (.t s28))⟩
    (.one ⟨some s30, some (s25, true), (.iaddr 1 (.t s26) (.t s29))⟩
    (.one ⟨some s31, some (s25, true), (.load none (.t s30))⟩
    (.one ⟨some s32, none, (.pick (.t s25) (.t s31) (.c (.v (.bool false))))⟩
    .done)))))))))))))))
  (.cond (.t s32) (.reg (.one ⟨some s33, none, (.mv (.t s5))⟩
    (.one ⟨some s34, none, (.bin false .add (.t s33) (.c (.v (.int .u8 1))))⟩
    (.one ⟨some s5, none, (.mv (.t s34))⟩
    .done)))) .skip))))
  (.reg (.one ⟨some s15, none, (.mv (.t s6))⟩
    (.one ⟨some s16, none, (.bin false .add (.t s15) (.c (.v (.int .i64 1))))⟩
    (.one ⟨some s6, none, (.mv (.t s16))⟩
    .done)))))))))
  (.reg (.one ⟨some s35, none, (.mv (.t s3))⟩
    (.one ⟨some s36, none, (.mv (.t s5))⟩
    (.one ⟨some s37, none, (.row 1 [(.t s36)])⟩
    (.one ⟨some s38, none, (.app 1 1 (.t s35) (.t s37))⟩
    (.one ⟨some s3, none, (.mv (.t s38))⟩
    .done)))))))))
  (.reg (.one ⟨some s11, none, (.mv (.t s4))⟩
    (.one ⟨some s12, none, (.bin false .add (.t s11) (.c (.v (.int .i64 8))))⟩
    (.one ⟨some s4, none, (.mv (.t s12))⟩
    .done)))))))))
  (.seq (.reg (.one ⟨some s39, none, (.mv (.t s3))⟩
    (.one ⟨some s2, none, (.mv (.t s39))⟩
    .done)))
  .ret))))⟩
theorem ok113 : compF Try.prog c113 Try.f113 = some ir113 := by kernel_rfl
theorem k_bowlineref01_Bytes {args : List AVal} {σ : AHeap} {Q : AVal → AHeap → Prop} (hl : Nat.ble args.length 40 = true) (h : argsK (Env.full 9) 0 args fun env => evC Try.prog c113 ir113.body env σ (retQ ir113 Q)) : ACalls Try.prog 113 args σ Q :=
  acalls_of Try.func113 ok113 rfl (Nat.le_of_ble_eq_true hl) h
/- bowlineref01.fits -/
def c126 : Cfg := ⟨qs, [], 21, []⟩
def ir126 : IFun := ⟨2, [.tmp s4],
  (.seq (.reg (.one ⟨some s4, none, (.mv (.c (.v (.bool false))))⟩
    .done))
  (.seq (.seq (.reg (.one ⟨some s6, none, (.mv (.t s1))⟩
    (.one ⟨some s7, none, (.bin false .lss (.t s6) (.c (.v (.int .i64 0))))⟩
    (.one ⟨some s8, none, (.mv (.t s7))⟩
    (.one ⟨some s9, some (s8, false), (.mv (.t s1))⟩
    (.one ⟨some s10, some (s8, false), (.bin false .gtr (.t s9) (.c (.v (.int .i64 64))))⟩
    (.one ⟨some s11, none, (.pick (.t s8) (.c (.v (.bool true))) (.t s10))⟩
    .done)))))))
  (.cond (.t s11) (.seq (.reg (.one ⟨some s4, none, (.mv (.c (.v (.bool false))))⟩
    .done))
  .ret) .skip))
  (.seq (.seq (.reg (.one ⟨some s5, none, (.mv (.c (.v (.int .i64 0))))⟩
    .done))
  (.block 0 (.loop (.seq (.seq (.reg (.one ⟨some s12, none, (.mv (.t s5))⟩
    (.one ⟨some s13, none, (.mv (.t s1))⟩
    (.one ⟨some s14, none, (.bin false .lss (.t s12) (.t s13))⟩
    .done))))
  (.cond (.t s14) .skip (.exit 0)))
  (.seq (.block 1 (.reg (.one ⟨some s17, none, (.mv (.t s0))⟩
    (.one ⟨some s18, none, (.bin false .quo (.t s17) (.c (.v (.int .u64 2))))⟩
    (.one ⟨some s0, none, (.mv (.t s18))⟩
    .done)))))
  (.reg (.one ⟨some s15, none, (.mv (.t s5))⟩
    (.one ⟨some s16, none, (.bin false .add (.t s15) (.c (.v (.int .i64 1))))⟩
    (.one ⟨some s5, none, (.mv (.t s16))⟩
    .done)))))))))
  (.seq (.reg (.one ⟨some s19, none, (.mv (.t s0))⟩
    (.one ⟨some s20, none, (.bin false .eql (.t s19) (.c (.v (.int .u64 0))))⟩
    (.one ⟨some s4, none, (.mv (.t s20))⟩
    .done))))
  .ret))))⟩
theorem ok126 : compF Try.prog c126 Try.f126 = some ir126 := by kernel_rfl
theorem k_bowlineref01_fits {args : List AVal} {σ : AHeap} {Q : AVal → AHeap → Prop} (hl : Nat.ble args.length 21 = true) (h : argsK (Env.full 9) 0 args fun env => evC Try.prog c126 ir126.body env σ (retQ ir126 Q)) : ACalls Try.prog 126 args σ Q :=
  acalls_of Try.func126 ok126 rfl (Nat.le_of_ble_eq_true hl) h
end Go.Proofs.Ytnfdgccmpglbhaa
