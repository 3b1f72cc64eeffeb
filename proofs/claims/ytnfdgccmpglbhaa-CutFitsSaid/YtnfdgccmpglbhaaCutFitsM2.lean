/-
  Texts of this claim, part 3: Ctok, Ctok2, Ircut, Ccut, Ccutl, Irlaw13, Claw13a, Claw13b, Claw13c, Cvia, Claw13d.
-/
import Derived.Test.YtnfdgccmpglbhaaCutFitsM1
/-
  The right to append, beside whatever else is known of the heap.
-/
namespace Go.Proofs.Ytnfdgccmpglbhaa
set_option linter.unusedVariables false
set_option linter.unusedSimpArgs false
open Go Go.Am

theorem sub_none {σ σ' : AHeap} (h : Sub σ σ') {id : Nat} (k : σ id = none) : σ' id = none := by
  cases e : σ' id with
  | none => rfl
  | some o => rw [h _ _ e] at k; cases k
theorem sub_del {σ σb : AHeap} {id : Nat} (h : Sub σ σb) (h1 : σb id = none) : Sub (del σ id) σb := fun j o hj => by
  have hne : j ≠ id := fun e => by subst e; rw [h1] at hj; cases hj
  rw [del_ne _ hne]; exact h _ _ hj
theorem sub_upd {σ σb : AHeap} {id : Nat} (o : AObj) (h : Sub σ σb) (h1 : σb id = none) : Sub (upd σ id o) σb := fun j x hj => by
  have hne : j ≠ id := fun e => by subst e; rw [h1] at hj; cases hj
  rw [upd_ne _ _ hne]; exact h _ _ hj
/-- A token that is there, and is not of the heap below. -/
def TokIn (σ σb : AHeap) (tk : Tok) : Prop := tk = .full ∨ ∃ t, tk = .tip t ∧ σ t = some .tip ∧ σb t = none
theorem TokIn.full (σ σb : AHeap) : TokIn σ σb .full := .inl rfl
theorem TokIn.ne {σ σb : AHeap} {tk : Tok} {id : Nat} (o : AObj) (h : TokIn σ σb tk) (k : ∀ t, tk = .tip t → id ≠ t) : TokIn (upd σ id o) σb tk := by
  rcases h with rfl | ⟨t, rfl, h1, h2⟩
  · exact .inl rfl
  · exact .inr ⟨t, rfl, by rw [upd_ne _ _ (Ne.symm (k t rfl))]; exact h1, h2⟩
theorem TokIn.ne_of {σ σb : AHeap} {tk : Tok} {id : Nat} {o : AObj} (h : TokIn σ σb tk) (k : σ id = some o) (ho : o.isTip = false) : ∀ t, tk = .tip t → id ≠ t := by
  rintro t rfl e
  subst e
  rcases h with h | ⟨t', h0, h1, h2⟩
  · cases h
  · cases h0; rw [h1] at k; cases k; cases ho
/-- Something of the heap below is set. -/
theorem TokIn.set {σ σb : AHeap} {tk : Tok} {id : Nat} {o : AObj} (x : AObj) (h : TokIn σ σb tk) (k : σ id = some o) (ho : o.isTip = false) : TokIn (upd σ id x) σb tk := h.ne x (h.ne_of k ho)
theorem TokIn.ext {σ σ' σb : AHeap} {tk : Tok} (h : TokIn σ σb tk) (k : ∀ t, σ t = some .tip → σ' t = some .tip) : TokIn σ' σb tk := by
  rcases h with rfl | ⟨t, rfl, h1, h2⟩
  · exact .inl rfl
  · exact .inr ⟨t, rfl, k t h1, h2⟩
theorem Owned.tokIn {σ σb σ' : AHeap} {tk : Tok} (hs : Sub σ σb) (h : Owned σ σ' tk) : TokIn σ' σb tk := by
  rcases h with ⟨rfl, rfl⟩ | ⟨t, h0, rfl, rfl⟩
  · exact .inl rfl
  · exact .inr ⟨t, rfl, upd_same _ _ _, sub_none hs h0⟩
theorem aapp_in {σ σb : AHeap} {s bytes : Nat} {xs ys : List AVal} {tk : Tok} {K : AVal → AHeap → Prop} (h : TokIn σ σb tk) (hs : Sub σ σb) (hl : (xs.length + ys.length) * bytes ≤ 140737488355328)
    (k : ∀ t' σ', Ext σ σ' → Sub σ' σb → TokIn σ' σb (.tip t') → K (.slice s (xs ++ ys) (.tip t')) σ') : AApp σ s bytes xs tk ys K := by
  rcases h with rfl | ⟨t, rfl, h1, h2⟩
  · refine aapp_full hl fun t ht => k t _ (Ext.upd_fresh _ ht) (sub_upd _ hs (sub_none hs ht)) (.inr ⟨t, rfl, upd_same _ _ _, sub_none hs ht⟩)
  · refine aapp_tip h1 hl fun t' ht' => ?_
    have hb : σb t' = none := sub_none hs ht'
    refine k t' _ (fun id o ho e => ?_) (sub_upd _ (sub_del hs h2) hb) (.inr ⟨t', rfl, upd_same _ _ _, hb⟩)
    have hne : id ≠ t := fun q => by subst q; rw [h1] at e; cases e; cases ho
    have e2 : del σ t id = some o := by rw [del_ne _ hne]; exact e
    rw [upd_ne]; exact e2
    intro q; subst q; rw [e] at ht'; cases ht'
end Go.Proofs.Ytnfdgccmpglbhaa
/-
  Two rights to append, apart.
-/
namespace Go.Proofs.Ytnfdgccmpglbhaa
set_option linter.unusedVariables false
set_option linter.unusedSimpArgs false
open Go Go.Am

structure Tok2 (σ σb : AHeap) (a b : Tok) : Prop where
  fa : TokIn σ σb a
  fb : TokIn σ σb b
  ne : ∀ t, a = Tok.tip t → b ≠ Tok.tip t
theorem Tok2.symm {σ σb : AHeap} {a b : Tok} (h : Tok2 σ σb a b) : Tok2 σ σb b a := ⟨h.fb, h.fa, fun t e k => h.ne t k e⟩
theorem Tok2.ext {σ σ' σb : AHeap} {a b : Tok} (h : Tok2 σ σb a b) (k : ∀ t, σ t = some .tip → σ' t = some .tip) : Tok2 σ' σb a b := ⟨h.fa.ext k, h.fb.ext k, h.ne⟩
theorem Tok2.set {σ σb : AHeap} {a b : Tok} {id : Nat} {o : AObj} (x : AObj) (h : Tok2 σ σb a b) (k : σ id = some o) (ho : o.isTip = false) : Tok2 (upd σ id x) σb a b := ⟨h.fa.set x k ho, h.fb.set x k ho, h.ne⟩
theorem Tok2.full (σ σb : AHeap) : Tok2 σ σb .full .full := ⟨.full _ _, .full _ _, nofun⟩
theorem Tok2.fresh {σ σb : AHeap} {a b : Tok} {id : Nat} (x : AObj) (h : Tok2 σ σb a b) (k : σ id = none) : Tok2 (upd σ id x) σb a b :=
  h.ext fun t ht => by rw [upd_ne]; exact ht; intro e; subst e; rw [k] at ht; cases ht
theorem aapp_2 {σ σb : AHeap} {s bytes : Nat} {xs ys : List AVal} {a b : Tok} {K : AVal → AHeap → Prop} (h : Tok2 σ σb a b) (hs : Sub σ σb) (hl : (xs.length + ys.length) * bytes ≤ 140737488355328)
    (k : ∀ t' σ', Ext σ σ' → Sub σ' σb → Tok2 σ' σb (.tip t') b → K (.slice s (xs ++ ys) (.tip t')) σ') : AApp σ s bytes xs a ys K := by
  obtain ⟨ha, hb, hne⟩ := h
  rcases ha with rfl | ⟨t, rfl, h1, h2⟩
  · refine aapp_full hl fun t ht => k t _ (Ext.upd_fresh _ ht) (sub_upd _ hs (sub_none hs ht)) ⟨.inr ⟨t, rfl, upd_same _ _ _, sub_none hs ht⟩, hb.ext fun t2 h2 => ?_, fun t2 e1 e2 => ?_⟩
    · rw [upd_ne]; exact h2; intro e; subst e; rw [ht] at h2; cases h2
    · cases e1
      rcases hb with rfl | ⟨t3, rfl, h3, _⟩
      · cases e2
      · cases e2; rw [ht] at h3; cases h3
  · refine aapp_tip h1 hl fun t' ht' => ?_
    have hb' : σb t' = none := sub_none hs ht'
    refine k t' _ (fun id o ho e => ?_) (sub_upd _ (sub_del hs h2) hb') ⟨.inr ⟨t', rfl, upd_same _ _ _, hb'⟩, ?_, fun t2 e1 e2 => ?_⟩
    · have hne : id ≠ t := fun q => by subst q; rw [h1] at e; cases e; cases ho
      have e2 : del σ t id = some o := by rw [del_ne _ hne]; exact e
      rw [upd_ne]; exact e2
      intro q; subst q; rw [e] at ht'; cases ht'
    · rcases hb with rfl | ⟨t3, rfl, h3, h4⟩
      · exact .inl rfl
      · have n1 : t3 ≠ t := fun e => hne t rfl (by rw [e])
        have n2 : t3 ≠ t' := fun e => by subst e; rw [ht'] at h3; cases h3
        exact .inr ⟨t3, rfl, by rw [upd_ne _ _ n2, del_ne _ n1]; exact h3, h4⟩
    · cases e1
      rcases hb with rfl | ⟨t3, rfl, h3, _⟩
      · cases e2
      · cases e2; rw [ht'] at h3; cases h3
end Go.Proofs.Ytnfdgccmpglbhaa
/-
  The bodies of one package, compiled to the framework's language (printed by a program of this session).
-/
namespace Go.Proofs.Ytnfdgccmpglbhaa
set_option linter.unusedVariables false
set_option linter.unusedSimpArgs false
open Go Go.Am
/- cut.Build -/
def c18 : Cfg := ⟨qs, [], 111, []⟩
def ir18 : IFun := ⟨3, [.cell s6 (some 3), .tmp s7],
  (.seq (.reg (.one ⟨some s6, none, (.new [(.v (.int .i64 0)), (.slice 1 [] .full), (.slice 1 [] .full)])⟩
    (.one ⟨some s7, none, (.mv (.c (.v (.int .i64 0))))⟩
    .done)))
  (.scope (.seq (.seq (.reg (.one ⟨some s21, none, (.mv (.t s0))⟩
    (.one ⟨some s22, none, (.mv (.t s1))⟩
    (.one ⟨some s23, none, (.mv (.t s2))⟩
    (.one ⟨some s24, none, (.callq 70 [(.t s21), (.t s22), (.t s23)])⟩
    (.one ⟨some s8, none, (.mv (.t s24))⟩
    .done))))))
  (.seq (.reg (.one ⟨some s25, none, (.mv (.t s8))⟩
    (.one ⟨some s26, none, (.bin false .neq (.t s25) (.c (.v (.int .i64 0))))⟩
    .done)))
  (.cond (.t s26) (.seq (.reg (.one ⟨some s27, none, (.build [(.v (.int .i64 0)), (.slice 1 [] .full), (.slice 1 [] .full)] [])⟩
    (.one ⟨some s28, none, (.mv (.t s8))⟩
    (.one ⟨none, none, (.store 3 (.t s6) (.t s27))⟩
    (.one ⟨some s7, none, (.mv (.t s28))⟩
    .done)))))
  .ret) .skip)))
  (.seq (.seq (.reg (.one ⟨some s30, none, (.mv (.t s0))⟩
    (.one ⟨some s31, none, (.call 71 [(.t s30), (.c (.v (.int .i64 0)))])⟩
    (.one ⟨some s29, none, (.mv (.t s31))⟩
    (.one ⟨some s32, none, (.ext (.t s29) 0)⟩
    (.one ⟨some s33, none, (.ext (.t s29) 1)⟩
    (.one ⟨some s34, none, (.ext (.t s29) 2)⟩
    (.one ⟨some s9, none, (.mv (.t s32))⟩
    (.one ⟨some s10, none, (.mv (.t s33))⟩
    (.one ⟨some s11, none, (.mv (.t s34))⟩
    .done))))))))))
  (.seq (.reg (.one ⟨some s35, none, (.mv (.t s11))⟩
    (.one ⟨some s36, none, (.bin false .eql (.t s35) (.c (.v (.int .i64 6))))⟩
    .done)))
  (.cond (.t s36) (.seq (.reg (.one ⟨some s37, none, (.build [(.v (.int .i64 0)), (.slice 1 [] .full), (.slice 1 [] .full)] [])⟩
    (.one ⟨some s38, none, (.mv (.t s11))⟩
    (.one ⟨none, none, (.store 3 (.t s6) (.t s37))⟩
    (.one ⟨some s7, none, (.mv (.t s38))⟩
    .done)))))
  .ret) .skip)))
  (.seq (.reg (.one ⟨some s12, none, (.new [(.v (.int .i64 0)), (.slice 1 [] .full), (.slice 1 [] .full)])⟩
    .done))
  (.seq (.reg (.one ⟨some s13, none, (.mv (.c (.v (.int .i64 0))))⟩
    .done))
  (.seq (.label 0)
  (.seq (.reg (.one ⟨some s40, none, (.mv (.t s0))⟩
    (.one ⟨some s41, none, (.callq 17 [(.t s40)])⟩
    (.one ⟨some s39, none, (.mv (.t s41))⟩
    (.one ⟨some s42, none, (.ext (.t s39) 0)⟩
    (.one ⟨some s43, none, (.ext (.t s39) 1)⟩
    (.one ⟨some s44, none, (.ext (.t s39) 2)⟩
    (.one ⟨some s14, none, (.mv (.t s42))⟩
    (.one ⟨some s15, none, (.mv (.t s43))⟩
    (.one ⟨some s16, none, (.mv (.t s44))⟩
    .done))))))))))
  (.seq (.reg (.one ⟨some s45, none, (.mv (.t s1))⟩
    (.one ⟨some s46, none, (.mv (.t s13))⟩
    (.one ⟨some s47, none, (.bin false .sub (.t s45) (.t s46))⟩
    (.one ⟨some s48, none, (.faddr 1 (.t s12))⟩
    (.one ⟨some s49, none, (.load none (.t s48))⟩
    (.one ⟨some s50, none, (.len false (.t s49))⟩
    (.one ⟨some s51, none, (.mv (.t s2))⟩
    (.one ⟨some s52, none, (.callq 72 [(.t s50), (.t s51)])⟩
    (.one ⟨some s53, none, (.bin false .sub (.t s47) (.t s52))⟩
    (.one ⟨some s17, none, (.mv (.t s53))⟩
    .done)))))))))))
  (.seq (.seq (.reg (.one ⟨some s54, none, (.mv (.t s15))⟩
    (.one ⟨some s55, none, (.len false (.t s54))⟩
    (.one ⟨some s56, none, (.bin false .eql (.t s55) (.c (.v (.int .i64 0))))⟩
    (.one ⟨some s57, none, (.mv (.t s56))⟩
    (.one ⟨some s58, some (s57, false), (.mv (.t s17))⟩
    (.one ⟨some s59, some (s57, false), (.bin false .lss (.t s58) (.c (.v (.int .i64 1))))⟩
    (.one ⟨some s60, none, (.pick (.t s57) (.c (.v (.bool true))) (.t s59))⟩
    (.one ⟨some s61, none, (.mv (.t s60))⟩
    (.one ⟨some s62, some (s61, false), (.faddr 1 (.t s12))⟩
    (.one ⟨some s63, some (s61, false), (.load none (.t s62))⟩
    (.one ⟨some s64, some (s61, false), (.len false (.t s63))⟩
    (.one ⟨some s65, some (s61, false), (.bin false .eql (.t s64) (.c (.v (.int .i64 24))))⟩
    (.one ⟨some s66, none, (.pick (.t s61) (.c (.v (.bool true))) (.t s65))⟩
    .done))))))))))))))
  (.cond (.t s66) (.goto 1) .skip))
  (.seq (.seq (.reg (.one ⟨some s67, none, (.mv (.t s16))⟩
    .done))
  (.cond (.t s67) (.reg (.one ⟨some s68, none, (.faddr 0 (.t s12))⟩
    (.one ⟨some s69, none, (.load none (.t s68))⟩
    (.one ⟨some s70, none, (.bin false .or (.t s69) (.c (.v (.int .i64 2))))⟩
    (.one ⟨some s71, none, (.faddr 0 (.t s12))⟩
    (.one ⟨none, none, (.store 1 (.t s71) (.t s70))⟩
    .done)))))) .skip))
  (.seq (.seq (.reg (.one ⟨some s73, none, (.mv (.t s0))⟩
    (.one ⟨some s74, none, (.mv (.t s17))⟩
    (.one ⟨some s75, none, (.mv (.t s15))⟩
    (.one ⟨some s76, none, (.len false (.t s75))⟩
    (.one ⟨some s77, none, (.mxmn false (.t s74) (.t s76))⟩
    (.one ⟨some s78, none, (.call 71 [(.t s73), (.t s77)])⟩
    (.one ⟨some s72, none, (.mv (.t s78))⟩
    (.one ⟨some s79, none, (.ext (.t s72) 0)⟩
    (.one ⟨some s80, none, (.ext (.t s72) 1)⟩
    (.one ⟨some s81, none, (.ext (.t s72) 2)⟩
    (.one ⟨some s18, none, (.mv (.t s79))⟩
    (.one ⟨some s19, none, (.mv (.t s80))⟩
    (.one ⟨some s20, none, (.mv (.t s81))⟩
    .done))))))))))))))
  (.seq (.reg (.one ⟨some s82, none, (.mv (.t s20))⟩
    (.one ⟨some s83, none, (.bin false .eql (.t s82) (.c (.v (.int .i64 0))))⟩
    .done)))
  (.cond (.t s83) (.seq (.reg (.one ⟨some s84, none, (.faddr 1 (.t s12))⟩
    (.one ⟨some s85, none, (.load none (.t s84))⟩
    (.one ⟨some s86, none, (.mv (.t s18))⟩
    (.one ⟨some s87, none, (.row 1 [(.t s86)])⟩
    (.one ⟨some s88, none, (.app 1 24 (.t s85) (.t s87))⟩
    (.one ⟨some s89, none, (.faddr 1 (.t s12))⟩
    (.one ⟨none, none, (.store 1 (.t s89) (.t s88))⟩
    .done))))))))
  (.seq (.reg (.one ⟨some s90, none, (.mv (.t s13))⟩
    (.one ⟨some s91, none, (.mv (.t s18))⟩
    (.one ⟨some s92, none, (.len false (.t s91))⟩
    (.one ⟨some s93, none, (.bin false .add (.t s90) (.t s92))⟩
    (.one ⟨some s13, none, (.mv (.t s93))⟩
    .done))))))
  (.seq (.seq (.reg (.one ⟨some s94, none, (.mv (.t s19))⟩
    .done))
  (.cond (.t s94) (.seq (.reg (.one ⟨some s95, none, (.faddr 2 (.t s12))⟩
    (.one ⟨some s96, none, (.load none (.t s95))⟩
    (.one ⟨some s97, none, (.mv (.t s14))⟩
    (.one ⟨some s98, none, (.row 1 [(.t s97)])⟩
    (.one ⟨some s99, none, (.app 1 8 (.t s96) (.t s98))⟩
    (.one ⟨some s100, none, (.faddr 2 (.t s12))⟩
    (.one ⟨none, none, (.store 1 (.t s100) (.t s99))⟩
    .done))))))))
  (.goto 0)) .skip))
  (.reg (.one ⟨some s101, none, (.faddr 0 (.t s12))⟩
    (.one ⟨some s102, none, (.load none (.t s101))⟩
    (.one ⟨some s103, none, (.bin false .or (.t s102) (.c (.v (.int .i64 1))))⟩
    (.one ⟨some s104, none, (.faddr 0 (.t s12))⟩
    (.one ⟨none, none, (.store 1 (.t s104) (.t s103))⟩
    .done))))))))) .skip)))
  (.seq (.label 1)
  (.seq (.seq (.reg (.one ⟨some s105, none, (.faddr 1 (.t s12))⟩
    (.one ⟨some s106, none, (.load none (.t s105))⟩
    (.one ⟨some s107, none, (.len false (.t s106))⟩
    (.one ⟨some s108, none, (.bin false .eql (.t s107) (.c (.v (.int .i64 0))))⟩
    .done)))))
  (.cond (.t s108) (.seq (.reg (.one ⟨some s109, none, (.build [(.v (.int .i64 0)), (.slice 1 [] .full), (.slice 1 [] .full)] [])⟩
    (.one ⟨none, none, (.store 3 (.t s6) (.t s109))⟩
    (.one ⟨some s7, none, (.mv (.c (.v (.int .i64 4))))⟩
    .done))))
  .ret) .skip))
  (.seq (.reg (.one ⟨some s110, none, (.load (some 3) (.t s12))⟩
    (.one ⟨none, none, (.store 3 (.t s6) (.t s110))⟩
    (.one ⟨some s7, none, (.mv (.c (.v (.int .i64 0))))⟩
    .done))))
  .ret)))))))))))))))⟩
theorem ok18 : compF Try.prog c18 Try.f18 = some ir18 := by kernel_rfl
theorem k_cut_Build {args : List AVal} {σ : AHeap} {Q : AVal → AHeap → Prop} (hl : Nat.ble args.length 111 = true) (h : argsK (Env.full 9) 0 args fun env => evC Try.prog c18 ir18.body env σ (retQ ir18 Q)) : ACalls Try.prog 18 args σ Q :=
  acalls_of Try.func18 ok18 rfl (Nat.le_of_ble_eq_true hl) h
/- cut.Bytes -/
def c19 : Cfg := ⟨qs, [], 36, []⟩
def ir19 : IFun := ⟨2, [.tmp s4],
  (.seq (.reg (.one ⟨some s2, none, (.box 3 (.t s0))⟩
    (.one ⟨some s4, none, (.mv (.c (.v (.int .i64 0))))⟩
    .done)))
  (.seq (.seq (.reg (.one ⟨some s8, none, (.mv (.t s1))⟩
    (.one ⟨some s9, none, (.callq 73 [(.t s8)])⟩
    (.one ⟨some s10, none, (.not (.t s9))⟩
    (.one ⟨some s11, none, (.mv (.t s10))⟩
    (.one ⟨some s12, some (s11, false), (.faddr 1 (.t s2))⟩
    (.one ⟨some s13, some (s11, false), (.load none (.t s12))⟩
    (.one ⟨some s14, some (s11, false), (.len false (.t s13))⟩
    (.one ⟨some s15, some (s11, false), (.bin false .eql (.t s14) (.c (.v (.int .i64 0))))⟩
    (.one ⟨some s16, none, (.pick (.t s11) (.c (.v (.bool true))) (.t s15))⟩
    .done))))))))))
  (.cond (.t s16) (.seq (.reg (.one ⟨some s4, none, (.mv (.c (.v (.int .i64 0))))⟩
    .done))
  .ret) .skip))
  (.seq (.reg (.one ⟨some s17, none, (.faddr 1 (.t s2))⟩
    (.one ⟨some s18, none, (.load none (.t s17))⟩
    (.one ⟨some s19, none, (.len false (.t s18))⟩
    (.one ⟨some s20, none, (.bin false .sub (.t s19) (.c (.v (.int .i64 1))))⟩
    (.one ⟨some s21, none, (.mv (.t s1))⟩
    (.one ⟨some s22, none, (.callq 72 [(.t s20), (.t s21)])⟩
    (.one ⟨some s5, none, (.mv (.t s22))⟩
    .done))))))))
  (.seq (.seq (.reg (.one ⟨some s23, none, (.faddr 1 (.t s2))⟩
    (.one ⟨some s24, none, (.load none (.t s23))⟩
    (.one ⟨some s25, none, (.len false (.t s24))⟩
    (.one ⟨some s26, none, (.mv (.c (.v (.int .i64 0))))⟩
    .done)))))
  (.block 0 (.loop (.seq (.reg (.one ⟨some s27, none, (.bin false .lss (.t s26) (.t s25))⟩
    .done))
  (.seq (.cond (.t s27) .skip (.exit 0))
  (.seq (.block 1 (.seq (.reg (.one ⟨some s28, none, (.iaddr 1 (.t s24) (.t s26))⟩
    (.one ⟨some s29, none, (.load none (.t s28))⟩
    (.one ⟨some s7, none, (.mv (.t s29))⟩
    .done))))
  (.reg (.one ⟨some s30, none, (.mv (.t s5))⟩
    (.one ⟨some s31, none, (.mv (.t s7))⟩
    (.one ⟨some s32, none, (.len false (.t s31))⟩
    (.one ⟨some s33, none, (.bin false .add (.t s30) (.t s32))⟩
    (.one ⟨some s5, none, (.mv (.t s33))⟩
    .done))))))))
  (.reg (.one ⟨some s34, none, (.bin false .add (.t s26) (.c (.v (.int .i64 1))))⟩
    (.one ⟨some s26, none, (.mv (.t s34))⟩
    .done)))))))))
  (.seq (.reg (.one ⟨some s35, none, (.mv (.t s5))⟩
    (.one ⟨some s4, none, (.mv (.t s35))⟩
    .done)))
  .ret)))))⟩
theorem ok19 : compF Try.prog c19 Try.f19 = some ir19 := by kernel_rfl
theorem k_cut_Bytes {args : List AVal} {σ : AHeap} {Q : AVal → AHeap → Prop} (hl : Nat.ble args.length 36 = true) (h : argsK (Env.full 9) 0 args fun env => evC Try.prog c19 ir19.body env σ (retQ ir19 Q)) : ACalls Try.prog 19 args σ Q :=
  acalls_of Try.func19 ok19 rfl (Nat.le_of_ble_eq_true hl) h
/- cut.Fits -/
def c22 : Cfg := ⟨qs, [], 21, []⟩
def ir22 : IFun := ⟨3, [.tmp s6],
  (.seq (.reg (.one ⟨some s6, none, (.mv (.c (.v (.bool false))))⟩
    .done))
  (.seq (.reg (.one ⟨some s7, none, (.mv (.t s0))⟩
    (.one ⟨some s8, none, (.mv (.t s1))⟩
    (.one ⟨some s9, none, (.mv (.t s2))⟩
    (.one ⟨some s10, none, (.callq 70 [(.t s7), (.t s8), (.t s9)])⟩
    (.one ⟨some s11, none, (.bin false .eql (.t s10) (.c (.v (.int .i64 0))))⟩
    (.one ⟨some s12, none, (.mv (.t s11))⟩
    (.one ⟨some s13, some (s12, true), (.mv (.t s1))⟩
    (.one ⟨some s14, some (s12, true), (.bin false .gtr (.t s13) (.c (.v (.int .i64 0))))⟩
    (.one ⟨some s15, none, (.pick (.t s12) (.t s14) (.c (.v (.bool false))))⟩
    (.one ⟨some s16, none, (.mv (.t s15))⟩
    (.one ⟨some s17, some (s16, true), (.mv (.t s0))⟩
    (.one ⟨some s18, some (s16, true), (.callq 20 [(.t s17)])⟩
    (.one ⟨some s19, some (s16, true), (.bin false .gtr (.t s18) (.c (.v (.int .i64 0))))⟩
    (.one ⟨some s20, none, (.pick (.t s16) (.t s19) (.c (.v (.bool false))))⟩
    (.one ⟨some s6, none, (.mv (.t s20))⟩
    .done))))))))))))))))
  .ret))⟩
theorem ok22 : compF Try.prog c22 Try.f22 = some ir22 := by kernel_rfl
theorem k_cut_Fits {args : List AVal} {σ : AHeap} {Q : AVal → AHeap → Prop} (hl : Nat.ble args.length 21 = true) (h : argsK (Env.full 9) 0 args fun env => evC Try.prog c22 ir22.body env σ (retQ ir22 Q)) : ACalls Try.prog 22 args σ Q :=
  acalls_of Try.func22 ok22 rfl (Nat.le_of_ble_eq_true hl) h
/- cut.ask -/
def c70 : Cfg := ⟨qs, [], 21, []⟩
def ir70 : IFun := ⟨3, [.tmp s6],
  (.seq (.reg (.one ⟨some s6, none, (.mv (.c (.v (.int .i64 0))))⟩
    .done))
  (.seq (.block 0 (.seq (.reg (.one ⟨some s8, none, (.mv (.t s0))⟩
    (.one ⟨some s9, none, (.eqNil 1 false (.t s8))⟩
    (.one ⟨some s7, none, (.mv (.t s9))⟩
    .done))))
  (.cond (.t s7) (.seq (.reg (.one ⟨some s6, none, (.mv (.c (.v (.int .i64 6))))⟩
    .done))
  .ret) (.seq (.reg (.one ⟨some s11, none, (.mv (.t s2))⟩
    (.one ⟨some s12, none, (.callq 73 [(.t s11)])⟩
    (.one ⟨some s13, none, (.not (.t s12))⟩
    (.one ⟨some s10, none, (.mv (.t s13))⟩
    .done)))))
  (.cond (.t s10) (.seq (.reg (.one ⟨some s6, none, (.mv (.c (.v (.int .i64 9))))⟩
    .done))
  .ret) (.seq (.reg (.one ⟨some s15, none, (.mv (.t s1))⟩
    (.one ⟨some s16, none, (.bin false .lss (.t s15) (.c (.v (.int .i64 0))))⟩
    (.one ⟨some s17, none, (.mv (.t s16))⟩
    (.one ⟨some s18, some (s17, false), (.mv (.t s1))⟩
    (.one ⟨some s19, some (s17, false), (.bin false .gtr (.t s18) (.c (.v (.int .i64 4000))))⟩
    (.one ⟨some s20, none, (.pick (.t s17) (.c (.v (.bool true))) (.t s19))⟩
    (.one ⟨some s14, none, (.mv (.t s20))⟩
    .done))))))))
  (.cond (.t s14) (.seq (.reg (.one ⟨some s6, none, (.mv (.c (.v (.int .i64 1))))⟩
    .done))
  .ret) .skip)))))))
  (.seq (.reg (.one ⟨some s6, none, (.mv (.c (.v (.int .i64 0))))⟩
    .done))
  .ret)))⟩
theorem ok70 : compF Try.prog c70 Try.f70 = some ir70 := by kernel_rfl
theorem k_cut_ask {args : List AVal} {σ : AHeap} {Q : AVal → AHeap → Prop} (hl : Nat.ble args.length 21 = true) (h : argsK (Env.full 9) 0 args fun env => evC Try.prog c70 ir70.body env σ (retQ ir70 Q)) : ACalls Try.prog 70 args σ Q :=
  acalls_of Try.func70 ok70 rfl (Nat.le_of_ble_eq_true hl) h
/- cut.isWidth -/
def c73 : Cfg := ⟨qs, [], 9, []⟩
def ir73 : IFun := ⟨1, [.tmp s2],
  (.seq (.reg (.one ⟨some s2, none, (.mv (.c (.v (.bool false))))⟩
    .done))
  (.seq (.reg (.one ⟨some s3, none, (.mv (.t s0))⟩
    (.one ⟨some s4, none, (.bin false .eql (.t s3) (.c (.v (.int .i64 11))))⟩
    (.one ⟨some s5, none, (.mv (.t s4))⟩
    (.one ⟨some s6, some (s5, false), (.mv (.t s0))⟩
    (.one ⟨some s7, some (s5, false), (.bin false .eql (.t s6) (.c (.v (.int .i64 15))))⟩
    (.one ⟨some s8, none, (.pick (.t s5) (.c (.v (.bool true))) (.t s7))⟩
    (.one ⟨some s2, none, (.mv (.t s8))⟩
    .done))))))))
  .ret))⟩
theorem ok73 : compF Try.prog c73 Try.f73 = some ir73 := by kernel_rfl
theorem k_cut_isWidth {args : List AVal} {σ : AHeap} {Q : AVal → AHeap → Prop} (hl : Nat.ble args.length 9 = true) (h : argsK (Env.full 9) 0 args fun env => evC Try.prog c73 ir73.body env σ (retQ ir73 Q)) : ACalls Try.prog 73 args σ Q :=
  acalls_of Try.func73 ok73 rfl (Nat.le_of_ble_eq_true hl) h
end Go.Proofs.Ytnfdgccmpglbhaa
/-
  What is cut out of a queue.
-/
namespace Go.Proofs.Ytnfdgccmpglbhaa
set_option linter.unusedVariables false
set_option linter.unusedSimpArgs false
open Go Go.Am

abbrev u64s (t : Tok) (l : List Nat) : AVal := .slice 1 (l.map u64v) t
theorem Qu.cell {σ σb : AHeap} {id : Nat} {q : QS} (h : Qu σ id q σb) : QOk q ∧ ∃ τ tk, τ.map strip = q.ts ∧ σ id = some (.cells (qcells q τ tk)) := by
  obtain ⟨h1, hq, τ, tk, e, rfl⟩ := h
  exact ⟨hq, τ, tk, e, upd_same _ _ _⟩
theorem Qu.at {σ : AHeap} {id : Nat} {q : QS} {τ : List Txt} {tk : Tok} (hq : QOk q) (e : τ.map strip = q.ts) (h : σ id = some (.cells (qcells q τ tk))) : Qu σ id q (del σ id) := by
  refine ⟨del_same _ _, hq, τ, tk, e, ?_⟩
  funext j
  by_cases e : j = id
  · subst e; rw [upd_same]; exact h
  · rw [upd_ne _ _ e, del_ne _ e]
theorem qu_of {σ σb : AHeap} {id : Nat} {q : QS} {τ : List Txt} {tk : Tok} (hq : QOk q) (e : τ.map strip = q.ts) (h : σ id = some (.cells (qcells q τ tk))) (h1 : σb id = none) (hs : Sub σ σb) : ∃ σ', Sub σ σ' ∧ Qu σ' id q σb := by
  refine ⟨upd σb id (.cells (qcells q τ tk)), fun j o hj => ?_, h1, hq, τ, tk, e, rfl⟩
  by_cases e : j = id
  · subst e; rw [upd_same] at hj; rw [← hj]; exact h
  · rw [upd_ne _ _ e] at hj; exact hs _ _ hj
/-- What else is there stays. -/
theorem Qu.other {σ4 σc : AHeap} {id j : Nat} {q : QS} {o : AObj} (w : Qu σ4 id q (del σc id)) (hj : σc j = some o) (hne : j ≠ id) : σ4 j = some o := by
  obtain ⟨_, _, τ, tk, _, rfl⟩ := w
  rw [upd_ne _ _ hne, del_ne _ hne]; exact hj

theorem Qu.beside {σ σb : AHeap} {id pid : Nat} {q : QS} (o : AObj) (h : Qu σ id q σb) (hp : σ pid = none) : Qu (upd σ pid o) id q (upd σb pid o) := by
  obtain ⟨h1, hq, τ, tk, e, rfl⟩ := h
  have hne : id ≠ pid := fun k => by subst k; rw [upd_same] at hp; cases hp
  exact ⟨by rw [upd_ne _ _ hne]; exact h1, hq, τ, tk, e, upd_comm _ _ _ hne⟩
theorem Qu.below {σ σb : AHeap} {id j : Nat} {q : QS} {o : AObj} (h : Qu σ id q σb) (k : σb j = some o) : σ j = some o := by
  obtain ⟨h1, hq, τ, tk, e, rfl⟩ := h
  rw [upd_ne]; exact k
  intro e; subst e; rw [h1] at k; cases k
theorem Qu.tips {σ4 σc : AHeap} {id : Nat} {q : QS} {cs : List AVal} (w : Qu σ4 id q (del σc id)) (hc : σc id = some (.cells cs)) : ∀ t, σc t = some .tip → σ4 t = some .tip := by
  intro t ht
  have hne : t ≠ id := fun e => by subst e; rw [hc] at ht; cases ht
  exact w.other ht hne
def cutOkW (w : Int) : Bool := widthOk w
theorem cIsWidth (w : Int) (σ : AHeap) : ACalls Try.prog i_cut_isWidth [i64v w] σ fun v σ' => v = boolv (widthOk w) ∧ σ' = σ := by
  refine k_cut_isWidth rfl ?_
  ((conv => whnf); (repeat ((first | with_reducible refine abr_true rfl ?_ | with_reducible refine abr_false rfl ?_ | with_reducible refine abr_yes rfl ?_ | refine abr_yes (by decide) ?_ | refine abr_no (by decide) ?_ | with_reducible refine abr_same_ne ?_); (conv => whnf))))
  by_cases h : w = 11
  · subst h
    ((conv => whnf); (repeat ((first | with_reducible refine abr_true rfl ?_ | with_reducible refine abr_false rfl ?_ | with_reducible refine abr_yes rfl ?_ | refine abr_yes (by decide) ?_ | refine abr_no (by decide) ?_ | with_reducible refine abr_same_ne ?_); (conv => whnf))))
    exact aret_same ⟨rfl, rfl⟩
  · refine abr_no h ?_
    ((conv => whnf); (repeat ((first | with_reducible refine abr_true rfl ?_ | with_reducible refine abr_false rfl ?_ | with_reducible refine abr_yes rfl ?_ | refine abr_yes (by decide) ?_ | refine abr_no (by decide) ?_ | with_reducible refine abr_same_ne ?_); (conv => whnf))))
    refine aret_same ⟨?_, rfl⟩
    unfold widthOk
    rw [decide_eq_false h, Bool.false_or]
def askCut (room w : Int) : Int := if widthOk w = false then 9 else if room < 0 ∨ room > 4000 then 1 else 0
theorem cAsk (id : Nat) (room w : Int) (σ : AHeap) : ACalls Try.prog i_cut_ask [.ptr id 0, i64v room, i64v w] σ fun v σ' => v = i64v (askCut room w) ∧ σ' = σ := by
  refine k_cut_ask rfl ?_
  ((conv => whnf); (repeat ((first | with_reducible refine abr_true rfl ?_ | with_reducible refine abr_false rfl ?_ | with_reducible refine abr_yes rfl ?_ | refine abr_yes (by decide) ?_ | refine abr_no (by decide) ?_ | with_reducible refine abr_same_ne ?_); (conv => whnf))))
  refine acall (cIsWidth w _) ?_
  rintro _ σ_ ⟨rfl, e_⟩
  obtain rfl := e_.symm
  refine ⟨?_, Ext.refl _⟩
  ((conv => whnf); (repeat ((first | with_reducible refine abr_true rfl ?_ | with_reducible refine abr_false rfl ?_ | with_reducible refine abr_yes rfl ?_ | refine abr_yes (by decide) ?_ | refine abr_no (by decide) ?_ | with_reducible refine abr_same_ne ?_); (conv => whnf))))
  cases hw : widthOk w with
  | false =>
    ((conv => whnf); (repeat ((first | with_reducible refine abr_true rfl ?_ | with_reducible refine abr_false rfl ?_ | with_reducible refine abr_yes rfl ?_ | refine abr_yes (by decide) ?_ | refine abr_no (by decide) ?_ | with_reducible refine abr_same_ne ?_); (conv => whnf))))
    exact aret_same ⟨by unfold askCut; rw [if_pos hw], rfl⟩
  | true =>
    ((conv => whnf); (repeat ((first | with_reducible refine abr_true rfl ?_ | with_reducible refine abr_false rfl ?_ | with_reducible refine abr_yes rfl ?_ | refine abr_yes (by decide) ?_ | refine abr_no (by decide) ?_ | with_reducible refine abr_same_ne ?_); (conv => whnf))))
    by_cases h1 : room < 0
    · (repeat ((first | refine aload (by (repeat (first | with_reducible exact upd_same _ _ _ | assumption | rw [upd_ne _ _ (by first | assumption | (apply Ne.symm; assumption))]))) rfl ?_ | refine afit_i64 (by omega) ?_ | refine arem_nonneg (by omega) (by omega) ?_ | refine adiv_i64 (by omega) (by omega) ?_ | refine abr_yes (by omega) ?_ | refine abr_no (by omega) ?_ | refine amin ?_ | refine amax ?_ | refine afit_u64 (by omega) ?_ | refine afit_u8 (by omega) ?_ | rw [List.length_map]); ((conv => whnf); (repeat ((first | with_reducible refine abr_true rfl ?_ | with_reducible refine abr_false rfl ?_ | with_reducible refine abr_yes rfl ?_ | refine abr_yes (by decide) ?_ | refine abr_no (by decide) ?_ | with_reducible refine abr_same_ne ?_); (conv => whnf))))))
      exact aret_same ⟨by unfold askCut; rw [if_neg (by rw [hw]; simp), if_pos (.inl h1)], rfl⟩
    · by_cases h2 : room > 4000
      · (repeat ((first | refine aload (by (repeat (first | with_reducible exact upd_same _ _ _ | assumption | rw [upd_ne _ _ (by first | assumption | (apply Ne.symm; assumption))]))) rfl ?_ | refine afit_i64 (by omega) ?_ | refine arem_nonneg (by omega) (by omega) ?_ | refine adiv_i64 (by omega) (by omega) ?_ | refine abr_yes (by omega) ?_ | refine abr_no (by omega) ?_ | refine amin ?_ | refine amax ?_ | refine afit_u64 (by omega) ?_ | refine afit_u8 (by omega) ?_ | rw [List.length_map]); ((conv => whnf); (repeat ((first | with_reducible refine abr_true rfl ?_ | with_reducible refine abr_false rfl ?_ | with_reducible refine abr_yes rfl ?_ | refine abr_yes (by decide) ?_ | refine abr_no (by decide) ?_ | with_reducible refine abr_same_ne ?_); (conv => whnf))))))
        exact aret_same ⟨by unfold askCut; rw [if_neg (by rw [hw]; simp), if_pos (.inr h2)], rfl⟩
      · (repeat ((first | refine aload (by (repeat (first | with_reducible exact upd_same _ _ _ | assumption | rw [upd_ne _ _ (by first | assumption | (apply Ne.symm; assumption))]))) rfl ?_ | refine afit_i64 (by omega) ?_ | refine arem_nonneg (by omega) (by omega) ?_ | refine adiv_i64 (by omega) (by omega) ?_ | refine abr_yes (by omega) ?_ | refine abr_no (by omega) ?_ | refine amin ?_ | refine amax ?_ | refine afit_u64 (by omega) ?_ | refine afit_u8 (by omega) ?_ | rw [List.length_map]); ((conv => whnf); (repeat ((first | with_reducible refine abr_true rfl ?_ | with_reducible refine abr_false rfl ?_ | with_reducible refine abr_yes rfl ?_ | refine abr_yes (by decide) ?_ | refine abr_no (by decide) ?_ | with_reducible refine abr_same_ne ?_); (conv => whnf))))))
        exact aret_same ⟨by unfold askCut; rw [if_neg (by rw [hw]; simp), if_neg (by omega)], rfl⟩

/-- What is cut, behind what was cut. -/
abbrev Pc := Int × List (List UInt8) × List Nat
def leftC (room w : Int) (F : List (List UInt8)) : Int := room - total F - sizeV F.length w
def takenC (room w : Int) (q : QS) (F : List (List UInt8)) : Int := min (leftC room w F) (frontV q).2.1.length
def stopC (room w : Int) (q : QS) (F : List (List UInt8)) : Bool := decide ((frontV q).2.1.length = 0 ∨ leftC room w F < 1 ∨ F.length = 24)
def fiC (q : QS) (fi : Int) : Int := if (frontV q).2.2 = true then bitsOp .or .i64 fi 2 else fi
def cutGo (room w : Int) : Nat → QS → Pc → QS × Pc
  | 0, q, p => (q, p)
  | n + 1, q, p =>
    if stopC room w q p.2.1 = true then (q, p)
    else if takeAll q (takenC room w q p.2.1) = true then cutGo room w n (takeQ q (takenC room w q p.2.1)) (fiC q p.1, p.2.1 ++ [takeB q (takenC room w q p.2.1)], p.2.2 ++ [(frontV q).1])
    else (takeQ q (takenC room w q p.2.1), (bitsOp .or .i64 (fiC q p.1) 1, p.2.1 ++ [takeB q (takenC room w q p.2.1)], p.2.2))
def none14 : Pc := (0, [], [])
def cutR (room w : Int) (q : QS) : QS × Pc := cutGo room w (q.ts.length + 1) q none14
def cutCode (room w : Int) (q : QS) : Int := if askCut room w ≠ 0 then askCut room w else if (cutR room w q).2.2.1.length = 0 then 4 else 0
def cutP (room w : Int) (q : QS) : Pc := if cutCode room w q = 0 then (cutR room w q).2 else none14
def cutQ (room w : Int) (q : QS) : QS := if askCut room w = 0 then (cutR room w q).1 else q
abbrev pieceV (p : Pc) : AVal := .agg [i64v p.1, lists .none p.2.1, u64s .none p.2.2]

theorem takeQ_zero (q : QS) : takeQ q 0 = q := by
  unfold takeQ takeCode
  split
  · rfl
  · rename_i t ts e; rw [e]; simp
theorem takeCode_zero (q : QS) : takeCode q 0 ≠ 6 := by
  unfold takeCode
  split
  · decide
  · simp
theorem front_ok {q : QS} (h : QOk q) : (frontV q).2.1.length ≤ 1000 ∧ ((frontV q).2.1.length = 0 ↔ q.ts = []) := by
  unfold frontV
  split
  · rename_i e; simp [e]
  · rename_i t ts e
    have h1 := h.each t (by rw [e]; exact List.mem_cons_self ..)
    have h2 := h.begun
    rw [e] at h2
    have h2 : q.taken < t.2.length := h2
    dsimp only
    rw [List.length_drop, e]
    simp
    omega
theorem take_ok {q : QS} (h : QOk q) {n : Int} (h0 : (frontV q).2.1.length ≠ 0) (h1 : 1 ≤ n) (h2 : n ≤ (frontV q).2.1.length) : takeCode q n = 0 ∧ (takeB q n).length = n.toNat ∧ ((takeAll q n = true → (takeQ q n).ts.length + 1 = q.ts.length) ∧ (takeQ q n).ts.length ≤ q.ts.length) := by
  unfold frontV at h0 h2
  split at h0
  · simp at h0
  · rename_i t ts e
    have hb := h.begun
    rw [e] at hb h2
    have hb : q.taken < t.2.length := hb
    dsimp only at h0 h2
    rw [List.length_drop] at h0 h2
    have hc : takeCode q n = 0 := by unfold takeCode; rw [e]; exact if_neg (by omega)
    have eB : takeB q n = (t.2.drop q.taken).take n.toNat := by unfold takeB; rw [hc, e]; rfl
    have eA : takeAll q n = decide (n = (t.2.length : Int) - q.taken) := by unfold takeAll; rw [hc, e]; rfl
    have eQ : takeQ q n = if n < (t.2.length : Int) - q.taken then ⟨q.room, q.ts, q.taken + n.toNat, q.last⟩ else ⟨q.room, ts, 0, q.last⟩ := by unfold takeQ; rw [hc, e]; rfl
    rw [eB, eA, eQ]
    refine ⟨hc, by rw [List.length_take, List.length_drop]; omega, fun hd => ?_, ?_⟩
    · have := of_decide_eq_true hd
      rw [if_neg (by omega), e]
      simp
    · split
      · exact Nat.le_refl _
      · rw [e]; simp
theorem askCut_ok {room w : Int} (h : askCut room w = 0) : (w = 11 ∨ w = 15) ∧ 0 ≤ room ∧ room ≤ 4000 := by
  unfold askCut at h
  split at h
  · cases h
  · rename_i h1
    split at h
    · cases h
    · have : widthOk w = true := by simpa using h1
      exact ⟨widthOk_iff.1 this, by omega, by omega⟩
theorem VLe.agg {xs ys : List AVal} (h : ∀ κ vs, RepL κ xs vs → RepL κ ys vs) : VLe (.agg xs) (.agg ys) := fun κ v k => by
  cases k with
  | agg r => exact .agg (h _ _ r)
theorem aret_piece {a : AVal} {l m : List AVal} {t u : Tok} {s1 s2 : Nat} {c : AVal} {σ σ2 : AHeap} {Q : AVal → AHeap → Prop} (hs : Sub σ σ2) (h : Q (.tup [.agg [a, .slice s1 l .none, .slice s2 m .none], c]) σ2) : ARet (.tup [.agg [a, .slice s1 l t, .slice s2 m u], c]) σ Q :=
  aret (VLe.tup (VLe.cons (VLe.agg (VLe.cons (VLe.refl _) (VLe.cons (VLe.slice _ _ _) (VLe.cons (VLe.slice _ _ _) VLe.nil)))) fun _ _ h => h)) hs h

set_option maxRecDepth 20000 in
set_option maxHeartbeats 2000000 in
theorem cBuild (id : Nat) (room w : Int) (q : QS) (σ σb : AHeap) (h : Qu σ id q σb) : ACalls Try.prog i_cut_Build [.ptr id 0, i64v room, i64v w] σ fun v σ' => v = .tup [pieceV (cutP room w q), i64v (cutCode room w q)] ∧ Qu σ' id (cutQ room w q) σb := by
  have h1 := h.1
  have hsb := h.sub
  refine k_cut_Build rfl ?_
  ((conv => whnf); (repeat ((first | with_reducible refine abr_true rfl ?_ | with_reducible refine abr_false rfl ?_ | with_reducible refine abr_yes rfl ?_ | refine abr_yes (by decide) ?_ | refine abr_no (by decide) ?_ | with_reducible refine abr_same_ne ?_); (conv => whnf))))
  refine anew rfl fun rid hrid => ?_
  have hidr : id ≠ rid := fun e => by subst e; obtain ⟨_, τ, tk, _, k⟩ := h.cell; rw [k] at hrid; cases hrid
  have hbr : σb rid = none := sub_none hsb hrid
  obtain ⟨σ0, hσ0⟩ : ∃ σ0, σ0 = upd σ rid (.cells [i64v 0, lists .full [], u64s .full []]) := ⟨_, rfl⟩
  have hr0 : σ0 rid = some (.cells [i64v 0, lists .full [], u64s .full []]) := by rw [hσ0]; exact upd_same _ _ _
  have hs0 : Sub σ0 σb := by rw [hσ0]; exact (Sub.upd_fresh _ hrid).trans hsb
  have hs00 : Sub σ0 σ := by rw [hσ0]; exact Sub.upd_fresh _ hrid
  have hq0 : QOk q ∧ ∃ τ tk, τ.map strip = q.ts ∧ σ0 id = some (.cells (qcells q τ tk)) := by
    obtain ⟨hq, τ, tk, e, k⟩ := h.cell
    exact ⟨hq, τ, tk, e, by rw [hσ0, upd_ne _ _ hidr]; exact k⟩
  rw [show upd σ rid (.cells [AVal.v (.int .i64 0), .slice 1 [] .full, .slice 1 [] .full]) = σ0 from hσ0.symm]
  clear hσ0
  ((conv => whnf); (repeat ((first | with_reducible refine abr_true rfl ?_ | with_reducible refine abr_false rfl ?_ | with_reducible refine abr_yes rfl ?_ | refine abr_yes (by decide) ?_ | refine abr_no (by decide) ?_ | with_reducible refine abr_same_ne ?_); (conv => whnf))))
  refine ascope' (α := Nat × Nat × QS × Pc × Tok × Tok × AHeap) (fun x => [(s12, .ptr x.2.1 0), (s13, i64v (total x.2.2.2.1.2.1))]) (fun x => x.2.2.2.2.2.2) (fun x => x.1)
    (fun x => askCut room w = 0 ∧ total x.2.2.2.1.2.1 ≤ 4000 ∧ x.2.2.2.1.2.1.length ≤ 24 ∧ x.2.2.2.1.2.2.length ≤ x.2.2.2.1.2.1.length ∧ QOk x.2.2.1 ∧ (∃ τ tk, τ.map strip = x.2.2.1.ts ∧ x.2.2.2.2.2.2 id = some (.cells (qcells x.2.2.1 τ tk))) ∧
      x.2.2.2.2.2.2 x.2.1 = some (.cells [i64v x.2.2.2.1.1, lists x.2.2.2.2.1 x.2.2.2.1.2.1, u64s x.2.2.2.2.2.1 x.2.2.2.1.2.2]) ∧ x.2.2.2.2.2.2 rid = some (.cells [i64v 0, lists .full [], u64s .full []]) ∧
      id ≠ x.2.1 ∧ rid ≠ x.2.1 ∧ Tok2 x.2.2.2.2.2.2 σb x.2.2.2.2.1 x.2.2.2.2.2.1 ∧ Sub x.2.2.2.2.2.2 σb ∧ σb x.2.1 = none ∧
      ((x.1 = 0 ∧ cutGo room w (x.2.2.1.ts.length + 1) x.2.2.1 x.2.2.2.1 = cutR room w q) ∨ (x.1 = 1 ∧ (x.2.2.1, x.2.2.2.1) = cutR room w q)))
    (fun x => if x.1 = 0 then x.2.2.1.ts.length + 1 else 0) ?_ ?_
  · ((conv => whnf); (repeat ((first | with_reducible refine abr_true rfl ?_ | with_reducible refine abr_false rfl ?_ | with_reducible refine abr_yes rfl ?_ | refine abr_yes (by decide) ?_ | refine abr_no (by decide) ?_ | with_reducible refine abr_same_ne ?_); (conv => whnf))))
    intro hlab
    ((conv => whnf); (repeat ((first | with_reducible refine abr_true rfl ?_ | with_reducible refine abr_false rfl ?_ | with_reducible refine abr_yes rfl ?_ | refine abr_yes (by decide) ?_ | refine abr_no (by decide) ?_ | with_reducible refine abr_same_ne ?_); (conv => whnf))))
    refine acall (cAsk id room w _) ?_
    rintro _ σ_ ⟨rfl, e_⟩
    obtain rfl := e_.symm
    refine ⟨?_, Ext.refl _⟩
    ((conv => whnf); (repeat ((first | with_reducible refine abr_true rfl ?_ | with_reducible refine abr_false rfl ?_ | with_reducible refine abr_yes rfl ?_ | refine abr_yes (by decide) ?_ | refine abr_no (by decide) ?_ | with_reducible refine abr_same_ne ?_); (conv => whnf))))
    by_cases ha : askCut room w = 0
    · refine abr_no (fun k => k ha) ?_
      ((conv => whnf); (repeat ((first | with_reducible refine abr_true rfl ?_ | with_reducible refine abr_false rfl ?_ | with_reducible refine abr_yes rfl ?_ | refine abr_yes (by decide) ?_ | refine abr_no (by decide) ?_ | with_reducible refine abr_same_ne ?_); (conv => whnf))))
      obtain ⟨hq, τ, tk, hτ, hc⟩ := hq0
      refine acall (qTake id q 0 σ0 _ (Qu.at hq hτ hc)) ?_
      rintro _ σ1 ⟨rfl, w1⟩
      rw [takeQ_zero] at w1
      ((conv => whnf); (repeat ((first | with_reducible refine abr_true rfl ?_ | with_reducible refine abr_false rfl ?_ | with_reducible refine abr_yes rfl ?_ | refine abr_yes (by decide) ?_ | refine abr_no (by decide) ?_ | with_reducible refine abr_same_ne ?_); (conv => whnf))))
      refine abr_no (takeCode_zero q) ?_
      ((conv => whnf); (repeat ((first | with_reducible refine abr_true rfl ?_ | with_reducible refine abr_false rfl ?_ | with_reducible refine abr_yes rfl ?_ | refine abr_yes (by decide) ?_ | refine abr_no (by decide) ?_ | with_reducible refine abr_same_ne ?_); (conv => whnf))))
      have hr1 := w1.other hr0 (Ne.symm hidr)
      have hs1 : Sub σ1 σb := w1.sub.trans (sub_del hs0 h1)
      obtain ⟨_, τ1, tk1, hτ1, hc1⟩ := w1.cell
      refine anew rfl fun pid hpid => ?_
      have n1 : id ≠ pid := fun e => by subst e; rw [hc1] at hpid; cases hpid
      have n2 : rid ≠ pid := fun e => by subst e; rw [hr1] at hpid; cases hpid
      ((conv => whnf); (repeat ((first | with_reducible refine abr_true rfl ?_ | with_reducible refine abr_false rfl ?_ | with_reducible refine abr_yes rfl ?_ | refine abr_yes (by decide) ?_ | refine abr_no (by decide) ?_ | with_reducible refine abr_same_ne ?_); (conv => whnf))))
      refine hlab _ (fun _ _ _ h => h) _ _ _ _ ⟨(0, pid, q, none14, .full, .full, upd σ1 pid (.cells [i64v 0, lists .full [], u64s .full []])), rfl, ⟨ha, Nat.zero_le _, Nat.zero_le _, Nat.zero_le _, hq, ⟨τ1, tk1, hτ1, by dsimp only; rw [upd_ne _ _ n1]; exact hc1⟩, upd_same _ _ _, by dsimp only; rw [upd_ne _ _ n2]; exact hr1, n1, n2, .full _ _, sub_upd _ hs1 (sub_none hs1 hpid), sub_none hs1 hpid, .inl ⟨rfl, rfl⟩⟩, rfl, Sub.refl _, ?_⟩
      ((conv => whnf); (repeat ((first | with_reducible refine abr_true rfl ?_ | with_reducible refine abr_false rfl ?_ | with_reducible refine abr_yes rfl ?_ | refine abr_yes (by decide) ?_ | refine abr_no (by decide) ?_ | with_reducible refine abr_same_ne ?_); (conv => whnf))))
      (repeat' first | with_reducible exact EnvLe.refl _ | (refine EnvLe.node ?_ (by first | exact Or.inl rfl | exact Or.inr (Or.inl rfl) | exact Or.inr (Or.inr ⟨nofun, VLe.slice _ _ _⟩)) ?_))
    · refine abr_yes ha ?_
      ((conv => whnf); (repeat ((first | with_reducible refine abr_true rfl ?_ | with_reducible refine abr_false rfl ?_ | with_reducible refine abr_yes rfl ?_ | refine abr_yes (by decide) ?_ | refine abr_no (by decide) ?_ | with_reducible refine abr_same_ne ?_); (conv => whnf))))
      refine astore (xs := [i64v 0, lists .full [], u64s .full []]) (l := [i64v 0, lists .full [], u64s .full []]) hr0 (Nat.le_of_ble_eq_true rfl) rfl rfl ?_
      ((conv => whnf); (repeat ((first | with_reducible refine abr_true rfl ?_ | with_reducible refine abr_false rfl ?_ | with_reducible refine abr_yes rfl ?_ | refine abr_yes (by decide) ?_ | refine abr_no (by decide) ?_ | with_reducible refine abr_same_ne ?_); (conv => whnf))))
      refine aloads (l := [i64v 0, lists .full [], u64s .full []]) (upd_same _ _ _) (by exact Nat.le_refl 3) rfl ?_
      ((conv => whnf); (repeat ((first | with_reducible refine abr_true rfl ?_ | with_reducible refine abr_false rfl ?_ | with_reducible refine abr_yes rfl ?_ | refine abr_yes (by decide) ?_ | refine abr_no (by decide) ?_ | with_reducible refine abr_same_ne ?_); (conv => whnf))))
      refine aret_piece (sub_upd _ hs00 hrid) ⟨?_, ?_⟩
      · unfold cutP cutCode; rw [if_pos ha, if_neg ha]; rfl
      · unfold cutQ; rw [if_neg ha]; exact h
  · rintro ⟨lb, pid, qn, ⟨fi, F, D⟩, ta, tb, σc⟩ ⟨hask, hF, hF24, hD24, hqn, ⟨τ, tk, hτ, hc⟩, hp, hr, n1, n2, htok, hs, hpb, hlb⟩
    dsimp only at hF hF24 hD24 hqn hτ hc hp hr n1 n2 htok hs hpb hlb ⊢
    obtain ⟨hw, hr1, hr2⟩ := askCut_ok hask
    have hsz := sizeV_range (F.length : Int) w
    obtain ⟨hfl, hf0⟩ := front_ok hqn
    rcases hlb with ⟨rfl, hgo⟩ | ⟨rfl, hR⟩
    · refine ⟨_, rfl, ?_⟩
      ((conv => whnf); (repeat ((first | with_reducible refine abr_true rfl ?_ | with_reducible refine abr_false rfl ?_ | with_reducible refine abr_yes rfl ?_ | refine abr_yes (by decide) ?_ | refine abr_no (by decide) ?_ | with_reducible refine abr_same_ne ?_); (conv => whnf))))
      intro hlab
      ((conv => whnf); (repeat ((first | with_reducible refine abr_true rfl ?_ | with_reducible refine abr_false rfl ?_ | with_reducible refine abr_yes rfl ?_ | refine abr_yes (by decide) ?_ | refine abr_no (by decide) ?_ | with_reducible refine abr_same_ne ?_); (conv => whnf))))
      refine acall (qFront id qn _ _ (Qu.at hqn hτ hc)) ?_
      rintro _ σ_ ⟨rfl, e_⟩
      obtain rfl := e_.symm
      refine ⟨?_, Ext.refl _⟩
      ((conv => whnf); (repeat ((first | with_reducible refine abr_true rfl ?_ | with_reducible refine abr_false rfl ?_ | with_reducible refine abr_yes rfl ?_ | refine abr_yes (by decide) ?_ | refine abr_no (by decide) ?_ | with_reducible refine abr_same_ne ?_); (conv => whnf))))
      refine afit_i64 (by omega) ?_
      ((conv => whnf); (repeat ((first | with_reducible refine abr_true rfl ?_ | with_reducible refine abr_false rfl ?_ | with_reducible refine abr_yes rfl ?_ | refine abr_yes (by decide) ?_ | refine abr_no (by decide) ?_ | with_reducible refine abr_same_ne ?_); (conv => whnf))))
      refine aload hp rfl ?_
      ((conv => whnf); (repeat ((first | with_reducible refine abr_true rfl ?_ | with_reducible refine abr_false rfl ?_ | with_reducible refine abr_yes rfl ?_ | refine abr_yes (by decide) ?_ | refine abr_no (by decide) ?_ | with_reducible refine abr_same_ne ?_); (conv => whnf))))
      rw [List.length_map]
      refine acall (lSize (F.length : Int) w _) ?_
      rintro _ σ_ ⟨rfl, e_⟩
      obtain rfl := e_.symm
      refine ⟨?_, Ext.refl _⟩
      ((conv => whnf); (repeat ((first | with_reducible refine abr_true rfl ?_ | with_reducible refine abr_false rfl ?_ | with_reducible refine abr_yes rfl ?_ | refine abr_yes (by decide) ?_ | refine abr_no (by decide) ?_ | with_reducible refine abr_same_ne ?_); (conv => whnf))))
      refine afit_i64 (by omega) ?_
      ((conv => whnf); (repeat ((first | with_reducible refine abr_true rfl ?_ | with_reducible refine abr_false rfl ?_ | with_reducible refine abr_yes rfl ?_ | refine abr_yes (by decide) ?_ | refine abr_no (by decide) ?_ | with_reducible refine abr_same_ne ?_); (conv => whnf))))
      rw [List.length_map]
      rw [cutGo] at hgo
      have hstop : stopC room w qn F = true → ∃ x' : Nat × Nat × QS × Pc × Tok × Tok × AHeap, x' = (1, pid, qn, (fi, F, D), ta, tb, σc) ∧ (qn, ((fi, F, D) : Pc)) = cutR room w q := fun hst => ⟨_, rfl, by rw [if_pos hst] at hgo; exact hgo⟩
      by_cases a1 : (frontV qn).2.1.length = 0
      · have hst : stopC room w qn F = true := decide_eq_true (.inl a1)
        rw [if_pos hst] at hgo
        (repeat ((first | refine aload (by (repeat (first | with_reducible exact upd_same _ _ _ | assumption | rw [upd_ne _ _ (by first | assumption | (apply Ne.symm; assumption))]))) rfl ?_ | refine afit_i64 (by omega) ?_ | refine arem_nonneg (by omega) (by omega) ?_ | refine adiv_i64 (by omega) (by omega) ?_ | refine abr_yes (by omega) ?_ | refine abr_no (by omega) ?_ | refine amin ?_ | refine amax ?_ | refine afit_u64 (by omega) ?_ | refine afit_u8 (by omega) ?_ | rw [List.length_map]); ((conv => whnf); (repeat ((first | with_reducible refine abr_true rfl ?_ | with_reducible refine abr_false rfl ?_ | with_reducible refine abr_yes rfl ?_ | refine abr_yes (by decide) ?_ | refine abr_no (by decide) ?_ | with_reducible refine abr_same_ne ?_); (conv => whnf))))))
        refine ⟨(1, pid, qn, (fi, F, D), ta, tb, σc), rfl, ⟨hask, hF, hF24, hD24, hqn, ⟨τ, tk, hτ, hc⟩, hp, hr, n1, n2, htok, hs, hpb, .inr ⟨rfl, hgo⟩⟩, by dsimp only; simp, Sub.refl _, ?_⟩
        ((conv => whnf); (repeat ((first | with_reducible refine abr_true rfl ?_ | with_reducible refine abr_false rfl ?_ | with_reducible refine abr_yes rfl ?_ | refine abr_yes (by decide) ?_ | refine abr_no (by decide) ?_ | with_reducible refine abr_same_ne ?_); (conv => whnf))))
        (repeat' first | with_reducible exact EnvLe.refl _ | (refine EnvLe.node ?_ (by first | exact Or.inl rfl | exact Or.inr (Or.inl rfl) | exact Or.inr (Or.inr ⟨nofun, VLe.slice _ _ _⟩)) ?_))
      by_cases a2 : leftC room w F < 1
      · have hst : stopC room w qn F = true := decide_eq_true (.inr (.inl a2))
        rw [if_pos hst] at hgo
        unfold leftC at a2
        (repeat ((first | refine aload (by (repeat (first | with_reducible exact upd_same _ _ _ | assumption | rw [upd_ne _ _ (by first | assumption | (apply Ne.symm; assumption))]))) rfl ?_ | refine afit_i64 (by omega) ?_ | refine arem_nonneg (by omega) (by omega) ?_ | refine adiv_i64 (by omega) (by omega) ?_ | refine abr_yes (by omega) ?_ | refine abr_no (by omega) ?_ | refine amin ?_ | refine amax ?_ | refine afit_u64 (by omega) ?_ | refine afit_u8 (by omega) ?_ | rw [List.length_map]); ((conv => whnf); (repeat ((first | with_reducible refine abr_true rfl ?_ | with_reducible refine abr_false rfl ?_ | with_reducible refine abr_yes rfl ?_ | refine abr_yes (by decide) ?_ | refine abr_no (by decide) ?_ | with_reducible refine abr_same_ne ?_); (conv => whnf))))))
        refine ⟨(1, pid, qn, (fi, F, D), ta, tb, σc), rfl, ⟨hask, hF, hF24, hD24, hqn, ⟨τ, tk, hτ, hc⟩, hp, hr, n1, n2, htok, hs, hpb, .inr ⟨rfl, hgo⟩⟩, by dsimp only; simp, Sub.refl _, ?_⟩
        ((conv => whnf); (repeat ((first | with_reducible refine abr_true rfl ?_ | with_reducible refine abr_false rfl ?_ | with_reducible refine abr_yes rfl ?_ | refine abr_yes (by decide) ?_ | refine abr_no (by decide) ?_ | with_reducible refine abr_same_ne ?_); (conv => whnf))))
        (repeat' first | with_reducible exact EnvLe.refl _ | (refine EnvLe.node ?_ (by first | exact Or.inl rfl | exact Or.inr (Or.inl rfl) | exact Or.inr (Or.inr ⟨nofun, VLe.slice _ _ _⟩)) ?_))
      by_cases a3 : F.length = 24
      · have hst : stopC room w qn F = true := decide_eq_true (.inr (.inr a3))
        rw [if_pos hst] at hgo
        unfold leftC at a2
        (repeat ((first | refine aload (by (repeat (first | with_reducible exact upd_same _ _ _ | assumption | rw [upd_ne _ _ (by first | assumption | (apply Ne.symm; assumption))]))) rfl ?_ | refine afit_i64 (by omega) ?_ | refine arem_nonneg (by omega) (by omega) ?_ | refine adiv_i64 (by omega) (by omega) ?_ | refine abr_yes (by omega) ?_ | refine abr_no (by omega) ?_ | refine amin ?_ | refine amax ?_ | refine afit_u64 (by omega) ?_ | refine afit_u8 (by omega) ?_ | rw [List.length_map]); ((conv => whnf); (repeat ((first | with_reducible refine abr_true rfl ?_ | with_reducible refine abr_false rfl ?_ | with_reducible refine abr_yes rfl ?_ | refine abr_yes (by decide) ?_ | refine abr_no (by decide) ?_ | with_reducible refine abr_same_ne ?_); (conv => whnf))))))
        refine ⟨(1, pid, qn, (fi, F, D), ta, tb, σc), rfl, ⟨hask, hF, hF24, hD24, hqn, ⟨τ, tk, hτ, hc⟩, hp, hr, n1, n2, htok, hs, hpb, .inr ⟨rfl, hgo⟩⟩, by dsimp only; simp, Sub.refl _, ?_⟩
        ((conv => whnf); (repeat ((first | with_reducible refine abr_true rfl ?_ | with_reducible refine abr_false rfl ?_ | with_reducible refine abr_yes rfl ?_ | refine abr_yes (by decide) ?_ | refine abr_no (by decide) ?_ | with_reducible refine abr_same_ne ?_); (conv => whnf))))
        (repeat' first | with_reducible exact EnvLe.refl _ | (refine EnvLe.node ?_ (by first | exact Or.inl rfl | exact Or.inr (Or.inl rfl) | exact Or.inr (Or.inr ⟨nofun, VLe.slice _ _ _⟩)) ?_))
      have hst : stopC room w qn F = false := decide_eq_false (by omega)
      rw [hst, if_neg (by simp)] at hgo
      have a2' := a2
      unfold leftC at a2'
      have hm1 : 1 ≤ takenC room w qn F := by unfold takenC; omega
      have hm2 : takenC room w qn F ≤ (frontV qn).2.1.length := by unfold takenC; omega
      have hm3 : takenC room w qn F ≤ leftC room w F := by unfold takenC; omega
      obtain ⟨k1, k2, k3, k4⟩ := take_ok hqn a1 hm1 hm2
      (repeat ((first | refine aload (by (repeat (first | with_reducible exact upd_same _ _ _ | assumption | rw [upd_ne _ _ (by first | assumption | (apply Ne.symm; assumption))]))) rfl ?_ | refine afit_i64 (by omega) ?_ | refine arem_nonneg (by omega) (by omega) ?_ | refine adiv_i64 (by omega) (by omega) ?_ | refine abr_yes (by omega) ?_ | refine abr_no (by omega) ?_ | refine amin ?_ | refine amax ?_ | refine afit_u64 (by omega) ?_ | refine afit_u8 (by omega) ?_ | rw [List.length_map]); ((conv => whnf); (repeat ((first | with_reducible refine abr_true rfl ?_ | with_reducible refine abr_false rfl ?_ | with_reducible refine abr_yes rfl ?_ | refine abr_yes (by decide) ?_ | refine abr_no (by decide) ?_ | with_reducible refine abr_same_ne ?_); (conv => whnf))))))
      obtain ⟨fi2, hfi2⟩ : ∃ fi2, fi2 = fiC qn fi := ⟨_, rfl⟩
      rw [← hfi2] at hgo
      unfold fiC at hfi2
      cases hb : (frontV qn).2.2
      case' true =>
        rw [hb, if_pos rfl] at hfi2
        ((conv => whnf); (repeat ((first | with_reducible refine abr_true rfl ?_ | with_reducible refine abr_false rfl ?_ | with_reducible refine abr_yes rfl ?_ | refine abr_yes (by decide) ?_ | refine abr_no (by decide) ?_ | with_reducible refine abr_same_ne ?_); (conv => whnf))))
        refine aload hp rfl ?_
        ((conv => whnf); (repeat ((first | with_reducible refine abr_true rfl ?_ | with_reducible refine abr_false rfl ?_ | with_reducible refine abr_yes rfl ?_ | refine abr_yes (by decide) ?_ | refine abr_no (by decide) ?_ | with_reducible refine abr_same_ne ?_); (conv => whnf))))
        refine abits_eq hfi2.symm ?_
        ((conv => whnf); (repeat ((first | with_reducible refine abr_true rfl ?_ | with_reducible refine abr_false rfl ?_ | with_reducible refine abr_yes rfl ?_ | refine abr_yes (by decide) ?_ | refine abr_no (by decide) ?_ | with_reducible refine abr_same_ne ?_); (conv => whnf))))
        refine astore (xs := [i64v fi2]) (l := [i64v fi2, lists ta F, u64s tb D]) hp (Nat.le_of_ble_eq_true rfl) rfl rfl ?_
        obtain ⟨σd, hσd⟩ : ∃ σd, σd = upd σc pid (.cells [i64v fi2, lists ta F, u64s tb D]) := ⟨_, rfl⟩
        rw [← hσd]
        have hpd : σd pid = some (.cells [i64v fi2, lists ta F, u64s tb D]) := by rw [hσd]; exact upd_same _ _ _
        have hcd : σd id = some (.cells (qcells qn τ tk)) := by rw [hσd, upd_ne _ _ n1]; exact hc
        have hrd : σd rid = some (.cells [i64v 0, lists .full [], u64s .full []]) := by rw [hσd, upd_ne _ _ n2]; exact hr
        have htd : Tok2 σd σb ta tb := by rw [hσd]; exact htok.set _ hp rfl
        have hsd : Sub σd σb := by rw [hσd]; exact sub_upd _ hs hpb
        clear hσd
      case' false =>
        rw [hb, if_neg (by simp)] at hfi2
        subst hfi2
        obtain ⟨σd, hσd⟩ : ∃ σd, σd = σc := ⟨_, rfl⟩
        rw [← hσd] at hc hp hr htok hs ⊢
        have hpd := hp
        have hcd := hc
        have hrd := hr
        have htd := htok
        have hsd := hs
      all_goals
        ((conv => whnf); (repeat ((first | with_reducible refine abr_true rfl ?_ | with_reducible refine abr_false rfl ?_ | with_reducible refine abr_yes rfl ?_ | refine abr_yes (by decide) ?_ | refine abr_no (by decide) ?_ | with_reducible refine abr_same_ne ?_); (conv => whnf))))
        refine amin ?_
        ((conv => whnf); (repeat ((first | with_reducible refine abr_true rfl ?_ | with_reducible refine abr_false rfl ?_ | with_reducible refine abr_yes rfl ?_ | refine abr_yes (by decide) ?_ | refine abr_no (by decide) ?_ | with_reducible refine abr_same_ne ?_); (conv => whnf))))
        rw [List.length_map]
        rw [show min (room - (total F : Int) - sizeV (F.length : Int) w) ((frontV qn).2.1.length : Int) = takenC room w qn F from rfl]
        generalize takenC room w qn F = m at *
        unfold leftC at hm3
        refine acall (qTake id qn m σd _ (Qu.at hqn hτ hcd)) ?_
        rintro _ σ1 ⟨rfl, w1⟩
        ((conv => whnf); (repeat ((first | with_reducible refine abr_true rfl ?_ | with_reducible refine abr_false rfl ?_ | with_reducible refine abr_yes rfl ?_ | refine abr_yes (by decide) ?_ | refine abr_no (by decide) ?_ | with_reducible refine abr_same_ne ?_); (conv => whnf))))
        refine abr_yes k1 ?_
        ((conv => whnf); (repeat ((first | with_reducible refine abr_true rfl ?_ | with_reducible refine abr_false rfl ?_ | with_reducible refine abr_yes rfl ?_ | refine abr_yes (by decide) ?_ | refine abr_no (by decide) ?_ | with_reducible refine abr_same_ne ?_); (conv => whnf))))
        have hp1 := w1.other hpd (Ne.symm n1)
        have hrr1 := w1.other hrd (Ne.symm hidr)
        obtain ⟨hq1, τ1, tk1, hτ1, hc1⟩ := w1.cell
        have hs1 : Sub σ1 σb := w1.sub.trans (sub_del hsd h1)
        have ht1 : Tok2 σ1 σb ta tb := htd.ext (w1.tips hcd)
        refine aload hp1 rfl ?_
        ((conv => whnf); (repeat ((first | with_reducible refine abr_true rfl ?_ | with_reducible refine abr_false rfl ?_ | with_reducible refine abr_yes rfl ?_ | refine abr_yes (by decide) ?_ | refine abr_no (by decide) ?_ | with_reducible refine abr_same_ne ?_); (conv => whnf))))
        refine aapp_2 (ys := [sl .none (takeB qn m)]) ht1 hs1 (by rw [List.length_map]; show (_ + 1) * 24 ≤ _; omega) fun t2 σ2 hx2 hs2 ht2 => ?_
        rw [show List.map (sl .none) F ++ [sl .none (takeB qn m)] = List.map (sl .none) (F ++ [takeB qn m]) by simp]
        ((conv => whnf); (repeat ((first | with_reducible refine abr_true rfl ?_ | with_reducible refine abr_false rfl ?_ | with_reducible refine abr_yes rfl ?_ | refine abr_yes (by decide) ?_ | refine abr_no (by decide) ?_ | with_reducible refine abr_same_ne ?_); (conv => whnf))))
        refine astore (xs := [lists (.tip t2) (F ++ [takeB qn m])]) (l := [i64v fi2, lists (.tip t2) (F ++ [takeB qn m]), u64s tb D]) (hx2 pid _ rfl hp1) (Nat.le_of_ble_eq_true rfl) rfl rfl ?_
        have hp3 : upd σ2 pid (.cells [i64v fi2, lists (.tip t2) (F ++ [takeB qn m]), u64s tb D]) pid = some (.cells [i64v fi2, lists (.tip t2) (F ++ [takeB qn m]), u64s tb D]) := upd_same _ _ _
        have hc3 : upd σ2 pid (.cells [i64v fi2, lists (.tip t2) (F ++ [takeB qn m]), u64s tb D]) id = some (.cells (qcells (takeQ qn m) τ1 tk1)) := by rw [upd_ne _ _ n1]; exact hx2 id _ rfl hc1
        have hr3 : upd σ2 pid (.cells [i64v fi2, lists (.tip t2) (F ++ [takeB qn m]), u64s tb D]) rid = some (.cells [i64v 0, lists .full [], u64s .full []]) := by rw [upd_ne _ _ n2]; exact hx2 rid _ rfl hrr1
        have ht3 : Tok2 (upd σ2 pid (.cells [i64v fi2, lists (.tip t2) (F ++ [takeB qn m]), u64s tb D])) σb (.tip t2) tb := ht2.set _ (hx2 pid _ rfl hp1) rfl
        have hs3 : Sub (upd σ2 pid (.cells [i64v fi2, lists (.tip t2) (F ++ [takeB qn m]), u64s tb D])) σb := sub_upd _ hs2 hpb
        generalize upd σ2 pid (.cells [i64v fi2, lists (.tip t2) (F ++ [takeB qn m]), u64s tb D]) = σ3 at *
        have htot : (total (F ++ [takeB qn m]) : Int) = (total F : Int) + ((takeB qn m).length : Int) := by rw [total_append, total_cons, total_nil]; omega
        have hFl : (F ++ [takeB qn m]).length = F.length + 1 := by simp
        ((conv => whnf); (repeat ((first | with_reducible refine abr_true rfl ?_ | with_reducible refine abr_false rfl ?_ | with_reducible refine abr_yes rfl ?_ | refine abr_yes (by decide) ?_ | refine abr_no (by decide) ?_ | with_reducible refine abr_same_ne ?_); (conv => whnf))))
        rw [List.length_map]
        refine afit_i64 (by omega) ?_
        ((conv => whnf); (repeat ((first | with_reducible refine abr_true rfl ?_ | with_reducible refine abr_false rfl ?_ | with_reducible refine abr_yes rfl ?_ | refine abr_yes (by decide) ?_ | refine abr_no (by decide) ?_ | with_reducible refine abr_same_ne ?_); (conv => whnf))))
        rw [← htot]
        cases hall : takeAll qn m with
        | true =>
          rw [hall, if_pos rfl] at hgo
          ((conv => whnf); (repeat ((first | with_reducible refine abr_true rfl ?_ | with_reducible refine abr_false rfl ?_ | with_reducible refine abr_yes rfl ?_ | refine abr_yes (by decide) ?_ | refine abr_no (by decide) ?_ | with_reducible refine abr_same_ne ?_); (conv => whnf))))
          refine aload hp3 rfl ?_
          ((conv => whnf); (repeat ((first | with_reducible refine abr_true rfl ?_ | with_reducible refine abr_false rfl ?_ | with_reducible refine abr_yes rfl ?_ | refine abr_yes (by decide) ?_ | refine abr_no (by decide) ?_ | with_reducible refine abr_same_ne ?_); (conv => whnf))))
          refine aapp_2 (ys := [u64v (frontV qn).1]) ht3.symm hs3 (by rw [List.length_map]; show (_ + 1) * 8 ≤ _; omega) fun t4 σ4 hx4 hs4 ht4 => ?_
          rw [show List.map u64v D ++ [u64v (frontV qn).1] = List.map u64v (D ++ [(frontV qn).1]) by simp]
          ((conv => whnf); (repeat ((first | with_reducible refine abr_true rfl ?_ | with_reducible refine abr_false rfl ?_ | with_reducible refine abr_yes rfl ?_ | refine abr_yes (by decide) ?_ | refine abr_no (by decide) ?_ | with_reducible refine abr_same_ne ?_); (conv => whnf))))
          refine astore (xs := [u64s (.tip t4) (D ++ [(frontV qn).1])]) (l := [i64v fi2, lists (.tip t2) (F ++ [takeB qn m]), u64s (.tip t4) (D ++ [(frontV qn).1])]) (hx4 pid _ rfl hp3) (Nat.le_of_ble_eq_true rfl) rfl rfl ?_
          ((conv => whnf); (repeat ((first | with_reducible refine abr_true rfl ?_ | with_reducible refine abr_false rfl ?_ | with_reducible refine abr_yes rfl ?_ | refine abr_yes (by decide) ?_ | refine abr_no (by decide) ?_ | with_reducible refine abr_same_ne ?_); (conv => whnf))))
          refine ⟨(0, pid, takeQ qn m, (fi2, F ++ [takeB qn m], D ++ [(frontV qn).1]), .tip t2, .tip t4, _), rfl, ⟨hask, by dsimp only; omega, by dsimp only; omega, by dsimp only; rw [List.length_append, List.length_append]; exact Nat.add_le_add_right hD24 1, hq1, ⟨τ1, tk1, hτ1, (upd_ne _ _ n1).trans (hx4 id _ rfl hc3)⟩, upd_same _ _ _, (upd_ne _ _ n2).trans (hx4 rid _ rfl hr3), n1, n2, (ht4.symm).set _ (hx4 pid _ rfl hp3) rfl, sub_upd _ hs4 hpb, hpb, .inl ⟨rfl, ?_⟩⟩, ?_, Sub.refl _, ?_⟩
          · dsimp only
            rw [k3 hall]; exact hgo
          · have := k3 hall
            dsimp only
            simp
            omega
          · ((conv => whnf); (repeat ((first | with_reducible refine abr_true rfl ?_ | with_reducible refine abr_false rfl ?_ | with_reducible refine abr_yes rfl ?_ | refine abr_yes (by decide) ?_ | refine abr_no (by decide) ?_ | with_reducible refine abr_same_ne ?_); (conv => whnf))))
            (repeat' first | with_reducible exact EnvLe.refl _ | (refine EnvLe.node ?_ (by first | exact Or.inl rfl | exact Or.inr (Or.inl rfl) | exact Or.inr (Or.inr ⟨nofun, VLe.slice _ _ _⟩)) ?_))
        | false =>
          rw [hall, if_neg (by simp)] at hgo
          ((conv => whnf); (repeat ((first | with_reducible refine abr_true rfl ?_ | with_reducible refine abr_false rfl ?_ | with_reducible refine abr_yes rfl ?_ | refine abr_yes (by decide) ?_ | refine abr_no (by decide) ?_ | with_reducible refine abr_same_ne ?_); (conv => whnf))))
          refine aload hp3 rfl ?_
          ((conv => whnf); (repeat ((first | with_reducible refine abr_true rfl ?_ | with_reducible refine abr_false rfl ?_ | with_reducible refine abr_yes rfl ?_ | refine abr_yes (by decide) ?_ | refine abr_no (by decide) ?_ | with_reducible refine abr_same_ne ?_); (conv => whnf))))
          refine abits_eq rfl ?_
          ((conv => whnf); (repeat ((first | with_reducible refine abr_true rfl ?_ | with_reducible refine abr_false rfl ?_ | with_reducible refine abr_yes rfl ?_ | refine abr_yes (by decide) ?_ | refine abr_no (by decide) ?_ | with_reducible refine abr_same_ne ?_); (conv => whnf))))
          refine astore (xs := [i64v (bitsOp .or .i64 fi2 1)]) (l := [i64v (bitsOp .or .i64 fi2 1), lists (.tip t2) (F ++ [takeB qn m]), u64s tb D]) hp3 (Nat.le_of_ble_eq_true rfl) rfl rfl ?_
          ((conv => whnf); (repeat ((first | with_reducible refine abr_true rfl ?_ | with_reducible refine abr_false rfl ?_ | with_reducible refine abr_yes rfl ?_ | refine abr_yes (by decide) ?_ | refine abr_no (by decide) ?_ | with_reducible refine abr_same_ne ?_); (conv => whnf))))
          refine hlab _ (fun _ _ _ h => h) _ _ _ _ ⟨(1, pid, takeQ qn m, (bitsOp .or .i64 fi2 1, F ++ [takeB qn m], D), .tip t2, tb, _), rfl, ⟨hask, by dsimp only; omega, by dsimp only; omega, by dsimp only; omega, hq1, ⟨τ1, tk1, hτ1, (upd_ne _ _ n1).trans hc3⟩, upd_same _ _ _, (upd_ne _ _ n2).trans hr3, n1, n2, ht3.set _ hp3 rfl, sub_upd _ hs3 hpb, hpb, .inr ⟨rfl, hgo⟩⟩, by dsimp only; simp, rfl, Sub.refl _, ?_⟩
          ((conv => whnf); (repeat ((first | with_reducible refine abr_true rfl ?_ | with_reducible refine abr_false rfl ?_ | with_reducible refine abr_yes rfl ?_ | refine abr_yes (by decide) ?_ | refine abr_no (by decide) ?_ | with_reducible refine abr_same_ne ?_); (conv => whnf))))
          (repeat' first | with_reducible exact EnvLe.refl _ | (refine EnvLe.node ?_ (by first | exact Or.inl rfl | exact Or.inr (Or.inl rfl) | exact Or.inr (Or.inr ⟨nofun, VLe.slice _ _ _⟩)) ?_))
    · refine ⟨_, rfl, ?_⟩
      ((conv => whnf); (repeat ((first | with_reducible refine abr_true rfl ?_ | with_reducible refine abr_false rfl ?_ | with_reducible refine abr_yes rfl ?_ | refine abr_yes (by decide) ?_ | refine abr_no (by decide) ?_ | with_reducible refine abr_same_ne ?_); (conv => whnf))))
      intro hlab
      ((conv => whnf); (repeat ((first | with_reducible refine abr_true rfl ?_ | with_reducible refine abr_false rfl ?_ | with_reducible refine abr_yes rfl ?_ | refine abr_yes (by decide) ?_ | refine abr_no (by decide) ?_ | with_reducible refine abr_same_ne ?_); (conv => whnf))))
      refine aload hp rfl ?_
      ((conv => whnf); (repeat ((first | with_reducible refine abr_true rfl ?_ | with_reducible refine abr_false rfl ?_ | with_reducible refine abr_yes rfl ?_ | refine abr_yes (by decide) ?_ | refine abr_no (by decide) ?_ | with_reducible refine abr_same_ne ?_); (conv => whnf))))
      rw [List.length_map]
      have hQ : cutQ room w q = qn := by unfold cutQ; rw [if_pos hask, ← hR]
      by_cases h0 : F.length = 0
      · have hcode : cutCode room w q = 4 := by unfold cutCode; rw [if_neg (fun k => k hask), ← hR]; exact if_pos h0
        refine abr_yes (by omega) ?_
        ((conv => whnf); (repeat ((first | with_reducible refine abr_true rfl ?_ | with_reducible refine abr_false rfl ?_ | with_reducible refine abr_yes rfl ?_ | refine abr_yes (by decide) ?_ | refine abr_no (by decide) ?_ | with_reducible refine abr_same_ne ?_); (conv => whnf))))
        refine astore (xs := [i64v 0, lists .full [], u64s .full []]) (l := [i64v 0, lists .full [], u64s .full []]) hr (Nat.le_of_ble_eq_true rfl) rfl rfl ?_
        ((conv => whnf); (repeat ((first | with_reducible refine abr_true rfl ?_ | with_reducible refine abr_false rfl ?_ | with_reducible refine abr_yes rfl ?_ | refine abr_yes (by decide) ?_ | refine abr_no (by decide) ?_ | with_reducible refine abr_same_ne ?_); (conv => whnf))))
        refine aloads (l := [i64v 0, lists .full [], u64s .full []]) (upd_same _ _ _) (by exact Nat.le_refl 3) rfl ?_
        ((conv => whnf); (repeat ((first | with_reducible refine abr_true rfl ?_ | with_reducible refine abr_false rfl ?_ | with_reducible refine abr_yes rfl ?_ | refine abr_yes (by decide) ?_ | refine abr_no (by decide) ?_ | with_reducible refine abr_same_ne ?_); (conv => whnf))))
        obtain ⟨σ', k1, k2⟩ := qu_of (σ := upd σc rid (.cells [i64v 0, lists .full [], u64s .full []])) (σb := σb) hqn hτ ((upd_ne _ _ hidr).trans hc) h1 (sub_upd _ hs hbr)
        refine aret_piece k1 ⟨?_, ?_⟩
        · unfold cutP; rw [hcode, if_neg (by decide)]; rfl
        · rw [hQ]; exact k2
      · have hcode : cutCode room w q = 0 := by unfold cutCode; rw [if_neg (fun k => k hask), ← hR]; exact if_neg h0
        refine abr_no (by omega) ?_
        ((conv => whnf); (repeat ((first | with_reducible refine abr_true rfl ?_ | with_reducible refine abr_false rfl ?_ | with_reducible refine abr_yes rfl ?_ | refine abr_yes (by decide) ?_ | refine abr_no (by decide) ?_ | with_reducible refine abr_same_ne ?_); (conv => whnf))))
        refine aloads (l := [i64v fi, lists ta F, u64s tb D]) hp (by exact Nat.le_refl 3) rfl ?_
        ((conv => whnf); (repeat ((first | with_reducible refine abr_true rfl ?_ | with_reducible refine abr_false rfl ?_ | with_reducible refine abr_yes rfl ?_ | refine abr_yes (by decide) ?_ | refine abr_no (by decide) ?_ | with_reducible refine abr_same_ne ?_); (conv => whnf))))
        refine astore (xs := [i64v fi, lists ta F, u64s tb D]) (l := [i64v fi, lists ta F, u64s tb D]) hr (Nat.le_of_ble_eq_true rfl) rfl rfl ?_
        ((conv => whnf); (repeat ((first | with_reducible refine abr_true rfl ?_ | with_reducible refine abr_false rfl ?_ | with_reducible refine abr_yes rfl ?_ | refine abr_yes (by decide) ?_ | refine abr_no (by decide) ?_ | with_reducible refine abr_same_ne ?_); (conv => whnf))))
        refine aloads (l := [i64v fi, lists ta F, u64s tb D]) (upd_same _ _ _) (by exact Nat.le_refl 3) rfl ?_
        ((conv => whnf); (repeat ((first | with_reducible refine abr_true rfl ?_ | with_reducible refine abr_false rfl ?_ | with_reducible refine abr_yes rfl ?_ | refine abr_yes (by decide) ?_ | refine abr_no (by decide) ?_ | with_reducible refine abr_same_ne ?_); (conv => whnf))))
        obtain ⟨σ', k1, k2⟩ := qu_of (σ := upd σc rid (.cells [i64v fi, lists ta F, u64s tb D])) (σb := σb) hqn hτ ((upd_ne _ _ hidr).trans hc) h1 (sub_upd _ hs hbr)
        refine aret_piece k1 ⟨?_, ?_⟩
        · unfold cutP; rw [hcode, if_pos rfl, ← hR]
        · rw [hQ]; exact k2
end Go.Proofs.Ytnfdgccmpglbhaa
/-
  What is cut out of a queue: the plain law.
-/
namespace Go.Proofs.Ytnfdgccmpglbhaa
set_option linter.unusedVariables false
set_option linter.unusedSimpArgs false
open Go Go.Am

/-- Fields that are whole texts, but for what was taken of the first one. -/
def wholes (k : Nat) : List (Nat × List UInt8) → List (List UInt8)
  | [] => []
  | t :: ts => t.2.drop k :: ts.map Prod.snd
theorem wholes_snoc (k : Nat) (l : List (Nat × List UInt8)) (t : Nat × List UInt8) : wholes k (l ++ [t]) = wholes k l ++ [t.2.drop (if l.length = 0 then k else 0)] := by
  cases l with
  | nil => simp [wholes]
  | cons a l => simp [wholes]
theorem wholes_length (k : Nat) (l : List (Nat × List UInt8)) : (wholes k l).length = l.length := by cases l <;> simp [wholes]
def begC (q : QS) (d : Nat) : Nat := if d = 0 then q.taken else 0
def stQ (q : QS) (d : Nat) : QS := ⟨q.room, q.ts.drop d, begC q d, q.last⟩
def fi0 (q : QS) : Int := if 0 < q.taken then 2 else 0
def stP (q : QS) (d : Nat) : Pc := (if d = 0 then 0 else fi0 q, wholes q.taken (q.ts.take d), (q.ts.take d).map Prod.fst)
theorem stQ_zero (q : QS) : stQ q 0 = q := by unfold stQ begC; simp
theorem stP_zero (q : QS) : stP q 0 = none14 := by unfold stP none14; simp [wholes]
theorem take_succ_ts {q : QS} {d : Nat} (h : d < q.ts.length) : q.ts.take (d + 1) = q.ts.take d ++ [q.ts[d]] := by rw [List.take_add_one, List.getElem?_eq_getElem h]; rfl
theorem stP_succ {q : QS} {d : Nat} (h : d < q.ts.length) : stP q (d + 1) = (fi0 q, (stP q d).2.1 ++ [q.ts[d].2.drop (begC q d)], (stP q d).2.2 ++ [q.ts[d].1]) := by
  unfold stP begC
  rw [take_succ_ts h, wholes_snoc, List.map_append, List.length_take, show min d q.ts.length = d by omega]
  simp
theorem stP_len {q : QS} {d : Nat} (h : d ≤ q.ts.length) : (stP q d).2.1.length = d := by unfold stP; dsimp only; rw [wholes_length, List.length_take]; omega
theorem stQ_front {q : QS} {d : Nat} (h : d < q.ts.length) : frontV (stQ q d) = (q.ts[d].1, q.ts[d].2.drop (begC q d), decide (begC q d > 0)) := by
  unfold frontV stQ
  dsimp only
  rw [List.drop_eq_getElem_cons h]
theorem stQ_take {q : QS} {d : Nat} (h : d < q.ts.length) {m : Int} (h1 : 1 ≤ m) (h2 : m ≤ (q.ts[d].2.length : Int) - begC q d) :
    takeB (stQ q d) m = (q.ts[d].2.drop (begC q d)).take m.toNat ∧ takeAll (stQ q d) m = decide (m = (q.ts[d].2.length : Int) - begC q d) ∧
      takeQ (stQ q d) m = if m < (q.ts[d].2.length : Int) - begC q d then ⟨q.room, q.ts.drop d, begC q d + m.toNat, q.last⟩ else stQ q (d + 1) := by
  have e : (stQ q d).ts = q.ts[d] :: q.ts.drop (d + 1) := List.drop_eq_getElem_cons h
  have et : (stQ q d).taken = begC q d := rfl
  have hc : takeCode (stQ q d) m = 0 := by unfold takeCode; rw [e, et]; exact if_neg (by omega)
  refine ⟨by unfold takeB; rw [hc, e]; rfl, by unfold takeAll; rw [hc, e]; rfl, ?_⟩
  have hd : q.ts[d] :: q.ts.drop (d + 1) = q.ts.drop d := (List.drop_eq_getElem_cons h).symm
  unfold takeQ
  rw [hc, e]
  show (if (0 : Int) = 0 then (if m < (q.ts[d].2.length : Int) - begC q d then (⟨q.room, q.ts[d] :: q.ts.drop (d + 1), begC q d + m.toNat, q.last⟩ : QS) else ⟨q.room, q.ts.drop (d + 1), 0, q.last⟩) else _) = _
  rw [if_pos rfl, hd]
  unfold stQ begC
  rw [if_neg (Nat.succ_ne_zero d)]

/-- What comes of a cut. -/
inductive CutRes (room w : Int) (q : QS) : QS × Pc → Prop
  | whole (d : Nat) (h : d ≤ q.ts.length) (h24 : d ≤ 24) (fit : 1 ≤ d → (total (stP q d).2.1 : Int) + sizeV ((d : Int) - 1) w ≤ room) (end_ : stopC room w (stQ q d) (stP q d).2.1 = true) : CutRes room w q (stQ q d, stP q d)
  | part (d m : Nat) (h : d < q.ts.length) (h24 : d < 24) (h1 : 1 ≤ m) (hm : begC q d + m < q.ts[d].2.length) (fit : (total (stP q d).2.1 : Int) + m + sizeV (d : Int) w = room) :
      CutRes room w q (⟨q.room, q.ts.drop d, begC q d + m, q.last⟩, (fi0 q + 1, (stP q d).2.1 ++ [(q.ts[d].2.drop (begC q d)).take m], (stP q d).2.2))

theorem fiC_st {q : QS} {d : Nat} (h : d < q.ts.length) : fiC (stQ q d) (stP q d).1 = fi0 q := by
  unfold fiC
  rw [stQ_front h]
  unfold stP fi0 begC
  by_cases hd : d = 0
  · by_cases ht : 0 < q.taken
    · simp [hd, ht]; decide
    · simp [hd, ht]
  · simp [hd]

theorem cutGo_res {room w : Int} {q : QS} (hq : QOk q) : ∀ (n d : Nat), d ≤ q.ts.length → q.ts.length - d < n → d ≤ 24 → (1 ≤ d → (total (stP q d).2.1 : Int) + sizeV ((d : Int) - 1) w ≤ room) → CutRes room w q (cutGo room w n (stQ q d) (stP q d))
  | 0, d, _, h, _, _ => absurd h (Nat.not_lt_zero _)
  | n + 1, d, hd, hn, h24, fit => by
    rw [cutGo]
    have hlen := stP_len hd
    cases hst : stopC room w (stQ q d) (stP q d).2.1 with
    | true => rw [if_pos rfl]; exact .whole d hd h24 fit hst
    | false =>
      rw [if_neg (by simp)]
      have hns := of_decide_eq_false hst
      have hd2 : d < q.ts.length := by
        refine Classical.byContradiction fun k => hns (.inl ?_)
        have : (stQ q d).ts = [] := List.drop_of_length_le (by omega)
        unfold frontV; rw [this]; rfl
      have hf := stQ_front hd2
      have hl1 : 1 ≤ leftC room w (stP q d).2.1 := by omega
      have hbeg : begC q d < q.ts[d].2.length := by
        have h1 := (hq.each _ (List.getElem_mem hd2)).1
        unfold begC
        split
        · rename_i h0
          subst h0
          have := hq.begun
          rw [show q.ts = q.ts[0] :: q.ts.drop 1 from (List.drop_eq_getElem_cons hd2)] at this
          exact this
        · omega
      obtain ⟨m, hm⟩ : ∃ m, m = takenC room w (stQ q d) (stP q d).2.1 := ⟨_, rfl⟩
      rw [← hm]
      have hm2 : m = min (leftC room w (stP q d).2.1) ((q.ts[d].2.length - begC q d : Nat) : Int) := by
        rw [hm]; unfold takenC; rw [hf]; dsimp only; rw [List.length_drop]
      obtain ⟨e1, e2, e3⟩ := stQ_take hd2 (m := m) (by omega) (by omega)
      rw [e1, e2, e3, fiC_st hd2, hf]
      dsimp only
      have hleft : leftC room w (stP q d).2.1 = room - total (stP q d).2.1 - sizeV (d : Int) w := by unfold leftC; rw [hlen]
      by_cases hall : m = (q.ts[d].2.length : Int) - begC q d
      · rw [decide_eq_true hall, if_pos rfl, if_neg (by omega)]
        have htk : (q.ts[d].2.drop (begC q d)).take m.toNat = q.ts[d].2.drop (begC q d) := List.take_of_length_le (by rw [List.length_drop]; omega)
        rw [htk, ← stP_succ hd2]
        refine cutGo_res hq n (d + 1) (by omega) (by omega) ?_ fun _ => ?_
        · have : (stP q d).2.1.length ≠ 24 := fun k => hns (.inr (.inr k))
          omega
        · rw [stP_succ hd2]
          dsimp only
          rw [total_append, total_cons, total_nil, List.length_drop]
          rw [show ((d + 1 : Nat) : Int) - 1 = (d : Int) by omega]
          omega
      · rw [decide_eq_false hall, if_neg (by simp), if_pos (by omega)]
        have hor : bitsOp .or .i64 (fi0 q) 1 = fi0 q + 1 := by unfold fi0; split <;> decide
        rw [hor, show m = ((m.toNat : Nat) : Int) by omega]
        rw [Int.toNat_natCast]
        refine .part d m.toNat hd2 ?_ (by omega) (by omega) (by omega)
        have : (stP q d).2.1.length ≠ 24 := fun k => hns (.inr (.inr k))
        omega
theorem cut_res {room w : Int} {q : QS} (hq : QOk q) : CutRes room w q (cutR room w q) := by
  have := cutGo_res (room := room) (w := w) hq (q.ts.length + 1) 0 (Nat.zero_le _) (by omega) (Nat.zero_le _) (fun h => absurd h (by omega))
  rw [stQ_zero, stP_zero] at this
  exact this
theorem cutP_of {room w : Int} {q : QS} {r : QS × Pc} (hask : askCut room w = 0) (h : r = cutR room w q) : cutQ room w q = r.1 ∧ (r.2.2.1.length ≠ 0 → cutCode room w q = 0 ∧ cutP room w q = r.2) ∧ (r.2.2.1.length = 0 → cutCode room w q = 4 ∧ cutP room w q = none14) := by
  have hq : cutQ room w q = r.1 := by unfold cutQ; rw [if_pos hask, ← h]
  refine ⟨hq, fun h0 => ?_, fun h0 => ?_⟩
  · have hc : cutCode room w q = 0 := by unfold cutCode; rw [if_neg (fun k => k hask), ← h]; exact if_neg h0
    exact ⟨hc, by unfold cutP; rw [if_pos hc, ← h]⟩
  · have hc : cutCode room w q = 4 := by unfold cutCode; rw [if_neg (fun k => k hask), ← h]; exact if_pos h0
    exact ⟨hc, by unfold cutP; rw [hc, if_neg (by decide)]⟩
theorem askCut_eq {room w : Int} (hw : w = 11 ∨ w = 15) (h0 : 0 ≤ room) (h1 : room ≤ 4000) : askCut room w = 0 := by
  unfold askCut; rw [if_neg (by rw [widthOk_iff.2 hw]; simp), if_neg (by omega)]
end Go.Proofs.Ytnfdgccmpglbhaa
/-
  The bodies of one package, compiled to the framework's language (printed by a program of this session).
-/
namespace Go.Proofs.Ytnfdgccmpglbhaa
set_option linter.unusedVariables false
set_option linter.unusedSimpArgs false
open Go Go.Am
/- bowlinelaw13.CutFits -/
def c3 : Cfg := ⟨qs, [], 250, []⟩
def ir3 : IFun := ⟨3, [.tmp s6],
  (.seq (.reg (.one ⟨some s6, none, (.mv (.c (.v (.bool false))))⟩
    .done))
  (.seq (.reg (.one ⟨some s30, none, (.callq 14 [(.c (.v (.int .i64 20000)))])⟩
    (.one ⟨some s29, none, (.mv (.t s30))⟩
    (.one ⟨some s31, none, (.ext (.t s29) 0)⟩
    (.one ⟨some s32, none, (.ext (.t s29) 1)⟩
    (.one ⟨some s7, none, (.mv (.t s31))⟩
    (.one ⟨some s8, none, (.mv (.t s32))⟩
    .done)))))))
  (.seq (.seq (.reg (.one ⟨some s33, none, (.mv (.t s8))⟩
    (.one ⟨some s34, none, (.bin false .neq (.t s33) (.c (.v (.int .i64 0))))⟩
    (.one ⟨some s35, none, (.mv (.t s34))⟩
    (.one ⟨some s36, some (s35, false), (.mv (.t s7))⟩
    (.one ⟨some s37, some (s35, false), (.eqNil 1 false (.t s36))⟩
    (.one ⟨some s38, none, (.pick (.t s35) (.c (.v (.bool true))) (.t s37))⟩
    (.one ⟨some s39, none, (.mv (.t s38))⟩
    (.one ⟨some s40, some (s39, false), (.mv (.t s2))⟩
    (.one ⟨some s41, some (s39, false), (.bin false .neq (.t s40) (.c (.v (.int .i64 11))))⟩
    (.one ⟨some s42, some (s39, false), (.mv (.t s41))⟩
    (.one ⟨some s43, some (s42, true), (.mv (.t s2))⟩
    (.one ⟨some s44, some (s42, true), (.bin false .neq (.t s43) (.c (.v (.int .i64 15))))⟩
    (.one ⟨some s45, some (s39, false), (.pick (.t s42) (.t s44) (.c (.v (.bool false))))⟩
    (.one ⟨some s46, none, (.pick (.t s39) (.c (.v (.bool true))) (.t s45))⟩
    .done)))))))))))))))
  (.cond (.t s46) (.seq (.reg (.one ⟨some s47, none, (.mv (.t s8))⟩
    (.one ⟨some s48, none, (.bin false .eql (.t s47) (.c (.v (.int .i64 0))))⟩
    (.one ⟨some s49, none, (.mv (.t s48))⟩
    (.one ⟨some s50, some (s49, true), (.callq 15 [])⟩
    (.one ⟨some s51, none, (.pick (.t s49) (.t s50) (.c (.v (.bool false))))⟩
    (.one ⟨some s6, none, (.mv (.t s51))⟩
    .done)))))))
  .ret) .skip))
  (.seq (.reg (.one ⟨some s9, none, (.mv (.c (.slice 1 [] .full)))⟩
    (.one ⟨some s10, none, (.mv (.c (.slice 1 [] .full)))⟩
    .done)))
  (.seq (.seq (.reg (.one ⟨some s11, none, (.mv (.c (.v (.int .i64 0))))⟩
    .done))
  (.block 0 (.loop (.seq (.seq (.reg (.one ⟨some s52, none, (.mv (.t s11))⟩
    (.one ⟨some s53, none, (.mv (.t s0))⟩
    (.one ⟨some s54, none, (.len false (.t s53))⟩
    (.one ⟨some s55, none, (.bin false .lss (.t s52) (.t s54))⟩
    (.one ⟨some s56, none, (.mv (.t s55))⟩
    (.one ⟨some s57, some (s56, true), (.mv (.t s11))⟩
    (.one ⟨some s58, some (s56, true), (.bin false .lss (.t s57) (.c (.v (.int .i64 40))))⟩
    (.one ⟨some s59, none, (.pick (.t s56) (.t s58) (.c (.v (.bool false))))⟩
    .done)))))))))
  (.cond (.t s59) .skip (.exit 0)))
  (.seq (.block 1 (.seq (.seq (.reg (.one ⟨some s62, none, (.mv (.t s0))⟩
    (.one ⟨some s63, none, (.mv (.t s11))⟩
    (.one ⟨some s64, none, (.iaddr 1 (.t s62) (.t s63))⟩
    (.one ⟨some s65, none, (.load none (.t s64))⟩
    (.one ⟨some s66, none, (.len false (.t s65))⟩
    (.one ⟨some s67, none, (.bin false .gtr (.t s66) (.c (.v (.int .i64 1100))))⟩
    .done)))))))
  (.cond (.t s67) (.seq (.reg (.one ⟨some s68, none, (.callq 15 [])⟩
    (.one ⟨some s6, none, (.mv (.t s68))⟩
    .done)))
  .ret) .skip))
  (.seq (.reg (.one ⟨some s70, none, (.mv (.t s7))⟩
    (.one ⟨some s71, none, (.mv (.t s0))⟩
    (.one ⟨some s72, none, (.mv (.t s11))⟩
    (.one ⟨some s73, none, (.iaddr 1 (.t s71) (.t s72))⟩
    (.one ⟨some s74, none, (.load none (.t s73))⟩
    (.one ⟨some s75, none, (.call 16 [(.t s70), (.t s74)])⟩
    (.one ⟨some s69, none, (.mv (.t s75))⟩
    (.one ⟨some s76, none, (.ext (.t s69) 0)⟩
    (.one ⟨some s77, none, (.ext (.t s69) 1)⟩
    (.one ⟨some s12, none, (.mv (.t s76))⟩
    (.one ⟨some s13, none, (.mv (.t s77))⟩
    .done))))))))))))
  (.seq (.reg (.one ⟨some s78, none, (.mv (.t s13))⟩
    (.one ⟨some s79, none, (.bin false .eql (.t s78) (.c (.v (.int .i64 0))))⟩
    .done)))
  (.cond (.t s79) (.reg (.one ⟨some s80, none, (.mv (.t s9))⟩
    (.one ⟨some s81, none, (.mv (.t s0))⟩
    (.one ⟨some s82, none, (.mv (.t s11))⟩
    (.one ⟨some s83, none, (.iaddr 1 (.t s81) (.t s82))⟩
    (.one ⟨some s84, none, (.load none (.t s83))⟩
    (.one ⟨some s85, none, (.app 1 1 (.t s80) (.t s84))⟩
    (.one ⟨some s9, none, (.mv (.t s85))⟩
    .done)))))))) .skip)))))
  (.reg (.one ⟨some s60, none, (.mv (.t s11))⟩
    (.one ⟨some s61, none, (.bin false .add (.t s60) (.c (.v (.int .i64 1))))⟩
    (.one ⟨some s11, none, (.mv (.t s61))⟩
    .done)))))))))
  (.seq (.reg (.one ⟨some s14, none, (.mv (.c (.v (.int .u64 0))))⟩
    .done))
  (.seq (.seq (.reg (.one ⟨some s15, none, (.mv (.c (.v (.int .i64 0))))⟩
    .done))
  (.block 2 (.loop (.seq (.seq (.reg (.one ⟨some s86, none, (.mv (.t s15))⟩
    (.one ⟨some s87, none, (.mv (.t s1))⟩
    (.one ⟨some s88, none, (.len false (.t s87))⟩
    (.one ⟨some s89, none, (.bin false .lss (.t s86) (.t s88))⟩
    (.one ⟨some s90, none, (.mv (.t s89))⟩
    (.one ⟨some s91, some (s90, true), (.mv (.t s15))⟩
    (.one ⟨some s92, some (s90, true), (.bin false .lss (.t s91) (.c (.v (.int .i64 40))))⟩
    (.one ⟨some s93, none, (.pick (.t s90) (.t s92) (.c (.v (.bool false))))⟩
    .done)))))))))
  (.cond (.t s93) .skip (.exit 2)))
  (.seq (.block 3 (.seq (.reg (.one ⟨some s96, none, (.mv (.t s1))⟩
    (.one ⟨some s97, none, (.mv (.t s15))⟩
    (.one ⟨some s98, none, (.iaddr 1 (.t s96) (.t s97))⟩
    (.one ⟨some s99, none, (.load none (.t s98))⟩
    (.one ⟨some s100, none, (.conv .i64 (.t s99))⟩
    (.one ⟨some s101, none, (.bin false .rem (.t s100) (.c (.v (.int .i64 4001))))⟩
    (.one ⟨some s16, none, (.mv (.t s101))⟩
    .done))))))))
  (.seq (.reg (.one ⟨some s103, none, (.mv (.t s7))⟩
    (.one ⟨some s104, none, (.callq 17 [(.t s103)])⟩
    (.one ⟨some s102, none, (.mv (.t s104))⟩
    (.one ⟨some s105, none, (.ext (.t s102) 0)⟩
    (.one ⟨some s106, none, (.ext (.t s102) 1)⟩
    (.one ⟨some s107, none, (.ext (.t s102) 2)⟩
    (.one ⟨some s17, none, (.mv (.t s105))⟩
    (.one ⟨some s18, none, (.mv (.t s106))⟩
    (.one ⟨some s19, none, (.mv (.t s107))⟩
    .done))))))))))
  (.seq (.reg (.one ⟨some s109, none, (.mv (.t s7))⟩
    (.one ⟨some s110, none, (.mv (.t s16))⟩
    (.one ⟨some s111, none, (.mv (.t s2))⟩
    (.one ⟨some s112, none, (.call 18 [(.t s109), (.t s110), (.t s111)])⟩
    (.one ⟨some s108, none, (.mv (.t s112))⟩
    (.one ⟨some s113, none, (.ext (.t s108) 0)⟩
    (.one ⟨some s114, none, (.ext (.t s108) 1)⟩
    (.one ⟨some s20, none, (.new [(.v (.int .i64 0)), (.slice 1 [] .full), (.slice 1 [] .full)])⟩
    (.one ⟨none, none, (.store 3 (.t s20) (.t s113))⟩
    (.one ⟨some s21, none, (.mv (.t s114))⟩
    .done)))))))))))
  (.seq (.seq (.reg (.one ⟨some s115, none, (.mv (.t s21))⟩
    (.one ⟨some s116, none, (.bin false .eql (.t s115) (.c (.v (.int .i64 4))))⟩
    .done)))
  (.cond (.t s116) (.exit 3) .skip))
  (.seq (.reg (.one ⟨some s117, none, (.load (some 3) (.t s20))⟩
    (.one ⟨some s118, none, (.mv (.t s2))⟩
    (.one ⟨some s119, none, (.callq 19 [(.t s117), (.t s118)])⟩
    (.one ⟨some s22, none, (.mv (.t s119))⟩
    .done)))))
  (.seq (.seq (.reg (.one ⟨some s120, none, (.mv (.t s21))⟩
    (.one ⟨some s121, none, (.bin false .neq (.t s120) (.c (.v (.int .i64 0))))⟩
    (.one ⟨some s122, none, (.mv (.t s121))⟩
    (.one ⟨some s123, some (s122, false), (.mv (.t s22))⟩
    (.one ⟨some s124, some (s122, false), (.mv (.t s16))⟩
    (.one ⟨some s125, some (s122, false), (.bin false .gtr (.t s123) (.t s124))⟩
    (.one ⟨some s126, none, (.pick (.t s122) (.c (.v (.bool true))) (.t s125))⟩
    (.one ⟨some s127, none, (.mv (.t s126))⟩
    (.one ⟨some s128, some (s127, false), (.faddr 0 (.t s20))⟩
    (.one ⟨some s129, some (s127, false), (.load none (.t s128))⟩
    (.one ⟨some s130, some (s127, false), (.bin false .geq (.t s129) (.c (.v (.int .i64 2))))⟩
    (.one ⟨some s131, some (s127, false), (.mv (.t s19))⟩
    (.one ⟨some s132, some (s127, false), (.bin true .neq (.t s130) (.t s131))⟩
    (.one ⟨some s133, none, (.pick (.t s127) (.c (.v (.bool true))) (.t s132))⟩
    (.one ⟨some s134, none, (.mv (.t s133))⟩
    (.one ⟨some s135, some (s134, false), (.faddr 0 (.t s20))⟩
    (.one ⟨some s136, some (s134, false), (.load none (.t s135))⟩
    (.one ⟨some s137, some (s134, false), (.bin false .lss (.t s136) (.c (.v (.int .i64 0))))⟩
    (.one ⟨some s138, none, (.pick (.t s134) (.c (.v (.bool true))) (.t s137))⟩
    (.one ⟨some s139, none, (.mv (.t s138))⟩
    (.one ⟨some s140, some (s139, false), (.faddr 0 (.t s20))⟩
    (.one ⟨some s141, some (s139, false), (.load none (.t s140))⟩
    (.one ⟨some s142, some (s139, false), (.bin false .gtr (.t s141) (.c (.v (.int .i64 3))))⟩
    (.one ⟨some s143, none, (.pick (.t s139) (.c (.v (.bool true))) (.t s142))⟩
    (.one ⟨some s144, none, (.mv (.t s143))⟩
    (.one ⟨some s145, some (s144, false), (.faddr 1 (.t s20))⟩
    (.one ⟨some s146, some (s144, false), (.load none (.t s145))⟩
    (.one ⟨some s147, some (s144, false), (.len false (.t s146))⟩
    (.one ⟨some s148, some (s144, false), (.bin false .gtr (.t s147) (.c (.v (.int .i64 24))))⟩
    (.one ⟨some s149, none, (.pick (.t s144) (.c (.v (.bool true))) (.t s148))⟩
    .done)))))))))))))))))))))))))))))))
  (.cond (.t s149) (.seq (.reg (.one ⟨some s6, none, (.mv (.c (.v (.bool false))))⟩
    .done))
  .ret) .skip))
  (.seq (.seq (.reg (.one ⟨some s23, none, (.mv (.c (.v (.int .i64 0))))⟩
    .done))
  (.block 4 (.loop (.seq (.seq (.reg (.one ⟨some s150, none, (.mv (.t s23))⟩
    (.one ⟨some s151, none, (.faddr 1 (.t s20))⟩
    (.one ⟨some s152, none, (.load none (.t s151))⟩
    (.one ⟨some s153, none, (.len false (.t s152))⟩
    (.one ⟨some s154, none, (.bin false .lss (.t s150) (.t s153))⟩
    .done))))))
  (.cond (.t s154) .skip (.exit 4)))
  (.seq (.block 5 (.reg (.one ⟨some s157, none, (.mv (.t s10))⟩
    (.one ⟨some s158, none, (.faddr 1 (.t s20))⟩
    (.one ⟨some s159, none, (.load none (.t s158))⟩
    (.one ⟨some s160, none, (.mv (.t s23))⟩
    (.one ⟨some s161, none, (.iaddr 1 (.t s159) (.t s160))⟩
    (.one ⟨some s162, none, (.load none (.t s161))⟩
    (.one ⟨some s163, none, (.app 1 1 (.t s157) (.t s162))⟩
    (.one ⟨some s10, none, (.mv (.t s163))⟩
    .done))))))))))
  (.reg (.one ⟨some s155, none, (.mv (.t s23))⟩
    (.one ⟨some s156, none, (.bin false .add (.t s155) (.c (.v (.int .i64 1))))⟩
    (.one ⟨some s23, none, (.mv (.t s156))⟩
    .done)))))))))
  (.seq (.reg (.one ⟨some s165, none, (.mv (.t s7))⟩
    (.one ⟨some s166, none, (.callq 17 [(.t s165)])⟩
    (.one ⟨some s164, none, (.mv (.t s166))⟩
    (.one ⟨some s167, none, (.ext (.t s164) 0)⟩
    (.one ⟨some s168, none, (.ext (.t s164) 1)⟩
    (.one ⟨some s169, none, (.ext (.t s164) 2)⟩
    (.one ⟨some s24, none, (.mv (.t s167))⟩
    (.one ⟨some s25, none, (.mv (.t s168))⟩
    (.one ⟨some s26, none, (.mv (.t s169))⟩
    .done))))))))))
  (.seq (.reg (.one ⟨some s170, none, (.faddr 1 (.t s20))⟩
    (.one ⟨some s171, none, (.load none (.t s170))⟩
    (.one ⟨some s172, none, (.len false (.t s171))⟩
    (.one ⟨some s27, none, (.mv (.t s172))⟩
    .done)))))
  (.seq (.seq (.reg (.one ⟨some s173, none, (.faddr 0 (.t s20))⟩
    (.one ⟨some s174, none, (.load none (.t s173))⟩
    (.one ⟨some s175, none, (.bin false .rem (.t s174) (.c (.v (.int .i64 2))))⟩
    (.one ⟨some s176, none, (.bin false .eql (.t s175) (.c (.v (.int .i64 1))))⟩
    .done)))))
  (.cond (.t s176) (.reg (.one ⟨some s177, none, (.mv (.t s27))⟩
    (.one ⟨some s178, none, (.bin false .sub (.t s177) (.c (.v (.int .i64 1))))⟩
    (.one ⟨some s27, none, (.mv (.t s178))⟩
    .done)))) .skip))
  (.seq (.seq (.reg (.one ⟨some s179, none, (.mv (.t s26))⟩
    (.one ⟨some s180, none, (.faddr 0 (.t s20))⟩
    (.one ⟨some s181, none, (.load none (.t s180))⟩
    (.one ⟨some s182, none, (.bin false .rem (.t s181) (.c (.v (.int .i64 2))))⟩
    (.one ⟨some s183, none, (.bin false .eql (.t s182) (.c (.v (.int .i64 1))))⟩
    (.one ⟨some s184, none, (.bin true .neq (.t s179) (.t s183))⟩
    (.one ⟨some s185, none, (.mv (.t s184))⟩
    (.one ⟨some s186, some (s185, false), (.faddr 2 (.t s20))⟩
    (.one ⟨some s187, some (s185, false), (.load none (.t s186))⟩
    (.one ⟨some s188, some (s185, false), (.len false (.t s187))⟩
    (.one ⟨some s189, some (s185, false), (.mv (.t s27))⟩
    (.one ⟨some s190, some (s185, false), (.bin false .neq (.t s188) (.t s189))⟩
    (.one ⟨some s191, none, (.pick (.t s185) (.c (.v (.bool true))) (.t s190))⟩
    (.one ⟨some s192, none, (.mv (.t s191))⟩
    (.one ⟨some s193, some (s192, false), (.faddr 0 (.t s20))⟩
    (.one ⟨some s194, some (s192, false), (.load none (.t s193))⟩
    (.one ⟨some s195, some (s192, false), (.bin false .rem (.t s194) (.c (.v (.int .i64 2))))⟩
    (.one ⟨some s196, some (s192, false), (.bin false .eql (.t s195) (.c (.v (.int .i64 1))))⟩
    (.one ⟨some s197, some (s192, false), (.mv (.t s196))⟩
    (.one ⟨some s198, some (s197, true), (.mv (.t s22))⟩
    (.one ⟨some s199, some (s197, true), (.mv (.t s16))⟩
    (.one ⟨some s200, some (s197, true), (.bin false .neq (.t s198) (.t s199))⟩
    (.one ⟨some s201, some (s192, false), (.pick (.t s197) (.t s200) (.c (.v (.bool false))))⟩
    (.one ⟨some s202, none, (.pick (.t s192) (.c (.v (.bool true))) (.t s201))⟩
    .done)))))))))))))))))))))))))
  (.cond (.t s202) (.seq (.reg (.one ⟨some s6, none, (.mv (.c (.v (.bool false))))⟩
    .done))
  .ret) .skip))
  (.seq (.reg (.one ⟨some s28, none, (.mv (.c (.v (.int .i64 0))))⟩
    .done))
  (.block 6 (.loop (.seq (.seq (.reg (.one ⟨some s203, none, (.mv (.t s28))⟩
    (.one ⟨some s204, none, (.faddr 2 (.t s20))⟩
    (.one ⟨some s205, none, (.load none (.t s204))⟩
    (.one ⟨some s206, none, (.len false (.t s205))⟩
    (.one ⟨some s207, none, (.bin false .lss (.t s203) (.t s206))⟩
    .done))))))
  (.cond (.t s207) .skip (.exit 6)))
  (.seq (.block 7 (.seq (.seq (.reg (.one ⟨some s210, none, (.faddr 2 (.t s20))⟩
    (.one ⟨some s211, none, (.load none (.t s210))⟩
    (.one ⟨some s212, none, (.mv (.t s28))⟩
    (.one ⟨some s213, none, (.iaddr 1 (.t s211) (.t s212))⟩
    (.one ⟨some s214, none, (.load none (.t s213))⟩
    (.one ⟨some s215, none, (.mv (.t s14))⟩
    (.one ⟨some s216, none, (.bin false .leq (.t s214) (.t s215))⟩
    .done))))))))
  (.cond (.t s216) (.seq (.reg (.one ⟨some s6, none, (.mv (.c (.v (.bool false))))⟩
    .done))
  .ret) .skip))
  (.reg (.one ⟨some s217, none, (.faddr 2 (.t s20))⟩
    (.one ⟨some s218, none, (.load none (.t s217))⟩
    (.one ⟨some s219, none, (.mv (.t s28))⟩
    (.one ⟨some s220, none, (.iaddr 1 (.t s218) (.t s219))⟩
    (.one ⟨some s221, none, (.load none (.t s220))⟩
    (.one ⟨some s14, none, (.mv (.t s221))⟩
    .done)))))))))
  (.reg (.one ⟨some s208, none, (.mv (.t s28))⟩
    (.one ⟨some s209, none, (.bin false .add (.t s208) (.c (.v (.int .i64 1))))⟩
    (.one ⟨some s28, none, (.mv (.t s209))⟩
    .done)))))))))))))))))))))
  (.reg (.one ⟨some s94, none, (.mv (.t s15))⟩
    (.one ⟨some s95, none, (.bin false .add (.t s94) (.c (.v (.int .i64 1))))⟩
    (.one ⟨some s15, none, (.mv (.t s95))⟩
    .done)))))))))
  (.seq (.reg (.one ⟨some s222, none, (.callq 15 [])⟩
    (.one ⟨some s223, none, (.mv (.t s222))⟩
    (.one ⟨some s224, some (s223, true), (.mv (.t s10))⟩
    (.one ⟨some s225, some (s223, true), (.len false (.t s224))⟩
    (.one ⟨some s226, some (s223, true), (.mv (.t s9))⟩
    (.one ⟨some s227, some (s223, true), (.len false (.t s226))⟩
    (.one ⟨some s228, some (s223, true), (.bin false .leq (.t s225) (.t s227))⟩
    (.one ⟨some s229, none, (.pick (.t s223) (.t s228) (.c (.v (.bool false))))⟩
    (.one ⟨some s230, none, (.mv (.t s229))⟩
    (.one ⟨some s231, some (s230, true), (.mv (.t s9))⟩
    (.one ⟨some s232, some (s230, true), (.mv (.t s10))⟩
    (.one ⟨some s233, some (s230, true), (.len false (.t s232))⟩
    (.one ⟨some s234, some (s230, true), (.cut 1 (.t s231) none (some (.t s233)) none)⟩
    (.one ⟨some s235, some (s230, true), (.b2s (.t s234))⟩
    (.one ⟨some s236, some (s230, true), (.mv (.t s10))⟩
    (.one ⟨some s237, some (s230, true), (.b2s (.t s236))⟩
    (.one ⟨some s238, some (s230, true), (.bin false .eql (.t s235) (.t s237))⟩
    (.one ⟨some s239, none, (.pick (.t s230) (.t s238) (.c (.v (.bool false))))⟩
    (.one ⟨some s240, none, (.mv (.t s239))⟩
    (.one ⟨some s241, some (s240, true), (.mv (.t s7))⟩
    (.one ⟨some s243, some (s240, true), (.mv (.t s9))⟩
    (.one ⟨some s244, some (s240, true), (.len false (.t s243))⟩
    (.one ⟨some s245, some (s240, true), (.mv (.t s10))⟩
    (.one ⟨some s246, some (s240, true), (.len false (.t s245))⟩
    (.one ⟨some s247, some (s240, true), (.bin false .sub (.t s244) (.t s246))⟩
    (.one ⟨some s242, some (s240, true), (.callq 20 [(.t s241)])⟩
    (.one ⟨some s248, some (s240, true), (.bin false .eql (.t s242) (.t s247))⟩
    (.one ⟨some s249, none, (.pick (.t s240) (.t s248) (.c (.v (.bool false))))⟩
    (.one ⟨some s6, none, (.mv (.t s249))⟩
    .done))))))))))))))))))))))))))))))
  .ret))))))))⟩
theorem ok3 : compF Try.prog c3 Try.f3 = some ir3 := by kernel_rfl
theorem k_bowlinelaw13_CutFits {args : List AVal} {σ : AHeap} {Q : AVal → AHeap → Prop} (hl : Nat.ble args.length 250 = true) (h : argsK (Env.full 9) 0 args fun env => evC Try.prog c3 ir3.body env σ (retQ ir3 Q)) : ACalls Try.prog 3 args σ Q :=
  acalls_of Try.func3 ok3 rfl (Nat.le_of_ble_eq_true hl) h
/- bowlinelaw13.CutOne -/
def c4 : Cfg := ⟨qs, [], 142, []⟩
def ir4 : IFun := ⟨3, [.tmp s6],
  (.seq (.reg (.one ⟨some s6, none, (.mv (.c (.v (.bool false))))⟩
    .done))
  (.seq (.reg (.one ⟨some s14, none, (.callq 14 [(.c (.v (.int .i64 20000)))])⟩
    (.one ⟨some s13, none, (.mv (.t s14))⟩
    (.one ⟨some s15, none, (.ext (.t s13) 0)⟩
    (.one ⟨some s16, none, (.ext (.t s13) 1)⟩
    (.one ⟨some s7, none, (.mv (.t s15))⟩
    (.one ⟨some s8, none, (.mv (.t s16))⟩
    .done)))))))
  (.seq (.seq (.reg (.one ⟨some s17, none, (.mv (.t s8))⟩
    (.one ⟨some s18, none, (.bin false .neq (.t s17) (.c (.v (.int .i64 0))))⟩
    (.one ⟨some s19, none, (.mv (.t s18))⟩
    (.one ⟨some s20, some (s19, false), (.mv (.t s7))⟩
    (.one ⟨some s21, some (s19, false), (.eqNil 1 false (.t s20))⟩
    (.one ⟨some s22, none, (.pick (.t s19) (.c (.v (.bool true))) (.t s21))⟩
    (.one ⟨some s23, none, (.mv (.t s22))⟩
    (.one ⟨some s24, some (s23, false), (.mv (.t s0))⟩
    (.one ⟨some s25, some (s23, false), (.len false (.t s24))⟩
    (.one ⟨some s26, some (s23, false), (.bin false .gtr (.t s25) (.c (.v (.int .i64 1000))))⟩
    (.one ⟨some s27, none, (.pick (.t s23) (.c (.v (.bool true))) (.t s26))⟩
    (.one ⟨some s28, none, (.mv (.t s27))⟩
    (.one ⟨some s29, some (s28, false), (.mv (.t s1))⟩
    (.one ⟨some s30, some (s28, false), (.len false (.t s29))⟩
    (.one ⟨some s31, some (s28, false), (.bin false .gtr (.t s30) (.c (.v (.int .i64 1000))))⟩
    (.one ⟨some s32, none, (.pick (.t s28) (.c (.v (.bool true))) (.t s31))⟩
    (.one ⟨some s33, none, (.mv (.t s32))⟩
    (.one ⟨some s34, some (s33, false), (.mv (.t s0))⟩
    (.one ⟨some s35, some (s33, false), (.len false (.t s34))⟩
    (.one ⟨some s36, some (s33, false), (.bin false .eql (.t s35) (.c (.v (.int .i64 0))))⟩
    (.one ⟨some s37, none, (.pick (.t s33) (.c (.v (.bool true))) (.t s36))⟩
    (.one ⟨some s38, none, (.mv (.t s37))⟩
    (.one ⟨some s39, some (s38, false), (.mv (.t s1))⟩
    (.one ⟨some s40, some (s38, false), (.len false (.t s39))⟩
    (.one ⟨some s41, some (s38, false), (.bin false .eql (.t s40) (.c (.v (.int .i64 0))))⟩
    (.one ⟨some s42, none, (.pick (.t s38) (.c (.v (.bool true))) (.t s41))⟩
    .done)))))))))))))))))))))))))))
  (.cond (.t s42) (.seq (.reg (.one ⟨some s43, none, (.mv (.t s8))⟩
    (.one ⟨some s44, none, (.bin false .eql (.t s43) (.c (.v (.int .i64 0))))⟩
    (.one ⟨some s45, none, (.mv (.t s44))⟩
    (.one ⟨some s46, some (s45, true), (.mv (.t s7))⟩
    (.one ⟨some s47, some (s45, true), (.eqNil 1 true (.t s46))⟩
    (.one ⟨some s48, none, (.pick (.t s45) (.t s47) (.c (.v (.bool false))))⟩
    (.one ⟨some s49, none, (.mv (.t s48))⟩
    (.one ⟨some s50, some (s49, true), (.callq 15 [])⟩
    (.one ⟨some s51, none, (.pick (.t s49) (.t s50) (.c (.v (.bool false))))⟩
    (.one ⟨some s6, none, (.mv (.t s51))⟩
    .done)))))))))))
  .ret) .skip))
  (.seq (.reg (.one ⟨some s52, none, (.mv (.t s7))⟩
    (.one ⟨some s53, none, (.mv (.t s0))⟩
    (.one ⟨some s54, none, (.call 16 [(.t s52), (.t s53)])⟩
    .done))))
  (.seq (.reg (.one ⟨some s55, none, (.mv (.t s7))⟩
    (.one ⟨some s56, none, (.mv (.t s1))⟩
    (.one ⟨some s57, none, (.call 16 [(.t s55), (.t s56)])⟩
    .done))))
  (.seq (.reg (.one ⟨some s59, none, (.mv (.t s7))⟩
    (.one ⟨some s60, none, (.call 18 [(.t s59), (.c (.v (.int .i64 0))), (.c (.v (.int .i64 11)))])⟩
    (.one ⟨some s58, none, (.mv (.t s60))⟩
    (.one ⟨some s61, none, (.ext (.t s58) 0)⟩
    (.one ⟨some s62, none, (.ext (.t s58) 1)⟩
    (.one ⟨some s9, none, (.new [(.v (.int .i64 0)), (.slice 1 [] .full), (.slice 1 [] .full)])⟩
    (.one ⟨none, none, (.store 3 (.t s9) (.t s61))⟩
    (.one ⟨some s10, none, (.mv (.t s62))⟩
    .done)))))))))
  (.seq (.seq (.reg (.one ⟨some s63, none, (.mv (.t s10))⟩
    (.one ⟨some s64, none, (.bin false .neq (.t s63) (.c (.v (.int .i64 4))))⟩
    (.one ⟨some s65, none, (.mv (.t s64))⟩
    (.one ⟨some s66, some (s65, false), (.mv (.t s7))⟩
    (.one ⟨some s67, some (s65, false), (.callq 20 [(.t s66)])⟩
    (.one ⟨some s68, some (s65, false), (.mv (.t s0))⟩
    (.one ⟨some s69, some (s65, false), (.len false (.t s68))⟩
    (.one ⟨some s70, some (s65, false), (.mv (.t s1))⟩
    (.one ⟨some s71, some (s65, false), (.len false (.t s70))⟩
    (.one ⟨some s72, some (s65, false), (.bin false .add (.t s69) (.t s71))⟩
    (.one ⟨some s73, some (s65, false), (.bin false .neq (.t s67) (.t s72))⟩
    (.one ⟨some s74, none, (.pick (.t s65) (.c (.v (.bool true))) (.t s73))⟩
    .done)))))))))))))
  (.cond (.t s74) (.seq (.reg (.one ⟨some s6, none, (.mv (.c (.v (.bool false))))⟩
    .done))
  .ret) .skip))
  (.seq (.seq (.reg (.one ⟨some s75, none, (.mv (.t s2))⟩
    (.one ⟨some s76, none, (.mv (.t s0))⟩
    (.one ⟨some s77, none, (.len false (.t s76))⟩
    (.one ⟨some s78, none, (.bin false .lss (.t s75) (.t s77))⟩
    (.one ⟨some s79, none, (.mv (.t s78))⟩
    (.one ⟨some s80, some (s79, false), (.mv (.t s2))⟩
    (.one ⟨some s81, some (s79, false), (.bin false .gtr (.t s80) (.c (.v (.int .i64 4000))))⟩
    (.one ⟨some s82, none, (.pick (.t s79) (.c (.v (.bool true))) (.t s81))⟩
    .done)))))))))
  (.cond (.t s82) (.seq (.reg (.one ⟨some s83, none, (.callq 15 [])⟩
    (.one ⟨some s6, none, (.mv (.t s83))⟩
    .done)))
  .ret) .skip))
  (.seq (.reg (.one ⟨some s85, none, (.mv (.t s7))⟩
    (.one ⟨some s86, none, (.mv (.t s2))⟩
    (.one ⟨some s87, none, (.call 18 [(.t s85), (.t s86), (.c (.v (.int .i64 11)))])⟩
    (.one ⟨some s84, none, (.mv (.t s87))⟩
    (.one ⟨some s88, none, (.ext (.t s84) 0)⟩
    (.one ⟨some s89, none, (.ext (.t s84) 1)⟩
    (.one ⟨some s11, none, (.new [(.v (.int .i64 0)), (.slice 1 [] .full), (.slice 1 [] .full)])⟩
    (.one ⟨none, none, (.store 3 (.t s11) (.t s88))⟩
    (.one ⟨some s12, none, (.mv (.t s89))⟩
    .done))))))))))
  (.seq (.seq (.reg (.one ⟨some s90, none, (.mv (.t s12))⟩
    (.one ⟨some s91, none, (.bin false .neq (.t s90) (.c (.v (.int .i64 0))))⟩
    (.one ⟨some s92, none, (.mv (.t s91))⟩
    (.one ⟨some s93, some (s92, false), (.faddr 1 (.t s11))⟩
    (.one ⟨some s94, some (s92, false), (.load none (.t s93))⟩
    (.one ⟨some s95, some (s92, false), (.len false (.t s94))⟩
    (.one ⟨some s96, some (s92, false), (.bin false .eql (.t s95) (.c (.v (.int .i64 0))))⟩
    (.one ⟨some s97, none, (.pick (.t s92) (.c (.v (.bool true))) (.t s96))⟩
    (.one ⟨some s98, none, (.mv (.t s97))⟩
    (.one ⟨some s99, some (s98, false), (.faddr 1 (.t s11))⟩
    (.one ⟨some s100, some (s98, false), (.load none (.t s99))⟩
    (.one ⟨some s101, some (s98, false), (.iaddr 1 (.t s100) (.c (.v (.int .i64 0))))⟩
    (.one ⟨some s102, some (s98, false), (.load none (.t s101))⟩
    (.one ⟨some s103, some (s98, false), (.b2s (.t s102))⟩
    (.one ⟨some s104, some (s98, false), (.mv (.t s0))⟩
    (.one ⟨some s105, some (s98, false), (.b2s (.t s104))⟩
    (.one ⟨some s106, some (s98, false), (.bin false .neq (.t s103) (.t s105))⟩
    (.one ⟨some s107, none, (.pick (.t s98) (.c (.v (.bool true))) (.t s106))⟩
    .done)))))))))))))))))))
  (.cond (.t s107) (.seq (.reg (.one ⟨some s6, none, (.mv (.c (.v (.bool false))))⟩
    .done))
  .ret) .skip))
  (.seq (.reg (.one ⟨some s108, none, (.callq 15 [])⟩
    (.one ⟨some s109, none, (.mv (.t s108))⟩
    (.one ⟨some s110, some (s109, true), (.faddr 1 (.t s11))⟩
    (.one ⟨some s111, some (s109, true), (.load none (.t s110))⟩
    (.one ⟨some s112, some (s109, true), (.len false (.t s111))⟩
    (.one ⟨some s113, some (s109, true), (.bin false .eql (.t s112) (.c (.v (.int .i64 2))))⟩
    (.one ⟨some s114, some (s109, true), (.mv (.t s2))⟩
    (.one ⟨some s115, some (s109, true), (.mv (.t s0))⟩
    (.one ⟨some s116, some (s109, true), (.len false (.t s115))⟩
    (.one ⟨some s117, some (s109, true), (.bin false .add (.t s116) (.c (.v (.int .i64 3))))⟩
    (.one ⟨some s118, some (s109, true), (.bin false .geq (.t s114) (.t s117))⟩
    (.one ⟨some s119, some (s109, true), (.bin true .eql (.t s113) (.t s118))⟩
    (.one ⟨some s120, none, (.pick (.t s109) (.t s119) (.c (.v (.bool false))))⟩
    (.one ⟨some s121, none, (.mv (.t s120))⟩
    (.one ⟨some s122, some (s121, true), (.faddr 2 (.t s11))⟩
    (.one ⟨some s123, some (s121, true), (.load none (.t s122))⟩
    (.one ⟨some s124, some (s121, true), (.len false (.t s123))⟩
    (.one ⟨some s125, some (s121, true), (.bin false .geq (.t s124) (.c (.v (.int .i64 1))))⟩
    (.one ⟨some s126, none, (.pick (.t s121) (.t s125) (.c (.v (.bool false))))⟩
    (.one ⟨some s127, none, (.mv (.t s126))⟩
    (.one ⟨some s128, some (s127, true), (.faddr 2 (.t s11))⟩
    (.one ⟨some s129, some (s127, true), (.load none (.t s128))⟩
    (.one ⟨some s130, some (s127, true), (.len false (.t s129))⟩
    (.one ⟨some s131, some (s127, true), (.bin false .eql (.t s130) (.c (.v (.int .i64 2))))⟩
    (.one ⟨some s132, some (s127, true), (.mv (.t s2))⟩
    (.one ⟨some s133, some (s127, true), (.mv (.t s0))⟩
    (.one ⟨some s134, some (s127, true), (.len false (.t s133))⟩
    (.one ⟨some s135, some (s127, true), (.mv (.t s1))⟩
    (.one ⟨some s136, some (s127, true), (.len false (.t s135))⟩
    (.one ⟨some s137, some (s127, true), (.bin false .add (.t s134) (.t s136))⟩
    (.one ⟨some s138, some (s127, true), (.bin false .add (.t s137) (.c (.v (.int .i64 2))))⟩
    (.one ⟨some s139, some (s127, true), (.bin false .geq (.t s132) (.t s138))⟩
    (.one ⟨some s140, some (s127, true), (.bin true .eql (.t s131) (.t s139))⟩
    (.one ⟨some s141, none, (.pick (.t s127) (.t s140) (.c (.v (.bool false))))⟩
    (.one ⟨some s6, none, (.mv (.t s141))⟩
    .done))))))))))))))))))))))))))))))))))))
  .ret)))))))))))⟩
theorem ok4 : compF Try.prog c4 Try.f4 = some ir4 := by kernel_rfl
theorem k_bowlinelaw13_CutOne {args : List AVal} {σ : AHeap} {Q : AVal → AHeap → Prop} (hl : Nat.ble args.length 142 = true) (h : argsK (Env.full 9) 0 args fun env => evC Try.prog c4 ir4.body env σ (retQ ir4 Q)) : ACalls Try.prog 4 args σ Q :=
  acalls_of Try.func4 ok4 rfl (Nat.le_of_ble_eq_true hl) h
/- bowlinelaw13.CutBuilds -/
def c5 : Cfg := ⟨qs, [], 137, []⟩
def ir5 : IFun := ⟨1, [.tmp s2],
  (.seq (.reg (.one ⟨some s2, none, (.mv (.c (.v (.bool false))))⟩
    .done))
  (.seq (.reg (.one ⟨some s19, none, (.callq 14 [(.c (.v (.int .i64 20000)))])⟩
    (.one ⟨some s18, none, (.mv (.t s19))⟩
    (.one ⟨some s20, none, (.ext (.t s18) 0)⟩
    (.one ⟨some s21, none, (.ext (.t s18) 1)⟩
    (.one ⟨some s3, none, (.mv (.t s20))⟩
    (.one ⟨some s4, none, (.mv (.t s21))⟩
    .done)))))))
  (.seq (.seq (.reg (.one ⟨some s22, none, (.mv (.t s4))⟩
    (.one ⟨some s23, none, (.bin false .neq (.t s22) (.c (.v (.int .i64 0))))⟩
    (.one ⟨some s24, none, (.mv (.t s23))⟩
    (.one ⟨some s25, some (s24, false), (.mv (.t s3))⟩
    (.one ⟨some s26, some (s24, false), (.eqNil 1 false (.t s25))⟩
    (.one ⟨some s27, none, (.pick (.t s24) (.c (.v (.bool true))) (.t s26))⟩
    .done)))))))
  (.cond (.t s27) (.seq (.reg (.one ⟨some s2, none, (.mv (.c (.v (.bool false))))⟩
    .done))
  .ret) .skip))
  (.seq (.reg (.one ⟨some s28, none, (.build [(.v (.int .i64 0)), (.slice 1 [] .full), (.slice 1 [] .full), (.slice 1 [] .full)] [(0, 1, (.c (.v (.int .i64 20000))))])⟩
    (.one ⟨some s29, none, (.box 4 (.t s28))⟩
    (.one ⟨some s5, none, (.mv (.t s29))⟩
    .done))))
  (.seq (.seq (.reg (.one ⟨some s6, none, (.mv (.c (.v (.int .i64 0))))⟩
    .done))
  (.block 0 (.loop (.seq (.seq (.reg (.one ⟨some s30, none, (.mv (.t s6))⟩
    (.one ⟨some s31, none, (.mv (.t s0))⟩
    (.one ⟨some s32, none, (.len false (.t s31))⟩
    (.one ⟨some s33, none, (.bin false .lss (.t s30) (.t s32))⟩
    (.one ⟨some s34, none, (.mv (.t s33))⟩
    (.one ⟨some s35, some (s34, true), (.mv (.t s6))⟩
    (.one ⟨some s36, some (s34, true), (.bin false .lss (.t s35) (.c (.v (.int .i64 60))))⟩
    (.one ⟨some s37, none, (.pick (.t s34) (.t s36) (.c (.v (.bool false))))⟩
    .done)))))))))
  (.cond (.t s37) .skip (.exit 0)))
  (.seq (.block 1 (.seq (.reg (.one ⟨some s40, none, (.mv (.t s0))⟩
    (.one ⟨some s41, none, (.mv (.t s6))⟩
    (.one ⟨some s42, none, (.iaddr 3 (.t s40) (.t s41))⟩
    (.one ⟨some s43, none, (.load (some 3) (.t s42))⟩
    (.one ⟨some s7, none, (.new [(.slice 1 [] .full), (.v (.int .i64 0)), (.v (.int .i64 0))])⟩
    (.one ⟨none, none, (.store 3 (.t s7) (.t s43))⟩
    .done)))))))
  (.seq (.seq (.reg (.one ⟨some s44, none, (.faddr 0 (.t s7))⟩
    (.one ⟨some s45, none, (.load none (.t s44))⟩
    (.one ⟨some s46, none, (.len false (.t s45))⟩
    (.one ⟨some s47, none, (.bin false .gtr (.t s46) (.c (.v (.int .i64 1100))))⟩
    .done)))))
  (.cond (.t s47) (.seq (.reg (.one ⟨some s48, none, (.callq 15 [])⟩
    (.one ⟨some s2, none, (.mv (.t s48))⟩
    .done)))
  .ret) .skip))
  (.seq (.seq (.reg (.one ⟨some s49, none, (.faddr 0 (.t s7))⟩
    (.one ⟨some s50, none, (.load none (.t s49))⟩
    (.one ⟨some s51, none, (.len false (.t s50))⟩
    (.one ⟨some s52, none, (.bin false .gtr (.t s51) (.c (.v (.int .i64 0))))⟩
    .done)))))
  (.cond (.t s52) (.seq (.reg (.one ⟨some s53, none, (.mv (.t s3))⟩
    (.one ⟨some s54, none, (.faddr 0 (.t s7))⟩
    (.one ⟨some s55, none, (.load none (.t s54))⟩
    (.one ⟨some s56, none, (.call 16 [(.t s53), (.t s55)])⟩
    .done)))))
  (.seq (.reg (.one ⟨some s57, none, (.mv (.t s5))⟩
    (.one ⟨some s58, none, (.faddr 0 (.t s7))⟩
    (.one ⟨some s59, none, (.load none (.t s58))⟩
    (.one ⟨some s60, none, (.call 21 [(.t s57), (.t s59)])⟩
    .done)))))
  (.exit 1))) .skip))
  (.seq (.reg (.one ⟨some s61, none, (.mv (.t s3))⟩
    (.one ⟨some s62, none, (.faddr 1 (.t s7))⟩
    (.one ⟨some s63, none, (.load none (.t s62))⟩
    (.one ⟨some s64, none, (.faddr 2 (.t s7))⟩
    (.one ⟨some s65, none, (.load none (.t s64))⟩
    (.one ⟨some s66, none, (.callq 22 [(.t s61), (.t s63), (.t s65)])⟩
    (.one ⟨some s8, none, (.mv (.t s66))⟩
    .done))))))))
  (.seq (.reg (.one ⟨some s68, none, (.mv (.t s3))⟩
    (.one ⟨some s69, none, (.faddr 1 (.t s7))⟩
    (.one ⟨some s70, none, (.load none (.t s69))⟩
    (.one ⟨some s71, none, (.faddr 2 (.t s7))⟩
    (.one ⟨some s72, none, (.load none (.t s71))⟩
    (.one ⟨some s73, none, (.call 18 [(.t s68), (.t s70), (.t s72)])⟩
    (.one ⟨some s67, none, (.mv (.t s73))⟩
    (.one ⟨some s74, none, (.ext (.t s67) 0)⟩
    (.one ⟨some s75, none, (.ext (.t s67) 1)⟩
    (.one ⟨some s9, none, (.new [(.v (.int .i64 0)), (.slice 1 [] .full), (.slice 1 [] .full)])⟩
    (.one ⟨none, none, (.store 3 (.t s9) (.t s74))⟩
    (.one ⟨some s10, none, (.mv (.t s75))⟩
    .done)))))))))))))
  (.seq (.reg (.one ⟨some s77, none, (.mv (.t s5))⟩
    (.one ⟨some s78, none, (.faddr 1 (.t s7))⟩
    (.one ⟨some s79, none, (.load none (.t s78))⟩
    (.one ⟨some s80, none, (.faddr 2 (.t s7))⟩
    (.one ⟨some s81, none, (.load none (.t s80))⟩
    (.one ⟨some s82, none, (.call 23 [(.t s77), (.t s79), (.t s81)])⟩
    (.one ⟨some s76, none, (.mv (.t s82))⟩
    (.one ⟨some s83, none, (.ext (.t s76) 0)⟩
    (.one ⟨some s84, none, (.ext (.t s76) 1)⟩
    (.one ⟨some s11, none, (.new [(.v (.int .i64 0)), (.slice 1 [] .full), (.slice 1 [] .full)])⟩
    (.one ⟨none, none, (.store 3 (.t s11) (.t s83))⟩
    (.one ⟨some s12, none, (.mv (.t s84))⟩
    .done)))))))))))))
  (.seq (.reg (.one ⟨some s85, none, (.mv (.t s10))⟩
    (.one ⟨some s86, none, (.mv (.t s12))⟩
    (.one ⟨some s87, none, (.bin false .neq (.t s85) (.t s86))⟩
    (.one ⟨some s88, none, (.mv (.t s87))⟩
    (.one ⟨some s89, some (s88, false), (.load (some 3) (.t s9))⟩
    (.one ⟨some s90, some (s88, false), (.load (some 3) (.t s11))⟩
    (.one ⟨some s91, some (s88, false), (.callq 24 [(.t s89), (.t s90)])⟩
    (.one ⟨some s92, some (s88, false), (.not (.t s91))⟩
    (.one ⟨some s93, none, (.pick (.t s88) (.c (.v (.bool true))) (.t s92))⟩
    (.one ⟨some s94, none, (.mv (.t s93))⟩
    (.one ⟨some s95, some (s94, false), (.mv (.t s8))⟩
    (.one ⟨some s96, some (s94, false), (.mv (.t s12))⟩
    (.one ⟨some s97, some (s94, false), (.bin false .eql (.t s96) (.c (.v (.int .i64 0))))⟩
    (.one ⟨some s98, some (s94, false), (.bin true .neq (.t s95) (.t s97))⟩
    (.one ⟨some s99, none, (.pick (.t s94) (.c (.v (.bool true))) (.t s98))⟩
    (.one ⟨some s100, none, (.mv (.t s99))⟩
    (.one ⟨some s101, some (s100, false), (.mv (.t s3))⟩
    (.one ⟨some s102, some (s100, false), (.callq 20 [(.t s101)])⟩
    (.one ⟨some s103, some (s100, false), (.mv (.t s5))⟩
    (.one ⟨some s104, some (s100, false), (.callq 25 [(.t s103)])⟩
    (.one ⟨some s105, some (s100, false), (.bin false .neq (.t s102) (.t s104))⟩
    (.one ⟨some s106, none, (.pick (.t s100) (.c (.v (.bool true))) (.t s105))⟩
    .done)))))))))))))))))))))))
  (.cond (.t s106) (.seq (.reg (.one ⟨some s2, none, (.mv (.c (.v (.bool false))))⟩
    .done))
  .ret) .skip)))))))))
  (.reg (.one ⟨some s38, none, (.mv (.t s6))⟩
    (.one ⟨some s39, none, (.bin false .add (.t s38) (.c (.v (.int .i64 1))))⟩
    (.one ⟨some s6, none, (.mv (.t s39))⟩
    .done)))))))))
  (.seq (.reg (.one ⟨some s13, none, (.new [(.v (.int .i64 0)), (.slice 2 [] .full), (.v (.int .i64 0)), (.v (.int .u64 0)), (.v (.int .i64 0))])⟩
    .done))
  (.seq (.reg (.one ⟨some s108, none, (.call 18 [(.c (.v (.pointer none))), (.c (.v (.int .i64 5))), (.c (.v (.int .i64 11)))])⟩
    (.one ⟨some s107, none, (.mv (.t s108))⟩
    (.one ⟨some s109, none, (.ext (.t s107) 0)⟩
    (.one ⟨some s110, none, (.ext (.t s107) 1)⟩
    (.one ⟨some s14, none, (.new [(.v (.int .i64 0)), (.slice 1 [] .full), (.slice 1 [] .full)])⟩
    (.one ⟨none, none, (.store 3 (.t s14) (.t s109))⟩
    (.one ⟨some s15, none, (.mv (.t s110))⟩
    .done))))))))
  (.seq (.reg (.one ⟨some s112, none, (.call 18 [(.t s13), (.c (.v (.int .i64 5))), (.c (.v (.int .i64 11)))])⟩
    (.one ⟨some s111, none, (.mv (.t s112))⟩
    (.one ⟨some s113, none, (.ext (.t s111) 0)⟩
    (.one ⟨some s114, none, (.ext (.t s111) 1)⟩
    (.one ⟨some s16, none, (.new [(.v (.int .i64 0)), (.slice 1 [] .full), (.slice 1 [] .full)])⟩
    (.one ⟨none, none, (.store 3 (.t s16) (.t s113))⟩
    (.one ⟨some s17, none, (.mv (.t s114))⟩
    .done))))))))
  (.seq (.reg (.one ⟨some s115, none, (.callq 15 [])⟩
    (.one ⟨some s116, none, (.mv (.t s115))⟩
    (.one ⟨some s117, some (s116, true), (.mv (.t s15))⟩
    (.one ⟨some s118, some (s116, true), (.bin false .eql (.t s117) (.c (.v (.int .i64 6))))⟩
    (.one ⟨some s119, none, (.pick (.t s116) (.t s118) (.c (.v (.bool false))))⟩
    (.one ⟨some s120, none, (.mv (.t s119))⟩
    (.one ⟨some s121, some (s120, true), (.mv (.t s17))⟩
    (.one ⟨some s122, some (s120, true), (.bin false .eql (.t s121) (.c (.v (.int .i64 6))))⟩
    (.one ⟨some s123, none, (.pick (.t s120) (.t s122) (.c (.v (.bool false))))⟩
    (.one ⟨some s124, none, (.mv (.t s123))⟩
    (.one ⟨some s125, some (s124, true), (.callq 22 [(.c (.v (.pointer none))), (.c (.v (.int .i64 5))), (.c (.v (.int .i64 11)))])⟩
    (.one ⟨some s126, some (s124, true), (.not (.t s125))⟩
    (.one ⟨some s127, none, (.pick (.t s124) (.t s126) (.c (.v (.bool false))))⟩
    (.one ⟨some s128, none, (.mv (.t s127))⟩
    (.one ⟨some s129, some (s128, true), (.callq 22 [(.t s13), (.c (.v (.int .i64 5))), (.c (.v (.int .i64 11)))])⟩
    (.one ⟨some s130, some (s128, true), (.not (.t s129))⟩
    (.one ⟨some s131, none, (.pick (.t s128) (.t s130) (.c (.v (.bool false))))⟩
    (.one ⟨some s132, none, (.mv (.t s131))⟩
    (.one ⟨some s133, some (s132, true), (.build [(.v (.int .i64 0)), (.slice 1 [] .full), (.slice 1 [] .full)] [])⟩
    (.one ⟨some s134, some (s132, true), (.callq 19 [(.t s133), (.c (.v (.int .i64 11)))])⟩
    (.one ⟨some s135, some (s132, true), (.bin false .eql (.t s134) (.c (.v (.int .i64 0))))⟩
    (.one ⟨some s136, none, (.pick (.t s132) (.t s135) (.c (.v (.bool false))))⟩
    (.one ⟨some s2, none, (.mv (.t s136))⟩
    .done))))))))))))))))))))))))
  .ret)))))))))⟩
theorem ok5 : compF Try.prog c5 Try.f5 = some ir5 := by kernel_rfl
theorem k_bowlinelaw13_CutBuilds {args : List AVal} {σ : AHeap} {Q : AVal → AHeap → Prop} (hl : Nat.ble args.length 137 = true) (h : argsK (Env.full 9) 0 args fun env => evC Try.prog c5 ir5.body env σ (retQ ir5 Q)) : ACalls Try.prog 5 args σ Q :=
  acalls_of Try.func5 ok5 rfl (Nat.le_of_ble_eq_true hl) h
/- bowlinelaw13.alive -/
def c15 : Cfg := ⟨qs, [], 111, [22, 26, 30]⟩
def ir15 : IFun := ⟨0, [.tmp s0],
  (.seq (.reg (.one ⟨some s0, none, (.mv (.c (.v (.bool false))))⟩
    .done))
  (.seq (.reg (.one ⟨some s12, none, (.callq 14 [(.c (.v (.int .i64 100)))])⟩
    (.one ⟨some s11, none, (.mv (.t s12))⟩
    (.one ⟨some s13, none, (.ext (.t s11) 0)⟩
    (.one ⟨some s14, none, (.ext (.t s11) 1)⟩
    (.one ⟨some s1, none, (.mv (.t s13))⟩
    (.one ⟨some s2, none, (.mv (.t s14))⟩
    .done)))))))
  (.seq (.seq (.reg (.one ⟨some s15, none, (.mv (.t s2))⟩
    (.one ⟨some s16, none, (.bin false .neq (.t s15) (.c (.v (.int .i64 0))))⟩
    (.one ⟨some s17, none, (.mv (.t s16))⟩
    (.one ⟨some s18, some (s17, false), (.mv (.t s1))⟩
    (.one ⟨some s19, some (s17, false), (.eqNil 1 false (.t s18))⟩
    (.one ⟨some s20, none, (.pick (.t s17) (.c (.v (.bool true))) (.t s19))⟩
    .done)))))))
  (.cond (.t s20) (.seq (.reg (.one ⟨some s0, none, (.mv (.c (.v (.bool false))))⟩
    .done))
  .ret) .skip))
  (.seq (.reg (.one ⟨some s21, none, (.mv (.t s1))⟩
    (.one ⟨some s22, none, (.rowT 1 [(.c (.v (.int .u8 97))), (.c (.v (.int .u8 98)))])⟩
    (.one ⟨some s23, none, (.mark (.t s22))⟩
    (.one ⟨some s24, none, (.call 16 [(.t s21), (.t s23)])⟩
    .done)))))
  (.seq (.reg (.one ⟨some s25, none, (.mv (.t s1))⟩
    (.one ⟨some s26, none, (.rowT 1 [(.c (.v (.int .u8 99)))])⟩
    (.one ⟨some s27, none, (.mark (.t s26))⟩
    (.one ⟨some s28, none, (.call 16 [(.t s25), (.t s27)])⟩
    .done)))))
  (.seq (.reg (.one ⟨some s29, none, (.mv (.t s1))⟩
    (.one ⟨some s30, none, (.rowT 1 [(.c (.v (.int .u8 100))), (.c (.v (.int .u8 101))), (.c (.v (.int .u8 102)))])⟩
    (.one ⟨some s31, none, (.mark (.t s30))⟩
    (.one ⟨some s32, none, (.call 16 [(.t s29), (.t s31)])⟩
    .done)))))
  (.seq (.reg (.one ⟨some s34, none, (.mv (.t s1))⟩
    (.one ⟨some s35, none, (.call 18 [(.t s34), (.c (.v (.int .i64 5))), (.c (.v (.int .i64 11)))])⟩
    (.one ⟨some s33, none, (.mv (.t s35))⟩
    (.one ⟨some s36, none, (.ext (.t s33) 0)⟩
    (.one ⟨some s37, none, (.ext (.t s33) 1)⟩
    (.one ⟨some s3, none, (.new [(.v (.int .i64 0)), (.slice 1 [] .full), (.slice 1 [] .full)])⟩
    (.one ⟨none, none, (.store 3 (.t s3) (.t s36))⟩
    (.one ⟨some s4, none, (.mv (.t s37))⟩
    .done)))))))))
  (.seq (.reg (.one ⟨some s39, none, (.mv (.t s1))⟩
    (.one ⟨some s40, none, (.call 18 [(.t s39), (.c (.v (.int .i64 2))), (.c (.v (.int .i64 11)))])⟩
    (.one ⟨some s38, none, (.mv (.t s40))⟩
    (.one ⟨some s41, none, (.ext (.t s38) 0)⟩
    (.one ⟨some s42, none, (.ext (.t s38) 1)⟩
    (.one ⟨some s5, none, (.new [(.v (.int .i64 0)), (.slice 1 [] .full), (.slice 1 [] .full)])⟩
    (.one ⟨none, none, (.store 3 (.t s5) (.t s41))⟩
    (.one ⟨some s6, none, (.mv (.t s42))⟩
    .done)))))))))
  (.seq (.reg (.one ⟨some s44, none, (.mv (.t s1))⟩
    (.one ⟨some s45, none, (.call 18 [(.t s44), (.c (.v (.int .i64 9))), (.c (.v (.int .i64 11)))])⟩
    (.one ⟨some s43, none, (.mv (.t s45))⟩
    (.one ⟨some s46, none, (.ext (.t s43) 0)⟩
    (.one ⟨some s47, none, (.ext (.t s43) 1)⟩
    (.one ⟨some s7, none, (.new [(.v (.int .i64 0)), (.slice 1 [] .full), (.slice 1 [] .full)])⟩
    (.one ⟨none, none, (.store 3 (.t s7) (.t s46))⟩
    (.one ⟨some s8, none, (.mv (.t s47))⟩
    .done)))))))))
  (.seq (.reg (.one ⟨some s49, none, (.mv (.t s1))⟩
    (.one ⟨some s50, none, (.call 18 [(.t s49), (.c (.v (.int .i64 9))), (.c (.v (.int .i64 11)))])⟩
    (.one ⟨some s48, none, (.mv (.t s50))⟩
    (.one ⟨some s51, none, (.ext (.t s48) 0)⟩
    (.one ⟨some s52, none, (.ext (.t s48) 1)⟩
    (.one ⟨some s9, none, (.new [(.v (.int .i64 0)), (.slice 1 [] .full), (.slice 1 [] .full)])⟩
    (.one ⟨none, none, (.store 3 (.t s9) (.t s51))⟩
    (.one ⟨some s10, none, (.mv (.t s52))⟩
    .done)))))))))
  (.seq (.reg (.one ⟨some s53, none, (.mv (.t s4))⟩
    (.one ⟨some s54, none, (.bin false .eql (.t s53) (.c (.v (.int .i64 0))))⟩
    (.one ⟨some s55, none, (.mv (.t s54))⟩
    (.one ⟨some s56, some (s55, true), (.faddr 1 (.t s3))⟩
    (.one ⟨some s57, some (s55, true), (.load none (.t s56))⟩
    (.one ⟨some s58, some (s55, true), (.len false (.t s57))⟩
    (.one ⟨some s59, some (s55, true), (.bin false .eql (.t s58) (.c (.v (.int .i64 2))))⟩
    (.one ⟨some s60, none, (.pick (.t s55) (.t s59) (.c (.v (.bool false))))⟩
    (.one ⟨some s61, none, (.mv (.t s60))⟩
    (.one ⟨some s62, some (s61, true), (.faddr 2 (.t s3))⟩
    (.one ⟨some s63, some (s61, true), (.load none (.t s62))⟩
    (.one ⟨some s64, some (s61, true), (.len false (.t s63))⟩
    (.one ⟨some s65, some (s61, true), (.bin false .eql (.t s64) (.c (.v (.int .i64 2))))⟩
    (.one ⟨some s66, none, (.pick (.t s61) (.t s65) (.c (.v (.bool false))))⟩
    (.one ⟨some s67, none, (.mv (.t s66))⟩
    (.one ⟨some s68, some (s67, true), (.faddr 0 (.t s3))⟩
    (.one ⟨some s69, some (s67, true), (.load none (.t s68))⟩
    (.one ⟨some s70, some (s67, true), (.bin false .eql (.t s69) (.c (.v (.int .i64 0))))⟩
    (.one ⟨some s71, none, (.pick (.t s67) (.t s70) (.c (.v (.bool false))))⟩
    (.one ⟨some s72, none, (.mv (.t s71))⟩
    (.one ⟨some s73, some (s72, true), (.mv (.t s6))⟩
    (.one ⟨some s74, some (s72, true), (.bin false .eql (.t s73) (.c (.v (.int .i64 0))))⟩
    (.one ⟨some s75, none, (.pick (.t s72) (.t s74) (.c (.v (.bool false))))⟩
    (.one ⟨some s76, none, (.mv (.t s75))⟩
    (.one ⟨some s77, some (s76, true), (.faddr 0 (.t s5))⟩
    (.one ⟨some s78, some (s76, true), (.load none (.t s77))⟩
    (.one ⟨some s79, some (s76, true), (.bin false .eql (.t s78) (.c (.v (.int .i64 1))))⟩
    (.one ⟨some s80, none, (.pick (.t s76) (.t s79) (.c (.v (.bool false))))⟩
    (.one ⟨some s81, none, (.mv (.t s80))⟩
    (.one ⟨some s82, some (s81, true), (.faddr 2 (.t s5))⟩
    (.one ⟨some s83, some (s81, true), (.load none (.t s82))⟩
    (.one ⟨some s84, some (s81, true), (.len false (.t s83))⟩
    (.one ⟨some s85, some (s81, true), (.bin false .eql (.t s84) (.c (.v (.int .i64 0))))⟩
    (.one ⟨some s86, none, (.pick (.t s81) (.t s85) (.c (.v (.bool false))))⟩
    (.one ⟨some s87, none, (.mv (.t s86))⟩
    (.one ⟨some s88, some (s87, true), (.mv (.t s8))⟩
    (.one ⟨some s89, some (s87, true), (.bin false .eql (.t s88) (.c (.v (.int .i64 0))))⟩
    (.one ⟨some s90, none, (.pick (.t s87) (.t s89) (.c (.v (.bool false))))⟩
    (.one ⟨some s91, none, (.mv (.t s90))⟩
    (.one ⟨some s92, some (s91, true), (.faddr 0 (.t s7))⟩
    (.one ⟨some s93, some (s91, true), (.load none (.t s92))⟩
    (.one ⟨some s94, some (s91, true), (.bin false .eql (.t s93) (.c (.v (.int .i64 2))))⟩
    (.one ⟨some s95, none, (.pick (.t s91) (.t s94) (.c (.v (.bool false))))⟩
    (.one ⟨some s96, none, (.mv (.t s95))⟩
    (.one ⟨some s97, some (s96, true), (.faddr 2 (.t s7))⟩
    (.one ⟨some s98, some (s96, true), (.load none (.t s97))⟩
    (.one ⟨some s99, some (s96, true), (.len false (.t s98))⟩
    (.one ⟨some s100, some (s96, true), (.bin false .eql (.t s99) (.c (.v (.int .i64 1))))⟩
    (.one ⟨some s101, none, (.pick (.t s96) (.t s100) (.c (.v (.bool false))))⟩
    (.one ⟨some s102, none, (.mv (.t s101))⟩
    (.one ⟨some s103, some (s102, true), (.mv (.t s10))⟩
    (.one ⟨some s104, some (s102, true), (.bin false .eql (.t s103) (.c (.v (.int .i64 4))))⟩
    (.one ⟨some s105, none, (.pick (.t s102) (.t s104) (.c (.v (.bool false))))⟩
    (.one ⟨some s106, none, (.mv (.t s105))⟩
    (.one ⟨some s107, some (s106, true), (.load (some 3) (.t s3))⟩
    (.one ⟨some s108, some (s106, true), (.callq 19 [(.t s107), (.c (.v (.int .i64 11)))])⟩
    (.one ⟨some s109, some (s106, true), (.bin false .eql (.t s108) (.c (.v (.int .i64 5))))⟩
    (.one ⟨some s110, none, (.pick (.t s106) (.t s109) (.c (.v (.bool false))))⟩
    (.one ⟨some s0, none, (.mv (.t s110))⟩
    .done))))))))))))))))))))))))))))))))))))))))))))))))))))))))))))
  .ret)))))))))))⟩
theorem ok15 : compF Try.prog c15 Try.f15 = some ir15 := by kernel_rfl
theorem k_bowlinelaw13_alive {args : List AVal} {σ : AHeap} {Q : AVal → AHeap → Prop} (hl : Nat.ble args.length 111 = true) (h : argsK (Env.full 9) 0 args fun env => evC Try.prog c15 ir15.body env σ (retQ ir15 Q)) : ACalls Try.prog 15 args σ Q :=
  acalls_of Try.func15 ok15 rfl (Nat.le_of_ble_eq_true hl) h
/- bowlinelaw13.Same -/
def c24 : Cfg := ⟨qs, [], 46, []⟩
def ir24 : IFun := ⟨2, [.tmp s4],
  (.seq (.reg (.one ⟨some s2, none, (.box 3 (.t s0))⟩
    (.one ⟨some s3, none, (.box 3 (.t s1))⟩
    (.one ⟨some s4, none, (.mv (.c (.v (.bool false))))⟩
    .done))))
  (.seq (.seq (.reg (.one ⟨some s6, none, (.faddr 0 (.t s2))⟩
    (.one ⟨some s7, none, (.load none (.t s6))⟩
    (.one ⟨some s8, none, (.faddr 0 (.t s3))⟩
    (.one ⟨some s9, none, (.load none (.t s8))⟩
    (.one ⟨some s10, none, (.bin false .neq (.t s7) (.t s9))⟩
    (.one ⟨some s11, none, (.mv (.t s10))⟩
    (.one ⟨some s12, some (s11, false), (.faddr 1 (.t s2))⟩
    (.one ⟨some s13, some (s11, false), (.load none (.t s12))⟩
    (.one ⟨some s14, some (s11, false), (.faddr 1 (.t s3))⟩
    (.one ⟨some s15, some (s11, false), (.load none (.t s14))⟩
    (.one ⟨some s16, some (s11, false), (.callq 78 [(.t s13), (.t s15)])⟩
    (.one ⟨some s17, some (s11, false), (.not (.t s16))⟩
    (.one ⟨some s18, none, (.pick (.t s11) (.c (.v (.bool true))) (.t s17))⟩
    (.one ⟨some s19, none, (.mv (.t s18))⟩
    (.one ⟨some s20, some (s19, false), (.faddr 2 (.t s2))⟩
    (.one ⟨some s21, some (s19, false), (.load none (.t s20))⟩
    (.one ⟨some s22, some (s19, false), (.len false (.t s21))⟩
    (.one ⟨some s23, some (s19, false), (.faddr 2 (.t s3))⟩
    (.one ⟨some s24, some (s19, false), (.load none (.t s23))⟩
    (.one ⟨some s25, some (s19, false), (.len false (.t s24))⟩
    (.one ⟨some s26, some (s19, false), (.bin false .neq (.t s22) (.t s25))⟩
    (.one ⟨some s27, none, (.pick (.t s19) (.c (.v (.bool true))) (.t s26))⟩
    .done)))))))))))))))))))))))
  (.cond (.t s27) (.seq (.reg (.one ⟨some s4, none, (.mv (.c (.v (.bool false))))⟩
    .done))
  .ret) .skip))
  (.seq (.seq (.reg (.one ⟨some s5, none, (.mv (.c (.v (.int .i64 0))))⟩
    .done))
  (.block 0 (.loop (.seq (.seq (.reg (.one ⟨some s28, none, (.mv (.t s5))⟩
    (.one ⟨some s29, none, (.faddr 2 (.t s3))⟩
    (.one ⟨some s30, none, (.load none (.t s29))⟩
    (.one ⟨some s31, none, (.len false (.t s30))⟩
    (.one ⟨some s32, none, (.bin false .lss (.t s28) (.t s31))⟩
    .done))))))
  (.cond (.t s32) .skip (.exit 0)))
  (.seq (.block 1 (.seq (.reg (.one ⟨some s35, none, (.faddr 2 (.t s2))⟩
    (.one ⟨some s36, none, (.load none (.t s35))⟩
    (.one ⟨some s37, none, (.mv (.t s5))⟩
    (.one ⟨some s38, none, (.iaddr 1 (.t s36) (.t s37))⟩
    (.one ⟨some s39, none, (.load none (.t s38))⟩
    (.one ⟨some s40, none, (.faddr 2 (.t s3))⟩
    (.one ⟨some s41, none, (.load none (.t s40))⟩
    (.one ⟨some s42, none, (.mv (.t s5))⟩
    (.one ⟨some s43, none, (.iaddr 1 (.t s41) (.t s42))⟩
    (.one ⟨some s44, none, (.load none (.t s43))⟩
    (.one ⟨some s45, none, (.bin false .neq (.t s39) (.t s44))⟩
    .done))))))))))))
  (.cond (.t s45) (.seq (.reg (.one ⟨some s4, none, (.mv (.c (.v (.bool false))))⟩
    .done))
  .ret) .skip)))
  (.reg (.one ⟨some s33, none, (.mv (.t s5))⟩
    (.one ⟨some s34, none, (.bin false .add (.t s33) (.c (.v (.int .i64 1))))⟩
    (.one ⟨some s5, none, (.mv (.t s34))⟩
    .done)))))))))
  (.seq (.reg (.one ⟨some s4, none, (.mv (.c (.v (.bool true))))⟩
    .done))
  .ret))))⟩
theorem ok24 : compF Try.prog c24 Try.f24 = some ir24 := by kernel_rfl
theorem k_bowlinelaw13_Same {args : List AVal} {σ : AHeap} {Q : AVal → AHeap → Prop} (hl : Nat.ble args.length 46 = true) (h : argsK (Env.full 9) 0 args fun env => evC Try.prog c24 ir24.body env σ (retQ ir24 Q)) : ACalls Try.prog 24 args σ Q :=
  acalls_of Try.func24 ok24 rfl (Nat.le_of_ble_eq_true hl) h
end Go.Proofs.Ytnfdgccmpglbhaa
/-
  Cuts: sizes, and what must come of fixed calls.
-/
namespace Go.Proofs.Ytnfdgccmpglbhaa
set_option linter.unusedVariables false
set_option linter.unusedSimpArgs false
open Go Go.Am

def bytesC (F : List (List UInt8)) (w : Int) : Int := if widthOk w = false ∨ F.length = 0 then 0 else sizeV ((F.length : Int) - 1) w + total F
theorem cBytes (p : Pc) (w : Int) (σ : AHeap) (h : total p.2.1 ≤ 1000000000) (hl : p.2.1.length ≤ 1000000000) : ACalls Try.prog i_cut_Bytes [pieceV p, i64v w] σ fun v σ' => v = i64v (bytesC p.2.1 w) ∧ σ' = σ := by
  obtain ⟨fi, F, D⟩ := p
  dsimp only at h hl ⊢
  refine k_cut_Bytes rfl ?_
  ((conv => whnf); (repeat ((first | with_reducible refine abr_true rfl ?_ | with_reducible refine abr_false rfl ?_ | with_reducible refine abr_yes rfl ?_ | refine abr_yes (by decide) ?_ | refine abr_no (by decide) ?_ | with_reducible refine abr_same_ne ?_); (conv => whnf))))
  refine anew rfl fun id hid => ?_
  generalize hσ0 : upd σ id (.cells (pieceV (fi, F, D)).cells) = σ0
  have hs : Sub σ0 σ := by rw [← hσ0]; exact Sub.upd_fresh _ hid
  have hc : σ0 id = some (.cells [i64v fi, lists .none F, u64s .none D]) := by rw [← hσ0]; exact upd_same _ _ _
  clear hσ0
  ((conv => whnf); (repeat ((first | with_reducible refine abr_true rfl ?_ | with_reducible refine abr_false rfl ?_ | with_reducible refine abr_yes rfl ?_ | refine abr_yes (by decide) ?_ | refine abr_no (by decide) ?_ | with_reducible refine abr_same_ne ?_); (conv => whnf))))
  refine acall (cIsWidth w _) ?_
  rintro _ σ_ ⟨rfl, e_⟩
  obtain rfl := e_.symm
  refine ⟨?_, Ext.refl _⟩
  ((conv => whnf); (repeat ((first | with_reducible refine abr_true rfl ?_ | with_reducible refine abr_false rfl ?_ | with_reducible refine abr_yes rfl ?_ | refine abr_yes (by decide) ?_ | refine abr_no (by decide) ?_ | with_reducible refine abr_same_ne ?_); (conv => whnf))))
  cases hw : widthOk w with
  | false =>
    ((conv => whnf); (repeat ((first | with_reducible refine abr_true rfl ?_ | with_reducible refine abr_false rfl ?_ | with_reducible refine abr_yes rfl ?_ | refine abr_yes (by decide) ?_ | refine abr_no (by decide) ?_ | with_reducible refine abr_same_ne ?_); (conv => whnf))))
    exact aret (VLe.refl _) hs ⟨by unfold bytesC; rw [if_pos (.inl hw)], rfl⟩
  | true =>
    ((conv => whnf); (repeat ((first | with_reducible refine abr_true rfl ?_ | with_reducible refine abr_false rfl ?_ | with_reducible refine abr_yes rfl ?_ | refine abr_yes (by decide) ?_ | refine abr_no (by decide) ?_ | with_reducible refine abr_same_ne ?_); (conv => whnf))))
    (repeat ((first | refine aload (by (repeat (first | with_reducible exact upd_same _ _ _ | assumption | rw [upd_ne _ _ (by first | assumption | (apply Ne.symm; assumption))]))) rfl ?_ | refine afit_i64 (by omega) ?_ | refine arem_nonneg (by omega) (by omega) ?_ | refine adiv_i64 (by omega) (by omega) ?_ | refine abr_yes (by omega) ?_ | refine abr_no (by omega) ?_ | refine amin ?_ | refine amax ?_ | refine afit_u64 (by omega) ?_ | refine afit_u8 (by omega) ?_ | rw [List.length_map]); ((conv => whnf); (repeat ((first | with_reducible refine abr_true rfl ?_ | with_reducible refine abr_false rfl ?_ | with_reducible refine abr_yes rfl ?_ | refine abr_yes (by decide) ?_ | refine abr_no (by decide) ?_ | with_reducible refine abr_same_ne ?_); (conv => whnf))))))
    by_cases h0 : F.length = 0
    · (repeat ((first | refine aload (by (repeat (first | with_reducible exact upd_same _ _ _ | assumption | rw [upd_ne _ _ (by first | assumption | (apply Ne.symm; assumption))]))) rfl ?_ | refine afit_i64 (by omega) ?_ | refine arem_nonneg (by omega) (by omega) ?_ | refine adiv_i64 (by omega) (by omega) ?_ | refine abr_yes (by omega) ?_ | refine abr_no (by omega) ?_ | refine amin ?_ | refine amax ?_ | refine afit_u64 (by omega) ?_ | refine afit_u8 (by omega) ?_ | rw [List.length_map]); ((conv => whnf); (repeat ((first | with_reducible refine abr_true rfl ?_ | with_reducible refine abr_false rfl ?_ | with_reducible refine abr_yes rfl ?_ | refine abr_yes (by decide) ?_ | refine abr_no (by decide) ?_ | with_reducible refine abr_same_ne ?_); (conv => whnf))))))
      exact aret (VLe.refl _) hs ⟨by unfold bytesC; rw [if_pos (.inr h0)], rfl⟩
    · (repeat ((first | refine aload (by (repeat (first | with_reducible exact upd_same _ _ _ | assumption | rw [upd_ne _ _ (by first | assumption | (apply Ne.symm; assumption))]))) rfl ?_ | refine afit_i64 (by omega) ?_ | refine arem_nonneg (by omega) (by omega) ?_ | refine adiv_i64 (by omega) (by omega) ?_ | refine abr_yes (by omega) ?_ | refine abr_no (by omega) ?_ | refine amin ?_ | refine amax ?_ | refine afit_u64 (by omega) ?_ | refine afit_u8 (by omega) ?_ | rw [List.length_map]); ((conv => whnf); (repeat ((first | with_reducible refine abr_true rfl ?_ | with_reducible refine abr_false rfl ?_ | with_reducible refine abr_yes rfl ?_ | refine abr_yes (by decide) ?_ | refine abr_no (by decide) ?_ | with_reducible refine abr_same_ne ?_); (conv => whnf))))))
      refine acall (lSize ((F.length : Int) - 1) w _) ?_
      rintro _ σ_ ⟨rfl, e_⟩
      obtain rfl := e_.symm
      refine ⟨?_, Ext.refl _⟩
      ((conv => whnf); (repeat ((first | with_reducible refine abr_true rfl ?_ | with_reducible refine abr_false rfl ?_ | with_reducible refine abr_yes rfl ?_ | refine abr_yes (by decide) ?_ | refine abr_no (by decide) ?_ | with_reducible refine abr_same_ne ?_); (conv => whnf))))
      have hsz := sizeV_range ((F.length : Int) - 1) w
      (repeat ((first | refine aload (by (repeat (first | with_reducible exact upd_same _ _ _ | assumption | rw [upd_ne _ _ (by first | assumption | (apply Ne.symm; assumption))]))) rfl ?_ | refine afit_i64 (by omega) ?_ | refine arem_nonneg (by omega) (by omega) ?_ | refine adiv_i64 (by omega) (by omega) ?_ | refine abr_yes (by omega) ?_ | refine abr_no (by omega) ?_ | refine amin ?_ | refine amax ?_ | refine afit_u64 (by omega) ?_ | refine afit_u8 (by omega) ?_ | rw [List.length_map]); ((conv => whnf); (repeat ((first | with_reducible refine abr_true rfl ?_ | with_reducible refine abr_false rfl ?_ | with_reducible refine abr_yes rfl ?_ | refine abr_yes (by decide) ?_ | refine abr_no (by decide) ?_ | with_reducible refine abr_same_ne ?_); (conv => whnf))))))
      refine aloop (α := Nat) (fun i => [(s5, i64v (sizeV ((F.length : Int) - 1) w + total (F.take i))), (s26, i64v i)]) (fun _ => σ0) (fun i => i ≤ F.length) (fun i => F.length - i) 0 (Nat.zero_le _) (Sub.refl _) ?_ ?_
      · rw [List.take_zero, total_nil, Int.natCast_zero, Int.add_zero]
        ((conv => whnf); (repeat ((first | with_reducible refine abr_true rfl ?_ | with_reducible refine abr_false rfl ?_ | with_reducible refine abr_yes rfl ?_ | refine abr_yes (by decide) ?_ | refine abr_no (by decide) ?_ | with_reducible refine abr_same_ne ?_); (conv => whnf))))
        (repeat' first | with_reducible exact EnvLe.refl _ | (refine EnvLe.node ?_ (by first | exact Or.inl rfl | exact Or.inr (Or.inl rfl) | exact Or.inr (Or.inr ⟨nofun, VLe.slice _ _ _⟩)) ?_))
      intro i hi
      have ht := total_take_le F i
      by_cases h1 : i < F.length
      · have ht2 := total_take_le F (i + 1)
        rw [total_take_succ F i h1] at ht2
        ((conv => whnf); (repeat ((first | with_reducible refine abr_true rfl ?_ | with_reducible refine abr_false rfl ?_ | with_reducible refine abr_yes rfl ?_ | refine abr_yes (by decide) ?_ | refine abr_no (by decide) ?_ | with_reducible refine abr_same_ne ?_); (conv => whnf))))
        (repeat ((first | refine aload (by (repeat (first | with_reducible exact upd_same _ _ _ | assumption | rw [upd_ne _ _ (by first | assumption | (apply Ne.symm; assumption))]))) rfl ?_ | refine afit_i64 (by omega) ?_ | refine arem_nonneg (by omega) (by omega) ?_ | refine adiv_i64 (by omega) (by omega) ?_ | refine abr_yes (by omega) ?_ | refine abr_no (by omega) ?_ | refine amin ?_ | refine amax ?_ | refine afit_u64 (by omega) ?_ | refine afit_u8 (by omega) ?_ | rw [List.length_map]); ((conv => whnf); (repeat ((first | with_reducible refine abr_true rfl ?_ | with_reducible refine abr_false rfl ?_ | with_reducible refine abr_yes rfl ?_ | refine abr_yes (by decide) ?_ | refine abr_no (by decide) ?_ | with_reducible refine abr_same_ne ?_); (conv => whnf))))))
        refine aget (by omega) (get_lists h1) ?_
        ((conv => whnf); (repeat ((first | with_reducible refine abr_true rfl ?_ | with_reducible refine abr_false rfl ?_ | with_reducible refine abr_yes rfl ?_ | refine abr_yes (by decide) ?_ | refine abr_no (by decide) ?_ | with_reducible refine abr_same_ne ?_); (conv => whnf))))
        refine acell rfl ?_
        ((conv => whnf); (repeat ((first | with_reducible refine abr_true rfl ?_ | with_reducible refine abr_false rfl ?_ | with_reducible refine abr_yes rfl ?_ | refine abr_yes (by decide) ?_ | refine abr_no (by decide) ?_ | with_reducible refine abr_same_ne ?_); (conv => whnf))))
        (repeat ((first | refine aload (by (repeat (first | with_reducible exact upd_same _ _ _ | assumption | rw [upd_ne _ _ (by first | assumption | (apply Ne.symm; assumption))]))) rfl ?_ | refine afit_i64 (by omega) ?_ | refine arem_nonneg (by omega) (by omega) ?_ | refine adiv_i64 (by omega) (by omega) ?_ | refine abr_yes (by omega) ?_ | refine abr_no (by omega) ?_ | refine amin ?_ | refine amax ?_ | refine afit_u64 (by omega) ?_ | refine afit_u8 (by omega) ?_ | rw [List.length_map]); ((conv => whnf); (repeat ((first | with_reducible refine abr_true rfl ?_ | with_reducible refine abr_false rfl ?_ | with_reducible refine abr_yes rfl ?_ | refine abr_yes (by decide) ?_ | refine abr_no (by decide) ?_ | with_reducible refine abr_same_ne ?_); (conv => whnf))))))
        refine ⟨i + 1, h1, by omega, Sub.refl _, ?_⟩
        rw [total_take_succ F i h1, Int.natCast_add, ← Int.add_assoc]
        ((conv => whnf); (repeat ((first | with_reducible refine abr_true rfl ?_ | with_reducible refine abr_false rfl ?_ | with_reducible refine abr_yes rfl ?_ | refine abr_yes (by decide) ?_ | refine abr_no (by decide) ?_ | with_reducible refine abr_same_ne ?_); (conv => whnf))))
        (repeat' first | with_reducible exact EnvLe.refl _ | (refine EnvLe.node ?_ (by first | exact Or.inl rfl | exact Or.inr (Or.inl rfl) | exact Or.inr (Or.inr ⟨nofun, VLe.slice _ _ _⟩)) ?_))
      · rw [List.take_of_length_le (by omega)]
        ((conv => whnf); (repeat ((first | with_reducible refine abr_true rfl ?_ | with_reducible refine abr_false rfl ?_ | with_reducible refine abr_yes rfl ?_ | refine abr_yes (by decide) ?_ | refine abr_no (by decide) ?_ | with_reducible refine abr_same_ne ?_); (conv => whnf))))
        (repeat ((first | refine aload (by (repeat (first | with_reducible exact upd_same _ _ _ | assumption | rw [upd_ne _ _ (by first | assumption | (apply Ne.symm; assumption))]))) rfl ?_ | refine afit_i64 (by omega) ?_ | refine arem_nonneg (by omega) (by omega) ?_ | refine adiv_i64 (by omega) (by omega) ?_ | refine abr_yes (by omega) ?_ | refine abr_no (by omega) ?_ | refine amin ?_ | refine amax ?_ | refine afit_u64 (by omega) ?_ | refine afit_u8 (by omega) ?_ | rw [List.length_map]); ((conv => whnf); (repeat ((first | with_reducible refine abr_true rfl ?_ | with_reducible refine abr_false rfl ?_ | with_reducible refine abr_yes rfl ?_ | refine abr_yes (by decide) ?_ | refine abr_no (by decide) ?_ | with_reducible refine abr_same_ne ?_); (conv => whnf))))))
        exact aret (VLe.refl _) hs ⟨by unfold bytesC; rw [if_neg (by rw [hw]; simp; simpa using h0)], rfl⟩

def qa13 : QS := ⟨100, [(1, [97, 98]), (2, [99]), (3, [100, 101, 102])], 0, 3⟩
set_option maxRecDepth 20000 in
theorem alive13 (σ : AHeap) : ACalls Try.prog i_bowlinelaw13_alive [] σ fun v σ' => v = boolv true ∧ σ' = σ := by
  refine k_bowlinelaw13_alive rfl ?_
  ((conv => whnf); (repeat ((first | with_reducible refine abr_true rfl ?_ | with_reducible refine abr_false rfl ?_ | with_reducible refine abr_yes rfl ?_ | refine abr_yes (by decide) ?_ | refine abr_no (by decide) ?_ | with_reducible refine abr_same_ne ?_); (conv => whnf))))
  refine acall (qNew 100 _ (by omega)) ?_
  rintro v σ1 ⟨id, rfl, q1⟩
  refine ⟨?_, q1.ext⟩
  ((conv => whnf); (repeat ((first | with_reducible refine abr_true rfl ?_ | with_reducible refine abr_false rfl ?_ | with_reducible refine abr_yes rfl ?_ | refine abr_yes (by decide) ?_ | refine abr_no (by decide) ?_ | with_reducible refine abr_same_ne ?_); (conv => whnf))))
  refine arowT fun t_ ht_ => ?_
  ((conv => whnf); (repeat ((first | with_reducible refine abr_true rfl ?_ | with_reducible refine abr_false rfl ?_ | with_reducible refine abr_yes rfl ?_ | refine abr_yes (by decide) ?_ | refine abr_no (by decide) ?_ | with_reducible refine abr_same_ne ?_); (conv => whnf))))
  refine amark (by simp) (upd_same _ _ _) ?_
  ((conv => whnf); (repeat ((first | with_reducible refine abr_true rfl ?_ | with_reducible refine abr_false rfl ?_ | with_reducible refine abr_yes rfl ?_ | refine abr_yes (by decide) ?_ | refine abr_no (by decide) ?_ | with_reducible refine abr_same_ne ?_); (conv => whnf))))
  rw [del_upd _ _ _ ht_]
  clear ht_
  refine acall (qPush id _ [97, 98] .none _ _ q1 (by decide) (by decide)) ?_
  rintro v σ2 ⟨rfl, q2⟩
  rw [show pushQ ⟨100, [], 0, 0⟩ [97, 98] = ⟨100, [(1, [97, 98])], 0, 1⟩ by decide] at q2
  ((conv => whnf); (repeat ((first | with_reducible refine abr_true rfl ?_ | with_reducible refine abr_false rfl ?_ | with_reducible refine abr_yes rfl ?_ | refine abr_yes (by decide) ?_ | refine abr_no (by decide) ?_ | with_reducible refine abr_same_ne ?_); (conv => whnf))))
  refine arowT fun t_ ht_ => ?_
  ((conv => whnf); (repeat ((first | with_reducible refine abr_true rfl ?_ | with_reducible refine abr_false rfl ?_ | with_reducible refine abr_yes rfl ?_ | refine abr_yes (by decide) ?_ | refine abr_no (by decide) ?_ | with_reducible refine abr_same_ne ?_); (conv => whnf))))
  refine amark (by simp) (upd_same _ _ _) ?_
  ((conv => whnf); (repeat ((first | with_reducible refine abr_true rfl ?_ | with_reducible refine abr_false rfl ?_ | with_reducible refine abr_yes rfl ?_ | refine abr_yes (by decide) ?_ | refine abr_no (by decide) ?_ | with_reducible refine abr_same_ne ?_); (conv => whnf))))
  rw [del_upd _ _ _ ht_]
  clear ht_
  refine acall (qPush id _ [99] .none _ _ q2 (by decide) (by decide)) ?_
  rintro v σ3 ⟨rfl, q3⟩
  rw [show pushQ ⟨100, [(1, [97, 98])], 0, 1⟩ [99] = ⟨100, [(1, [97, 98]), (2, [99])], 0, 2⟩ by decide] at q3
  ((conv => whnf); (repeat ((first | with_reducible refine abr_true rfl ?_ | with_reducible refine abr_false rfl ?_ | with_reducible refine abr_yes rfl ?_ | refine abr_yes (by decide) ?_ | refine abr_no (by decide) ?_ | with_reducible refine abr_same_ne ?_); (conv => whnf))))
  refine arowT fun t_ ht_ => ?_
  ((conv => whnf); (repeat ((first | with_reducible refine abr_true rfl ?_ | with_reducible refine abr_false rfl ?_ | with_reducible refine abr_yes rfl ?_ | refine abr_yes (by decide) ?_ | refine abr_no (by decide) ?_ | with_reducible refine abr_same_ne ?_); (conv => whnf))))
  refine amark (by simp) (upd_same _ _ _) ?_
  ((conv => whnf); (repeat ((first | with_reducible refine abr_true rfl ?_ | with_reducible refine abr_false rfl ?_ | with_reducible refine abr_yes rfl ?_ | refine abr_yes (by decide) ?_ | refine abr_no (by decide) ?_ | with_reducible refine abr_same_ne ?_); (conv => whnf))))
  rw [del_upd _ _ _ ht_]
  clear ht_
  refine acall (qPush id _ [100, 101, 102] .none _ _ q3 (by decide) (by decide)) ?_
  rintro v σ4 ⟨rfl, q4⟩
  rw [show pushQ ⟨100, [(1, [97, 98]), (2, [99])], 0, 2⟩ [100, 101, 102] = qa13 by decide] at q4
  ((conv => whnf); (repeat ((first | with_reducible refine abr_true rfl ?_ | with_reducible refine abr_false rfl ?_ | with_reducible refine abr_yes rfl ?_ | refine abr_yes (by decide) ?_ | refine abr_no (by decide) ?_ | with_reducible refine abr_same_ne ?_); (conv => whnf))))
  refine acall (cBuild id 5 11 _ _ _ q4) ?_
  rintro v σ5 ⟨rfl, q5⟩
  rw [show cutQ 5 11 qa13 = ⟨100, [(3, [100, 101, 102])], 0, 3⟩ by decide +kernel] at q5
  rw [show cutP 5 11 qa13 = (0, [[97, 98], [99]], [1, 2]) by decide +kernel, show cutCode 5 11 qa13 = 0 by decide +kernel]
  ((conv => whnf); (repeat ((first | with_reducible refine abr_true rfl ?_ | with_reducible refine abr_false rfl ?_ | with_reducible refine abr_yes rfl ?_ | refine abr_yes (by decide) ?_ | refine abr_no (by decide) ?_ | with_reducible refine abr_same_ne ?_); (conv => whnf))))
  refine anew rfl fun p5 hp5 => ?_
  have z5 := sub_none q5.sub hp5
  ((conv => whnf); (repeat ((first | with_reducible refine abr_true rfl ?_ | with_reducible refine abr_false rfl ?_ | with_reducible refine abr_yes rfl ?_ | refine abr_yes (by decide) ?_ | refine abr_no (by decide) ?_ | with_reducible refine abr_same_ne ?_); (conv => whnf))))
  refine astore (xs := (pieceV (0, [[97, 98], [99]], [1, 2])).cells) (l := (pieceV (0, [[97, 98], [99]], [1, 2])).cells) (upd_same _ _ _) (Nat.le_of_ble_eq_true rfl) rfl rfl ?_
  rw [upd_upd]
  replace q5 := q5.beside (.cells (pieceV (0, [[97, 98], [99]], [1, 2])).cells) hp5
  obtain ⟨β5, hβ5⟩ : ∃ β, β = upd σ p5 (.cells (pieceV (0, [[97, 98], [99]], [1, 2])).cells) := ⟨_, rfl⟩
  rw [← hβ5] at q5 
  have s5 : Sub β5 σ := by rw [hβ5]; exact Sub.upd_fresh _ z5
  have b5 : β5 p5 = some (.cells (pieceV (0, [[97, 98], [99]], [1, 2])).cells) := by rw [hβ5]; exact upd_same _ _ _
  ((conv => whnf); (repeat ((first | with_reducible refine abr_true rfl ?_ | with_reducible refine abr_false rfl ?_ | with_reducible refine abr_yes rfl ?_ | refine abr_yes (by decide) ?_ | refine abr_no (by decide) ?_ | with_reducible refine abr_same_ne ?_); (conv => whnf))))
  refine acall (cBuild id 2 11 _ _ _ q5) ?_
  rintro v σ6 ⟨rfl, q6⟩
  rw [show cutQ 2 11 ⟨100, [(3, [100, 101, 102])], 0, 3⟩ = ⟨100, [(3, [100, 101, 102])], 2, 3⟩ by decide +kernel] at q6
  rw [show cutP 2 11 ⟨100, [(3, [100, 101, 102])], 0, 3⟩ = (1, [[100, 101]], []) by decide +kernel, show cutCode 2 11 ⟨100, [(3, [100, 101, 102])], 0, 3⟩ = 0 by decide +kernel]
  ((conv => whnf); (repeat ((first | with_reducible refine abr_true rfl ?_ | with_reducible refine abr_false rfl ?_ | with_reducible refine abr_yes rfl ?_ | refine abr_yes (by decide) ?_ | refine abr_no (by decide) ?_ | with_reducible refine abr_same_ne ?_); (conv => whnf))))
  refine anew rfl fun p6 hp6 => ?_
  have z6 := sub_none q6.sub hp6
  have n56 : p5 ≠ p6 := fun e => by subst e; rw [q6.below b5] at hp6; cases hp6
  replace b5 := (upd_ne _ (.cells (pieceV (1, [[100, 101]], [])).cells) n56).trans b5
  ((conv => whnf); (repeat ((first | with_reducible refine abr_true rfl ?_ | with_reducible refine abr_false rfl ?_ | with_reducible refine abr_yes rfl ?_ | refine abr_yes (by decide) ?_ | refine abr_no (by decide) ?_ | with_reducible refine abr_same_ne ?_); (conv => whnf))))
  refine astore (xs := (pieceV (1, [[100, 101]], [])).cells) (l := (pieceV (1, [[100, 101]], [])).cells) (upd_same _ _ _) (Nat.le_of_ble_eq_true rfl) rfl rfl ?_
  rw [upd_upd]
  replace q6 := q6.beside (.cells (pieceV (1, [[100, 101]], [])).cells) hp6
  obtain ⟨β6, hβ6⟩ : ∃ β, β = upd β5 p6 (.cells (pieceV (1, [[100, 101]], [])).cells) := ⟨_, rfl⟩
  rw [← hβ6] at q6 b5
  have s6 : Sub β6 β5 := by rw [hβ6]; exact Sub.upd_fresh _ z6
  have b6 : β6 p6 = some (.cells (pieceV (1, [[100, 101]], [])).cells) := by rw [hβ6]; exact upd_same _ _ _
  ((conv => whnf); (repeat ((first | with_reducible refine abr_true rfl ?_ | with_reducible refine abr_false rfl ?_ | with_reducible refine abr_yes rfl ?_ | refine abr_yes (by decide) ?_ | refine abr_no (by decide) ?_ | with_reducible refine abr_same_ne ?_); (conv => whnf))))
  refine acall (cBuild id 9 11 _ _ _ q6) ?_
  rintro v σ7 ⟨rfl, q7⟩
  rw [show cutQ 9 11 ⟨100, [(3, [100, 101, 102])], 2, 3⟩ = ⟨100, [], 0, 3⟩ by decide +kernel] at q7
  rw [show cutP 9 11 ⟨100, [(3, [100, 101, 102])], 2, 3⟩ = (2, [[102]], [3]) by decide +kernel, show cutCode 9 11 ⟨100, [(3, [100, 101, 102])], 2, 3⟩ = 0 by decide +kernel]
  ((conv => whnf); (repeat ((first | with_reducible refine abr_true rfl ?_ | with_reducible refine abr_false rfl ?_ | with_reducible refine abr_yes rfl ?_ | refine abr_yes (by decide) ?_ | refine abr_no (by decide) ?_ | with_reducible refine abr_same_ne ?_); (conv => whnf))))
  refine anew rfl fun p7 hp7 => ?_
  have z7 := sub_none q7.sub hp7
  have n57 : p5 ≠ p7 := fun e => by subst e; rw [q7.below b5] at hp7; cases hp7
  replace b5 := (upd_ne _ (.cells (pieceV (2, [[102]], [3])).cells) n57).trans b5
  have n67 : p6 ≠ p7 := fun e => by subst e; rw [q7.below b6] at hp7; cases hp7
  replace b6 := (upd_ne _ (.cells (pieceV (2, [[102]], [3])).cells) n67).trans b6
  ((conv => whnf); (repeat ((first | with_reducible refine abr_true rfl ?_ | with_reducible refine abr_false rfl ?_ | with_reducible refine abr_yes rfl ?_ | refine abr_yes (by decide) ?_ | refine abr_no (by decide) ?_ | with_reducible refine abr_same_ne ?_); (conv => whnf))))
  refine astore (xs := (pieceV (2, [[102]], [3])).cells) (l := (pieceV (2, [[102]], [3])).cells) (upd_same _ _ _) (Nat.le_of_ble_eq_true rfl) rfl rfl ?_
  rw [upd_upd]
  replace q7 := q7.beside (.cells (pieceV (2, [[102]], [3])).cells) hp7
  obtain ⟨β7, hβ7⟩ : ∃ β, β = upd β6 p7 (.cells (pieceV (2, [[102]], [3])).cells) := ⟨_, rfl⟩
  rw [← hβ7] at q7 b5 b6
  have s7 : Sub β7 β6 := by rw [hβ7]; exact Sub.upd_fresh _ z7
  have b7 : β7 p7 = some (.cells (pieceV (2, [[102]], [3])).cells) := by rw [hβ7]; exact upd_same _ _ _
  ((conv => whnf); (repeat ((first | with_reducible refine abr_true rfl ?_ | with_reducible refine abr_false rfl ?_ | with_reducible refine abr_yes rfl ?_ | refine abr_yes (by decide) ?_ | refine abr_no (by decide) ?_ | with_reducible refine abr_same_ne ?_); (conv => whnf))))
  refine acall (cBuild id 9 11 _ _ _ q7) ?_
  rintro v σ8 ⟨rfl, q8⟩
  rw [show cutP 9 11 ⟨100, [], 0, 3⟩ = (0, [], []) by decide +kernel, show cutCode 9 11 ⟨100, [], 0, 3⟩ = 4 by decide +kernel]
  ((conv => whnf); (repeat ((first | with_reducible refine abr_true rfl ?_ | with_reducible refine abr_false rfl ?_ | with_reducible refine abr_yes rfl ?_ | refine abr_yes (by decide) ?_ | refine abr_no (by decide) ?_ | with_reducible refine abr_same_ne ?_); (conv => whnf))))
  refine anew rfl fun p8 hp8 => ?_
  have z8 := sub_none q8.sub hp8
  have n58 : p5 ≠ p8 := fun e => by subst e; rw [q8.below b5] at hp8; cases hp8
  replace b5 := (upd_ne _ (.cells (pieceV (0, [], [])).cells) n58).trans b5
  have n68 : p6 ≠ p8 := fun e => by subst e; rw [q8.below b6] at hp8; cases hp8
  replace b6 := (upd_ne _ (.cells (pieceV (0, [], [])).cells) n68).trans b6
  have n78 : p7 ≠ p8 := fun e => by subst e; rw [q8.below b7] at hp8; cases hp8
  replace b7 := (upd_ne _ (.cells (pieceV (0, [], [])).cells) n78).trans b7
  ((conv => whnf); (repeat ((first | with_reducible refine abr_true rfl ?_ | with_reducible refine abr_false rfl ?_ | with_reducible refine abr_yes rfl ?_ | refine abr_yes (by decide) ?_ | refine abr_no (by decide) ?_ | with_reducible refine abr_same_ne ?_); (conv => whnf))))
  refine astore (xs := (pieceV (0, [], [])).cells) (l := (pieceV (0, [], [])).cells) (upd_same _ _ _) (Nat.le_of_ble_eq_true rfl) rfl rfl ?_
  rw [upd_upd]
  replace q8 := q8.beside (.cells (pieceV (0, [], [])).cells) hp8
  obtain ⟨β8, hβ8⟩ : ∃ β, β = upd β7 p8 (.cells (pieceV (0, [], [])).cells) := ⟨_, rfl⟩
  rw [← hβ8] at q8 b5 b6 b7
  have s8 : Sub β8 β7 := by rw [hβ8]; exact Sub.upd_fresh _ z8
  have b8 : β8 p8 = some (.cells (pieceV (0, [], [])).cells) := by rw [hβ8]; exact upd_same _ _ _
  ((conv => whnf); (repeat ((first | with_reducible refine abr_true rfl ?_ | with_reducible refine abr_false rfl ?_ | with_reducible refine abr_yes rfl ?_ | refine abr_yes (by decide) ?_ | refine abr_no (by decide) ?_ | with_reducible refine abr_same_ne ?_); (conv => whnf))))
  have k5 := q8.below b5
  have k6 := q8.below b6
  have k7 := q8.below b7
  have hsub := q8.sub.trans (s8.trans (s7.trans (s6.trans s5)))
  refine aload k5 rfl ?_
  ((conv => whnf); (repeat ((first | with_reducible refine abr_true rfl ?_ | with_reducible refine abr_false rfl ?_ | with_reducible refine abr_yes rfl ?_ | refine abr_yes (by decide) ?_ | refine abr_no (by decide) ?_ | with_reducible refine abr_same_ne ?_); (conv => whnf))))
  refine aload k5 rfl ?_
  ((conv => whnf); (repeat ((first | with_reducible refine abr_true rfl ?_ | with_reducible refine abr_false rfl ?_ | with_reducible refine abr_yes rfl ?_ | refine abr_yes (by decide) ?_ | refine abr_no (by decide) ?_ | with_reducible refine abr_same_ne ?_); (conv => whnf))))
  refine aload k5 rfl ?_
  ((conv => whnf); (repeat ((first | with_reducible refine abr_true rfl ?_ | with_reducible refine abr_false rfl ?_ | with_reducible refine abr_yes rfl ?_ | refine abr_yes (by decide) ?_ | refine abr_no (by decide) ?_ | with_reducible refine abr_same_ne ?_); (conv => whnf))))
  refine aload k6 rfl ?_
  ((conv => whnf); (repeat ((first | with_reducible refine abr_true rfl ?_ | with_reducible refine abr_false rfl ?_ | with_reducible refine abr_yes rfl ?_ | refine abr_yes (by decide) ?_ | refine abr_no (by decide) ?_ | with_reducible refine abr_same_ne ?_); (conv => whnf))))
  refine aload k6 rfl ?_
  ((conv => whnf); (repeat ((first | with_reducible refine abr_true rfl ?_ | with_reducible refine abr_false rfl ?_ | with_reducible refine abr_yes rfl ?_ | refine abr_yes (by decide) ?_ | refine abr_no (by decide) ?_ | with_reducible refine abr_same_ne ?_); (conv => whnf))))
  refine aload k7 rfl ?_
  ((conv => whnf); (repeat ((first | with_reducible refine abr_true rfl ?_ | with_reducible refine abr_false rfl ?_ | with_reducible refine abr_yes rfl ?_ | refine abr_yes (by decide) ?_ | refine abr_no (by decide) ?_ | with_reducible refine abr_same_ne ?_); (conv => whnf))))
  refine aload k7 rfl ?_
  ((conv => whnf); (repeat ((first | with_reducible refine abr_true rfl ?_ | with_reducible refine abr_false rfl ?_ | with_reducible refine abr_yes rfl ?_ | refine abr_yes (by decide) ?_ | refine abr_no (by decide) ?_ | with_reducible refine abr_same_ne ?_); (conv => whnf))))
  refine aloads (l := (pieceV (0, [[97, 98], [99]], [1, 2])).cells) k5 (by exact Nat.le_refl 3) rfl ?_
  ((conv => whnf); (repeat ((first | with_reducible refine abr_true rfl ?_ | with_reducible refine abr_false rfl ?_ | with_reducible refine abr_yes rfl ?_ | refine abr_yes (by decide) ?_ | refine abr_no (by decide) ?_ | with_reducible refine abr_same_ne ?_); (conv => whnf))))
  refine acall (cBytes (0, [[97, 98], [99]], [1, 2]) 11 _ (by decide) (by decide)) ?_
  rintro _ σ_ ⟨rfl, e_⟩
  obtain rfl := e_.symm
  refine ⟨?_, Ext.refl _⟩
  ((conv => whnf); (repeat ((first | with_reducible refine abr_true rfl ?_ | with_reducible refine abr_false rfl ?_ | with_reducible refine abr_yes rfl ?_ | refine abr_yes (by decide) ?_ | refine abr_no (by decide) ?_ | with_reducible refine abr_same_ne ?_); (conv => whnf))))
  exact aret (VLe.refl _) hsub ⟨rfl, rfl⟩
end Go.Proofs.Ytnfdgccmpglbhaa
/-
  Cuts: one text goes whole, if there is room.
-/
namespace Go.Proofs.Ytnfdgccmpglbhaa
set_option linter.unusedVariables false
set_option linter.unusedSimpArgs false
open Go Go.Am

theorem beq_dec {p q : Prop} {_ : Decidable p} {_ : Decidable q} (h : p ↔ q) : (decide p == decide q) = true := by rw [dec_congr h]; cases decide q <;> rfl
def q13 (a b : List UInt8) : QS := ⟨20000, [(1, a), (2, b)], 0, 2⟩
theorem sizeV0 : sizeV 0 11 = 0 := by decide
theorem sizeV1 : sizeV 1 11 = 2 := by decide
theorem one_zero (a b : List UInt8) : cutQ 0 11 (q13 a b) = q13 a b ∧ cutCode 0 11 (q13 a b) = 4 := by
  have hs : stopC 0 11 (q13 a b) none14.2.1 = true := decide_eq_true (.inr (.inl (by unfold leftC; decide)))
  have hr : ((q13 a b, none14) : QS × Pc) = cutR 0 11 (q13 a b) := by
    unfold cutR
    rw [cutGo, if_pos hs]
  obtain ⟨h1, _, h3⟩ := cutP_of (room := 0) (w := 11) (by decide) hr
  exact ⟨h1, (h3 rfl).1⟩
theorem one_res {a b : List UInt8} {room : Int} (hok : QOk (q13 a b)) (ha : 1 ≤ a.length) (hb : 1 ≤ b.length) (h1 : (a.length : Int) ≤ room) (h2 : room ≤ 4000) :
    ∃ fi F D, cutP room 11 (q13 a b) = (fi, F, D) ∧ cutCode room 11 (q13 a b) = 0 ∧ F[0]? = some a ∧ (F.length = 2 ↔ room ≥ (a.length : Int) + 3) ∧ 1 ≤ D.length ∧ (D.length = 2 ↔ room ≥ (a.length : Int) + b.length + 2) := by
  have hask : askCut room 11 = 0 := askCut_eq (.inl rfl) (by omega) h2
  obtain ⟨r, hr⟩ : ∃ r, r = cutR room 11 (q13 a b) := ⟨_, rfl⟩
  have hres := cut_res (room := room) (w := 11) hok
  rw [← hr] at hres
  obtain ⟨_, k, _⟩ := cutP_of hask hr
  cases hres with
  | whole d h h24 fit hend =>
    have hd : d ≤ 2 := h
    have hns := of_decide_eq_true hend
    match d, hd with
    | 0, _ =>
      exfalso
      have e1 : (frontV (stQ (q13 a b) 0)).2.1.length = a.length := by
        rw [stQ_front (show 0 < (q13 a b).ts.length from Nat.zero_lt_succ _)]
        show (List.drop 0 a).length = _
        rw [List.drop_zero]
      have e2 : leftC room 11 (stP (q13 a b) 0).2.1 = room - 0 - sizeV 0 11 := rfl
      have e3 : (stP (q13 a b) 0).2.1.length = 0 := rfl
      rw [e1, e2, e3, sizeV0] at hns
      omega
    | 1, _ =>
      obtain ⟨k1, k2⟩ := k (by simp [stP, wholes, q13])
      have e0 : (stP (q13 a b) 1).2.1 = [a] := by simp [stP, wholes, q13]
      have e1 : (frontV (stQ (q13 a b) 1)).2.1.length = b.length := by
        rw [stQ_front (show 1 < (q13 a b).ts.length from Nat.lt_succ_self _)]
        show (List.drop 0 b).length = _
        rw [List.drop_zero]
      have e2 : leftC room 11 (stP (q13 a b) 1).2.1 = room - (a.length : Int) - 2 := by rw [e0]; unfold leftC; rw [total_cons, total_nil]; show room - _ - sizeV 1 11 = _; rw [sizeV1]; omega
      rw [e1, e2, e0] at hns
      have hns : room - (a.length : Int) - 2 < 1 := by
        rcases hns with h | h | h
        · omega
        · exact h
        · simp at h
      refine ⟨(stP (q13 a b) 1).1, (stP (q13 a b) 1).2.1, (stP (q13 a b) 1).2.2, k2, k1, by rw [e0]; rfl, ?_, ?_, ?_⟩
      · rw [e0]; show 1 = 2 ↔ _; omega
      · simp [stP, q13]
      · simp only [stP, q13]; show 1 = 2 ↔ _; omega
    | 2, _ =>
      obtain ⟨k1, k2⟩ := k (by simp [stP, wholes, q13])
      have e0 : (stP (q13 a b) 2).2.1 = [a, b] := by simp [stP, wholes, q13]
      have fit := fit (by omega)
      rw [e0, total_cons, total_cons, total_nil] at fit
      rw [show ((2 : Nat) : Int) - 1 = 1 by omega, sizeV1] at fit
      refine ⟨(stP (q13 a b) 2).1, (stP (q13 a b) 2).2.1, (stP (q13 a b) 2).2.2, k2, k1, by rw [e0]; rfl, ?_, ?_, ?_⟩
      · rw [e0]; show 2 = 2 ↔ _; omega
      · simp [stP, q13]
      · simp only [stP, q13]; show 2 = 2 ↔ _; omega
  | part d m h h24 hm1 hm fit =>
    have hd : d < 2 := h
    match d, hd with
    | 0, _ =>
      exfalso
      have e0 : (stP (q13 a b) 0).2.1 = [] := rfl
      rw [e0, total_nil, show ((0 : Nat) : Int) = 0 from rfl, sizeV0] at fit
      have : begC (q13 a b) 0 + m < a.length := hm
      omega
    | 1, _ =>
      have e0 : (stP (q13 a b) 1).2.1 = [a] := by simp [stP, wholes, q13]
      rw [e0, total_cons, total_nil, show ((1 : Nat) : Int) = 1 from rfl, sizeV1] at fit
      have hm : begC (q13 a b) 1 + m < b.length := hm
      obtain ⟨k1, k2⟩ := k (by simp)
      refine ⟨_, (stP (q13 a b) 1).2.1 ++ [((q13 a b).ts[1].2.drop (begC (q13 a b) 1)).take m], (stP (q13 a b) 1).2.2, k2, k1, by rw [e0]; rfl, ?_, ?_, ?_⟩
      · rw [e0, List.length_append]; show 1 + 1 = 2 ↔ _; omega
      · simp [stP, q13]
      · simp only [stP, q13]; show 1 = 2 ↔ _; omega

set_option maxRecDepth 20000 in
theorem CutOne (a b : List UInt8) (room : Int) (σ : AHeap) : ACalls Try.prog i_bowlinelaw13_CutOne [sl .none a, sl .none b, i64v room] σ fun v σ' => v = boolv true ∧ σ' = σ := by
  refine k_bowlinelaw13_CutOne rfl ?_
  ((conv => whnf); (repeat ((first | with_reducible refine abr_true rfl ?_ | with_reducible refine abr_false rfl ?_ | with_reducible refine abr_yes rfl ?_ | refine abr_yes (by decide) ?_ | refine abr_no (by decide) ?_ | with_reducible refine abr_same_ne ?_); (conv => whnf))))
  refine acall (qNew 20000 _ (by omega)) ?_
  rintro _ σ1 ⟨id, rfl, q1⟩
  refine ⟨?_, q1.ext⟩
  ((conv => whnf); (repeat ((first | with_reducible refine abr_true rfl ?_ | with_reducible refine abr_false rfl ?_ | with_reducible refine abr_yes rfl ?_ | refine abr_yes (by decide) ?_ | refine abr_no (by decide) ?_ | with_reducible refine abr_same_ne ?_); (conv => whnf))))
  rw [List.length_map]
  by_cases h1 : a.length > 1000
  · (repeat ((first | refine aload (by (repeat (first | with_reducible exact upd_same _ _ _ | assumption | rw [upd_ne _ _ (by first | assumption | (apply Ne.symm; assumption))]))) rfl ?_ | refine afit_i64 (by omega) ?_ | refine arem_nonneg (by omega) (by omega) ?_ | refine adiv_i64 (by omega) (by omega) ?_ | refine abr_yes (by omega) ?_ | refine abr_no (by omega) ?_ | refine amin ?_ | refine amax ?_ | refine afit_u64 (by omega) ?_ | refine afit_u8 (by omega) ?_ | rw [List.length_map]); ((conv => whnf); (repeat ((first | with_reducible refine abr_true rfl ?_ | with_reducible refine abr_false rfl ?_ | with_reducible refine abr_yes rfl ?_ | refine abr_yes (by decide) ?_ | refine abr_no (by decide) ?_ | with_reducible refine abr_same_ne ?_); (conv => whnf))))))
    refine acall (alive13 _) ?_
    rintro _ σ_ ⟨rfl, e_⟩
    obtain rfl := e_.symm
    refine ⟨?_, Ext.refl _⟩
    ((conv => whnf); (repeat ((first | with_reducible refine abr_true rfl ?_ | with_reducible refine abr_false rfl ?_ | with_reducible refine abr_yes rfl ?_ | refine abr_yes (by decide) ?_ | refine abr_no (by decide) ?_ | with_reducible refine abr_same_ne ?_); (conv => whnf))))
    exact aret (VLe.refl _) q1.sub ⟨rfl, rfl⟩
  by_cases h2 : b.length > 1000
  · (repeat ((first | refine aload (by (repeat (first | with_reducible exact upd_same _ _ _ | assumption | rw [upd_ne _ _ (by first | assumption | (apply Ne.symm; assumption))]))) rfl ?_ | refine afit_i64 (by omega) ?_ | refine arem_nonneg (by omega) (by omega) ?_ | refine adiv_i64 (by omega) (by omega) ?_ | refine abr_yes (by omega) ?_ | refine abr_no (by omega) ?_ | refine amin ?_ | refine amax ?_ | refine afit_u64 (by omega) ?_ | refine afit_u8 (by omega) ?_ | rw [List.length_map]); ((conv => whnf); (repeat ((first | with_reducible refine abr_true rfl ?_ | with_reducible refine abr_false rfl ?_ | with_reducible refine abr_yes rfl ?_ | refine abr_yes (by decide) ?_ | refine abr_no (by decide) ?_ | with_reducible refine abr_same_ne ?_); (conv => whnf))))))
    refine acall (alive13 _) ?_
    rintro _ σ_ ⟨rfl, e_⟩
    obtain rfl := e_.symm
    refine ⟨?_, Ext.refl _⟩
    ((conv => whnf); (repeat ((first | with_reducible refine abr_true rfl ?_ | with_reducible refine abr_false rfl ?_ | with_reducible refine abr_yes rfl ?_ | refine abr_yes (by decide) ?_ | refine abr_no (by decide) ?_ | with_reducible refine abr_same_ne ?_); (conv => whnf))))
    exact aret (VLe.refl _) q1.sub ⟨rfl, rfl⟩
  by_cases h3 : a.length = 0
  · (repeat ((first | refine aload (by (repeat (first | with_reducible exact upd_same _ _ _ | assumption | rw [upd_ne _ _ (by first | assumption | (apply Ne.symm; assumption))]))) rfl ?_ | refine afit_i64 (by omega) ?_ | refine arem_nonneg (by omega) (by omega) ?_ | refine adiv_i64 (by omega) (by omega) ?_ | refine abr_yes (by omega) ?_ | refine abr_no (by omega) ?_ | refine amin ?_ | refine amax ?_ | refine afit_u64 (by omega) ?_ | refine afit_u8 (by omega) ?_ | rw [List.length_map]); ((conv => whnf); (repeat ((first | with_reducible refine abr_true rfl ?_ | with_reducible refine abr_false rfl ?_ | with_reducible refine abr_yes rfl ?_ | refine abr_yes (by decide) ?_ | refine abr_no (by decide) ?_ | with_reducible refine abr_same_ne ?_); (conv => whnf))))))
    refine acall (alive13 _) ?_
    rintro _ σ_ ⟨rfl, e_⟩
    obtain rfl := e_.symm
    refine ⟨?_, Ext.refl _⟩
    ((conv => whnf); (repeat ((first | with_reducible refine abr_true rfl ?_ | with_reducible refine abr_false rfl ?_ | with_reducible refine abr_yes rfl ?_ | refine abr_yes (by decide) ?_ | refine abr_no (by decide) ?_ | with_reducible refine abr_same_ne ?_); (conv => whnf))))
    exact aret (VLe.refl _) q1.sub ⟨rfl, rfl⟩
  by_cases h4 : b.length = 0
  · (repeat ((first | refine aload (by (repeat (first | with_reducible exact upd_same _ _ _ | assumption | rw [upd_ne _ _ (by first | assumption | (apply Ne.symm; assumption))]))) rfl ?_ | refine afit_i64 (by omega) ?_ | refine arem_nonneg (by omega) (by omega) ?_ | refine adiv_i64 (by omega) (by omega) ?_ | refine abr_yes (by omega) ?_ | refine abr_no (by omega) ?_ | refine amin ?_ | refine amax ?_ | refine afit_u64 (by omega) ?_ | refine afit_u8 (by omega) ?_ | rw [List.length_map]); ((conv => whnf); (repeat ((first | with_reducible refine abr_true rfl ?_ | with_reducible refine abr_false rfl ?_ | with_reducible refine abr_yes rfl ?_ | refine abr_yes (by decide) ?_ | refine abr_no (by decide) ?_ | with_reducible refine abr_same_ne ?_); (conv => whnf))))))
    refine acall (alive13 _) ?_
    rintro _ σ_ ⟨rfl, e_⟩
    obtain rfl := e_.symm
    refine ⟨?_, Ext.refl _⟩
    ((conv => whnf); (repeat ((first | with_reducible refine abr_true rfl ?_ | with_reducible refine abr_false rfl ?_ | with_reducible refine abr_yes rfl ?_ | refine abr_yes (by decide) ?_ | refine abr_no (by decide) ?_ | with_reducible refine abr_same_ne ?_); (conv => whnf))))
    exact aret (VLe.refl _) q1.sub ⟨rfl, rfl⟩
  (repeat ((first | refine aload (by (repeat (first | with_reducible exact upd_same _ _ _ | assumption | rw [upd_ne _ _ (by first | assumption | (apply Ne.symm; assumption))]))) rfl ?_ | refine afit_i64 (by omega) ?_ | refine arem_nonneg (by omega) (by omega) ?_ | refine adiv_i64 (by omega) (by omega) ?_ | refine abr_yes (by omega) ?_ | refine abr_no (by omega) ?_ | refine amin ?_ | refine amax ?_ | refine afit_u64 (by omega) ?_ | refine afit_u8 (by omega) ?_ | rw [List.length_map]); ((conv => whnf); (repeat ((first | with_reducible refine abr_true rfl ?_ | with_reducible refine abr_false rfl ?_ | with_reducible refine abr_yes rfl ?_ | refine abr_yes (by decide) ?_ | refine abr_no (by decide) ?_ | with_reducible refine abr_same_ne ?_); (conv => whnf))))))
  refine acall (qPush id _ a .none _ _ q1 (by decide) (by omega)) ?_
  rintro _ σ2 ⟨rfl, q2⟩
  have e1 : pushQ ⟨20000, [], 0, 0⟩ a = ⟨20000, [(1, a)], 0, 1⟩ := if_pos (by unfold pushCode; rw [if_neg h3, if_neg h1, if_neg]; rw [show tot ([] : List (Nat × List UInt8)) = 0 from rfl]; simp; omega)
  rw [e1] at q2
  ((conv => whnf); (repeat ((first | with_reducible refine abr_true rfl ?_ | with_reducible refine abr_false rfl ?_ | with_reducible refine abr_yes rfl ?_ | refine abr_yes (by decide) ?_ | refine abr_no (by decide) ?_ | with_reducible refine abr_same_ne ?_); (conv => whnf))))
  refine acall (qPush id _ b .none _ _ q2 (by dsimp only; omega) (by omega)) ?_
  rintro _ σ3 ⟨rfl, q3⟩
  have e2 : pushQ ⟨20000, [(1, a)], 0, 1⟩ b = q13 a b := if_pos (by unfold pushCode; rw [if_neg h4, if_neg h2, if_neg]; rw [tot_cons, tot_nil]; simp; omega)
  rw [e2] at q3
  ((conv => whnf); (repeat ((first | with_reducible refine abr_true rfl ?_ | with_reducible refine abr_false rfl ?_ | with_reducible refine abr_yes rfl ?_ | refine abr_yes (by decide) ?_ | refine abr_no (by decide) ?_ | with_reducible refine abr_same_ne ?_); (conv => whnf))))
  obtain ⟨z1, z2⟩ := one_zero a b
  refine acall (cBuild id 0 11 _ _ _ q3) ?_
  rintro _ σ4 ⟨rfl, q4⟩
  rw [z1] at q4
  rw [z2, show cutP 0 11 (q13 a b) = none14 by unfold cutP; rw [z2, if_neg (by decide)]]
  ((conv => whnf); (repeat ((first | with_reducible refine abr_true rfl ?_ | with_reducible refine abr_false rfl ?_ | with_reducible refine abr_yes rfl ?_ | refine abr_yes (by decide) ?_ | refine abr_no (by decide) ?_ | with_reducible refine abr_same_ne ?_); (conv => whnf))))
  refine anew rfl fun p4 hp4 => ?_
  have hz4 := sub_none q4.sub hp4
  ((conv => whnf); (repeat ((first | with_reducible refine abr_true rfl ?_ | with_reducible refine abr_false rfl ?_ | with_reducible refine abr_yes rfl ?_ | refine abr_yes (by decide) ?_ | refine abr_no (by decide) ?_ | with_reducible refine abr_same_ne ?_); (conv => whnf))))
  refine astore (xs := (pieceV none14).cells) (l := (pieceV none14).cells) (upd_same _ _ _) (Nat.le_of_ble_eq_true rfl) rfl rfl ?_
  rw [upd_upd]
  replace q4 := q4.beside (.cells (pieceV none14).cells) hp4
  have hs4 := q4.sub.trans (Sub.upd_fresh (.cells (pieceV none14).cells) hz4)
  generalize upd σ4 p4 (.cells (pieceV none14).cells) = σ4' at *
  generalize hβ : upd σ p4 (.cells (pieceV none14).cells) = β at *
  have hβs : Sub β σ := by rw [← hβ]; exact Sub.upd_fresh _ hz4
  ((conv => whnf); (repeat ((first | with_reducible refine abr_true rfl ?_ | with_reducible refine abr_false rfl ?_ | with_reducible refine abr_yes rfl ?_ | refine abr_yes (by decide) ?_ | refine abr_no (by decide) ?_ | with_reducible refine abr_same_ne ?_); (conv => whnf))))
  refine acall (qBytes id _ _ _ q4) ?_
  rintro _ σ_ ⟨rfl, e_⟩
  obtain rfl := e_.symm
  refine ⟨?_, Ext.refl _⟩
  ((conv => whnf); (repeat ((first | with_reducible refine abr_true rfl ?_ | with_reducible refine abr_false rfl ?_ | with_reducible refine abr_yes rfl ?_ | refine abr_yes (by decide) ?_ | refine abr_no (by decide) ?_ | with_reducible refine abr_same_ne ?_); (conv => whnf))))
  have ht : (tot (q13 a b).ts : Int) - ((q13 a b).taken : Nat) = (a.length : Int) + b.length := by show ((tot [(1, a), (2, b)] : Nat) : Int) - (0 : Nat) = _; rw [tot_cons, tot_cons, tot_nil]; show (((a.length + (b.length + 0) : Nat)) : Int) - _ = _; omega
  rw [ht, List.length_map, List.length_map]
  refine afit_i64 (by omega) ?_
  ((conv => whnf); (repeat ((first | with_reducible refine abr_true rfl ?_ | with_reducible refine abr_false rfl ?_ | with_reducible refine abr_yes rfl ?_ | refine abr_yes (by decide) ?_ | refine abr_no (by decide) ?_ | with_reducible refine abr_same_ne ?_); (conv => whnf))))
  by_cases h5 : room < (a.length : Int)
  · (repeat ((first | refine aload (by (repeat (first | with_reducible exact upd_same _ _ _ | assumption | rw [upd_ne _ _ (by first | assumption | (apply Ne.symm; assumption))]))) rfl ?_ | refine afit_i64 (by omega) ?_ | refine arem_nonneg (by omega) (by omega) ?_ | refine adiv_i64 (by omega) (by omega) ?_ | refine abr_yes (by omega) ?_ | refine abr_no (by omega) ?_ | refine amin ?_ | refine amax ?_ | refine afit_u64 (by omega) ?_ | refine afit_u8 (by omega) ?_ | rw [List.length_map]); ((conv => whnf); (repeat ((first | with_reducible refine abr_true rfl ?_ | with_reducible refine abr_false rfl ?_ | with_reducible refine abr_yes rfl ?_ | refine abr_yes (by decide) ?_ | refine abr_no (by decide) ?_ | with_reducible refine abr_same_ne ?_); (conv => whnf))))))
    refine acall (alive13 _) ?_
    rintro _ σ_ ⟨rfl, e_⟩
    obtain rfl := e_.symm
    refine ⟨?_, Ext.refl _⟩
    ((conv => whnf); (repeat ((first | with_reducible refine abr_true rfl ?_ | with_reducible refine abr_false rfl ?_ | with_reducible refine abr_yes rfl ?_ | refine abr_yes (by decide) ?_ | refine abr_no (by decide) ?_ | with_reducible refine abr_same_ne ?_); (conv => whnf))))
    exact aret (VLe.refl _) hs4 ⟨rfl, rfl⟩
  by_cases h6 : room > 4000
  · (repeat ((first | refine aload (by (repeat (first | with_reducible exact upd_same _ _ _ | assumption | rw [upd_ne _ _ (by first | assumption | (apply Ne.symm; assumption))]))) rfl ?_ | refine afit_i64 (by omega) ?_ | refine arem_nonneg (by omega) (by omega) ?_ | refine adiv_i64 (by omega) (by omega) ?_ | refine abr_yes (by omega) ?_ | refine abr_no (by omega) ?_ | refine amin ?_ | refine amax ?_ | refine afit_u64 (by omega) ?_ | refine afit_u8 (by omega) ?_ | rw [List.length_map]); ((conv => whnf); (repeat ((first | with_reducible refine abr_true rfl ?_ | with_reducible refine abr_false rfl ?_ | with_reducible refine abr_yes rfl ?_ | refine abr_yes (by decide) ?_ | refine abr_no (by decide) ?_ | with_reducible refine abr_same_ne ?_); (conv => whnf))))))
    refine acall (alive13 _) ?_
    rintro _ σ_ ⟨rfl, e_⟩
    obtain rfl := e_.symm
    refine ⟨?_, Ext.refl _⟩
    ((conv => whnf); (repeat ((first | with_reducible refine abr_true rfl ?_ | with_reducible refine abr_false rfl ?_ | with_reducible refine abr_yes rfl ?_ | refine abr_yes (by decide) ?_ | refine abr_no (by decide) ?_ | with_reducible refine abr_same_ne ?_); (conv => whnf))))
    exact aret (VLe.refl _) hs4 ⟨rfl, rfl⟩
  obtain ⟨fi, F, D, p1, p2, p3, p4, p5, p6⟩ := one_res (q4 : Qu _ _ _ _).2.1 (by omega) (by omega) (by omega : (a.length : Int) ≤ room) (by omega)
  (repeat ((first | refine aload (by (repeat (first | with_reducible exact upd_same _ _ _ | assumption | rw [upd_ne _ _ (by first | assumption | (apply Ne.symm; assumption))]))) rfl ?_ | refine afit_i64 (by omega) ?_ | refine arem_nonneg (by omega) (by omega) ?_ | refine adiv_i64 (by omega) (by omega) ?_ | refine abr_yes (by omega) ?_ | refine abr_no (by omega) ?_ | refine amin ?_ | refine amax ?_ | refine afit_u64 (by omega) ?_ | refine afit_u8 (by omega) ?_ | rw [List.length_map]); ((conv => whnf); (repeat ((first | with_reducible refine abr_true rfl ?_ | with_reducible refine abr_false rfl ?_ | with_reducible refine abr_yes rfl ?_ | refine abr_yes (by decide) ?_ | refine abr_no (by decide) ?_ | with_reducible refine abr_same_ne ?_); (conv => whnf))))))
  refine acall (cBuild id room 11 _ _ _ q4) ?_
  rintro _ σ5 ⟨rfl, q5⟩
  rw [p1, p2]
  ((conv => whnf); (repeat ((first | with_reducible refine abr_true rfl ?_ | with_reducible refine abr_false rfl ?_ | with_reducible refine abr_yes rfl ?_ | refine abr_yes (by decide) ?_ | refine abr_no (by decide) ?_ | with_reducible refine abr_same_ne ?_); (conv => whnf))))
  refine anew rfl fun pid hpid => ?_
  have hz := sub_none q5.sub hpid
  ((conv => whnf); (repeat ((first | with_reducible refine abr_true rfl ?_ | with_reducible refine abr_false rfl ?_ | with_reducible refine abr_yes rfl ?_ | refine abr_yes (by decide) ?_ | refine abr_no (by decide) ?_ | with_reducible refine abr_same_ne ?_); (conv => whnf))))
  refine astore (xs := (pieceV (fi, F, D)).cells) (l := (pieceV (fi, F, D)).cells) (upd_same _ _ _) (Nat.le_of_ble_eq_true rfl) rfl rfl ?_
  rw [upd_upd]
  replace q5 := q5.beside (.cells (pieceV (fi, F, D)).cells) hpid
  have hc5 : upd σ5 pid (.cells (pieceV (fi, F, D)).cells) pid = some (.cells [i64v fi, lists .none F, u64s .none D]) := upd_same _ _ _
  have hs5 := (q5.sub.trans (Sub.upd_fresh (.cells (pieceV (fi, F, D)).cells) hz)).trans hβs
  generalize upd σ5 pid (.cells (pieceV (fi, F, D)).cells) = σ6 at *
  have hF0 : F.length ≠ 0 := by
    intro e
    rw [List.length_eq_zero_iff.1 e] at p3
    simp at p3
  ((conv => whnf); (repeat ((first | with_reducible refine abr_true rfl ?_ | with_reducible refine abr_false rfl ?_ | with_reducible refine abr_yes rfl ?_ | refine abr_yes (by decide) ?_ | refine abr_no (by decide) ?_ | with_reducible refine abr_same_ne ?_); (conv => whnf))))
  refine aload hc5 rfl ?_
  ((conv => whnf); (repeat ((first | with_reducible refine abr_true rfl ?_ | with_reducible refine abr_false rfl ?_ | with_reducible refine abr_yes rfl ?_ | refine abr_yes (by decide) ?_ | refine abr_no (by decide) ?_ | with_reducible refine abr_same_ne ?_); (conv => whnf))))
  rw [List.length_map]
  refine abr_no (by omega) ?_
  ((conv => whnf); (repeat ((first | with_reducible refine abr_true rfl ?_ | with_reducible refine abr_false rfl ?_ | with_reducible refine abr_yes rfl ?_ | refine abr_yes (by decide) ?_ | refine abr_no (by decide) ?_ | with_reducible refine abr_same_ne ?_); (conv => whnf))))
  refine aload hc5 rfl ?_
  ((conv => whnf); (repeat ((first | with_reducible refine abr_true rfl ?_ | with_reducible refine abr_false rfl ?_ | with_reducible refine abr_yes rfl ?_ | refine abr_yes (by decide) ?_ | refine abr_no (by decide) ?_ | with_reducible refine abr_same_ne ?_); (conv => whnf))))
  refine aget (x := sl .none a) (by omega) (by show (F.map (sl .none))[0]? = _; rw [List.getElem?_map, p3]; rfl) ?_
  ((conv => whnf); (repeat ((first | with_reducible refine abr_true rfl ?_ | with_reducible refine abr_false rfl ?_ | with_reducible refine abr_yes rfl ?_ | refine abr_yes (by decide) ?_ | refine abr_no (by decide) ?_ | with_reducible refine abr_same_ne ?_); (conv => whnf))))
  refine acell rfl ?_
  ((conv => whnf); (repeat ((first | with_reducible refine abr_true rfl ?_ | with_reducible refine abr_false rfl ?_ | with_reducible refine abr_yes rfl ?_ | refine abr_yes (by decide) ?_ | refine abr_no (by decide) ?_ | with_reducible refine abr_same_ne ?_); (conv => whnf))))
  refine astr rfl ?_
  ((conv => whnf); (repeat ((first | with_reducible refine abr_true rfl ?_ | with_reducible refine abr_false rfl ?_ | with_reducible refine abr_yes rfl ?_ | refine abr_yes (by decide) ?_ | refine abr_no (by decide) ?_ | with_reducible refine abr_same_ne ?_); (conv => whnf))))
  refine astr rfl ?_
  ((conv => whnf); (repeat ((first | with_reducible refine abr_true rfl ?_ | with_reducible refine abr_false rfl ?_ | with_reducible refine abr_yes rfl ?_ | refine abr_yes (by decide) ?_ | refine abr_no (by decide) ?_ | with_reducible refine abr_same_ne ?_); (conv => whnf))))
  refine acall (alive13 _) ?_
  rintro _ σ_ ⟨rfl, e_⟩
  obtain rfl := e_.symm
  refine ⟨?_, Ext.refl _⟩
  ((conv => whnf); (repeat ((first | with_reducible refine abr_true rfl ?_ | with_reducible refine abr_false rfl ?_ | with_reducible refine abr_yes rfl ?_ | refine abr_yes (by decide) ?_ | refine abr_no (by decide) ?_ | with_reducible refine abr_same_ne ?_); (conv => whnf))))
  (repeat ((first | refine aload (by (repeat (first | with_reducible exact upd_same _ _ _ | assumption | rw [upd_ne _ _ (by first | assumption | (apply Ne.symm; assumption))]))) rfl ?_ | refine afit_i64 (by omega) ?_ | refine arem_nonneg (by omega) (by omega) ?_ | refine adiv_i64 (by omega) (by omega) ?_ | refine abr_yes (by omega) ?_ | refine abr_no (by omega) ?_ | refine amin ?_ | refine amax ?_ | refine afit_u64 (by omega) ?_ | refine afit_u8 (by omega) ?_ | rw [List.length_map]); ((conv => whnf); (repeat ((first | with_reducible refine abr_true rfl ?_ | with_reducible refine abr_false rfl ?_ | with_reducible refine abr_yes rfl ?_ | refine abr_yes (by decide) ?_ | refine abr_no (by decide) ?_ | with_reducible refine abr_same_ne ?_); (conv => whnf))))))
  refine abr_true (beq_dec (by omega)) ?_
  ((conv => whnf); (repeat ((first | with_reducible refine abr_true rfl ?_ | with_reducible refine abr_false rfl ?_ | with_reducible refine abr_yes rfl ?_ | refine abr_yes (by decide) ?_ | refine abr_no (by decide) ?_ | with_reducible refine abr_same_ne ?_); (conv => whnf))))
  (repeat ((first | refine aload (by (repeat (first | with_reducible exact upd_same _ _ _ | assumption | rw [upd_ne _ _ (by first | assumption | (apply Ne.symm; assumption))]))) rfl ?_ | refine afit_i64 (by omega) ?_ | refine arem_nonneg (by omega) (by omega) ?_ | refine adiv_i64 (by omega) (by omega) ?_ | refine abr_yes (by omega) ?_ | refine abr_no (by omega) ?_ | refine amin ?_ | refine amax ?_ | refine afit_u64 (by omega) ?_ | refine afit_u8 (by omega) ?_ | rw [List.length_map]); ((conv => whnf); (repeat ((first | with_reducible refine abr_true rfl ?_ | with_reducible refine abr_false rfl ?_ | with_reducible refine abr_yes rfl ?_ | refine abr_yes (by decide) ?_ | refine abr_no (by decide) ?_ | with_reducible refine abr_same_ne ?_); (conv => whnf))))))
  refine aret (VLe.refl _) hs5 ⟨congrArg boolv (beq_dec (by omega)), rfl⟩
end Go.Proofs.Ytnfdgccmpglbhaa
/-
  Cuts: what is built fits; the plain law.
-/
namespace Go.Proofs.Ytnfdgccmpglbhaa
set_option linter.unusedVariables false
set_option linter.unusedSimpArgs false
open Go Go.Am

/-- What waits, as bytes. -/
def restQ (q : QS) : List UInt8 := (q.ts.map Prod.snd).flatten.drop q.taken
theorem restQ_cons {q : QS} {t : Nat × List UInt8} {ts : List (Nat × List UInt8)} (e : q.ts = t :: ts) (h : q.taken ≤ t.2.length) : restQ q = t.2.drop q.taken ++ (ts.map Prod.snd).flatten := by
  unfold restQ
  rw [e, List.map_cons, List.flatten_cons, List.drop_append_of_le_length h]
theorem begC_lt13 {q : QS} (hq : QOk q) {d : Nat} (hd : d < q.ts.length) : begC q d < q.ts[d].2.length := by
  have h1 := (hq.each _ (List.getElem_mem hd)).1
  unfold begC
  split
  · rename_i h0
    subst h0
    have := hq.begun
    rw [show q.ts = q.ts[0] :: q.ts.drop 1 from (List.drop_eq_getElem_cons hd)] at this
    exact this
  · omega
theorem rest_st {q : QS} (hq : QOk q) : ∀ d, d ≤ q.ts.length → restQ q = (stP q d).2.1.flatten ++ restQ (stQ q d)
  | 0, _ => by rw [stQ_zero]; unfold stP; simp [wholes]
  | d + 1, hd => by
    have hd2 : d < q.ts.length := hd
    rw [rest_st hq d (by omega), stP_succ hd2]
    have hb := begC_lt13 hq hd2
    have e : (stQ q d).ts = q.ts[d] :: q.ts.drop (d + 1) := List.drop_eq_getElem_cons hd2
    rw [restQ_cons e (by show begC q d ≤ _; omega)]
    show _ ++ (q.ts[d].2.drop (begC q d) ++ _) = ((stP q d).2.1 ++ [q.ts[d].2.drop (begC q d)]).flatten ++ restQ (stQ q (d + 1))
    rw [List.flatten_append, List.flatten_cons, List.flatten_nil, List.append_nil, List.append_assoc]
    congr 2

structure Fit (room w : Int) (q q' : QS) (p : Pc) : Prop where
  size : bytesC p.2.1 w ≤ room
  exact_ : p.1 % 2 = 1 → bytesC p.2.1 w = room
  odd : p.1 % 2 = 1 ↔ 0 < q'.taken
  beg : 2 ≤ p.1 ↔ 0 < q.taken
  range : 0 ≤ p.1 ∧ p.1 ≤ 3
  few : p.2.1.length ≤ 24
  tot_ : total p.2.1 ≤ 4000
  ends : (p.2.2.length : Int) = (p.2.1.length : Int) - (if p.1 % 2 = 1 then 1 else 0)
  flat : restQ q = p.2.1.flatten ++ restQ q'
  le : p.2.2.length ≤ q.ts.length
  ids : p.2.2 = (q.ts.take p.2.2.length).map Prod.fst
  ts : q'.ts = q.ts.drop p.2.2.length
theorem cut_fit {room w : Int} {q : QS} (hq : QOk q) (hask : askCut room w = 0) :
    (cutCode room w q = 4 ∧ cutQ room w q = q) ∨ (cutCode room w q = 0 ∧ Fit room w q (cutQ room w q) (cutP room w q)) := by
  obtain ⟨hw, hr0, hr4⟩ := askCut_ok hask
  obtain ⟨r, hr⟩ : ∃ r, r = cutR room w q := ⟨_, rfl⟩
  have hres := cut_res (room := room) (w := w) hq
  rw [← hr] at hres
  obtain ⟨hQ, h1, h2⟩ := cutP_of hask hr
  have hfi : (fi0 q = 0 ∧ q.taken = 0) ∨ (fi0 q = 2 ∧ 0 < q.taken) := by
    unfold fi0
    split
    · exact .inr ⟨rfl, by assumption⟩
    · exact .inl ⟨rfl, by omega⟩
  rw [hQ]
  by_cases hF0 : r.2.2.1.length = 0
  · left
    refine ⟨(h2 hF0).1, ?_⟩
    clear h1 h2 hQ hr
    cases hres with
    | whole d hd h24 fit hend =>
      have : d = 0 := by rw [← stP_len hd]; exact hF0
      subst this
      exact stQ_zero q
    | part d m hd h24 hm1 hm fit => simp at hF0
  · right
    refine ⟨(h1 hF0).1, ?_⟩
    rw [(h1 hF0).2]
    clear h1 h2 hQ hr
    cases hres with
    | whole d hd h24 fit hend =>
      have hlen := stP_len hd
      have hd0 : d ≠ 0 := fun e => hF0 (by show (stP q d).2.1.length = 0; rw [hlen]; exact e)
      have e1 : (stP q d).1 = fi0 q := by unfold stP; rw [if_neg hd0]
      have e2 : (stP q d).2.2.length = d := by unfold stP; simp; omega
      have hs := fit (by omega)
      have hsz := sizeV_range ((d : Int) - 1) w
      have hb : bytesC (stP q d).2.1 w = sizeV ((d : Int) - 1) w + total (stP q d).2.1 := by unfold bytesC; rw [hlen, if_neg (by rw [widthOk_iff.2 hw]; simp; exact hd0)]
      refine ⟨by show bytesC (stP q d).2.1 w ≤ room; omega, ?_, ?_, ?_, ?_, ?_, ?_, ?_, rest_st hq d hd, ?_, ?_, ?_⟩
      · show (stP q d).1 % 2 = 1 → _; rw [e1]; omega
      · show (stP q d).1 % 2 = 1 ↔ 0 < begC q d; rw [e1, show begC q d = 0 from if_neg hd0]; omega
      · show 2 ≤ (stP q d).1 ↔ _; rw [e1]; omega
      · show 0 ≤ (stP q d).1 ∧ (stP q d).1 ≤ 3; rw [e1]; omega
      · show (stP q d).2.1.length ≤ 24; omega
      · show total (stP q d).2.1 ≤ 4000; omega
      · show ((stP q d).2.2.length : Int) = ((stP q d).2.1.length : Int) - (if (stP q d).1 % 2 = 1 then 1 else 0)
        rw [e1, if_neg (by omega), e2, hlen]; omega
      · show (stP q d).2.2.length ≤ _; omega
      · show (stP q d).2.2 = (q.ts.take (stP q d).2.2.length).map Prod.fst; rw [e2]; rfl
      · show q.ts.drop d = q.ts.drop (stP q d).2.2.length; rw [e2]
    | part d m hd h24 hm1 hm fit =>
      have hlen := stP_len (Nat.le_of_lt hd)
      have e2 : (stP q d).2.2.length = d := by unfold stP; simp; omega
      have hbl : ((q.ts[d].2.drop (begC q d)).take m).length = m := by rw [List.length_take, List.length_drop]; omega
      have hFl : ((stP q d).2.1 ++ [(q.ts[d].2.drop (begC q d)).take m]).length = d + 1 := by rw [List.length_append, hlen]; rfl
      have hT : total ((stP q d).2.1 ++ [(q.ts[d].2.drop (begC q d)).take m]) = total (stP q d).2.1 + m := by rw [total_append, total_cons, total_nil, hbl]; omega
      have hsz := sizeV_range (d : Int) w
      have hb : bytesC ((stP q d).2.1 ++ [(q.ts[d].2.drop (begC q d)).take m]) w = sizeV (d : Int) w + total (stP q d).2.1 + m := by
        unfold bytesC
        rw [hFl, hT, if_neg (by rw [widthOk_iff.2 hw]; simp), show ((d + 1 : Nat) : Int) - 1 = (d : Int) by omega]
        omega
      refine ⟨?_, ?_, ?_, ?_, ?_, ?_, ?_, ?_, ?_, ?_, ?_, ?_⟩
      · show bytesC ((stP q d).2.1 ++ [_]) w ≤ room; rw [hb]; omega
      · intro _; show bytesC ((stP q d).2.1 ++ [_]) w = room; rw [hb]; omega
      · show (fi0 q + 1) % 2 = 1 ↔ 0 < begC q d + m; omega
      · show 2 ≤ fi0 q + 1 ↔ _; omega
      · show 0 ≤ fi0 q + 1 ∧ fi0 q + 1 ≤ 3; omega
      · show ((stP q d).2.1 ++ [_]).length ≤ 24; omega
      · show total ((stP q d).2.1 ++ [_]) ≤ 4000; rw [hT]; omega
      · show ((stP q d).2.2.length : Int) = (((stP q d).2.1 ++ [_]).length : Int) - (if (fi0 q + 1) % 2 = 1 then 1 else 0)
        rw [if_pos (by omega), e2, hFl]; omega
      · show restQ q = ((stP q d).2.1 ++ [_]).flatten ++ restQ _
        rw [rest_st hq d (Nat.le_of_lt hd), List.flatten_append, List.flatten_cons, List.flatten_nil, List.append_nil, List.append_assoc]
        congr 1
        have e : (stQ q d).ts = q.ts[d] :: q.ts.drop (d + 1) := List.drop_eq_getElem_cons hd
        have e' : (⟨q.room, q.ts.drop d, begC q d + m, q.last⟩ : QS).ts = q.ts[d] :: q.ts.drop (d + 1) := List.drop_eq_getElem_cons hd
        rw [restQ_cons e (by show begC q d ≤ _; omega), restQ_cons e' (by show begC q d + m ≤ _; omega), ← List.append_assoc]
        congr 1
        show q.ts[d].2.drop (begC q d) = (q.ts[d].2.drop (begC q d)).take m ++ q.ts[d].2.drop (begC q d + m)
        rw [← List.drop_drop, List.take_append_drop]
      · show (stP q d).2.2.length ≤ _; omega
      · show (stP q d).2.2 = (q.ts.take (stP q d).2.2.length).map Prod.fst; rw [e2]; rfl
      · show q.ts.drop d = q.ts.drop (stP q d).2.2.length; rw [e2]
end Go.Proofs.Ytnfdgccmpglbhaa
/-
  Ways that meet again at a loop.
-/
namespace Go.Proofs.Ytnfdgccmpglbhaa
set_option linter.unusedVariables false
open Go Go.Am
theorem via_loop {G : Prop} {b : ICode} {Q : Exit → Env → AHeap → Prop} (K : ICode → (Exit → Env → AHeap → Prop) → Prop) (f : (Unit → K b Q) → G) (k : K b Q) : G := f fun _ => k
theorem aloop_from {P : Program} {C : Cfg} {b : ICode} {env env1 : Env} {σ : AHeap} {Q : Exit → Env → AHeap → Prop} (hle : EnvLe env env1) (h : ALoop P C b env1 σ Q) : ALoop P C b env σ Q := by
  rw [ALoop_def] at h ⊢
  intro c hc κ a w hS
  exact h c hc κ a w (hS.weaken hle (Sub.refl _))
end Go.Proofs.Ytnfdgccmpglbhaa
/-
  Cuts: what is built fits.
-/
namespace Go.Proofs.Ytnfdgccmpglbhaa
set_option linter.unusedVariables false
set_option linter.unusedSimpArgs false
open Go Go.Am

/-- The last number, behind the first k ones. -/
def doneAt (L : List Nat) (d k : Nat) : Nat := if k = 0 then d else L[k - 1]?.getD 0
theorem done_lt {L : List Nat} {d : Nat} (hp : L.Pairwise (· < ·)) (hd : ∀ x ∈ L, d < x) {k j : Nat} (hk : k ≤ j) (h : j < L.length) : doneAt L d k < L[j] := by
  unfold doneAt
  split
  · exact hd _ (List.getElem_mem h)
  · rw [List.getElem?_eq_getElem (by omega), Option.getD_some]
    exact List.pairwise_iff_getElem.1 hp (k - 1) j (by omega) h (by omega)
structure IncIds (d : Nat) (q : QS) : Prop where
  inc : (q.ts.map Prod.fst).Pairwise (· < ·)
  up : ∀ x ∈ q.ts.map Prod.fst, d < x
theorem IncIds.drop {d : Nat} {q q' : QS} (h : IncIds d q) {n : Nat} (hn : n ≤ q.ts.length) (e : q'.ts = q.ts.drop n) : IncIds (doneAt (q.ts.map Prod.fst) d n) q' := by
  refine ⟨by rw [e, List.map_drop]; exact h.inc.sublist (List.drop_sublist _ _), fun x hx => ?_⟩
  rw [e, List.map_drop] at hx
  obtain ⟨j, hj, rfl⟩ := List.getElem_of_mem hx
  rw [List.length_drop] at hj
  rw [List.getElem_drop]
  exact done_lt h.inc h.up (Nat.le_add_right _ _) _
theorem front_begun {q : QS} (h : QOk q) : (frontV q).2.2 = decide (0 < q.taken) := by
  unfold frontV
  split
  · rename_i e
    have := h.begun
    rw [e] at this
    have : q.taken = 0 := this
    rw [this]; rfl
  · rfl
theorem bne_dec {p q : Prop} {_ : Decidable p} {_ : Decidable q} (h : p ↔ q) : (!(decide p == decide q)) = false := by rw [beq_dec h]; rfl

set_option maxRecDepth 20000 in
set_option maxHeartbeats 4000000 in
theorem CutFits (texts : List (List UInt8)) (rooms : List Nat) (w : Int) (σ : AHeap) (hr : ∀ r ∈ rooms, r < 65536) :
    ACalls Try.prog i_bowlinelaw13_CutFits [lists .none texts, .slice 1 (rooms.map u16n) .none, i64v w] σ fun v σ' => v = boolv true ∧ σ' = σ := by
  refine k_bowlinelaw13_CutFits rfl ?_
  ((conv => whnf); (repeat ((first | with_reducible refine abr_true rfl ?_ | with_reducible refine abr_false rfl ?_ | with_reducible refine abr_yes rfl ?_ | refine abr_yes (by decide) ?_ | refine abr_no (by decide) ?_ | with_reducible refine abr_same_ne ?_); (conv => whnf))))
  refine acall (qNew 20000 _ (by omega)) ?_
  rintro _ σ1 ⟨id, rfl, q1⟩
  refine ⟨?_, q1.ext⟩
  ((conv => whnf); (repeat ((first | with_reducible refine abr_true rfl ?_ | with_reducible refine abr_false rfl ?_ | with_reducible refine abr_yes rfl ?_ | refine abr_yes (by decide) ?_ | refine abr_no (by decide) ?_ | with_reducible refine abr_same_ne ?_); (conv => whnf))))
  by_cases hw : w = 11 ∨ w = 15
  case neg =>
    have hw1 : ¬ w = 11 := fun e => hw (.inl e)
    have hw2 : ¬ w = 15 := fun e => hw (.inr e)
    refine abr_yes hw1 ?_
    ((conv => whnf); (repeat ((first | with_reducible refine abr_true rfl ?_ | with_reducible refine abr_false rfl ?_ | with_reducible refine abr_yes rfl ?_ | refine abr_yes (by decide) ?_ | refine abr_no (by decide) ?_ | with_reducible refine abr_same_ne ?_); (conv => whnf))))
    refine abr_yes hw2 ?_
    ((conv => whnf); (repeat ((first | with_reducible refine abr_true rfl ?_ | with_reducible refine abr_false rfl ?_ | with_reducible refine abr_yes rfl ?_ | refine abr_yes (by decide) ?_ | refine abr_no (by decide) ?_ | with_reducible refine abr_same_ne ?_); (conv => whnf))))
    refine acall (alive13 _) ?_
    rintro _ σ_ ⟨rfl, e_⟩
    obtain rfl := e_.symm
    refine ⟨?_, Ext.refl _⟩
    ((conv => whnf); (repeat ((first | with_reducible refine abr_true rfl ?_ | with_reducible refine abr_false rfl ?_ | with_reducible refine abr_yes rfl ?_ | refine abr_yes (by decide) ?_ | refine abr_no (by decide) ?_ | with_reducible refine abr_same_ne ?_); (conv => whnf))))
    exact aret (VLe.refl _) q1.sub ⟨rfl, rfl⟩
  have hid : σ id = none := q1.1
  apply via_loop (fun b Q => setsK (Env.full 9) [(s0, lists .none texts), (s1, .slice 1 (rooms.map u16n) .none), (s2, i64v w), (s7, .ptr id 0), (s9, sl .full []), (s10, sl .full []), (s11, i64v 0)] fun e => ALoop Try.prog c3 b e σ1 Q)
  case f =>
    intro hK
    rcases Classical.em (w = 11) with hw1 | hw1
    case' inl =>
      refine abr_no (fun k => k hw1) ?_
      ((conv => whnf); (repeat ((first | with_reducible refine abr_true rfl ?_ | with_reducible refine abr_false rfl ?_ | with_reducible refine abr_yes rfl ?_ | refine abr_yes (by decide) ?_ | refine abr_no (by decide) ?_ | with_reducible refine abr_same_ne ?_); (conv => whnf))))
    case' inr =>
      have hw2 : w = 15 := by omega
      refine abr_yes hw1 ?_
      ((conv => whnf); (repeat ((first | with_reducible refine abr_true rfl ?_ | with_reducible refine abr_false rfl ?_ | with_reducible refine abr_yes rfl ?_ | refine abr_yes (by decide) ?_ | refine abr_no (by decide) ?_ | with_reducible refine abr_same_ne ?_); (conv => whnf))))
      refine abr_no (fun k => k hw2) ?_
      ((conv => whnf); (repeat ((first | with_reducible refine abr_true rfl ?_ | with_reducible refine abr_false rfl ?_ | with_reducible refine abr_yes rfl ?_ | refine abr_yes (by decide) ?_ | refine abr_no (by decide) ?_ | with_reducible refine abr_same_ne ?_); (conv => whnf))))
    all_goals
      refine aloop_from ?_ (hK ())
      (repeat' first | with_reducible exact EnvLe.refl _ | (refine EnvLe.node ?_ (by first | exact Or.inl rfl | exact Or.inr (Or.inl rfl) | exact Or.inr (Or.inr ⟨nofun, VLe.slice _ _ _⟩)) ?_))
  case k =>
    (conv => whnf)
    refine aloop (α := Nat × List UInt8 × QS × Tok × AHeap) (fun x => [(s9, sl x.2.2.2.1 x.2.1), (s11, i64v x.1)]) (fun x => x.2.2.2.2)
      (fun x => x.1 ≤ texts.length ∧ x.1 ≤ 40 ∧ x.2.1.length ≤ 20000 ∧ (∃ τ tkq, τ.map strip = x.2.2.1.ts ∧ x.2.2.2.2 id = some (.cells (qcells x.2.2.1 τ tkq))) ∧ QOk x.2.2.1 ∧ TokIn x.2.2.2.2 σ x.2.2.2.1 ∧ Sub x.2.2.2.2 σ ∧ x.2.2.1.last ≤ x.1 ∧ x.2.2.1.taken = 0 ∧ x.2.1 = (x.2.2.1.ts.map Prod.snd).flatten ∧
        IncIds 0 x.2.2.1 ∧ (∀ y ∈ x.2.2.1.ts.map Prod.fst, y ≤ x.2.2.1.last)) (fun x => texts.length - x.1) (0, [], ⟨20000, [], 0, 0⟩, .full, σ1) ⟨Nat.zero_le _, by omega, by simp, (Qu.cell q1).2, q1.2.1, .full _ _, q1.sub, Nat.le_refl _, rfl, rfl, ⟨List.Pairwise.nil, by simp⟩, by simp⟩ (Sub.refl _) ?_ ?_
    · ((conv => whnf); (repeat ((first | with_reducible refine abr_true rfl ?_ | with_reducible refine abr_false rfl ?_ | with_reducible refine abr_yes rfl ?_ | refine abr_yes (by decide) ?_ | refine abr_no (by decide) ?_ | with_reducible refine abr_same_ne ?_); (conv => whnf))))
      (repeat' first | with_reducible exact EnvLe.refl _ | (refine EnvLe.node ?_ (by first | exact Or.inl rfl | exact Or.inr (Or.inl rfl) | exact Or.inr (Or.inr ⟨nofun, VLe.slice _ _ _⟩)) ?_))
    rintro ⟨i, all, q, tk, σ2⟩ ⟨hi, hi2, hal, ⟨τ, tkq, hτ, hc⟩, hq, hto, hs, hlast, htaken, hall, hinc, hle⟩
    dsimp only at hi hi2 hal hτ hc hq hto hs hlast htaken hall hinc hle ⊢
    by_cases h : i < texts.length ∧ i < 40
    · obtain ⟨h1, h2⟩ := h
      ((conv => whnf); (repeat ((first | with_reducible refine abr_true rfl ?_ | with_reducible refine abr_false rfl ?_ | with_reducible refine abr_yes rfl ?_ | refine abr_yes (by decide) ?_ | refine abr_no (by decide) ?_ | with_reducible refine abr_same_ne ?_); (conv => whnf))))
      (repeat ((first | refine aload (by (repeat (first | with_reducible exact upd_same _ _ _ | assumption | rw [upd_ne _ _ (by first | assumption | (apply Ne.symm; assumption))]))) rfl ?_ | refine afit_i64 (by omega) ?_ | refine arem_nonneg (by omega) (by omega) ?_ | refine adiv_i64 (by omega) (by omega) ?_ | refine abr_yes (by omega) ?_ | refine abr_no (by omega) ?_ | refine amin ?_ | refine amax ?_ | refine afit_u64 (by omega) ?_ | refine afit_u8 (by omega) ?_ | rw [List.length_map]); ((conv => whnf); (repeat ((first | with_reducible refine abr_true rfl ?_ | with_reducible refine abr_false rfl ?_ | with_reducible refine abr_yes rfl ?_ | refine abr_yes (by decide) ?_ | refine abr_no (by decide) ?_ | with_reducible refine abr_same_ne ?_); (conv => whnf))))))
      refine aget (by omega) (get_lists h1) ?_
      ((conv => whnf); (repeat ((first | with_reducible refine abr_true rfl ?_ | with_reducible refine abr_false rfl ?_ | with_reducible refine abr_yes rfl ?_ | refine abr_yes (by decide) ?_ | refine abr_no (by decide) ?_ | with_reducible refine abr_same_ne ?_); (conv => whnf))))
      refine acell rfl ?_
      ((conv => whnf); (repeat ((first | with_reducible refine abr_true rfl ?_ | with_reducible refine abr_false rfl ?_ | with_reducible refine abr_yes rfl ?_ | refine abr_yes (by decide) ?_ | refine abr_no (by decide) ?_ | with_reducible refine abr_same_ne ?_); (conv => whnf))))
      rw [List.length_map]
      by_cases h3 : texts[i].length > 1100
      · refine abr_yes (by omega) ?_
        ((conv => whnf); (repeat ((first | with_reducible refine abr_true rfl ?_ | with_reducible refine abr_false rfl ?_ | with_reducible refine abr_yes rfl ?_ | refine abr_yes (by decide) ?_ | refine abr_no (by decide) ?_ | with_reducible refine abr_same_ne ?_); (conv => whnf))))
        refine acall (alive13 _) ?_
        rintro _ σ_ ⟨rfl, e_⟩
        obtain rfl := e_.symm
        refine ⟨?_, Ext.refl _⟩
        ((conv => whnf); (repeat ((first | with_reducible refine abr_true rfl ?_ | with_reducible refine abr_false rfl ?_ | with_reducible refine abr_yes rfl ?_ | refine abr_yes (by decide) ?_ | refine abr_no (by decide) ?_ | with_reducible refine abr_same_ne ?_); (conv => whnf))))
        exact aret (VLe.refl _) hs ⟨rfl, rfl⟩
      · refine abr_no (by omega) ?_
        ((conv => whnf); (repeat ((first | with_reducible refine abr_true rfl ?_ | with_reducible refine abr_false rfl ?_ | with_reducible refine abr_yes rfl ?_ | refine abr_yes (by decide) ?_ | refine abr_no (by decide) ?_ | with_reducible refine abr_same_ne ?_); (conv => whnf))))
        refine aget (by omega) (get_lists h1) ?_
        ((conv => whnf); (repeat ((first | with_reducible refine abr_true rfl ?_ | with_reducible refine abr_false rfl ?_ | with_reducible refine abr_yes rfl ?_ | refine abr_yes (by decide) ?_ | refine abr_no (by decide) ?_ | with_reducible refine abr_same_ne ?_); (conv => whnf))))
        refine acell rfl ?_
        ((conv => whnf); (repeat ((first | with_reducible refine abr_true rfl ?_ | with_reducible refine abr_false rfl ?_ | with_reducible refine abr_yes rfl ?_ | refine abr_yes (by decide) ?_ | refine abr_no (by decide) ?_ | with_reducible refine abr_same_ne ?_); (conv => whnf))))
        refine acall (qPush id q texts[i] .none _ _ (Qu.at hq hτ hc) (by omega) (by omega)) ?_
        rintro _ σ3 ⟨rfl, w3⟩
        have hto3 := hto.ext (w3.tips hc)
        have hs3 := w3.sub.trans (sub_del hs hid)
        ((conv => whnf); (repeat ((first | with_reducible refine abr_true rfl ?_ | with_reducible refine abr_false rfl ?_ | with_reducible refine abr_yes rfl ?_ | refine abr_yes (by decide) ?_ | refine abr_no (by decide) ?_ | with_reducible refine abr_same_ne ?_); (conv => whnf))))
        by_cases hcode : pushCode q texts[i] = 0
        · rw [show pushQ q texts[i] = ⟨q.room, q.ts ++ [(q.last + 1, texts[i])], q.taken, q.last + 1⟩ from if_pos hcode] at w3
          obtain ⟨hq3, τ3, tk3, hτ3, hc3⟩ := w3.cell
          have hfl : (all ++ texts[i]) = ((q.ts ++ [(q.last + 1, texts[i])]).map Prod.snd).flatten := by rw [hall]; simp
          have hl2 : (all ++ texts[i]).length ≤ 20000 := by
            have e : ((q.ts ++ [(q.last + 1, texts[i])]).map Prod.snd).flatten.length = tot (q.ts ++ [(q.last + 1, texts[i])]) := by unfold tot; rw [List.length_flatten, List.map_map]; rfl
            have f1 := hq3.fits
            have f2 := hq3.room2
            dsimp only at f1 f2
            rw [hfl, e]; omega
          refine abr_yes hcode ?_
          ((conv => whnf); (repeat ((first | with_reducible refine abr_true rfl ?_ | with_reducible refine abr_false rfl ?_ | with_reducible refine abr_yes rfl ?_ | refine abr_yes (by decide) ?_ | refine abr_no (by decide) ?_ | with_reducible refine abr_same_ne ?_); (conv => whnf))))
          refine aget (by omega) (get_lists h1) ?_
          ((conv => whnf); (repeat ((first | with_reducible refine abr_true rfl ?_ | with_reducible refine abr_false rfl ?_ | with_reducible refine abr_yes rfl ?_ | refine abr_yes (by decide) ?_ | refine abr_no (by decide) ?_ | with_reducible refine abr_same_ne ?_); (conv => whnf))))
          refine acell rfl ?_
          ((conv => whnf); (repeat ((first | with_reducible refine abr_true rfl ?_ | with_reducible refine abr_false rfl ?_ | with_reducible refine abr_yes rfl ?_ | refine abr_yes (by decide) ?_ | refine abr_no (by decide) ?_ | with_reducible refine abr_same_ne ?_); (conv => whnf))))
          refine aapp_in hto3 hs3 (by rw [List.length_map, List.length_map]; omega) fun t' σ4 hx4 hs4 hto4 => ?_
          rw [← List.map_append]
          ((conv => whnf); (repeat ((first | with_reducible refine abr_true rfl ?_ | with_reducible refine abr_false rfl ?_ | with_reducible refine abr_yes rfl ?_ | refine abr_yes (by decide) ?_ | refine abr_no (by decide) ?_ | with_reducible refine abr_same_ne ?_); (conv => whnf))))
          (repeat ((first | refine aload (by (repeat (first | with_reducible exact upd_same _ _ _ | assumption | rw [upd_ne _ _ (by first | assumption | (apply Ne.symm; assumption))]))) rfl ?_ | refine afit_i64 (by omega) ?_ | refine arem_nonneg (by omega) (by omega) ?_ | refine adiv_i64 (by omega) (by omega) ?_ | refine abr_yes (by omega) ?_ | refine abr_no (by omega) ?_ | refine amin ?_ | refine amax ?_ | refine afit_u64 (by omega) ?_ | refine afit_u8 (by omega) ?_ | rw [List.length_map]); ((conv => whnf); (repeat ((first | with_reducible refine abr_true rfl ?_ | with_reducible refine abr_false rfl ?_ | with_reducible refine abr_yes rfl ?_ | refine abr_yes (by decide) ?_ | refine abr_no (by decide) ?_ | with_reducible refine abr_same_ne ?_); (conv => whnf))))))
          refine ⟨(i + 1, all ++ texts[i], _, .tip t', σ4), ⟨by dsimp only; omega, by dsimp only; omega, hl2, ⟨τ3, tk3, hτ3, hx4 id _ rfl hc3⟩, hq3, hto4, hs4, by dsimp only; omega, htaken, hfl, ⟨?_, ?_⟩, ?_⟩, by dsimp only; omega, Sub.refl _, ?_⟩
          · dsimp only
            rw [List.map_append, List.pairwise_append]
            refine ⟨hinc.inc, by simp, fun a ha b hb => ?_⟩
            simp at hb
            have := hle a ha
            omega
          · intro x hx
            rw [List.map_append] at hx
            rcases List.mem_append.1 hx with hx | hx
            · exact hinc.up x hx
            · simp at hx; omega
          · intro x hx
            dsimp only at hx ⊢
            rw [List.map_append] at hx
            rcases List.mem_append.1 hx with hx | hx
            · have := hle x hx; omega
            · simp at hx; omega
          · ((conv => whnf); (repeat ((first | with_reducible refine abr_true rfl ?_ | with_reducible refine abr_false rfl ?_ | with_reducible refine abr_yes rfl ?_ | refine abr_yes (by decide) ?_ | refine abr_no (by decide) ?_ | with_reducible refine abr_same_ne ?_); (conv => whnf))))
            (repeat' first | with_reducible exact EnvLe.refl _ | (refine EnvLe.node ?_ (by first | exact Or.inl rfl | exact Or.inr (Or.inl rfl) | exact Or.inr (Or.inr ⟨nofun, VLe.slice _ _ _⟩)) ?_))
        · rw [show pushQ q texts[i] = q from if_neg hcode] at w3
          obtain ⟨hq3, τ3, tk3, hτ3, hc3⟩ := w3.cell
          refine abr_no hcode ?_
          ((conv => whnf); (repeat ((first | with_reducible refine abr_true rfl ?_ | with_reducible refine abr_false rfl ?_ | with_reducible refine abr_yes rfl ?_ | refine abr_yes (by decide) ?_ | refine abr_no (by decide) ?_ | with_reducible refine abr_same_ne ?_); (conv => whnf))))
          (repeat ((first | refine aload (by (repeat (first | with_reducible exact upd_same _ _ _ | assumption | rw [upd_ne _ _ (by first | assumption | (apply Ne.symm; assumption))]))) rfl ?_ | refine afit_i64 (by omega) ?_ | refine arem_nonneg (by omega) (by omega) ?_ | refine adiv_i64 (by omega) (by omega) ?_ | refine abr_yes (by omega) ?_ | refine abr_no (by omega) ?_ | refine amin ?_ | refine amax ?_ | refine afit_u64 (by omega) ?_ | refine afit_u8 (by omega) ?_ | rw [List.length_map]); ((conv => whnf); (repeat ((first | with_reducible refine abr_true rfl ?_ | with_reducible refine abr_false rfl ?_ | with_reducible refine abr_yes rfl ?_ | refine abr_yes (by decide) ?_ | refine abr_no (by decide) ?_ | with_reducible refine abr_same_ne ?_); (conv => whnf))))))
          refine ⟨(i + 1, all, q, tk, σ3), ⟨by dsimp only; omega, by dsimp only; omega, hal, ⟨τ3, tk3, hτ3, hc3⟩, hq3, hto3, hs3, by dsimp only; omega, htaken, hall, hinc, hle⟩, by dsimp only; omega, Sub.refl _, ?_⟩
          ((conv => whnf); (repeat ((first | with_reducible refine abr_true rfl ?_ | with_reducible refine abr_false rfl ?_ | with_reducible refine abr_yes rfl ?_ | refine abr_yes (by decide) ?_ | refine abr_no (by decide) ?_ | with_reducible refine abr_same_ne ?_); (conv => whnf))))
          (repeat' first | with_reducible exact EnvLe.refl _ | (refine EnvLe.node ?_ (by first | exact Or.inl rfl | exact Or.inr (Or.inl rfl) | exact Or.inr (Or.inr ⟨nofun, VLe.slice _ _ _⟩)) ?_))
    · have hrest0 : restQ q = all := by unfold restQ; rw [htaken, List.drop_zero, hall]
      apply via_loop (fun b Q => setsK (Env.full 9) [(s1, .slice 1 (rooms.map u16n) .none), (s2, i64v w), (s7, .ptr id 0), (s9, sl tk all), (s10, sl .full []), (s14, u64v 0), (s15, i64v 0)] fun e => ALoop Try.prog c3 b e σ2 Q)
      case f =>
        intro hK
        by_cases ha : i < texts.length
        all_goals
          ((conv => whnf); (repeat ((first | with_reducible refine abr_true rfl ?_ | with_reducible refine abr_false rfl ?_ | with_reducible refine abr_yes rfl ?_ | refine abr_yes (by decide) ?_ | refine abr_no (by decide) ?_ | with_reducible refine abr_same_ne ?_); (conv => whnf))))
          (repeat ((first | refine aload (by (repeat (first | with_reducible exact upd_same _ _ _ | assumption | rw [upd_ne _ _ (by first | assumption | (apply Ne.symm; assumption))]))) rfl ?_ | refine afit_i64 (by omega) ?_ | refine arem_nonneg (by omega) (by omega) ?_ | refine adiv_i64 (by omega) (by omega) ?_ | refine abr_yes (by omega) ?_ | refine abr_no (by omega) ?_ | refine amin ?_ | refine amax ?_ | refine afit_u64 (by omega) ?_ | refine afit_u8 (by omega) ?_ | rw [List.length_map]); ((conv => whnf); (repeat ((first | with_reducible refine abr_true rfl ?_ | with_reducible refine abr_false rfl ?_ | with_reducible refine abr_yes rfl ?_ | refine abr_yes (by decide) ?_ | refine abr_no (by decide) ?_ | with_reducible refine abr_same_ne ?_); (conv => whnf))))))
          refine aloop_from ?_ (hK ())
          (repeat' first | with_reducible exact EnvLe.refl _ | (refine EnvLe.node ?_ (by first | exact Or.inl rfl | exact Or.inr (Or.inl rfl) | exact Or.inr (Or.inr ⟨nofun, VLe.slice _ _ _⟩)) ?_))
      case k =>
        (conv => whnf)
        refine aloop (α := Nat × List UInt8 × Nat × QS × Tok × Tok × AHeap) (fun x => [(s9, sl x.2.2.2.2.1 all), (s10, sl x.2.2.2.2.2.1 x.2.1), (s14, u64v x.2.2.1), (s15, i64v x.1)]) (fun x => x.2.2.2.2.2.2)
          (fun x => x.1 ≤ rooms.length ∧ x.1 ≤ 40 ∧ (∃ τ tkq, τ.map strip = x.2.2.2.1.ts ∧ x.2.2.2.2.2.2 id = some (.cells (qcells x.2.2.2.1 τ tkq))) ∧ QOk x.2.2.2.1 ∧ Tok2 x.2.2.2.2.2.2 σ x.2.2.2.2.1 x.2.2.2.2.2.1 ∧ Sub x.2.2.2.2.2.2 σ ∧ all = x.2.1 ++ restQ x.2.2.2.1 ∧ IncIds x.2.2.1 x.2.2.2.1) (fun x => rooms.length - x.1) (0, [], 0, q, tk, .full, σ2) ⟨Nat.zero_le _, by omega, ⟨τ, tkq, hτ, hc⟩, hq, ⟨hto, .full _ _, by rintro t rfl; nofun⟩, hs, hrest0.symm, hinc⟩ (Sub.refl _) ?_ ?_
        · ((conv => whnf); (repeat ((first | with_reducible refine abr_true rfl ?_ | with_reducible refine abr_false rfl ?_ | with_reducible refine abr_yes rfl ?_ | refine abr_yes (by decide) ?_ | refine abr_no (by decide) ?_ | with_reducible refine abr_same_ne ?_); (conv => whnf))))
          (repeat' first | with_reducible exact EnvLe.refl _ | (refine EnvLe.node ?_ (by first | exact Or.inl rfl | exact Or.inr (Or.inl rfl) | exact Or.inr (Or.inr ⟨nofun, VLe.slice _ _ _⟩)) ?_))
        rintro ⟨j, got, done, qn, ta, tb, σ3⟩ ⟨hj, hj2, ⟨τ3, tk3, hτ3, hc3⟩, hqn, hto3, hs3, hgot, hinc3⟩
        dsimp only at hj hj2 hτ3 hc3 hqn hto3 hs3 hgot hinc3 ⊢
        by_cases hgo : j < rooms.length ∧ j < 40
        · obtain ⟨g1, g2⟩ := hgo
          have hrj := hr _ (List.getElem_mem g1)
          ((conv => whnf); (repeat ((first | with_reducible refine abr_true rfl ?_ | with_reducible refine abr_false rfl ?_ | with_reducible refine abr_yes rfl ?_ | refine abr_yes (by decide) ?_ | refine abr_no (by decide) ?_ | with_reducible refine abr_same_ne ?_); (conv => whnf))))
          (repeat ((first | refine aload (by (repeat (first | with_reducible exact upd_same _ _ _ | assumption | rw [upd_ne _ _ (by first | assumption | (apply Ne.symm; assumption))]))) rfl ?_ | refine afit_i64 (by omega) ?_ | refine arem_nonneg (by omega) (by omega) ?_ | refine adiv_i64 (by omega) (by omega) ?_ | refine abr_yes (by omega) ?_ | refine abr_no (by omega) ?_ | refine amin ?_ | refine amax ?_ | refine afit_u64 (by omega) ?_ | refine afit_u8 (by omega) ?_ | rw [List.length_map]); ((conv => whnf); (repeat ((first | with_reducible refine abr_true rfl ?_ | with_reducible refine abr_false rfl ?_ | with_reducible refine abr_yes rfl ?_ | refine abr_yes (by decide) ?_ | refine abr_no (by decide) ?_ | with_reducible refine abr_same_ne ?_); (conv => whnf))))))
          refine aget (by omega) (get_u16n g1) ?_
          ((conv => whnf); (repeat ((first | with_reducible refine abr_true rfl ?_ | with_reducible refine abr_false rfl ?_ | with_reducible refine abr_yes rfl ?_ | refine abr_yes (by decide) ?_ | refine abr_no (by decide) ?_ | with_reducible refine abr_same_ne ?_); (conv => whnf))))
          refine acell rfl ?_
          ((conv => whnf); (repeat ((first | with_reducible refine abr_true rfl ?_ | with_reducible refine abr_false rfl ?_ | with_reducible refine abr_yes rfl ?_ | refine abr_yes (by decide) ?_ | refine abr_no (by decide) ?_ | with_reducible refine abr_same_ne ?_); (conv => whnf))))
          (repeat ((first | refine aload (by (repeat (first | with_reducible exact upd_same _ _ _ | assumption | rw [upd_ne _ _ (by first | assumption | (apply Ne.symm; assumption))]))) rfl ?_ | refine afit_i64 (by omega) ?_ | refine arem_nonneg (by omega) (by omega) ?_ | refine adiv_i64 (by omega) (by omega) ?_ | refine abr_yes (by omega) ?_ | refine abr_no (by omega) ?_ | refine amin ?_ | refine amax ?_ | refine afit_u64 (by omega) ?_ | refine afit_u8 (by omega) ?_ | rw [List.length_map]); ((conv => whnf); (repeat ((first | with_reducible refine abr_true rfl ?_ | with_reducible refine abr_false rfl ?_ | with_reducible refine abr_yes rfl ?_ | refine abr_yes (by decide) ?_ | refine abr_no (by decide) ?_ | with_reducible refine abr_same_ne ?_); (conv => whnf))))))
          obtain ⟨room, hroom⟩ : ∃ room : Int, room = ((rooms[j] : Nat) : Int) % 4001 := ⟨_, rfl⟩
          rw [← hroom]
          have hask : askCut room w = 0 := askCut_eq hw (by omega) (by omega)
          refine acall (qFront id qn _ _ (Qu.at hqn hτ3 hc3)) ?_
          rintro _ σ_ ⟨rfl, e_⟩
          obtain rfl := e_.symm
          refine ⟨?_, Ext.refl _⟩
          ((conv => whnf); (repeat ((first | with_reducible refine abr_true rfl ?_ | with_reducible refine abr_false rfl ?_ | with_reducible refine abr_yes rfl ?_ | refine abr_yes (by decide) ?_ | refine abr_no (by decide) ?_ | with_reducible refine abr_same_ne ?_); (conv => whnf))))
          rw [front_begun hqn]
          refine acall (cBuild id room w qn _ _ (Qu.at hqn hτ3 hc3)) ?_
          rintro _ σ4 ⟨rfl, w4⟩
          have hto4 := hto3.ext (w4.tips hc3)
          have hs4 := w4.sub.trans (sub_del hs3 hid)
          obtain ⟨hq4, τ4, tk4, hτ4, hc4⟩ := w4.cell
          ((conv => whnf); (repeat ((first | with_reducible refine abr_true rfl ?_ | with_reducible refine abr_false rfl ?_ | with_reducible refine abr_yes rfl ?_ | refine abr_yes (by decide) ?_ | refine abr_no (by decide) ?_ | with_reducible refine abr_same_ne ?_); (conv => whnf))))
          refine anew rfl fun pid hpid => ?_
          have npid : id ≠ pid := fun e => by subst e; rw [hc4] at hpid; cases hpid
          have hz : σ pid = none := sub_none hs4 hpid
          ((conv => whnf); (repeat ((first | with_reducible refine abr_true rfl ?_ | with_reducible refine abr_false rfl ?_ | with_reducible refine abr_yes rfl ?_ | refine abr_yes (by decide) ?_ | refine abr_no (by decide) ?_ | with_reducible refine abr_same_ne ?_); (conv => whnf))))
          refine astore (xs := (pieceV (cutP room w qn)).cells) (l := (pieceV (cutP room w qn)).cells) (upd_same _ _ _) (Nat.le_of_ble_eq_true rfl) rfl rfl ?_
          rw [upd_upd]
          have hto5 : Tok2 (upd σ4 pid (.cells (pieceV (cutP room w qn)).cells)) σ ta tb := hto4.fresh _ hpid
          have hs5 : Sub (upd σ4 pid (.cells (pieceV (cutP room w qn)).cells)) σ := sub_upd _ hs4 hz
          have hc5 : upd σ4 pid (.cells (pieceV (cutP room w qn)).cells) id = some (.cells (qcells (cutQ room w qn) τ4 tk4)) := (upd_ne _ _ npid).trans hc4
          have hp5 : upd σ4 pid (.cells (pieceV (cutP room w qn)).cells) pid = some (.cells [i64v (cutP room w qn).1, lists .none (cutP room w qn).2.1, u64s .none (cutP room w qn).2.2]) := upd_same _ _ _
          generalize upd σ4 pid (.cells (pieceV (cutP room w qn)).cells) = σ5 at *
          ((conv => whnf); (repeat ((first | with_reducible refine abr_true rfl ?_ | with_reducible refine abr_false rfl ?_ | with_reducible refine abr_yes rfl ?_ | refine abr_yes (by decide) ?_ | refine abr_no (by decide) ?_ | with_reducible refine abr_same_ne ?_); (conv => whnf))))
          rcases cut_fit hqn hask with ⟨hcode, hQ⟩ | ⟨hcode, hfit⟩
          · rw [hQ] at hq4 hτ4 hc5
            rw [hcode]
            ((conv => whnf); (repeat ((first | with_reducible refine abr_true rfl ?_ | with_reducible refine abr_false rfl ?_ | with_reducible refine abr_yes rfl ?_ | refine abr_yes (by decide) ?_ | refine abr_no (by decide) ?_ | with_reducible refine abr_same_ne ?_); (conv => whnf))))
            (repeat ((first | refine aload (by (repeat (first | with_reducible exact upd_same _ _ _ | assumption | rw [upd_ne _ _ (by first | assumption | (apply Ne.symm; assumption))]))) rfl ?_ | refine afit_i64 (by omega) ?_ | refine arem_nonneg (by omega) (by omega) ?_ | refine adiv_i64 (by omega) (by omega) ?_ | refine abr_yes (by omega) ?_ | refine abr_no (by omega) ?_ | refine amin ?_ | refine amax ?_ | refine afit_u64 (by omega) ?_ | refine afit_u8 (by omega) ?_ | rw [List.length_map]); ((conv => whnf); (repeat ((first | with_reducible refine abr_true rfl ?_ | with_reducible refine abr_false rfl ?_ | with_reducible refine abr_yes rfl ?_ | refine abr_yes (by decide) ?_ | refine abr_no (by decide) ?_ | with_reducible refine abr_same_ne ?_); (conv => whnf))))))
            refine ⟨(j + 1, got, done, qn, ta, tb, σ5), ⟨by dsimp only; omega, by dsimp only; omega, ⟨τ4, tk4, hτ4, hc5⟩, hqn, hto5, hs5, hgot, hinc3⟩, by dsimp only; omega, Sub.refl _, ?_⟩
            ((conv => whnf); (repeat ((first | with_reducible refine abr_true rfl ?_ | with_reducible refine abr_false rfl ?_ | with_reducible refine abr_yes rfl ?_ | refine abr_yes (by decide) ?_ | refine abr_no (by decide) ?_ | with_reducible refine abr_same_ne ?_); (conv => whnf))))
            (repeat' first | with_reducible exact EnvLe.refl _ | (refine EnvLe.node ?_ (by first | exact Or.inl rfl | exact Or.inr (Or.inl rfl) | exact Or.inr (Or.inr ⟨nofun, VLe.slice _ _ _⟩)) ?_))
          · rw [hcode]
            generalize cutQ room w qn = qm at *
            generalize cutP room w qn = p at *
            obtain ⟨fi, F, D⟩ := p
            obtain ⟨f1, f2, f3, f4, f5, f6, f7, f8, f9, f10, f11, f12⟩ := hfit
            dsimp only at f1 f2 f3 f4 f5 f6 f7 f8 f9 f10 f11 f12 hp5
            ((conv => whnf); (repeat ((first | with_reducible refine abr_true rfl ?_ | with_reducible refine abr_false rfl ?_ | with_reducible refine abr_yes rfl ?_ | refine abr_yes (by decide) ?_ | refine abr_no (by decide) ?_ | with_reducible refine abr_same_ne ?_); (conv => whnf))))
            refine aloads (l := [i64v fi, lists .none F, u64s .none D]) hp5 (by exact Nat.le_refl 3) rfl ?_
            ((conv => whnf); (repeat ((first | with_reducible refine abr_true rfl ?_ | with_reducible refine abr_false rfl ?_ | with_reducible refine abr_yes rfl ?_ | refine abr_yes (by decide) ?_ | refine abr_no (by decide) ?_ | with_reducible refine abr_same_ne ?_); (conv => whnf))))
            refine acall (cBytes (fi, F, D) w _ (by dsimp only; omega) (by dsimp only; omega)) ?_
            rintro _ σ_ ⟨rfl, e_⟩
            obtain rfl := e_.symm
            refine ⟨?_, Ext.refl _⟩
            ((conv => whnf); (repeat ((first | with_reducible refine abr_true rfl ?_ | with_reducible refine abr_false rfl ?_ | with_reducible refine abr_yes rfl ?_ | refine abr_yes (by decide) ?_ | refine abr_no (by decide) ?_ | with_reducible refine abr_same_ne ?_); (conv => whnf))))
            refine abr_no (show ¬ (room < bytesC F w) by omega) ?_
            ((conv => whnf); (repeat ((first | with_reducible refine abr_true rfl ?_ | with_reducible refine abr_false rfl ?_ | with_reducible refine abr_yes rfl ?_ | refine abr_yes (by decide) ?_ | refine abr_no (by decide) ?_ | with_reducible refine abr_same_ne ?_); (conv => whnf))))
            refine aload hp5 rfl ?_
            ((conv => whnf); (repeat ((first | with_reducible refine abr_true rfl ?_ | with_reducible refine abr_false rfl ?_ | with_reducible refine abr_yes rfl ?_ | refine abr_yes (by decide) ?_ | refine abr_no (by decide) ?_ | with_reducible refine abr_same_ne ?_); (conv => whnf))))
            refine abr_false (bne_dec (by omega)) ?_
            ((conv => whnf); (repeat ((first | with_reducible refine abr_true rfl ?_ | with_reducible refine abr_false rfl ?_ | with_reducible refine abr_yes rfl ?_ | refine abr_yes (by decide) ?_ | refine abr_no (by decide) ?_ | with_reducible refine abr_same_ne ?_); (conv => whnf))))
            (repeat ((first | refine aload (by (repeat (first | with_reducible exact upd_same _ _ _ | assumption | rw [upd_ne _ _ (by first | assumption | (apply Ne.symm; assumption))]))) rfl ?_ | refine afit_i64 (by omega) ?_ | refine arem_nonneg (by omega) (by omega) ?_ | refine adiv_i64 (by omega) (by omega) ?_ | refine abr_yes (by omega) ?_ | refine abr_no (by omega) ?_ | refine amin ?_ | refine amax ?_ | refine afit_u64 (by omega) ?_ | refine afit_u8 (by omega) ?_ | rw [List.length_map]); ((conv => whnf); (repeat ((first | with_reducible refine abr_true rfl ?_ | with_reducible refine abr_false rfl ?_ | with_reducible refine abr_yes rfl ?_ | refine abr_yes (by decide) ?_ | refine abr_no (by decide) ?_ | with_reducible refine abr_same_ne ?_); (conv => whnf))))))
            have hgl : got.length ≤ 20000 := by
              have := congrArg List.length hgot
              rw [List.length_append] at this
              omega
            refine aloop (α := Nat × Tok × AHeap) (fun x => [(s10, sl x.2.1 (got ++ (F.take x.1).flatten)), (s23, i64v x.1)]) (fun x => x.2.2)
              (fun x => x.1 ≤ F.length ∧ Tok2 x.2.2 σ ta x.2.1 ∧ Sub x.2.2 σ ∧ x.2.2 id = some (.cells (qcells qm τ4 tk4)) ∧ x.2.2 pid = some (.cells [i64v fi, lists .none F, u64s .none D])) (fun x => F.length - x.1) (0, tb, σ5) ⟨Nat.zero_le _, hto5, hs5, hc5, hp5⟩ (Sub.refl _) ?_ ?_
            · rw [List.take_zero, List.flatten_nil, List.append_nil]
              ((conv => whnf); (repeat ((first | with_reducible refine abr_true rfl ?_ | with_reducible refine abr_false rfl ?_ | with_reducible refine abr_yes rfl ?_ | refine abr_yes (by decide) ?_ | refine abr_no (by decide) ?_ | with_reducible refine abr_same_ne ?_); (conv => whnf))))
              (repeat' first | with_reducible exact EnvLe.refl _ | (refine EnvLe.node ?_ (by first | exact Or.inl rfl | exact Or.inr (Or.inl rfl) | exact Or.inr (Or.inr ⟨nofun, VLe.slice _ _ _⟩)) ?_))
            rintro ⟨k, tb2, σ6⟩ ⟨hk, hto6, hs6, hc6, hp6⟩
            dsimp only at hk hto6 hs6 hc6 hp6 ⊢
            have htk : (F.take k).flatten.length ≤ 4000 := Nat.le_trans (total_take_le F k) f7
            by_cases hk2 : k < F.length
            · have hfk := Nat.le_trans (total_get hk2) f7
              ((conv => whnf); (repeat ((first | with_reducible refine abr_true rfl ?_ | with_reducible refine abr_false rfl ?_ | with_reducible refine abr_yes rfl ?_ | refine abr_yes (by decide) ?_ | refine abr_no (by decide) ?_ | with_reducible refine abr_same_ne ?_); (conv => whnf))))
              (repeat ((first | refine aload (by (repeat (first | with_reducible exact upd_same _ _ _ | assumption | rw [upd_ne _ _ (by first | assumption | (apply Ne.symm; assumption))]))) rfl ?_ | refine afit_i64 (by omega) ?_ | refine arem_nonneg (by omega) (by omega) ?_ | refine adiv_i64 (by omega) (by omega) ?_ | refine abr_yes (by omega) ?_ | refine abr_no (by omega) ?_ | refine amin ?_ | refine amax ?_ | refine afit_u64 (by omega) ?_ | refine afit_u8 (by omega) ?_ | rw [List.length_map]); ((conv => whnf); (repeat ((first | with_reducible refine abr_true rfl ?_ | with_reducible refine abr_false rfl ?_ | with_reducible refine abr_yes rfl ?_ | refine abr_yes (by decide) ?_ | refine abr_no (by decide) ?_ | with_reducible refine abr_same_ne ?_); (conv => whnf))))))
              refine aget (by omega) (get_lists hk2) ?_
              ((conv => whnf); (repeat ((first | with_reducible refine abr_true rfl ?_ | with_reducible refine abr_false rfl ?_ | with_reducible refine abr_yes rfl ?_ | refine abr_yes (by decide) ?_ | refine abr_no (by decide) ?_ | with_reducible refine abr_same_ne ?_); (conv => whnf))))
              refine acell rfl ?_
              ((conv => whnf); (repeat ((first | with_reducible refine abr_true rfl ?_ | with_reducible refine abr_false rfl ?_ | with_reducible refine abr_yes rfl ?_ | refine abr_yes (by decide) ?_ | refine abr_no (by decide) ?_ | with_reducible refine abr_same_ne ?_); (conv => whnf))))
              refine aapp_2 hto6.symm hs6 (by rw [List.length_map, List.length_map, List.length_append]; omega) fun t' σ7 hx7 hs7 hto7 => ?_
              rw [← List.map_append]
              ((conv => whnf); (repeat ((first | with_reducible refine abr_true rfl ?_ | with_reducible refine abr_false rfl ?_ | with_reducible refine abr_yes rfl ?_ | refine abr_yes (by decide) ?_ | refine abr_no (by decide) ?_ | with_reducible refine abr_same_ne ?_); (conv => whnf))))
              (repeat ((first | refine aload (by (repeat (first | with_reducible exact upd_same _ _ _ | assumption | rw [upd_ne _ _ (by first | assumption | (apply Ne.symm; assumption))]))) rfl ?_ | refine afit_i64 (by omega) ?_ | refine arem_nonneg (by omega) (by omega) ?_ | refine adiv_i64 (by omega) (by omega) ?_ | refine abr_yes (by omega) ?_ | refine abr_no (by omega) ?_ | refine amin ?_ | refine amax ?_ | refine afit_u64 (by omega) ?_ | refine afit_u8 (by omega) ?_ | rw [List.length_map]); ((conv => whnf); (repeat ((first | with_reducible refine abr_true rfl ?_ | with_reducible refine abr_false rfl ?_ | with_reducible refine abr_yes rfl ?_ | refine abr_yes (by decide) ?_ | refine abr_no (by decide) ?_ | with_reducible refine abr_same_ne ?_); (conv => whnf))))))
              refine ⟨(k + 1, .tip t', σ7), ⟨hk2, hto7.symm, hs7, hx7 id _ rfl hc6, hx7 pid _ rfl hp6⟩, by dsimp only; omega, Sub.refl _, ?_⟩
              rw [show got ++ (F.take (k + 1)).flatten = got ++ (F.take k).flatten ++ F[k] by rw [show F.take (k + 1) = F.take k ++ [F[k]] from (List.take_append_getElem hk2).symm, List.flatten_append, ← List.append_assoc]; simp only [List.flatten_cons, List.flatten_nil, List.append_nil]]
              ((conv => whnf); (repeat ((first | with_reducible refine abr_true rfl ?_ | with_reducible refine abr_false rfl ?_ | with_reducible refine abr_yes rfl ?_ | refine abr_yes (by decide) ?_ | refine abr_no (by decide) ?_ | with_reducible refine abr_same_ne ?_); (conv => whnf))))
              (repeat' first | with_reducible exact EnvLe.refl _ | (refine EnvLe.node ?_ (by first | exact Or.inl rfl | exact Or.inr (Or.inl rfl) | exact Or.inr (Or.inr ⟨nofun, VLe.slice _ _ _⟩)) ?_))
            · rw [List.take_of_length_le (by omega)]
              ((conv => whnf); (repeat ((first | with_reducible refine abr_true rfl ?_ | with_reducible refine abr_false rfl ?_ | with_reducible refine abr_yes rfl ?_ | refine abr_yes (by decide) ?_ | refine abr_no (by decide) ?_ | with_reducible refine abr_same_ne ?_); (conv => whnf))))
              (repeat ((first | refine aload (by (repeat (first | with_reducible exact upd_same _ _ _ | assumption | rw [upd_ne _ _ (by first | assumption | (apply Ne.symm; assumption))]))) rfl ?_ | refine afit_i64 (by omega) ?_ | refine arem_nonneg (by omega) (by omega) ?_ | refine adiv_i64 (by omega) (by omega) ?_ | refine abr_yes (by omega) ?_ | refine abr_no (by omega) ?_ | refine amin ?_ | refine amax ?_ | refine afit_u64 (by omega) ?_ | refine afit_u8 (by omega) ?_ | rw [List.length_map]); ((conv => whnf); (repeat ((first | with_reducible refine abr_true rfl ?_ | with_reducible refine abr_false rfl ?_ | with_reducible refine abr_yes rfl ?_ | refine abr_yes (by decide) ?_ | refine abr_no (by decide) ?_ | with_reducible refine abr_same_ne ?_); (conv => whnf))))))
              refine acall (qFront id qm _ _ (Qu.at hq4 hτ4 hc6)) ?_
              rintro _ σ_ ⟨rfl, e_⟩
              obtain rfl := e_.symm
              refine ⟨?_, Ext.refl _⟩
              ((conv => whnf); (repeat ((first | with_reducible refine abr_true rfl ?_ | with_reducible refine abr_false rfl ?_ | with_reducible refine abr_yes rfl ?_ | refine abr_yes (by decide) ?_ | refine abr_no (by decide) ?_ | with_reducible refine abr_same_ne ?_); (conv => whnf))))
              rw [front_begun hq4]
              have hids : ∀ x, (hx : x < D.length) → ∃ h2 : x < (qn.ts.map Prod.fst).length, D[x] = (qn.ts.map Prod.fst)[x] := by
                intro x hx
                have h2 : x < (qn.ts.map Prod.fst).length := by rw [List.length_map]; omega
                refine ⟨h2, ?_⟩
                have e : D[x]? = (qn.ts.map Prod.fst)[x]? := by
                  conv => lhs; rw [f11]
                  rw [List.map_take, List.getElem?_take, if_pos hx]
                rw [List.getElem?_eq_getElem hx, List.getElem?_eq_getElem h2] at e
                injection e
              apply via_loop (fun b Q => setsK (Env.full 9) [(s1, .slice 1 (rooms.map u16n) .none), (s2, i64v w), (s7, .ptr id 0), (s9, sl ta all), (s10, sl tb2 (got ++ F.flatten)), (s14, u64v done), (s15, i64v j), (s20, .ptr pid 0), (s28, i64v 0)] fun e => ALoop Try.prog c3 b e σ6 Q)
              case f =>
                intro hK
                rcases Classical.em (fi % 2 = 1) with hodd | hodd
                case' inl =>
                  have f8' := f8
                  rw [if_pos hodd] at f8'
                  have f2' := f2 hodd
                  (repeat ((first | refine aload (by (repeat (first | with_reducible exact upd_same _ _ _ | assumption | rw [upd_ne _ _ (by first | assumption | (apply Ne.symm; assumption))]))) rfl ?_ | refine afit_i64 (by omega) ?_ | refine arem_nonneg (by omega) (by omega) ?_ | refine adiv_i64 (by omega) (by omega) ?_ | refine abr_yes (by omega) ?_ | refine abr_no (by omega) ?_ | refine amin ?_ | refine amax ?_ | refine afit_u64 (by omega) ?_ | refine afit_u8 (by omega) ?_ | rw [List.length_map]); ((conv => whnf); (repeat ((first | with_reducible refine abr_true rfl ?_ | with_reducible refine abr_false rfl ?_ | with_reducible refine abr_yes rfl ?_ | refine abr_yes (by decide) ?_ | refine abr_no (by decide) ?_ | with_reducible refine abr_same_ne ?_); (conv => whnf))))))
                  refine abr_false (bne_dec (by omega)) ?_
                  ((conv => whnf); (repeat ((first | with_reducible refine abr_true rfl ?_ | with_reducible refine abr_false rfl ?_ | with_reducible refine abr_yes rfl ?_ | refine abr_yes (by decide) ?_ | refine abr_no (by decide) ?_ | with_reducible refine abr_same_ne ?_); (conv => whnf))))
                  (repeat ((first | refine aload (by (repeat (first | with_reducible exact upd_same _ _ _ | assumption | rw [upd_ne _ _ (by first | assumption | (apply Ne.symm; assumption))]))) rfl ?_ | refine afit_i64 (by omega) ?_ | refine arem_nonneg (by omega) (by omega) ?_ | refine adiv_i64 (by omega) (by omega) ?_ | refine abr_yes (by omega) ?_ | refine abr_no (by omega) ?_ | refine amin ?_ | refine amax ?_ | refine afit_u64 (by omega) ?_ | refine afit_u8 (by omega) ?_ | rw [List.length_map]); ((conv => whnf); (repeat ((first | with_reducible refine abr_true rfl ?_ | with_reducible refine abr_false rfl ?_ | with_reducible refine abr_yes rfl ?_ | refine abr_yes (by decide) ?_ | refine abr_no (by decide) ?_ | with_reducible refine abr_same_ne ?_); (conv => whnf))))))
                case' inr =>
                  have f8' := f8
                  rw [if_neg hodd] at f8'
                  (repeat ((first | refine aload (by (repeat (first | with_reducible exact upd_same _ _ _ | assumption | rw [upd_ne _ _ (by first | assumption | (apply Ne.symm; assumption))]))) rfl ?_ | refine afit_i64 (by omega) ?_ | refine arem_nonneg (by omega) (by omega) ?_ | refine adiv_i64 (by omega) (by omega) ?_ | refine abr_yes (by omega) ?_ | refine abr_no (by omega) ?_ | refine amin ?_ | refine amax ?_ | refine afit_u64 (by omega) ?_ | refine afit_u8 (by omega) ?_ | rw [List.length_map]); ((conv => whnf); (repeat ((first | with_reducible refine abr_true rfl ?_ | with_reducible refine abr_false rfl ?_ | with_reducible refine abr_yes rfl ?_ | refine abr_yes (by decide) ?_ | refine abr_no (by decide) ?_ | with_reducible refine abr_same_ne ?_); (conv => whnf))))))
                  refine abr_false (bne_dec (by omega)) ?_
                  ((conv => whnf); (repeat ((first | with_reducible refine abr_true rfl ?_ | with_reducible refine abr_false rfl ?_ | with_reducible refine abr_yes rfl ?_ | refine abr_yes (by decide) ?_ | refine abr_no (by decide) ?_ | with_reducible refine abr_same_ne ?_); (conv => whnf))))
                  (repeat ((first | refine aload (by (repeat (first | with_reducible exact upd_same _ _ _ | assumption | rw [upd_ne _ _ (by first | assumption | (apply Ne.symm; assumption))]))) rfl ?_ | refine afit_i64 (by omega) ?_ | refine arem_nonneg (by omega) (by omega) ?_ | refine adiv_i64 (by omega) (by omega) ?_ | refine abr_yes (by omega) ?_ | refine abr_no (by omega) ?_ | refine amin ?_ | refine amax ?_ | refine afit_u64 (by omega) ?_ | refine afit_u8 (by omega) ?_ | rw [List.length_map]); ((conv => whnf); (repeat ((first | with_reducible refine abr_true rfl ?_ | with_reducible refine abr_false rfl ?_ | with_reducible refine abr_yes rfl ?_ | refine abr_yes (by decide) ?_ | refine abr_no (by decide) ?_ | with_reducible refine abr_same_ne ?_); (conv => whnf))))))
                all_goals
                  refine aloop_from ?_ (hK ())
                  (repeat' first | with_reducible exact EnvLe.refl _ | (refine EnvLe.node ?_ (by first | exact Or.inl rfl | exact Or.inr (Or.inl rfl) | exact Or.inr (Or.inr ⟨nofun, VLe.slice _ _ _⟩)) ?_))
              case k =>
                (conv => whnf)
                refine aloop (α := Nat) (fun x => [(s14, u64v (doneAt (qn.ts.map Prod.fst) done x)), (s28, i64v x)]) (fun _ => σ6) (fun x => x ≤ D.length) (fun x => D.length - x) 0 (Nat.zero_le _) (Sub.refl _) ?_ ?_
                · rw [show doneAt (qn.ts.map Prod.fst) done 0 = done from rfl]
                  ((conv => whnf); (repeat ((first | with_reducible refine abr_true rfl ?_ | with_reducible refine abr_false rfl ?_ | with_reducible refine abr_yes rfl ?_ | refine abr_yes (by decide) ?_ | refine abr_no (by decide) ?_ | with_reducible refine abr_same_ne ?_); (conv => whnf))))
                  (repeat' first | with_reducible exact EnvLe.refl _ | (refine EnvLe.node ?_ (by first | exact Or.inl rfl | exact Or.inr (Or.inl rfl) | exact Or.inr (Or.inr ⟨nofun, VLe.slice _ _ _⟩)) ?_))
                intro x hx
                by_cases hx2 : x < D.length
                · obtain ⟨hx3, hx4⟩ := hids x hx2
                  have hlt := done_lt hinc3.inc hinc3.up (Nat.le_refl x) hx3
                  have hget : (D.map u64v)[((x : Nat) : Int).toNat]? = some (u64v D[x]) := by rw [Int.toNat_natCast, List.getElem?_map, List.getElem?_eq_getElem hx2]; rfl
                  ((conv => whnf); (repeat ((first | with_reducible refine abr_true rfl ?_ | with_reducible refine abr_false rfl ?_ | with_reducible refine abr_yes rfl ?_ | refine abr_yes (by decide) ?_ | refine abr_no (by decide) ?_ | with_reducible refine abr_same_ne ?_); (conv => whnf))))
                  (repeat ((first | refine aload (by (repeat (first | with_reducible exact upd_same _ _ _ | assumption | rw [upd_ne _ _ (by first | assumption | (apply Ne.symm; assumption))]))) rfl ?_ | refine afit_i64 (by omega) ?_ | refine arem_nonneg (by omega) (by omega) ?_ | refine adiv_i64 (by omega) (by omega) ?_ | refine abr_yes (by omega) ?_ | refine abr_no (by omega) ?_ | refine amin ?_ | refine amax ?_ | refine afit_u64 (by omega) ?_ | refine afit_u8 (by omega) ?_ | rw [List.length_map]); ((conv => whnf); (repeat ((first | with_reducible refine abr_true rfl ?_ | with_reducible refine abr_false rfl ?_ | with_reducible refine abr_yes rfl ?_ | refine abr_yes (by decide) ?_ | refine abr_no (by decide) ?_ | with_reducible refine abr_same_ne ?_); (conv => whnf))))))
                  refine aget (by omega) hget ?_
                  ((conv => whnf); (repeat ((first | with_reducible refine abr_true rfl ?_ | with_reducible refine abr_false rfl ?_ | with_reducible refine abr_yes rfl ?_ | refine abr_yes (by decide) ?_ | refine abr_no (by decide) ?_ | with_reducible refine abr_same_ne ?_); (conv => whnf))))
                  refine acell rfl ?_
                  ((conv => whnf); (repeat ((first | with_reducible refine abr_true rfl ?_ | with_reducible refine abr_false rfl ?_ | with_reducible refine abr_yes rfl ?_ | refine abr_yes (by decide) ?_ | refine abr_no (by decide) ?_ | with_reducible refine abr_same_ne ?_); (conv => whnf))))
                  refine abr_no (by omega) ?_
                  ((conv => whnf); (repeat ((first | with_reducible refine abr_true rfl ?_ | with_reducible refine abr_false rfl ?_ | with_reducible refine abr_yes rfl ?_ | refine abr_yes (by decide) ?_ | refine abr_no (by decide) ?_ | with_reducible refine abr_same_ne ?_); (conv => whnf))))
                  (repeat ((first | refine aload (by (repeat (first | with_reducible exact upd_same _ _ _ | assumption | rw [upd_ne _ _ (by first | assumption | (apply Ne.symm; assumption))]))) rfl ?_ | refine afit_i64 (by omega) ?_ | refine arem_nonneg (by omega) (by omega) ?_ | refine adiv_i64 (by omega) (by omega) ?_ | refine abr_yes (by omega) ?_ | refine abr_no (by omega) ?_ | refine amin ?_ | refine amax ?_ | refine afit_u64 (by omega) ?_ | refine afit_u8 (by omega) ?_ | rw [List.length_map]); ((conv => whnf); (repeat ((first | with_reducible refine abr_true rfl ?_ | with_reducible refine abr_false rfl ?_ | with_reducible refine abr_yes rfl ?_ | refine abr_yes (by decide) ?_ | refine abr_no (by decide) ?_ | with_reducible refine abr_same_ne ?_); (conv => whnf))))))
                  refine aget (by omega) hget ?_
                  ((conv => whnf); (repeat ((first | with_reducible refine abr_true rfl ?_ | with_reducible refine abr_false rfl ?_ | with_reducible refine abr_yes rfl ?_ | refine abr_yes (by decide) ?_ | refine abr_no (by decide) ?_ | with_reducible refine abr_same_ne ?_); (conv => whnf))))
                  refine acell rfl ?_
                  ((conv => whnf); (repeat ((first | with_reducible refine abr_true rfl ?_ | with_reducible refine abr_false rfl ?_ | with_reducible refine abr_yes rfl ?_ | refine abr_yes (by decide) ?_ | refine abr_no (by decide) ?_ | with_reducible refine abr_same_ne ?_); (conv => whnf))))
                  (repeat ((first | refine aload (by (repeat (first | with_reducible exact upd_same _ _ _ | assumption | rw [upd_ne _ _ (by first | assumption | (apply Ne.symm; assumption))]))) rfl ?_ | refine afit_i64 (by omega) ?_ | refine arem_nonneg (by omega) (by omega) ?_ | refine adiv_i64 (by omega) (by omega) ?_ | refine abr_yes (by omega) ?_ | refine abr_no (by omega) ?_ | refine amin ?_ | refine amax ?_ | refine afit_u64 (by omega) ?_ | refine afit_u8 (by omega) ?_ | rw [List.length_map]); ((conv => whnf); (repeat ((first | with_reducible refine abr_true rfl ?_ | with_reducible refine abr_false rfl ?_ | with_reducible refine abr_yes rfl ?_ | refine abr_yes (by decide) ?_ | refine abr_no (by decide) ?_ | with_reducible refine abr_same_ne ?_); (conv => whnf))))))
                  refine ⟨x + 1, hx2, by omega, Sub.refl _, ?_⟩
                  rw [show doneAt (qn.ts.map Prod.fst) done (x + 1) = D[x] by unfold doneAt; rw [if_neg (Nat.succ_ne_zero x), Nat.add_sub_cancel, List.getElem?_eq_getElem hx3, Option.getD_some, hx4]]
                  ((conv => whnf); (repeat ((first | with_reducible refine abr_true rfl ?_ | with_reducible refine abr_false rfl ?_ | with_reducible refine abr_yes rfl ?_ | refine abr_yes (by decide) ?_ | refine abr_no (by decide) ?_ | with_reducible refine abr_same_ne ?_); (conv => whnf))))
                  (repeat' first | with_reducible exact EnvLe.refl _ | (refine EnvLe.node ?_ (by first | exact Or.inl rfl | exact Or.inr (Or.inl rfl) | exact Or.inr (Or.inr ⟨nofun, VLe.slice _ _ _⟩)) ?_))
                · obtain rfl : x = D.length := by omega
                  ((conv => whnf); (repeat ((first | with_reducible refine abr_true rfl ?_ | with_reducible refine abr_false rfl ?_ | with_reducible refine abr_yes rfl ?_ | refine abr_yes (by decide) ?_ | refine abr_no (by decide) ?_ | with_reducible refine abr_same_ne ?_); (conv => whnf))))
                  (repeat ((first | refine aload (by (repeat (first | with_reducible exact upd_same _ _ _ | assumption | rw [upd_ne _ _ (by first | assumption | (apply Ne.symm; assumption))]))) rfl ?_ | refine afit_i64 (by omega) ?_ | refine arem_nonneg (by omega) (by omega) ?_ | refine adiv_i64 (by omega) (by omega) ?_ | refine abr_yes (by omega) ?_ | refine abr_no (by omega) ?_ | refine amin ?_ | refine amax ?_ | refine afit_u64 (by omega) ?_ | refine afit_u8 (by omega) ?_ | rw [List.length_map]); ((conv => whnf); (repeat ((first | with_reducible refine abr_true rfl ?_ | with_reducible refine abr_false rfl ?_ | with_reducible refine abr_yes rfl ?_ | refine abr_yes (by decide) ?_ | refine abr_no (by decide) ?_ | with_reducible refine abr_same_ne ?_); (conv => whnf))))))
                  refine ⟨(j + 1, got ++ F.flatten, doneAt (qn.ts.map Prod.fst) done D.length, qm, ta, tb2, σ6), ⟨by dsimp only; omega, by dsimp only; omega, ⟨τ4, tk4, hτ4, hc6⟩, hq4, hto6, hs6, by dsimp only; rw [hgot, f9, List.append_assoc], hinc3.drop f10 f12⟩, by dsimp only; omega, Sub.refl _, ?_⟩
                  ((conv => whnf); (repeat ((first | with_reducible refine abr_true rfl ?_ | with_reducible refine abr_false rfl ?_ | with_reducible refine abr_yes rfl ?_ | refine abr_yes (by decide) ?_ | refine abr_no (by decide) ?_ | with_reducible refine abr_same_ne ?_); (conv => whnf))))
                  (repeat' first | with_reducible exact EnvLe.refl _ | (refine EnvLe.node ?_ (by first | exact Or.inl rfl | exact Or.inr (Or.inl rfl) | exact Or.inr (Or.inr ⟨nofun, VLe.slice _ _ _⟩)) ?_))
        · have hrl : (restQ qn).length = tot qn.ts - qn.taken := by unfold restQ tot; rw [List.length_drop, List.length_flatten, List.map_map]; rfl
          have hlen := congrArg List.length hgot
          rw [List.length_append, hrl] at hlen
          have hle3 := hqn.le
          by_cases hgj : j < rooms.length
          all_goals
            ((conv => whnf); (repeat ((first | with_reducible refine abr_true rfl ?_ | with_reducible refine abr_false rfl ?_ | with_reducible refine abr_yes rfl ?_ | refine abr_yes (by decide) ?_ | refine abr_no (by decide) ?_ | with_reducible refine abr_same_ne ?_); (conv => whnf))))
            (repeat ((first | refine aload (by (repeat (first | with_reducible exact upd_same _ _ _ | assumption | rw [upd_ne _ _ (by first | assumption | (apply Ne.symm; assumption))]))) rfl ?_ | refine afit_i64 (by omega) ?_ | refine arem_nonneg (by omega) (by omega) ?_ | refine adiv_i64 (by omega) (by omega) ?_ | refine abr_yes (by omega) ?_ | refine abr_no (by omega) ?_ | refine amin ?_ | refine amax ?_ | refine afit_u64 (by omega) ?_ | refine afit_u8 (by omega) ?_ | rw [List.length_map]); ((conv => whnf); (repeat ((first | with_reducible refine abr_true rfl ?_ | with_reducible refine abr_false rfl ?_ | with_reducible refine abr_yes rfl ?_ | refine abr_yes (by decide) ?_ | refine abr_no (by decide) ?_ | with_reducible refine abr_same_ne ?_); (conv => whnf))))))
            refine acall (alive13 _) ?_
            rintro _ σ_ ⟨rfl, e_⟩
            obtain rfl := e_.symm
            refine ⟨?_, Ext.refl _⟩
            ((conv => whnf); (repeat ((first | with_reducible refine abr_true rfl ?_ | with_reducible refine abr_false rfl ?_ | with_reducible refine abr_yes rfl ?_ | refine abr_yes (by decide) ?_ | refine abr_no (by decide) ?_ | with_reducible refine abr_same_ne ?_); (conv => whnf))))
            rw [List.length_map, List.length_map]
            (repeat ((first | refine aload (by (repeat (first | with_reducible exact upd_same _ _ _ | assumption | rw [upd_ne _ _ (by first | assumption | (apply Ne.symm; assumption))]))) rfl ?_ | refine afit_i64 (by omega) ?_ | refine arem_nonneg (by omega) (by omega) ?_ | refine adiv_i64 (by omega) (by omega) ?_ | refine abr_yes (by omega) ?_ | refine abr_no (by omega) ?_ | refine amin ?_ | refine amax ?_ | refine afit_u64 (by omega) ?_ | refine afit_u8 (by omega) ?_ | rw [List.length_map]); ((conv => whnf); (repeat ((first | with_reducible refine abr_true rfl ?_ | with_reducible refine abr_false rfl ?_ | with_reducible refine abr_yes rfl ?_ | refine abr_yes (by decide) ?_ | refine abr_no (by decide) ?_ | with_reducible refine abr_same_ne ?_); (conv => whnf))))))
            refine acut (by omega) (by omega) (by omega) ?_
            ((conv => whnf); (repeat ((first | with_reducible refine abr_true rfl ?_ | with_reducible refine abr_false rfl ?_ | with_reducible refine abr_yes rfl ?_ | refine abr_yes (by decide) ?_ | refine abr_no (by decide) ?_ | with_reducible refine abr_same_ne ?_); (conv => whnf))))
            refine astr (bs := got) (by rw [show (0 : Int).toNat = 0 from rfl, List.drop_zero, Int.toNat_natCast, ← List.map_take, hgot, List.take_left']; rfl) ?_
            ((conv => whnf); (repeat ((first | with_reducible refine abr_true rfl ?_ | with_reducible refine abr_false rfl ?_ | with_reducible refine abr_yes rfl ?_ | refine abr_yes (by decide) ?_ | refine abr_no (by decide) ?_ | with_reducible refine abr_same_ne ?_); (conv => whnf))))
            refine astr rfl ?_
            ((conv => whnf); (repeat ((first | with_reducible refine abr_true rfl ?_ | with_reducible refine abr_false rfl ?_ | with_reducible refine abr_yes rfl ?_ | refine abr_yes (by decide) ?_ | refine abr_no (by decide) ?_ | with_reducible refine abr_same_ne ?_); (conv => whnf))))
            (repeat ((first | refine aload (by (repeat (first | with_reducible exact upd_same _ _ _ | assumption | rw [upd_ne _ _ (by first | assumption | (apply Ne.symm; assumption))]))) rfl ?_ | refine afit_i64 (by omega) ?_ | refine arem_nonneg (by omega) (by omega) ?_ | refine adiv_i64 (by omega) (by omega) ?_ | refine abr_yes (by omega) ?_ | refine abr_no (by omega) ?_ | refine amin ?_ | refine amax ?_ | refine afit_u64 (by omega) ?_ | refine afit_u8 (by omega) ?_ | rw [List.length_map]); ((conv => whnf); (repeat ((first | with_reducible refine abr_true rfl ?_ | with_reducible refine abr_false rfl ?_ | with_reducible refine abr_yes rfl ?_ | refine abr_yes (by decide) ?_ | refine abr_no (by decide) ?_ | with_reducible refine abr_same_ne ?_); (conv => whnf))))))
            refine acall (qBytes id qn _ _ (Qu.at hqn hτ3 hc3)) ?_
            rintro _ σ_ ⟨rfl, e_⟩
            obtain rfl := e_.symm
            refine ⟨?_, Ext.refl _⟩
            ((conv => whnf); (repeat ((first | with_reducible refine abr_true rfl ?_ | with_reducible refine abr_false rfl ?_ | with_reducible refine abr_yes rfl ?_ | refine abr_yes (by decide) ?_ | refine abr_no (by decide) ?_ | with_reducible refine abr_same_ne ?_); (conv => whnf))))
            exact aret_dec (by omega) hs3
end Go.Proofs.Ytnfdgccmpglbhaa
