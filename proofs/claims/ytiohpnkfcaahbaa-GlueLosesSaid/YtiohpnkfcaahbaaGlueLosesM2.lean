/-
  Texts of this claim, part 3: Irlens, Clensz, Ctok, Ctok2, Ircut, Ccut, Ccutl, Irglue, Cglue, Cglueb, Irlaw14, Claw14a, Claw14c, Claw14d.
-/
import Derived.Test.YtiohpnkfcaahbaaGlueLosesM1
/-
  The bodies of one package, compiled to the framework's language (printed by a program of this session).
-/
namespace Go.Proofs.Ytiohpnkfcaahbaa
set_option linter.unusedVariables false
set_option linter.unusedSimpArgs false
open Go Go.Am
/- lens.Size -/
def c77 : Cfg := ⟨qs, [], 23, []⟩
def ir77 : IFun := ⟨2, [.tmp s4],
  (.seq (.reg (.one ⟨some s4, none, (.mv (.c (.v (.int .i64 0))))⟩
    .done))
  (.seq (.seq (.reg (.one ⟨some s5, none, (.mv (.t s1))⟩
    (.one ⟨some s6, none, (.callq 79 [(.t s5)])⟩
    (.one ⟨some s7, none, (.not (.t s6))⟩
    (.one ⟨some s8, none, (.mv (.t s7))⟩
    (.one ⟨some s9, some (s8, false), (.mv (.t s0))⟩
    (.one ⟨some s10, some (s8, false), (.bin false .lss (.t s9) (.c (.v (.int .i64 1))))⟩
    (.one ⟨some s11, none, (.pick (.t s8) (.c (.v (.bool true))) (.t s10))⟩
    (.one ⟨some s12, none, (.mv (.t s11))⟩
    (.one ⟨some s13, some (s12, false), (.mv (.t s0))⟩
    (.one ⟨some s14, some (s12, false), (.bin false .gtr (.t s13) (.c (.v (.int .i64 23))))⟩
    (.one ⟨some s15, none, (.pick (.t s12) (.c (.v (.bool true))) (.t s14))⟩
    .done))))))))))))
  (.cond (.t s15) (.seq (.reg (.one ⟨some s4, none, (.mv (.c (.v (.int .i64 0))))⟩
    .done))
  .ret) .skip))
  (.seq (.reg (.one ⟨some s16, none, (.mv (.t s0))⟩
    (.one ⟨some s17, none, (.mv (.t s1))⟩
    (.one ⟨some s18, none, (.bin false .add (.t s17) (.c (.v (.int .i64 1))))⟩
    (.one ⟨some s19, none, (.bin false .mul (.t s16) (.t s18))⟩
    (.one ⟨some s20, none, (.bin false .add (.t s19) (.c (.v (.int .i64 8))))⟩
    (.one ⟨some s21, none, (.bin false .sub (.t s20) (.c (.v (.int .i64 1))))⟩
    (.one ⟨some s22, none, (.bin false .quo (.t s21) (.c (.v (.int .i64 8))))⟩
    (.one ⟨some s4, none, (.mv (.t s22))⟩
    .done)))))))))
  .ret)))⟩
theorem ok77 : compF Try.prog c77 Try.f77 = some ir77 := by kernel_rfl
theorem k_lens_Size {args : List AVal} {σ : AHeap} {Q : AVal → AHeap → Prop} (hl : Nat.ble args.length 23 = true) (h : argsK (Env.full 9) 0 args fun env => evC Try.prog c77 ir77.body env σ (retQ ir77 Q)) : ACalls Try.prog 77 args σ Q :=
  acalls_of Try.func77 ok77 rfl (Nat.le_of_ble_eq_true hl) h
/- lens.isWidth -/
def c79 : Cfg := ⟨qs, [], 9, []⟩
def ir79 : IFun := ⟨1, [.tmp s2],
  (.seq (.reg (.one ⟨some s2, none, (.mv (.c (.v (.bool false))))⟩
    .done))
  (.seq (.reg (.one ⟨some s3, none, (.mv (.t s0))⟩
    (.one ⟨some s4, none, (.bin false .eql (.t s3) (.c (.v (.int .i64 11))))⟩
    (.one ⟨some s5, none, (.mv (.t s4))⟩
    (.one ⟨some s6, some (s5, false), (.mv (.t s0))⟩
    (.one ⟨some s7, some (s5, false), (.bin false .eql (.t s6) (.c (.v (.int .i64 15))))⟩
    (.one ⟨some s8, none, (.pick (.t s5) (.c (.v (.bool true))) (.t s7))⟩
    (.one ⟨some s2, none, (.mv (.t s8))⟩
    .done))))))))
  .ret))⟩
theorem ok79 : compF Try.prog c79 Try.f79 = some ir79 := by kernel_rfl
theorem k_lens_isWidth {args : List AVal} {σ : AHeap} {Q : AVal → AHeap → Prop} (hl : Nat.ble args.length 9 = true) (h : argsK (Env.full 9) 0 args fun env => evC Try.prog c79 ir79.body env σ (retQ ir79 Q)) : ACalls Try.prog 79 args σ Q :=
  acalls_of Try.func79 ok79 rfl (Nat.le_of_ble_eq_true hl) h
end Go.Proofs.Ytiohpnkfcaahbaa
/-
  How many bytes lengths have.
-/
namespace Go.Proofs.Ytiohpnkfcaahbaa
set_option linter.unusedVariables false
set_option linter.unusedSimpArgs false
open Go Go.Am

abbrev ints (t : Tok) (l : List Int) : AVal := .slice 1 (l.map i64v) t
theorem get_ints {l : List Int} {i : Nat} (h : i < l.length) : (l.map i64v)[((i : Nat) : Int).toNat]? = some (i64v l[i]) := by
  rw [Int.toNat_natCast, List.getElem?_map, List.getElem?_eq_getElem h]; rfl

def widthOk (w : Int) : Bool := decide (w = 11) || decide (w = 15)
theorem widthOk_iff {w : Int} : widthOk w = true ↔ w = 11 ∨ w = 15 := by simp [widthOk]
theorem widthNo {w : Int} (h : ¬ (w = 11 ∨ w = 15)) : widthOk w = false := by simp only [← widthOk_iff] at h; simpa using h

def sizeV (n w : Int) : Int := if widthOk w = false ∨ n < 1 ∨ n > 23 then 0 else (n * (w + 1) + 7) / 8

theorem lIsWidth (w : Int) (σ : AHeap) : ACalls Try.prog i_lens_isWidth [i64v w] σ fun v σ' => v = boolv (widthOk w) ∧ σ' = σ := by
  refine k_lens_isWidth rfl ?_
  ((conv => whnf); (repeat ((first | with_reducible refine abr_true rfl ?_ | with_reducible refine abr_false rfl ?_ | with_reducible refine abr_yes rfl ?_ | refine abr_yes (by decide) ?_ | refine abr_no (by decide) ?_ | with_reducible refine abr_same_ne ?_); (conv => whnf))))
  by_cases h : w = 11
  · subst h
    ((conv => whnf); (repeat ((first | with_reducible refine abr_true rfl ?_ | with_reducible refine abr_false rfl ?_ | with_reducible refine abr_yes rfl ?_ | refine abr_yes (by decide) ?_ | refine abr_no (by decide) ?_ | with_reducible refine abr_same_ne ?_); (conv => whnf))))
    exact aret_same ⟨rfl, rfl⟩
  · refine abr_no h ?_
    ((conv => whnf); (repeat ((first | with_reducible refine abr_true rfl ?_ | with_reducible refine abr_false rfl ?_ | with_reducible refine abr_yes rfl ?_ | refine abr_yes (by decide) ?_ | refine abr_no (by decide) ?_ | with_reducible refine abr_same_ne ?_); (conv => whnf))))
    refine aret_same ⟨?_, rfl⟩
    unfold widthOk
    rw [decide_eq_false h, Bool.false_or]

theorem lSize (n w : Int) (σ : AHeap) : ACalls Try.prog i_lens_Size [i64v n, i64v w] σ fun v σ' => v = i64v (sizeV n w) ∧ σ' = σ := by
  refine k_lens_Size rfl ?_
  ((conv => whnf); (repeat ((first | with_reducible refine abr_true rfl ?_ | with_reducible refine abr_false rfl ?_ | with_reducible refine abr_yes rfl ?_ | refine abr_yes (by decide) ?_ | refine abr_no (by decide) ?_ | with_reducible refine abr_same_ne ?_); (conv => whnf))))
  refine acall (lIsWidth w _) ?_
  rintro _ σ_ ⟨rfl, e_⟩
  obtain rfl := e_.symm
  refine ⟨?_, Ext.refl _⟩
  ((conv => whnf); (repeat ((first | with_reducible refine abr_true rfl ?_ | with_reducible refine abr_false rfl ?_ | with_reducible refine abr_yes rfl ?_ | refine abr_yes (by decide) ?_ | refine abr_no (by decide) ?_ | with_reducible refine abr_same_ne ?_); (conv => whnf))))
  by_cases hw : w = 11 ∨ w = 15
  · rw [widthOk_iff.2 hw]
    ((conv => whnf); (repeat ((first | with_reducible refine abr_true rfl ?_ | with_reducible refine abr_false rfl ?_ | with_reducible refine abr_yes rfl ?_ | refine abr_yes (by decide) ?_ | refine abr_no (by decide) ?_ | with_reducible refine abr_same_ne ?_); (conv => whnf))))
    by_cases h1 : n < 1
    · (repeat ((first | refine aload (by (repeat (first | with_reducible exact upd_same _ _ _ | assumption | rw [upd_ne _ _ (by first | assumption | (apply Ne.symm; assumption))]))) rfl ?_ | refine afit_i64 (by omega) ?_ | refine arem_nonneg (by omega) (by omega) ?_ | refine adiv_i64 (by omega) (by omega) ?_ | refine abr_yes (by omega) ?_ | refine abr_no (by omega) ?_ | refine amin ?_ | refine amax ?_ | refine afit_u64 (by omega) ?_ | refine afit_u8 (by omega) ?_ | rw [List.length_map]); ((conv => whnf); (repeat ((first | with_reducible refine abr_true rfl ?_ | with_reducible refine abr_false rfl ?_ | with_reducible refine abr_yes rfl ?_ | refine abr_yes (by decide) ?_ | refine abr_no (by decide) ?_ | with_reducible refine abr_same_ne ?_); (conv => whnf))))))
      exact aret_same ⟨by unfold sizeV; rw [if_pos (.inr (.inl h1))], rfl⟩
    · by_cases h2 : n > 23
      · (repeat ((first | refine aload (by (repeat (first | with_reducible exact upd_same _ _ _ | assumption | rw [upd_ne _ _ (by first | assumption | (apply Ne.symm; assumption))]))) rfl ?_ | refine afit_i64 (by omega) ?_ | refine arem_nonneg (by omega) (by omega) ?_ | refine adiv_i64 (by omega) (by omega) ?_ | refine abr_yes (by omega) ?_ | refine abr_no (by omega) ?_ | refine amin ?_ | refine amax ?_ | refine afit_u64 (by omega) ?_ | refine afit_u8 (by omega) ?_ | rw [List.length_map]); ((conv => whnf); (repeat ((first | with_reducible refine abr_true rfl ?_ | with_reducible refine abr_false rfl ?_ | with_reducible refine abr_yes rfl ?_ | refine abr_yes (by decide) ?_ | refine abr_no (by decide) ?_ | with_reducible refine abr_same_ne ?_); (conv => whnf))))))
        exact aret_same ⟨by unfold sizeV; rw [if_pos (.inr (.inr h2))], rfl⟩
      · (repeat ((first | refine aload (by (repeat (first | with_reducible exact upd_same _ _ _ | assumption | rw [upd_ne _ _ (by first | assumption | (apply Ne.symm; assumption))]))) rfl ?_ | refine afit_i64 (by omega) ?_ | refine arem_nonneg (by omega) (by omega) ?_ | refine adiv_i64 (by omega) (by omega) ?_ | refine abr_yes (by omega) ?_ | refine abr_no (by omega) ?_ | refine amin ?_ | refine amax ?_ | refine afit_u64 (by omega) ?_ | refine afit_u8 (by omega) ?_ | rw [List.length_map]); ((conv => whnf); (repeat ((first | with_reducible refine abr_true rfl ?_ | with_reducible refine abr_false rfl ?_ | with_reducible refine abr_yes rfl ?_ | refine abr_yes (by decide) ?_ | refine abr_no (by decide) ?_ | with_reducible refine abr_same_ne ?_); (conv => whnf))))))
        have e : sizeV n w = (n * (w + 1) + 7) / 8 := by
          unfold sizeV; rw [if_neg]; rw [widthOk_iff.2 hw]
          rintro (h | h | h)
          · cases h
          · exact h1 h
          · exact h2 h
        have hb : 0 ≤ n * (w + 1) ∧ n * (w + 1) ≤ 368 := by
          rcases hw with rfl | rfl <;> omega
        generalize n * (w + 1) = q at hb e
        refine afit_i64 (by omega) ?_
        ((conv => whnf); (repeat ((first | with_reducible refine abr_true rfl ?_ | with_reducible refine abr_false rfl ?_ | with_reducible refine abr_yes rfl ?_ | refine abr_yes (by decide) ?_ | refine abr_no (by decide) ?_ | with_reducible refine abr_same_ne ?_); (conv => whnf))))
        (repeat ((first | refine aload (by (repeat (first | with_reducible exact upd_same _ _ _ | assumption | rw [upd_ne _ _ (by first | assumption | (apply Ne.symm; assumption))]))) rfl ?_ | refine afit_i64 (by omega) ?_ | refine arem_nonneg (by omega) (by omega) ?_ | refine adiv_i64 (by omega) (by omega) ?_ | refine abr_yes (by omega) ?_ | refine abr_no (by omega) ?_ | refine amin ?_ | refine amax ?_ | refine afit_u64 (by omega) ?_ | refine afit_u8 (by omega) ?_ | rw [List.length_map]); ((conv => whnf); (repeat ((first | with_reducible refine abr_true rfl ?_ | with_reducible refine abr_false rfl ?_ | with_reducible refine abr_yes rfl ?_ | refine abr_yes (by decide) ?_ | refine abr_no (by decide) ?_ | with_reducible refine abr_same_ne ?_); (conv => whnf))))))
        refine aret_same ⟨?_, rfl⟩
        rw [e, show q + 8 - 1 = q + 7 by omega]
  · rw [widthNo hw]
    ((conv => whnf); (repeat ((first | with_reducible refine abr_true rfl ?_ | with_reducible refine abr_false rfl ?_ | with_reducible refine abr_yes rfl ?_ | refine abr_yes (by decide) ?_ | refine abr_no (by decide) ?_ | with_reducible refine abr_same_ne ?_); (conv => whnf))))
    exact aret_same ⟨by unfold sizeV; rw [if_pos (.inl (widthNo hw))], rfl⟩

theorem sizeV_range (n w : Int) : 0 ≤ sizeV n w ∧ sizeV n w ≤ 50 := by
  unfold sizeV
  split
  · omega
  · rename_i h
    have hw : w = 11 ∨ w = 15 := by
      refine Classical.byContradiction fun hn => h (.inl (widthNo hn))
    have h1 : ¬ n < 1 := fun k => h (.inr (.inl k))
    have h2 : ¬ n > 23 := fun k => h (.inr (.inr k))
    rcases hw with rfl | rfl <;> omega
end Go.Proofs.Ytiohpnkfcaahbaa
/-
  The right to append, beside whatever else is known of the heap.
-/
namespace Go.Proofs.Ytiohpnkfcaahbaa
set_option linter.unusedVariables false
set_option linter.unusedSimpArgs false
open Go Go.Am

theorem sub_none {σ σ' : AHeap} (h : Sub σ σ') {id : Nat} (k : σ id = none) : σ' id = none := by
  cases e : σ' id with
  | none => rfl
  | some o => rw [h _ _ e] at k; cases k
theorem sub_del {σ σb : AHeap} {id : Nat} (h : Sub σ σb) (h1 : σb id = none) : Sub (del σ id) σb := fun j o hj => by
  have hne : j ≠ id := fun e => by subst e; rw [h1] at hj; cases hj
  rw [del_ne _ hne]; exact h _ _ hj
theorem sub_upd {σ σb : AHeap} {id : Nat} (o : AObj) (h : Sub σ σb) (h1 : σb id = none) : Sub (upd σ id o) σb := fun j x hj => by
  have hne : j ≠ id := fun e => by subst e; rw [h1] at hj; cases hj
  rw [upd_ne _ _ hne]; exact h _ _ hj
/-- A token that is there, and is not of the heap below. -/
def TokIn (σ σb : AHeap) (tk : Tok) : Prop := tk = .full ∨ ∃ t, tk = .tip t ∧ σ t = some .tip ∧ σb t = none
theorem TokIn.full (σ σb : AHeap) : TokIn σ σb .full := .inl rfl
theorem TokIn.ne {σ σb : AHeap} {tk : Tok} {id : Nat} (o : AObj) (h : TokIn σ σb tk) (k : ∀ t, tk = .tip t → id ≠ t) : TokIn (upd σ id o) σb tk := by
  rcases h with rfl | ⟨t, rfl, h1, h2⟩
  · exact .inl rfl
  · exact .inr ⟨t, rfl, by rw [upd_ne _ _ (Ne.symm (k t rfl))]; exact h1, h2⟩
theorem TokIn.ne_of {σ σb : AHeap} {tk : Tok} {id : Nat} {o : AObj} (h : TokIn σ σb tk) (k : σ id = some o) (ho : o.isTip = false) : ∀ t, tk = .tip t → id ≠ t := by
  rintro t rfl e
  subst e
  rcases h with h | ⟨t', h0, h1, h2⟩
  · cases h
  · cases h0; rw [h1] at k; cases k; cases ho
/-- Something of the heap below is set. -/
theorem TokIn.set {σ σb : AHeap} {tk : Tok} {id : Nat} {o : AObj} (x : AObj) (h : TokIn σ σb tk) (k : σ id = some o) (ho : o.isTip = false) : TokIn (upd σ id x) σb tk := h.ne x (h.ne_of k ho)
theorem TokIn.ext {σ σ' σb : AHeap} {tk : Tok} (h : TokIn σ σb tk) (k : ∀ t, σ t = some .tip → σ' t = some .tip) : TokIn σ' σb tk := by
  rcases h with rfl | ⟨t, rfl, h1, h2⟩
  · exact .inl rfl
  · exact .inr ⟨t, rfl, k t h1, h2⟩
theorem Owned.tokIn {σ σb σ' : AHeap} {tk : Tok} (hs : Sub σ σb) (h : Owned σ σ' tk) : TokIn σ' σb tk := by
  rcases h with ⟨rfl, rfl⟩ | ⟨t, h0, rfl, rfl⟩
  · exact .inl rfl
  · exact .inr ⟨t, rfl, upd_same _ _ _, sub_none hs h0⟩
theorem aapp_in {σ σb : AHeap} {s bytes : Nat} {xs ys : List AVal} {tk : Tok} {K : AVal → AHeap → Prop} (h : TokIn σ σb tk) (hs : Sub σ σb) (hl : (xs.length + ys.length) * bytes ≤ 140737488355328)
    (k : ∀ t' σ', Ext σ σ' → Sub σ' σb → TokIn σ' σb (.tip t') → K (.slice s (xs ++ ys) (.tip t')) σ') : AApp σ s bytes xs tk ys K := by
  rcases h with rfl | ⟨t, rfl, h1, h2⟩
  · refine aapp_full hl fun t ht => k t _ (Ext.upd_fresh _ ht) (sub_upd _ hs (sub_none hs ht)) (.inr ⟨t, rfl, upd_same _ _ _, sub_none hs ht⟩)
  · refine aapp_tip h1 hl fun t' ht' => ?_
    have hb : σb t' = none := sub_none hs ht'
    refine k t' _ (fun id o ho e => ?_) (sub_upd _ (sub_del hs h2) hb) (.inr ⟨t', rfl, upd_same _ _ _, hb⟩)
    have hne : id ≠ t := fun q => by subst q; rw [h1] at e; cases e; cases ho
    have e2 : del σ t id = some o := by rw [del_ne _ hne]; exact e
    rw [upd_ne]; exact e2
    intro q; subst q; rw [e] at ht'; cases ht'
end Go.Proofs.Ytiohpnkfcaahbaa
/-
  Two rights to append, apart.
-/
namespace Go.Proofs.Ytiohpnkfcaahbaa
set_option linter.unusedVariables false
set_option linter.unusedSimpArgs false
open Go Go.Am

structure Tok2 (σ σb : AHeap) (a b : Tok) : Prop where
  fa : TokIn σ σb a
  fb : TokIn σ σb b
  ne : ∀ t, a = Tok.tip t → b ≠ Tok.tip t
theorem Tok2.symm {σ σb : AHeap} {a b : Tok} (h : Tok2 σ σb a b) : Tok2 σ σb b a := ⟨h.fb, h.fa, fun t e k => h.ne t k e⟩
theorem Tok2.ext {σ σ' σb : AHeap} {a b : Tok} (h : Tok2 σ σb a b) (k : ∀ t, σ t = some .tip → σ' t = some .tip) : Tok2 σ' σb a b := ⟨h.fa.ext k, h.fb.ext k, h.ne⟩
theorem Tok2.set {σ σb : AHeap} {a b : Tok} {id : Nat} {o : AObj} (x : AObj) (h : Tok2 σ σb a b) (k : σ id = some o) (ho : o.isTip = false) : Tok2 (upd σ id x) σb a b := ⟨h.fa.set x k ho, h.fb.set x k ho, h.ne⟩
theorem Tok2.full (σ σb : AHeap) : Tok2 σ σb .full .full := ⟨.full _ _, .full _ _, nofun⟩
theorem Tok2.fresh {σ σb : AHeap} {a b : Tok} {id : Nat} (x : AObj) (h : Tok2 σ σb a b) (k : σ id = none) : Tok2 (upd σ id x) σb a b :=
  h.ext fun t ht => by rw [upd_ne]; exact ht; intro e; subst e; rw [k] at ht; cases ht
theorem aapp_2 {σ σb : AHeap} {s bytes : Nat} {xs ys : List AVal} {a b : Tok} {K : AVal → AHeap → Prop} (h : Tok2 σ σb a b) (hs : Sub σ σb) (hl : (xs.length + ys.length) * bytes ≤ 140737488355328)
    (k : ∀ t' σ', Ext σ σ' → Sub σ' σb → Tok2 σ' σb (.tip t') b → K (.slice s (xs ++ ys) (.tip t')) σ') : AApp σ s bytes xs a ys K := by
  obtain ⟨ha, hb, hne⟩ := h
  rcases ha with rfl | ⟨t, rfl, h1, h2⟩
  · refine aapp_full hl fun t ht => k t _ (Ext.upd_fresh _ ht) (sub_upd _ hs (sub_none hs ht)) ⟨.inr ⟨t, rfl, upd_same _ _ _, sub_none hs ht⟩, hb.ext fun t2 h2 => ?_, fun t2 e1 e2 => ?_⟩
    · rw [upd_ne]; exact h2; intro e; subst e; rw [ht] at h2; cases h2
    · cases e1
      rcases hb with rfl | ⟨t3, rfl, h3, _⟩
      · cases e2
      · cases e2; rw [ht] at h3; cases h3
  · refine aapp_tip h1 hl fun t' ht' => ?_
    have hb' : σb t' = none := sub_none hs ht'
    refine k t' _ (fun id o ho e => ?_) (sub_upd _ (sub_del hs h2) hb') ⟨.inr ⟨t', rfl, upd_same _ _ _, hb'⟩, ?_, fun t2 e1 e2 => ?_⟩
    · have hne : id ≠ t := fun q => by subst q; rw [h1] at e; cases e; cases ho
      have e2 : del σ t id = some o := by rw [del_ne _ hne]; exact e
      rw [upd_ne]; exact e2
      intro q; subst q; rw [e] at ht'; cases ht'
    · rcases hb with rfl | ⟨t3, rfl, h3, h4⟩
      · exact .inl rfl
      · have n1 : t3 ≠ t := fun e => hne t rfl (by rw [e])
        have n2 : t3 ≠ t' := fun e => by subst e; rw [ht'] at h3; cases h3
        exact .inr ⟨t3, rfl, by rw [upd_ne _ _ n2, del_ne _ n1]; exact h3, h4⟩
    · cases e1
      rcases hb with rfl | ⟨t3, rfl, h3, _⟩
      · cases e2
      · cases e2; rw [ht'] at h3; cases h3
end Go.Proofs.Ytiohpnkfcaahbaa
/-
  The bodies of one package, compiled to the framework's language (printed by a program of this session).
-/
namespace Go.Proofs.Ytiohpnkfcaahbaa
set_option linter.unusedVariables false
set_option linter.unusedSimpArgs false
open Go Go.Am
/- cut.Build -/
def c71 : Cfg := ⟨qs, [], 111, []⟩
def ir71 : IFun := ⟨3, [.cell s6 (some 3), .tmp s7],
  (.seq (.reg (.one ⟨some s6, none, (.new [(.v (.int .i64 0)), (.slice 1 [] .full), (.slice 1 [] .full)])⟩
    (.one ⟨some s7, none, (.mv (.c (.v (.int .i64 0))))⟩
    .done)))
  (.scope (.seq (.seq (.reg (.one ⟨some s21, none, (.mv (.t s0))⟩
    (.one ⟨some s22, none, (.mv (.t s1))⟩
    (.one ⟨some s23, none, (.mv (.t s2))⟩
    (.one ⟨some s24, none, (.callq 76 [(.t s21), (.t s22), (.t s23)])⟩
    (.one ⟨some s8, none, (.mv (.t s24))⟩
    .done))))))
  (.seq (.reg (.one ⟨some s25, none, (.mv (.t s8))⟩
    (.one ⟨some s26, none, (.bin false .neq (.t s25) (.c (.v (.int .i64 0))))⟩
    .done)))
  (.cond (.t s26) (.seq (.reg (.one ⟨some s27, none, (.build [(.v (.int .i64 0)), (.slice 1 [] .full), (.slice 1 [] .full)] [])⟩
    (.one ⟨some s28, none, (.mv (.t s8))⟩
    (.one ⟨none, none, (.store 3 (.t s6) (.t s27))⟩
    (.one ⟨some s7, none, (.mv (.t s28))⟩
    .done)))))
  .ret) .skip)))
  (.seq (.seq (.reg (.one ⟨some s30, none, (.mv (.t s0))⟩
    (.one ⟨some s31, none, (.call 27 [(.t s30), (.c (.v (.int .i64 0)))])⟩
    (.one ⟨some s29, none, (.mv (.t s31))⟩
    (.one ⟨some s32, none, (.ext (.t s29) 0)⟩
    (.one ⟨some s33, none, (.ext (.t s29) 1)⟩
    (.one ⟨some s34, none, (.ext (.t s29) 2)⟩
    (.one ⟨some s9, none, (.mv (.t s32))⟩
    (.one ⟨some s10, none, (.mv (.t s33))⟩
    (.one ⟨some s11, none, (.mv (.t s34))⟩
    .done))))))))))
  (.seq (.reg (.one ⟨some s35, none, (.mv (.t s11))⟩
    (.one ⟨some s36, none, (.bin false .eql (.t s35) (.c (.v (.int .i64 6))))⟩
    .done)))
  (.cond (.t s36) (.seq (.reg (.one ⟨some s37, none, (.build [(.v (.int .i64 0)), (.slice 1 [] .full), (.slice 1 [] .full)] [])⟩
    (.one ⟨some s38, none, (.mv (.t s11))⟩
    (.one ⟨none, none, (.store 3 (.t s6) (.t s37))⟩
    (.one ⟨some s7, none, (.mv (.t s38))⟩
    .done)))))
  .ret) .skip)))
  (.seq (.reg (.one ⟨some s12, none, (.new [(.v (.int .i64 0)), (.slice 1 [] .full), (.slice 1 [] .full)])⟩
    .done))
  (.seq (.reg (.one ⟨some s13, none, (.mv (.c (.v (.int .i64 0))))⟩
    .done))
  (.seq (.label 0)
  (.seq (.reg (.one ⟨some s40, none, (.mv (.t s0))⟩
    (.one ⟨some s41, none, (.callq 29 [(.t s40)])⟩
    (.one ⟨some s39, none, (.mv (.t s41))⟩
    (.one ⟨some s42, none, (.ext (.t s39) 0)⟩
    (.one ⟨some s43, none, (.ext (.t s39) 1)⟩
    (.one ⟨some s44, none, (.ext (.t s39) 2)⟩
    (.one ⟨some s14, none, (.mv (.t s42))⟩
    (.one ⟨some s15, none, (.mv (.t s43))⟩
    (.one ⟨some s16, none, (.mv (.t s44))⟩
    .done))))))))))
  (.seq (.reg (.one ⟨some s45, none, (.mv (.t s1))⟩
    (.one ⟨some s46, none, (.mv (.t s13))⟩
    (.one ⟨some s47, none, (.bin false .sub (.t s45) (.t s46))⟩
    (.one ⟨some s48, none, (.faddr 1 (.t s12))⟩
    (.one ⟨some s49, none, (.load none (.t s48))⟩
    (.one ⟨some s50, none, (.len false (.t s49))⟩
    (.one ⟨some s51, none, (.mv (.t s2))⟩
    (.one ⟨some s52, none, (.callq 77 [(.t s50), (.t s51)])⟩
    (.one ⟨some s53, none, (.bin false .sub (.t s47) (.t s52))⟩
    (.one ⟨some s17, none, (.mv (.t s53))⟩
    .done)))))))))))
  (.seq (.seq (.reg (.one ⟨some s54, none, (.mv (.t s15))⟩
    (.one ⟨some s55, none, (.len false (.t s54))⟩
    (.one ⟨some s56, none, (.bin false .eql (.t s55) (.c (.v (.int .i64 0))))⟩
    (.one ⟨some s57, none, (.mv (.t s56))⟩
    (.one ⟨some s58, some (s57, false), (.mv (.t s17))⟩
    (.one ⟨some s59, some (s57, false), (.bin false .lss (.t s58) (.c (.v (.int .i64 1))))⟩
    (.one ⟨some s60, none, (.pick (.t s57) (.c (.v (.bool true))) (.t s59))⟩
    (.one ⟨some s61, none, (.mv (.t s60))⟩
    (.one ⟨some s62, some (s61, false), (.faddr 1 (.t s12))⟩
    (.one ⟨some s63, some (s61, false), (.load none (.t s62))⟩
    (.one ⟨some s64, some (s61, false), (.len false (.t s63))⟩
    (.one ⟨some s65, some (s61, false), (.bin false .eql (.t s64) (.c (.v (.int .i64 24))))⟩
    (.one ⟨some s66, none, (.pick (.t s61) (.c (.v (.bool true))) (.t s65))⟩
    .done))))))))))))))
  (.cond (.t s66) (.goto 1) .skip))
  (.seq (.seq (.reg (.one ⟨some s67, none, (.mv (.t s16))⟩
    .done))
  (.cond (.t s67) (.reg (.one ⟨some s68, none, (.faddr 0 (.t s12))⟩
    (.one ⟨some s69, none, (.load none (.t s68))⟩
    (.one ⟨some s70, none, (.bin false .or (.t s69) (.c (.v (.int .i64 2))))⟩
    (.one ⟨some s71, none, (.faddr 0 (.t s12))⟩
    (.one ⟨none, none, (.store 1 (.t s71) (.t s70))⟩
    .done)))))) .skip))
  (.seq (.seq (.reg (.one ⟨some s73, none, (.mv (.t s0))⟩
    (.one ⟨some s74, none, (.mv (.t s17))⟩
    (.one ⟨some s75, none, (.mv (.t s15))⟩
    (.one ⟨some s76, none, (.len false (.t s75))⟩
    (.one ⟨some s77, none, (.mxmn false (.t s74) (.t s76))⟩
    (.one ⟨some s78, none, (.call 27 [(.t s73), (.t s77)])⟩
    (.one ⟨some s72, none, (.mv (.t s78))⟩
    (.one ⟨some s79, none, (.ext (.t s72) 0)⟩
    (.one ⟨some s80, none, (.ext (.t s72) 1)⟩
    (.one ⟨some s81, none, (.ext (.t s72) 2)⟩
    (.one ⟨some s18, none, (.mv (.t s79))⟩
    (.one ⟨some s19, none, (.mv (.t s80))⟩
    (.one ⟨some s20, none, (.mv (.t s81))⟩
    .done))))))))))))))
  (.seq (.reg (.one ⟨some s82, none, (.mv (.t s20))⟩
    (.one ⟨some s83, none, (.bin false .eql (.t s82) (.c (.v (.int .i64 0))))⟩
    .done)))
  (.cond (.t s83) (.seq (.reg (.one ⟨some s84, none, (.faddr 1 (.t s12))⟩
    (.one ⟨some s85, none, (.load none (.t s84))⟩
    (.one ⟨some s86, none, (.mv (.t s18))⟩
    (.one ⟨some s87, none, (.row 1 [(.t s86)])⟩
    (.one ⟨some s88, none, (.app 1 24 (.t s85) (.t s87))⟩
    (.one ⟨some s89, none, (.faddr 1 (.t s12))⟩
    (.one ⟨none, none, (.store 1 (.t s89) (.t s88))⟩
    .done))))))))
  (.seq (.reg (.one ⟨some s90, none, (.mv (.t s13))⟩
    (.one ⟨some s91, none, (.mv (.t s18))⟩
    (.one ⟨some s92, none, (.len false (.t s91))⟩
    (.one ⟨some s93, none, (.bin false .add (.t s90) (.t s92))⟩
    (.one ⟨some s13, none, (.mv (.t s93))⟩
    .done))))))
  (.seq (.seq (.reg (.one ⟨some s94, none, (.mv (.t s19))⟩
    .done))
  (.cond (.t s94) (.seq (.reg (.one ⟨some s95, none, (.faddr 2 (.t s12))⟩
    (.one ⟨some s96, none, (.load none (.t s95))⟩
    (.one ⟨some s97, none, (.mv (.t s14))⟩
    (.one ⟨some s98, none, (.row 1 [(.t s97)])⟩
    (.one ⟨some s99, none, (.app 1 8 (.t s96) (.t s98))⟩
    (.one ⟨some s100, none, (.faddr 2 (.t s12))⟩
    (.one ⟨none, none, (.store 1 (.t s100) (.t s99))⟩
    .done))))))))
  (.goto 0)) .skip))
  (.reg (.one ⟨some s101, none, (.faddr 0 (.t s12))⟩
    (.one ⟨some s102, none, (.load none (.t s101))⟩
    (.one ⟨some s103, none, (.bin false .or (.t s102) (.c (.v (.int .i64 1))))⟩
    (.one ⟨some s104, none, (.faddr 0 (.t s12))⟩
    (.one ⟨none, none, (.store 1 (.t s104) (.t s103))⟩
    .done))))))))) .skip)))
  (.seq (.label 1)
  (.seq (.seq (.reg (.one ⟨some s105, none, (.faddr 1 (.t s12))⟩
    (.one ⟨some s106, none, (.load none (.t s105))⟩
    (.one ⟨some s107, none, (.len false (.t s106))⟩
    (.one ⟨some s108, none, (.bin false .eql (.t s107) (.c (.v (.int .i64 0))))⟩
    .done)))))
  (.cond (.t s108) (.seq (.reg (.one ⟨some s109, none, (.build [(.v (.int .i64 0)), (.slice 1 [] .full), (.slice 1 [] .full)] [])⟩
    (.one ⟨none, none, (.store 3 (.t s6) (.t s109))⟩
    (.one ⟨some s7, none, (.mv (.c (.v (.int .i64 4))))⟩
    .done))))
  .ret) .skip))
  (.seq (.reg (.one ⟨some s110, none, (.load (some 3) (.t s12))⟩
    (.one ⟨none, none, (.store 3 (.t s6) (.t s110))⟩
    (.one ⟨some s7, none, (.mv (.c (.v (.int .i64 0))))⟩
    .done))))
  .ret)))))))))))))))⟩
theorem ok71 : compF Try.prog c71 Try.f71 = some ir71 := by kernel_rfl
theorem k_cut_Build {args : List AVal} {σ : AHeap} {Q : AVal → AHeap → Prop} (hl : Nat.ble args.length 111 = true) (h : argsK (Env.full 9) 0 args fun env => evC Try.prog c71 ir71.body env σ (retQ ir71 Q)) : ACalls Try.prog 71 args σ Q :=
  acalls_of Try.func71 ok71 rfl (Nat.le_of_ble_eq_true hl) h
/- cut.ask -/
def c76 : Cfg := ⟨qs, [], 21, []⟩
def ir76 : IFun := ⟨3, [.tmp s6],
  (.seq (.reg (.one ⟨some s6, none, (.mv (.c (.v (.int .i64 0))))⟩
    .done))
  (.seq (.block 0 (.seq (.reg (.one ⟨some s8, none, (.mv (.t s0))⟩
    (.one ⟨some s9, none, (.eqNil 1 false (.t s8))⟩
    (.one ⟨some s7, none, (.mv (.t s9))⟩
    .done))))
  (.cond (.t s7) (.seq (.reg (.one ⟨some s6, none, (.mv (.c (.v (.int .i64 6))))⟩
    .done))
  .ret) (.seq (.reg (.one ⟨some s11, none, (.mv (.t s2))⟩
    (.one ⟨some s12, none, (.callq 78 [(.t s11)])⟩
    (.one ⟨some s13, none, (.not (.t s12))⟩
    (.one ⟨some s10, none, (.mv (.t s13))⟩
    .done)))))
  (.cond (.t s10) (.seq (.reg (.one ⟨some s6, none, (.mv (.c (.v (.int .i64 9))))⟩
    .done))
  .ret) (.seq (.reg (.one ⟨some s15, none, (.mv (.t s1))⟩
    (.one ⟨some s16, none, (.bin false .lss (.t s15) (.c (.v (.int .i64 0))))⟩
    (.one ⟨some s17, none, (.mv (.t s16))⟩
    (.one ⟨some s18, some (s17, false), (.mv (.t s1))⟩
    (.one ⟨some s19, some (s17, false), (.bin false .gtr (.t s18) (.c (.v (.int .i64 4000))))⟩
    (.one ⟨some s20, none, (.pick (.t s17) (.c (.v (.bool true))) (.t s19))⟩
    (.one ⟨some s14, none, (.mv (.t s20))⟩
    .done))))))))
  (.cond (.t s14) (.seq (.reg (.one ⟨some s6, none, (.mv (.c (.v (.int .i64 1))))⟩
    .done))
  .ret) .skip)))))))
  (.seq (.reg (.one ⟨some s6, none, (.mv (.c (.v (.int .i64 0))))⟩
    .done))
  .ret)))⟩
theorem ok76 : compF Try.prog c76 Try.f76 = some ir76 := by kernel_rfl
theorem k_cut_ask {args : List AVal} {σ : AHeap} {Q : AVal → AHeap → Prop} (hl : Nat.ble args.length 21 = true) (h : argsK (Env.full 9) 0 args fun env => evC Try.prog c76 ir76.body env σ (retQ ir76 Q)) : ACalls Try.prog 76 args σ Q :=
  acalls_of Try.func76 ok76 rfl (Nat.le_of_ble_eq_true hl) h
/- cut.isWidth -/
def c78 : Cfg := ⟨qs, [], 9, []⟩
def ir78 : IFun := ⟨1, [.tmp s2],
  (.seq (.reg (.one ⟨some s2, none, (.mv (.c (.v (.bool false))))⟩
    .done))
  (.seq (.reg (.one ⟨some s3, none, (.mv (.t s0))⟩
    (.one ⟨some s4, none, (.bin false .eql (.t s3) (.c (.v (.int .i64 11))))⟩
    (.one ⟨some s5, none, (.mv (.t s4))⟩
    (.one ⟨some s6, some (s5, false), (.mv (.t s0))⟩
    (.one ⟨some s7, some (s5, false), (.bin false .eql (.t s6) (.c (.v (.int .i64 15))))⟩
    (.one ⟨some s8, none, (.pick (.t s5) (.c (.v (.bool true))) (.t s7))⟩
    (.one ⟨some s2, none, (.mv (.t s8))⟩
    .done))))))))
  .ret))⟩
theorem ok78 : compF Try.prog c78 Try.f78 = some ir78 := by kernel_rfl
theorem k_cut_isWidth {args : List AVal} {σ : AHeap} {Q : AVal → AHeap → Prop} (hl : Nat.ble args.length 9 = true) (h : argsK (Env.full 9) 0 args fun env => evC Try.prog c78 ir78.body env σ (retQ ir78 Q)) : ACalls Try.prog 78 args σ Q :=
  acalls_of Try.func78 ok78 rfl (Nat.le_of_ble_eq_true hl) h
end Go.Proofs.Ytiohpnkfcaahbaa
/-
  What is cut out of a queue.
-/
namespace Go.Proofs.Ytiohpnkfcaahbaa
set_option linter.unusedVariables false
set_option linter.unusedSimpArgs false
open Go Go.Am

abbrev u64s (t : Tok) (l : List Nat) : AVal := .slice 1 (l.map u64v) t
theorem Qu.cell {σ σb : AHeap} {id : Nat} {q : QS} (h : Qu σ id q σb) : QOk q ∧ ∃ τ tk, τ.map strip = q.ts ∧ σ id = some (.cells (qcells q τ tk)) := by
  obtain ⟨h1, hq, τ, tk, e, rfl⟩ := h
  exact ⟨hq, τ, tk, e, upd_same _ _ _⟩
theorem Qu.at {σ : AHeap} {id : Nat} {q : QS} {τ : List Txt} {tk : Tok} (hq : QOk q) (e : τ.map strip = q.ts) (h : σ id = some (.cells (qcells q τ tk))) : Qu σ id q (del σ id) := by
  refine ⟨del_same _ _, hq, τ, tk, e, ?_⟩
  funext j
  by_cases e : j = id
  · subst e; rw [upd_same]; exact h
  · rw [upd_ne _ _ e, del_ne _ e]
theorem qu_of {σ σb : AHeap} {id : Nat} {q : QS} {τ : List Txt} {tk : Tok} (hq : QOk q) (e : τ.map strip = q.ts) (h : σ id = some (.cells (qcells q τ tk))) (h1 : σb id = none) (hs : Sub σ σb) : ∃ σ', Sub σ σ' ∧ Qu σ' id q σb := by
  refine ⟨upd σb id (.cells (qcells q τ tk)), fun j o hj => ?_, h1, hq, τ, tk, e, rfl⟩
  by_cases e : j = id
  · subst e; rw [upd_same] at hj; rw [← hj]; exact h
  · rw [upd_ne _ _ e] at hj; exact hs _ _ hj
/-- What else is there stays. -/
theorem Qu.other {σ4 σc : AHeap} {id j : Nat} {q : QS} {o : AObj} (w : Qu σ4 id q (del σc id)) (hj : σc j = some o) (hne : j ≠ id) : σ4 j = some o := by
  obtain ⟨_, _, τ, tk, _, rfl⟩ := w
  rw [upd_ne _ _ hne, del_ne _ hne]; exact hj

theorem Qu.beside {σ σb : AHeap} {id pid : Nat} {q : QS} (o : AObj) (h : Qu σ id q σb) (hp : σ pid = none) : Qu (upd σ pid o) id q (upd σb pid o) := by
  obtain ⟨h1, hq, τ, tk, e, rfl⟩ := h
  have hne : id ≠ pid := fun k => by subst k; rw [upd_same] at hp; cases hp
  exact ⟨by rw [upd_ne _ _ hne]; exact h1, hq, τ, tk, e, upd_comm _ _ _ hne⟩
theorem Qu.below {σ σb : AHeap} {id j : Nat} {q : QS} {o : AObj} (h : Qu σ id q σb) (k : σb j = some o) : σ j = some o := by
  obtain ⟨h1, hq, τ, tk, e, rfl⟩ := h
  rw [upd_ne]; exact k
  intro e; subst e; rw [h1] at k; cases k
theorem Qu.tips {σ4 σc : AHeap} {id : Nat} {q : QS} {cs : List AVal} (w : Qu σ4 id q (del σc id)) (hc : σc id = some (.cells cs)) : ∀ t, σc t = some .tip → σ4 t = some .tip := by
  intro t ht
  have hne : t ≠ id := fun e => by subst e; rw [hc] at ht; cases ht
  exact w.other ht hne
def cutOkW (w : Int) : Bool := widthOk w
theorem cIsWidth (w : Int) (σ : AHeap) : ACalls Try.prog i_cut_isWidth [i64v w] σ fun v σ' => v = boolv (widthOk w) ∧ σ' = σ := by
  refine k_cut_isWidth rfl ?_
  ((conv => whnf); (repeat ((first | with_reducible refine abr_true rfl ?_ | with_reducible refine abr_false rfl ?_ | with_reducible refine abr_yes rfl ?_ | refine abr_yes (by decide) ?_ | refine abr_no (by decide) ?_ | with_reducible refine abr_same_ne ?_); (conv => whnf))))
  by_cases h : w = 11
  · subst h
    ((conv => whnf); (repeat ((first | with_reducible refine abr_true rfl ?_ | with_reducible refine abr_false rfl ?_ | with_reducible refine abr_yes rfl ?_ | refine abr_yes (by decide) ?_ | refine abr_no (by decide) ?_ | with_reducible refine abr_same_ne ?_); (conv => whnf))))
    exact aret_same ⟨rfl, rfl⟩
  · refine abr_no h ?_
    ((conv => whnf); (repeat ((first | with_reducible refine abr_true rfl ?_ | with_reducible refine abr_false rfl ?_ | with_reducible refine abr_yes rfl ?_ | refine abr_yes (by decide) ?_ | refine abr_no (by decide) ?_ | with_reducible refine abr_same_ne ?_); (conv => whnf))))
    refine aret_same ⟨?_, rfl⟩
    unfold widthOk
    rw [decide_eq_false h, Bool.false_or]
def askCut (room w : Int) : Int := if widthOk w = false then 9 else if room < 0 ∨ room > 4000 then 1 else 0
theorem cAsk (id : Nat) (room w : Int) (σ : AHeap) : ACalls Try.prog i_cut_ask [.ptr id 0, i64v room, i64v w] σ fun v σ' => v = i64v (askCut room w) ∧ σ' = σ := by
  refine k_cut_ask rfl ?_
  ((conv => whnf); (repeat ((first | with_reducible refine abr_true rfl ?_ | with_reducible refine abr_false rfl ?_ | with_reducible refine abr_yes rfl ?_ | refine abr_yes (by decide) ?_ | refine abr_no (by decide) ?_ | with_reducible refine abr_same_ne ?_); (conv => whnf))))
  refine acall (cIsWidth w _) ?_
  rintro _ σ_ ⟨rfl, e_⟩
  obtain rfl := e_.symm
  refine ⟨?_, Ext.refl _⟩
  ((conv => whnf); (repeat ((first | with_reducible refine abr_true rfl ?_ | with_reducible refine abr_false rfl ?_ | with_reducible refine abr_yes rfl ?_ | refine abr_yes (by decide) ?_ | refine abr_no (by decide) ?_ | with_reducible refine abr_same_ne ?_); (conv => whnf))))
  cases hw : widthOk w with
  | false =>
    ((conv => whnf); (repeat ((first | with_reducible refine abr_true rfl ?_ | with_reducible refine abr_false rfl ?_ | with_reducible refine abr_yes rfl ?_ | refine abr_yes (by decide) ?_ | refine abr_no (by decide) ?_ | with_reducible refine abr_same_ne ?_); (conv => whnf))))
    exact aret_same ⟨by unfold askCut; rw [if_pos hw], rfl⟩
  | true =>
    ((conv => whnf); (repeat ((first | with_reducible refine abr_true rfl ?_ | with_reducible refine abr_false rfl ?_ | with_reducible refine abr_yes rfl ?_ | refine abr_yes (by decide) ?_ | refine abr_no (by decide) ?_ | with_reducible refine abr_same_ne ?_); (conv => whnf))))
    by_cases h1 : room < 0
    · (repeat ((first | refine aload (by (repeat (first | with_reducible exact upd_same _ _ _ | assumption | rw [upd_ne _ _ (by first | assumption | (apply Ne.symm; assumption))]))) rfl ?_ | refine afit_i64 (by omega) ?_ | refine arem_nonneg (by omega) (by omega) ?_ | refine adiv_i64 (by omega) (by omega) ?_ | refine abr_yes (by omega) ?_ | refine abr_no (by omega) ?_ | refine amin ?_ | refine amax ?_ | refine afit_u64 (by omega) ?_ | refine afit_u8 (by omega) ?_ | rw [List.length_map]); ((conv => whnf); (repeat ((first | with_reducible refine abr_true rfl ?_ | with_reducible refine abr_false rfl ?_ | with_reducible refine abr_yes rfl ?_ | refine abr_yes (by decide) ?_ | refine abr_no (by decide) ?_ | with_reducible refine abr_same_ne ?_); (conv => whnf))))))
      exact aret_same ⟨by unfold askCut; rw [if_neg (by rw [hw]; simp), if_pos (.inl h1)], rfl⟩
    · by_cases h2 : room > 4000
      · (repeat ((first | refine aload (by (repeat (first | with_reducible exact upd_same _ _ _ | assumption | rw [upd_ne _ _ (by first | assumption | (apply Ne.symm; assumption))]))) rfl ?_ | refine afit_i64 (by omega) ?_ | refine arem_nonneg (by omega) (by omega) ?_ | refine adiv_i64 (by omega) (by omega) ?_ | refine abr_yes (by omega) ?_ | refine abr_no (by omega) ?_ | refine amin ?_ | refine amax ?_ | refine afit_u64 (by omega) ?_ | refine afit_u8 (by omega) ?_ | rw [List.length_map]); ((conv => whnf); (repeat ((first | with_reducible refine abr_true rfl ?_ | with_reducible refine abr_false rfl ?_ | with_reducible refine abr_yes rfl ?_ | refine abr_yes (by decide) ?_ | refine abr_no (by decide) ?_ | with_reducible refine abr_same_ne ?_); (conv => whnf))))))
        exact aret_same ⟨by unfold askCut; rw [if_neg (by rw [hw]; simp), if_pos (.inr h2)], rfl⟩
      · (repeat ((first | refine aload (by (repeat (first | with_reducible exact upd_same _ _ _ | assumption | rw [upd_ne _ _ (by first | assumption | (apply Ne.symm; assumption))]))) rfl ?_ | refine afit_i64 (by omega) ?_ | refine arem_nonneg (by omega) (by omega) ?_ | refine adiv_i64 (by omega) (by omega) ?_ | refine abr_yes (by omega) ?_ | refine abr_no (by omega) ?_ | refine amin ?_ | refine amax ?_ | refine afit_u64 (by omega) ?_ | refine afit_u8 (by omega) ?_ | rw [List.length_map]); ((conv => whnf); (repeat ((first | with_reducible refine abr_true rfl ?_ | with_reducible refine abr_false rfl ?_ | with_reducible refine abr_yes rfl ?_ | refine abr_yes (by decide) ?_ | refine abr_no (by decide) ?_ | with_reducible refine abr_same_ne ?_); (conv => whnf))))))
        exact aret_same ⟨by unfold askCut; rw [if_neg (by rw [hw]; simp), if_neg (by omega)], rfl⟩

/-- What is cut, behind what was cut. -/
abbrev Pc := Int × List (List UInt8) × List Nat
def leftC (room w : Int) (F : List (List UInt8)) : Int := room - total F - sizeV F.length w
def takenC (room w : Int) (q : QS) (F : List (List UInt8)) : Int := min (leftC room w F) (frontV q).2.1.length
def stopC (room w : Int) (q : QS) (F : List (List UInt8)) : Bool := decide ((frontV q).2.1.length = 0 ∨ leftC room w F < 1 ∨ F.length = 24)
def fiC (q : QS) (fi : Int) : Int := if (frontV q).2.2 = true then bitsOp .or .i64 fi 2 else fi
def cutGo (room w : Int) : Nat → QS → Pc → QS × Pc
  | 0, q, p => (q, p)
  | n + 1, q, p =>
    if stopC room w q p.2.1 = true then (q, p)
    else if takeAll q (takenC room w q p.2.1) = true then cutGo room w n (takeQ q (takenC room w q p.2.1)) (fiC q p.1, p.2.1 ++ [takeB q (takenC room w q p.2.1)], p.2.2 ++ [(frontV q).1])
    else (takeQ q (takenC room w q p.2.1), (bitsOp .or .i64 (fiC q p.1) 1, p.2.1 ++ [takeB q (takenC room w q p.2.1)], p.2.2))
def none14 : Pc := (0, [], [])
def cutR (room w : Int) (q : QS) : QS × Pc := cutGo room w (q.ts.length + 1) q none14
def cutCode (room w : Int) (q : QS) : Int := if askCut room w ≠ 0 then askCut room w else if (cutR room w q).2.2.1.length = 0 then 4 else 0
def cutP (room w : Int) (q : QS) : Pc := if cutCode room w q = 0 then (cutR room w q).2 else none14
def cutQ (room w : Int) (q : QS) : QS := if askCut room w = 0 then (cutR room w q).1 else q
abbrev pieceV (p : Pc) : AVal := .agg [i64v p.1, lists .none p.2.1, u64s .none p.2.2]

theorem takeQ_zero (q : QS) : takeQ q 0 = q := by
  unfold takeQ takeCode
  split
  · rfl
  · rename_i t ts e; rw [e]; simp
theorem takeCode_zero (q : QS) : takeCode q 0 ≠ 6 := by
  unfold takeCode
  split
  · decide
  · simp
theorem front_ok {q : QS} (h : QOk q) : (frontV q).2.1.length ≤ 1000 ∧ ((frontV q).2.1.length = 0 ↔ q.ts = []) := by
  unfold frontV
  split
  · rename_i e; simp [e]
  · rename_i t ts e
    have h1 := h.each t (by rw [e]; exact List.mem_cons_self ..)
    have h2 := h.begun
    rw [e] at h2
    have h2 : q.taken < t.2.length := h2
    dsimp only
    rw [List.length_drop, e]
    simp
    omega
theorem take_ok {q : QS} (h : QOk q) {n : Int} (h0 : (frontV q).2.1.length ≠ 0) (h1 : 1 ≤ n) (h2 : n ≤ (frontV q).2.1.length) : takeCode q n = 0 ∧ (takeB q n).length = n.toNat ∧ ((takeAll q n = true → (takeQ q n).ts.length + 1 = q.ts.length) ∧ (takeQ q n).ts.length ≤ q.ts.length) := by
  unfold frontV at h0 h2
  split at h0
  · simp at h0
  · rename_i t ts e
    have hb := h.begun
    rw [e] at hb h2
    have hb : q.taken < t.2.length := hb
    dsimp only at h0 h2
    rw [List.length_drop] at h0 h2
    have hc : takeCode q n = 0 := by unfold takeCode; rw [e]; exact if_neg (by omega)
    have eB : takeB q n = (t.2.drop q.taken).take n.toNat := by unfold takeB; rw [hc, e]; rfl
    have eA : takeAll q n = decide (n = (t.2.length : Int) - q.taken) := by unfold takeAll; rw [hc, e]; rfl
    have eQ : takeQ q n = if n < (t.2.length : Int) - q.taken then ⟨q.room, q.ts, q.taken + n.toNat, q.last⟩ else ⟨q.room, ts, 0, q.last⟩ := by unfold takeQ; rw [hc, e]; rfl
    rw [eB, eA, eQ]
    refine ⟨hc, by rw [List.length_take, List.length_drop]; omega, fun hd => ?_, ?_⟩
    · have := of_decide_eq_true hd
      rw [if_neg (by omega), e]
      simp
    · split
      · exact Nat.le_refl _
      · rw [e]; simp
theorem askCut_ok {room w : Int} (h : askCut room w = 0) : (w = 11 ∨ w = 15) ∧ 0 ≤ room ∧ room ≤ 4000 := by
  unfold askCut at h
  split at h
  · cases h
  · rename_i h1
    split at h
    · cases h
    · have : widthOk w = true := by simpa using h1
      exact ⟨widthOk_iff.1 this, by omega, by omega⟩
theorem VLe.agg {xs ys : List AVal} (h : ∀ κ vs, RepL κ xs vs → RepL κ ys vs) : VLe (.agg xs) (.agg ys) := fun κ v k => by
  cases k with
  | agg r => exact .agg (h _ _ r)
theorem aret_piece {a : AVal} {l m : List AVal} {t u : Tok} {s1 s2 : Nat} {c : AVal} {σ σ2 : AHeap} {Q : AVal → AHeap → Prop} (hs : Sub σ σ2) (h : Q (.tup [.agg [a, .slice s1 l .none, .slice s2 m .none], c]) σ2) : ARet (.tup [.agg [a, .slice s1 l t, .slice s2 m u], c]) σ Q :=
  aret (VLe.tup (VLe.cons (VLe.agg (VLe.cons (VLe.refl _) (VLe.cons (VLe.slice _ _ _) (VLe.cons (VLe.slice _ _ _) VLe.nil)))) fun _ _ h => h)) hs h

set_option maxRecDepth 20000 in
set_option maxHeartbeats 2000000 in
theorem cBuild (id : Nat) (room w : Int) (q : QS) (σ σb : AHeap) (h : Qu σ id q σb) : ACalls Try.prog i_cut_Build [.ptr id 0, i64v room, i64v w] σ fun v σ' => v = .tup [pieceV (cutP room w q), i64v (cutCode room w q)] ∧ Qu σ' id (cutQ room w q) σb := by
  have h1 := h.1
  have hsb := h.sub
  refine k_cut_Build rfl ?_
  ((conv => whnf); (repeat ((first | with_reducible refine abr_true rfl ?_ | with_reducible refine abr_false rfl ?_ | with_reducible refine abr_yes rfl ?_ | refine abr_yes (by decide) ?_ | refine abr_no (by decide) ?_ | with_reducible refine abr_same_ne ?_); (conv => whnf))))
  refine anew rfl fun rid hrid => ?_
  have hidr : id ≠ rid := fun e => by subst e; obtain ⟨_, τ, tk, _, k⟩ := h.cell; rw [k] at hrid; cases hrid
  have hbr : σb rid = none := sub_none hsb hrid
  obtain ⟨σ0, hσ0⟩ : ∃ σ0, σ0 = upd σ rid (.cells [i64v 0, lists .full [], u64s .full []]) := ⟨_, rfl⟩
  have hr0 : σ0 rid = some (.cells [i64v 0, lists .full [], u64s .full []]) := by rw [hσ0]; exact upd_same _ _ _
  have hs0 : Sub σ0 σb := by rw [hσ0]; exact (Sub.upd_fresh _ hrid).trans hsb
  have hs00 : Sub σ0 σ := by rw [hσ0]; exact Sub.upd_fresh _ hrid
  have hq0 : QOk q ∧ ∃ τ tk, τ.map strip = q.ts ∧ σ0 id = some (.cells (qcells q τ tk)) := by
    obtain ⟨hq, τ, tk, e, k⟩ := h.cell
    exact ⟨hq, τ, tk, e, by rw [hσ0, upd_ne _ _ hidr]; exact k⟩
  rw [show upd σ rid (.cells [AVal.v (.int .i64 0), .slice 1 [] .full, .slice 1 [] .full]) = σ0 from hσ0.symm]
  clear hσ0
  ((conv => whnf); (repeat ((first | with_reducible refine abr_true rfl ?_ | with_reducible refine abr_false rfl ?_ | with_reducible refine abr_yes rfl ?_ | refine abr_yes (by decide) ?_ | refine abr_no (by decide) ?_ | with_reducible refine abr_same_ne ?_); (conv => whnf))))
  refine ascope' (α := Nat × Nat × QS × Pc × Tok × Tok × AHeap) (fun x => [(s12, .ptr x.2.1 0), (s13, i64v (total x.2.2.2.1.2.1))]) (fun x => x.2.2.2.2.2.2) (fun x => x.1)
    (fun x => askCut room w = 0 ∧ total x.2.2.2.1.2.1 ≤ 4000 ∧ x.2.2.2.1.2.1.length ≤ 24 ∧ x.2.2.2.1.2.2.length ≤ x.2.2.2.1.2.1.length ∧ QOk x.2.2.1 ∧ (∃ τ tk, τ.map strip = x.2.2.1.ts ∧ x.2.2.2.2.2.2 id = some (.cells (qcells x.2.2.1 τ tk))) ∧
      x.2.2.2.2.2.2 x.2.1 = some (.cells [i64v x.2.2.2.1.1, lists x.2.2.2.2.1 x.2.2.2.1.2.1, u64s x.2.2.2.2.2.1 x.2.2.2.1.2.2]) ∧ x.2.2.2.2.2.2 rid = some (.cells [i64v 0, lists .full [], u64s .full []]) ∧
      id ≠ x.2.1 ∧ rid ≠ x.2.1 ∧ Tok2 x.2.2.2.2.2.2 σb x.2.2.2.2.1 x.2.2.2.2.2.1 ∧ Sub x.2.2.2.2.2.2 σb ∧ σb x.2.1 = none ∧
      ((x.1 = 0 ∧ cutGo room w (x.2.2.1.ts.length + 1) x.2.2.1 x.2.2.2.1 = cutR room w q) ∨ (x.1 = 1 ∧ (x.2.2.1, x.2.2.2.1) = cutR room w q)))
    (fun x => if x.1 = 0 then x.2.2.1.ts.length + 1 else 0) ?_ ?_
  · ((conv => whnf); (repeat ((first | with_reducible refine abr_true rfl ?_ | with_reducible refine abr_false rfl ?_ | with_reducible refine abr_yes rfl ?_ | refine abr_yes (by decide) ?_ | refine abr_no (by decide) ?_ | with_reducible refine abr_same_ne ?_); (conv => whnf))))
    intro hlab
    ((conv => whnf); (repeat ((first | with_reducible refine abr_true rfl ?_ | with_reducible refine abr_false rfl ?_ | with_reducible refine abr_yes rfl ?_ | refine abr_yes (by decide) ?_ | refine abr_no (by decide) ?_ | with_reducible refine abr_same_ne ?_); (conv => whnf))))
    refine acall (cAsk id room w _) ?_
    rintro _ σ_ ⟨rfl, e_⟩
    obtain rfl := e_.symm
    refine ⟨?_, Ext.refl _⟩
    ((conv => whnf); (repeat ((first | with_reducible refine abr_true rfl ?_ | with_reducible refine abr_false rfl ?_ | with_reducible refine abr_yes rfl ?_ | refine abr_yes (by decide) ?_ | refine abr_no (by decide) ?_ | with_reducible refine abr_same_ne ?_); (conv => whnf))))
    by_cases ha : askCut room w = 0
    · refine abr_no (fun k => k ha) ?_
      ((conv => whnf); (repeat ((first | with_reducible refine abr_true rfl ?_ | with_reducible refine abr_false rfl ?_ | with_reducible refine abr_yes rfl ?_ | refine abr_yes (by decide) ?_ | refine abr_no (by decide) ?_ | with_reducible refine abr_same_ne ?_); (conv => whnf))))
      obtain ⟨hq, τ, tk, hτ, hc⟩ := hq0
      refine acall (qTake id q 0 σ0 _ (Qu.at hq hτ hc)) ?_
      rintro _ σ1 ⟨rfl, w1⟩
      rw [takeQ_zero] at w1
      ((conv => whnf); (repeat ((first | with_reducible refine abr_true rfl ?_ | with_reducible refine abr_false rfl ?_ | with_reducible refine abr_yes rfl ?_ | refine abr_yes (by decide) ?_ | refine abr_no (by decide) ?_ | with_reducible refine abr_same_ne ?_); (conv => whnf))))
      refine abr_no (takeCode_zero q) ?_
      ((conv => whnf); (repeat ((first | with_reducible refine abr_true rfl ?_ | with_reducible refine abr_false rfl ?_ | with_reducible refine abr_yes rfl ?_ | refine abr_yes (by decide) ?_ | refine abr_no (by decide) ?_ | with_reducible refine abr_same_ne ?_); (conv => whnf))))
      have hr1 := w1.other hr0 (Ne.symm hidr)
      have hs1 : Sub σ1 σb := w1.sub.trans (sub_del hs0 h1)
      obtain ⟨_, τ1, tk1, hτ1, hc1⟩ := w1.cell
      refine anew rfl fun pid hpid => ?_
      have n1 : id ≠ pid := fun e => by subst e; rw [hc1] at hpid; cases hpid
      have n2 : rid ≠ pid := fun e => by subst e; rw [hr1] at hpid; cases hpid
      ((conv => whnf); (repeat ((first | with_reducible refine abr_true rfl ?_ | with_reducible refine abr_false rfl ?_ | with_reducible refine abr_yes rfl ?_ | refine abr_yes (by decide) ?_ | refine abr_no (by decide) ?_ | with_reducible refine abr_same_ne ?_); (conv => whnf))))
      refine hlab _ (fun _ _ _ h => h) _ _ _ _ ⟨(0, pid, q, none14, .full, .full, upd σ1 pid (.cells [i64v 0, lists .full [], u64s .full []])), rfl, ⟨ha, Nat.zero_le _, Nat.zero_le _, Nat.zero_le _, hq, ⟨τ1, tk1, hτ1, by dsimp only; rw [upd_ne _ _ n1]; exact hc1⟩, upd_same _ _ _, by dsimp only; rw [upd_ne _ _ n2]; exact hr1, n1, n2, .full _ _, sub_upd _ hs1 (sub_none hs1 hpid), sub_none hs1 hpid, .inl ⟨rfl, rfl⟩⟩, rfl, Sub.refl _, ?_⟩
      ((conv => whnf); (repeat ((first | with_reducible refine abr_true rfl ?_ | with_reducible refine abr_false rfl ?_ | with_reducible refine abr_yes rfl ?_ | refine abr_yes (by decide) ?_ | refine abr_no (by decide) ?_ | with_reducible refine abr_same_ne ?_); (conv => whnf))))
      (repeat' first | with_reducible exact EnvLe.refl _ | (refine EnvLe.node ?_ (by first | exact Or.inl rfl | exact Or.inr (Or.inl rfl) | exact Or.inr (Or.inr ⟨nofun, VLe.slice _ _ _⟩)) ?_))
    · refine abr_yes ha ?_
      ((conv => whnf); (repeat ((first | with_reducible refine abr_true rfl ?_ | with_reducible refine abr_false rfl ?_ | with_reducible refine abr_yes rfl ?_ | refine abr_yes (by decide) ?_ | refine abr_no (by decide) ?_ | with_reducible refine abr_same_ne ?_); (conv => whnf))))
      refine astore (xs := [i64v 0, lists .full [], u64s .full []]) (l := [i64v 0, lists .full [], u64s .full []]) hr0 (Nat.le_of_ble_eq_true rfl) rfl rfl ?_
      ((conv => whnf); (repeat ((first | with_reducible refine abr_true rfl ?_ | with_reducible refine abr_false rfl ?_ | with_reducible refine abr_yes rfl ?_ | refine abr_yes (by decide) ?_ | refine abr_no (by decide) ?_ | with_reducible refine abr_same_ne ?_); (conv => whnf))))
      refine aloads (l := [i64v 0, lists .full [], u64s .full []]) (upd_same _ _ _) (by exact Nat.le_refl 3) rfl ?_
      ((conv => whnf); (repeat ((first | with_reducible refine abr_true rfl ?_ | with_reducible refine abr_false rfl ?_ | with_reducible refine abr_yes rfl ?_ | refine abr_yes (by decide) ?_ | refine abr_no (by decide) ?_ | with_reducible refine abr_same_ne ?_); (conv => whnf))))
      refine aret_piece (sub_upd _ hs00 hrid) ⟨?_, ?_⟩
      · unfold cutP cutCode; rw [if_pos ha, if_neg ha]; rfl
      · unfold cutQ; rw [if_neg ha]; exact h
  · rintro ⟨lb, pid, qn, ⟨fi, F, D⟩, ta, tb, σc⟩ ⟨hask, hF, hF24, hD24, hqn, ⟨τ, tk, hτ, hc⟩, hp, hr, n1, n2, htok, hs, hpb, hlb⟩
    dsimp only at hF hF24 hD24 hqn hτ hc hp hr n1 n2 htok hs hpb hlb ⊢
    obtain ⟨hw, hr1, hr2⟩ := askCut_ok hask
    have hsz := sizeV_range (F.length : Int) w
    obtain ⟨hfl, hf0⟩ := front_ok hqn
    rcases hlb with ⟨rfl, hgo⟩ | ⟨rfl, hR⟩
    · refine ⟨_, rfl, ?_⟩
      ((conv => whnf); (repeat ((first | with_reducible refine abr_true rfl ?_ | with_reducible refine abr_false rfl ?_ | with_reducible refine abr_yes rfl ?_ | refine abr_yes (by decide) ?_ | refine abr_no (by decide) ?_ | with_reducible refine abr_same_ne ?_); (conv => whnf))))
      intro hlab
      ((conv => whnf); (repeat ((first | with_reducible refine abr_true rfl ?_ | with_reducible refine abr_false rfl ?_ | with_reducible refine abr_yes rfl ?_ | refine abr_yes (by decide) ?_ | refine abr_no (by decide) ?_ | with_reducible refine abr_same_ne ?_); (conv => whnf))))
      refine acall (qFront id qn _ _ (Qu.at hqn hτ hc)) ?_
      rintro _ σ_ ⟨rfl, e_⟩
      obtain rfl := e_.symm
      refine ⟨?_, Ext.refl _⟩
      ((conv => whnf); (repeat ((first | with_reducible refine abr_true rfl ?_ | with_reducible refine abr_false rfl ?_ | with_reducible refine abr_yes rfl ?_ | refine abr_yes (by decide) ?_ | refine abr_no (by decide) ?_ | with_reducible refine abr_same_ne ?_); (conv => whnf))))
      refine afit_i64 (by omega) ?_
      ((conv => whnf); (repeat ((first | with_reducible refine abr_true rfl ?_ | with_reducible refine abr_false rfl ?_ | with_reducible refine abr_yes rfl ?_ | refine abr_yes (by decide) ?_ | refine abr_no (by decide) ?_ | with_reducible refine abr_same_ne ?_); (conv => whnf))))
      refine aload hp rfl ?_
      ((conv => whnf); (repeat ((first | with_reducible refine abr_true rfl ?_ | with_reducible refine abr_false rfl ?_ | with_reducible refine abr_yes rfl ?_ | refine abr_yes (by decide) ?_ | refine abr_no (by decide) ?_ | with_reducible refine abr_same_ne ?_); (conv => whnf))))
      rw [List.length_map]
      refine acall (lSize (F.length : Int) w _) ?_
      rintro _ σ_ ⟨rfl, e_⟩
      obtain rfl := e_.symm
      refine ⟨?_, Ext.refl _⟩
      ((conv => whnf); (repeat ((first | with_reducible refine abr_true rfl ?_ | with_reducible refine abr_false rfl ?_ | with_reducible refine abr_yes rfl ?_ | refine abr_yes (by decide) ?_ | refine abr_no (by decide) ?_ | with_reducible refine abr_same_ne ?_); (conv => whnf))))
      refine afit_i64 (by omega) ?_
      ((conv => whnf); (repeat ((first | with_reducible refine abr_true rfl ?_ | with_reducible refine abr_false rfl ?_ | with_reducible refine abr_yes rfl ?_ | refine abr_yes (by decide) ?_ | refine abr_no (by decide) ?_ | with_reducible refine abr_same_ne ?_); (conv => whnf))))
      rw [List.length_map]
      rw [cutGo] at hgo
      have hstop : stopC room w qn F = true → ∃ x' : Nat × Nat × QS × Pc × Tok × Tok × AHeap, x' = (1, pid, qn, (fi, F, D), ta, tb, σc) ∧ (qn, ((fi, F, D) : Pc)) = cutR room w q := fun hst => ⟨_, rfl, by rw [if_pos hst] at hgo; exact hgo⟩
      by_cases a1 : (frontV qn).2.1.length = 0
      · have hst : stopC room w qn F = true := decide_eq_true (.inl a1)
        rw [if_pos hst] at hgo
        (repeat ((first | refine aload (by (repeat (first | with_reducible exact upd_same _ _ _ | assumption | rw [upd_ne _ _ (by first | assumption | (apply Ne.symm; assumption))]))) rfl ?_ | refine afit_i64 (by omega) ?_ | refine arem_nonneg (by omega) (by omega) ?_ | refine adiv_i64 (by omega) (by omega) ?_ | refine abr_yes (by omega) ?_ | refine abr_no (by omega) ?_ | refine amin ?_ | refine amax ?_ | refine afit_u64 (by omega) ?_ | refine afit_u8 (by omega) ?_ | rw [List.length_map]); ((conv => whnf); (repeat ((first | with_reducible refine abr_true rfl ?_ | with_reducible refine abr_false rfl ?_ | with_reducible refine abr_yes rfl ?_ | refine abr_yes (by decide) ?_ | refine abr_no (by decide) ?_ | with_reducible refine abr_same_ne ?_); (conv => whnf))))))
        refine ⟨(1, pid, qn, (fi, F, D), ta, tb, σc), rfl, ⟨hask, hF, hF24, hD24, hqn, ⟨τ, tk, hτ, hc⟩, hp, hr, n1, n2, htok, hs, hpb, .inr ⟨rfl, hgo⟩⟩, by dsimp only; simp, Sub.refl _, ?_⟩
        ((conv => whnf); (repeat ((first | with_reducible refine abr_true rfl ?_ | with_reducible refine abr_false rfl ?_ | with_reducible refine abr_yes rfl ?_ | refine abr_yes (by decide) ?_ | refine abr_no (by decide) ?_ | with_reducible refine abr_same_ne ?_); (conv => whnf))))
        (repeat' first | with_reducible exact EnvLe.refl _ | (refine EnvLe.node ?_ (by first | exact Or.inl rfl | exact Or.inr (Or.inl rfl) | exact Or.inr (Or.inr ⟨nofun, VLe.slice _ _ _⟩)) ?_))
      by_cases a2 : leftC room w F < 1
      · have hst : stopC room w qn F = true := decide_eq_true (.inr (.inl a2))
        rw [if_pos hst] at hgo
        unfold leftC at a2
        (repeat ((first | refine aload (by (repeat (first | with_reducible exact upd_same _ _ _ | assumption | rw [upd_ne _ _ (by first | assumption | (apply Ne.symm; assumption))]))) rfl ?_ | refine afit_i64 (by omega) ?_ | refine arem_nonneg (by omega) (by omega) ?_ | refine adiv_i64 (by omega) (by omega) ?_ | refine abr_yes (by omega) ?_ | refine abr_no (by omega) ?_ | refine amin ?_ | refine amax ?_ | refine afit_u64 (by omega) ?_ | refine afit_u8 (by omega) ?_ | rw [List.length_map]); ((conv => whnf); (repeat ((first | with_reducible refine abr_true rfl ?_ | with_reducible refine abr_false rfl ?_ | with_reducible refine abr_yes rfl ?_ | refine abr_yes (by decide) ?_ | refine abr_no (by decide) ?_ | with_reducible refine abr_same_ne ?_); (conv => whnf))))))
        refine ⟨(1, pid, qn, (fi, F, D), ta, tb, σc), rfl, ⟨hask, hF, hF24, hD24, hqn, ⟨τ, tk, hτ, hc⟩, hp, hr, n1, n2, htok, hs, hpb, .inr ⟨rfl, hgo⟩⟩, by dsimp only; simp, Sub.refl _, ?_⟩
        ((conv => whnf); (repeat ((first | with_reducible refine abr_true rfl ?_ | with_reducible refine abr_false rfl ?_ | with_reducible refine abr_yes rfl ?_ | refine abr_yes (by decide) ?_ | refine abr_no (by decide) ?_ | with_reducible refine abr_same_ne ?_); (conv => whnf))))
        (repeat' first | with_reducible exact EnvLe.refl _ | (refine EnvLe.node ?_ (by first | exact Or.inl rfl | exact Or.inr (Or.inl rfl) | exact Or.inr (Or.inr ⟨nofun, VLe.slice _ _ _⟩)) ?_))
      by_cases a3 : F.length = 24
      · have hst : stopC room w qn F = true := decide_eq_true (.inr (.inr a3))
        rw [if_pos hst] at hgo
        unfold leftC at a2
        (repeat ((first | refine aload (by (repeat (first | with_reducible exact upd_same _ _ _ | assumption | rw [upd_ne _ _ (by first | assumption | (apply Ne.symm; assumption))]))) rfl ?_ | refine afit_i64 (by omega) ?_ | refine arem_nonneg (by omega) (by omega) ?_ | refine adiv_i64 (by omega) (by omega) ?_ | refine abr_yes (by omega) ?_ | refine abr_no (by omega) ?_ | refine amin ?_ | refine amax ?_ | refine afit_u64 (by omega) ?_ | refine afit_u8 (by omega) ?_ | rw [List.length_map]); ((conv => whnf); (repeat ((first | with_reducible refine abr_true rfl ?_ | with_reducible refine abr_false rfl ?_ | with_reducible refine abr_yes rfl ?_ | refine abr_yes (by decide) ?_ | refine abr_no (by decide) ?_ | with_reducible refine abr_same_ne ?_); (conv => whnf))))))
        refine ⟨(1, pid, qn, (fi, F, D), ta, tb, σc), rfl, ⟨hask, hF, hF24, hD24, hqn, ⟨τ, tk, hτ, hc⟩, hp, hr, n1, n2, htok, hs, hpb, .inr ⟨rfl, hgo⟩⟩, by dsimp only; simp, Sub.refl _, ?_⟩
        ((conv => whnf); (repeat ((first | with_reducible refine abr_true rfl ?_ | with_reducible refine abr_false rfl ?_ | with_reducible refine abr_yes rfl ?_ | refine abr_yes (by decide) ?_ | refine abr_no (by decide) ?_ | with_reducible refine abr_same_ne ?_); (conv => whnf))))
        (repeat' first | with_reducible exact EnvLe.refl _ | (refine EnvLe.node ?_ (by first | exact Or.inl rfl | exact Or.inr (Or.inl rfl) | exact Or.inr (Or.inr ⟨nofun, VLe.slice _ _ _⟩)) ?_))
      have hst : stopC room w qn F = false := decide_eq_false (by omega)
      rw [hst, if_neg (by simp)] at hgo
      have a2' := a2
      unfold leftC at a2'
      have hm1 : 1 ≤ takenC room w qn F := by unfold takenC; omega
      have hm2 : takenC room w qn F ≤ (frontV qn).2.1.length := by unfold takenC; omega
      have hm3 : takenC room w qn F ≤ leftC room w F := by unfold takenC; omega
      obtain ⟨k1, k2, k3, k4⟩ := take_ok hqn a1 hm1 hm2
      (repeat ((first | refine aload (by (repeat (first | with_reducible exact upd_same _ _ _ | assumption | rw [upd_ne _ _ (by first | assumption | (apply Ne.symm; assumption))]))) rfl ?_ | refine afit_i64 (by omega) ?_ | refine arem_nonneg (by omega) (by omega) ?_ | refine adiv_i64 (by omega) (by omega) ?_ | refine abr_yes (by omega) ?_ | refine abr_no (by omega) ?_ | refine amin ?_ | refine amax ?_ | refine afit_u64 (by omega) ?_ | refine afit_u8 (by omega) ?_ | rw [List.length_map]); ((conv => whnf); (repeat ((first | with_reducible refine abr_true rfl ?_ | with_reducible refine abr_false rfl ?_ | with_reducible refine abr_yes rfl ?_ | refine abr_yes (by decide) ?_ | refine abr_no (by decide) ?_ | with_reducible refine abr_same_ne ?_); (conv => whnf))))))
      obtain ⟨fi2, hfi2⟩ : ∃ fi2, fi2 = fiC qn fi := ⟨_, rfl⟩
      rw [← hfi2] at hgo
      unfold fiC at hfi2
      cases hb : (frontV qn).2.2
      case' true =>
        rw [hb, if_pos rfl] at hfi2
        ((conv => whnf); (repeat ((first | with_reducible refine abr_true rfl ?_ | with_reducible refine abr_false rfl ?_ | with_reducible refine abr_yes rfl ?_ | refine abr_yes (by decide) ?_ | refine abr_no (by decide) ?_ | with_reducible refine abr_same_ne ?_); (conv => whnf))))
        refine aload hp rfl ?_
        ((conv => whnf); (repeat ((first | with_reducible refine abr_true rfl ?_ | with_reducible refine abr_false rfl ?_ | with_reducible refine abr_yes rfl ?_ | refine abr_yes (by decide) ?_ | refine abr_no (by decide) ?_ | with_reducible refine abr_same_ne ?_); (conv => whnf))))
        refine abits_eq hfi2.symm ?_
        ((conv => whnf); (repeat ((first | with_reducible refine abr_true rfl ?_ | with_reducible refine abr_false rfl ?_ | with_reducible refine abr_yes rfl ?_ | refine abr_yes (by decide) ?_ | refine abr_no (by decide) ?_ | with_reducible refine abr_same_ne ?_); (conv => whnf))))
        refine astore (xs := [i64v fi2]) (l := [i64v fi2, lists ta F, u64s tb D]) hp (Nat.le_of_ble_eq_true rfl) rfl rfl ?_
        obtain ⟨σd, hσd⟩ : ∃ σd, σd = upd σc pid (.cells [i64v fi2, lists ta F, u64s tb D]) := ⟨_, rfl⟩
        rw [← hσd]
        have hpd : σd pid = some (.cells [i64v fi2, lists ta F, u64s tb D]) := by rw [hσd]; exact upd_same _ _ _
        have hcd : σd id = some (.cells (qcells qn τ tk)) := by rw [hσd, upd_ne _ _ n1]; exact hc
        have hrd : σd rid = some (.cells [i64v 0, lists .full [], u64s .full []]) := by rw [hσd, upd_ne _ _ n2]; exact hr
        have htd : Tok2 σd σb ta tb := by rw [hσd]; exact htok.set _ hp rfl
        have hsd : Sub σd σb := by rw [hσd]; exact sub_upd _ hs hpb
        clear hσd
      case' false =>
        rw [hb, if_neg (by simp)] at hfi2
        subst hfi2
        obtain ⟨σd, hσd⟩ : ∃ σd, σd = σc := ⟨_, rfl⟩
        rw [← hσd] at hc hp hr htok hs ⊢
        have hpd := hp
        have hcd := hc
        have hrd := hr
        have htd := htok
        have hsd := hs
      all_goals
        ((conv => whnf); (repeat ((first | with_reducible refine abr_true rfl ?_ | with_reducible refine abr_false rfl ?_ | with_reducible refine abr_yes rfl ?_ | refine abr_yes (by decide) ?_ | refine abr_no (by decide) ?_ | with_reducible refine abr_same_ne ?_); (conv => whnf))))
        refine amin ?_
        ((conv => whnf); (repeat ((first | with_reducible refine abr_true rfl ?_ | with_reducible refine abr_false rfl ?_ | with_reducible refine abr_yes rfl ?_ | refine abr_yes (by decide) ?_ | refine abr_no (by decide) ?_ | with_reducible refine abr_same_ne ?_); (conv => whnf))))
        rw [List.length_map]
        rw [show min (room - (total F : Int) - sizeV (F.length : Int) w) ((frontV qn).2.1.length : Int) = takenC room w qn F from rfl]
        generalize takenC room w qn F = m at *
        unfold leftC at hm3
        refine acall (qTake id qn m σd _ (Qu.at hqn hτ hcd)) ?_
        rintro _ σ1 ⟨rfl, w1⟩
        ((conv => whnf); (repeat ((first | with_reducible refine abr_true rfl ?_ | with_reducible refine abr_false rfl ?_ | with_reducible refine abr_yes rfl ?_ | refine abr_yes (by decide) ?_ | refine abr_no (by decide) ?_ | with_reducible refine abr_same_ne ?_); (conv => whnf))))
        refine abr_yes k1 ?_
        ((conv => whnf); (repeat ((first | with_reducible refine abr_true rfl ?_ | with_reducible refine abr_false rfl ?_ | with_reducible refine abr_yes rfl ?_ | refine abr_yes (by decide) ?_ | refine abr_no (by decide) ?_ | with_reducible refine abr_same_ne ?_); (conv => whnf))))
        have hp1 := w1.other hpd (Ne.symm n1)
        have hrr1 := w1.other hrd (Ne.symm hidr)
        obtain ⟨hq1, τ1, tk1, hτ1, hc1⟩ := w1.cell
        have hs1 : Sub σ1 σb := w1.sub.trans (sub_del hsd h1)
        have ht1 : Tok2 σ1 σb ta tb := htd.ext (w1.tips hcd)
        refine aload hp1 rfl ?_
        ((conv => whnf); (repeat ((first | with_reducible refine abr_true rfl ?_ | with_reducible refine abr_false rfl ?_ | with_reducible refine abr_yes rfl ?_ | refine abr_yes (by decide) ?_ | refine abr_no (by decide) ?_ | with_reducible refine abr_same_ne ?_); (conv => whnf))))
        refine aapp_2 (ys := [sl .none (takeB qn m)]) ht1 hs1 (by rw [List.length_map]; show (_ + 1) * 24 ≤ _; omega) fun t2 σ2 hx2 hs2 ht2 => ?_
        rw [show List.map (sl .none) F ++ [sl .none (takeB qn m)] = List.map (sl .none) (F ++ [takeB qn m]) by simp]
        ((conv => whnf); (repeat ((first | with_reducible refine abr_true rfl ?_ | with_reducible refine abr_false rfl ?_ | with_reducible refine abr_yes rfl ?_ | refine abr_yes (by decide) ?_ | refine abr_no (by decide) ?_ | with_reducible refine abr_same_ne ?_); (conv => whnf))))
        refine astore (xs := [lists (.tip t2) (F ++ [takeB qn m])]) (l := [i64v fi2, lists (.tip t2) (F ++ [takeB qn m]), u64s tb D]) (hx2 pid _ rfl hp1) (Nat.le_of_ble_eq_true rfl) rfl rfl ?_
        have hp3 : upd σ2 pid (.cells [i64v fi2, lists (.tip t2) (F ++ [takeB qn m]), u64s tb D]) pid = some (.cells [i64v fi2, lists (.tip t2) (F ++ [takeB qn m]), u64s tb D]) := upd_same _ _ _
        have hc3 : upd σ2 pid (.cells [i64v fi2, lists (.tip t2) (F ++ [takeB qn m]), u64s tb D]) id = some (.cells (qcells (takeQ qn m) τ1 tk1)) := by rw [upd_ne _ _ n1]; exact hx2 id _ rfl hc1
        have hr3 : upd σ2 pid (.cells [i64v fi2, lists (.tip t2) (F ++ [takeB qn m]), u64s tb D]) rid = some (.cells [i64v 0, lists .full [], u64s .full []]) := by rw [upd_ne _ _ n2]; exact hx2 rid _ rfl hrr1
        have ht3 : Tok2 (upd σ2 pid (.cells [i64v fi2, lists (.tip t2) (F ++ [takeB qn m]), u64s tb D])) σb (.tip t2) tb := ht2.set _ (hx2 pid _ rfl hp1) rfl
        have hs3 : Sub (upd σ2 pid (.cells [i64v fi2, lists (.tip t2) (F ++ [takeB qn m]), u64s tb D])) σb := sub_upd _ hs2 hpb
        generalize upd σ2 pid (.cells [i64v fi2, lists (.tip t2) (F ++ [takeB qn m]), u64s tb D]) = σ3 at *
        have htot : (total (F ++ [takeB qn m]) : Int) = (total F : Int) + ((takeB qn m).length : Int) := by rw [total_append, total_cons, total_nil]; omega
        have hFl : (F ++ [takeB qn m]).length = F.length + 1 := by simp
        ((conv => whnf); (repeat ((first | with_reducible refine abr_true rfl ?_ | with_reducible refine abr_false rfl ?_ | with_reducible refine abr_yes rfl ?_ | refine abr_yes (by decide) ?_ | refine abr_no (by decide) ?_ | with_reducible refine abr_same_ne ?_); (conv => whnf))))
        rw [List.length_map]
        refine afit_i64 (by omega) ?_
        ((conv => whnf); (repeat ((first | with_reducible refine abr_true rfl ?_ | with_reducible refine abr_false rfl ?_ | with_reducible refine abr_yes rfl ?_ | refine abr_yes (by decide) ?_ | refine abr_no (by decide) ?_ | with_reducible refine abr_same_ne ?_); (conv => whnf))))
        rw [← htot]
        cases hall : takeAll qn m with
        | true =>
          rw [hall, if_pos rfl] at hgo
          ((conv => whnf); (repeat ((first | with_reducible refine abr_true rfl ?_ | with_reducible refine abr_false rfl ?_ | with_reducible refine abr_yes rfl ?_ | refine abr_yes (by decide) ?_ | refine abr_no (by decide) ?_ | with_reducible refine abr_same_ne ?_); (conv => whnf))))
          refine aload hp3 rfl ?_
          ((conv => whnf); (repeat ((first | with_reducible refine abr_true rfl ?_ | with_reducible refine abr_false rfl ?_ | with_reducible refine abr_yes rfl ?_ | refine abr_yes (by decide) ?_ | refine abr_no (by decide) ?_ | with_reducible refine abr_same_ne ?_); (conv => whnf))))
          refine aapp_2 (ys := [u64v (frontV qn).1]) ht3.symm hs3 (by rw [List.length_map]; show (_ + 1) * 8 ≤ _; omega) fun t4 σ4 hx4 hs4 ht4 => ?_
          rw [show List.map u64v D ++ [u64v (frontV qn).1] = List.map u64v (D ++ [(frontV qn).1]) by simp]
          ((conv => whnf); (repeat ((first | with_reducible refine abr_true rfl ?_ | with_reducible refine abr_false rfl ?_ | with_reducible refine abr_yes rfl ?_ | refine abr_yes (by decide) ?_ | refine abr_no (by decide) ?_ | with_reducible refine abr_same_ne ?_); (conv => whnf))))
          refine astore (xs := [u64s (.tip t4) (D ++ [(frontV qn).1])]) (l := [i64v fi2, lists (.tip t2) (F ++ [takeB qn m]), u64s (.tip t4) (D ++ [(frontV qn).1])]) (hx4 pid _ rfl hp3) (Nat.le_of_ble_eq_true rfl) rfl rfl ?_
          ((conv => whnf); (repeat ((first | with_reducible refine abr_true rfl ?_ | with_reducible refine abr_false rfl ?_ | with_reducible refine abr_yes rfl ?_ | refine abr_yes (by decide) ?_ | refine abr_no (by decide) ?_ | with_reducible refine abr_same_ne ?_); (conv => whnf))))
          refine ⟨(0, pid, takeQ qn m, (fi2, F ++ [takeB qn m], D ++ [(frontV qn).1]), .tip t2, .tip t4, _), rfl, ⟨hask, by dsimp only; omega, by dsimp only; omega, by dsimp only; rw [List.length_append, List.length_append]; exact Nat.add_le_add_right hD24 1, hq1, ⟨τ1, tk1, hτ1, (upd_ne _ _ n1).trans (hx4 id _ rfl hc3)⟩, upd_same _ _ _, (upd_ne _ _ n2).trans (hx4 rid _ rfl hr3), n1, n2, (ht4.symm).set _ (hx4 pid _ rfl hp3) rfl, sub_upd _ hs4 hpb, hpb, .inl ⟨rfl, ?_⟩⟩, ?_, Sub.refl _, ?_⟩
          · dsimp only
            rw [k3 hall]; exact hgo
          · have := k3 hall
            dsimp only
            simp
            omega
          · ((conv => whnf); (repeat ((first | with_reducible refine abr_true rfl ?_ | with_reducible refine abr_false rfl ?_ | with_reducible refine abr_yes rfl ?_ | refine abr_yes (by decide) ?_ | refine abr_no (by decide) ?_ | with_reducible refine abr_same_ne ?_); (conv => whnf))))
            (repeat' first | with_reducible exact EnvLe.refl _ | (refine EnvLe.node ?_ (by first | exact Or.inl rfl | exact Or.inr (Or.inl rfl) | exact Or.inr (Or.inr ⟨nofun, VLe.slice _ _ _⟩)) ?_))
        | false =>
          rw [hall, if_neg (by simp)] at hgo
          ((conv => whnf); (repeat ((first | with_reducible refine abr_true rfl ?_ | with_reducible refine abr_false rfl ?_ | with_reducible refine abr_yes rfl ?_ | refine abr_yes (by decide) ?_ | refine abr_no (by decide) ?_ | with_reducible refine abr_same_ne ?_); (conv => whnf))))
          refine aload hp3 rfl ?_
          ((conv => whnf); (repeat ((first | with_reducible refine abr_true rfl ?_ | with_reducible refine abr_false rfl ?_ | with_reducible refine abr_yes rfl ?_ | refine abr_yes (by decide) ?_ | refine abr_no (by decide) ?_ | with_reducible refine abr_same_ne ?_); (conv => whnf))))
          refine abits_eq rfl ?_
          ((conv => whnf); (repeat ((first | with_reducible refine abr_true rfl ?_ | with_reducible refine abr_false rfl ?_ | with_reducible refine abr_yes rfl ?_ | refine abr_yes (by decide) ?_ | refine abr_no (by decide) ?_ | with_reducible refine abr_same_ne ?_); (conv => whnf))))
          refine astore (xs := [i64v (bitsOp .or .i64 fi2 1)]) (l := [i64v (bitsOp .or .i64 fi2 1), lists (.tip t2) (F ++ [takeB qn m]), u64s tb D]) hp3 (Nat.le_of_ble_eq_true rfl) rfl rfl ?_
          ((conv => whnf); (repeat ((first | with_reducible refine abr_true rfl ?_ | with_reducible refine abr_false rfl ?_ | with_reducible refine abr_yes rfl ?_ | refine abr_yes (by decide) ?_ | refine abr_no (by decide) ?_ | with_reducible refine abr_same_ne ?_); (conv => whnf))))
          refine hlab _ (fun _ _ _ h => h) _ _ _ _ ⟨(1, pid, takeQ qn m, (bitsOp .or .i64 fi2 1, F ++ [takeB qn m], D), .tip t2, tb, _), rfl, ⟨hask, by dsimp only; omega, by dsimp only; omega, by dsimp only; omega, hq1, ⟨τ1, tk1, hτ1, (upd_ne _ _ n1).trans hc3⟩, upd_same _ _ _, (upd_ne _ _ n2).trans hr3, n1, n2, ht3.set _ hp3 rfl, sub_upd _ hs3 hpb, hpb, .inr ⟨rfl, hgo⟩⟩, by dsimp only; simp, rfl, Sub.refl _, ?_⟩
          ((conv => whnf); (repeat ((first | with_reducible refine abr_true rfl ?_ | with_reducible refine abr_false rfl ?_ | with_reducible refine abr_yes rfl ?_ | refine abr_yes (by decide) ?_ | refine abr_no (by decide) ?_ | with_reducible refine abr_same_ne ?_); (conv => whnf))))
          (repeat' first | with_reducible exact EnvLe.refl _ | (refine EnvLe.node ?_ (by first | exact Or.inl rfl | exact Or.inr (Or.inl rfl) | exact Or.inr (Or.inr ⟨nofun, VLe.slice _ _ _⟩)) ?_))
    · refine ⟨_, rfl, ?_⟩
      ((conv => whnf); (repeat ((first | with_reducible refine abr_true rfl ?_ | with_reducible refine abr_false rfl ?_ | with_reducible refine abr_yes rfl ?_ | refine abr_yes (by decide) ?_ | refine abr_no (by decide) ?_ | with_reducible refine abr_same_ne ?_); (conv => whnf))))
      intro hlab
      ((conv => whnf); (repeat ((first | with_reducible refine abr_true rfl ?_ | with_reducible refine abr_false rfl ?_ | with_reducible refine abr_yes rfl ?_ | refine abr_yes (by decide) ?_ | refine abr_no (by decide) ?_ | with_reducible refine abr_same_ne ?_); (conv => whnf))))
      refine aload hp rfl ?_
      ((conv => whnf); (repeat ((first | with_reducible refine abr_true rfl ?_ | with_reducible refine abr_false rfl ?_ | with_reducible refine abr_yes rfl ?_ | refine abr_yes (by decide) ?_ | refine abr_no (by decide) ?_ | with_reducible refine abr_same_ne ?_); (conv => whnf))))
      rw [List.length_map]
      have hQ : cutQ room w q = qn := by unfold cutQ; rw [if_pos hask, ← hR]
      by_cases h0 : F.length = 0
      · have hcode : cutCode room w q = 4 := by unfold cutCode; rw [if_neg (fun k => k hask), ← hR]; exact if_pos h0
        refine abr_yes (by omega) ?_
        ((conv => whnf); (repeat ((first | with_reducible refine abr_true rfl ?_ | with_reducible refine abr_false rfl ?_ | with_reducible refine abr_yes rfl ?_ | refine abr_yes (by decide) ?_ | refine abr_no (by decide) ?_ | with_reducible refine abr_same_ne ?_); (conv => whnf))))
        refine astore (xs := [i64v 0, lists .full [], u64s .full []]) (l := [i64v 0, lists .full [], u64s .full []]) hr (Nat.le_of_ble_eq_true rfl) rfl rfl ?_
        ((conv => whnf); (repeat ((first | with_reducible refine abr_true rfl ?_ | with_reducible refine abr_false rfl ?_ | with_reducible refine abr_yes rfl ?_ | refine abr_yes (by decide) ?_ | refine abr_no (by decide) ?_ | with_reducible refine abr_same_ne ?_); (conv => whnf))))
        refine aloads (l := [i64v 0, lists .full [], u64s .full []]) (upd_same _ _ _) (by exact Nat.le_refl 3) rfl ?_
        ((conv => whnf); (repeat ((first | with_reducible refine abr_true rfl ?_ | with_reducible refine abr_false rfl ?_ | with_reducible refine abr_yes rfl ?_ | refine abr_yes (by decide) ?_ | refine abr_no (by decide) ?_ | with_reducible refine abr_same_ne ?_); (conv => whnf))))
        obtain ⟨σ', k1, k2⟩ := qu_of (σ := upd σc rid (.cells [i64v 0, lists .full [], u64s .full []])) (σb := σb) hqn hτ ((upd_ne _ _ hidr).trans hc) h1 (sub_upd _ hs hbr)
        refine aret_piece k1 ⟨?_, ?_⟩
        · unfold cutP; rw [hcode, if_neg (by decide)]; rfl
        · rw [hQ]; exact k2
      · have hcode : cutCode room w q = 0 := by unfold cutCode; rw [if_neg (fun k => k hask), ← hR]; exact if_neg h0
        refine abr_no (by omega) ?_
        ((conv => whnf); (repeat ((first | with_reducible refine abr_true rfl ?_ | with_reducible refine abr_false rfl ?_ | with_reducible refine abr_yes rfl ?_ | refine abr_yes (by decide) ?_ | refine abr_no (by decide) ?_ | with_reducible refine abr_same_ne ?_); (conv => whnf))))
        refine aloads (l := [i64v fi, lists ta F, u64s tb D]) hp (by exact Nat.le_refl 3) rfl ?_
        ((conv => whnf); (repeat ((first | with_reducible refine abr_true rfl ?_ | with_reducible refine abr_false rfl ?_ | with_reducible refine abr_yes rfl ?_ | refine abr_yes (by decide) ?_ | refine abr_no (by decide) ?_ | with_reducible refine abr_same_ne ?_); (conv => whnf))))
        refine astore (xs := [i64v fi, lists ta F, u64s tb D]) (l := [i64v fi, lists ta F, u64s tb D]) hr (Nat.le_of_ble_eq_true rfl) rfl rfl ?_
        ((conv => whnf); (repeat ((first | with_reducible refine abr_true rfl ?_ | with_reducible refine abr_false rfl ?_ | with_reducible refine abr_yes rfl ?_ | refine abr_yes (by decide) ?_ | refine abr_no (by decide) ?_ | with_reducible refine abr_same_ne ?_); (conv => whnf))))
        refine aloads (l := [i64v fi, lists ta F, u64s tb D]) (upd_same _ _ _) (by exact Nat.le_refl 3) rfl ?_
        ((conv => whnf); (repeat ((first | with_reducible refine abr_true rfl ?_ | with_reducible refine abr_false rfl ?_ | with_reducible refine abr_yes rfl ?_ | refine abr_yes (by decide) ?_ | refine abr_no (by decide) ?_ | with_reducible refine abr_same_ne ?_); (conv => whnf))))
        obtain ⟨σ', k1, k2⟩ := qu_of (σ := upd σc rid (.cells [i64v fi, lists ta F, u64s tb D])) (σb := σb) hqn hτ ((upd_ne _ _ hidr).trans hc) h1 (sub_upd _ hs hbr)
        refine aret_piece k1 ⟨?_, ?_⟩
        · unfold cutP; rw [hcode, if_pos rfl, ← hR]
        · rw [hQ]; exact k2
end Go.Proofs.Ytiohpnkfcaahbaa
/-
  What is cut out of a queue: the plain law.
-/
namespace Go.Proofs.Ytiohpnkfcaahbaa
set_option linter.unusedVariables false
set_option linter.unusedSimpArgs false
open Go Go.Am

/-- Fields that are whole texts, but for what was taken of the first one. -/
def wholes (k : Nat) : List (Nat × List UInt8) → List (List UInt8)
  | [] => []
  | t :: ts => t.2.drop k :: ts.map Prod.snd
theorem wholes_snoc (k : Nat) (l : List (Nat × List UInt8)) (t : Nat × List UInt8) : wholes k (l ++ [t]) = wholes k l ++ [t.2.drop (if l.length = 0 then k else 0)] := by
  cases l with
  | nil => simp [wholes]
  | cons a l => simp [wholes]
theorem wholes_length (k : Nat) (l : List (Nat × List UInt8)) : (wholes k l).length = l.length := by cases l <;> simp [wholes]
def begC (q : QS) (d : Nat) : Nat := if d = 0 then q.taken else 0
def stQ (q : QS) (d : Nat) : QS := ⟨q.room, q.ts.drop d, begC q d, q.last⟩
def fi0 (q : QS) : Int := if 0 < q.taken then 2 else 0
def stP (q : QS) (d : Nat) : Pc := (if d = 0 then 0 else fi0 q, wholes q.taken (q.ts.take d), (q.ts.take d).map Prod.fst)
theorem stQ_zero (q : QS) : stQ q 0 = q := by unfold stQ begC; simp
theorem stP_zero (q : QS) : stP q 0 = none14 := by unfold stP none14; simp [wholes]
theorem take_succ_ts {q : QS} {d : Nat} (h : d < q.ts.length) : q.ts.take (d + 1) = q.ts.take d ++ [q.ts[d]] := by rw [List.take_add_one, List.getElem?_eq_getElem h]; rfl
theorem stP_succ {q : QS} {d : Nat} (h : d < q.ts.length) : stP q (d + 1) = (fi0 q, (stP q d).2.1 ++ [q.ts[d].2.drop (begC q d)], (stP q d).2.2 ++ [q.ts[d].1]) := by
  unfold stP begC
  rw [take_succ_ts h, wholes_snoc, List.map_append, List.length_take, show min d q.ts.length = d by omega]
  simp
theorem stP_len {q : QS} {d : Nat} (h : d ≤ q.ts.length) : (stP q d).2.1.length = d := by unfold stP; dsimp only; rw [wholes_length, List.length_take]; omega
theorem stQ_front {q : QS} {d : Nat} (h : d < q.ts.length) : frontV (stQ q d) = (q.ts[d].1, q.ts[d].2.drop (begC q d), decide (begC q d > 0)) := by
  unfold frontV stQ
  dsimp only
  rw [List.drop_eq_getElem_cons h]
theorem stQ_take {q : QS} {d : Nat} (h : d < q.ts.length) {m : Int} (h1 : 1 ≤ m) (h2 : m ≤ (q.ts[d].2.length : Int) - begC q d) :
    takeB (stQ q d) m = (q.ts[d].2.drop (begC q d)).take m.toNat ∧ takeAll (stQ q d) m = decide (m = (q.ts[d].2.length : Int) - begC q d) ∧
      takeQ (stQ q d) m = if m < (q.ts[d].2.length : Int) - begC q d then ⟨q.room, q.ts.drop d, begC q d + m.toNat, q.last⟩ else stQ q (d + 1) := by
  have e : (stQ q d).ts = q.ts[d] :: q.ts.drop (d + 1) := List.drop_eq_getElem_cons h
  have et : (stQ q d).taken = begC q d := rfl
  have hc : takeCode (stQ q d) m = 0 := by unfold takeCode; rw [e, et]; exact if_neg (by omega)
  refine ⟨by unfold takeB; rw [hc, e]; rfl, by unfold takeAll; rw [hc, e]; rfl, ?_⟩
  have hd : q.ts[d] :: q.ts.drop (d + 1) = q.ts.drop d := (List.drop_eq_getElem_cons h).symm
  unfold takeQ
  rw [hc, e]
  show (if (0 : Int) = 0 then (if m < (q.ts[d].2.length : Int) - begC q d then (⟨q.room, q.ts[d] :: q.ts.drop (d + 1), begC q d + m.toNat, q.last⟩ : QS) else ⟨q.room, q.ts.drop (d + 1), 0, q.last⟩) else _) = _
  rw [if_pos rfl, hd]
  unfold stQ begC
  rw [if_neg (Nat.succ_ne_zero d)]

/-- What comes of a cut. -/
inductive CutRes (room w : Int) (q : QS) : QS × Pc → Prop
  | whole (d : Nat) (h : d ≤ q.ts.length) (h24 : d ≤ 24) (fit : 1 ≤ d → (total (stP q d).2.1 : Int) + sizeV ((d : Int) - 1) w ≤ room) (end_ : stopC room w (stQ q d) (stP q d).2.1 = true) : CutRes room w q (stQ q d, stP q d)
  | part (d m : Nat) (h : d < q.ts.length) (h24 : d < 24) (h1 : 1 ≤ m) (hm : begC q d + m < q.ts[d].2.length) (fit : (total (stP q d).2.1 : Int) + m + sizeV (d : Int) w = room) :
      CutRes room w q (⟨q.room, q.ts.drop d, begC q d + m, q.last⟩, (fi0 q + 1, (stP q d).2.1 ++ [(q.ts[d].2.drop (begC q d)).take m], (stP q d).2.2))

theorem fiC_st {q : QS} {d : Nat} (h : d < q.ts.length) : fiC (stQ q d) (stP q d).1 = fi0 q := by
  unfold fiC
  rw [stQ_front h]
  unfold stP fi0 begC
  by_cases hd : d = 0
  · by_cases ht : 0 < q.taken
    · simp [hd, ht]; decide
    · simp [hd, ht]
  · simp [hd]

theorem cutGo_res {room w : Int} {q : QS} (hq : QOk q) : ∀ (n d : Nat), d ≤ q.ts.length → q.ts.length - d < n → d ≤ 24 → (1 ≤ d → (total (stP q d).2.1 : Int) + sizeV ((d : Int) - 1) w ≤ room) → CutRes room w q (cutGo room w n (stQ q d) (stP q d))
  | 0, d, _, h, _, _ => absurd h (Nat.not_lt_zero _)
  | n + 1, d, hd, hn, h24, fit => by
    rw [cutGo]
    have hlen := stP_len hd
    cases hst : stopC room w (stQ q d) (stP q d).2.1 with
    | true => rw [if_pos rfl]; exact .whole d hd h24 fit hst
    | false =>
      rw [if_neg (by simp)]
      have hns := of_decide_eq_false hst
      have hd2 : d < q.ts.length := by
        refine Classical.byContradiction fun k => hns (.inl ?_)
        have : (stQ q d).ts = [] := List.drop_of_length_le (by omega)
        unfold frontV; rw [this]; rfl
      have hf := stQ_front hd2
      have hl1 : 1 ≤ leftC room w (stP q d).2.1 := by omega
      have hbeg : begC q d < q.ts[d].2.length := by
        have h1 := (hq.each _ (List.getElem_mem hd2)).1
        unfold begC
        split
        · rename_i h0
          subst h0
          have := hq.begun
          rw [show q.ts = q.ts[0] :: q.ts.drop 1 from (List.drop_eq_getElem_cons hd2)] at this
          exact this
        · omega
      obtain ⟨m, hm⟩ : ∃ m, m = takenC room w (stQ q d) (stP q d).2.1 := ⟨_, rfl⟩
      rw [← hm]
      have hm2 : m = min (leftC room w (stP q d).2.1) ((q.ts[d].2.length - begC q d : Nat) : Int) := by
        rw [hm]; unfold takenC; rw [hf]; dsimp only; rw [List.length_drop]
      obtain ⟨e1, e2, e3⟩ := stQ_take hd2 (m := m) (by omega) (by omega)
      rw [e1, e2, e3, fiC_st hd2, hf]
      dsimp only
      have hleft : leftC room w (stP q d).2.1 = room - total (stP q d).2.1 - sizeV (d : Int) w := by unfold leftC; rw [hlen]
      by_cases hall : m = (q.ts[d].2.length : Int) - begC q d
      · rw [decide_eq_true hall, if_pos rfl, if_neg (by omega)]
        have htk : (q.ts[d].2.drop (begC q d)).take m.toNat = q.ts[d].2.drop (begC q d) := List.take_of_length_le (by rw [List.length_drop]; omega)
        rw [htk, ← stP_succ hd2]
        refine cutGo_res hq n (d + 1) (by omega) (by omega) ?_ fun _ => ?_
        · have : (stP q d).2.1.length ≠ 24 := fun k => hns (.inr (.inr k))
          omega
        · rw [stP_succ hd2]
          dsimp only
          rw [total_append, total_cons, total_nil, List.length_drop]
          rw [show ((d + 1 : Nat) : Int) - 1 = (d : Int) by omega]
          omega
      · rw [decide_eq_false hall, if_neg (by simp), if_pos (by omega)]
        have hor : bitsOp .or .i64 (fi0 q) 1 = fi0 q + 1 := by unfold fi0; split <;> decide
        rw [hor, show m = ((m.toNat : Nat) : Int) by omega]
        rw [Int.toNat_natCast]
        refine .part d m.toNat hd2 ?_ (by omega) (by omega) (by omega)
        have : (stP q d).2.1.length ≠ 24 := fun k => hns (.inr (.inr k))
        omega
theorem cut_res {room w : Int} {q : QS} (hq : QOk q) : CutRes room w q (cutR room w q) := by
  have := cutGo_res (room := room) (w := w) hq (q.ts.length + 1) 0 (Nat.zero_le _) (by omega) (Nat.zero_le _) (fun h => absurd h (by omega))
  rw [stQ_zero, stP_zero] at this
  exact this
theorem cutP_of {room w : Int} {q : QS} {r : QS × Pc} (hask : askCut room w = 0) (h : r = cutR room w q) : cutQ room w q = r.1 ∧ (r.2.2.1.length ≠ 0 → cutCode room w q = 0 ∧ cutP room w q = r.2) ∧ (r.2.2.1.length = 0 → cutCode room w q = 4 ∧ cutP room w q = none14) := by
  have hq : cutQ room w q = r.1 := by unfold cutQ; rw [if_pos hask, ← h]
  refine ⟨hq, fun h0 => ?_, fun h0 => ?_⟩
  · have hc : cutCode room w q = 0 := by unfold cutCode; rw [if_neg (fun k => k hask), ← h]; exact if_neg h0
    exact ⟨hc, by unfold cutP; rw [if_pos hc, ← h]⟩
  · have hc : cutCode room w q = 4 := by unfold cutCode; rw [if_neg (fun k => k hask), ← h]; exact if_pos h0
    exact ⟨hc, by unfold cutP; rw [hc, if_neg (by decide)]⟩
theorem askCut_eq {room w : Int} (hw : w = 11 ∨ w = 15) (h0 : 0 ≤ room) (h1 : room ≤ 4000) : askCut room w = 0 := by
  unfold askCut; rw [if_neg (by rw [widthOk_iff.2 hw]; simp), if_neg (by omega)]
end Go.Proofs.Ytiohpnkfcaahbaa
/-
  The bodies of one package, compiled to the framework's language (printed by a program of this session).
-/
namespace Go.Proofs.Ytiohpnkfcaahbaa
set_option linter.unusedVariables false
set_option linter.unusedSimpArgs false
open Go Go.Am
/- glue.New -/
def c13 : Cfg := ⟨qs, [], 3, []⟩
def ir13 : IFun := ⟨0, [.tmp s0],
  (.seq (.reg (.one ⟨some s0, none, (.mv (.c (.v (.pointer none))))⟩
    .done))
  (.seq (.reg (.one ⟨some s1, none, (.build [(.v (.bool false)), (.slice 1 [] .full), (.v (.bool false)), (.v (.int .i64 0))] [(0, 1, (.c (.v (.bool true))))])⟩
    (.one ⟨some s2, none, (.box 4 (.t s1))⟩
    (.one ⟨some s0, none, (.mv (.t s2))⟩
    .done))))
  .ret))⟩
theorem ok13 : compF Try.prog c13 Try.f13 = some ir13 := by kernel_rfl
theorem k_glue_New {args : List AVal} {σ : AHeap} {Q : AVal → AHeap → Prop} (hl : Nat.ble args.length 3 = true) (h : argsK (Env.full 9) 0 args fun env => evC Try.prog c13 ir13.body env σ (retQ ir13 Q)) : ACalls Try.prog 13 args σ Q :=
  acalls_of Try.func13 ok13 rfl (Nat.le_of_ble_eq_true hl) h
/- glue.Glue).Put -/
def c15 : Cfg := ⟨qs, [], 89, []⟩
def ir15 : IFun := ⟨4, [.tmp s8, .tmp s9],
  (.seq (.reg (.one ⟨some s8, none, (.mv (.c (.slice 1 [] .full)))⟩
    (.one ⟨some s9, none, (.mv (.c (.v (.int .i64 0))))⟩
    .done)))
  (.scope (.seq (.reg (.one ⟨some s10, none, (.mv (.c (.func 53 [] [])))⟩
    .done))
  (.seq (.block 0 (.seq (.reg (.one ⟨some s17, none, (.mv (.t s0))⟩
    (.one ⟨some s18, none, (.eqNil 1 false (.t s17))⟩
    (.one ⟨some s19, none, (.mv (.t s18))⟩
    (.one ⟨some s20, some (s19, false), (.mv (.t s0))⟩
    (.one ⟨some s21, some (s19, false), (.nilchk (.t s20))⟩
    (.one ⟨some s22, some (s19, false), (.faddr 0 (.t s21))⟩
    (.one ⟨some s23, some (s19, false), (.load none (.t s22))⟩
    (.one ⟨some s24, some (s19, false), (.not (.t s23))⟩
    (.one ⟨some s25, none, (.pick (.t s19) (.c (.v (.bool true))) (.t s24))⟩
    (.one ⟨some s16, none, (.mv (.t s25))⟩
    .done)))))))))))
  (.cond (.t s16) (.seq (.reg (.one ⟨some s8, none, (.mv (.c (.slice 1 [] .full)))⟩
    (.one ⟨some s9, none, (.mv (.c (.v (.int .i64 6))))⟩
    .done)))
  .ret) (.seq (.reg (.one ⟨some s27, none, (.mv (.t s1))⟩
    (.one ⟨some s28, none, (.bin false .lss (.t s27) (.c (.v (.int .i64 0))))⟩
    (.one ⟨some s29, none, (.mv (.t s28))⟩
    (.one ⟨some s30, some (s29, false), (.mv (.t s1))⟩
    (.one ⟨some s31, some (s29, false), (.bin false .gtr (.t s30) (.c (.v (.int .i64 3))))⟩
    (.one ⟨some s32, none, (.pick (.t s29) (.c (.v (.bool true))) (.t s31))⟩
    (.one ⟨some s33, none, (.mv (.t s32))⟩
    (.one ⟨some s34, some (s33, false), (.mv (.t s2))⟩
    (.one ⟨some s35, some (s33, false), (.len false (.t s34))⟩
    (.one ⟨some s36, some (s33, false), (.bin false .eql (.t s35) (.c (.v (.int .i64 0))))⟩
    (.one ⟨some s37, none, (.pick (.t s33) (.c (.v (.bool true))) (.t s36))⟩
    (.one ⟨some s38, none, (.mv (.t s37))⟩
    (.one ⟨some s39, some (s38, false), (.mv (.t s2))⟩
    (.one ⟨some s40, some (s38, false), (.len false (.t s39))⟩
    (.one ⟨some s41, some (s38, false), (.bin false .gtr (.t s40) (.c (.v (.int .i64 24))))⟩
    (.one ⟨some s42, none, (.pick (.t s38) (.c (.v (.bool true))) (.t s41))⟩
    (.one ⟨some s43, none, (.mv (.t s42))⟩
    (.one ⟨some s44, some (s43, false), (.mv (.t s2))⟩
    (.one ⟨some s45, some (s43, false), (.mv (.t s10))⟩
    (.one ⟨some s46, some (s43, false), (.callq 54 [(.t s44), (.t s45)])⟩
    (.one ⟨some s47, none, (.pick (.t s43) (.c (.v (.bool true))) (.t s46))⟩
    (.one ⟨some s26, none, (.mv (.t s47))⟩
    .done)))))))))))))))))))))))
  (.cond (.t s26) (.seq (.reg (.one ⟨some s8, none, (.mv (.c (.slice 1 [] .full)))⟩
    (.one ⟨some s9, none, (.mv (.c (.v (.int .i64 1))))⟩
    .done)))
  .ret) .skip)))))
  (.seq (.seq (.reg (.one ⟨some s48, none, (.mv (.t s3))⟩
    .done))
  (.cond (.t s48) (.reg (.one ⟨some s49, none, (.mv (.t s0))⟩
    (.one ⟨some s50, none, (.call 55 [(.t s49)])⟩
    .done))) .skip))
  (.seq (.reg (.one ⟨some s11, none, (.mv (.c (.slice 1 [] .full)))⟩
    .done))
  (.seq (.reg (.one ⟨some s51, none, (.mv (.t s2))⟩
    (.one ⟨some s52, none, (.len false (.t s51))⟩
    (.one ⟨some s53, none, (.bin false .sub (.t s52) (.c (.v (.int .i64 1))))⟩
    (.one ⟨some s12, none, (.mv (.c (.v (.int .i64 0))))⟩
    (.one ⟨some s13, none, (.mv (.t s53))⟩
    .done))))))
  (.seq (.label 0)
  (.seq (.reg (.one ⟨some s55, none, (.mv (.t s0))⟩
    (.one ⟨some s56, none, (.mv (.t s2))⟩
    (.one ⟨some s57, none, (.mv (.t s12))⟩
    (.one ⟨some s58, none, (.iaddr 1 (.t s56) (.t s57))⟩
    (.one ⟨some s59, none, (.load none (.t s58))⟩
    (.one ⟨some s60, none, (.mv (.t s12))⟩
    (.one ⟨some s61, none, (.bin false .gtr (.t s60) (.c (.v (.int .i64 0))))⟩
    (.one ⟨some s62, none, (.mv (.t s61))⟩
    (.one ⟨some s63, some (s62, false), (.mv (.t s1))⟩
    (.one ⟨some s64, some (s62, false), (.bin false .and (.t s63) (.c (.v (.int .i64 2))))⟩
    (.one ⟨some s65, some (s62, false), (.bin false .eql (.t s64) (.c (.v (.int .i64 0))))⟩
    (.one ⟨some s66, none, (.pick (.t s62) (.c (.v (.bool true))) (.t s65))⟩
    (.one ⟨some s67, none, (.mv (.t s12))⟩
    (.one ⟨some s68, none, (.mv (.t s13))⟩
    (.one ⟨some s69, none, (.bin false .lss (.t s67) (.t s68))⟩
    (.one ⟨some s70, none, (.mv (.t s69))⟩
    (.one ⟨some s71, some (s70, false), (.mv (.t s1))⟩
    (.one ⟨some s72, some (s70, false), (.bin false .and (.t s71) (.c (.v (.int .i64 1))))⟩
    (.one ⟨some s73, some (s70, false), (.bin false .eql (.t s72) (.c (.v (.int .i64 0))))⟩
    (.one ⟨some s74, none, (.pick (.t s70) (.c (.v (.bool true))) (.t s73))⟩
    (.one ⟨some s75, none, (.call 56 [(.t s55), (.t s59), (.t s66), (.t s74)])⟩
    (.one ⟨some s54, none, (.mv (.t s75))⟩
    (.one ⟨some s76, none, (.ext (.t s54) 0)⟩
    (.one ⟨some s77, none, (.ext (.t s54) 1)⟩
    (.one ⟨some s14, none, (.mv (.t s76))⟩
    (.one ⟨some s15, none, (.mv (.t s77))⟩
    .done)))))))))))))))))))))))))))
  (.seq (.seq (.reg (.one ⟨some s78, none, (.mv (.t s15))⟩
    .done))
  (.cond (.t s78) (.reg (.one ⟨some s79, none, (.mv (.t s11))⟩
    (.one ⟨some s80, none, (.mv (.t s14))⟩
    (.one ⟨some s81, none, (.row 1 [(.t s80)])⟩
    (.one ⟨some s82, none, (.app 1 24 (.t s79) (.t s81))⟩
    (.one ⟨some s11, none, (.mv (.t s82))⟩
    .done)))))) .skip))
  (.seq (.seq (.reg (.one ⟨some s83, none, (.mv (.t s12))⟩
    (.one ⟨some s84, none, (.mv (.t s13))⟩
    (.one ⟨some s85, none, (.bin false .lss (.t s83) (.t s84))⟩
    .done))))
  (.cond (.t s85) (.seq (.reg (.one ⟨some s86, none, (.mv (.t s12))⟩
    (.one ⟨some s87, none, (.bin false .add (.t s86) (.c (.v (.int .i64 1))))⟩
    (.one ⟨some s12, none, (.mv (.t s87))⟩
    .done))))
  (.goto 0)) .skip))
  (.seq (.reg (.one ⟨some s88, none, (.mv (.t s11))⟩
    (.one ⟨some s8, none, (.mv (.t s88))⟩
    (.one ⟨some s9, none, (.mv (.c (.v (.int .i64 0))))⟩
    .done))))
  .ret))))))))))))⟩
theorem ok15 : compF Try.prog c15 Try.f15 = some ir15 := by kernel_rfl
theorem k_glue_Glue_Put {args : List AVal} {σ : AHeap} {Q : AVal → AHeap → Prop} (hl : Nat.ble args.length 89 = true) (h : argsK (Env.full 9) 0 args fun env => evC Try.prog c15 ir15.body env σ (retQ ir15 Q)) : ACalls Try.prog 15 args σ Q :=
  acalls_of Try.func15 ok15 rfl (Nat.le_of_ble_eq_true hl) h
/- glue.Glue).Held -/
def c16 : Cfg := ⟨qs, [], 10, []⟩
def ir16 : IFun := ⟨1, [.tmp s2],
  (.seq (.reg (.one ⟨some s2, none, (.mv (.c (.v (.int .i64 0))))⟩
    .done))
  (.seq (.seq (.reg (.one ⟨some s3, none, (.mv (.t s0))⟩
    (.one ⟨some s4, none, (.eqNil 1 false (.t s3))⟩
    .done)))
  (.cond (.t s4) (.seq (.reg (.one ⟨some s2, none, (.mv (.c (.v (.int .i64 0))))⟩
    .done))
  .ret) .skip))
  (.seq (.reg (.one ⟨some s5, none, (.mv (.t s0))⟩
    (.one ⟨some s6, none, (.nilchk (.t s5))⟩
    (.one ⟨some s7, none, (.faddr 1 (.t s6))⟩
    (.one ⟨some s8, none, (.load none (.t s7))⟩
    (.one ⟨some s9, none, (.len false (.t s8))⟩
    (.one ⟨some s2, none, (.mv (.t s9))⟩
    .done)))))))
  .ret)))⟩
theorem ok16 : compF Try.prog c16 Try.f16 = some ir16 := by kernel_rfl
theorem k_glue_Glue_Held {args : List AVal} {σ : AHeap} {Q : AVal → AHeap → Prop} (hl : Nat.ble args.length 10 = true) (h : argsK (Env.full 9) 0 args fun env => evC Try.prog c16 ir16.body env σ (retQ ir16 Q)) : ACalls Try.prog 16 args σ Q :=
  acalls_of Try.func16 ok16 rfl (Nat.le_of_ble_eq_true hl) h
/- glue.Glue).Lost -/
def c17 : Cfg := ⟨qs, [], 9, []⟩
def ir17 : IFun := ⟨1, [.tmp s2],
  (.seq (.reg (.one ⟨some s2, none, (.mv (.c (.v (.int .i64 0))))⟩
    .done))
  (.seq (.seq (.reg (.one ⟨some s3, none, (.mv (.t s0))⟩
    (.one ⟨some s4, none, (.eqNil 1 false (.t s3))⟩
    .done)))
  (.cond (.t s4) (.seq (.reg (.one ⟨some s2, none, (.mv (.c (.v (.int .i64 0))))⟩
    .done))
  .ret) .skip))
  (.seq (.reg (.one ⟨some s5, none, (.mv (.t s0))⟩
    (.one ⟨some s6, none, (.nilchk (.t s5))⟩
    (.one ⟨some s7, none, (.faddr 3 (.t s6))⟩
    (.one ⟨some s8, none, (.load none (.t s7))⟩
    (.one ⟨some s2, none, (.mv (.t s8))⟩
    .done))))))
  .ret)))⟩
theorem ok17 : compF Try.prog c17 Try.f17 = some ir17 := by kernel_rfl
theorem k_glue_Glue_Lost {args : List AVal} {σ : AHeap} {Q : AVal → AHeap → Prop} (hl : Nat.ble args.length 9 = true) (h : argsK (Env.full 9) 0 args fun env => evC Try.prog c17 ir17.body env σ (retQ ir17 Q)) : ACalls Try.prog 17 args σ Q :=
  acalls_of Try.func17 ok17 rfl (Nat.le_of_ble_eq_true hl) h
/- glue.Glue).Put$1 -/
def c53 : Cfg := ⟨qs, [], 6, []⟩
def ir53 : IFun := ⟨1, [.tmp s2],
  (.seq (.reg (.one ⟨some s2, none, (.mv (.c (.v (.bool false))))⟩
    .done))
  (.seq (.reg (.one ⟨some s3, none, (.mv (.t s0))⟩
    (.one ⟨some s4, none, (.len false (.t s3))⟩
    (.one ⟨some s5, none, (.bin false .eql (.t s4) (.c (.v (.int .i64 0))))⟩
    (.one ⟨some s2, none, (.mv (.t s5))⟩
    .done)))))
  .ret))⟩
theorem ok53 : compF Try.prog c53 Try.f53 = some ir53 := by kernel_rfl
theorem k_glue_Glue_Put_1 {args : List AVal} {σ : AHeap} {Q : AVal → AHeap → Prop} (hl : Nat.ble args.length 6 = true) (h : argsK (Env.full 9) 0 args fun env => evC Try.prog c53 ir53.body env σ (retQ ir53 Q)) : ACalls Try.prog 53 args σ Q :=
  acalls_of Try.func53 ok53 rfl (Nat.le_of_ble_eq_true hl) h
/- glue.Glue).lose -/
def c55 : Cfg := ⟨qs, [], 15, []⟩
def ir55 : IFun := ⟨1, [],
  (.seq (.seq (.reg (.one ⟨some s2, none, (.mv (.t s0))⟩
    (.one ⟨some s3, none, (.nilchk (.t s2))⟩
    (.one ⟨some s4, none, (.faddr 2 (.t s3))⟩
    (.one ⟨some s5, none, (.load none (.t s4))⟩
    .done)))))
  (.cond (.t s5) (.reg (.one ⟨some s6, none, (.mv (.t s0))⟩
    (.one ⟨some s7, none, (.nilchk (.t s6))⟩
    (.one ⟨some s8, none, (.faddr 3 (.t s7))⟩
    (.one ⟨some s9, none, (.load none (.t s8))⟩
    (.one ⟨some s10, none, (.bin false .add (.t s9) (.c (.v (.int .i64 1))))⟩
    (.one ⟨some s11, none, (.nilchk (.t s6))⟩
    (.one ⟨some s12, none, (.faddr 3 (.t s11))⟩
    (.one ⟨none, none, (.store 1 (.t s12) (.t s10))⟩
    .done))))))))) .skip))
  (.reg (.one ⟨some s13, none, (.mv (.t s0))⟩
    (.one ⟨some s14, none, (.call 73 [(.t s13)])⟩
    .done))))⟩
theorem ok55 : compF Try.prog c55 Try.f55 = some ir55 := by kernel_rfl
theorem k_glue_Glue_lose {args : List AVal} {σ : AHeap} {Q : AVal → AHeap → Prop} (hl : Nat.ble args.length 15 = true) (h : argsK (Env.full 9) 0 args fun env => evC Try.prog c55 ir55.body env σ (retQ ir55 Q)) : ACalls Try.prog 55 args σ Q :=
  acalls_of Try.func55 ok55 rfl (Nat.le_of_ble_eq_true hl) h
/- glue.Glue).field -/
def c56 : Cfg := ⟨qs, [], 81, []⟩
def ir56 : IFun := ⟨4, [.tmp s8, .tmp s9],
  (.seq (.reg (.one ⟨some s8, none, (.mv (.c (.slice 1 [] .full)))⟩
    (.one ⟨some s9, none, (.mv (.c (.v (.bool false))))⟩
    .done)))
  (.seq (.block 0 (.seq (.reg (.one ⟨some s12, none, (.mv (.t s2))⟩
    (.one ⟨some s11, none, (.mv (.t s12))⟩
    .done)))
  (.cond (.t s11) (.seq (.reg (.one ⟨some s13, none, (.mv (.t s0))⟩
    (.one ⟨some s14, none, (.call 55 [(.t s13)])⟩
    .done)))
  (.reg (.one ⟨some s15, none, (.mv (.t s0))⟩
    (.one ⟨some s16, none, (.mv (.t s0))⟩
    (.one ⟨some s17, none, (.mv (.t s1))⟩
    (.one ⟨some s18, none, (.callq 63 [(.t s17)])⟩
    (.one ⟨some s19, none, (.nilchk (.t s15))⟩
    (.one ⟨some s20, none, (.faddr 1 (.t s19))⟩
    (.one ⟨none, none, (.store 1 (.t s20) (.t s18))⟩
    (.one ⟨some s21, none, (.nilchk (.t s16))⟩
    (.one ⟨some s22, none, (.faddr 2 (.t s21))⟩
    (.one ⟨none, none, (.store 1 (.t s22) (.c (.v (.bool true))))⟩
    .done)))))))))))) (.seq (.reg (.one ⟨some s24, none, (.mv (.t s0))⟩
    (.one ⟨some s25, none, (.nilchk (.t s24))⟩
    (.one ⟨some s26, none, (.faddr 2 (.t s25))⟩
    (.one ⟨some s27, none, (.load none (.t s26))⟩
    (.one ⟨some s23, none, (.mv (.t s27))⟩
    .done))))))
  (.cond (.t s23) (.reg (.one ⟨some s28, none, (.mv (.t s0))⟩
    (.one ⟨some s29, none, (.mv (.t s0))⟩
    (.one ⟨some s30, none, (.nilchk (.t s29))⟩
    (.one ⟨some s31, none, (.faddr 1 (.t s30))⟩
    (.one ⟨some s32, none, (.load none (.t s31))⟩
    (.one ⟨some s33, none, (.mv (.t s0))⟩
    (.one ⟨some s34, none, (.nilchk (.t s33))⟩
    (.one ⟨some s35, none, (.faddr 1 (.t s34))⟩
    (.one ⟨some s36, none, (.load none (.t s35))⟩
    (.one ⟨some s37, none, (.len false (.t s36))⟩
    (.one ⟨some s38, none, (.mv (.t s0))⟩
    (.one ⟨some s39, none, (.nilchk (.t s38))⟩
    (.one ⟨some s40, none, (.faddr 1 (.t s39))⟩
    (.one ⟨some s41, none, (.load none (.t s40))⟩
    (.one ⟨some s42, none, (.len false (.t s41))⟩
    (.one ⟨some s43, none, (.cut 1 (.t s32) none (some (.t s37)) (some (.t s42)))⟩
    (.one ⟨some s44, none, (.mv (.t s1))⟩
    (.one ⟨some s45, none, (.app 1 1 (.t s43) (.t s44))⟩
    (.one ⟨some s46, none, (.nilchk (.t s28))⟩
    (.one ⟨some s47, none, (.faddr 1 (.t s46))⟩
    (.one ⟨none, none, (.store 1 (.t s47) (.t s45))⟩
    .done)))))))))))))))))))))) (.seq (.reg (.one ⟨some s49, none, (.mv (.t s3))⟩
    (.one ⟨some s48, none, (.mv (.t s49))⟩
    .done)))
  (.cond (.t s48) (.reg (.one ⟨some s50, none, (.mv (.t s0))⟩
    (.one ⟨some s51, none, (.nilchk (.t s50))⟩
    (.one ⟨some s52, none, (.faddr 3 (.t s51))⟩
    (.one ⟨some s53, none, (.load none (.t s52))⟩
    (.one ⟨some s54, none, (.bin false .add (.t s53) (.c (.v (.int .i64 1))))⟩
    (.one ⟨some s55, none, (.nilchk (.t s50))⟩
    (.one ⟨some s56, none, (.faddr 3 (.t s55))⟩
    (.one ⟨none, none, (.store 1 (.t s56) (.t s54))⟩
    .done))))))))) .skip)))))))
  (.seq (.seq (.reg (.one ⟨some s57, none, (.mv (.t s0))⟩
    (.one ⟨some s58, none, (.nilchk (.t s57))⟩
    (.one ⟨some s59, none, (.faddr 1 (.t s58))⟩
    (.one ⟨some s60, none, (.load none (.t s59))⟩
    (.one ⟨some s61, none, (.len false (.t s60))⟩
    (.one ⟨some s62, none, (.bin false .gtr (.t s61) (.c (.v (.int .i64 1000))))⟩
    .done)))))))
  (.cond (.t s62) (.reg (.one ⟨some s63, none, (.mv (.t s0))⟩
    (.one ⟨some s64, none, (.call 55 [(.t s63)])⟩
    .done))) .skip))
  (.seq (.seq (.reg (.one ⟨some s65, none, (.mv (.t s3))⟩
    (.one ⟨some s66, none, (.not (.t s65))⟩
    (.one ⟨some s67, none, (.mv (.t s66))⟩
    (.one ⟨some s68, some (s67, false), (.mv (.t s0))⟩
    (.one ⟨some s69, some (s67, false), (.nilchk (.t s68))⟩
    (.one ⟨some s70, some (s67, false), (.faddr 2 (.t s69))⟩
    (.one ⟨some s71, some (s67, false), (.load none (.t s70))⟩
    (.one ⟨some s72, some (s67, false), (.not (.t s71))⟩
    (.one ⟨some s73, none, (.pick (.t s67) (.c (.v (.bool true))) (.t s72))⟩
    .done))))))))))
  (.cond (.t s73) (.seq (.reg (.one ⟨some s8, none, (.mv (.c (.slice 1 [] .full)))⟩
    (.one ⟨some s9, none, (.mv (.c (.v (.bool false))))⟩
    .done)))
  .ret) .skip))
  (.seq (.reg (.one ⟨some s74, none, (.mv (.t s0))⟩
    (.one ⟨some s75, none, (.nilchk (.t s74))⟩
    (.one ⟨some s76, none, (.faddr 1 (.t s75))⟩
    (.one ⟨some s77, none, (.load none (.t s76))⟩
    (.one ⟨some s10, none, (.mv (.t s77))⟩
    .done))))))
  (.seq (.reg (.one ⟨some s78, none, (.mv (.t s0))⟩
    (.one ⟨some s79, none, (.call 73 [(.t s78)])⟩
    .done)))
  (.seq (.reg (.one ⟨some s80, none, (.mv (.t s10))⟩
    (.one ⟨some s8, none, (.mv (.t s80))⟩
    (.one ⟨some s9, none, (.mv (.c (.v (.bool true))))⟩
    .done))))
  .ret)))))))⟩
theorem ok56 : compF Try.prog c56 Try.f56 = some ir56 := by kernel_rfl
theorem k_glue_Glue_field {args : List AVal} {σ : AHeap} {Q : AVal → AHeap → Prop} (hl : Nat.ble args.length 81 = true) (h : argsK (Env.full 9) 0 args fun env => evC Try.prog c56 ir56.body env σ (retQ ir56 Q)) : ACalls Try.prog 56 args σ Q :=
  acalls_of Try.func56 ok56 rfl (Nat.le_of_ble_eq_true hl) h
/- glue.Glue).Drop -/
def c73 : Cfg := ⟨qs, [], 10, []⟩
def ir73 : IFun := ⟨1, [],
  (.seq (.reg (.one ⟨some s2, none, (.mv (.t s0))⟩
    (.one ⟨some s3, none, (.eqNil 1 true (.t s2))⟩
    .done)))
  (.cond (.t s3) (.reg (.one ⟨some s4, none, (.mv (.t s0))⟩
    (.one ⟨some s5, none, (.mv (.t s0))⟩
    (.one ⟨some s6, none, (.nilchk (.t s4))⟩
    (.one ⟨some s7, none, (.faddr 1 (.t s6))⟩
    (.one ⟨none, none, (.store 1 (.t s7) (.c (.slice 1 [] .full)))⟩
    (.one ⟨some s8, none, (.nilchk (.t s5))⟩
    (.one ⟨some s9, none, (.faddr 2 (.t s8))⟩
    (.one ⟨none, none, (.store 1 (.t s9) (.c (.v (.bool false))))⟩
    .done))))))))) .skip))⟩
theorem ok73 : compF Try.prog c73 Try.f73 = some ir73 := by kernel_rfl
theorem k_glue_Glue_Drop {args : List AVal} {σ : AHeap} {Q : AVal → AHeap → Prop} (hl : Nat.ble args.length 10 = true) (h : argsK (Env.full 9) 0 args fun env => evC Try.prog c73 ir73.body env σ (retQ ir73 Q)) : ACalls Try.prog 73 args σ Q :=
  acalls_of Try.func73 ok73 rfl (Nat.le_of_ble_eq_true hl) h
end Go.Proofs.Ytiohpnkfcaahbaa
/-
  What a glue does.
-/
namespace Go.Proofs.Ytiohpnkfcaahbaa
set_option linter.unusedVariables false
set_option linter.unusedSimpArgs false
open Go Go.Am

/-- What a glue holds: a text's beginning, if one is held; how many texts were lost. -/
abbrev GS := Option (List UInt8) × Nat
def glCells (g : GS) (tk : Tok) : List AVal := [boolv true, sl tk (g.1.getD []), boolv g.1.isSome, i64v g.2]
def Gl (σ : AHeap) (id : Nat) (g : GS) (σb : AHeap) : Prop := σb id = none ∧ ∃ tk, σ = upd σb id (.cells (glCells g tk))
theorem Gl.at {σ : AHeap} {id : Nat} {g : GS} {tk : Tok} (h : σ id = some (.cells (glCells g tk))) : Gl σ id g (del σ id) := by
  refine ⟨del_same _ _, tk, ?_⟩
  funext j
  by_cases e : j = id
  · subst e; rw [upd_same]; exact h
  · rw [upd_ne _ _ e, del_ne _ e]
theorem gl_of {σ σb : AHeap} {id : Nat} {g : GS} {tk : Tok} (h : σ id = some (.cells (glCells g tk))) (h1 : σb id = none) (hs : Sub σ σb) : ∃ σ', Sub σ σ' ∧ Gl σ' id g σb := by
  refine ⟨upd σb id (.cells (glCells g tk)), fun j o hj => ?_, h1, tk, rfl⟩
  by_cases e : j = id
  · subst e; rw [upd_same] at hj; rw [← hj]; exact h
  · rw [upd_ne _ _ e] at hj; exact hs _ _ hj
theorem Gl.sub {σ σb : AHeap} {id : Nat} {g : GS} (h : Gl σ id g σb) : Sub σ σb := by
  obtain ⟨h1, tk, rfl⟩ := h
  exact Sub.upd_fresh _ h1
theorem Gl.ext {σ σb : AHeap} {id : Nat} {g : GS} (h : Gl σ id g σb) : Ext σb σ := by
  obtain ⟨h1, tk, rfl⟩ := h
  exact Ext.upd_fresh _ h1
theorem Gl.cell {σ σb : AHeap} {id : Nat} {g : GS} (h : Gl σ id g σb) : ∃ tk, σ id = some (.cells (glCells g tk)) := by
  obtain ⟨h1, tk, rfl⟩ := h
  exact ⟨tk, upd_same _ _ _⟩

theorem gNew (σ : AHeap) : ACalls Try.prog i_glue_New [] σ fun v σ' => ∃ id, v = .ptr id 0 ∧ Gl σ' id (none, 0) σ := by
  refine k_glue_New rfl ?_
  ((conv => whnf); (repeat ((first | with_reducible refine abr_true rfl ?_ | with_reducible refine abr_false rfl ?_ | with_reducible refine abr_yes rfl ?_ | refine abr_yes (by decide) ?_ | refine abr_no (by decide) ?_ | with_reducible refine abr_same_ne ?_); (conv => whnf))))
  refine anew rfl fun id hid => ?_
  ((conv => whnf); (repeat ((first | with_reducible refine abr_true rfl ?_ | with_reducible refine abr_false rfl ?_ | with_reducible refine abr_yes rfl ?_ | refine abr_yes (by decide) ?_ | refine abr_no (by decide) ?_ | with_reducible refine abr_same_ne ?_); (conv => whnf))))
  exact aret_same ⟨id, rfl, hid, .full, rfl⟩
theorem gHeld (id : Nat) (g : GS) (σ σb : AHeap) (h : Gl σ id g σb) : ACalls Try.prog i_glue_Glue_Held [.ptr id 0] σ fun v σ' => v = i64v (g.1.getD []).length ∧ σ' = σ := by
  obtain ⟨tk, hc⟩ := h.cell
  refine k_glue_Glue_Held rfl ?_
  ((conv => whnf); (repeat ((first | with_reducible refine abr_true rfl ?_ | with_reducible refine abr_false rfl ?_ | with_reducible refine abr_yes rfl ?_ | refine abr_yes (by decide) ?_ | refine abr_no (by decide) ?_ | with_reducible refine abr_same_ne ?_); (conv => whnf))))
  refine aload hc rfl ?_
  ((conv => whnf); (repeat ((first | with_reducible refine abr_true rfl ?_ | with_reducible refine abr_false rfl ?_ | with_reducible refine abr_yes rfl ?_ | refine abr_yes (by decide) ?_ | refine abr_no (by decide) ?_ | with_reducible refine abr_same_ne ?_); (conv => whnf))))
  exact aret_same ⟨by rw [List.length_map], rfl⟩
theorem gLost (id : Nat) (g : GS) (σ σb : AHeap) (h : Gl σ id g σb) : ACalls Try.prog i_glue_Glue_Lost [.ptr id 0] σ fun v σ' => v = i64v g.2 ∧ σ' = σ := by
  obtain ⟨tk, hc⟩ := h.cell
  refine k_glue_Glue_Lost rfl ?_
  ((conv => whnf); (repeat ((first | with_reducible refine abr_true rfl ?_ | with_reducible refine abr_false rfl ?_ | with_reducible refine abr_yes rfl ?_ | refine abr_yes (by decide) ?_ | refine abr_no (by decide) ?_ | with_reducible refine abr_same_ne ?_); (conv => whnf))))
  refine aload hc rfl ?_
  ((conv => whnf); (repeat ((first | with_reducible refine abr_true rfl ?_ | with_reducible refine abr_false rfl ?_ | with_reducible refine abr_yes rfl ?_ | refine abr_yes (by decide) ?_ | refine abr_no (by decide) ?_ | with_reducible refine abr_same_ne ?_); (conv => whnf))))
  exact aret_same ⟨rfl, rfl⟩
theorem gDrop (id : Nat) (g : GS) (σ σb : AHeap) (h : Gl σ id g σb) : ACalls Try.prog i_glue_Glue_Drop [.ptr id 0] σ fun v σ' => Gl σ' id (none, g.2) σb := by
  obtain ⟨h1, tk, rfl⟩ := h
  refine k_glue_Glue_Drop rfl ?_
  ((conv => whnf); (repeat ((first | with_reducible refine abr_true rfl ?_ | with_reducible refine abr_false rfl ?_ | with_reducible refine abr_yes rfl ?_ | refine abr_yes (by decide) ?_ | refine abr_no (by decide) ?_ | with_reducible refine abr_same_ne ?_); (conv => whnf))))
  refine astore (xs := [.slice 1 [] .full]) (l := [boolv true, sl .full [], boolv g.1.isSome, i64v g.2]) (upd_same _ _ _) (Nat.le_of_ble_eq_true rfl) rfl rfl ?_
  rw [upd_upd]
  ((conv => whnf); (repeat ((first | with_reducible refine abr_true rfl ?_ | with_reducible refine abr_false rfl ?_ | with_reducible refine abr_yes rfl ?_ | refine abr_yes (by decide) ?_ | refine abr_no (by decide) ?_ | with_reducible refine abr_same_ne ?_); (conv => whnf))))
  refine astore (xs := [boolv false]) (l := [boolv true, sl .full [], boolv false, i64v g.2]) (upd_same _ _ _) (Nat.le_of_ble_eq_true rfl) rfl rfl ?_
  rw [upd_upd]
  ((conv => whnf); (repeat ((first | with_reducible refine abr_true rfl ?_ | with_reducible refine abr_false rfl ?_ | with_reducible refine abr_yes rfl ?_ | refine abr_yes (by decide) ?_ | refine abr_no (by decide) ?_ | with_reducible refine abr_same_ne ?_); (conv => whnf))))
  exact aret_same ⟨h1, .full, rfl⟩
def loseG (g : GS) : GS := (none, g.2 + g.1.isSome.toNat)
theorem gLose (id : Nat) (g : GS) (σ σb : AHeap) (h : Gl σ id g σb) (hl : g.2 ≤ 1000000000) : ACalls Try.prog i_glue_Glue_lose [.ptr id 0] σ fun v σ' => Gl σ' id (loseG g) σb := by
  have h0 := h
  obtain ⟨h1, tk, rfl⟩ := h
  refine k_glue_Glue_lose rfl ?_
  ((conv => whnf); (repeat ((first | with_reducible refine abr_true rfl ?_ | with_reducible refine abr_false rfl ?_ | with_reducible refine abr_yes rfl ?_ | refine abr_yes (by decide) ?_ | refine abr_no (by decide) ?_ | with_reducible refine abr_same_ne ?_); (conv => whnf))))
  refine aload (upd_same _ _ _) rfl ?_
  ((conv => whnf); (repeat ((first | with_reducible refine abr_true rfl ?_ | with_reducible refine abr_false rfl ?_ | with_reducible refine abr_yes rfl ?_ | refine abr_yes (by decide) ?_ | refine abr_no (by decide) ?_ | with_reducible refine abr_same_ne ?_); (conv => whnf))))
  obtain ⟨o, n⟩ := g
  cases o with
  | none =>
    ((conv => whnf); (repeat ((first | with_reducible refine abr_true rfl ?_ | with_reducible refine abr_false rfl ?_ | with_reducible refine abr_yes rfl ?_ | refine abr_yes (by decide) ?_ | refine abr_no (by decide) ?_ | with_reducible refine abr_same_ne ?_); (conv => whnf))))
    refine acall (gDrop id _ _ _ h0) ?_
    rintro v σ' w
    ((conv => whnf); (repeat ((first | with_reducible refine abr_true rfl ?_ | with_reducible refine abr_false rfl ?_ | with_reducible refine abr_yes rfl ?_ | refine abr_yes (by decide) ?_ | refine abr_no (by decide) ?_ | with_reducible refine abr_same_ne ?_); (conv => whnf))))
    exact aret_same w
  | some x =>
    ((conv => whnf); (repeat ((first | with_reducible refine abr_true rfl ?_ | with_reducible refine abr_false rfl ?_ | with_reducible refine abr_yes rfl ?_ | refine abr_yes (by decide) ?_ | refine abr_no (by decide) ?_ | with_reducible refine abr_same_ne ?_); (conv => whnf))))
    refine aload (upd_same _ _ _) rfl ?_
    ((conv => whnf); (repeat ((first | with_reducible refine abr_true rfl ?_ | with_reducible refine abr_false rfl ?_ | with_reducible refine abr_yes rfl ?_ | refine abr_yes (by decide) ?_ | refine abr_no (by decide) ?_ | with_reducible refine abr_same_ne ?_); (conv => whnf))))
    refine afit_i64 (by dsimp only at hl ⊢; omega) ?_
    ((conv => whnf); (repeat ((first | with_reducible refine abr_true rfl ?_ | with_reducible refine abr_false rfl ?_ | with_reducible refine abr_yes rfl ?_ | refine abr_yes (by decide) ?_ | refine abr_no (by decide) ?_ | with_reducible refine abr_same_ne ?_); (conv => whnf))))
    refine astore (xs := [i64v ((n : Int) + 1)]) (l := glCells (some x, n + 1) tk) (upd_same _ _ _) (Nat.le_of_ble_eq_true rfl) rfl rfl ?_
    rw [upd_upd]
    ((conv => whnf); (repeat ((first | with_reducible refine abr_true rfl ?_ | with_reducible refine abr_false rfl ?_ | with_reducible refine abr_yes rfl ?_ | refine abr_yes (by decide) ?_ | refine abr_no (by decide) ?_ | with_reducible refine abr_same_ne ?_); (conv => whnf))))
    refine acall (gDrop id (some x, n + 1) _ σb ⟨h1, tk, rfl⟩) ?_
    rintro v σ' w
    ((conv => whnf); (repeat ((first | with_reducible refine abr_true rfl ?_ | with_reducible refine abr_false rfl ?_ | with_reducible refine abr_yes rfl ?_ | refine abr_yes (by decide) ?_ | refine abr_no (by decide) ?_ | with_reducible refine abr_same_ne ?_); (conv => whnf))))
    exact aret_same w

/-- A field is taken: the text that it ends, and what is held behind it. -/
def holdG (g : GS) (b : List UInt8) (begins ends : Bool) : GS :=
  if begins = true then (some b, g.2 + g.1.isSome.toNat) else match g.1 with
    | some h => (some (h ++ b), g.2)
    | none => (none, g.2 + ends.toNat)
def cutG (g : GS) : GS := if (g.1.getD []).length > 1000 then loseG g else g
def endG (g : GS) (ends : Bool) : Option (List UInt8) × GS := if ends = true ∧ g.1.isSome = true then (g.1, (none, g.2)) else (none, g)
def fieldG (g : GS) (b : List UInt8) (begins ends : Bool) : Option (List UInt8) × GS := endG (cutG (holdG g b begins ends)) ends
theorem cutG_held (g : GS) : ((cutG g).1.getD []).length ≤ 1000 := by
  unfold cutG loseG
  split
  · simp
  · omega
theorem fieldG_held (g : GS) (b : List UInt8) (begins ends : Bool) : ((fieldG g b begins ends).2.1.getD []).length ≤ 1000 := by
  unfold fieldG endG
  split
  · simp
  · exact cutG_held _
theorem fieldG_lost (g : GS) (b : List UInt8) (begins ends : Bool) : (fieldG g b begins ends).2.2 ≤ g.2 + 2 := by
  have h1 : (holdG g b begins ends).2 ≤ g.2 + 1 := by
    unfold holdG
    split
    · dsimp only; cases g.1.isSome <;> simp
    · split
      · dsimp only; omega
      · dsimp only; cases ends <;> simp
  have h2 : ∀ x : GS, (cutG x).2 ≤ x.2 + 1 := by
    intro x
    unfold cutG loseG
    split
    · dsimp only; cases x.1.isSome <;> simp
    · omega
  have h3 := h2 (holdG g b begins ends)
  unfold fieldG endG
  split
  · dsimp only; omega
  · dsimp only; omega

theorem hold_lost (g : GS) (b : List UInt8) (begins ends : Bool) : (holdG g b begins ends).2 ≤ g.2 + 1 := by
  unfold holdG
  split
  · dsimp only; cases g.1.isSome <;> simp
  · split
    · dsimp only; omega
    · dsimp only; cases ends <;> simp

set_option maxRecDepth 20000 in
theorem gField (id : Nat) (g : GS) (b : List UInt8) (t : Tok) (begins ends : Bool) (σ σb : AHeap) (h : Gl σ id g σb) (hl : g.2 ≤ 100000000) (hh : (g.1.getD []).length ≤ 1000) (hb : b.length ≤ 140737488351232) :
    ACalls Try.prog i_glue_Glue_field [.ptr id 0, sl t b, boolv begins, boolv ends] σ fun v σ' => v = .tup [sl .none ((fieldG g b begins ends).1.getD []), boolv (fieldG g b begins ends).1.isSome] ∧ Gl σ' id (fieldG g b begins ends).2 σb := by
  have h0 := h
  obtain ⟨h1, tk, hσ⟩ := h
  refine k_glue_Glue_field rfl ?_
  obtain ⟨o, n⟩ := g
  dsimp only at hl hh
  have hlen : (List.map byteV (o.getD [])).length = (o.getD []).length := List.length_map ..
  unfold fieldG
  have hsb : Sub σ σb := h0.sub
  have hc0 : σ id = some (.cells (glCells (o, n) tk)) := by rw [hσ]; exact upd_same _ _ _
  rcases Bool.eq_false_or_eq_true begins with hbe | hbe <;> subst hbe
  case' inl =>
    ((conv => whnf); (repeat ((first | with_reducible refine abr_true rfl ?_ | with_reducible refine abr_false rfl ?_ | with_reducible refine abr_yes rfl ?_ | refine abr_yes (by decide) ?_ | refine abr_no (by decide) ?_ | with_reducible refine abr_same_ne ?_); (conv => whnf))))
    refine acall (gLose id _ _ _ h0 (by dsimp only; omega)) ?_
    rintro v σ1 w1
    ((conv => whnf); (repeat ((first | with_reducible refine abr_true rfl ?_ | with_reducible refine abr_false rfl ?_ | with_reducible refine abr_yes rfl ?_ | refine abr_yes (by decide) ?_ | refine abr_no (by decide) ?_ | with_reducible refine abr_same_ne ?_); (conv => whnf))))
    refine acall (Clone b _ _ (by omega)) ?_
    rintro v σ2 ⟨tk2, ho, rfl⟩
    refine ⟨?_, ho.ext⟩
    ((conv => whnf); (repeat ((first | with_reducible refine abr_true rfl ?_ | with_reducible refine abr_false rfl ?_ | with_reducible refine abr_yes rfl ?_ | refine abr_yes (by decide) ?_ | refine abr_no (by decide) ?_ | with_reducible refine abr_same_ne ?_); (conv => whnf))))
    have hs1 := w1.sub
    obtain ⟨tk3, hc3⟩ := w1.cell
    have hc1 := ho.same_of hc3
    refine astore (xs := [sl tk2 b]) (l := [boolv true, sl tk2 b, boolv false, i64v (n + o.isSome.toNat : Nat)]) hc1 (Nat.le_of_ble_eq_true rfl) rfl rfl ?_
    ((conv => whnf); (repeat ((first | with_reducible refine abr_true rfl ?_ | with_reducible refine abr_false rfl ?_ | with_reducible refine abr_yes rfl ?_ | refine abr_yes (by decide) ?_ | refine abr_no (by decide) ?_ | with_reducible refine abr_same_ne ?_); (conv => whnf))))
    refine astore (xs := [boolv true]) (l := glCells (some b, n + o.isSome.toNat) tk2) (upd_same _ _ _) (Nat.le_of_ble_eq_true rfl) rfl rfl ?_
    rw [upd_upd]
    have hs2 : Sub σ2 σb := ho.sub.trans hs1
    obtain ⟨σ3, hσ3⟩ : ∃ σ3, σ3 = upd σ2 id (.cells (glCells (some b, n + o.isSome.toNat) tk2)) := ⟨_, rfl⟩
    rw [← hσ3]
    have hc3 : ∃ tk3, σ3 id = some (.cells (glCells (holdG (o, n) b true ends) tk3)) := ⟨tk2, by rw [hσ3]; exact upd_same _ _ _⟩
    obtain ⟨g1, hg1⟩ : ∃ g1, g1 = holdG (o, n) b true ends := ⟨_, rfl⟩
    have hg2 : g1.2 ≤ n + 1 := by rw [hg1]; exact hold_lost _ _ _ _
    rw [← hg1] at hc3 ⊢
    clear hg1
    have hs3 : Sub σ3 σb := by
      rw [hσ3]
      intro j x hj
      have hne : j ≠ id := fun e => by subst e; rw [h1] at hj; cases hj
      rw [upd_ne _ _ hne]; exact hs2 _ _ hj
    ((conv => whnf); (repeat ((first | with_reducible refine abr_true rfl ?_ | with_reducible refine abr_false rfl ?_ | with_reducible refine abr_yes rfl ?_ | refine abr_yes (by decide) ?_ | refine abr_no (by decide) ?_ | with_reducible refine abr_same_ne ?_); (conv => whnf))))
    cases ends
  case' inr =>
    ((conv => whnf); (repeat ((first | with_reducible refine abr_true rfl ?_ | with_reducible refine abr_false rfl ?_ | with_reducible refine abr_yes rfl ?_ | refine abr_yes (by decide) ?_ | refine abr_no (by decide) ?_ | with_reducible refine abr_same_ne ?_); (conv => whnf))))
    refine aload hc0 rfl ?_
    cases o
  case' inr.some h =>
    ((conv => whnf); (repeat ((first | with_reducible refine abr_true rfl ?_ | with_reducible refine abr_false rfl ?_ | with_reducible refine abr_yes rfl ?_ | refine abr_yes (by decide) ?_ | refine abr_no (by decide) ?_ | with_reducible refine abr_same_ne ?_); (conv => whnf))))
    refine aload hc0 rfl ?_
    ((conv => whnf); (repeat ((first | with_reducible refine abr_true rfl ?_ | with_reducible refine abr_false rfl ?_ | with_reducible refine abr_yes rfl ?_ | refine abr_yes (by decide) ?_ | refine abr_no (by decide) ?_ | with_reducible refine abr_same_ne ?_); (conv => whnf))))
    refine aload hc0 rfl ?_
    ((conv => whnf); (repeat ((first | with_reducible refine abr_true rfl ?_ | with_reducible refine abr_false rfl ?_ | with_reducible refine abr_yes rfl ?_ | refine abr_yes (by decide) ?_ | refine abr_no (by decide) ?_ | with_reducible refine abr_same_ne ?_); (conv => whnf))))
    refine aload hc0 rfl ?_
    ((conv => whnf); (repeat ((first | with_reducible refine abr_true rfl ?_ | with_reducible refine abr_false rfl ?_ | with_reducible refine abr_yes rfl ?_ | refine abr_yes (by decide) ?_ | refine abr_no (by decide) ?_ | with_reducible refine abr_same_ne ?_); (conv => whnf))))
    rw [List.length_map]
    refine acut (by omega) (by omega) (Int.le_refl _) ?_
    ((conv => whnf); (repeat ((first | with_reducible refine abr_true rfl ?_ | with_reducible refine abr_false rfl ?_ | with_reducible refine abr_yes rfl ?_ | refine abr_yes (by decide) ?_ | refine abr_no (by decide) ?_ | with_reducible refine abr_same_ne ?_); (conv => whnf))))
    refine ⟨rfl, rfl, ?_⟩
    rw [show (0 : Int).toNat = 0 from rfl, List.drop_zero, Int.toNat_natCast, List.take_of_length_le (by rw [List.length_map]; exact Nat.le_refl _)]
    ((conv => whnf); (repeat ((first | with_reducible refine abr_true rfl ?_ | with_reducible refine abr_false rfl ?_ | with_reducible refine abr_yes rfl ?_ | refine abr_yes (by decide) ?_ | refine abr_no (by decide) ?_ | with_reducible refine abr_same_ne ?_); (conv => whnf))))
    refine aapp_full (by rw [List.length_map, List.length_map]; have : h.length ≤ 1000 := hh; show (h.length + b.length) * 1 ≤ _; omega) fun t2 ht2 => ?_
    rw [← List.map_append]
    ((conv => whnf); (repeat ((first | with_reducible refine abr_true rfl ?_ | with_reducible refine abr_false rfl ?_ | with_reducible refine abr_yes rfl ?_ | refine abr_yes (by decide) ?_ | refine abr_no (by decide) ?_ | with_reducible refine abr_same_ne ?_); (conv => whnf))))
    have hne2 : id ≠ t2 := fun e => by subst e; rw [hc0] at ht2; cases ht2
    refine astore (xs := [sl (.tip t2) (h ++ b)]) (l := glCells (some (h ++ b), n) (.tip t2)) (by rw [upd_ne _ _ hne2]; exact hc0) (Nat.le_of_ble_eq_true rfl) rfl rfl ?_
    obtain ⟨σ3, hσ3⟩ : ∃ σ3, σ3 = upd (upd σ t2 .tip) id (.cells (glCells (some (h ++ b), n) (.tip t2))) := ⟨_, rfl⟩
    rw [← hσ3]
    have hc3 : ∃ tk3, σ3 id = some (.cells (glCells (holdG (some h, n) b false ends) tk3)) := ⟨.tip t2, by rw [hσ3]; exact upd_same _ _ _⟩
    obtain ⟨g1, hg1⟩ : ∃ g1, g1 = holdG (some h, n) b false ends := ⟨_, rfl⟩
    have hg2 : g1.2 ≤ n + 1 := by rw [hg1]; exact hold_lost _ _ _ _
    rw [← hg1] at hc3 ⊢
    clear hg1
    have hs3 : Sub σ3 σb := by
      rw [hσ3]
      intro j x hj
      have hne : j ≠ id := fun e => by subst e; rw [h1] at hj; cases hj
      rw [upd_ne _ _ hne]; exact ((Sub.upd_fresh _ ht2).trans hsb) _ _ hj
    ((conv => whnf); (repeat ((first | with_reducible refine abr_true rfl ?_ | with_reducible refine abr_false rfl ?_ | with_reducible refine abr_yes rfl ?_ | refine abr_yes (by decide) ?_ | refine abr_no (by decide) ?_ | with_reducible refine abr_same_ne ?_); (conv => whnf))))
    cases ends
  case' inr.none =>
    ((conv => whnf); (repeat ((first | with_reducible refine abr_true rfl ?_ | with_reducible refine abr_false rfl ?_ | with_reducible refine abr_yes rfl ?_ | refine abr_yes (by decide) ?_ | refine abr_no (by decide) ?_ | with_reducible refine abr_same_ne ?_); (conv => whnf))))
    cases ends
  case' inr.none.false =>
    ((conv => whnf); (repeat ((first | with_reducible refine abr_true rfl ?_ | with_reducible refine abr_false rfl ?_ | with_reducible refine abr_yes rfl ?_ | refine abr_yes (by decide) ?_ | refine abr_no (by decide) ?_ | with_reducible refine abr_same_ne ?_); (conv => whnf))))
    obtain ⟨σ3, hσ3⟩ : ∃ σ3, σ3 = σ := ⟨_, rfl⟩
    rw [← hσ3]
    have hc3 : ∃ tk3, σ3 id = some (.cells (glCells (holdG (none, n) b false false) tk3)) := ⟨tk, by rw [hσ3]; exact hc0⟩
    obtain ⟨g1, hg1⟩ : ∃ g1, g1 = holdG (none, n) b false false := ⟨_, rfl⟩
    have hg2 : g1.2 ≤ n + 1 := by rw [hg1]; exact hold_lost _ _ _ _
    rw [← hg1] at hc3 ⊢
    clear hg1
    have hs3 : Sub σ3 σb := by rw [hσ3]; exact hsb
  case' inr.none.true =>
    ((conv => whnf); (repeat ((first | with_reducible refine abr_true rfl ?_ | with_reducible refine abr_false rfl ?_ | with_reducible refine abr_yes rfl ?_ | refine abr_yes (by decide) ?_ | refine abr_no (by decide) ?_ | with_reducible refine abr_same_ne ?_); (conv => whnf))))
    refine aload hc0 rfl ?_
    ((conv => whnf); (repeat ((first | with_reducible refine abr_true rfl ?_ | with_reducible refine abr_false rfl ?_ | with_reducible refine abr_yes rfl ?_ | refine abr_yes (by decide) ?_ | refine abr_no (by decide) ?_ | with_reducible refine abr_same_ne ?_); (conv => whnf))))
    refine afit_i64 (by omega) ?_
    ((conv => whnf); (repeat ((first | with_reducible refine abr_true rfl ?_ | with_reducible refine abr_false rfl ?_ | with_reducible refine abr_yes rfl ?_ | refine abr_yes (by decide) ?_ | refine abr_no (by decide) ?_ | with_reducible refine abr_same_ne ?_); (conv => whnf))))
    refine astore (xs := [i64v ((n : Int) + 1)]) (l := glCells (none, n + 1) tk) hc0 (Nat.le_of_ble_eq_true rfl) rfl rfl ?_
    obtain ⟨σ3, hσ3⟩ : ∃ σ3, σ3 = upd σ id (.cells (glCells (none, n + 1) tk)) := ⟨_, rfl⟩
    rw [← hσ3]
    have hc3 : ∃ tk3, σ3 id = some (.cells (glCells (holdG (none, n) b false true) tk3)) := ⟨tk, by rw [hσ3]; exact upd_same _ _ _⟩
    obtain ⟨g1, hg1⟩ : ∃ g1, g1 = holdG (none, n) b false true := ⟨_, rfl⟩
    have hg2 : g1.2 ≤ n + 1 := by rw [hg1]; exact hold_lost _ _ _ _
    rw [← hg1] at hc3 ⊢
    clear hg1
    have hs3 : Sub σ3 σb := by
      rw [hσ3]
      intro j x hj
      have hne : j ≠ id := fun e => by subst e; rw [h1] at hj; cases hj
      rw [upd_ne _ _ hne]; exact hsb _ _ hj
    ((conv => whnf); (repeat ((first | with_reducible refine abr_true rfl ?_ | with_reducible refine abr_false rfl ?_ | with_reducible refine abr_yes rfl ?_ | refine abr_yes (by decide) ?_ | refine abr_no (by decide) ?_ | with_reducible refine abr_same_ne ?_); (conv => whnf))))
  all_goals
    obtain ⟨tk3, hc3⟩ := hc3
    refine aload hc3 rfl ?_
    ((conv => whnf); (repeat ((first | with_reducible refine abr_true rfl ?_ | with_reducible refine abr_false rfl ?_ | with_reducible refine abr_yes rfl ?_ | refine abr_yes (by decide) ?_ | refine abr_no (by decide) ?_ | with_reducible refine abr_same_ne ?_); (conv => whnf))))
    rw [List.length_map]
    by_cases hlong : (g1.1.getD []).length > 1000
    · refine abr_yes (by omega) ?_
      ((conv => whnf); (repeat ((first | with_reducible refine abr_true rfl ?_ | with_reducible refine abr_false rfl ?_ | with_reducible refine abr_yes rfl ?_ | refine abr_yes (by decide) ?_ | refine abr_no (by decide) ?_ | with_reducible refine abr_same_ne ?_); (conv => whnf))))
      refine acall (gLose id g1 _ _ (Gl.at hc3) (by omega)) ?_
      rintro _ σ4 w4
      ((conv => whnf); (repeat ((first | with_reducible refine abr_true rfl ?_ | with_reducible refine abr_false rfl ?_ | with_reducible refine abr_yes rfl ?_ | refine abr_yes (by decide) ?_ | refine abr_no (by decide) ?_ | with_reducible refine abr_same_ne ?_); (conv => whnf))))
      obtain ⟨tk4, hc4⟩ := w4.cell
      have hs4 := w4.sub.trans (sub_del hs3 h1)
      rw [show cutG g1 = loseG g1 from if_pos hlong]
      obtain ⟨σ', k1, k2⟩ := gl_of hc4 h1 hs4
      first
        | refine aload hc4 rfl ?_
          ((conv => whnf); (repeat ((first | with_reducible refine abr_true rfl ?_ | with_reducible refine abr_false rfl ?_ | with_reducible refine abr_yes rfl ?_ | refine abr_yes (by decide) ?_ | refine abr_no (by decide) ?_ | with_reducible refine abr_same_ne ?_); (conv => whnf))))
          exact aret VLe.tup_sl k1 ⟨rfl, k2⟩
        | exact aret VLe.tup_sl k1 ⟨rfl, k2⟩
    · refine abr_no (by omega) ?_
      ((conv => whnf); (repeat ((first | with_reducible refine abr_true rfl ?_ | with_reducible refine abr_false rfl ?_ | with_reducible refine abr_yes rfl ?_ | refine abr_yes (by decide) ?_ | refine abr_no (by decide) ?_ | with_reducible refine abr_same_ne ?_); (conv => whnf))))
      rw [show cutG g1 = g1 from if_neg hlong]
      obtain ⟨o1, n1⟩ := g1
      first
        | refine aload hc3 rfl ?_
          ((conv => whnf); (repeat ((first | with_reducible refine abr_true rfl ?_ | with_reducible refine abr_false rfl ?_ | with_reducible refine abr_yes rfl ?_ | refine abr_yes (by decide) ?_ | refine abr_no (by decide) ?_ | with_reducible refine abr_same_ne ?_); (conv => whnf))))
          cases o1 with
          | none =>
            ((conv => whnf); (repeat ((first | with_reducible refine abr_true rfl ?_ | with_reducible refine abr_false rfl ?_ | with_reducible refine abr_yes rfl ?_ | refine abr_yes (by decide) ?_ | refine abr_no (by decide) ?_ | with_reducible refine abr_same_ne ?_); (conv => whnf))))
            obtain ⟨σ', k1, k2⟩ := gl_of hc3 h1 hs3
            exact aret VLe.tup_sl k1 ⟨rfl, k2⟩
          | some x =>
            ((conv => whnf); (repeat ((first | with_reducible refine abr_true rfl ?_ | with_reducible refine abr_false rfl ?_ | with_reducible refine abr_yes rfl ?_ | refine abr_yes (by decide) ?_ | refine abr_no (by decide) ?_ | with_reducible refine abr_same_ne ?_); (conv => whnf))))
            refine aload hc3 rfl ?_
            ((conv => whnf); (repeat ((first | with_reducible refine abr_true rfl ?_ | with_reducible refine abr_false rfl ?_ | with_reducible refine abr_yes rfl ?_ | refine abr_yes (by decide) ?_ | refine abr_no (by decide) ?_ | with_reducible refine abr_same_ne ?_); (conv => whnf))))
            refine acall (gDrop id _ _ _ (Gl.at hc3)) ?_
            rintro _ σ4 w4
            ((conv => whnf); (repeat ((first | with_reducible refine abr_true rfl ?_ | with_reducible refine abr_false rfl ?_ | with_reducible refine abr_yes rfl ?_ | refine abr_yes (by decide) ?_ | refine abr_no (by decide) ?_ | with_reducible refine abr_same_ne ?_); (conv => whnf))))
            obtain ⟨tk4, hc4⟩ := w4.cell
            have hs4 := w4.sub.trans (sub_del hs3 h1)
            obtain ⟨σ', k1, k2⟩ := gl_of hc4 h1 hs4
            exact aret VLe.tup_sl k1 ⟨rfl, k2⟩
        | obtain ⟨σ', k1, k2⟩ := gl_of hc3 h1 hs3
          exact aret VLe.tup_sl k1 ⟨rfl, k2⟩
end Go.Proofs.Ytiohpnkfcaahbaa
/-
  What a glue does with fields.
-/
namespace Go.Proofs.Ytiohpnkfcaahbaa
set_option linter.unusedVariables false
set_option linter.unusedSimpArgs false
open Go Go.Am

theorem gEmpty (b : List UInt8) (σ : AHeap) : ACalls Try.prog i_glue_Glue_Put_1 [sl .none b] σ fun v σ' => v = boolv (decide (b = [])) ∧ σ' = σ := by
  refine k_glue_Glue_Put_1 rfl ?_
  ((conv => whnf); (repeat ((first | with_reducible refine abr_true rfl ?_ | with_reducible refine abr_false rfl ?_ | with_reducible refine abr_yes rfl ?_ | refine abr_yes (by decide) ?_ | refine abr_no (by decide) ?_ | with_reducible refine abr_same_ne ?_); (conv => whnf))))
  refine aret_same ⟨?_, rfl⟩
  rw [List.length_map]
  exact congrArg boolv (dec_congr ⟨fun h => List.length_eq_zero_iff.1 (by omega), fun h => by subst h; rfl⟩)
/-- Is one of them empty? -/
def hollow (l : List (List UInt8)) : Bool := l.any fun b => decide (b = [])
theorem gIndex (l : List (List UInt8)) (t : Tok) (σ : AHeap) (hl : l.length ≤ 140737488355328) : ACalls Try.prog i_slices_IndexFunc_byte_byte [lists t l, .func i_glue_Glue_Put_1 [] []] σ fun v σ' => (∃ n : Int, v = i64v n ∧ (n ≥ 0 ↔ hollow l = true)) ∧ σ' = σ := by
  refine k_slices_IndexFunc_byte_byte rfl ?_
  ((conv => whnf); (repeat ((first | with_reducible refine abr_true rfl ?_ | with_reducible refine abr_false rfl ?_ | with_reducible refine abr_yes rfl ?_ | refine abr_yes (by decide) ?_ | refine abr_no (by decide) ?_ | with_reducible refine abr_same_ne ?_); (conv => whnf))))
  refine aloop (α := Nat) (fun i => [(s8, i64v i)]) (fun _ => σ) (fun i => i ≤ l.length ∧ hollow (l.take i) = false) (fun i => l.length - i) 0 ⟨Nat.zero_le _, rfl⟩ (Sub.refl _) ?_ ?_
  · ((conv => whnf); (repeat ((first | with_reducible refine abr_true rfl ?_ | with_reducible refine abr_false rfl ?_ | with_reducible refine abr_yes rfl ?_ | refine abr_yes (by decide) ?_ | refine abr_no (by decide) ?_ | with_reducible refine abr_same_ne ?_); (conv => whnf))))
    (repeat' first | with_reducible exact EnvLe.refl _ | (refine EnvLe.node ?_ (by first | exact Or.inl rfl | exact Or.inr (Or.inl rfl) | exact Or.inr (Or.inr ⟨nofun, VLe.slice _ _ _⟩)) ?_))
  rintro i ⟨hi, hw⟩
  by_cases h : i < l.length
  · ((conv => whnf); (repeat ((first | with_reducible refine abr_true rfl ?_ | with_reducible refine abr_false rfl ?_ | with_reducible refine abr_yes rfl ?_ | refine abr_yes (by decide) ?_ | refine abr_no (by decide) ?_ | with_reducible refine abr_same_ne ?_); (conv => whnf))))
    (repeat ((first | refine aload (by (repeat (first | with_reducible exact upd_same _ _ _ | assumption | rw [upd_ne _ _ (by first | assumption | (apply Ne.symm; assumption))]))) rfl ?_ | refine afit_i64 (by omega) ?_ | refine arem_nonneg (by omega) (by omega) ?_ | refine adiv_i64 (by omega) (by omega) ?_ | refine abr_yes (by omega) ?_ | refine abr_no (by omega) ?_ | refine amin ?_ | refine amax ?_ | refine afit_u64 (by omega) ?_ | refine afit_u8 (by omega) ?_ | rw [List.length_map]); ((conv => whnf); (repeat ((first | with_reducible refine abr_true rfl ?_ | with_reducible refine abr_false rfl ?_ | with_reducible refine abr_yes rfl ?_ | refine abr_yes (by decide) ?_ | refine abr_no (by decide) ?_ | with_reducible refine abr_same_ne ?_); (conv => whnf))))))
    refine aget (by omega) (get_lists h) ?_
    ((conv => whnf); (repeat ((first | with_reducible refine abr_true rfl ?_ | with_reducible refine abr_false rfl ?_ | with_reducible refine abr_yes rfl ?_ | refine abr_yes (by decide) ?_ | refine abr_no (by decide) ?_ | with_reducible refine abr_same_ne ?_); (conv => whnf))))
    refine acell rfl ?_
    ((conv => whnf); (repeat ((first | with_reducible refine abr_true rfl ?_ | with_reducible refine abr_false rfl ?_ | with_reducible refine abr_yes rfl ?_ | refine abr_yes (by decide) ?_ | refine abr_no (by decide) ?_ | with_reducible refine abr_same_ne ?_); (conv => whnf))))
    refine ⟨rfl, ?_⟩
    ((conv => whnf); (repeat ((first | with_reducible refine abr_true rfl ?_ | with_reducible refine abr_false rfl ?_ | with_reducible refine abr_yes rfl ?_ | refine abr_yes (by decide) ?_ | refine abr_no (by decide) ?_ | with_reducible refine abr_same_ne ?_); (conv => whnf))))
    refine acall (gEmpty l[i] _) ?_
    rintro _ σ_ ⟨rfl, e_⟩
    obtain rfl := e_.symm
    ((conv => whnf); (repeat ((first | with_reducible refine abr_true rfl ?_ | with_reducible refine abr_false rfl ?_ | with_reducible refine abr_yes rfl ?_ | refine abr_yes (by decide) ?_ | refine abr_no (by decide) ?_ | with_reducible refine abr_same_ne ?_); (conv => whnf))))
    have e : hollow (l.take (i + 1)) = decide (l[i] = []) := by unfold hollow at hw ⊢; rw [List.take_add_one, List.getElem?_eq_getElem h, List.any_append, hw]; simp
    by_cases hc : l[i] = []
    · rw [decide_eq_true hc]
      ((conv => whnf); (repeat ((first | with_reducible refine abr_true rfl ?_ | with_reducible refine abr_false rfl ?_ | with_reducible refine abr_yes rfl ?_ | refine abr_yes (by decide) ?_ | refine abr_no (by decide) ?_ | with_reducible refine abr_same_ne ?_); (conv => whnf))))
      refine aret_same ⟨⟨_, rfl, ⟨fun _ => ?_, fun _ => by omega⟩⟩, rfl⟩
      exact List.any_eq_true.2 ⟨l[i], List.getElem_mem h, decide_eq_true hc⟩
    · rw [decide_eq_false hc] at e ⊢
      ((conv => whnf); (repeat ((first | with_reducible refine abr_true rfl ?_ | with_reducible refine abr_false rfl ?_ | with_reducible refine abr_yes rfl ?_ | refine abr_yes (by decide) ?_ | refine abr_no (by decide) ?_ | with_reducible refine abr_same_ne ?_); (conv => whnf))))
      (repeat ((first | refine aload (by (repeat (first | with_reducible exact upd_same _ _ _ | assumption | rw [upd_ne _ _ (by first | assumption | (apply Ne.symm; assumption))]))) rfl ?_ | refine afit_i64 (by omega) ?_ | refine arem_nonneg (by omega) (by omega) ?_ | refine adiv_i64 (by omega) (by omega) ?_ | refine abr_yes (by omega) ?_ | refine abr_no (by omega) ?_ | refine amin ?_ | refine amax ?_ | refine afit_u64 (by omega) ?_ | refine afit_u8 (by omega) ?_ | rw [List.length_map]); ((conv => whnf); (repeat ((first | with_reducible refine abr_true rfl ?_ | with_reducible refine abr_false rfl ?_ | with_reducible refine abr_yes rfl ?_ | refine abr_yes (by decide) ?_ | refine abr_no (by decide) ?_ | with_reducible refine abr_same_ne ?_); (conv => whnf))))))
      refine ⟨i + 1, ⟨by omega, e⟩, by omega, Sub.refl _, ?_⟩
      ((conv => whnf); (repeat ((first | with_reducible refine abr_true rfl ?_ | with_reducible refine abr_false rfl ?_ | with_reducible refine abr_yes rfl ?_ | refine abr_yes (by decide) ?_ | refine abr_no (by decide) ?_ | with_reducible refine abr_same_ne ?_); (conv => whnf))))
      (repeat' first | with_reducible exact EnvLe.refl _ | (refine EnvLe.node ?_ (by first | exact Or.inl rfl | exact Or.inr (Or.inl rfl) | exact Or.inr (Or.inr ⟨nofun, VLe.slice _ _ _⟩)) ?_))
  · rw [List.take_of_length_le (by omega)] at hw
    ((conv => whnf); (repeat ((first | with_reducible refine abr_true rfl ?_ | with_reducible refine abr_false rfl ?_ | with_reducible refine abr_yes rfl ?_ | refine abr_yes (by decide) ?_ | refine abr_no (by decide) ?_ | with_reducible refine abr_same_ne ?_); (conv => whnf))))
    (repeat ((first | refine aload (by (repeat (first | with_reducible exact upd_same _ _ _ | assumption | rw [upd_ne _ _ (by first | assumption | (apply Ne.symm; assumption))]))) rfl ?_ | refine afit_i64 (by omega) ?_ | refine arem_nonneg (by omega) (by omega) ?_ | refine adiv_i64 (by omega) (by omega) ?_ | refine abr_yes (by omega) ?_ | refine abr_no (by omega) ?_ | refine amin ?_ | refine amax ?_ | refine afit_u64 (by omega) ?_ | refine afit_u8 (by omega) ?_ | rw [List.length_map]); ((conv => whnf); (repeat ((first | with_reducible refine abr_true rfl ?_ | with_reducible refine abr_false rfl ?_ | with_reducible refine abr_yes rfl ?_ | refine abr_yes (by decide) ?_ | refine abr_no (by decide) ?_ | with_reducible refine abr_same_ne ?_); (conv => whnf))))))
    exact aret_same ⟨⟨-1, rfl, ⟨fun h => by omega, fun h => by rw [hw] at h; cases h⟩⟩, rfl⟩
theorem gContains (l : List (List UInt8)) (t : Tok) (σ : AHeap) (hl : l.length ≤ 140737488355328) : ACalls Try.prog i_slices_ContainsFunc_byte_byte [lists t l, .func i_glue_Glue_Put_1 [] []] σ fun v σ' => v = boolv (hollow l) ∧ σ' = σ := by
  refine k_slices_ContainsFunc_byte_byte rfl ?_
  ((conv => whnf); (repeat ((first | with_reducible refine abr_true rfl ?_ | with_reducible refine abr_false rfl ?_ | with_reducible refine abr_yes rfl ?_ | refine abr_yes (by decide) ?_ | refine abr_no (by decide) ?_ | with_reducible refine abr_same_ne ?_); (conv => whnf))))
  refine acall (gIndex l t _ hl) ?_
  rintro _ σ_ ⟨⟨n, rfl, hn⟩, e_⟩
  obtain rfl := e_.symm
  refine ⟨?_, Ext.refl _⟩
  ((conv => whnf); (repeat ((first | with_reducible refine abr_true rfl ?_ | with_reducible refine abr_false rfl ?_ | with_reducible refine abr_yes rfl ?_ | refine abr_yes (by decide) ?_ | refine abr_no (by decide) ?_ | with_reducible refine abr_same_ne ?_); (conv => whnf))))
  have e : hollow l = decide (0 ≤ n) := by
    cases hh : hollow l with
    | true => exact (decide_eq_true (hn.2 hh)).symm
    | false => exact (decide_eq_false (fun k => by rw [hn.1 k] at hh; cases hh)).symm
  rw [e]
  exact aret_same ⟨congrArg boolv (dec_congr Iff.rfl), rfl⟩

def beginsG (fi : Int) (i : Nat) : Bool := decide (0 < i) || decide (fi / 2 = 0)
def endsG (fi : Int) (n i : Nat) : Bool := decide (i + 1 < n) || decide (fi % 2 = 0)
/-- The first fields, taken one by one. -/
def putN (fi : Int) (l : List (List UInt8)) (g : GS) : Nat → List (List UInt8) × GS
  | 0 => ([], g)
  | k + 1 => ((putN fi l g k).1 ++ (fieldG (putN fi l g k).2 (l[k]?.getD []) (beginsG fi k) (endsG fi l.length k)).1.toList, (fieldG (putN fi l g k).2 (l[k]?.getD []) (beginsG fi k) (endsG fi l.length k)).2)
theorem putN_ok (fi : Int) (l : List (List UInt8)) (g : GS) (hg : (g.1.getD []).length ≤ 1000) : ∀ k, (putN fi l g k).1.length ≤ k ∧ ((putN fi l g k).2.1.getD []).length ≤ 1000 ∧ (putN fi l g k).2.2 ≤ g.2 + 2 * k
  | 0 => ⟨Nat.le_refl _, hg, by show g.2 ≤ _; omega⟩
  | k + 1 => by
    obtain ⟨h1, h2, h3⟩ := putN_ok fi l g hg k
    unfold putN
    refine ⟨?_, fieldG_held _ _ _ _, ?_⟩
    · rw [List.length_append]
      have : (fieldG (putN fi l g k).2 (l[k]?.getD []) (beginsG fi k) (endsG fi l.length k)).1.toList.length ≤ 1 := by cases (fieldG (putN fi l g k).2 (l[k]?.getD []) (beginsG fi k) (endsG fi l.length k)).1 <;> simp
      omega
    · have := fieldG_lost (putN fi l g k).2 (l[k]?.getD []) (beginsG fi k) (endsG fi l.length k)
      dsimp only
      omega
def putBad (fi : Int) (l : List (List UInt8)) : Bool := decide (fi < 0) || decide (fi > 3) || decide (l.length = 0) || decide (l.length > 24) || hollow l
def gapG (g : GS) (gap : Bool) : GS := if gap = true then loseG g else g
def putG (fi : Int) (l : List (List UInt8)) (gap : Bool) (g : GS) : List (List UInt8) × GS := if putBad fi l = true then ([], g) else putN fi l (gapG g gap) l.length
theorem and2 {fi : Int} (h0 : 0 ≤ fi) (h3 : fi ≤ 3) : bitsOp .and .i64 fi 2 = 2 * (fi / 2) := by
  have : fi = 0 ∨ fi = 1 ∨ fi = 2 ∨ fi = 3 := by omega
  rcases this with rfl | rfl | rfl | rfl <;> decide
theorem and1 {fi : Int} (h0 : 0 ≤ fi) (h3 : fi ≤ 3) : bitsOp .and .i64 fi 1 = fi % 2 := by
  have : fi = 0 ∨ fi = 1 ∨ fi = 2 ∨ fi = 3 := by omega
  rcases this with rfl | rfl | rfl | rfl <;> decide

theorem Gl.tips {σ4 σc : AHeap} {id : Nat} {g : GS} {cs : List AVal} (w : Gl σ4 id g (del σc id)) (hc : σc id = some (.cells cs)) : ∀ t, σc t = some .tip → σ4 t = some .tip := by
  intro t ht
  obtain ⟨_, tk', rfl⟩ := w
  have hne : t ≠ id := fun e => by subst e; rw [hc] at ht; cases ht
  rw [upd_ne _ _ hne, del_ne _ hne]; exact ht

set_option maxRecDepth 20000 in
theorem gPut (id : Nat) (fi : Int) (l : List (List UInt8)) (t : Tok) (gap : Bool) (g : GS) (σ σb : AHeap) (h : Gl σ id g σb) (hl : g.2 ≤ 1000000) (hh : (g.1.getD []).length ≤ 1000) (hlen : l.length ≤ 140737488355328) (hb : ∀ f ∈ l, f.length ≤ 140737488351232) :
    ACalls Try.prog i_glue_Glue_Put [.ptr id 0, i64v fi, lists t l, boolv gap] σ fun v σ' => v = .tup [lists .none (putG fi l gap g).1, i64v (if putBad fi l = true then 1 else 0)] ∧ Gl σ' id (putG fi l gap g).2 σb := by
  have h1 := h.1
  have hsb := h.sub
  obtain ⟨tk0, hc0⟩ := h.cell
  have hg0 : ((gapG g gap).1.getD []).length ≤ 1000 := by
    unfold gapG loseG; split
    · simp
    · exact hh
  have hg1 : (gapG g gap).2 ≤ g.2 + 1 := by
    unfold gapG loseG; split
    · dsimp only; cases g.1.isSome <;> simp
    · omega
  have hn := putN_ok fi l (gapG g gap) hg0
  refine k_glue_Glue_Put rfl ?_
  ((conv => whnf); (repeat ((first | with_reducible refine abr_true rfl ?_ | with_reducible refine abr_false rfl ?_ | with_reducible refine abr_yes rfl ?_ | refine abr_yes (by decide) ?_ | refine abr_no (by decide) ?_ | with_reducible refine abr_same_ne ?_); (conv => whnf))))
  refine ascope' (α := Nat × Tok × AHeap) (fun x => [(s11, lists x.2.1 (putN fi l (gapG g gap) x.1).1), (s12, i64v x.1), (s13, i64v ((l.length : Int) - 1))]) (fun x => x.2.2) (fun _ => 0)
    (fun x => x.1 < l.length ∧ (∃ tkc, x.2.2 id = some (.cells (glCells (putN fi l (gapG g gap) x.1).2 tkc))) ∧ TokIn x.2.2 σb x.2.1 ∧ Sub x.2.2 σb ∧ (0 ≤ fi ∧ fi ≤ 3 ∧ l.length ≤ 24 ∧ putBad fi l = false)) (fun x => l.length - x.1) ?_ ?_
  · ((conv => whnf); (repeat ((first | with_reducible refine abr_true rfl ?_ | with_reducible refine abr_false rfl ?_ | with_reducible refine abr_yes rfl ?_ | refine abr_yes (by decide) ?_ | refine abr_no (by decide) ?_ | with_reducible refine abr_same_ne ?_); (conv => whnf))))
    intro hlab
    ((conv => whnf); (repeat ((first | with_reducible refine abr_true rfl ?_ | with_reducible refine abr_false rfl ?_ | with_reducible refine abr_yes rfl ?_ | refine abr_yes (by decide) ?_ | refine abr_no (by decide) ?_ | with_reducible refine abr_same_ne ?_); (conv => whnf))))
    refine aload hc0 rfl ?_
    ((conv => whnf); (repeat ((first | with_reducible refine abr_true rfl ?_ | with_reducible refine abr_false rfl ?_ | with_reducible refine abr_yes rfl ?_ | refine abr_yes (by decide) ?_ | refine abr_no (by decide) ?_ | with_reducible refine abr_same_ne ?_); (conv => whnf))))
    have bad (hb : putBad fi l = true) : AVal.tup [lists .none [], i64v 1] = .tup [lists .none (putG fi l gap g).1, i64v (if putBad fi l = true then 1 else 0)] ∧ Gl σ id (putG fi l gap g).2 σb := by
      unfold putG
      rw [if_pos hb, if_pos hb]
      exact ⟨rfl, h⟩
    by_cases b1 : fi < 0
    · (repeat ((first | refine aload (by (repeat (first | with_reducible exact upd_same _ _ _ | assumption | rw [upd_ne _ _ (by first | assumption | (apply Ne.symm; assumption))]))) rfl ?_ | refine afit_i64 (by omega) ?_ | refine arem_nonneg (by omega) (by omega) ?_ | refine adiv_i64 (by omega) (by omega) ?_ | refine abr_yes (by omega) ?_ | refine abr_no (by omega) ?_ | refine amin ?_ | refine amax ?_ | refine afit_u64 (by omega) ?_ | refine afit_u8 (by omega) ?_ | rw [List.length_map]); ((conv => whnf); (repeat ((first | with_reducible refine abr_true rfl ?_ | with_reducible refine abr_false rfl ?_ | with_reducible refine abr_yes rfl ?_ | refine abr_yes (by decide) ?_ | refine abr_no (by decide) ?_ | with_reducible refine abr_same_ne ?_); (conv => whnf))))))
      exact aret VLe.tup_sl (Sub.refl _) (bad (by unfold putBad; rw [decide_eq_true b1]; rfl))
    by_cases b2 : fi > 3
    · (repeat ((first | refine aload (by (repeat (first | with_reducible exact upd_same _ _ _ | assumption | rw [upd_ne _ _ (by first | assumption | (apply Ne.symm; assumption))]))) rfl ?_ | refine afit_i64 (by omega) ?_ | refine arem_nonneg (by omega) (by omega) ?_ | refine adiv_i64 (by omega) (by omega) ?_ | refine abr_yes (by omega) ?_ | refine abr_no (by omega) ?_ | refine amin ?_ | refine amax ?_ | refine afit_u64 (by omega) ?_ | refine afit_u8 (by omega) ?_ | rw [List.length_map]); ((conv => whnf); (repeat ((first | with_reducible refine abr_true rfl ?_ | with_reducible refine abr_false rfl ?_ | with_reducible refine abr_yes rfl ?_ | refine abr_yes (by decide) ?_ | refine abr_no (by decide) ?_ | with_reducible refine abr_same_ne ?_); (conv => whnf))))))
      exact aret VLe.tup_sl (Sub.refl _) (bad (by unfold putBad; rw [decide_eq_true b2]; simp))
    by_cases b3 : l.length = 0
    · (repeat ((first | refine aload (by (repeat (first | with_reducible exact upd_same _ _ _ | assumption | rw [upd_ne _ _ (by first | assumption | (apply Ne.symm; assumption))]))) rfl ?_ | refine afit_i64 (by omega) ?_ | refine arem_nonneg (by omega) (by omega) ?_ | refine adiv_i64 (by omega) (by omega) ?_ | refine abr_yes (by omega) ?_ | refine abr_no (by omega) ?_ | refine amin ?_ | refine amax ?_ | refine afit_u64 (by omega) ?_ | refine afit_u8 (by omega) ?_ | rw [List.length_map]); ((conv => whnf); (repeat ((first | with_reducible refine abr_true rfl ?_ | with_reducible refine abr_false rfl ?_ | with_reducible refine abr_yes rfl ?_ | refine abr_yes (by decide) ?_ | refine abr_no (by decide) ?_ | with_reducible refine abr_same_ne ?_); (conv => whnf))))))
      exact aret VLe.tup_sl (Sub.refl _) (bad (by unfold putBad; rw [decide_eq_true b3]; simp))
    by_cases b4 : l.length > 24
    · (repeat ((first | refine aload (by (repeat (first | with_reducible exact upd_same _ _ _ | assumption | rw [upd_ne _ _ (by first | assumption | (apply Ne.symm; assumption))]))) rfl ?_ | refine afit_i64 (by omega) ?_ | refine arem_nonneg (by omega) (by omega) ?_ | refine adiv_i64 (by omega) (by omega) ?_ | refine abr_yes (by omega) ?_ | refine abr_no (by omega) ?_ | refine amin ?_ | refine amax ?_ | refine afit_u64 (by omega) ?_ | refine afit_u8 (by omega) ?_ | rw [List.length_map]); ((conv => whnf); (repeat ((first | with_reducible refine abr_true rfl ?_ | with_reducible refine abr_false rfl ?_ | with_reducible refine abr_yes rfl ?_ | refine abr_yes (by decide) ?_ | refine abr_no (by decide) ?_ | with_reducible refine abr_same_ne ?_); (conv => whnf))))))
      exact aret VLe.tup_sl (Sub.refl _) (bad (by unfold putBad; rw [decide_eq_true b4]; simp))
    (repeat ((first | refine aload (by (repeat (first | with_reducible exact upd_same _ _ _ | assumption | rw [upd_ne _ _ (by first | assumption | (apply Ne.symm; assumption))]))) rfl ?_ | refine afit_i64 (by omega) ?_ | refine arem_nonneg (by omega) (by omega) ?_ | refine adiv_i64 (by omega) (by omega) ?_ | refine abr_yes (by omega) ?_ | refine abr_no (by omega) ?_ | refine amin ?_ | refine amax ?_ | refine afit_u64 (by omega) ?_ | refine afit_u8 (by omega) ?_ | rw [List.length_map]); ((conv => whnf); (repeat ((first | with_reducible refine abr_true rfl ?_ | with_reducible refine abr_false rfl ?_ | with_reducible refine abr_yes rfl ?_ | refine abr_yes (by decide) ?_ | refine abr_no (by decide) ?_ | with_reducible refine abr_same_ne ?_); (conv => whnf))))))
    refine acall (gContains l t _ (by omega)) ?_
    rintro _ σ_ ⟨rfl, e_⟩
    obtain rfl := e_.symm
    refine ⟨?_, Ext.refl _⟩
    ((conv => whnf); (repeat ((first | with_reducible refine abr_true rfl ?_ | with_reducible refine abr_false rfl ?_ | with_reducible refine abr_yes rfl ?_ | refine abr_yes (by decide) ?_ | refine abr_no (by decide) ?_ | with_reducible refine abr_same_ne ?_); (conv => whnf))))
    cases b5 : hollow l with
    | true =>
      ((conv => whnf); (repeat ((first | with_reducible refine abr_true rfl ?_ | with_reducible refine abr_false rfl ?_ | with_reducible refine abr_yes rfl ?_ | refine abr_yes (by decide) ?_ | refine abr_no (by decide) ?_ | with_reducible refine abr_same_ne ?_); (conv => whnf))))
      exact aret VLe.tup_sl (Sub.refl _) (bad (by unfold putBad; rw [b5]; simp))
    | false =>
      have hgood : putBad fi l = false := by unfold putBad; rw [decide_eq_false b1, decide_eq_false b2, decide_eq_false b3, decide_eq_false b4, b5]; rfl
      ((conv => whnf); (repeat ((first | with_reducible refine abr_true rfl ?_ | with_reducible refine abr_false rfl ?_ | with_reducible refine abr_yes rfl ?_ | refine abr_yes (by decide) ?_ | refine abr_no (by decide) ?_ | with_reducible refine abr_same_ne ?_); (conv => whnf))))
      have key : ∀ σ1, Gl σ1 id (gapG g gap) σb → ∃ tkc, σ1 id = some (.cells (glCells (putN fi l (gapG g gap) 0).2 tkc)) := fun σ1 w => w.cell
      cases gap with
      | false =>
        ((conv => whnf); (repeat ((first | with_reducible refine abr_true rfl ?_ | with_reducible refine abr_false rfl ?_ | with_reducible refine abr_yes rfl ?_ | refine abr_yes (by decide) ?_ | refine abr_no (by decide) ?_ | with_reducible refine abr_same_ne ?_); (conv => whnf))))
        rw [List.length_map]
        (repeat ((first | refine aload (by (repeat (first | with_reducible exact upd_same _ _ _ | assumption | rw [upd_ne _ _ (by first | assumption | (apply Ne.symm; assumption))]))) rfl ?_ | refine afit_i64 (by omega) ?_ | refine arem_nonneg (by omega) (by omega) ?_ | refine adiv_i64 (by omega) (by omega) ?_ | refine abr_yes (by omega) ?_ | refine abr_no (by omega) ?_ | refine amin ?_ | refine amax ?_ | refine afit_u64 (by omega) ?_ | refine afit_u8 (by omega) ?_ | rw [List.length_map]); ((conv => whnf); (repeat ((first | with_reducible refine abr_true rfl ?_ | with_reducible refine abr_false rfl ?_ | with_reducible refine abr_yes rfl ?_ | refine abr_yes (by decide) ?_ | refine abr_no (by decide) ?_ | with_reducible refine abr_same_ne ?_); (conv => whnf))))))
        refine hlab _ (fun _ _ _ h => h) _ _ _ _ ⟨(0, .full, σ), rfl, ⟨by dsimp only; omega, key _ h, .full _ _, hsb, by omega, by omega, by omega, hgood⟩, rfl, Sub.refl _, ?_⟩
        ((conv => whnf); (repeat ((first | with_reducible refine abr_true rfl ?_ | with_reducible refine abr_false rfl ?_ | with_reducible refine abr_yes rfl ?_ | refine abr_yes (by decide) ?_ | refine abr_no (by decide) ?_ | with_reducible refine abr_same_ne ?_); (conv => whnf))))
        (repeat' first | with_reducible exact EnvLe.refl _ | (refine EnvLe.node ?_ (by first | exact Or.inl rfl | exact Or.inr (Or.inl rfl) | exact Or.inr (Or.inr ⟨nofun, VLe.slice _ _ _⟩)) ?_))
      | true =>
        ((conv => whnf); (repeat ((first | with_reducible refine abr_true rfl ?_ | with_reducible refine abr_false rfl ?_ | with_reducible refine abr_yes rfl ?_ | refine abr_yes (by decide) ?_ | refine abr_no (by decide) ?_ | with_reducible refine abr_same_ne ?_); (conv => whnf))))
        refine acall (gLose id g _ _ h (by omega)) ?_
        rintro _ σ1 w1
        ((conv => whnf); (repeat ((first | with_reducible refine abr_true rfl ?_ | with_reducible refine abr_false rfl ?_ | with_reducible refine abr_yes rfl ?_ | refine abr_yes (by decide) ?_ | refine abr_no (by decide) ?_ | with_reducible refine abr_same_ne ?_); (conv => whnf))))
        rw [List.length_map]
        (repeat ((first | refine aload (by (repeat (first | with_reducible exact upd_same _ _ _ | assumption | rw [upd_ne _ _ (by first | assumption | (apply Ne.symm; assumption))]))) rfl ?_ | refine afit_i64 (by omega) ?_ | refine arem_nonneg (by omega) (by omega) ?_ | refine adiv_i64 (by omega) (by omega) ?_ | refine abr_yes (by omega) ?_ | refine abr_no (by omega) ?_ | refine amin ?_ | refine amax ?_ | refine afit_u64 (by omega) ?_ | refine afit_u8 (by omega) ?_ | rw [List.length_map]); ((conv => whnf); (repeat ((first | with_reducible refine abr_true rfl ?_ | with_reducible refine abr_false rfl ?_ | with_reducible refine abr_yes rfl ?_ | refine abr_yes (by decide) ?_ | refine abr_no (by decide) ?_ | with_reducible refine abr_same_ne ?_); (conv => whnf))))))
        refine hlab _ (fun _ _ _ h => h) _ _ _ _ ⟨(0, .full, σ1), rfl, ⟨by dsimp only; omega, key _ w1, .full _ _, w1.sub, by omega, by omega, by omega, hgood⟩, rfl, Sub.refl _, ?_⟩
        ((conv => whnf); (repeat ((first | with_reducible refine abr_true rfl ?_ | with_reducible refine abr_false rfl ?_ | with_reducible refine abr_yes rfl ?_ | refine abr_yes (by decide) ?_ | refine abr_no (by decide) ?_ | with_reducible refine abr_same_ne ?_); (conv => whnf))))
        (repeat' first | with_reducible exact EnvLe.refl _ | (refine EnvLe.node ?_ (by first | exact Or.inl rfl | exact Or.inr (Or.inl rfl) | exact Or.inr (Or.inr ⟨nofun, VLe.slice _ _ _⟩)) ?_))
  · rintro ⟨i, tk, σc⟩ ⟨hi, ⟨tkc, hc⟩, hto, hs, hf0, hf3, h24, hgood⟩
    dsimp only at hi hc hto hs ⊢
    obtain ⟨n1, n2, n3⟩ := hn i
    have hli := hb _ (List.getElem_mem hi)
    refine ⟨_, rfl, ?_⟩
    ((conv => whnf); (repeat ((first | with_reducible refine abr_true rfl ?_ | with_reducible refine abr_false rfl ?_ | with_reducible refine abr_yes rfl ?_ | refine abr_yes (by decide) ?_ | refine abr_no (by decide) ?_ | with_reducible refine abr_same_ne ?_); (conv => whnf))))
    intro hlab
    ((conv => whnf); (repeat ((first | with_reducible refine abr_true rfl ?_ | with_reducible refine abr_false rfl ?_ | with_reducible refine abr_yes rfl ?_ | refine abr_yes (by decide) ?_ | refine abr_no (by decide) ?_ | with_reducible refine abr_same_ne ?_); (conv => whnf))))
    refine aget (by omega) (get_lists hi) ?_
    ((conv => whnf); (repeat ((first | with_reducible refine abr_true rfl ?_ | with_reducible refine abr_false rfl ?_ | with_reducible refine abr_yes rfl ?_ | refine abr_yes (by decide) ?_ | refine abr_no (by decide) ?_ | with_reducible refine abr_same_ne ?_); (conv => whnf))))
    refine acell rfl ?_
    ((conv => whnf); (repeat ((first | with_reducible refine abr_true rfl ?_ | with_reducible refine abr_false rfl ?_ | with_reducible refine abr_yes rfl ?_ | refine abr_yes (by decide) ?_ | refine abr_no (by decide) ?_ | with_reducible refine abr_same_ne ?_); (conv => whnf))))
    obtain ⟨P, hP⟩ : ∃ P, P = fieldG (putN fi l (gapG g gap) i).2 (l[i]?.getD []) (beginsG fi i) (endsG fi l.length i) := ⟨_, rfl⟩
    have hstep : putN fi l (gapG g gap) (i + 1) = ((putN fi l (gapG g gap) i).1 ++ P.1.toList, P.2) := by rw [hP]; rfl
    have key : ∀ X Y, X = beginsG fi i → Y = endsG fi l.length i → ACalls Try.prog i_glue_Glue_field [.ptr id 0, sl .none l[i], boolv X, boolv Y] σc (fun v σ' => v = .tup [sl .none (P.1.getD []), boolv P.1.isSome] ∧ Gl σ' id P.2 (del σc id)) := by
      rintro _ _ rfl rfl
      have := gField id (putN fi l (gapG g gap) i).2 l[i] .none (beginsG fi i) (endsG fi l.length i) σc _ (Gl.at hc) (by omega) n2 hli
      rw [List.getElem?_eq_getElem hi, Option.getD_some] at hP
      rw [← hP] at this
      exact this
    clear hP
    have eb1 : 0 < i → true = beginsG fi i := fun h => by unfold beginsG; rw [decide_eq_true h]; rfl
    have eb2 : ¬ 0 < i → decide (2 * (fi / 2) = 0) = beginsG fi i := fun h => by unfold beginsG; rw [decide_eq_false h, Bool.false_or]; exact dec_congr (by omega)
    have ee1 : i + 1 < l.length → true = endsG fi l.length i := fun h => by unfold endsG; rw [decide_eq_true h]; rfl
    have ee2 : ¬ i + 1 < l.length → decide (fi % 2 = 0) = endsG fi l.length i := fun h => by unfold endsG; rw [decide_eq_false h, Bool.false_or]
    rcases Classical.em (0 < i) with hi0 | hi0 <;> rcases Classical.em (i + 1 < l.length) with hil | hil
    case' inl.inl =>
      (repeat ((first | refine aload (by (repeat (first | with_reducible exact upd_same _ _ _ | assumption | rw [upd_ne _ _ (by first | assumption | (apply Ne.symm; assumption))]))) rfl ?_ | refine afit_i64 (by omega) ?_ | refine arem_nonneg (by omega) (by omega) ?_ | refine adiv_i64 (by omega) (by omega) ?_ | refine abr_yes (by omega) ?_ | refine abr_no (by omega) ?_ | refine amin ?_ | refine amax ?_ | refine afit_u64 (by omega) ?_ | refine afit_u8 (by omega) ?_ | rw [List.length_map]); ((conv => whnf); (repeat ((first | with_reducible refine abr_true rfl ?_ | with_reducible refine abr_false rfl ?_ | with_reducible refine abr_yes rfl ?_ | refine abr_yes (by decide) ?_ | refine abr_no (by decide) ?_ | with_reducible refine abr_same_ne ?_); (conv => whnf))))))
      refine acall (key _ _ (eb1 hi0) (ee1 hil)) ?_
    case' inl.inr =>
      (repeat ((first | refine aload (by (repeat (first | with_reducible exact upd_same _ _ _ | assumption | rw [upd_ne _ _ (by first | assumption | (apply Ne.symm; assumption))]))) rfl ?_ | refine afit_i64 (by omega) ?_ | refine arem_nonneg (by omega) (by omega) ?_ | refine adiv_i64 (by omega) (by omega) ?_ | refine abr_yes (by omega) ?_ | refine abr_no (by omega) ?_ | refine amin ?_ | refine amax ?_ | refine afit_u64 (by omega) ?_ | refine afit_u8 (by omega) ?_ | rw [List.length_map]); ((conv => whnf); (repeat ((first | with_reducible refine abr_true rfl ?_ | with_reducible refine abr_false rfl ?_ | with_reducible refine abr_yes rfl ?_ | refine abr_yes (by decide) ?_ | refine abr_no (by decide) ?_ | with_reducible refine abr_same_ne ?_); (conv => whnf))))))
      refine abits_eq (and1 hf0 hf3) ?_
      ((conv => whnf); (repeat ((first | with_reducible refine abr_true rfl ?_ | with_reducible refine abr_false rfl ?_ | with_reducible refine abr_yes rfl ?_ | refine abr_yes (by decide) ?_ | refine abr_no (by decide) ?_ | with_reducible refine abr_same_ne ?_); (conv => whnf))))
      refine acall (key _ _ (eb1 hi0) (ee2 hil)) ?_
    case' inr.inl =>
      (repeat ((first | refine aload (by (repeat (first | with_reducible exact upd_same _ _ _ | assumption | rw [upd_ne _ _ (by first | assumption | (apply Ne.symm; assumption))]))) rfl ?_ | refine afit_i64 (by omega) ?_ | refine arem_nonneg (by omega) (by omega) ?_ | refine adiv_i64 (by omega) (by omega) ?_ | refine abr_yes (by omega) ?_ | refine abr_no (by omega) ?_ | refine amin ?_ | refine amax ?_ | refine afit_u64 (by omega) ?_ | refine afit_u8 (by omega) ?_ | rw [List.length_map]); ((conv => whnf); (repeat ((first | with_reducible refine abr_true rfl ?_ | with_reducible refine abr_false rfl ?_ | with_reducible refine abr_yes rfl ?_ | refine abr_yes (by decide) ?_ | refine abr_no (by decide) ?_ | with_reducible refine abr_same_ne ?_); (conv => whnf))))))
      refine abits_eq (and2 hf0 hf3) ?_
      ((conv => whnf); (repeat ((first | with_reducible refine abr_true rfl ?_ | with_reducible refine abr_false rfl ?_ | with_reducible refine abr_yes rfl ?_ | refine abr_yes (by decide) ?_ | refine abr_no (by decide) ?_ | with_reducible refine abr_same_ne ?_); (conv => whnf))))
      (repeat ((first | refine aload (by (repeat (first | with_reducible exact upd_same _ _ _ | assumption | rw [upd_ne _ _ (by first | assumption | (apply Ne.symm; assumption))]))) rfl ?_ | refine afit_i64 (by omega) ?_ | refine arem_nonneg (by omega) (by omega) ?_ | refine adiv_i64 (by omega) (by omega) ?_ | refine abr_yes (by omega) ?_ | refine abr_no (by omega) ?_ | refine amin ?_ | refine amax ?_ | refine afit_u64 (by omega) ?_ | refine afit_u8 (by omega) ?_ | rw [List.length_map]); ((conv => whnf); (repeat ((first | with_reducible refine abr_true rfl ?_ | with_reducible refine abr_false rfl ?_ | with_reducible refine abr_yes rfl ?_ | refine abr_yes (by decide) ?_ | refine abr_no (by decide) ?_ | with_reducible refine abr_same_ne ?_); (conv => whnf))))))
      refine acall (key _ _ (eb2 hi0) (ee1 hil)) ?_
    case' inr.inr =>
      (repeat ((first | refine aload (by (repeat (first | with_reducible exact upd_same _ _ _ | assumption | rw [upd_ne _ _ (by first | assumption | (apply Ne.symm; assumption))]))) rfl ?_ | refine afit_i64 (by omega) ?_ | refine arem_nonneg (by omega) (by omega) ?_ | refine adiv_i64 (by omega) (by omega) ?_ | refine abr_yes (by omega) ?_ | refine abr_no (by omega) ?_ | refine amin ?_ | refine amax ?_ | refine afit_u64 (by omega) ?_ | refine afit_u8 (by omega) ?_ | rw [List.length_map]); ((conv => whnf); (repeat ((first | with_reducible refine abr_true rfl ?_ | with_reducible refine abr_false rfl ?_ | with_reducible refine abr_yes rfl ?_ | refine abr_yes (by decide) ?_ | refine abr_no (by decide) ?_ | with_reducible refine abr_same_ne ?_); (conv => whnf))))))
      refine abits_eq (and2 hf0 hf3) ?_
      ((conv => whnf); (repeat ((first | with_reducible refine abr_true rfl ?_ | with_reducible refine abr_false rfl ?_ | with_reducible refine abr_yes rfl ?_ | refine abr_yes (by decide) ?_ | refine abr_no (by decide) ?_ | with_reducible refine abr_same_ne ?_); (conv => whnf))))
      (repeat ((first | refine aload (by (repeat (first | with_reducible exact upd_same _ _ _ | assumption | rw [upd_ne _ _ (by first | assumption | (apply Ne.symm; assumption))]))) rfl ?_ | refine afit_i64 (by omega) ?_ | refine arem_nonneg (by omega) (by omega) ?_ | refine adiv_i64 (by omega) (by omega) ?_ | refine abr_yes (by omega) ?_ | refine abr_no (by omega) ?_ | refine amin ?_ | refine amax ?_ | refine afit_u64 (by omega) ?_ | refine afit_u8 (by omega) ?_ | rw [List.length_map]); ((conv => whnf); (repeat ((first | with_reducible refine abr_true rfl ?_ | with_reducible refine abr_false rfl ?_ | with_reducible refine abr_yes rfl ?_ | refine abr_yes (by decide) ?_ | refine abr_no (by decide) ?_ | with_reducible refine abr_same_ne ?_); (conv => whnf))))))
      refine abits_eq (and1 hf0 hf3) ?_
      ((conv => whnf); (repeat ((first | with_reducible refine abr_true rfl ?_ | with_reducible refine abr_false rfl ?_ | with_reducible refine abr_yes rfl ?_ | refine abr_yes (by decide) ?_ | refine abr_no (by decide) ?_ | with_reducible refine abr_same_ne ?_); (conv => whnf))))
      refine acall (key _ _ (eb2 hi0) (ee2 hil)) ?_
    all_goals
      rintro _ σ4 ⟨rfl, w4⟩
      obtain ⟨tk4, hc4⟩ := w4.cell
      have hs4 := w4.sub.trans (sub_del hs h1)
      have hto4 := hto.ext (w4.tips hc)
      obtain ⟨r, g4⟩ := P
      dsimp only at hc4
      cases r with
      | none =>
        have hst : putN fi l (gapG g gap) (i + 1) = ((putN fi l (gapG g gap) i).1, g4) := by rw [hstep]; simp
        ((conv => whnf); (repeat ((first | with_reducible refine abr_true rfl ?_ | with_reducible refine abr_false rfl ?_ | with_reducible refine abr_yes rfl ?_ | refine abr_yes (by decide) ?_ | refine abr_no (by decide) ?_ | with_reducible refine abr_same_ne ?_); (conv => whnf))))
        (repeat ((first | refine aload (by (repeat (first | with_reducible exact upd_same _ _ _ | assumption | rw [upd_ne _ _ (by first | assumption | (apply Ne.symm; assumption))]))) rfl ?_ | refine afit_i64 (by omega) ?_ | refine arem_nonneg (by omega) (by omega) ?_ | refine adiv_i64 (by omega) (by omega) ?_ | refine abr_yes (by omega) ?_ | refine abr_no (by omega) ?_ | refine amin ?_ | refine amax ?_ | refine afit_u64 (by omega) ?_ | refine afit_u8 (by omega) ?_ | rw [List.length_map]); ((conv => whnf); (repeat ((first | with_reducible refine abr_true rfl ?_ | with_reducible refine abr_false rfl ?_ | with_reducible refine abr_yes rfl ?_ | refine abr_yes (by decide) ?_ | refine abr_no (by decide) ?_ | with_reducible refine abr_same_ne ?_); (conv => whnf))))))
        first
          | refine ⟨(i + 1, tk, σ4), rfl, ⟨by dsimp only; omega, ⟨tk4, by dsimp only; rw [hst]; exact hc4⟩, hto4, hs4, hf0, hf3, h24, hgood⟩, by dsimp only; omega, Sub.refl _, ?_⟩
            ((conv => whnf); (repeat ((first | with_reducible refine abr_true rfl ?_ | with_reducible refine abr_false rfl ?_ | with_reducible refine abr_yes rfl ?_ | refine abr_yes (by decide) ?_ | refine abr_no (by decide) ?_ | with_reducible refine abr_same_ne ?_); (conv => whnf))))
            rw [hst]
            (repeat' first | with_reducible exact EnvLe.refl _ | (refine EnvLe.node ?_ (by first | exact Or.inl rfl | exact Or.inr (Or.inl rfl) | exact Or.inr (Or.inr ⟨nofun, VLe.slice _ _ _⟩)) ?_))
          | have hG : putG fi l gap g = putN fi l (gapG g gap) (i + 1) := by unfold putG; rw [if_neg (by rw [hgood]; simp), show l.length = i + 1 by omega]
            obtain ⟨σ', k1, k2⟩ := gl_of hc4 h1 hs4
            refine aret VLe.tup_sl k1 ⟨?_, ?_⟩
            · rw [hG, hst, hgood]; rfl
            · rw [hG, hst]; exact k2
      | some x =>
        have hst : putN fi l (gapG g gap) (i + 1) = ((putN fi l (gapG g gap) i).1 ++ [x], g4) := hstep
        ((conv => whnf); (repeat ((first | with_reducible refine abr_true rfl ?_ | with_reducible refine abr_false rfl ?_ | with_reducible refine abr_yes rfl ?_ | refine abr_yes (by decide) ?_ | refine abr_no (by decide) ?_ | with_reducible refine abr_same_ne ?_); (conv => whnf))))
        refine aapp_in (ys := [sl .none x]) hto4 hs4 (by rw [List.length_map]; show (_ + 1) * 24 ≤ _; omega) fun t5 σ5 hx5 hs5 hto5 => ?_
        rw [show List.map (sl .none) (putN fi l (gapG g gap) i).1 ++ [sl .none x] = List.map (sl .none) ((putN fi l (gapG g gap) i).1 ++ [x]) by simp]
        have hc5 := hx5 id _ rfl hc4
        ((conv => whnf); (repeat ((first | with_reducible refine abr_true rfl ?_ | with_reducible refine abr_false rfl ?_ | with_reducible refine abr_yes rfl ?_ | refine abr_yes (by decide) ?_ | refine abr_no (by decide) ?_ | with_reducible refine abr_same_ne ?_); (conv => whnf))))
        (repeat ((first | refine aload (by (repeat (first | with_reducible exact upd_same _ _ _ | assumption | rw [upd_ne _ _ (by first | assumption | (apply Ne.symm; assumption))]))) rfl ?_ | refine afit_i64 (by omega) ?_ | refine arem_nonneg (by omega) (by omega) ?_ | refine adiv_i64 (by omega) (by omega) ?_ | refine abr_yes (by omega) ?_ | refine abr_no (by omega) ?_ | refine amin ?_ | refine amax ?_ | refine afit_u64 (by omega) ?_ | refine afit_u8 (by omega) ?_ | rw [List.length_map]); ((conv => whnf); (repeat ((first | with_reducible refine abr_true rfl ?_ | with_reducible refine abr_false rfl ?_ | with_reducible refine abr_yes rfl ?_ | refine abr_yes (by decide) ?_ | refine abr_no (by decide) ?_ | with_reducible refine abr_same_ne ?_); (conv => whnf))))))
        first
          | refine ⟨(i + 1, .tip t5, σ5), rfl, ⟨by dsimp only; omega, ⟨tk4, by dsimp only; rw [hst]; exact hc5⟩, hto5, hs5, hf0, hf3, h24, hgood⟩, by dsimp only; omega, Sub.refl _, ?_⟩
            ((conv => whnf); (repeat ((first | with_reducible refine abr_true rfl ?_ | with_reducible refine abr_false rfl ?_ | with_reducible refine abr_yes rfl ?_ | refine abr_yes (by decide) ?_ | refine abr_no (by decide) ?_ | with_reducible refine abr_same_ne ?_); (conv => whnf))))
            rw [hst]
            (repeat' first | with_reducible exact EnvLe.refl _ | (refine EnvLe.node ?_ (by first | exact Or.inl rfl | exact Or.inr (Or.inl rfl) | exact Or.inr (Or.inr ⟨nofun, VLe.slice _ _ _⟩)) ?_))
          | have hG : putG fi l gap g = putN fi l (gapG g gap) (i + 1) := by unfold putG; rw [if_neg (by rw [hgood]; simp), show l.length = i + 1 by omega]
            obtain ⟨σ', k1, k2⟩ := gl_of hc5 h1 hs5
            refine aret VLe.tup_sl k1 ⟨?_, ?_⟩
            · rw [hG, hst, hgood]; rfl
            · rw [hG, hst]; exact k2
end Go.Proofs.Ytiohpnkfcaahbaa
/-
  The bodies of one package, compiled to the framework's language (printed by a program of this session).
-/
namespace Go.Proofs.Ytiohpnkfcaahbaa
set_option linter.unusedVariables false
set_option linter.unusedSimpArgs false
open Go Go.Am
/- bowlinelaw14.GluePlain -/
def c3 : Cfg := ⟨qs, [], 108, []⟩
def ir3 : IFun := ⟨2, [.tmp s4],
  (.seq (.reg (.one ⟨some s4, none, (.mv (.c (.v (.bool false))))⟩
    .done))
  (.seq (.reg (.one ⟨some s14, none, (.callq 13 [])⟩
    (.one ⟨some s5, none, (.mv (.t s14))⟩
    .done)))
  (.seq (.seq (.reg (.one ⟨some s15, none, (.mv (.t s0))⟩
    (.one ⟨some s16, none, (.len false (.t s15))⟩
    (.one ⟨some s17, none, (.bin false .gtr (.t s16) (.c (.v (.int .i64 900))))⟩
    (.one ⟨some s18, none, (.mv (.t s17))⟩
    (.one ⟨some s19, some (s18, false), (.mv (.t s1))⟩
    (.one ⟨some s20, some (s18, false), (.len false (.t s19))⟩
    (.one ⟨some s21, some (s18, false), (.bin false .gtr (.t s20) (.c (.v (.int .i64 40))))⟩
    (.one ⟨some s22, none, (.pick (.t s18) (.c (.v (.bool true))) (.t s21))⟩
    .done)))))))))
  (.cond (.t s22) (.seq (.reg (.one ⟨some s23, none, (.callq 14 [])⟩
    (.one ⟨some s4, none, (.mv (.t s23))⟩
    .done)))
  .ret) .skip))
  (.seq (.reg (.one ⟨some s6, none, (.mv (.c (.v (.int .i64 0))))⟩
    .done))
  (.seq (.seq (.reg (.one ⟨some s25, none, (.mv (.t s5))⟩
    (.one ⟨some s26, none, (.mv (.t s0))⟩
    (.one ⟨some s27, none, (.row 1 [(.t s26)])⟩
    (.one ⟨some s28, none, (.call 15 [(.t s25), (.c (.v (.int .i64 1))), (.t s27), (.c (.v (.bool false)))])⟩
    (.one ⟨some s24, none, (.mv (.t s28))⟩
    (.one ⟨some s29, none, (.ext (.t s24) 0)⟩
    (.one ⟨some s30, none, (.ext (.t s24) 1)⟩
    (.one ⟨some s7, none, (.mv (.t s29))⟩
    (.one ⟨some s8, none, (.mv (.t s30))⟩
    .done))))))))))
  (.seq (.reg (.one ⟨some s31, none, (.mv (.t s8))⟩
    (.one ⟨some s32, none, (.bin false .eql (.t s31) (.c (.v (.int .i64 0))))⟩
    .done)))
  (.cond (.t s32) (.reg (.one ⟨some s6, none, (.mv (.c (.v (.int .i64 1))))⟩
    .done)) .skip)))
  (.seq (.reg (.one ⟨some s34, none, (.mv (.t s5))⟩
    (.one ⟨some s35, none, (.mv (.t s1))⟩
    (.one ⟨some s36, none, (.call 15 [(.t s34), (.c (.v (.int .i64 0))), (.t s35), (.c (.v (.bool false)))])⟩
    (.one ⟨some s33, none, (.mv (.t s36))⟩
    (.one ⟨some s37, none, (.ext (.t s33) 0)⟩
    (.one ⟨some s38, none, (.ext (.t s33) 1)⟩
    (.one ⟨some s9, none, (.mv (.t s37))⟩
    (.one ⟨some s10, none, (.mv (.t s38))⟩
    .done)))))))))
  (.seq (.seq (.reg (.one ⟨some s39, none, (.mv (.t s10))⟩
    (.one ⟨some s40, none, (.bin false .neq (.t s39) (.c (.v (.int .i64 0))))⟩
    .done)))
  (.cond (.t s40) (.seq (.reg (.one ⟨some s41, none, (.callq 14 [])⟩
    (.one ⟨some s42, none, (.mv (.t s41))⟩
    (.one ⟨some s43, some (s42, true), (.mv (.t s5))⟩
    (.one ⟨some s44, some (s42, true), (.callq 16 [(.t s43)])⟩
    (.one ⟨some s45, some (s42, true), (.mv (.t s6))⟩
    (.one ⟨some s46, some (s42, true), (.mv (.t s0))⟩
    (.one ⟨some s47, some (s42, true), (.len false (.t s46))⟩
    (.one ⟨some s48, some (s42, true), (.bin false .mul (.t s45) (.t s47))⟩
    (.one ⟨some s49, some (s42, true), (.bin false .eql (.t s44) (.t s48))⟩
    (.one ⟨some s50, none, (.pick (.t s42) (.t s49) (.c (.v (.bool false))))⟩
    (.one ⟨some s51, none, (.mv (.t s50))⟩
    (.one ⟨some s52, some (s51, true), (.mv (.t s5))⟩
    (.one ⟨some s53, some (s51, true), (.callq 17 [(.t s52)])⟩
    (.one ⟨some s54, some (s51, true), (.bin false .eql (.t s53) (.c (.v (.int .i64 0))))⟩
    (.one ⟨some s55, none, (.pick (.t s51) (.t s54) (.c (.v (.bool false))))⟩
    (.one ⟨some s4, none, (.mv (.t s55))⟩
    .done)))))))))))))))))
  .ret) .skip))
  (.seq (.reg (.one ⟨some s56, none, (.mv (.t s6))⟩
    (.one ⟨some s11, none, (.mv (.c (.v (.int .i64 0))))⟩
    (.one ⟨some s12, none, (.mv (.t s56))⟩
    .done))))
  (.seq (.seq (.reg (.one ⟨some s13, none, (.mv (.c (.v (.int .i64 0))))⟩
    .done))
  (.block 0 (.loop (.seq (.seq (.reg (.one ⟨some s57, none, (.mv (.t s13))⟩
    (.one ⟨some s58, none, (.mv (.t s1))⟩
    (.one ⟨some s59, none, (.len false (.t s58))⟩
    (.one ⟨some s60, none, (.bin false .lss (.t s57) (.t s59))⟩
    .done)))))
  (.cond (.t s60) .skip (.exit 0)))
  (.seq (.block 1 (.seq (.seq (.reg (.one ⟨some s63, none, (.mv (.t s1))⟩
    (.one ⟨some s64, none, (.mv (.t s13))⟩
    (.one ⟨some s65, none, (.iaddr 1 (.t s63) (.t s64))⟩
    (.one ⟨some s66, none, (.load none (.t s65))⟩
    (.one ⟨some s67, none, (.len false (.t s66))⟩
    (.one ⟨some s68, none, (.bin false .gtr (.t s67) (.c (.v (.int .i64 1000))))⟩
    .done)))))))
  (.cond (.t s68) (.seq (.reg (.one ⟨some s69, none, (.mv (.t s12))⟩
    (.one ⟨some s70, none, (.bin false .add (.t s69) (.c (.v (.int .i64 1))))⟩
    (.one ⟨some s12, none, (.mv (.t s70))⟩
    .done))))
  (.exit 1)) .skip))
  (.seq (.seq (.reg (.one ⟨some s71, none, (.mv (.t s11))⟩
    (.one ⟨some s72, none, (.mv (.t s9))⟩
    (.one ⟨some s73, none, (.len false (.t s72))⟩
    (.one ⟨some s74, none, (.bin false .geq (.t s71) (.t s73))⟩
    (.one ⟨some s75, none, (.mv (.t s74))⟩
    (.one ⟨some s76, some (s75, false), (.mv (.t s9))⟩
    (.one ⟨some s77, some (s75, false), (.mv (.t s11))⟩
    (.one ⟨some s78, some (s75, false), (.iaddr 1 (.t s76) (.t s77))⟩
    (.one ⟨some s79, some (s75, false), (.load none (.t s78))⟩
    (.one ⟨some s80, some (s75, false), (.b2s (.t s79))⟩
    (.one ⟨some s81, some (s75, false), (.mv (.t s1))⟩
    (.one ⟨some s82, some (s75, false), (.mv (.t s13))⟩
    (.one ⟨some s83, some (s75, false), (.iaddr 1 (.t s81) (.t s82))⟩
    (.one ⟨some s84, some (s75, false), (.load none (.t s83))⟩
    (.one ⟨some s85, some (s75, false), (.b2s (.t s84))⟩
    (.one ⟨some s86, some (s75, false), (.bin false .neq (.t s80) (.t s85))⟩
    (.one ⟨some s87, none, (.pick (.t s75) (.c (.v (.bool true))) (.t s86))⟩
    .done))))))))))))))))))
  (.cond (.t s87) (.seq (.reg (.one ⟨some s4, none, (.mv (.c (.v (.bool false))))⟩
    .done))
  .ret) .skip))
  (.reg (.one ⟨some s88, none, (.mv (.t s11))⟩
    (.one ⟨some s89, none, (.bin false .add (.t s88) (.c (.v (.int .i64 1))))⟩
    (.one ⟨some s11, none, (.mv (.t s89))⟩
    .done)))))))
  (.reg (.one ⟨some s61, none, (.mv (.t s13))⟩
    (.one ⟨some s62, none, (.bin false .add (.t s61) (.c (.v (.int .i64 1))))⟩
    (.one ⟨some s13, none, (.mv (.t s62))⟩
    .done)))))))))
  (.seq (.reg (.one ⟨some s90, none, (.callq 14 [])⟩
    (.one ⟨some s91, none, (.mv (.t s90))⟩
    (.one ⟨some s92, some (s91, true), (.mv (.t s11))⟩
    (.one ⟨some s93, some (s91, true), (.mv (.t s9))⟩
    (.one ⟨some s94, some (s91, true), (.len false (.t s93))⟩
    (.one ⟨some s95, some (s91, true), (.bin false .eql (.t s92) (.t s94))⟩
    (.one ⟨some s96, none, (.pick (.t s91) (.t s95) (.c (.v (.bool false))))⟩
    (.one ⟨some s97, none, (.mv (.t s96))⟩
    (.one ⟨some s98, some (s97, true), (.mv (.t s5))⟩
    (.one ⟨some s99, some (s97, true), (.callq 16 [(.t s98)])⟩
    (.one ⟨some s100, some (s97, true), (.bin false .eql (.t s99) (.c (.v (.int .i64 0))))⟩
    (.one ⟨some s101, none, (.pick (.t s97) (.t s100) (.c (.v (.bool false))))⟩
    (.one ⟨some s102, none, (.mv (.t s101))⟩
    (.one ⟨some s103, some (s102, true), (.mv (.t s5))⟩
    (.one ⟨some s104, some (s102, true), (.callq 17 [(.t s103)])⟩
    (.one ⟨some s105, some (s102, true), (.mv (.t s12))⟩
    (.one ⟨some s106, some (s102, true), (.bin false .eql (.t s104) (.t s105))⟩
    (.one ⟨some s107, none, (.pick (.t s102) (.t s106) (.c (.v (.bool false))))⟩
    (.one ⟨some s4, none, (.mv (.t s107))⟩
    .done))))))))))))))))))))
  .ret))))))))))⟩
theorem ok3 : compF Try.prog c3 Try.f3 = some ir3 := by kernel_rfl
theorem k_bowlinelaw14_GluePlain {args : List AVal} {σ : AHeap} {Q : AVal → AHeap → Prop} (hl : Nat.ble args.length 108 = true) (h : argsK (Env.full 9) 0 args fun env => evC Try.prog c3 ir3.body env σ (retQ ir3 Q)) : ACalls Try.prog 3 args σ Q :=
  acalls_of Try.func3 ok3 rfl (Nat.le_of_ble_eq_true hl) h
/- bowlinelaw14.GlueJoins -/
def c11 : Cfg := ⟨qs, [], 101, []⟩
def ir11 : IFun := ⟨2, [.tmp s4],
  (.seq (.reg (.one ⟨some s4, none, (.mv (.c (.v (.bool false))))⟩
    .done))
  (.seq (.reg (.one ⟨some s15, none, (.mv (.t s0))⟩
    (.one ⟨some s16, none, (.mv (.t s1))⟩
    (.one ⟨some s17, none, (.callq 52 [(.t s15), (.t s16)])⟩
    (.one ⟨some s14, none, (.mv (.t s17))⟩
    (.one ⟨some s18, none, (.ext (.t s14) 0)⟩
    (.one ⟨some s19, none, (.ext (.t s14) 1)⟩
    (.one ⟨some s20, none, (.ext (.t s14) 2)⟩
    (.one ⟨some s5, none, (.mv (.t s18))⟩
    (.one ⟨some s6, none, (.mv (.t s19))⟩
    (.one ⟨some s7, none, (.mv (.t s20))⟩
    .done)))))))))))
  (.seq (.seq (.reg (.one ⟨some s21, none, (.mv (.t s7))⟩
    (.one ⟨some s22, none, (.not (.t s21))⟩
    .done)))
  (.cond (.t s22) (.seq (.reg (.one ⟨some s23, none, (.callq 14 [])⟩
    (.one ⟨some s4, none, (.mv (.t s23))⟩
    .done)))
  .ret) .skip))
  (.seq (.reg (.one ⟨some s24, none, (.callq 13 [])⟩
    (.one ⟨some s8, none, (.mv (.t s24))⟩
    .done)))
  (.seq (.reg (.one ⟨some s9, none, (.mv (.c (.v (.int .i64 0))))⟩
    .done))
  (.seq (.seq (.reg (.one ⟨some s10, none, (.mv (.c (.v (.int .i64 0))))⟩
    .done))
  (.block 0 (.loop (.seq (.seq (.reg (.one ⟨some s25, none, (.mv (.t s10))⟩
    (.one ⟨some s26, none, (.mv (.t s5))⟩
    (.one ⟨some s27, none, (.len false (.t s26))⟩
    (.one ⟨some s28, none, (.bin false .lss (.t s25) (.t s27))⟩
    .done)))))
  (.cond (.t s28) .skip (.exit 0)))
  (.seq (.block 1 (.seq (.reg (.one ⟨some s32, none, (.mv (.t s8))⟩
    (.one ⟨some s33, none, (.mv (.t s5))⟩
    (.one ⟨some s34, none, (.mv (.t s10))⟩
    (.one ⟨some s35, none, (.iaddr 3 (.t s33) (.t s34))⟩
    (.one ⟨some s36, none, (.faddr 0 (.t s35))⟩
    (.one ⟨some s37, none, (.load none (.t s36))⟩
    (.one ⟨some s38, none, (.mv (.t s5))⟩
    (.one ⟨some s39, none, (.mv (.t s10))⟩
    (.one ⟨some s40, none, (.iaddr 3 (.t s38) (.t s39))⟩
    (.one ⟨some s41, none, (.faddr 1 (.t s40))⟩
    (.one ⟨some s42, none, (.load none (.t s41))⟩
    (.one ⟨some s43, none, (.call 15 [(.t s32), (.t s37), (.t s42), (.c (.v (.bool false)))])⟩
    (.one ⟨some s31, none, (.mv (.t s43))⟩
    (.one ⟨some s44, none, (.ext (.t s31) 0)⟩
    (.one ⟨some s45, none, (.ext (.t s31) 1)⟩
    (.one ⟨some s11, none, (.mv (.t s44))⟩
    (.one ⟨some s12, none, (.mv (.t s45))⟩
    .done))))))))))))))))))
  (.seq (.seq (.reg (.one ⟨some s46, none, (.mv (.t s12))⟩
    (.one ⟨some s47, none, (.bin false .neq (.t s46) (.c (.v (.int .i64 0))))⟩
    (.one ⟨some s48, none, (.mv (.t s47))⟩
    (.one ⟨some s49, some (s48, false), (.mv (.t s11))⟩
    (.one ⟨some s50, some (s48, false), (.len false (.t s49))⟩
    (.one ⟨some s51, some (s48, false), (.mv (.t s5))⟩
    (.one ⟨some s52, some (s48, false), (.mv (.t s10))⟩
    (.one ⟨some s53, some (s48, false), (.iaddr 3 (.t s51) (.t s52))⟩
    (.one ⟨some s54, some (s48, false), (.faddr 2 (.t s53))⟩
    (.one ⟨some s55, some (s48, false), (.load none (.t s54))⟩
    (.one ⟨some s56, some (s48, false), (.len false (.t s55))⟩
    (.one ⟨some s57, some (s48, false), (.bin false .neq (.t s50) (.t s56))⟩
    (.one ⟨some s58, none, (.pick (.t s48) (.c (.v (.bool true))) (.t s57))⟩
    .done))))))))))))))
  (.cond (.t s58) (.seq (.reg (.one ⟨some s4, none, (.mv (.c (.v (.bool false))))⟩
    .done))
  .ret) .skip))
  (.seq (.reg (.one ⟨some s13, none, (.mv (.c (.v (.int .i64 0))))⟩
    .done))
  (.block 2 (.loop (.seq (.seq (.reg (.one ⟨some s59, none, (.mv (.t s13))⟩
    (.one ⟨some s60, none, (.mv (.t s11))⟩
    (.one ⟨some s61, none, (.len false (.t s60))⟩
    (.one ⟨some s62, none, (.bin false .lss (.t s59) (.t s61))⟩
    .done)))))
  (.cond (.t s62) .skip (.exit 2)))
  (.seq (.block 3 (.seq (.seq (.reg (.one ⟨some s65, none, (.mv (.t s9))⟩
    (.one ⟨some s66, none, (.mv (.t s6))⟩
    (.one ⟨some s67, none, (.len false (.t s66))⟩
    (.one ⟨some s68, none, (.bin false .geq (.t s65) (.t s67))⟩
    (.one ⟨some s69, none, (.mv (.t s68))⟩
    (.one ⟨some s70, some (s69, false), (.mv (.t s11))⟩
    (.one ⟨some s71, some (s69, false), (.mv (.t s13))⟩
    (.one ⟨some s72, some (s69, false), (.iaddr 1 (.t s70) (.t s71))⟩
    (.one ⟨some s73, some (s69, false), (.load none (.t s72))⟩
    (.one ⟨some s74, some (s69, false), (.b2s (.t s73))⟩
    (.one ⟨some s75, some (s69, false), (.mv (.t s6))⟩
    (.one ⟨some s76, some (s69, false), (.mv (.t s9))⟩
    (.one ⟨some s77, some (s69, false), (.iaddr 1 (.t s75) (.t s76))⟩
    (.one ⟨some s78, some (s69, false), (.load none (.t s77))⟩
    (.one ⟨some s79, some (s69, false), (.b2s (.t s78))⟩
    (.one ⟨some s80, some (s69, false), (.bin false .neq (.t s74) (.t s79))⟩
    (.one ⟨some s81, none, (.pick (.t s69) (.c (.v (.bool true))) (.t s80))⟩
    .done))))))))))))))))))
  (.cond (.t s81) (.seq (.reg (.one ⟨some s4, none, (.mv (.c (.v (.bool false))))⟩
    .done))
  .ret) .skip))
  (.reg (.one ⟨some s82, none, (.mv (.t s9))⟩
    (.one ⟨some s83, none, (.bin false .add (.t s82) (.c (.v (.int .i64 1))))⟩
    (.one ⟨some s9, none, (.mv (.t s83))⟩
    .done))))))
  (.reg (.one ⟨some s63, none, (.mv (.t s13))⟩
    (.one ⟨some s64, none, (.bin false .add (.t s63) (.c (.v (.int .i64 1))))⟩
    (.one ⟨some s13, none, (.mv (.t s64))⟩
    .done))))))))))))
  (.reg (.one ⟨some s29, none, (.mv (.t s10))⟩
    (.one ⟨some s30, none, (.bin false .add (.t s29) (.c (.v (.int .i64 1))))⟩
    (.one ⟨some s10, none, (.mv (.t s30))⟩
    .done)))))))))
  (.seq (.reg (.one ⟨some s84, none, (.callq 14 [])⟩
    (.one ⟨some s85, none, (.mv (.t s84))⟩
    (.one ⟨some s86, some (s85, true), (.mv (.t s9))⟩
    (.one ⟨some s87, some (s85, true), (.mv (.t s6))⟩
    (.one ⟨some s88, some (s85, true), (.len false (.t s87))⟩
    (.one ⟨some s89, some (s85, true), (.bin false .eql (.t s86) (.t s88))⟩
    (.one ⟨some s90, none, (.pick (.t s85) (.t s89) (.c (.v (.bool false))))⟩
    (.one ⟨some s91, none, (.mv (.t s90))⟩
    (.one ⟨some s92, some (s91, true), (.mv (.t s8))⟩
    (.one ⟨some s93, some (s91, true), (.callq 16 [(.t s92)])⟩
    (.one ⟨some s94, some (s91, true), (.bin false .eql (.t s93) (.c (.v (.int .i64 0))))⟩
    (.one ⟨some s95, none, (.pick (.t s91) (.t s94) (.c (.v (.bool false))))⟩
    (.one ⟨some s96, none, (.mv (.t s95))⟩
    (.one ⟨some s97, some (s96, true), (.mv (.t s8))⟩
    (.one ⟨some s98, some (s96, true), (.callq 17 [(.t s97)])⟩
    (.one ⟨some s99, some (s96, true), (.bin false .eql (.t s98) (.c (.v (.int .i64 0))))⟩
    (.one ⟨some s100, none, (.pick (.t s96) (.t s99) (.c (.v (.bool false))))⟩
    (.one ⟨some s4, none, (.mv (.t s100))⟩
    .done)))))))))))))))))))
  .ret)))))))⟩
theorem ok11 : compF Try.prog c11 Try.f11 = some ir11 := by kernel_rfl
theorem k_bowlinelaw14_GlueJoins {args : List AVal} {σ : AHeap} {Q : AVal → AHeap → Prop} (hl : Nat.ble args.length 101 = true) (h : argsK (Env.full 9) 0 args fun env => evC Try.prog c11 ir11.body env σ (retQ ir11 Q)) : ACalls Try.prog 11 args σ Q :=
  acalls_of Try.func11 ok11 rfl (Nat.le_of_ble_eq_true hl) h
/- bowlinelaw14.GlueLoses -/
def c12 : Cfg := ⟨qs, [], 171, []⟩
def ir12 : IFun := ⟨3, [.tmp s6],
  (.seq (.reg (.one ⟨some s6, none, (.mv (.c (.v (.bool false))))⟩
    .done))
  (.seq (.reg (.one ⟨some s22, none, (.mv (.t s0))⟩
    (.one ⟨some s23, none, (.mv (.t s1))⟩
    (.one ⟨some s24, none, (.callq 52 [(.t s22), (.t s23)])⟩
    (.one ⟨some s21, none, (.mv (.t s24))⟩
    (.one ⟨some s25, none, (.ext (.t s21) 0)⟩
    (.one ⟨some s26, none, (.ext (.t s21) 1)⟩
    (.one ⟨some s27, none, (.ext (.t s21) 2)⟩
    (.one ⟨some s7, none, (.mv (.t s25))⟩
    (.one ⟨some s8, none, (.mv (.t s26))⟩
    (.one ⟨some s9, none, (.mv (.t s27))⟩
    .done)))))))))))
  (.seq (.seq (.reg (.one ⟨some s28, none, (.mv (.t s9))⟩
    (.one ⟨some s29, none, (.not (.t s28))⟩
    .done)))
  (.cond (.t s29) (.seq (.reg (.one ⟨some s30, none, (.callq 14 [])⟩
    (.one ⟨some s6, none, (.mv (.t s30))⟩
    .done)))
  .ret) .skip))
  (.seq (.reg (.one ⟨some s31, none, (.callq 13 [])⟩
    (.one ⟨some s10, none, (.mv (.t s31))⟩
    .done)))
  (.seq (.reg (.one ⟨some s11, none, (.mv (.c (.v (.int .i64 0))))⟩
    (.one ⟨some s12, none, (.mv (.c (.v (.int .i64 0))))⟩
    (.one ⟨some s13, none, (.mv (.c (.v (.bool false))))⟩
    (.one ⟨some s14, none, (.mv (.c (.v (.bool true))))⟩
    .done)))))
  (.seq (.seq (.reg (.one ⟨some s15, none, (.mv (.c (.v (.int .i64 0))))⟩
    .done))
  (.block 0 (.loop (.seq (.seq (.reg (.one ⟨some s32, none, (.mv (.t s15))⟩
    (.one ⟨some s33, none, (.mv (.t s7))⟩
    (.one ⟨some s34, none, (.len false (.t s33))⟩
    (.one ⟨some s35, none, (.bin false .lss (.t s32) (.t s34))⟩
    .done)))))
  (.cond (.t s35) .skip (.exit 0)))
  (.seq (.block 1 (.seq (.seq (.reg (.one ⟨some s38, none, (.mv (.t s15))⟩
    (.one ⟨some s39, none, (.mv (.t s2))⟩
    (.one ⟨some s40, none, (.len false (.t s39))⟩
    (.one ⟨some s41, none, (.bin false .lss (.t s38) (.t s40))⟩
    (.one ⟨some s42, none, (.mv (.t s41))⟩
    (.one ⟨some s43, some (s42, true), (.mv (.t s2))⟩
    (.one ⟨some s44, some (s42, true), (.mv (.t s15))⟩
    (.one ⟨some s45, some (s42, true), (.iaddr 1 (.t s43) (.t s44))⟩
    (.one ⟨some s46, some (s42, true), (.load none (.t s45))⟩
    (.one ⟨some s47, some (s42, true), (.bin false .and (.t s46) (.c (.v (.int .u8 1))))⟩
    (.one ⟨some s48, some (s42, true), (.bin false .eql (.t s47) (.c (.v (.int .u8 1))))⟩
    (.one ⟨some s49, none, (.pick (.t s42) (.t s48) (.c (.v (.bool false))))⟩
    .done)))))))))))))
  (.cond (.t s49) (.seq (.reg (.one ⟨some s13, none, (.mv (.c (.v (.bool true))))⟩
    (.one ⟨some s14, none, (.mv (.c (.v (.bool false))))⟩
    .done)))
  (.seq (.reg (.one ⟨some s50, none, (.mv (.t s12))⟩
    (.one ⟨some s51, none, (.mv (.t s7))⟩
    (.one ⟨some s52, none, (.mv (.t s15))⟩
    (.one ⟨some s53, none, (.iaddr 3 (.t s51) (.t s52))⟩
    (.one ⟨some s54, none, (.faddr 2 (.t s53))⟩
    (.one ⟨some s55, none, (.load none (.t s54))⟩
    (.one ⟨some s56, none, (.len false (.t s55))⟩
    (.one ⟨some s57, none, (.bin false .add (.t s50) (.t s56))⟩
    (.one ⟨some s12, none, (.mv (.t s57))⟩
    .done))))))))))
  (.exit 1))) .skip))
  (.seq (.reg (.one ⟨some s59, none, (.mv (.t s10))⟩
    (.one ⟨some s60, none, (.mv (.t s7))⟩
    (.one ⟨some s61, none, (.mv (.t s15))⟩
    (.one ⟨some s62, none, (.iaddr 3 (.t s60) (.t s61))⟩
    (.one ⟨some s63, none, (.faddr 0 (.t s62))⟩
    (.one ⟨some s64, none, (.load none (.t s63))⟩
    (.one ⟨some s65, none, (.mv (.t s7))⟩
    (.one ⟨some s66, none, (.mv (.t s15))⟩
    (.one ⟨some s67, none, (.iaddr 3 (.t s65) (.t s66))⟩
    (.one ⟨some s68, none, (.faddr 1 (.t s67))⟩
    (.one ⟨some s69, none, (.load none (.t s68))⟩
    (.one ⟨some s70, none, (.mv (.t s13))⟩
    (.one ⟨some s71, none, (.call 15 [(.t s59), (.t s64), (.t s69), (.t s70)])⟩
    (.one ⟨some s58, none, (.mv (.t s71))⟩
    (.one ⟨some s72, none, (.ext (.t s58) 0)⟩
    (.one ⟨some s73, none, (.ext (.t s58) 1)⟩
    (.one ⟨some s16, none, (.mv (.t s72))⟩
    (.one ⟨some s17, none, (.mv (.t s73))⟩
    .done)))))))))))))))))))
  (.seq (.seq (.reg (.one ⟨some s74, none, (.mv (.t s17))⟩
    (.one ⟨some s75, none, (.bin false .neq (.t s74) (.c (.v (.int .i64 0))))⟩
    (.one ⟨some s76, none, (.mv (.t s75))⟩
    (.one ⟨some s77, some (s76, false), (.mv (.t s16))⟩
    (.one ⟨some s78, some (s76, false), (.len false (.t s77))⟩
    (.one ⟨some s79, some (s76, false), (.mv (.t s7))⟩
    (.one ⟨some s80, some (s76, false), (.mv (.t s15))⟩
    (.one ⟨some s81, some (s76, false), (.iaddr 3 (.t s79) (.t s80))⟩
    (.one ⟨some s82, some (s76, false), (.faddr 2 (.t s81))⟩
    (.one ⟨some s83, some (s76, false), (.load none (.t s82))⟩
    (.one ⟨some s84, some (s76, false), (.len false (.t s83))⟩
    (.one ⟨some s85, some (s76, false), (.bin false .gtr (.t s78) (.t s84))⟩
    (.one ⟨some s86, none, (.pick (.t s76) (.c (.v (.bool true))) (.t s85))⟩
    .done))))))))))))))
  (.cond (.t s86) (.seq (.reg (.one ⟨some s6, none, (.mv (.c (.v (.bool false))))⟩
    .done))
  .ret) .skip))
  (.seq (.reg (.one ⟨some s87, none, (.mv (.t s7))⟩
    (.one ⟨some s88, none, (.mv (.t s15))⟩
    (.one ⟨some s89, none, (.iaddr 3 (.t s87) (.t s88))⟩
    (.one ⟨some s90, none, (.faddr 2 (.t s89))⟩
    (.one ⟨some s91, none, (.load none (.t s90))⟩
    (.one ⟨some s92, none, (.len false (.t s91))⟩
    (.one ⟨some s18, none, (.mv (.t s92))⟩
    .done))))))))
  (.seq (.seq (.reg (.one ⟨some s93, none, (.mv (.t s14))⟩
    (.one ⟨some s94, none, (.not (.t s93))⟩
    (.one ⟨some s95, none, (.mv (.t s94))⟩
    (.one ⟨some s96, some (s95, true), (.mv (.t s7))⟩
    (.one ⟨some s97, some (s95, true), (.mv (.t s15))⟩
    (.one ⟨some s98, some (s95, true), (.iaddr 3 (.t s96) (.t s97))⟩
    (.one ⟨some s99, some (s95, true), (.faddr 0 (.t s98))⟩
    (.one ⟨some s100, some (s95, true), (.load none (.t s99))⟩
    (.one ⟨some s101, some (s95, true), (.bin false .geq (.t s100) (.c (.v (.int .i64 2))))⟩
    (.one ⟨some s102, none, (.pick (.t s95) (.t s101) (.c (.v (.bool false))))⟩
    (.one ⟨some s103, none, (.mv (.t s102))⟩
    (.one ⟨some s104, some (s103, true), (.mv (.t s18))⟩
    (.one ⟨some s105, some (s103, true), (.bin false .gtr (.t s104) (.c (.v (.int .i64 0))))⟩
    (.one ⟨some s106, none, (.pick (.t s103) (.t s105) (.c (.v (.bool false))))⟩
    .done)))))))))))))))
  (.cond (.t s106) (.reg (.one ⟨some s107, none, (.mv (.t s18))⟩
    (.one ⟨some s108, none, (.bin false .sub (.t s107) (.c (.v (.int .i64 1))))⟩
    (.one ⟨some s18, none, (.mv (.t s108))⟩
    .done)))) .skip))
  (.seq (.seq (.reg (.one ⟨some s109, none, (.mv (.t s16))⟩
    (.one ⟨some s110, none, (.len false (.t s109))⟩
    (.one ⟨some s111, none, (.mv (.t s18))⟩
    (.one ⟨some s112, none, (.bin false .lss (.t s110) (.t s111))⟩
    .done)))))
  (.cond (.t s112) (.seq (.reg (.one ⟨some s6, none, (.mv (.c (.v (.bool false))))⟩
    .done))
  .ret) .skip))
  (.seq (.reg (.one ⟨some s113, none, (.mv (.t s12))⟩
    (.one ⟨some s114, none, (.mv (.t s7))⟩
    (.one ⟨some s115, none, (.mv (.t s15))⟩
    (.one ⟨some s116, none, (.iaddr 3 (.t s114) (.t s115))⟩
    (.one ⟨some s117, none, (.faddr 2 (.t s116))⟩
    (.one ⟨some s118, none, (.load none (.t s117))⟩
    (.one ⟨some s119, none, (.len false (.t s118))⟩
    (.one ⟨some s120, none, (.bin false .add (.t s113) (.t s119))⟩
    (.one ⟨some s121, none, (.mv (.t s16))⟩
    (.one ⟨some s122, none, (.len false (.t s121))⟩
    (.one ⟨some s123, none, (.bin false .sub (.t s120) (.t s122))⟩
    (.one ⟨some s19, none, (.mv (.t s123))⟩
    .done)))))))))))))
  (.seq (.seq (.reg (.one ⟨some s20, none, (.mv (.c (.v (.int .i64 0))))⟩
    .done))
  (.block 2 (.loop (.seq (.seq (.reg (.one ⟨some s124, none, (.mv (.t s20))⟩
    (.one ⟨some s125, none, (.mv (.t s16))⟩
    (.one ⟨some s126, none, (.len false (.t s125))⟩
    (.one ⟨some s127, none, (.bin false .lss (.t s124) (.t s126))⟩
    .done)))))
  (.cond (.t s127) .skip (.exit 2)))
  (.seq (.block 3 (.seq (.seq (.reg (.one ⟨some s130, none, (.mv (.t s19))⟩
    (.one ⟨some s131, none, (.mv (.t s20))⟩
    (.one ⟨some s132, none, (.bin false .add (.t s130) (.t s131))⟩
    (.one ⟨some s133, none, (.mv (.t s11))⟩
    (.one ⟨some s134, none, (.bin false .lss (.t s132) (.t s133))⟩
    (.one ⟨some s135, none, (.mv (.t s134))⟩
    (.one ⟨some s136, some (s135, false), (.mv (.t s19))⟩
    (.one ⟨some s137, some (s135, false), (.mv (.t s20))⟩
    (.one ⟨some s138, some (s135, false), (.bin false .add (.t s136) (.t s137))⟩
    (.one ⟨some s139, some (s135, false), (.mv (.t s8))⟩
    (.one ⟨some s140, some (s135, false), (.len false (.t s139))⟩
    (.one ⟨some s141, some (s135, false), (.bin false .geq (.t s138) (.t s140))⟩
    (.one ⟨some s142, none, (.pick (.t s135) (.c (.v (.bool true))) (.t s141))⟩
    (.one ⟨some s143, none, (.mv (.t s142))⟩
    (.one ⟨some s144, some (s143, false), (.mv (.t s16))⟩
    (.one ⟨some s145, some (s143, false), (.mv (.t s20))⟩
    (.one ⟨some s146, some (s143, false), (.iaddr 1 (.t s144) (.t s145))⟩
    (.one ⟨some s147, some (s143, false), (.load none (.t s146))⟩
    (.one ⟨some s148, some (s143, false), (.b2s (.t s147))⟩
    (.one ⟨some s149, some (s143, false), (.mv (.t s8))⟩
    (.one ⟨some s150, some (s143, false), (.mv (.t s19))⟩
    (.one ⟨some s151, some (s143, false), (.mv (.t s20))⟩
    (.one ⟨some s152, some (s143, false), (.bin false .add (.t s150) (.t s151))⟩
    (.one ⟨some s153, some (s143, false), (.iaddr 1 (.t s149) (.t s152))⟩
    (.one ⟨some s154, some (s143, false), (.load none (.t s153))⟩
    (.one ⟨some s155, some (s143, false), (.b2s (.t s154))⟩
    (.one ⟨some s156, some (s143, false), (.bin false .neq (.t s148) (.t s155))⟩
    (.one ⟨some s157, none, (.pick (.t s143) (.c (.v (.bool true))) (.t s156))⟩
    .done)))))))))))))))))))))))))))))
  (.cond (.t s157) (.seq (.reg (.one ⟨some s6, none, (.mv (.c (.v (.bool false))))⟩
    .done))
  .ret) .skip))
  (.reg (.one ⟨some s158, none, (.mv (.t s19))⟩
    (.one ⟨some s159, none, (.mv (.t s20))⟩
    (.one ⟨some s160, none, (.bin false .add (.t s158) (.t s159))⟩
    (.one ⟨some s161, none, (.bin false .add (.t s160) (.c (.v (.int .i64 1))))⟩
    (.one ⟨some s11, none, (.mv (.t s161))⟩
    .done))))))))
  (.reg (.one ⟨some s128, none, (.mv (.t s20))⟩
    (.one ⟨some s129, none, (.bin false .add (.t s128) (.c (.v (.int .i64 1))))⟩
    (.one ⟨some s20, none, (.mv (.t s129))⟩
    .done)))))))))
  (.seq (.reg (.one ⟨some s162, none, (.mv (.t s12))⟩
    (.one ⟨some s163, none, (.mv (.t s7))⟩
    (.one ⟨some s164, none, (.mv (.t s15))⟩
    (.one ⟨some s165, none, (.iaddr 3 (.t s163) (.t s164))⟩
    (.one ⟨some s166, none, (.faddr 2 (.t s165))⟩
    (.one ⟨some s167, none, (.load none (.t s166))⟩
    (.one ⟨some s168, none, (.len false (.t s167))⟩
    (.one ⟨some s169, none, (.bin false .add (.t s162) (.t s168))⟩
    (.one ⟨some s12, none, (.mv (.t s169))⟩
    .done))))))))))
  (.reg (.one ⟨some s13, none, (.mv (.c (.v (.bool false))))⟩
    .done))))))))))))
  (.reg (.one ⟨some s36, none, (.mv (.t s15))⟩
    (.one ⟨some s37, none, (.bin false .add (.t s36) (.c (.v (.int .i64 1))))⟩
    (.one ⟨some s15, none, (.mv (.t s37))⟩
    .done)))))))))
  (.seq (.reg (.one ⟨some s170, none, (.callq 14 [])⟩
    (.one ⟨some s6, none, (.mv (.t s170))⟩
    .done)))
  .ret)))))))⟩
theorem ok12 : compF Try.prog c12 Try.f12 = some ir12 := by kernel_rfl
theorem k_bowlinelaw14_GlueLoses {args : List AVal} {σ : AHeap} {Q : AVal → AHeap → Prop} (hl : Nat.ble args.length 171 = true) (h : argsK (Env.full 9) 0 args fun env => evC Try.prog c12 ir12.body env σ (retQ ir12 Q)) : ACalls Try.prog 12 args σ Q :=
  acalls_of Try.func12 ok12 rfl (Nat.le_of_ble_eq_true hl) h
/- bowlinelaw14.alive -/
def c14 : Cfg := ⟨qs, [], 100, [14, 16, 26, 34, 42]⟩
def ir14 : IFun := ⟨0, [.tmp s0],
  (.seq (.reg (.one ⟨some s0, none, (.mv (.c (.v (.bool false))))⟩
    .done))
  (.seq (.reg (.one ⟨some s11, none, (.callq 13 [])⟩
    (.one ⟨some s1, none, (.mv (.t s11))⟩
    .done)))
  (.seq (.reg (.one ⟨some s13, none, (.mv (.t s1))⟩
    (.one ⟨some s14, none, (.rowT 1 [(.c (.v (.int .u8 120)))])⟩
    (.one ⟨some s15, none, (.mark (.t s14))⟩
    (.one ⟨some s16, none, (.rowT 1 [(.c (.v (.int .u8 97))), (.c (.v (.int .u8 98)))])⟩
    (.one ⟨some s17, none, (.mark (.t s16))⟩
    (.one ⟨some s18, none, (.row 1 [(.t s15), (.t s17)])⟩
    (.one ⟨some s19, none, (.call 15 [(.t s13), (.c (.v (.int .i64 1))), (.t s18), (.c (.v (.bool false)))])⟩
    (.one ⟨some s12, none, (.mv (.t s19))⟩
    (.one ⟨some s20, none, (.ext (.t s12) 0)⟩
    (.one ⟨some s21, none, (.ext (.t s12) 1)⟩
    (.one ⟨some s2, none, (.mv (.t s20))⟩
    (.one ⟨some s3, none, (.mv (.t s21))⟩
    .done)))))))))))))
  (.seq (.reg (.one ⟨some s22, none, (.mv (.t s1))⟩
    (.one ⟨some s23, none, (.callq 16 [(.t s22)])⟩
    (.one ⟨some s4, none, (.mv (.t s23))⟩
    .done))))
  (.seq (.reg (.one ⟨some s25, none, (.mv (.t s1))⟩
    (.one ⟨some s26, none, (.rowT 1 [(.c (.v (.int .u8 99)))])⟩
    (.one ⟨some s27, none, (.mark (.t s26))⟩
    (.one ⟨some s28, none, (.row 1 [(.t s27)])⟩
    (.one ⟨some s29, none, (.call 15 [(.t s25), (.c (.v (.int .i64 2))), (.t s28), (.c (.v (.bool false)))])⟩
    (.one ⟨some s24, none, (.mv (.t s29))⟩
    (.one ⟨some s30, none, (.ext (.t s24) 0)⟩
    (.one ⟨some s31, none, (.ext (.t s24) 1)⟩
    (.one ⟨some s5, none, (.mv (.t s30))⟩
    (.one ⟨some s6, none, (.mv (.t s31))⟩
    .done)))))))))))
  (.seq (.reg (.one ⟨some s33, none, (.mv (.t s1))⟩
    (.one ⟨some s34, none, (.rowT 1 [(.c (.v (.int .u8 100)))])⟩
    (.one ⟨some s35, none, (.mark (.t s34))⟩
    (.one ⟨some s36, none, (.row 1 [(.t s35)])⟩
    (.one ⟨some s37, none, (.call 15 [(.t s33), (.c (.v (.int .i64 2))), (.t s36), (.c (.v (.bool false)))])⟩
    (.one ⟨some s32, none, (.mv (.t s37))⟩
    (.one ⟨some s38, none, (.ext (.t s32) 0)⟩
    (.one ⟨some s39, none, (.ext (.t s32) 1)⟩
    (.one ⟨some s7, none, (.mv (.t s38))⟩
    (.one ⟨some s8, none, (.mv (.t s39))⟩
    .done)))))))))))
  (.seq (.reg (.one ⟨some s41, none, (.mv (.t s1))⟩
    (.one ⟨some s42, none, (.rowT 1 [(.c (.v (.int .u8 100)))])⟩
    (.one ⟨some s43, none, (.mark (.t s42))⟩
    (.one ⟨some s44, none, (.row 1 [(.t s43)])⟩
    (.one ⟨some s45, none, (.call 15 [(.t s41), (.c (.v (.int .i64 4))), (.t s44), (.c (.v (.bool false)))])⟩
    (.one ⟨some s40, none, (.mv (.t s45))⟩
    (.one ⟨some s46, none, (.ext (.t s40) 0)⟩
    (.one ⟨some s47, none, (.ext (.t s40) 1)⟩
    (.one ⟨some s9, none, (.mv (.t s46))⟩
    (.one ⟨some s10, none, (.mv (.t s47))⟩
    .done)))))))))))
  (.seq (.reg (.one ⟨some s48, none, (.mv (.t s2))⟩
    (.one ⟨some s49, none, (.len false (.t s48))⟩
    (.one ⟨some s50, none, (.bin false .eql (.t s49) (.c (.v (.int .i64 1))))⟩
    (.one ⟨some s51, none, (.mv (.t s50))⟩
    (.one ⟨some s52, some (s51, true), (.mv (.t s2))⟩
    (.one ⟨some s53, some (s51, true), (.iaddr 1 (.t s52) (.c (.v (.int .i64 0))))⟩
    (.one ⟨some s54, some (s51, true), (.load none (.t s53))⟩
    (.one ⟨some s55, some (s51, true), (.b2s (.t s54))⟩
    (.one ⟨some s56, some (s51, true), (.bin false .eql (.t s55) (.c (.v (.string ⟨#[120]⟩))))⟩
    (.one ⟨some s57, none, (.pick (.t s51) (.t s56) (.c (.v (.bool false))))⟩
    (.one ⟨some s58, none, (.mv (.t s57))⟩
    (.one ⟨some s59, some (s58, true), (.mv (.t s3))⟩
    (.one ⟨some s60, some (s58, true), (.bin false .eql (.t s59) (.c (.v (.int .i64 0))))⟩
    (.one ⟨some s61, none, (.pick (.t s58) (.t s60) (.c (.v (.bool false))))⟩
    (.one ⟨some s62, none, (.mv (.t s61))⟩
    (.one ⟨some s63, some (s62, true), (.mv (.t s4))⟩
    (.one ⟨some s64, some (s62, true), (.bin false .eql (.t s63) (.c (.v (.int .i64 2))))⟩
    (.one ⟨some s65, none, (.pick (.t s62) (.t s64) (.c (.v (.bool false))))⟩
    (.one ⟨some s66, none, (.mv (.t s65))⟩
    (.one ⟨some s67, some (s66, true), (.mv (.t s5))⟩
    (.one ⟨some s68, some (s66, true), (.len false (.t s67))⟩
    (.one ⟨some s69, some (s66, true), (.bin false .eql (.t s68) (.c (.v (.int .i64 1))))⟩
    (.one ⟨some s70, none, (.pick (.t s66) (.t s69) (.c (.v (.bool false))))⟩
    (.one ⟨some s71, none, (.mv (.t s70))⟩
    (.one ⟨some s72, some (s71, true), (.mv (.t s5))⟩
    (.one ⟨some s73, some (s71, true), (.iaddr 1 (.t s72) (.c (.v (.int .i64 0))))⟩
    (.one ⟨some s74, some (s71, true), (.load none (.t s73))⟩
    (.one ⟨some s75, some (s71, true), (.b2s (.t s74))⟩
    (.one ⟨some s76, some (s71, true), (.bin false .eql (.t s75) (.c (.v (.string ⟨#[97, 98, 99]⟩))))⟩
    (.one ⟨some s77, none, (.pick (.t s71) (.t s76) (.c (.v (.bool false))))⟩
    (.one ⟨some s78, none, (.mv (.t s77))⟩
    (.one ⟨some s79, some (s78, true), (.mv (.t s6))⟩
    (.one ⟨some s80, some (s78, true), (.bin false .eql (.t s79) (.c (.v (.int .i64 0))))⟩
    (.one ⟨some s81, none, (.pick (.t s78) (.t s80) (.c (.v (.bool false))))⟩
    (.one ⟨some s82, none, (.mv (.t s81))⟩
    (.one ⟨some s83, some (s82, true), (.mv (.t s7))⟩
    (.one ⟨some s84, some (s82, true), (.len false (.t s83))⟩
    (.one ⟨some s85, some (s82, true), (.bin false .eql (.t s84) (.c (.v (.int .i64 0))))⟩
    (.one ⟨some s86, none, (.pick (.t s82) (.t s85) (.c (.v (.bool false))))⟩
    (.one ⟨some s87, none, (.mv (.t s86))⟩
    (.one ⟨some s88, some (s87, true), (.mv (.t s8))⟩
    (.one ⟨some s89, some (s87, true), (.bin false .eql (.t s88) (.c (.v (.int .i64 0))))⟩
    (.one ⟨some s90, none, (.pick (.t s87) (.t s89) (.c (.v (.bool false))))⟩
    (.one ⟨some s91, none, (.mv (.t s90))⟩
    (.one ⟨some s92, some (s91, true), (.mv (.t s10))⟩
    (.one ⟨some s93, some (s91, true), (.bin false .eql (.t s92) (.c (.v (.int .i64 1))))⟩
    (.one ⟨some s94, none, (.pick (.t s91) (.t s93) (.c (.v (.bool false))))⟩
    (.one ⟨some s95, none, (.mv (.t s94))⟩
    (.one ⟨some s96, some (s95, true), (.mv (.t s1))⟩
    (.one ⟨some s97, some (s95, true), (.callq 17 [(.t s96)])⟩
    (.one ⟨some s98, some (s95, true), (.bin false .eql (.t s97) (.c (.v (.int .i64 1))))⟩
    (.one ⟨some s99, none, (.pick (.t s95) (.t s98) (.c (.v (.bool false))))⟩
    (.one ⟨some s0, none, (.mv (.t s99))⟩
    .done))))))))))))))))))))))))))))))))))))))))))))))))))))))
  .ret))))))))⟩
theorem ok14 : compF Try.prog c14 Try.f14 = some ir14 := by kernel_rfl
theorem k_bowlinelaw14_alive {args : List AVal} {σ : AHeap} {Q : AVal → AHeap → Prop} (hl : Nat.ble args.length 100 = true) (h : argsK (Env.full 9) 0 args fun env => evC Try.prog c14 ir14.body env σ (retQ ir14 Q)) : ACalls Try.prog 14 args σ Q :=
  acalls_of Try.func14 ok14 rfl (Nat.le_of_ble_eq_true hl) h
/- bowlinelaw14.pieces -/
def c52 : Cfg := ⟨qs, [], 101, []⟩
def ir52 : IFun := ⟨2, [.tmp s4, .tmp s5, .tmp s6],
  (.seq (.reg (.one ⟨some s4, none, (.mv (.c (.slice 3 [] .full)))⟩
    (.one ⟨some s5, none, (.mv (.c (.slice 1 [] .full)))⟩
    (.one ⟨some s6, none, (.mv (.c (.v (.bool false))))⟩
    .done))))
  (.seq (.reg (.one ⟨some s18, none, (.callq 24 [(.c (.v (.int .i64 20000)))])⟩
    (.one ⟨some s17, none, (.mv (.t s18))⟩
    (.one ⟨some s19, none, (.ext (.t s17) 0)⟩
    (.one ⟨some s20, none, (.ext (.t s17) 1)⟩
    (.one ⟨some s7, none, (.mv (.t s19))⟩
    (.one ⟨some s8, none, (.mv (.t s20))⟩
    .done)))))))
  (.seq (.seq (.reg (.one ⟨some s21, none, (.mv (.t s8))⟩
    (.one ⟨some s22, none, (.bin false .neq (.t s21) (.c (.v (.int .i64 0))))⟩
    (.one ⟨some s23, none, (.mv (.t s22))⟩
    (.one ⟨some s24, some (s23, false), (.mv (.t s7))⟩
    (.one ⟨some s25, some (s23, false), (.eqNil 1 false (.t s24))⟩
    (.one ⟨some s26, none, (.pick (.t s23) (.c (.v (.bool true))) (.t s25))⟩
    (.one ⟨some s27, none, (.mv (.t s26))⟩
    (.one ⟨some s28, some (s27, false), (.mv (.t s1))⟩
    (.one ⟨some s29, some (s27, false), (.len false (.t s28))⟩
    (.one ⟨some s30, some (s27, false), (.bin false .eql (.t s29) (.c (.v (.int .i64 0))))⟩
    (.one ⟨some s31, none, (.pick (.t s27) (.c (.v (.bool true))) (.t s30))⟩
    .done))))))))))))
  (.cond (.t s31) (.seq (.reg (.one ⟨some s4, none, (.mv (.c (.slice 3 [] .full)))⟩
    (.one ⟨some s5, none, (.mv (.c (.slice 1 [] .full)))⟩
    (.one ⟨some s6, none, (.mv (.c (.v (.bool false))))⟩
    .done))))
  .ret) .skip))
  (.seq (.reg (.one ⟨some s9, none, (.mv (.c (.slice 3 [] .full)))⟩
    .done))
  (.seq (.reg (.one ⟨some s10, none, (.mv (.c (.slice 1 [] .full)))⟩
    .done))
  (.seq (.seq (.reg (.one ⟨some s11, none, (.mv (.c (.v (.int .i64 0))))⟩
    .done))
  (.block 0 (.loop (.seq (.seq (.reg (.one ⟨some s32, none, (.mv (.t s11))⟩
    (.one ⟨some s33, none, (.mv (.t s0))⟩
    (.one ⟨some s34, none, (.len false (.t s33))⟩
    (.one ⟨some s35, none, (.bin false .lss (.t s32) (.t s34))⟩
    (.one ⟨some s36, none, (.mv (.t s35))⟩
    (.one ⟨some s37, some (s36, true), (.mv (.t s11))⟩
    (.one ⟨some s38, some (s36, true), (.bin false .lss (.t s37) (.c (.v (.int .i64 20))))⟩
    (.one ⟨some s39, none, (.pick (.t s36) (.t s38) (.c (.v (.bool false))))⟩
    .done)))))))))
  (.cond (.t s39) .skip (.exit 0)))
  (.seq (.block 1 (.seq (.seq (.reg (.one ⟨some s42, none, (.mv (.t s0))⟩
    (.one ⟨some s43, none, (.mv (.t s11))⟩
    (.one ⟨some s44, none, (.iaddr 1 (.t s42) (.t s43))⟩
    (.one ⟨some s45, none, (.load none (.t s44))⟩
    (.one ⟨some s46, none, (.len false (.t s45))⟩
    (.one ⟨some s47, none, (.bin false .gtr (.t s46) (.c (.v (.int .i64 1100))))⟩
    .done)))))))
  (.cond (.t s47) (.seq (.reg (.one ⟨some s4, none, (.mv (.c (.slice 3 [] .full)))⟩
    (.one ⟨some s5, none, (.mv (.c (.slice 1 [] .full)))⟩
    (.one ⟨some s6, none, (.mv (.c (.v (.bool false))))⟩
    .done))))
  .ret) .skip))
  (.seq (.reg (.one ⟨some s49, none, (.mv (.t s7))⟩
    (.one ⟨some s50, none, (.mv (.t s0))⟩
    (.one ⟨some s51, none, (.mv (.t s11))⟩
    (.one ⟨some s52, none, (.iaddr 1 (.t s50) (.t s51))⟩
    (.one ⟨some s53, none, (.load none (.t s52))⟩
    (.one ⟨some s54, none, (.call 26 [(.t s49), (.t s53)])⟩
    (.one ⟨some s48, none, (.mv (.t s54))⟩
    (.one ⟨some s55, none, (.ext (.t s48) 0)⟩
    (.one ⟨some s56, none, (.ext (.t s48) 1)⟩
    (.one ⟨some s12, none, (.mv (.t s55))⟩
    (.one ⟨some s13, none, (.mv (.t s56))⟩
    .done))))))))))))
  (.seq (.reg (.one ⟨some s57, none, (.mv (.t s13))⟩
    (.one ⟨some s58, none, (.bin false .eql (.t s57) (.c (.v (.int .i64 0))))⟩
    .done)))
  (.cond (.t s58) (.reg (.one ⟨some s59, none, (.mv (.t s10))⟩
    (.one ⟨some s60, none, (.mv (.t s0))⟩
    (.one ⟨some s61, none, (.mv (.t s11))⟩
    (.one ⟨some s62, none, (.iaddr 1 (.t s60) (.t s61))⟩
    (.one ⟨some s63, none, (.load none (.t s62))⟩
    (.one ⟨some s64, none, (.row 1 [(.t s63)])⟩
    (.one ⟨some s65, none, (.app 1 24 (.t s59) (.t s64))⟩
    (.one ⟨some s10, none, (.mv (.t s65))⟩
    .done))))))))) .skip)))))
  (.reg (.one ⟨some s40, none, (.mv (.t s11))⟩
    (.one ⟨some s41, none, (.bin false .add (.t s40) (.c (.v (.int .i64 1))))⟩
    (.one ⟨some s11, none, (.mv (.t s41))⟩
    .done)))))))))
  (.seq (.seq (.reg (.one ⟨some s14, none, (.mv (.c (.v (.int .i64 0))))⟩
    .done))
  (.block 2 (.loop (.seq (.seq (.reg (.one ⟨some s66, none, (.mv (.t s7))⟩
    (.one ⟨some s67, none, (.callq 28 [(.t s66)])⟩
    (.one ⟨some s68, none, (.bin false .gtr (.t s67) (.c (.v (.int .i64 0))))⟩
    (.one ⟨some s69, none, (.mv (.t s68))⟩
    (.one ⟨some s70, some (s69, true), (.mv (.t s14))⟩
    (.one ⟨some s71, some (s69, true), (.bin false .lss (.t s70) (.c (.v (.int .i64 3000))))⟩
    (.one ⟨some s72, none, (.pick (.t s69) (.t s71) (.c (.v (.bool false))))⟩
    .done))))))))
  (.cond (.t s72) .skip (.exit 2)))
  (.seq (.block 3 (.seq (.reg (.one ⟨some s76, none, (.mv (.t s7))⟩
    (.one ⟨some s77, none, (.mv (.t s1))⟩
    (.one ⟨some s78, none, (.mv (.t s14))⟩
    (.one ⟨some s79, none, (.mv (.t s1))⟩
    (.one ⟨some s80, none, (.len false (.t s79))⟩
    (.one ⟨some s81, none, (.bin false .rem (.t s78) (.t s80))⟩
    (.one ⟨some s82, none, (.iaddr 1 (.t s77) (.t s81))⟩
    (.one ⟨some s83, none, (.load none (.t s82))⟩
    (.one ⟨some s84, none, (.conv .i64 (.t s83))⟩
    (.one ⟨some s85, none, (.bin false .rem (.t s84) (.c (.v (.int .i64 400))))⟩
    (.one ⟨some s86, none, (.bin false .add (.c (.v (.int .i64 20))) (.t s85))⟩
    (.one ⟨some s87, none, (.call 71 [(.t s76), (.t s86), (.c (.v (.int .i64 11)))])⟩
    (.one ⟨some s75, none, (.mv (.t s87))⟩
    (.one ⟨some s88, none, (.ext (.t s75) 0)⟩
    (.one ⟨some s89, none, (.ext (.t s75) 1)⟩
    (.one ⟨some s15, none, (.new [(.v (.int .i64 0)), (.slice 1 [] .full), (.slice 1 [] .full)])⟩
    (.one ⟨none, none, (.store 3 (.t s15) (.t s88))⟩
    (.one ⟨some s16, none, (.mv (.t s89))⟩
    .done)))))))))))))))))))
  (.seq (.seq (.reg (.one ⟨some s90, none, (.mv (.t s16))⟩
    (.one ⟨some s91, none, (.bin false .neq (.t s90) (.c (.v (.int .i64 0))))⟩
    .done)))
  (.cond (.t s91) (.seq (.reg (.one ⟨some s4, none, (.mv (.c (.slice 3 [] .full)))⟩
    (.one ⟨some s5, none, (.mv (.c (.slice 1 [] .full)))⟩
    (.one ⟨some s6, none, (.mv (.c (.v (.bool false))))⟩
    .done))))
  .ret) .skip))
  (.reg (.one ⟨some s92, none, (.mv (.t s9))⟩
    (.one ⟨some s93, none, (.load (some 3) (.t s15))⟩
    (.one ⟨some s94, none, (.row 3 [(.t s93)])⟩
    (.one ⟨some s95, none, (.app 3 56 (.t s92) (.t s94))⟩
    (.one ⟨some s9, none, (.mv (.t s95))⟩
    .done)))))))))
  (.reg (.one ⟨some s73, none, (.mv (.t s14))⟩
    (.one ⟨some s74, none, (.bin false .add (.t s73) (.c (.v (.int .i64 1))))⟩
    (.one ⟨some s14, none, (.mv (.t s74))⟩
    .done)))))))))
  (.seq (.reg (.one ⟨some s96, none, (.mv (.t s9))⟩
    (.one ⟨some s97, none, (.mv (.t s10))⟩
    (.one ⟨some s98, none, (.mv (.t s7))⟩
    (.one ⟨some s99, none, (.callq 28 [(.t s98)])⟩
    (.one ⟨some s100, none, (.bin false .eql (.t s99) (.c (.v (.int .i64 0))))⟩
    (.one ⟨some s4, none, (.mv (.t s96))⟩
    (.one ⟨some s5, none, (.mv (.t s97))⟩
    (.one ⟨some s6, none, (.mv (.t s100))⟩
    .done)))))))))
  .ret))))))))⟩
theorem ok52 : compF Try.prog c52 Try.f52 = some ir52 := by kernel_rfl
theorem k_bowlinelaw14_pieces {args : List AVal} {σ : AHeap} {Q : AVal → AHeap → Prop} (hl : Nat.ble args.length 101 = true) (h : argsK (Env.full 9) 0 args fun env => evC Try.prog c52 ir52.body env σ (retQ ir52 Q)) : ACalls Try.prog 52 args σ Q :=
  acalls_of Try.func52 ok52 rfl (Nat.le_of_ble_eq_true hl) h
end Go.Proofs.Ytiohpnkfcaahbaa
/-
  Glues: what must come of fixed calls.
-/
namespace Go.Proofs.Ytiohpnkfcaahbaa
set_option linter.unusedVariables false
set_option linter.unusedSimpArgs false
open Go Go.Am

set_option maxRecDepth 20000 in
theorem alive14 (σ : AHeap) : ACalls Try.prog i_bowlinelaw14_alive [] σ fun v σ' => v = boolv true ∧ σ' = σ := by
  refine k_bowlinelaw14_alive rfl ?_
  ((conv => whnf); (repeat ((first | with_reducible refine abr_true rfl ?_ | with_reducible refine abr_false rfl ?_ | with_reducible refine abr_yes rfl ?_ | refine abr_yes (by decide) ?_ | refine abr_no (by decide) ?_ | with_reducible refine abr_same_ne ?_); (conv => whnf))))
  refine acall (gNew _) ?_
  rintro v σ1 ⟨id, rfl, w1⟩
  refine ⟨?_, w1.ext⟩
  ((conv => whnf); (repeat ((first | with_reducible refine abr_true rfl ?_ | with_reducible refine abr_false rfl ?_ | with_reducible refine abr_yes rfl ?_ | refine abr_yes (by decide) ?_ | refine abr_no (by decide) ?_ | with_reducible refine abr_same_ne ?_); (conv => whnf))))
  refine arowT fun t_ ht_ => ?_
  ((conv => whnf); (repeat ((first | with_reducible refine abr_true rfl ?_ | with_reducible refine abr_false rfl ?_ | with_reducible refine abr_yes rfl ?_ | refine abr_yes (by decide) ?_ | refine abr_no (by decide) ?_ | with_reducible refine abr_same_ne ?_); (conv => whnf))))
  refine amark (by simp) (upd_same _ _ _) ?_
  ((conv => whnf); (repeat ((first | with_reducible refine abr_true rfl ?_ | with_reducible refine abr_false rfl ?_ | with_reducible refine abr_yes rfl ?_ | refine abr_yes (by decide) ?_ | refine abr_no (by decide) ?_ | with_reducible refine abr_same_ne ?_); (conv => whnf))))
  rw [del_upd _ _ _ ht_]
  clear ht_
  refine arowT fun t_ ht_ => ?_
  ((conv => whnf); (repeat ((first | with_reducible refine abr_true rfl ?_ | with_reducible refine abr_false rfl ?_ | with_reducible refine abr_yes rfl ?_ | refine abr_yes (by decide) ?_ | refine abr_no (by decide) ?_ | with_reducible refine abr_same_ne ?_); (conv => whnf))))
  refine amark (by simp) (upd_same _ _ _) ?_
  ((conv => whnf); (repeat ((first | with_reducible refine abr_true rfl ?_ | with_reducible refine abr_false rfl ?_ | with_reducible refine abr_yes rfl ?_ | refine abr_yes (by decide) ?_ | refine abr_no (by decide) ?_ | with_reducible refine abr_same_ne ?_); (conv => whnf))))
  rw [del_upd _ _ _ ht_]
  clear ht_
  refine acall (gPut id 1 [[120], [97, 98]] .full false _ _ _ w1 (by decide) (by decide) (by decide) (by decide)) ?_
  rintro v σ2 ⟨rfl, w2⟩
  rw [show putG 1 [[120], [97, 98]] false (none, 0) = ([[120]], (some [97, 98], 0)) by decide] at w2 ⊢
  rw [show putBad 1 [[120], [97, 98]] = false by decide]
  ((conv => whnf); (repeat ((first | with_reducible refine abr_true rfl ?_ | with_reducible refine abr_false rfl ?_ | with_reducible refine abr_yes rfl ?_ | refine abr_yes (by decide) ?_ | refine abr_no (by decide) ?_ | with_reducible refine abr_same_ne ?_); (conv => whnf))))
  refine acall (gHeld id _ _ _ w2) ?_
  rintro _ σ_ ⟨rfl, e_⟩
  obtain rfl := e_.symm
  refine ⟨?_, Ext.refl _⟩
  ((conv => whnf); (repeat ((first | with_reducible refine abr_true rfl ?_ | with_reducible refine abr_false rfl ?_ | with_reducible refine abr_yes rfl ?_ | refine abr_yes (by decide) ?_ | refine abr_no (by decide) ?_ | with_reducible refine abr_same_ne ?_); (conv => whnf))))
  refine arowT fun t_ ht_ => ?_
  ((conv => whnf); (repeat ((first | with_reducible refine abr_true rfl ?_ | with_reducible refine abr_false rfl ?_ | with_reducible refine abr_yes rfl ?_ | refine abr_yes (by decide) ?_ | refine abr_no (by decide) ?_ | with_reducible refine abr_same_ne ?_); (conv => whnf))))
  refine amark (by simp) (upd_same _ _ _) ?_
  ((conv => whnf); (repeat ((first | with_reducible refine abr_true rfl ?_ | with_reducible refine abr_false rfl ?_ | with_reducible refine abr_yes rfl ?_ | refine abr_yes (by decide) ?_ | refine abr_no (by decide) ?_ | with_reducible refine abr_same_ne ?_); (conv => whnf))))
  rw [del_upd _ _ _ ht_]
  clear ht_
  refine acall (gPut id 2 [[99]] .full false _ _ _ w2 (by decide) (by decide) (by decide) (by decide)) ?_
  rintro v σ3 ⟨rfl, w3⟩
  rw [show putG 2 [[99]] false (some [97, 98], 0) = ([[97, 98, 99]], (none, 0)) by decide] at w3 ⊢
  rw [show putBad 2 [[99]] = false by decide]
  ((conv => whnf); (repeat ((first | with_reducible refine abr_true rfl ?_ | with_reducible refine abr_false rfl ?_ | with_reducible refine abr_yes rfl ?_ | refine abr_yes (by decide) ?_ | refine abr_no (by decide) ?_ | with_reducible refine abr_same_ne ?_); (conv => whnf))))
  refine arowT fun t_ ht_ => ?_
  ((conv => whnf); (repeat ((first | with_reducible refine abr_true rfl ?_ | with_reducible refine abr_false rfl ?_ | with_reducible refine abr_yes rfl ?_ | refine abr_yes (by decide) ?_ | refine abr_no (by decide) ?_ | with_reducible refine abr_same_ne ?_); (conv => whnf))))
  refine amark (by simp) (upd_same _ _ _) ?_
  ((conv => whnf); (repeat ((first | with_reducible refine abr_true rfl ?_ | with_reducible refine abr_false rfl ?_ | with_reducible refine abr_yes rfl ?_ | refine abr_yes (by decide) ?_ | refine abr_no (by decide) ?_ | with_reducible refine abr_same_ne ?_); (conv => whnf))))
  rw [del_upd _ _ _ ht_]
  clear ht_
  refine acall (gPut id 2 [[100]] .full false _ _ _ w3 (by decide) (by decide) (by decide) (by decide)) ?_
  rintro v σ4 ⟨rfl, w4⟩
  rw [show putG 2 [[100]] false (none, 0) = ([], (none, 1)) by decide] at w4 ⊢
  rw [show putBad 2 [[100]] = false by decide]
  ((conv => whnf); (repeat ((first | with_reducible refine abr_true rfl ?_ | with_reducible refine abr_false rfl ?_ | with_reducible refine abr_yes rfl ?_ | refine abr_yes (by decide) ?_ | refine abr_no (by decide) ?_ | with_reducible refine abr_same_ne ?_); (conv => whnf))))
  refine arowT fun t_ ht_ => ?_
  ((conv => whnf); (repeat ((first | with_reducible refine abr_true rfl ?_ | with_reducible refine abr_false rfl ?_ | with_reducible refine abr_yes rfl ?_ | refine abr_yes (by decide) ?_ | refine abr_no (by decide) ?_ | with_reducible refine abr_same_ne ?_); (conv => whnf))))
  refine amark (by simp) (upd_same _ _ _) ?_
  ((conv => whnf); (repeat ((first | with_reducible refine abr_true rfl ?_ | with_reducible refine abr_false rfl ?_ | with_reducible refine abr_yes rfl ?_ | refine abr_yes (by decide) ?_ | refine abr_no (by decide) ?_ | with_reducible refine abr_same_ne ?_); (conv => whnf))))
  rw [del_upd _ _ _ ht_]
  clear ht_
  refine acall (gPut id 4 [[100]] .full false _ _ _ w4 (by decide) (by decide) (by decide) (by decide)) ?_
  rintro v σ5 ⟨rfl, w5⟩
  rw [show putG 4 [[100]] false (none, 1) = ([], (none, 1)) by decide] at w5 ⊢
  rw [show putBad 4 [[100]] = true by decide]
  ((conv => whnf); (repeat ((first | with_reducible refine abr_true rfl ?_ | with_reducible refine abr_false rfl ?_ | with_reducible refine abr_yes rfl ?_ | refine abr_yes (by decide) ?_ | refine abr_no (by decide) ?_ | with_reducible refine abr_same_ne ?_); (conv => whnf))))
  refine aget (by omega) (x := sl .none [120]) rfl ?_
  ((conv => whnf); (repeat ((first | with_reducible refine abr_true rfl ?_ | with_reducible refine abr_false rfl ?_ | with_reducible refine abr_yes rfl ?_ | refine abr_yes (by decide) ?_ | refine abr_no (by decide) ?_ | with_reducible refine abr_same_ne ?_); (conv => whnf))))
  refine acell rfl ?_
  ((conv => whnf); (repeat ((first | with_reducible refine abr_true rfl ?_ | with_reducible refine abr_false rfl ?_ | with_reducible refine abr_yes rfl ?_ | refine abr_yes (by decide) ?_ | refine abr_no (by decide) ?_ | with_reducible refine abr_same_ne ?_); (conv => whnf))))
  refine astr (bs := [120]) rfl ?_
  ((conv => whnf); (repeat ((first | with_reducible refine abr_true rfl ?_ | with_reducible refine abr_false rfl ?_ | with_reducible refine abr_yes rfl ?_ | refine abr_yes (by decide) ?_ | refine abr_no (by decide) ?_ | with_reducible refine abr_same_ne ?_); (conv => whnf))))
  refine aget (by omega) (x := sl .none [97, 98, 99]) rfl ?_
  ((conv => whnf); (repeat ((first | with_reducible refine abr_true rfl ?_ | with_reducible refine abr_false rfl ?_ | with_reducible refine abr_yes rfl ?_ | refine abr_yes (by decide) ?_ | refine abr_no (by decide) ?_ | with_reducible refine abr_same_ne ?_); (conv => whnf))))
  refine acell rfl ?_
  ((conv => whnf); (repeat ((first | with_reducible refine abr_true rfl ?_ | with_reducible refine abr_false rfl ?_ | with_reducible refine abr_yes rfl ?_ | refine abr_yes (by decide) ?_ | refine abr_no (by decide) ?_ | with_reducible refine abr_same_ne ?_); (conv => whnf))))
  refine astr (bs := [97, 98, 99]) rfl ?_
  ((conv => whnf); (repeat ((first | with_reducible refine abr_true rfl ?_ | with_reducible refine abr_false rfl ?_ | with_reducible refine abr_yes rfl ?_ | refine abr_yes (by decide) ?_ | refine abr_no (by decide) ?_ | with_reducible refine abr_same_ne ?_); (conv => whnf))))
  refine acall (gLost id _ _ _ w5) ?_
  rintro _ σ_ ⟨rfl, e_⟩
  obtain rfl := e_.symm
  refine ⟨?_, Ext.refl _⟩
  ((conv => whnf); (repeat ((first | with_reducible refine abr_true rfl ?_ | with_reducible refine abr_false rfl ?_ | with_reducible refine abr_yes rfl ?_ | refine abr_yes (by decide) ?_ | refine abr_no (by decide) ?_ | with_reducible refine abr_same_ne ?_); (conv => whnf))))
  exact aret (VLe.refl _) w5.sub ⟨rfl, rfl⟩
end Go.Proofs.Ytiohpnkfcaahbaa
/-
  Pieces of texts, cut with rooms, round and round.
-/
namespace Go.Proofs.Ytiohpnkfcaahbaa
set_option linter.unusedVariables false
set_option linter.unusedSimpArgs false
open Go Go.Am

/-- One piece behind the other. -/
inductive Chain : QS → List Pc → QS → Prop
  | nil (q : QS) : Chain q [] q
  | cons {q q' : QS} {ps : List Pc} (room : Int) (ask : askCut room 11 = 0) (code : cutCode room 11 q = 0) (ok : QOk q) (rest : Chain (cutQ room 11 q) ps q') : Chain q (cutP room 11 q :: ps) q'
theorem Chain.snoc {q q' : QS} {ps : List Pc} (h : Chain q ps q') {room : Int} (ask : askCut room 11 = 0) (code : cutCode room 11 q' = 0) (ok : QOk q') : Chain q (ps ++ [cutP room 11 q']) (cutQ room 11 q') := by
  induction h with
  | nil q => exact .cons room ask code ok (.nil _)
  | cons r a c o _ ih => exact .cons r a c o (ih code ok)

abbrev pieces (t : Tok) (l : List Pc) : AVal := .slice 3 (l.map pieceV) t
theorem get_pieces {l : List Pc} {i : Nat} (h : i < l.length) : (l.map pieceV)[((i : Nat) : Int).toNat]? = some (pieceV l[i]) := by
  rw [Int.toNat_natCast, List.getElem?_map, List.getElem?_eq_getElem h]; rfl
structure PiecesOk (ps : List Pc) (kept : List (List UInt8)) : Prop where
  ex : ∃ q0 q1, Chain q0 ps q1 ∧ q0.ts.map Prod.snd = kept ∧ q0.taken = 0 ∧ QOk q0 ∧ q1.ts = []
  few : ps.length ≤ 3000
  few2 : kept.length ≤ 20
theorem aret_pieces {l m : List AVal} {t u : Tok} {s1 s2 : Nat} {c : AVal} {σ σ2 : AHeap} {Q : AVal → AHeap → Prop} (hs : Sub σ σ2) (h : Q (.tup [.slice s1 l .none, .slice s2 m .none, c]) σ2) : ARet (.tup [.slice s1 l t, .slice s2 m u, c]) σ Q :=
  aret (VLe.tup (VLe.cons (VLe.slice _ _ _) (VLe.cons (VLe.slice _ _ _) fun _ _ h => h))) hs h

set_option maxRecDepth 20000 in
set_option maxHeartbeats 2000000 in
theorem mkPieces (texts : List (List UInt8)) (rooms : List Nat) (σ : AHeap) (hr : ∀ r ∈ rooms, r < 65536) (hrl : rooms.length ≤ 140737488351232) :
    ACalls Try.prog i_bowlinelaw14_pieces [lists .none texts, .slice 1 (rooms.map u16n) .none] σ fun v σ' => (∃ ps kept ok, v = .tup [pieces .none ps, lists .none kept, boolv ok] ∧ (ok = true → PiecesOk ps kept)) ∧ σ' = σ := by
  refine k_bowlinelaw14_pieces rfl ?_
  ((conv => whnf); (repeat ((first | with_reducible refine abr_true rfl ?_ | with_reducible refine abr_false rfl ?_ | with_reducible refine abr_yes rfl ?_ | refine abr_yes (by decide) ?_ | refine abr_no (by decide) ?_ | with_reducible refine abr_same_ne ?_); (conv => whnf))))
  refine acall (qNew 20000 _ (by omega)) ?_
  rintro _ σ1 ⟨id, rfl, q1⟩
  refine ⟨?_, q1.ext⟩
  ((conv => whnf); (repeat ((first | with_reducible refine abr_true rfl ?_ | with_reducible refine abr_false rfl ?_ | with_reducible refine abr_yes rfl ?_ | refine abr_yes (by decide) ?_ | refine abr_no (by decide) ?_ | with_reducible refine abr_same_ne ?_); (conv => whnf))))
  have bad : ∀ σx, Sub σx σ → (∃ ps kept ok, AVal.tup [.slice 3 [] .none, .slice 1 [] .none, boolv false] = .tup [pieces .none ps, lists .none kept, boolv ok] ∧ (ok = true → PiecesOk ps kept)) ∧ σ = σ := fun σx _ => ⟨⟨[], [], false, rfl, nofun⟩, rfl⟩
  by_cases h0 : rooms.length = 0
  · (repeat ((first | refine aload (by (repeat (first | with_reducible exact upd_same _ _ _ | assumption | rw [upd_ne _ _ (by first | assumption | (apply Ne.symm; assumption))]))) rfl ?_ | refine afit_i64 (by omega) ?_ | refine arem_nonneg (by omega) (by omega) ?_ | refine adiv_i64 (by omega) (by omega) ?_ | refine abr_yes (by omega) ?_ | refine abr_no (by omega) ?_ | refine amin ?_ | refine amax ?_ | refine afit_u64 (by omega) ?_ | refine afit_u8 (by omega) ?_ | rw [List.length_map]); ((conv => whnf); (repeat ((first | with_reducible refine abr_true rfl ?_ | with_reducible refine abr_false rfl ?_ | with_reducible refine abr_yes rfl ?_ | refine abr_yes (by decide) ?_ | refine abr_no (by decide) ?_ | with_reducible refine abr_same_ne ?_); (conv => whnf))))))
    exact aret_pieces q1.sub (bad _ q1.sub)
  (repeat ((first | refine aload (by (repeat (first | with_reducible exact upd_same _ _ _ | assumption | rw [upd_ne _ _ (by first | assumption | (apply Ne.symm; assumption))]))) rfl ?_ | refine afit_i64 (by omega) ?_ | refine arem_nonneg (by omega) (by omega) ?_ | refine adiv_i64 (by omega) (by omega) ?_ | refine abr_yes (by omega) ?_ | refine abr_no (by omega) ?_ | refine amin ?_ | refine amax ?_ | refine afit_u64 (by omega) ?_ | refine afit_u8 (by omega) ?_ | rw [List.length_map]); ((conv => whnf); (repeat ((first | with_reducible refine abr_true rfl ?_ | with_reducible refine abr_false rfl ?_ | with_reducible refine abr_yes rfl ?_ | refine abr_yes (by decide) ?_ | refine abr_no (by decide) ?_ | with_reducible refine abr_same_ne ?_); (conv => whnf))))))
  have hid : σ id = none := q1.1
  refine aloop (α := Nat × List (List UInt8) × QS × Tok × AHeap) (fun x => [(s10, lists x.2.2.2.1 x.2.1), (s11, i64v x.1)]) (fun x => x.2.2.2.2)
    (fun x => x.1 ≤ texts.length ∧ x.1 ≤ 20 ∧ x.2.1.length ≤ x.1 ∧ (∃ τ tkq, τ.map strip = x.2.2.1.ts ∧ x.2.2.2.2 id = some (.cells (qcells x.2.2.1 τ tkq))) ∧ QOk x.2.2.1 ∧ TokIn x.2.2.2.2 σ x.2.2.2.1 ∧ Sub x.2.2.2.2 σ ∧ x.2.2.1.last ≤ x.1 ∧ x.2.2.1.taken = 0 ∧ x.2.1 = x.2.2.1.ts.map Prod.snd) (fun x => texts.length - x.1) (0, [], ⟨20000, [], 0, 0⟩, .full, σ1) ⟨Nat.zero_le _, by omega, by simp, (Qu.cell q1).2, q1.2.1, .full _ _, q1.sub, Nat.le_refl _, rfl, rfl⟩ (Sub.refl _) ?_ ?_
  · ((conv => whnf); (repeat ((first | with_reducible refine abr_true rfl ?_ | with_reducible refine abr_false rfl ?_ | with_reducible refine abr_yes rfl ?_ | refine abr_yes (by decide) ?_ | refine abr_no (by decide) ?_ | with_reducible refine abr_same_ne ?_); (conv => whnf))))
    (repeat' first | with_reducible exact EnvLe.refl _ | (refine EnvLe.node ?_ (by first | exact Or.inl rfl | exact Or.inr (Or.inl rfl) | exact Or.inr (Or.inr ⟨nofun, VLe.slice _ _ _⟩)) ?_))
  rintro ⟨i, kept, q, tk, σ2⟩ ⟨hi, hi2, hkl, ⟨τ, tkq, hτ, hc⟩, hq, hto, hs, hlast, htaken, hkept⟩
  dsimp only at hi hi2 hkl hτ hc hq hto hs hlast htaken hkept ⊢
  by_cases h : i < texts.length ∧ i < 20
  · obtain ⟨h1, h2⟩ := h
    ((conv => whnf); (repeat ((first | with_reducible refine abr_true rfl ?_ | with_reducible refine abr_false rfl ?_ | with_reducible refine abr_yes rfl ?_ | refine abr_yes (by decide) ?_ | refine abr_no (by decide) ?_ | with_reducible refine abr_same_ne ?_); (conv => whnf))))
    (repeat ((first | refine aload (by (repeat (first | with_reducible exact upd_same _ _ _ | assumption | rw [upd_ne _ _ (by first | assumption | (apply Ne.symm; assumption))]))) rfl ?_ | refine afit_i64 (by omega) ?_ | refine arem_nonneg (by omega) (by omega) ?_ | refine adiv_i64 (by omega) (by omega) ?_ | refine abr_yes (by omega) ?_ | refine abr_no (by omega) ?_ | refine amin ?_ | refine amax ?_ | refine afit_u64 (by omega) ?_ | refine afit_u8 (by omega) ?_ | rw [List.length_map]); ((conv => whnf); (repeat ((first | with_reducible refine abr_true rfl ?_ | with_reducible refine abr_false rfl ?_ | with_reducible refine abr_yes rfl ?_ | refine abr_yes (by decide) ?_ | refine abr_no (by decide) ?_ | with_reducible refine abr_same_ne ?_); (conv => whnf))))))
    refine aget (by omega) (get_lists h1) ?_
    ((conv => whnf); (repeat ((first | with_reducible refine abr_true rfl ?_ | with_reducible refine abr_false rfl ?_ | with_reducible refine abr_yes rfl ?_ | refine abr_yes (by decide) ?_ | refine abr_no (by decide) ?_ | with_reducible refine abr_same_ne ?_); (conv => whnf))))
    refine acell rfl ?_
    ((conv => whnf); (repeat ((first | with_reducible refine abr_true rfl ?_ | with_reducible refine abr_false rfl ?_ | with_reducible refine abr_yes rfl ?_ | refine abr_yes (by decide) ?_ | refine abr_no (by decide) ?_ | with_reducible refine abr_same_ne ?_); (conv => whnf))))
    rw [List.length_map]
    by_cases h3 : texts[i].length > 1100
    · refine abr_yes (by omega) ?_
      ((conv => whnf); (repeat ((first | with_reducible refine abr_true rfl ?_ | with_reducible refine abr_false rfl ?_ | with_reducible refine abr_yes rfl ?_ | refine abr_yes (by decide) ?_ | refine abr_no (by decide) ?_ | with_reducible refine abr_same_ne ?_); (conv => whnf))))
      exact aret_pieces hs (bad _ hs)
    · refine abr_no (by omega) ?_
      ((conv => whnf); (repeat ((first | with_reducible refine abr_true rfl ?_ | with_reducible refine abr_false rfl ?_ | with_reducible refine abr_yes rfl ?_ | refine abr_yes (by decide) ?_ | refine abr_no (by decide) ?_ | with_reducible refine abr_same_ne ?_); (conv => whnf))))
      refine aget (by omega) (get_lists h1) ?_
      ((conv => whnf); (repeat ((first | with_reducible refine abr_true rfl ?_ | with_reducible refine abr_false rfl ?_ | with_reducible refine abr_yes rfl ?_ | refine abr_yes (by decide) ?_ | refine abr_no (by decide) ?_ | with_reducible refine abr_same_ne ?_); (conv => whnf))))
      refine acell rfl ?_
      ((conv => whnf); (repeat ((first | with_reducible refine abr_true rfl ?_ | with_reducible refine abr_false rfl ?_ | with_reducible refine abr_yes rfl ?_ | refine abr_yes (by decide) ?_ | refine abr_no (by decide) ?_ | with_reducible refine abr_same_ne ?_); (conv => whnf))))
      refine acall (qPush id q texts[i] .none _ _ (Qu.at hq hτ hc) (by omega) (by omega)) ?_
      rintro _ σ3 ⟨rfl, w3⟩
      have hto3 := hto.ext (w3.tips hc)
      have hs3 := w3.sub.trans (sub_del hs hid)
      ((conv => whnf); (repeat ((first | with_reducible refine abr_true rfl ?_ | with_reducible refine abr_false rfl ?_ | with_reducible refine abr_yes rfl ?_ | refine abr_yes (by decide) ?_ | refine abr_no (by decide) ?_ | with_reducible refine abr_same_ne ?_); (conv => whnf))))
      by_cases hcode : pushCode q texts[i] = 0
      · rw [show pushQ q texts[i] = ⟨q.room, q.ts ++ [(q.last + 1, texts[i])], q.taken, q.last + 1⟩ from if_pos hcode] at w3
        obtain ⟨hq3, τ3, tk3, hτ3, hc3⟩ := w3.cell
        refine abr_yes hcode ?_
        ((conv => whnf); (repeat ((first | with_reducible refine abr_true rfl ?_ | with_reducible refine abr_false rfl ?_ | with_reducible refine abr_yes rfl ?_ | refine abr_yes (by decide) ?_ | refine abr_no (by decide) ?_ | with_reducible refine abr_same_ne ?_); (conv => whnf))))
        refine aget (by omega) (get_lists h1) ?_
        ((conv => whnf); (repeat ((first | with_reducible refine abr_true rfl ?_ | with_reducible refine abr_false rfl ?_ | with_reducible refine abr_yes rfl ?_ | refine abr_yes (by decide) ?_ | refine abr_no (by decide) ?_ | with_reducible refine abr_same_ne ?_); (conv => whnf))))
        refine acell rfl ?_
        ((conv => whnf); (repeat ((first | with_reducible refine abr_true rfl ?_ | with_reducible refine abr_false rfl ?_ | with_reducible refine abr_yes rfl ?_ | refine abr_yes (by decide) ?_ | refine abr_no (by decide) ?_ | with_reducible refine abr_same_ne ?_); (conv => whnf))))
        refine aapp_in (ys := [sl .none texts[i]]) hto3 hs3 (by rw [List.length_map]; show (kept.length + 1) * 24 ≤ _; omega) fun t' σ4 hx4 hs4 hto4 => ?_
        rw [show List.map (sl .none) kept ++ [sl .none texts[i]] = List.map (sl .none) (kept ++ [texts[i]]) by simp]
        ((conv => whnf); (repeat ((first | with_reducible refine abr_true rfl ?_ | with_reducible refine abr_false rfl ?_ | with_reducible refine abr_yes rfl ?_ | refine abr_yes (by decide) ?_ | refine abr_no (by decide) ?_ | with_reducible refine abr_same_ne ?_); (conv => whnf))))
        (repeat ((first | refine aload (by (repeat (first | with_reducible exact upd_same _ _ _ | assumption | rw [upd_ne _ _ (by first | assumption | (apply Ne.symm; assumption))]))) rfl ?_ | refine afit_i64 (by omega) ?_ | refine arem_nonneg (by omega) (by omega) ?_ | refine adiv_i64 (by omega) (by omega) ?_ | refine abr_yes (by omega) ?_ | refine abr_no (by omega) ?_ | refine amin ?_ | refine amax ?_ | refine afit_u64 (by omega) ?_ | refine afit_u8 (by omega) ?_ | rw [List.length_map]); ((conv => whnf); (repeat ((first | with_reducible refine abr_true rfl ?_ | with_reducible refine abr_false rfl ?_ | with_reducible refine abr_yes rfl ?_ | refine abr_yes (by decide) ?_ | refine abr_no (by decide) ?_ | with_reducible refine abr_same_ne ?_); (conv => whnf))))))
        refine ⟨(i + 1, kept ++ [texts[i]], _, .tip t', σ4), ⟨by dsimp only; omega, by dsimp only; omega, by dsimp only; simp; omega, ⟨τ3, tk3, hτ3, hx4 id _ rfl hc3⟩, hq3, hto4, hs4, by dsimp only; omega, htaken, ?_⟩, by dsimp only; omega, Sub.refl _, ?_⟩
        · dsimp only; rw [List.map_append, hkept]; rfl
        · ((conv => whnf); (repeat ((first | with_reducible refine abr_true rfl ?_ | with_reducible refine abr_false rfl ?_ | with_reducible refine abr_yes rfl ?_ | refine abr_yes (by decide) ?_ | refine abr_no (by decide) ?_ | with_reducible refine abr_same_ne ?_); (conv => whnf))))
          (repeat' first | with_reducible exact EnvLe.refl _ | (refine EnvLe.node ?_ (by first | exact Or.inl rfl | exact Or.inr (Or.inl rfl) | exact Or.inr (Or.inr ⟨nofun, VLe.slice _ _ _⟩)) ?_))
      · rw [show pushQ q texts[i] = q from if_neg hcode] at w3
        obtain ⟨hq3, τ3, tk3, hτ3, hc3⟩ := w3.cell
        refine abr_no hcode ?_
        ((conv => whnf); (repeat ((first | with_reducible refine abr_true rfl ?_ | with_reducible refine abr_false rfl ?_ | with_reducible refine abr_yes rfl ?_ | refine abr_yes (by decide) ?_ | refine abr_no (by decide) ?_ | with_reducible refine abr_same_ne ?_); (conv => whnf))))
        (repeat ((first | refine aload (by (repeat (first | with_reducible exact upd_same _ _ _ | assumption | rw [upd_ne _ _ (by first | assumption | (apply Ne.symm; assumption))]))) rfl ?_ | refine afit_i64 (by omega) ?_ | refine arem_nonneg (by omega) (by omega) ?_ | refine adiv_i64 (by omega) (by omega) ?_ | refine abr_yes (by omega) ?_ | refine abr_no (by omega) ?_ | refine amin ?_ | refine amax ?_ | refine afit_u64 (by omega) ?_ | refine afit_u8 (by omega) ?_ | rw [List.length_map]); ((conv => whnf); (repeat ((first | with_reducible refine abr_true rfl ?_ | with_reducible refine abr_false rfl ?_ | with_reducible refine abr_yes rfl ?_ | refine abr_yes (by decide) ?_ | refine abr_no (by decide) ?_ | with_reducible refine abr_same_ne ?_); (conv => whnf))))))
        refine ⟨(i + 1, kept, q, tk, σ3), ⟨by dsimp only; omega, by dsimp only; omega, by dsimp only; omega, ⟨τ3, tk3, hτ3, hc3⟩, hq3, hto3, hs3, by dsimp only; omega, htaken, hkept⟩, by dsimp only; omega, Sub.refl _, ?_⟩
        ((conv => whnf); (repeat ((first | with_reducible refine abr_true rfl ?_ | with_reducible refine abr_false rfl ?_ | with_reducible refine abr_yes rfl ?_ | refine abr_yes (by decide) ?_ | refine abr_no (by decide) ?_ | with_reducible refine abr_same_ne ?_); (conv => whnf))))
        (repeat' first | with_reducible exact EnvLe.refl _ | (refine EnvLe.node ?_ (by first | exact Or.inl rfl | exact Or.inr (Or.inl rfl) | exact Or.inr (Or.inr ⟨nofun, VLe.slice _ _ _⟩)) ?_))
  · have hkl20 : kept.length ≤ 20 := by omega
    by_cases ha : i < texts.length
    all_goals
      ((conv => whnf); (repeat ((first | with_reducible refine abr_true rfl ?_ | with_reducible refine abr_false rfl ?_ | with_reducible refine abr_yes rfl ?_ | refine abr_yes (by decide) ?_ | refine abr_no (by decide) ?_ | with_reducible refine abr_same_ne ?_); (conv => whnf))))
      (repeat ((first | refine aload (by (repeat (first | with_reducible exact upd_same _ _ _ | assumption | rw [upd_ne _ _ (by first | assumption | (apply Ne.symm; assumption))]))) rfl ?_ | refine afit_i64 (by omega) ?_ | refine arem_nonneg (by omega) (by omega) ?_ | refine adiv_i64 (by omega) (by omega) ?_ | refine abr_yes (by omega) ?_ | refine abr_no (by omega) ?_ | refine amin ?_ | refine amax ?_ | refine afit_u64 (by omega) ?_ | refine afit_u8 (by omega) ?_ | rw [List.length_map]); ((conv => whnf); (repeat ((first | with_reducible refine abr_true rfl ?_ | with_reducible refine abr_false rfl ?_ | with_reducible refine abr_yes rfl ?_ | refine abr_yes (by decide) ?_ | refine abr_no (by decide) ?_ | with_reducible refine abr_same_ne ?_); (conv => whnf))))))
      refine aloop (α := Nat × List Pc × QS × Tok × Tok × AHeap) (fun x => [(s9, pieces x.2.2.2.1 x.2.1), (s10, lists x.2.2.2.2.1 kept), (s14, i64v x.1)]) (fun x => x.2.2.2.2.2)
        (fun x => x.1 ≤ 3000 ∧ x.2.1.length ≤ x.1 ∧ (∃ τ tkq, τ.map strip = x.2.2.1.ts ∧ x.2.2.2.2.2 id = some (.cells (qcells x.2.2.1 τ tkq))) ∧ QOk x.2.2.1 ∧ Tok2 x.2.2.2.2.2 σ x.2.2.2.1 x.2.2.2.2.1 ∧ Sub x.2.2.2.2.2 σ ∧ Chain q x.2.1 x.2.2.1) (fun x => 3000 - x.1) (0, [], q, .full, tk, σ2) ⟨by omega, by simp, ⟨τ, tkq, hτ, hc⟩, hq, ⟨.full _ _, hto, nofun⟩, hs, .nil _⟩ (Sub.refl _) ?_ ?_
      · ((conv => whnf); (repeat ((first | with_reducible refine abr_true rfl ?_ | with_reducible refine abr_false rfl ?_ | with_reducible refine abr_yes rfl ?_ | refine abr_yes (by decide) ?_ | refine abr_no (by decide) ?_ | with_reducible refine abr_same_ne ?_); (conv => whnf))))
        (repeat' first | with_reducible exact EnvLe.refl _ | (refine EnvLe.node ?_ (by first | exact Or.inl rfl | exact Or.inr (Or.inl rfl) | exact Or.inr (Or.inr ⟨nofun, VLe.slice _ _ _⟩)) ?_))
      rintro ⟨j, ps, qn, ta, tb, σ3⟩ ⟨hj, hpl, ⟨τ3, tk3, hτ3, hc3⟩, hqn, hto3, hs3, hch⟩
      dsimp only at hj hpl hτ3 hc3 hqn hto3 hs3 hch ⊢
      have hle := hqn.le
      have hbytes : (tot qn.ts : Int) - qn.taken = 0 → qn.ts = [] := by
        intro e
        have hb := hqn.begun
        cases et : qn.ts with
        | nil => rfl
        | cons t ts =>
          rw [et] at hb
          have hb : qn.taken < t.2.length := hb
          rw [et, tot_cons] at e
          omega
      have hfin : PiecesOk ps kept ∨ (tot qn.ts : Int) - qn.taken ≠ 0 := by
        by_cases e : (tot qn.ts : Int) - qn.taken = 0
        · exact .inl ⟨⟨q, qn, hch, hkept.symm, htaken, hq, hbytes e⟩, by omega, hkl20⟩
        · exact .inr e
      ((conv => whnf); (repeat ((first | with_reducible refine abr_true rfl ?_ | with_reducible refine abr_false rfl ?_ | with_reducible refine abr_yes rfl ?_ | refine abr_yes (by decide) ?_ | refine abr_no (by decide) ?_ | with_reducible refine abr_same_ne ?_); (conv => whnf))))
      refine acall (qBytes id qn _ _ (Qu.at hqn hτ3 hc3)) ?_
      rintro _ σ_ ⟨rfl, e_⟩
      obtain rfl := e_.symm
      refine ⟨?_, Ext.refl _⟩
      ((conv => whnf); (repeat ((first | with_reducible refine abr_true rfl ?_ | with_reducible refine abr_false rfl ?_ | with_reducible refine abr_yes rfl ?_ | refine abr_yes (by decide) ?_ | refine abr_no (by decide) ?_ | with_reducible refine abr_same_ne ?_); (conv => whnf))))
      by_cases hgo : (tot qn.ts : Int) - qn.taken > 0 ∧ j < 3000
      · obtain ⟨g1, g2⟩ := hgo
        have hjm : j % rooms.length < rooms.length := Nat.mod_lt _ (by omega)
        have hrj := hr _ (List.getElem_mem hjm)
        (repeat ((first | refine aload (by (repeat (first | with_reducible exact upd_same _ _ _ | assumption | rw [upd_ne _ _ (by first | assumption | (apply Ne.symm; assumption))]))) rfl ?_ | refine afit_i64 (by omega) ?_ | refine arem_nonneg (by omega) (by omega) ?_ | refine adiv_i64 (by omega) (by omega) ?_ | refine abr_yes (by omega) ?_ | refine abr_no (by omega) ?_ | refine amin ?_ | refine amax ?_ | refine afit_u64 (by omega) ?_ | refine afit_u8 (by omega) ?_ | rw [List.length_map]); ((conv => whnf); (repeat ((first | with_reducible refine abr_true rfl ?_ | with_reducible refine abr_false rfl ?_ | with_reducible refine abr_yes rfl ?_ | refine abr_yes (by decide) ?_ | refine abr_no (by decide) ?_ | with_reducible refine abr_same_ne ?_); (conv => whnf))))))
        rw [show ((j : Int) % (rooms.length : Int)) = ((j % rooms.length : Nat) : Int) from (Int.natCast_emod _ _).symm]
        refine aget (by omega) (get_u16n hjm) ?_
        ((conv => whnf); (repeat ((first | with_reducible refine abr_true rfl ?_ | with_reducible refine abr_false rfl ?_ | with_reducible refine abr_yes rfl ?_ | refine abr_yes (by decide) ?_ | refine abr_no (by decide) ?_ | with_reducible refine abr_same_ne ?_); (conv => whnf))))
        refine acell rfl ?_
        ((conv => whnf); (repeat ((first | with_reducible refine abr_true rfl ?_ | with_reducible refine abr_false rfl ?_ | with_reducible refine abr_yes rfl ?_ | refine abr_yes (by decide) ?_ | refine abr_no (by decide) ?_ | with_reducible refine abr_same_ne ?_); (conv => whnf))))
        (repeat ((first | refine aload (by (repeat (first | with_reducible exact upd_same _ _ _ | assumption | rw [upd_ne _ _ (by first | assumption | (apply Ne.symm; assumption))]))) rfl ?_ | refine afit_i64 (by omega) ?_ | refine arem_nonneg (by omega) (by omega) ?_ | refine adiv_i64 (by omega) (by omega) ?_ | refine abr_yes (by omega) ?_ | refine abr_no (by omega) ?_ | refine amin ?_ | refine amax ?_ | refine afit_u64 (by omega) ?_ | refine afit_u8 (by omega) ?_ | rw [List.length_map]); ((conv => whnf); (repeat ((first | with_reducible refine abr_true rfl ?_ | with_reducible refine abr_false rfl ?_ | with_reducible refine abr_yes rfl ?_ | refine abr_yes (by decide) ?_ | refine abr_no (by decide) ?_ | with_reducible refine abr_same_ne ?_); (conv => whnf))))))
        obtain ⟨room, hroom⟩ : ∃ room : Int, room = 20 + ((rooms[j % rooms.length] : Nat) : Int) % 400 := ⟨_, rfl⟩
        rw [← hroom]
        have hask : askCut room 11 = 0 := askCut_eq (.inl rfl) (by omega) (by omega)
        refine acall (cBuild id room 11 qn _ _ (Qu.at hqn hτ3 hc3)) ?_
        rintro _ σ4 ⟨rfl, w4⟩
        have hto4 := hto3.ext (w4.tips hc3)
        have hs4 := w4.sub.trans (sub_del hs3 hid)
        obtain ⟨hq4, τ4, tk4, hτ4, hc4⟩ := w4.cell
        ((conv => whnf); (repeat ((first | with_reducible refine abr_true rfl ?_ | with_reducible refine abr_false rfl ?_ | with_reducible refine abr_yes rfl ?_ | refine abr_yes (by decide) ?_ | refine abr_no (by decide) ?_ | with_reducible refine abr_same_ne ?_); (conv => whnf))))
        refine anew rfl fun pid hpid => ?_
        have npid : id ≠ pid := fun e => by subst e; rw [hc4] at hpid; cases hpid
        have hz : σ pid = none := sub_none hs4 hpid
        ((conv => whnf); (repeat ((first | with_reducible refine abr_true rfl ?_ | with_reducible refine abr_false rfl ?_ | with_reducible refine abr_yes rfl ?_ | refine abr_yes (by decide) ?_ | refine abr_no (by decide) ?_ | with_reducible refine abr_same_ne ?_); (conv => whnf))))
        refine astore (xs := (pieceV (cutP room 11 qn)).cells) (l := (pieceV (cutP room 11 qn)).cells) (upd_same _ _ _) (Nat.le_of_ble_eq_true rfl) rfl rfl ?_
        rw [upd_upd]
        have hto5 : Tok2 (upd σ4 pid (.cells (pieceV (cutP room 11 qn)).cells)) σ ta tb := hto4.fresh _ hpid
        have hs5 : Sub (upd σ4 pid (.cells (pieceV (cutP room 11 qn)).cells)) σ := sub_upd _ hs4 hz
        have hc5 : upd σ4 pid (.cells (pieceV (cutP room 11 qn)).cells) id = some (.cells (qcells (cutQ room 11 qn) τ4 tk4)) := (upd_ne _ _ npid).trans hc4
        have hp5 : upd σ4 pid (.cells (pieceV (cutP room 11 qn)).cells) pid = some (.cells [i64v (cutP room 11 qn).1, lists .none (cutP room 11 qn).2.1, u64s .none (cutP room 11 qn).2.2]) := upd_same _ _ _
        generalize upd σ4 pid (.cells (pieceV (cutP room 11 qn)).cells) = σ5 at *
        ((conv => whnf); (repeat ((first | with_reducible refine abr_true rfl ?_ | with_reducible refine abr_false rfl ?_ | with_reducible refine abr_yes rfl ?_ | refine abr_yes (by decide) ?_ | refine abr_no (by decide) ?_ | with_reducible refine abr_same_ne ?_); (conv => whnf))))
        by_cases hcode : cutCode room 11 qn = 0
        · refine abr_no (fun k => k hcode) ?_
          ((conv => whnf); (repeat ((first | with_reducible refine abr_true rfl ?_ | with_reducible refine abr_false rfl ?_ | with_reducible refine abr_yes rfl ?_ | refine abr_yes (by decide) ?_ | refine abr_no (by decide) ?_ | with_reducible refine abr_same_ne ?_); (conv => whnf))))
          refine aloads (l := [i64v (cutP room 11 qn).1, lists .none (cutP room 11 qn).2.1, u64s .none (cutP room 11 qn).2.2]) hp5 (by exact Nat.le_refl 3) rfl ?_
          ((conv => whnf); (repeat ((first | with_reducible refine abr_true rfl ?_ | with_reducible refine abr_false rfl ?_ | with_reducible refine abr_yes rfl ?_ | refine abr_yes (by decide) ?_ | refine abr_no (by decide) ?_ | with_reducible refine abr_same_ne ?_); (conv => whnf))))
          refine aapp_2 (ys := [pieceV (cutP room 11 qn)]) hto5 hs5 (by rw [List.length_map]; show (ps.length + 1) * _ ≤ _; omega) fun t6 σ6 hx6 hs6 hto6 => ?_
          rw [show List.map pieceV ps ++ [pieceV (cutP room 11 qn)] = List.map pieceV (ps ++ [cutP room 11 qn]) by simp]
          ((conv => whnf); (repeat ((first | with_reducible refine abr_true rfl ?_ | with_reducible refine abr_false rfl ?_ | with_reducible refine abr_yes rfl ?_ | refine abr_yes (by decide) ?_ | refine abr_no (by decide) ?_ | with_reducible refine abr_same_ne ?_); (conv => whnf))))
          (repeat ((first | refine aload (by (repeat (first | with_reducible exact upd_same _ _ _ | assumption | rw [upd_ne _ _ (by first | assumption | (apply Ne.symm; assumption))]))) rfl ?_ | refine afit_i64 (by omega) ?_ | refine arem_nonneg (by omega) (by omega) ?_ | refine adiv_i64 (by omega) (by omega) ?_ | refine abr_yes (by omega) ?_ | refine abr_no (by omega) ?_ | refine amin ?_ | refine amax ?_ | refine afit_u64 (by omega) ?_ | refine afit_u8 (by omega) ?_ | rw [List.length_map]); ((conv => whnf); (repeat ((first | with_reducible refine abr_true rfl ?_ | with_reducible refine abr_false rfl ?_ | with_reducible refine abr_yes rfl ?_ | refine abr_yes (by decide) ?_ | refine abr_no (by decide) ?_ | with_reducible refine abr_same_ne ?_); (conv => whnf))))))
          refine ⟨(j + 1, ps ++ [cutP room 11 qn], cutQ room 11 qn, .tip t6, tb, σ6), ⟨by dsimp only; omega, by dsimp only; simp; omega, ⟨τ4, tk4, hτ4, hx6 id _ rfl hc5⟩, hq4, hto6, hs6, hch.snoc hask hcode hqn⟩, by dsimp only; omega, Sub.refl _, ?_⟩
          ((conv => whnf); (repeat ((first | with_reducible refine abr_true rfl ?_ | with_reducible refine abr_false rfl ?_ | with_reducible refine abr_yes rfl ?_ | refine abr_yes (by decide) ?_ | refine abr_no (by decide) ?_ | with_reducible refine abr_same_ne ?_); (conv => whnf))))
          (repeat' first | with_reducible exact EnvLe.refl _ | (refine EnvLe.node ?_ (by first | exact Or.inl rfl | exact Or.inr (Or.inl rfl) | exact Or.inr (Or.inr ⟨nofun, VLe.slice _ _ _⟩)) ?_))
        · refine abr_yes hcode ?_
          ((conv => whnf); (repeat ((first | with_reducible refine abr_true rfl ?_ | with_reducible refine abr_false rfl ?_ | with_reducible refine abr_yes rfl ?_ | refine abr_yes (by decide) ?_ | refine abr_no (by decide) ?_ | with_reducible refine abr_same_ne ?_); (conv => whnf))))
          exact aret_pieces hs5 (bad _ hs5)
      · by_cases g1 : (tot qn.ts : Int) - qn.taken > 0
        all_goals
          (repeat ((first | refine aload (by (repeat (first | with_reducible exact upd_same _ _ _ | assumption | rw [upd_ne _ _ (by first | assumption | (apply Ne.symm; assumption))]))) rfl ?_ | refine afit_i64 (by omega) ?_ | refine arem_nonneg (by omega) (by omega) ?_ | refine adiv_i64 (by omega) (by omega) ?_ | refine abr_yes (by omega) ?_ | refine abr_no (by omega) ?_ | refine amin ?_ | refine amax ?_ | refine afit_u64 (by omega) ?_ | refine afit_u8 (by omega) ?_ | rw [List.length_map]); ((conv => whnf); (repeat ((first | with_reducible refine abr_true rfl ?_ | with_reducible refine abr_false rfl ?_ | with_reducible refine abr_yes rfl ?_ | refine abr_yes (by decide) ?_ | refine abr_no (by decide) ?_ | with_reducible refine abr_same_ne ?_); (conv => whnf))))))
          refine acall (qBytes id qn _ _ (Qu.at hqn hτ3 hc3)) ?_
          rintro _ σ_ ⟨rfl, e_⟩
          obtain rfl := e_.symm
          refine ⟨?_, Ext.refl _⟩
          ((conv => whnf); (repeat ((first | with_reducible refine abr_true rfl ?_ | with_reducible refine abr_false rfl ?_ | with_reducible refine abr_yes rfl ?_ | refine abr_yes (by decide) ?_ | refine abr_no (by decide) ?_ | with_reducible refine abr_same_ne ?_); (conv => whnf))))
          refine aret_pieces hs3 ⟨⟨ps, kept, _, rfl, fun hok => ?_⟩, rfl⟩
          rcases hfin with h | h
          · exact h
          · exact absurd (of_decide_eq_true hok) h
end Go.Proofs.Ytiohpnkfcaahbaa
/-
  Pieces, glued: the plain law.
-/
namespace Go.Proofs.Ytiohpnkfcaahbaa
set_option linter.unusedVariables false
set_option linter.unusedSimpArgs false
open Go Go.Am

/-- What a glue holds while a queue's text is begun. -/
def heldOf (q : QS) : Option (List UInt8) := match q.ts with
  | [] => none
  | t :: _ => if 0 < q.taken then some (t.2.take q.taken) else none
theorem heldOf_zero {q : QS} (h : q.taken = 0) : heldOf q = none := by
  unfold heldOf
  split
  · rfl
  · rw [if_neg (by omega)]
theorem heldOf_get {q : QS} (h : 0 < q.ts.length) (h2 : 0 < q.taken) : heldOf q = some (q.ts[0].2.take q.taken) := by
  unfold heldOf
  split
  · rename_i e; rw [e] at h; simp at h
  · rename_i t ts e
    rw [if_pos h2]
    simp [e]
theorem field_beg {b : List UInt8} {n : Nat} (h : b.length ≤ 1000) : fieldG (none, n) b true true = (some b, (none, n)) := by
  unfold fieldG holdG cutG
  rw [if_pos rfl, if_neg (by show ¬ b.length > 1000; omega)]
  rfl
theorem field_end {a b : List UInt8} {n : Nat} (h : (a ++ b).length ≤ 1000) : fieldG (some a, n) b false true = (some (a ++ b), (none, n)) := by
  unfold fieldG holdG
  rw [if_neg (by simp)]
  show endG (cutG (some (a ++ b), n)) true = _
  unfold cutG
  rw [if_neg (by show ¬ (a ++ b).length > 1000; omega)]
  rfl
theorem field_miss {b : List UInt8} {n : Nat} : fieldG (none, n) b false true = (none, (none, n + 1)) := rfl
theorem field_hold {b : List UInt8} {n : Nat} (h : b.length ≤ 1000) : fieldG (none, n) b true false = (none, (some b, n)) := by
  unfold fieldG holdG cutG
  rw [if_pos rfl, if_neg (by show ¬ b.length > 1000; omega)]
  rfl
theorem field_more {a b : List UInt8} {n : Nat} (h : (a ++ b).length ≤ 1000) : fieldG (some a, n) b false false = (none, (some (a ++ b), n)) := by
  unfold fieldG holdG
  rw [if_neg (by simp)]
  show endG (cutG (some (a ++ b), n)) false = _
  unfold cutG
  rw [if_neg (by show ¬ (a ++ b).length > 1000; omega)]
  rfl
theorem field_none {b : List UInt8} {n : Nat} : fieldG (none, n) b false false = (none, (none, n)) := rfl

theorem putN_wholes {fi : Int} {F : List (List UInt8)} {q : QS} {d : Nat} {h : Option (List UInt8)} {n : Nat} (hq : QOk q) (hd : d ≤ q.ts.length) (hF : ∀ i, (hi : i < d) → F[i]? = some (q.ts[i].2.drop (begC q i)))
    (he : ∀ i, i < d → endsG fi F.length i = true) (hb : beginsG fi 0 = decide (q.taken = 0)) (hh : h = heldOf q ∨ h = none) :
    ∀ k, k ≤ d → putN fi F (h, n) k = if k = 0 then ([], (h, n)) else (((q.ts.take k).map Prod.snd).drop (if 0 < q.taken ∧ h = none then 1 else 0), (none, n + if 0 < q.taken ∧ h = none then 1 else 0))
  | 0, _ => by rw [if_pos rfl]; rfl
  | k + 1, hk => by
    rw [if_neg (Nat.succ_ne_zero k), putN, putN_wholes hq hd hF he hb hh k (by omega)]
    have hkl : k < q.ts.length := by omega
    have hle := (hq.each _ (List.getElem_mem hkl)).2
    rw [hF k (by omega), Option.getD_some, he k (by omega)]
    have htake : (q.ts.take (k + 1)).map Prod.snd = (q.ts.take k).map Prod.snd ++ [q.ts[k].2] := by rw [take_succ_ts hkl, List.map_append]; rfl
    rw [htake]
    cases k with
    | zero =>
      rw [if_pos rfl, hb]
      have e0 : begC q 0 = q.taken := rfl
      rw [e0]
      by_cases ht : q.taken = 0
      · have hn : h = none := by rcases hh with e | e; · rw [e, heldOf_zero ht]
                                 · exact e
        subst hn
        rw [decide_eq_true ht, ht, List.drop_zero, field_beg hle, if_neg (by omega)]
        rfl
      · rw [decide_eq_false ht]
        rcases hh with e | e
        · rw [heldOf_get hkl (by omega)] at e
          subst e
          have happ : List.take q.taken q.ts[0].2 ++ List.drop q.taken q.ts[0].2 = q.ts[0].2 := List.take_append_drop _ _
          rw [field_end (by rw [happ]; exact hle), happ, if_neg (by simp)]
          rfl
        · subst e
          rw [field_miss, if_pos ⟨by omega, rfl⟩]
          rfl
    | succ k =>
      rw [if_neg (Nat.succ_ne_zero k)]
      have e0 : begC q (k + 1) = 0 := if_neg (Nat.succ_ne_zero k)
      have e1 : beginsG fi (k + 1) = true := by unfold beginsG; simp
      rw [e0, List.drop_zero, e1, field_beg hle]
      dsimp only
      rw [List.drop_append_of_le_length (by rw [List.length_map, List.length_take]; split <;> omega)]
      rfl

theorem hollow_no {F : List (List UInt8)} (h : ∀ f ∈ F, f.length ≠ 0) : hollow F = false := by
  refine Bool.eq_false_iff.2 fun k => ?_
  obtain ⟨f, hf, e⟩ := List.any_eq_true.1 k
  have := of_decide_eq_true e
  exact h f hf (by rw [this]; rfl)
theorem wholes_get {q : QS} {d : Nat} (hd : d ≤ q.ts.length) {i : Nat} (hi : i < d) : (stP q d).2.1[i]? = some (q.ts[i].2.drop (begC q i)) := by
  unfold stP
  dsimp only
  have e : q.ts.take d = q.ts[0] :: (q.ts.take d).drop 1 := by
    have := List.drop_eq_getElem_cons (l := q.ts.take d) (i := 0) (by rw [List.length_take]; omega)
    rw [List.drop_zero] at this
    rw [List.getElem_take] at this
    exact this
  rw [e]
  cases i with
  | zero => simp [wholes, begC]
  | succ i =>
    simp only [wholes, List.getElem?_cons_succ]
    rw [List.getElem?_map, List.getElem?_drop, Nat.add_comm 1 i, List.getElem?_take, if_pos hi, List.getElem?_eq_getElem (by omega)]
    show some q.ts[i + 1].2 = some (List.drop (begC q (i + 1)) q.ts[i + 1].2)
    rw [show begC q (i + 1) = 0 from if_neg (Nat.succ_ne_zero i), List.drop_zero]
theorem begC_lt {q : QS} (hq : QOk q) {d : Nat} (hd : d < q.ts.length) : begC q d < q.ts[d].2.length := by
  have h1 := (hq.each _ (List.getElem_mem hd)).1
  unfold begC
  split
  · rename_i h0
    subst h0
    have := hq.begun
    rw [show q.ts = q.ts[0] :: q.ts.drop 1 from (List.drop_eq_getElem_cons hd)] at this
    exact this
  · omega

/-- A piece, glued. -/
structure Glued (q q' : QS) (p : Pc) (h : Option (List UInt8)) (n : Nat) (r : List (List UInt8) × GS) : Prop where
  good : putBad p.1 p.2.1 = false
  le : p.2.2.length ≤ q.ts.length
  ts : q'.ts = q.ts.drop p.2.2.length
  out : r.1 = ((q.ts.take p.2.2.length).map Prod.snd).drop (if 0 < q.taken ∧ h = none then 1 else 0)
  held : r.2.1 = heldOf q' ∨ r.2.1 = none
  exact_ : h = heldOf q → r.2 = (heldOf q', n)
  begun : 2 ≤ p.1 ↔ 0 < q.taken
theorem piece_put {room : Int} {q : QS} (hq : QOk q) (hask : askCut room 11 = 0) (hcode : cutCode room 11 q = 0) {h : Option (List UInt8)} {n : Nat} (hh : h = heldOf q ∨ h = none) :
    Glued q (cutQ room 11 q) (cutP room 11 q) h n (putN (cutP room 11 q).1 (cutP room 11 q).2.1 (h, n) (cutP room 11 q).2.1.length) := by
  obtain ⟨r, hr⟩ : ∃ r, r = cutR room 11 q := ⟨_, rfl⟩
  have hres := cut_res (room := room) (w := 11) hq
  rw [← hr] at hres
  obtain ⟨hQ, h1, h2⟩ := cutP_of hask hr
  have hF0 : r.2.2.1.length ≠ 0 := fun e => by rw [(h2 e).1] at hcode; cases hcode
  have hP := (h1 hF0).2
  rw [hQ, hP]
  have hfi : (fi0 q = 0 ∧ q.taken = 0) ∨ (fi0 q = 2 ∧ 0 < q.taken) := by
    unfold fi0
    split
    · exact .inr ⟨rfl, by assumption⟩
    · exact .inl ⟨rfl, by omega⟩
  clear h1 h2 hP hQ hr hcode
  cases hres with
  | whole d hd h24 fit hend =>
    have hlen := stP_len hd
    have hd0 : d ≠ 0 := fun e => hF0 (by show (stP q d).2.1.length = 0; rw [hlen]; exact e)
    have e1 : (stP q d).1 = fi0 q := by unfold stP; rw [if_neg hd0]
    have e2 : (stP q d).2.2.length = d := by unfold stP; simp; omega
    have hF := fun i (hi : i < d) => wholes_get hd hi
    have hw := putN_wholes (fi := fi0 q) (F := (stP q d).2.1) (h := h) (n := n) hq hd hF (fun i _ => by unfold endsG; rcases hfi with ⟨e, _⟩ | ⟨e, _⟩ <;> rw [e] <;> simp) (by unfold beginsG; rcases hfi with ⟨e, k⟩ | ⟨e, k⟩ <;> rw [e] <;> simp <;> omega) hh d (Nat.le_refl _)
    rw [if_neg hd0] at hw
    have hheld : heldOf (stQ q d) = none := heldOf_zero (by show begC q d = 0; exact if_neg hd0)
    refine ⟨?_, by show (stP q d).2.2.length ≤ _; omega, by show q.ts.drop d = q.ts.drop (stP q d).2.2.length; rw [e2], ?_, ?_, ?_, ?_⟩
    · show putBad (stP q d).1 (stP q d).2.1 = false
      unfold putBad
      rw [e1, hlen, decide_eq_false (by omega), decide_eq_false (by omega), decide_eq_false hd0, decide_eq_false (by omega)]
      refine hollow_no fun f hf => ?_
      obtain ⟨i, hi, rfl⟩ := List.getElem_of_mem hf
      have hid : i < d := by omega
      have := hF i hid
      rw [List.getElem?_eq_getElem hi] at this
      injection this with this
      rw [this, List.length_drop]
      have := begC_lt hq (show i < q.ts.length by omega)
      omega
    · show (putN (stP q d).1 (stP q d).2.1 (h, n) (stP q d).2.1.length).1 = ((q.ts.take (stP q d).2.2.length).map Prod.snd).drop _
      rw [e1, hlen, hw, e2]
    · show (putN (stP q d).1 (stP q d).2.1 (h, n) (stP q d).2.1.length).2.1 = _ ∨ _
      rw [e1, hlen, hw]; exact .inr rfl
    · intro hx
      show (putN (stP q d).1 (stP q d).2.1 (h, n) (stP q d).2.1.length).2 = _
      rw [e1, hlen, hw]
      have hn : ¬ (0 < q.taken ∧ h = none) := by
        rintro ⟨k1, k2⟩
        rw [hx, heldOf_get (by omega) k1] at k2
        cases k2
      rw [if_neg hn]
      show ((none, n + 0) : GS) = (heldOf (stQ q d), n)
      rw [hheld]; rfl
    · show 2 ≤ (stP q d).1 ↔ _
      rw [e1]; omega
  | part d m hd h24 hm1 hm fit =>
    have hlen := stP_len (Nat.le_of_lt hd)
    have e2 : (stP q d).2.2.length = d := by unfold stP; simp; omega
    have hle := (hq.each _ (List.getElem_mem hd)).2
    obtain ⟨b, hb⟩ : ∃ b, b = (q.ts[d].2.drop (begC q d)).take m := ⟨_, rfl⟩
    have hbl : b.length = m := by rw [hb, List.length_take, List.length_drop]; omega
    rw [← hb]
    have hFl : ((stP q d).2.1 ++ [b]).length = d + 1 := by rw [List.length_append, hlen]; rfl
    have hF : ∀ i, (hi : i < d) → ((stP q d).2.1 ++ [b])[i]? = some (q.ts[i].2.drop (begC q i)) := fun i hi => by
      rw [List.getElem?_append_left (by omega)]; exact wholes_get (Nat.le_of_lt hd) hi
    have hw := putN_wholes (fi := fi0 q + 1) (F := (stP q d).2.1 ++ [b]) (h := h) (n := n) hq (Nat.le_of_lt hd) hF (fun i hi => by unfold endsG; rw [hFl, decide_eq_true (by omega)]; rfl) (by unfold beginsG; rcases hfi with ⟨e, k⟩ | ⟨e, k⟩ <;> rw [e] <;> simp <;> omega) hh d (Nat.le_refl _)
    have hlast : ((stP q d).2.1 ++ [b])[d]?.getD [] = b := by rw [List.getElem?_append_right (by omega), hlen, Nat.sub_self]; rfl
    have hend : endsG (fi0 q + 1) (d + 1) d = false := by unfold endsG; rw [decide_eq_false (by omega)]; rcases hfi with ⟨e, _⟩ | ⟨e, _⟩ <;> rw [e] <;> decide
    have hq' : heldOf (⟨q.room, q.ts.drop d, begC q d + m, q.last⟩ : QS) = some (q.ts[d].2.take (begC q d + m)) := by
      rw [heldOf_get (by show 0 < (q.ts.drop d).length; rw [List.length_drop]; omega) (by show 0 < begC q d + m; omega)]
      simp
    have hput : putN (fi0 q + 1) ((stP q d).2.1 ++ [b]) (h, n) (d + 1) = (((q.ts.take d).map Prod.snd).drop (if 0 < q.taken ∧ h = none then 1 else 0),
        if d = 0 ∧ 0 < q.taken ∧ h = none then (none, n) else (some (q.ts[d].2.take (begC q d + m)), n + if 0 < q.taken ∧ h = none then 1 else 0)) := by
      rw [putN, hw, hlast, hFl, hend]
      by_cases hd0 : d = 0
      · subst hd0
        rw [if_pos rfl]
        have eb : begC q 0 = q.taken := rfl
        rw [eb] at hb hm ⊢
        have hbg : beginsG (fi0 q + 1) 0 = decide (q.taken = 0) := by unfold beginsG; rcases hfi with ⟨e, k⟩ | ⟨e, k⟩ <;> rw [e] <;> simp <;> omega
        rw [hbg]
        by_cases ht : q.taken = 0
        · have hn : h = none := by rcases hh with e | e; · rw [e, heldOf_zero ht]
                                   · exact e
          subst hn
          rw [decide_eq_true ht, field_hold (by omega), if_neg (by omega), if_neg (by omega), hb, ht, List.drop_zero, Nat.zero_add]
          rfl
        · rw [decide_eq_false ht]
          rcases hh with e | e
          · rw [heldOf_get hd (by omega)] at e
            subst e
            have happ : List.take q.taken q.ts[0].2 ++ b = q.ts[0].2.take (q.taken + m) := by rw [hb, ← List.take_add]
            rw [field_more (by rw [happ, List.length_take]; omega), happ, if_neg (by simp), if_neg (by simp)]
            rfl
          · subst e
            rw [field_none, if_pos ⟨by omega, rfl⟩, if_pos ⟨rfl, by omega, rfl⟩]
            rfl
      · have hx : ¬ (d = 0 ∧ 0 < q.taken ∧ h = none) := fun k => hd0 k.1
        rw [if_neg hd0, if_neg hx]
        have e1 : beginsG (fi0 q + 1) d = true := by unfold beginsG; rw [decide_eq_true (by omega)]; rfl
        have eb : begC q d = 0 := if_neg hd0
        rw [e1, field_hold (by omega), hb, eb, List.drop_zero, Nat.zero_add]
        simp
    refine ⟨?_, by show (stP q d).2.2.length ≤ _; omega, by show q.ts.drop d = q.ts.drop (stP q d).2.2.length; rw [e2], ?_, ?_, ?_, ?_⟩
    · show putBad (fi0 q + 1) ((stP q d).2.1 ++ [b]) = false
      unfold putBad
      rw [hFl, decide_eq_false (by omega), decide_eq_false (by omega), decide_eq_false (by omega), decide_eq_false (by omega)]
      refine hollow_no fun f hf => ?_
      rcases List.mem_append.1 hf with hf | hf
      · obtain ⟨i, hi, rfl⟩ := List.getElem_of_mem hf
        have hid : i < d := by omega
        have := hF i hid
        rw [List.getElem?_append_left hi, List.getElem?_eq_getElem hi] at this
        injection this with this
        rw [this, List.length_drop]
        have := begC_lt hq (show i < q.ts.length by omega)
        omega
      · simp at hf; subst hf; omega
    · show (putN (fi0 q + 1) ((stP q d).2.1 ++ [b]) (h, n) ((stP q d).2.1 ++ [b]).length).1 = ((q.ts.take (stP q d).2.2.length).map Prod.snd).drop _
      rw [hFl, hput, e2]
    · show (putN (fi0 q + 1) ((stP q d).2.1 ++ [b]) (h, n) ((stP q d).2.1 ++ [b]).length).2.1 = _ ∨ (putN (fi0 q + 1) ((stP q d).2.1 ++ [b]) (h, n) ((stP q d).2.1 ++ [b]).length).2.1 = _
      rw [hFl, hput, hq']
      dsimp only
      split
      · exact .inr rfl
      · exact .inl rfl
    · intro hx
      show (putN (fi0 q + 1) ((stP q d).2.1 ++ [b]) (h, n) ((stP q d).2.1 ++ [b]).length).2 = (heldOf (⟨q.room, q.ts.drop d, begC q d + m, q.last⟩ : QS), n)
      have hn : ¬ (0 < q.taken ∧ h = none) := by
        rintro ⟨k1, k2⟩
        rw [hx, heldOf_get (by omega) k1] at k2
        cases k2
      rw [hFl, hput, hq', if_neg hn]
      dsimp only
      rw [if_neg (fun k => hn k.2)]
      rfl
    · show 2 ≤ fi0 q + 1 ↔ _
      omega
end Go.Proofs.Ytiohpnkfcaahbaa
