/-
  How what stands still goes on.
-/
import Derived.Test.YtiohpnkfcaahbaaFv
namespace Go.Am
set_option linter.unusedVariables false
set_option linter.unusedSimpArgs false
set_option linter.unusedSectionVars false

theorem abr_dec {p : Prop} {_ : Decidable p} {K : Bool → Prop} (ht : p → K true) (hf : ¬p → K false) : ABr (decide p) K := by
  rw [ABr_def]; by_cases h : p
  · rw [decide_eq_true h]; exact ht h
  · rw [decide_eq_false h]; exact hf h
theorem abr_ndec {p : Prop} {_ : Decidable p} {K : Bool → Prop} (ht : ¬p → K true) (hf : p → K false) : ABr (!decide p) K := by
  rw [ABr_def]; by_cases h : p
  · rw [decide_eq_true h]; exact hf h
  · rw [decide_eq_false h]; exact ht h
theorem abr_true {b : Bool} {K : Bool → Prop} (hb : b = true) (h : K true) : ABr b K := by rw [ABr_def]; rw [hb]; exact h
theorem abr_false {b : Bool} {K : Bool → Prop} (hb : b = false) (h : K false) : ABr b K := by rw [ABr_def]; rw [hb]; exact h
theorem abr_any {b : Bool} {K : Bool → Prop} (ht : b = true → K true) (hf : b = false → K false) : ABr b K := by
  rw [ABr_def]; cases b
  · exact hf rfl
  · exact ht rfl
/-- A test, known. -/
theorem abr_yes {p : Prop} {_ : Decidable p} {K : Bool → Prop} (hp : p) (h : K true) : ABr (decide p) K := abr_true (decide_eq_true hp) h
theorem abr_no {p : Prop} {_ : Decidable p} {K : Bool → Prop} (hp : ¬p) (h : K false) : ABr (decide p) K := abr_false (decide_eq_false hp) h

theorem abr_same_ne {α : Type} {a : α} {_ : Decidable (a ≠ a)} {K : Bool → Prop} (h : K false) : ABr (decide (a ≠ a)) K := abr_no (fun h => h rfl) h
theorem abr_same_eq {α : Type} {a : α} {_ : Decidable (a = a)} {K : Bool → Prop} (h : K true) : ABr (decide (a = a)) K := abr_yes rfl h

theorem wrap_i64 {n : Int} (h1 : -9223372036854775808 ≤ n) (h2 : n ≤ 9223372036854775807) : IntKind.i64.wrap n = n := by
  unfold IntKind.wrap IntKind.signed IntKind.bits; simp only [Bool.true_and]; split <;> simp at * <;> omega
theorem wrap_u8 {n : Int} (h1 : 0 ≤ n) (h2 : n < 256) : IntKind.u8.wrap n = n := by unfold IntKind.wrap IntKind.signed IntKind.bits; simp; omega
theorem wrap_u16 {n : Int} (h1 : 0 ≤ n) (h2 : n < 65536) : IntKind.u16.wrap n = n := by unfold IntKind.wrap IntKind.signed IntKind.bits; simp; omega
theorem wrap_u32 {n : Int} (h1 : 0 ≤ n) (h2 : n < 4294967296) : IntKind.u32.wrap n = n := by unfold IntKind.wrap IntKind.signed IntKind.bits; simp; omega
theorem wrap_u64 {n : Int} (h1 : 0 ≤ n) (h2 : n < 18446744073709551616) : IntKind.u64.wrap n = n := by unfold IntKind.wrap IntKind.signed IntKind.bits; simp; omega

theorem afit_eq {k : IntKind} {n m : Int} {K : Int → Prop} (e : k.wrap n = m) (h : K m) : AFit k n K := by rw [AFit_def]; rw [e]; exact h
theorem afit_raw {k : IntKind} {n : Int} {K : Int → Prop} (h : K (k.wrap n)) : AFit k n K := by rw [AFit_def]; exact h
theorem afit_i64 {n : Int} {K : Int → Prop} (h1 : -9223372036854775808 ≤ n ∧ n ≤ 9223372036854775807) (h : K n) : AFit .i64 n K := afit_eq (wrap_i64 h1.1 h1.2) h
theorem afit_u8 {n : Int} {K : Int → Prop} (h1 : 0 ≤ n ∧ n < 256) (h : K n) : AFit .u8 n K := afit_eq (wrap_u8 h1.1 h1.2) h
theorem afit_u16 {n : Int} {K : Int → Prop} (h1 : 0 ≤ n ∧ n < 65536) (h : K n) : AFit .u16 n K := afit_eq (wrap_u16 h1.1 h1.2) h
theorem afit_u32 {n : Int} {K : Int → Prop} (h1 : 0 ≤ n ∧ n < 4294967296) (h : K n) : AFit .u32 n K := afit_eq (wrap_u32 h1.1 h1.2) h
theorem afit_u64 {n : Int} {K : Int → Prop} (h1 : 0 ≤ n ∧ n < 18446744073709551616) (h : K n) : AFit .u64 n K := afit_eq (wrap_u64 h1.1 h1.2) h

theorem abits_eq {op : BinOp} {k : IntKind} {a b m : Int} {K : Int → Prop} (e : bitsOp op k a b = m) (h : K m) : ABits op k a b K := by rw [ABits_def]; rw [e]; exact h
theorem ashl_eq {k : IntKind} {a b m : Int} {K : Int → Prop} (hb : 0 ≤ b) (e : k.wrap (a * 2 ^ (min b.toNat k.bits)) = m) (h : K m) : AShl k a b K := by rw [AShl_def]; rw [e]; exact ⟨hb, h⟩
theorem ashr_eq {k : IntKind} {a b m : Int} {K : Int → Prop} (hb : 0 ≤ b) (e : a.fdiv (2 ^ (min b.toNat k.bits)) = m) (h : K m) : AShr k a b K := by rw [AShr_def]; rw [e]; exact ⟨hb, h⟩
theorem adiv_i64 {a b : Int} {K : Int → Prop} (ha : 0 ≤ a ∧ a ≤ 9223372036854775807) (hb : 1 ≤ b) (h : K (a / b)) : ADiv .i64 a b K := by
  rw [ADiv_def]; refine ⟨by omega, ?_⟩
  have h1 : a.tdiv b = a / b := Int.tdiv_eq_ediv_of_nonneg ha.1
  have h2 : 0 ≤ a / b := Int.ediv_nonneg ha.1 (by omega)
  have h3 : a / b ≤ a := Int.ediv_le_self b ha.1
  rw [h1, wrap_i64 (by omega) (by omega)]; exact h
theorem arem_nonneg {a b : Int} {K : Int → Prop} (ha : 0 ≤ a) (hb : b ≠ 0) (h : K (a % b)) : ARem a b K := by
  rw [ARem_def]; exact ⟨hb, by rw [Int.tmod_eq_emod_of_nonneg ha]; exact h⟩
theorem adiv_eq {k : IntKind} {a b m : Int} {K : Int → Prop} (hb : b ≠ 0) (e : k.wrap (a.tdiv b) = m) (h : K m) : ADiv k a b K := by rw [ADiv_def]; rw [e]; exact ⟨hb, h⟩

theorem amax {a b : Int} {K : Int → Prop} (h : K (max a b)) : AMx true a b K := by rw [AMx_def]; simp only [if_true]; rw [show (if b > a then b else a) = max a b by omega]; exact h
theorem amin {a b : Int} {K : Int → Prop} (h : K (min a b)) : AMx false a b K := by rw [AMx_def]; simp only [Bool.false_eq_true, if_false]; rw [show (if b < a then b else a) = min a b by omega]; exact h

theorem aget {xs : List AVal} {i : Int} {x : AVal} {K : AVal → Prop} (h0 : 0 ≤ i) (hx : xs[i.toNat]? = some x) (h : K x) : AGet xs i K := by rw [AGet_def]; exact ⟨x, h0, hx, h⟩
theorem aidx {i : Int} {n : Nat} {K : Nat → Prop} (h0 : 0 ≤ i) (h1 : i < n) (h : K i.toNat) : AIdx i n K := by rw [AIdx_def]; exact ⟨h0, h1, h⟩
theorem acell {cs : List AVal} {off : Nat} {x : AVal} {K : AVal → Prop} (hx : cs[off]? = some x) (h : K x) : ACell cs off none K := by rw [ACell_def]; exact ⟨x, hx, h⟩
theorem acells {cs : List AVal} {off n : Nat} {l : List AVal} {K : AVal → Prop} (hl : off + n ≤ cs.length) (e : (cs.drop off).take n = l) (h : K (.agg l)) : ACell cs off (some n) K := by rw [ACell_def]; exact ⟨hl, by rw [e]; exact h⟩
theorem aload {σ : AHeap} {id off : Nat} {cs : List AVal} {x : AVal} {K : AVal → Prop} (hs : σ id = some (.cells cs)) (hx : cs[off]? = some x) (h : K x) : ALoad σ id off none K := by rw [ALoad_def]; exact ⟨cs, hs, x, hx, h⟩
theorem aloads {σ : AHeap} {id off n : Nat} {cs l : List AVal} {K : AVal → Prop} (hs : σ id = some (.cells cs)) (hl : off + n ≤ cs.length) (e : (cs.drop off).take n = l) (h : K (.agg l)) : ALoad σ id off (some n) K := by
  rw [ALoad_def]; exact ⟨cs, hs, hl, by rw [e]; exact h⟩
theorem astore {σ : AHeap} {id off : Nat} {cs xs l : List AVal} {K : AHeap → Prop} (hs : σ id = some (.cells cs)) (hl : off + xs.length ≤ cs.length) (hc : xs.all AVal.isCell = true) (e : splice cs off xs = l) (h : K (upd σ id (.cells l))) : AStore σ id off xs K := by
  rw [AStore_def]; exact ⟨cs, hs, hl, hc, by rw [e]; exact h⟩
theorem anew {σ : AHeap} {xs : List AVal} {K : Nat → AHeap → Prop} (hc : xs.all AVal.isCell = true) (h : ∀ id, σ id = none → K id (upd σ id (.cells xs))) : ANew σ xs K := by rw [ANew_def]; exact ⟨hc, h⟩
theorem acut {n : Nat} {lo hi : Int} {K : Nat → Nat → Prop} (h0 : 0 ≤ lo) (h1 : lo ≤ hi) (h2 : hi ≤ n) (h : K lo.toNat hi.toNat) : ACut n lo hi K := by rw [ACut_def]; exact ⟨h0, h1, h2, h⟩
theorem anil {xs : List AVal} {K : Bool → Prop} (h : K false) (k : xs = [] → K true) : ANil xs K := by rw [ANil_def]; exact ⟨h, k⟩
theorem astr {xs : List AVal} {bs : List UInt8} {K : ByteArray → Prop} (e : xs = bs.map byteV) (h : K ⟨bs.toArray⟩) : AStr xs K := by rw [AStr_def]; exact ⟨bs, e, h⟩
theorem arowT {σ : AHeap} {s : Nat} {xs : List AVal} {K : AVal → AHeap → Prop} (h : ∀ t, σ t = none → K (.slice s xs (.own t)) (upd σ t .tip)) : ARowT σ s xs K := ⟨h⟩
theorem amark {σ : AHeap} {xs : List AVal} {t : Nat} {K : AHeap → Prop} (h0 : xs ≠ []) (h1 : σ t = some .tip) (h : K (del σ t)) : AMark σ xs (.own t) K := ⟨h0, t, rfl, h1, h⟩
theorem amk {bytes : Nat} {n : Int} {K : Nat → Prop} (h0 : 0 ≤ n) (h1 : n < 4611686018427387904) (h2 : n * bytes ≤ 281474976710656) (h : K n.toNat) : AMk bytes n K := by rw [AMk_def]; exact ⟨h0, h1, h2, h⟩
theorem aapp_full {σ : AHeap} {s bytes : Nat} {xs ys : List AVal} {K : AVal → AHeap → Prop} (hl : (xs.length + ys.length) * bytes ≤ 140737488355328) (h : ∀ t, σ t = none → K (.slice s (xs ++ ys) (.tip t)) (upd σ t .tip)) : AApp σ s bytes xs .full ys K := by
  rw [AApp_def]; exact ⟨σ, .full, hl, h⟩
theorem aapp_tip {σ : AHeap} {s bytes t : Nat} {xs ys : List AVal} {K : AVal → AHeap → Prop} (ht : σ t = some .tip) (hl : (xs.length + ys.length) * bytes ≤ 140737488355328) (h : ∀ t', σ t' = none → K (.slice s (xs ++ ys) (.tip t')) (upd (del σ t) t' .tip)) :
    AApp σ s bytes xs (.tip t) ys K := by rw [AApp_def]; exact ⟨_, .tip ht, hl, h⟩
theorem acall {P : Program} {f : FuncId} {args : List AVal} {σ : AHeap} {Q Q' : AVal → AHeap → Prop} (h : ACalls P f args σ Q) (k : ∀ v σ', Q v σ' → Q' v σ') : ACalls P f args σ Q' := by
  rw [ACalls_def] at h ⊢
  intro κ w cargs h1 h2
  refine (h κ w cargs h1 h2).mono ?_
  rintro e w' ⟨v, κ', σ', x, h3, h4, h5, h6, h7⟩
  exact ⟨v, κ', σ', x, h3, h4, h5, h6, k _ _ h7⟩
theorem aret {v v' : AVal} {σ σ' : AHeap} {Q : AVal → AHeap → Prop} (hv : VLe v v') (hs : Sub σ σ') (h : Q v' σ') : ARet v σ Q := by rw [ARet_def]; exact ⟨v', σ', hv, hs, h⟩
theorem aret_same {v : AVal} {σ : AHeap} {Q : AVal → AHeap → Prop} (h : Q v σ) : ARet v σ Q := aret (VLe.refl v) (Sub.refl σ) h

theorem VLe.full_tip (s t : Nat) (xs : List AVal) : VLe (.slice s xs .full) (.slice s xs (.tip t)) := fun κ v h => by
  cases h with
  | nil => exact .nil
  | slice h1 h2 h3 h4 h5 h6 => exact .slice h1 h2 h3 h4 h5 (.inl h6)

/-- The right to append, and nothing else that is new. -/
def Owned (σ σ' : AHeap) (tk : Tok) : Prop := (tk = .full ∧ σ' = σ) ∨ ∃ t, σ t = none ∧ tk = .tip t ∧ σ' = upd σ t .tip
theorem Owned.full (σ : AHeap) : Owned σ σ .full := .inl ⟨rfl, rfl⟩
theorem Owned.tip {σ : AHeap} {t : Nat} (h : σ t = none) : Owned σ (upd σ t .tip) (.tip t) := .inr ⟨t, h, rfl, rfl⟩
theorem Owned.sub {σ σ' : AHeap} {tk : Tok} (h : Owned σ σ' tk) : Sub σ' σ := by
  rcases h with ⟨_, rfl⟩ | ⟨t, h, _, rfl⟩
  · exact Sub.refl _
  · exact Sub.upd_fresh _ h
theorem Owned.ext {σ σ' : AHeap} {tk : Tok} (h : Owned σ σ' tk) : Ext σ σ' := by
  rcases h with ⟨_, rfl⟩ | ⟨t, h, _, rfl⟩
  · exact Ext.refl _
  · exact Ext.upd_fresh _ h
theorem aapp_owned {σ σ' : AHeap} {s bytes : Nat} {xs ys : List AVal} {tk : Tok} {K : AVal → AHeap → Prop} (ho : Owned σ σ' tk) (hl : (xs.length + ys.length) * bytes ≤ 140737488355328)
    (h : ∀ t tk', Owned σ (upd σ t .tip) tk' → tk' = .tip t → K (.slice s (xs ++ ys) tk') (upd σ t .tip)) : AApp σ' s bytes xs tk ys K := by
  rcases ho with ⟨rfl, rfl⟩ | ⟨t, h0, rfl, rfl⟩
  · exact aapp_full hl fun t ht => h t _ (.tip ht) rfl
  · refine aapp_tip (upd_same _ _ _) hl fun t' ht' => ?_
    rw [del_upd _ _ _ h0]
    refine h t' _ (.tip ?_) rfl
    by_cases e : t' = t
    · subst e; exact h0
    · rw [upd_ne _ _ e] at ht'; exact ht'
/-- A slice handed back without the right to append. -/
theorem aret_sl {s : Nat} {xs : List AVal} {tk : Tok} {σ σ' : AHeap} {Q : AVal → AHeap → Prop} (hs : Sub σ σ') (h : Q (.slice s xs .none) σ') : ARet (.slice s xs tk) σ Q := aret (VLe.slice s xs tk) hs h

theorem ashr_nat {k : IntKind} {n j : Nat} {K : Int → Prop} (hj : j ≤ k.bits) (h : K ((n / 2 ^ j : Nat) : Int)) : AShr k (n : Int) (j : Int) K := by
  refine ashr_eq (by omega) ?_ h
  rw [Int.toNat_natCast, Nat.min_eq_left hj, Int.fdiv_eq_ediv_of_nonneg _ (by exact Int.pow_nonneg (by omega))]
  rw [Int.natCast_ediv]; simp
theorem wrap_u8_nat (n : Nat) : IntKind.u8.wrap (n : Int) = ((n % 256 : Nat) : Int) := by unfold IntKind.wrap IntKind.signed IntKind.bits; simp
theorem wrap_u16_nat (n : Nat) : IntKind.u16.wrap (n : Int) = ((n % 65536 : Nat) : Int) := by unfold IntKind.wrap IntKind.signed IntKind.bits; simp
theorem wrap_u32_nat (n : Nat) : IntKind.u32.wrap (n : Int) = ((n % 4294967296 : Nat) : Int) := by unfold IntKind.wrap IntKind.signed IntKind.bits; simp
theorem wrap_u64_nat (n : Nat) : IntKind.u64.wrap (n : Int) = ((n % 18446744073709551616 : Nat) : Int) := by unfold IntKind.wrap IntKind.signed IntKind.bits; simp

/-- A call that is handed a view of a row that is stored into no more. -/
theorem acall_still {P : Program} {f : FuncId} {r s : Nat} {xs : List AVal} {σ : AHeap} {Q : AVal → AHeap → Prop} (hs : σ r = some (.cells (xs.flatMap AVal.cells))) (hx : ∀ x ∈ xs, x.cells.length = s)
    (h : ACalls P f [.slice s xs .none] (del σ r) Q) : ACalls P f [.ms r s 0 xs.length] σ Q := by
  rw [ACalls_def] at h ⊢
  intro κ w cargs h1 h2
  cases h2 with
  | cons hv ht =>
    cases ht
    cases hv with
    | ms g1 g2 g3 g4 =>
      obtain ⟨κ', vs, r1, r2, r3, r4⟩ := h1.still hs g1
      refine (h κ' w _ r2 (.cons (.slice (vs := vs) rfl g3 hx (r3.mono r1) (fun i v k => by rw [Nat.zero_add]; exact r4 i v k) trivial) .nil)).mono ?_
      rintro e w' ⟨v, κ2, σ2, x, k1, k2, k3⟩
      exact ⟨v, κ2, σ2, x, k1, r1.trans k2, k3⟩
/-- A call that is handed something that holds a view of a row that is stored into no more. -/
theorem acall_stillA {P : Program} {f : FuncId} {r s : Nat} {xs args args' : List AVal} {σ : AHeap} {Q : AVal → AHeap → Prop} (hs : σ r = some (.cells (xs.flatMap AVal.cells))) (hx : ∀ x ∈ xs, x.cells.length = s)
    (ha : ∀ κ vs, (∀ v, RepV κ (.ms r s 0 xs.length) v → RepV κ (.slice s xs .none) v) → RepL κ args vs → RepL κ args' vs) (h : ACalls P f args' (del σ r) Q) : ACalls P f args σ Q := by
  rw [ACalls_def] at h ⊢
  intro κ w cargs h1 h2
  obtain ⟨b, c, e, vs0, us, k1, _⟩ := h1.cells r _ hs
  obtain ⟨κ', vs, r1, r2, r3, r4⟩ := h1.still hs k1
  refine (h κ' w _ r2 (ha κ' _ (fun v hv => ?_) (RepL.mono r1 h2))).mono ?_
  · cases hv with
    | ms g1 g2 g3 g4 =>
      rw [r1.obj _ _ k1] at g1
      cases g1
      exact .slice (vs := vs) rfl g3 hx (r3.mono r1) (fun i v k => by rw [Nat.zero_add]; exact r4 i v k) trivial
  · rintro e w' ⟨v, κ2, σ2, x, g1, g2, g3⟩
    exact ⟨v, κ2, σ2, x, g1, r1.trans g2, g3⟩
theorem aappnew {σ : AHeap} {s bytes : Nat} {ys : List AVal} {K : AVal → AHeap → Prop} (hy : ys ≠ []) (hl : ys.length * bytes ≤ 140737488355328) (ho : ys.all (okElem s) = true) (h : ∀ r, σ r = none → K (.ms r s 0 ys.length) (upd σ r (.cells (ys.flatMap AVal.cells)))) :
    AAppNew σ s bytes [] .full ys K := ⟨.inr (.inl ⟨rfl, hy, rfl, hl, ho, h⟩)⟩
/-- An append that turns no object. -/
theorem aappnew_app {σ : AHeap} {s bytes : Nat} {xs : List AVal} {t : Tok} {ys : List AVal} {K : AVal → AHeap → Prop} (h : AApp σ s bytes xs t ys K) : AAppNew σ s bytes xs t ys K := ⟨.inr (.inr h)⟩
theorem aappnew_none {σ : AHeap} {s bytes : Nat} {xs : List AVal} {t : Tok} {K : AVal → AHeap → Prop} (hl : xs.length * bytes ≤ 140737488355328) (h : K (.slice s xs t) σ) : AAppNew σ s bytes xs t [] K := ⟨.inl ⟨rfl, hl, h⟩⟩
theorem aappm {σ : AHeap} {r s len bytes : Nat} {ys cs : List AVal} {K : AVal → AHeap → Prop} (hs : σ r = some (.cells cs)) (hc : len * s = cs.length) (hl : (len + ys.length) * bytes ≤ 140737488355328) (ho : ys.all (okElem s) = true)
    (h : ∀ r', σ r' = none → K (.ms r' s 0 (len + ys.length)) (upd (del σ r) r' (.cells (cs ++ ys.flatMap AVal.cells)))) : AAppM σ r s 0 len bytes ys K := ⟨⟨rfl, hl, ho, cs, hs, hc, h⟩⟩
theorem adiv_u64 {a b : Nat} {K : Int → Prop} (hb : 1 ≤ b) (ha : a < 18446744073709551616) (h : K ((a / b : Nat) : Int)) : ADiv .u64 (a : Int) (b : Int) K := by
  refine adiv_eq (by omega) ?_ h
  have h1 := Nat.div_le_self a b
  have e : (a : Int).tdiv b = ((a / b : Nat) : Int) := by rw [Int.tdiv_eq_ediv_of_nonneg (by omega), Int.natCast_ediv]
  rw [e]
  generalize a / b = q at h1
  exact wrap_u64 (by omega) (by omega)
theorem adiv_u8 {a b : Nat} {K : Int → Prop} (hb : 1 ≤ b) (ha : a < 256) (h : K ((a / b : Nat) : Int)) : ADiv .u8 (a : Int) (b : Int) K := by
  refine adiv_eq (by omega) ?_ h
  have h1 := Nat.div_le_self a b
  have e : (a : Int).tdiv b = ((a / b : Nat) : Int) := by rw [Int.tdiv_eq_ediv_of_nonneg (by omega), Int.natCast_ediv]
  rw [e]
  generalize a / b = q at h1
  exact wrap_u8 (by omega) (by omega)

theorem arem_nat {a b : Nat} {K : Int → Prop} (hb : b ≠ 0) (h : K ((a % b : Nat) : Int)) : ARem (a : Int) (b : Int) K :=
  arem_nonneg (Int.natCast_nonneg _) (by omega) (by rw [← Int.natCast_emod]; exact h)
theorem Owned.none_of {σ σ' : AHeap} {tk : Tok} {id : Nat} (h : Owned σ σ' tk) (k : σ' id = none) : σ id = none := by
  rcases h with ⟨_, rfl⟩ | ⟨t', h0, _, rfl⟩
  · exact k
  · by_cases e : id = t'
    · subst e; rw [upd_same] at k; cases k
    · rw [upd_ne _ _ e] at k; exact k
theorem Owned.same_of {σ σ' : AHeap} {tk : Tok} {id : Nat} {o : AObj} (h : Owned σ σ' tk) (k : σ id = some o) : σ' id = some o := by
  rcases h with ⟨_, rfl⟩ | ⟨t', h0, _, rfl⟩
  · exact k
  · by_cases e : id = t'
    · subst e; rw [h0] at k; cases k
    · rw [upd_ne _ _ e]; exact k

theorem acall_less {P : Program} {f : FuncId} {args : List AVal} {σ : AHeap} {Q Q' : AVal → AHeap → Prop} (h : ACalls P f args σ Q) (k : ∀ v σ', Q v σ' → ∃ v' σ2, VLe v v' ∧ Sub σ' σ2 ∧ Q' v' σ2) : ACalls P f args σ Q' := by
  rw [ACalls_def] at h ⊢
  intro κ w cargs h1 h2
  refine (h κ w cargs h1 h2).mono ?_
  rintro e w' ⟨v, κ', σ', x, h3, h4, h5, h6, h7⟩
  obtain ⟨v', σ2, a, b, c⟩ := k _ _ h7
  exact ⟨v, κ', σ2, v', h3, h4, h5.sub b, a _ _ h6, c⟩
theorem owned_drop {σ σ1 σ2 : AHeap} {tk tk2 : Tok} (h : Owned σ σ1 tk) (k : Owned σ1 σ2 tk2) : ∃ σ3, Owned σ σ3 tk2 ∧ Sub σ2 σ3 := by
  rcases k with ⟨rfl, rfl⟩ | ⟨t, h0, rfl, rfl⟩
  · exact ⟨σ, .full _, h.sub⟩
  · exact ⟨upd σ t .tip, .tip (h.none_of h0), Sub.upd h.sub _ _⟩
theorem dec_congr {p q : Prop} {_ : Decidable p} {_ : Decidable q} (h : p ↔ q) : decide p = decide q := by
  by_cases hp : p
  · rw [decide_eq_true hp, decide_eq_true (h.1 hp)]
  · rw [decide_eq_false hp, decide_eq_false (fun hq => hp (h.2 hq))]

theorem aret_dec {p : Prop} {_ : Decidable p} {σ σ' : AHeap} (hb : p) (hs : Sub σ σ') : ARet (.v (.bool (decide p))) σ (fun v σ2 => v = .v (.bool true) ∧ σ2 = σ') := aret (VLe.refl _) hs ⟨by rw [decide_eq_true hb], rfl⟩
theorem aret_tt {σ σ' : AHeap} (hs : Sub σ σ') : ARet (.v (.bool true)) σ (fun v σ2 => v = .v (.bool true) ∧ σ2 = σ') := aret (VLe.refl _) hs ⟨rfl, rfl⟩
end Go.Am

