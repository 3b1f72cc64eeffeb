/-
  Texts of this claim, pack 2: Fs, Ft, Fu, Fv, Fw, Ir0, Fy, Fz.
-/
import Derived.Test.YtgbpjbpdpgbngaaK1
import Derived.Test.YtgbpjbpdpgbngaaProg
import Derived.KernelRfl
import Derived.ChangeSlices
import Derived.SizedLaws
import Derived.WideShapes
import Derived.ChangeSame
import Derived.DataReads
import Derived.OpenShut
set_option linter.unusedSimpArgs false
set_option linter.unusedVariables false
/-
  Every order that a region may draw.
-/
namespace Go.Am
set_option linter.unusedSectionVars false
open Go.RowKit (Below)

theorem Pth.beq_eq : ∀ {p q : Pth}, Pth.beq p q = true ↔ p = q
  | .e, .e => by simp [Pth.beq]
  | .e, .l _ => by simp [Pth.beq]
  | .e, .r _ => by simp [Pth.beq]
  | .l _, .e => by simp [Pth.beq]
  | .r _, .e => by simp [Pth.beq]
  | .l _, .r _ => by simp [Pth.beq]
  | .r _, .l _ => by simp [Pth.beq]
  | .l p, .l q => by simp only [Pth.beq, Pth.l.injEq]; exact Pth.beq_eq
  | .r p, .r q => by simp only [Pth.beq, Pth.r.injEq]; exact Pth.beq_eq

def rowV (P : Program) (r : IRow) (env : Env) (σ : AHeap) (K : AVal → AHeap → Prop) : Prop :=
  match r.guard with
  | none => r.op.ev P env σ K
  | some (g, want) => (∃ b, env.get g = .v (.bool b) ∧ if b = want then r.op.ev P env σ K else K (.tup []) σ) ∨ (env.get g = .tup [] ∧ K (.tup []) σ)

theorem rowP_rowV {P : Program} {r : IRow} {env : Env} {σ : AHeap} {K : Env → AHeap → Prop} : rowP P r env σ K ↔ rowV P r env σ fun v σ' => K (putE env r.dst v) σ' := by
  unfold rowP rowV; cases r.guard <;> exact Iff.rfl

def Agree (r : IRow) (env env' : Env) : Prop := ∀ p, r.looks p = true → env'.get p = env.get p

theorem Agree.opds {r : IRow} {env env' : Env} (h : Agree r env env') : ∀ x ∈ r.op.opds, x.get env = x.get env' := by
  intro x hx
  cases x with
  | t p => exact (h p (by unfold IRow.looks; rw [Bool.or_eq_true]; exact .inl (List.any_eq_true.2 ⟨_, hx, Pth.beq_eq.2 rfl⟩))).symm
  | c v => rfl
theorem Agree.guard {r : IRow} {env env' : Env} (h : Agree r env env') {g : Pth} {want : Bool} (hg : r.guard = some (g, want)) : env'.get g = env.get g :=
  h g (by unfold IRow.looks; rw [Bool.or_eq_true]; exact .inr (by rw [hg]; exact Pth.beq_eq.2 rfl))

theorem rowV_congr {P : Program} {r : IRow} {env env' : Env} (h : Agree r env env') {σ : AHeap} {K : AVal → AHeap → Prop} (hr : rowV P r env σ K) : rowV P r env' σ K := by
  unfold rowV at hr ⊢
  rw [← ev_congr h.opds]
  cases hg : r.guard with
  | none => rw [hg] at hr; exact hr
  | some gw => rw [hg] at hr; simp only at hr ⊢; rw [h.guard hg]; exact hr

theorem rowV_mono {P : Program} {r : IRow} {env : Env} {σ : AHeap} {K K' : AVal → AHeap → Prop} (h : rowV P r env σ K) (hk : ∀ x σ', K x σ' → K' x σ') : rowV P r env σ K' := by
  unfold rowV at h ⊢
  cases hg : r.guard with
  | none => rw [hg] at h; exact ev_mono h hk
  | some gw =>
    rw [hg] at h
    rcases h with ⟨b, h1, h2⟩ | ⟨h1, h2⟩
    case inr => exact .inr ⟨h1, hk _ _ h2⟩
    refine .inl ⟨b, h1, ?_⟩
    split
    · rename_i hb; rw [if_pos hb] at h2; exact ev_mono h2 hk
    · rename_i hb; rw [if_neg hb] at h2; exact hk _ _ h2

theorem rowV_quiet {P : Program} {r : IRow} {env : Env} {σ : AHeap} {K : AVal → AHeap → Prop} (hc : r.op.cls ≤ 2) (h : rowV P r env σ K) : rowV P r env σ fun x σ' => K x σ' ∧ Ext σ σ' := by
  unfold rowV at h ⊢
  cases hg : r.guard with
  | none => rw [hg] at h; exact ev_quiet hc h
  | some gw =>
    rw [hg] at h
    rcases h with ⟨b, h1, h2⟩ | ⟨h1, h2⟩
    case inr => exact .inr ⟨h1, h2, Ext.refl σ⟩
    refine .inl ⟨b, h1, ?_⟩
    split
    · rename_i hb; rw [if_pos hb] at h2; exact ev_quiet hc h2
    · rename_i hb; rw [if_neg hb] at h2; exact ⟨h2, Ext.refl σ⟩

/-- Row r comes to x, now and later. -/
def Yd (P : Program) (r : IRow) (env : Env) (σ : AHeap) (x : AVal) : Prop := ∀ env' σ' K', Agree r env env' → (r.op.cls = 0 ∨ Ext σ σ') → K' x σ' → rowV P r env' σ' K'

theorem rowV_det {P : Program} {r : IRow} {env : Env} {σ : AHeap} {K : AVal → AHeap → Prop} (hc : r.op.cls ≤ 1) (h : rowV P r env σ K) : ∃ x, K x σ ∧ Yd P r env σ x := by
  unfold rowV at h
  cases hg : r.guard with
  | none =>
    rw [hg] at h
    obtain ⟨x, h1, h2⟩ := ev_det hc h
    refine ⟨x, h1, fun env' σ' K' ha he hk => ?_⟩
    unfold rowV; rw [hg]; simp only
    rw [← ev_congr ha.opds]; exact h2 σ' K' he hk
  | some gw =>
    obtain ⟨g, want⟩ := gw
    rw [hg] at h
    rcases h with ⟨b, h1, h2⟩ | ⟨h1, h2⟩
    case inr =>
      refine ⟨.tup [], h2, fun env' σ' K' ha he hk => ?_⟩
      unfold rowV; rw [hg]; simp only
      exact .inr ⟨by rw [ha.guard hg]; exact h1, hk⟩
    by_cases hb : b = want
    · rw [if_pos hb] at h2
      obtain ⟨x, h3, h4⟩ := ev_det hc h2
      refine ⟨x, h3, fun env' σ' K' ha he hk => ?_⟩
      unfold rowV; rw [hg]; simp only
      refine .inl ⟨b, by rw [ha.guard hg]; exact h1, ?_⟩
      rw [if_pos hb, ← ev_congr ha.opds]; exact h4 σ' K' he hk
    · rw [if_neg hb] at h2
      refine ⟨.tup [], h2, fun env' σ' K' ha he hk => ?_⟩
      unfold rowV; rw [hg]; simp only
      exact .inl ⟨b, by rw [ha.guard hg]; exact h1, by rw [if_neg hb]; exact hk⟩

theorem putE_get {env : Env} {d : Option Pth} {v : AVal} {p : Pth} (h : d ≠ some p) : (putE env d v).get p = env.get p := by
  cases d with
  | none => rfl
  | some d => exact Env.get_set_ne env v fun e => h (by rw [e])

theorem agree_put {r : IRow} {env : Env} {d : Option Pth} {v : AVal} (h : dstApart d r = true) : Agree r env (putE env d v) := by
  intro p hp
  refine putE_get fun e => ?_
  subst e
  simp only [dstApart, hp] at h
  cases h

theorem putE_comm (env : Env) {d e : Option Pth} (u v : AVal) (h : dstNe d e = true) : putE (putE env d u) e v = putE (putE env e v) d u := by
  cases d with
  | none => rfl
  | some d => cases e with
    | none => rfl
    | some d2 =>
      simp only [dstNe, Bool.not_eq_true'] at h
      exact Env.set_comm env u v fun k => by rw [Pth.beq_eq.2 k] at h; cases h

section
variable {P : Program} {C : Cfg} {ops : Array Oper} {rows : List IRow} {K : Env → AHeap → Prop}

def AAny (P : Program) (ops : Array Oper) (rows : List IRow) (K : Env → AHeap → Prop) : Nat → Array Bool → Env → AHeap → Prop
  | 0, listed, env, σ => Region.ready .any ops listed = [] ∧ K env σ
  | n + 1, listed, env, σ => (Region.ready .any ops listed = [] → K env σ) ∧
      ∀ i ∈ Region.ready .any ops listed, ∀ r, rows[i]? = some r → rowV P r env σ fun v σ' => AAny P ops rows K n (listed.setIfInBounds i true) (putE env r.dst v) σ'

inductive Blk (ops : Array Oper) (listed : Array Bool) (i : Nat) : Nat → Prop
  | dir {j : Nat} {oj : Oper} {e : Edge} : ops[j]? = some oj → e ∈ oj.after → Region.binds .any e = true → e.on = i → Blk ops listed i j
  | thru {j : Nat} {oj : Oper} {e : Edge} : ops[j]? = some oj → e ∈ oj.after → Region.binds .any e = true → listed.getD e.on true = false → Blk ops listed i e.on → Blk ops listed i j
theorem blkB_spec {listed : Array Bool} {i : Nat} : ∀ (f j : Nat), blkB ops listed i f j = true → Blk ops listed i j
  | 0, _, h => by cases h
  | f + 1, j, h => by
    unfold blkB at h
    split at h
    · rename_i oj hoj
      obtain ⟨k, hk, hb⟩ := Array.any_eq_true.1 h
      simp only [Bool.and_eq_true, Bool.or_eq_true, Bool.not_eq_true'] at hb
      rcases hb.2 with hb2 | hb2
      · exact .dir hoj (Array.getElem_mem hk) hb.1 (Nat.eq_of_beq_eq_true hb2)
      · exact .thru hoj (Array.getElem_mem hk) hb.1 hb2.1 (blkB_spec f _ hb2.2)
    · cases h
theorem waitL_spec {listed : Array Bool} {i : Nat} : ∀ (k m : Nat), ((waitL ops listed i k)[m]?).getD false = true → m < k ∧ Blk ops listed i (k - 1 - m)
  | 0, m, h => by simp [waitL] at h
  | k + 1, 0, h => by
    unfold waitL at h
    rw [List.getElem?_cons_zero, Option.getD_some] at h
    refine ⟨Nat.succ_pos _, ?_⟩
    show Blk ops listed i k
    split at h
    · rename_i oj hoj
      obtain ⟨q, hq, hb⟩ := Array.any_eq_true.1 h
      simp only [Bool.and_eq_true, Bool.or_eq_true, Bool.not_eq_true'] at hb
      rcases hb.2 with hb2 | ⟨⟨hb2, hb3⟩, hb4⟩
      · exact .dir hoj (Array.getElem_mem hq) hb.1 (Nat.eq_of_beq_eq_true hb2)
      · obtain ⟨w1, w2⟩ := waitL_spec k _ hb4
        have hlt : (oj.after[q]).on < k := by
          have := Nat.le_of_ble_eq_true (show Nat.ble ((oj.after[q]).on + 1) k = true from hb2)
          omega
        rw [show k - 1 - (k - 1 - (oj.after[q]).on) = (oj.after[q]).on by omega] at w2
        exact .thru hoj (Array.getElem_mem hq) hb.1 hb3 w2
    · cases h
  | k + 1, m + 1, h => by
    unfold waitL at h
    rw [List.getElem?_cons_succ] at h
    obtain ⟨w1, w2⟩ := waitL_spec k m h
    refine ⟨Nat.succ_lt_succ w1, ?_⟩
    rw [show k + 1 - 1 - (m + 1) = k - 1 - m by omega]
    exact w2
def Free (ops : Array Oper) (rows : List IRow) (listed : Array Bool) (i : Nat) (ri : IRow) : Prop :=
  ∀ (j : Nat) (oj : Oper) (rj : IRow), ops[j]? = some oj → rows[j]? = some rj → j ≠ i → listed.getD j true = false → ¬ Blk ops listed i j → apartR ri rj = true ∧ (ri.op.cls = 0 ∨ rj.op.cls ≤ 2)

theorem any_first {i : Nat} {ri : IRow} (hri : rows[i]? = some ri) : ∀ (n : Nat) (listed : Array Bool) (env : Env) (σ : AHeap) (x : AVal), Free ops rows listed i ri → i ∈ Region.ready .any ops listed → Yd P ri env σ x →
    AAny P ops rows K n (listed.setIfInBounds i true) (putE env ri.dst x) σ → AAny P ops rows K (n + 1) listed env σ := by
  intro n
  induction n with
  | zero =>
    intro listed env σ x _ hr hy H
    refine ⟨fun h => (by rw [h] at hr; cases hr), fun j hj r hrj => ?_⟩
    by_cases hji : j = i
    · subst hji
      rw [hri] at hrj; cases hrj
      exact hy env σ _ (fun _ _ => rfl) (.inr (Ext.refl σ)) H
    · have := ready_mono hj hji
      rw [H.1] at this; cases this
  | succ n ih =>
    intro listed env σ x hfree hr hy H
    refine ⟨fun h => (by rw [h] at hr; cases hr), fun j hj r hrj => ?_⟩
    by_cases hji : j = i
    · subst hji
      rw [hri] at hrj; cases hrj
      exact hy env σ _ (fun _ _ => rfl) (.inr (Ext.refl σ)) H
    · obtain ⟨hjun, oj, hoj, hall⟩ := mem_ready.1 hj
      have two : ∀ k, listed.getD k true = false → listed.getD k false = true → False := fun k h0 h1 => by
        rcases Nat.lt_or_ge k listed.size with h' | h'
        · simp [h'] at h0 h1; rw [h0] at h1; cases h1
        · simp [Array.getElem?_eq_none h'] at h1
      have hnot : ¬ Blk ops listed i j := fun hb => by
        cases hb with
        | dir q1 q2 q3 q4 =>
          rw [hoj] at q1; cases q1
          have h1 := hall _ q2 q3
          rw [q4] at h1
          exact two i (mem_ready.1 hr).1 h1
        | thru q1 q2 q3 q4 q5 =>
          rw [hoj] at q1; cases q1
          exact two _ q4 (hall _ q2 q3)
      obtain ⟨hap, hcl⟩ := hfree j oj r hoj hrj hji hjun hnot
      simp only [apartR, Bool.and_eq_true] at hap
      obtain ⟨⟨a1, a2⟩, a3⟩ := hap
      have h1 := H.2 j (ready_mono hj hji) r hrj
      have h2 : rowV P r env σ fun v σ' => AAny P ops rows K n ((listed.setIfInBounds i true).setIfInBounds j true) (putE (putE env ri.dst x) r.dst v) σ' := by
        refine rowV_congr (env := putE env ri.dst x) (fun p hp => ?_) h1
        exact (agree_put (v := x) a1 p hp).symm
      have h3 : rowV P r env σ fun v σ' => AAny P ops rows K n ((listed.setIfInBounds i true).setIfInBounds j true) (putE (putE env ri.dst x) r.dst v) σ' ∧ (ri.op.cls = 0 ∨ Ext σ σ') := by
        rcases hcl with hcl | hcl
        · exact rowV_mono h2 fun v σ' q => ⟨q, .inl hcl⟩
        · exact rowV_mono (rowV_quiet hcl h2) fun v σ' q => ⟨q.1, .inr q.2⟩
      refine rowV_mono h3 fun v σ' q => ?_
      refine ih (listed.setIfInBounds j true) (putE env r.dst v) σ' x ?_ (ready_mono hr (Ne.symm hji)) ?_ ?_
      · intro k ok rk hk hrk hki hun hno
        refine hfree k ok rk hk hrk hki ?_ (fun hb => hno ?_)
        case refine_2 =>
          have up : ∀ m, Blk ops listed i m → Blk ops (listed.setIfInBounds j true) i m := fun m hm => by
            induction hm with
            | dir q1 q2 q3 q4 => exact .dir q1 q2 q3 q4
            | thru q1 q2 q3 q4 q5 ih => 
              refine .thru q1 q2 q3 ?_ ih
              rw [getD_set_ne true (fun e => hnot (by rw [e]; exact q5))]
              exact q4
          exact up k hb
        by_cases hjk : j = k
        · subst hjk; exact hjun
        · rw [getD_set_ne true hjk] at hun; exact hun
      · intro env' σ2 K' hag he hk
        refine hy env' σ2 K' (fun p hp => ?_) ?_ hk
        · rw [hag p hp]; exact agree_put (v := v) a2 p hp
        · rcases q.2 with h | h
          · exact .inl h
          · rcases he with he | he
            · exact .inl he
            · exact .inr (h.trans he)
      · have := q.1
        rw [Array.setIfInBounds_comm _ _ hji, putE_comm env v x (by
          cases hd : ri.dst <;> cases he : r.dst <;> (rw [hd, he] at a3; first | rfl | (simp only [dstNe, Bool.not_eq_true'] at a3 ⊢; rw [← a3]; rename_i p q; cases hx : Pth.beq q p with
            | true => have := Pth.beq_eq.1 hx; subst this; rw [Pth.beq_eq.2 rfl]
            | false => cases hy2 : Pth.beq p q with
              | true => have := Pth.beq_eq.1 hy2; subst this; rw [Pth.beq_eq.2 rfl] at hx; cases hx
              | false => rfl)))]
        exact this

theorem firstB_spec {listed : Array Bool} {i : Nat} {ri : IRow} (hri : rows[i]? = some ri) (h : firstB ops rows listed i = true) : ri.op.cls ≤ 1 ∧ Free ops rows listed i ri := by
  unfold firstB at h
  rw [hri] at h
  simp only [Bool.and_eq_true] at h
  refine ⟨Nat.le_of_ble_eq_true h.1, fun j oj rj hj hrj hji hun hno => ?_⟩
  have hlt : j < ops.size := (Array.getElem?_eq_some_iff.1 hj).1
  have := List.all_eq_true.1 h.2 j (List.mem_range.2 hlt)
  simp only [hj, hrj, Bool.or_eq_true, Bool.and_eq_true] at this
  rcases this with ((((this | this) | this) | this) | this) | this
  · exact absurd (Nat.eq_of_beq_eq_true this) hji
  · rw [hun] at this; cases this
  · obtain ⟨k, hk, hb⟩ := Array.any_eq_true.1 this
    simp only [Bool.and_eq_true] at hb
    exact absurd (Blk.dir hj (Array.getElem_mem hk) hb.1 (Nat.eq_of_beq_eq_true hb.2)) hno
  · refine ⟨this.1, ?_⟩
    rcases this.2 with h | h
    · exact .inl (Nat.eq_of_beq_eq_true h)
    · exact .inr (Nat.le_of_ble_eq_true h)
  · exact absurd (blkB_spec 5 j this) hno
  · obtain ⟨w1, w2⟩ := waitL_spec ops.size _ this
    rw [show ops.size - 1 - (ops.size - 1 - j) = j by omega] at w2
    exact absurd w2 hno

theorem bothL_mem : ∀ {l : List (Option RT)} {t : RT} {env : Env} {σ : AHeap}, bothL l = some t → evRT P t env σ K → ∀ x ∈ l, ∃ u, x = some u ∧ evRT P u env σ K
  | [], t, _, _, h, _, x, hx => by cases h
  | [y], t, env, σ, h, hk, x, hx => by
    simp only [bothL] at h
    rw [List.mem_singleton] at hx; subst hx
    exact ⟨t, h, hk⟩
  | y :: z :: l, t, env, σ, h, hk, x, hx => by
    simp only [bothL] at h
    obtain ⟨a, ha, h⟩ := optbind h
    obtain ⟨b, hb, rfl⟩ := optmap h
    simp only [evRT] at hk
    rcases List.mem_cons.1 hx with rfl | hx
    · exact ⟨a, ha, hk.1⟩
    · exact bothL_mem hb hk.2 x hx

theorem any_of_lin : ∀ (n : Nat) (listed : Array Bool) (t : RT), lin ops rows n listed = some t → ∀ (env : Env) (σ : AHeap), evRT P t env σ K → AAny P ops rows K n listed env σ := by
  intro n
  induction n with
  | zero =>
    intro listed t h env σ hk
    simp only [lin] at h
    obtain ⟨h1, h⟩ := bifsome h
    cases h
    exact ⟨by simpa using h1, hk⟩
  | succ n ih =>
    intro listed t h env σ hk
    simp only [lin] at h
    split at h
    · rename_i he
      cases h
      exact ⟨fun _ => hk, fun i hi => by rw [he] at hi; cases hi⟩
    · rename_i hne
      split at h
      · rename_i i hfind
        split at h
        · rename_i r hr
          obtain ⟨u, hu, rfl⟩ := optmap h
          simp only [evRT] at hk
          have hmem : i ∈ Region.ready .any ops listed := List.mem_of_find?_eq_some hfind
          have hfb : firstB ops rows listed i = true := List.find?_some hfind
          obtain ⟨hc, hfree⟩ := firstB_spec hr hfb
          have hk' := rowP_rowV.1 (evRow_rowP hk)
          obtain ⟨x, hx, hy⟩ := rowV_det hc hk'
          exact any_first hr n listed env σ x hfree hmem hy (ih _ u hu _ _ hx)
        · cases h
      · refine ⟨fun he => absurd he hne, fun i hi r hr => ?_⟩
        obtain ⟨u, hu, hk2⟩ := bothL_mem h hk _ (List.mem_map.2 ⟨i, hi, rfl⟩)
        rw [hr] at hu
        simp only at hu
        obtain ⟨v, hv, rfl⟩ := optmap hu
        simp only [evRT] at hk2
        exact rowV_mono (rowP_rowV.1 (evRow_rowP hk2)) fun x σ' q => ih _ v hv _ _ q

theorem compRows_get : ∀ {os : List Oper} {rows : List IRow}, compRows P C ops os = some rows → ∀ (i : Nat) (o : Oper), os[i]? = some o → ∃ r, rows[i]? = some r ∧ compRow P C ops o = some r
  | [], rows, h, i, o, ho => by simp at ho
  | p :: os, rows, h, i, o, ho => by
    simp only [compRows] at h
    obtain ⟨r, h1, h⟩ := optbind h
    obtain ⟨rs, h2, rfl⟩ := optmap h
    cases i with
    | zero => simp at ho; subst ho; exact ⟨r, by simp, h1⟩
    | succ i => simp at ho; obtain ⟨r', h3, h4⟩ := compRows_get h2 i o ho; exact ⟨r', by simpa using h3, h4⟩

theorem any_sound (hrows : compRows P C ops ops.toList = some rows) {Q : Exit → Act → World → Prop} : ∀ (n : Nat) (listed : Array Bool) (env : Env) (σ : AHeap) (κ : Ghost) (a : Act) (w : World), St κ C.n σ env a w → AAny P ops rows K n listed env σ →
    (∀ κ' σ' env' a' w', κ.le κ' → St κ' C.n σ' env' a' w' → K env' σ' → Q .normal a' w') → wpAny P .any ops Q n listed a w := by
  intro n
  induction n with
  | zero => intro listed env σ κ a w hS h hQ; exact ⟨h.1, hQ κ σ env a w (Ghost.le.refl κ) hS h.2⟩
  | succ n ih =>
    intro listed env σ κ a w hS h hQ
    refine ⟨fun he => hQ κ σ env a w (Ghost.le.refl κ) hS (h.1 he), fun i hi => ?_⟩
    obtain ⟨_, o, ho, _⟩ := mem_ready.1 hi
    obtain ⟨r, hr, hcr⟩ := compRows_get hrows i o (by simpa using ho)
    exact row_sound ho hcr hS (rowP_rowV.2 (h.2 i hi r hr)) fun κ' σ' env' a' w' q1 q2 q3 =>
      ih _ _ _ _ _ _ q2 q3 fun κ2 σ2 env2 a2 w2 p1 p2 p3 => hQ κ2 σ2 env2 a2 w2 (q1.trans p1) p2 p3
end
end Go.Am
/-
  Bodies: what a body comes to ('evC'), loops, jumps, calls.
-/
namespace Go.Am
set_option linter.unusedSectionVars false
open Go.RowKit (Below)

def seqQ (K : Env → AHeap → Prop) (Q : Exit → Env → AHeap → Prop) : Exit → Env → AHeap → Prop
  | .normal, env, σ => K env σ
  | e, env, σ => Q e env σ

def blockQ (id : Nat) (Q : Exit → Env → AHeap → Prop) : Exit → Env → AHeap → Prop
  | .exit i, env, σ => bif Nat.beq i id then Q .normal env σ else Q (.exit i) env σ
  | e, env, σ => Q e env σ

def noGotoQ (Q : Exit → Env → AHeap → Prop) : Exit → Env → AHeap → Prop
  | .goto _, _, _ => False
  | e, env, σ => Q e env σ

def jumpQ (J : Nat → Env → AHeap → Prop) (Q : Exit → Env → AHeap → Prop) : Exit → Env → AHeap → Prop
  | .goto l, env, σ => J l env σ
  | e, env, σ => Q e env σ

/-- What a body's run must come to, from any state that the abstract one stands for. -/
def AWp (P : Program) (C : Cfg) (ic : ICode) (env : Env) (σ : AHeap) (Q : Exit → Env → AHeap → Prop) : Prop :=
  ∀ c, compC P C c = some ic → ∀ κ a w, St κ C.n σ env a w → c.wp P (Lift κ C.n Q) a w

structure ALoop (P : Program) (C : Cfg) (b : ICode) (env : Env) (σ : AHeap) (Q : Exit → Env → AHeap → Prop) : Prop where of ::
  out : AWp P C (.loop b) env σ Q
theorem ALoop_def (P : Program) (C : Cfg) (b : ICode) (env : Env) (σ : AHeap) (Q : Exit → Env → AHeap → Prop) : ALoop P C b env σ Q = (AWp P C (.loop b) env σ Q) := propext ⟨fun h => h.out, fun h => ⟨h⟩⟩
structure AScope (P : Program) (C : Cfg) (b : ICode) (env : Env) (σ : AHeap) (Q : Exit → Env → AHeap → Prop) : Prop where of ::
  out : AWp P C (.scope b) env σ Q
theorem AScope_def (P : Program) (C : Cfg) (b : ICode) (env : Env) (σ : AHeap) (Q : Exit → Env → AHeap → Prop) : AScope P C b env σ Q = (AWp P C (.scope b) env σ Q) := propext ⟨fun h => h.out, fun h => ⟨h⟩⟩

/-- A label is reached from above. -/
structure ALabel (P : Program) (C : Cfg) (l : Nat) (b : ICode) (env : Env) (σ : AHeap) (Q : Exit → Env → AHeap → Prop) : Prop where of ::
  out : AWp P C b env σ Q

def ICode.jumps : ICode → Bool
  | .goto _ => true
  | .seq a b | .cond _ a b => a.jumps || b.jumps
  | .block _ b | .loop b | .scope b => b.jumps
  | _ => false

def setOpd (env : Env) (c : Opd) (v : AVal) (k : Env → Prop) : Prop :=
  match c with
  | .t p => env.setK p v k
  | .c _ => k env

def condK (env : Env) (c : Opd) (x : AVal) (yes no : Env → Prop) : Prop :=
  match x with
  | .v (.bool b) => ABr b fun b => setOpd env c (.v (.bool b)) fun env => match b with
    | true => yes env
    | false => no env
  | _ => False

def evC (P : Program) (C : Cfg) : ICode → Env → AHeap → (Exit → Env → AHeap → Prop) → Prop
  | .skip, env, σ, Q => Q .normal env σ
  | .reg t, env, σ, Q => evRT P t env σ fun env σ => Q .normal env σ
  | .seq a b, env, σ, Q => match a with
    | .label l => ALabel P C l b env σ Q
    | _ => evC P C a env σ (seqQ (fun env σ => evC P C b env σ Q) Q)
  | .cond c x y, env, σ, Q => condK env c (c.get env) (fun env => evC P C x env σ Q) (fun env => evC P C y env σ Q)
  | .block id b, env, σ, Q => evC P C b env σ (blockQ id Q)
  | .loop b, env, σ, Q => ALoop P C b env σ Q
  | .exit id, env, σ, Q => Q (.exit id) env σ
  | .scope b, env, σ, Q => bif b.jumps then AScope P C b env σ Q else evC P C b env σ (noGotoQ Q)
  | .label _, env, σ, Q => Q .normal env σ
  | .goto l, env, σ, Q => Q (.goto l) env σ
  | .ret, env, σ, Q => Q .ret env σ

section
variable {P : Program} {C : Cfg} {Q : Exit → Env → AHeap → Prop}

theorem Lift.intro {κ : Ghost} {n : Nat} {e : Exit} {a : Act} {w : World} {env : Env} {σ : AHeap} (h : St κ n σ env a w) (k : Q e env σ) : Lift κ n Q e a w := ⟨κ, env, σ, Ghost.le.refl κ, h, k⟩

theorem setOpd_eq {env : Env} {c : Opd} {k : Env → Prop} : setOpd env c (c.get env) k = k env := by
  cases c with
  | t p => simp only [setOpd, Opd.get, Env.setK_eq]; rw [env.set_get]
  | c x => rfl

/-- What code it was. -/
def CInv (P : Program) (C : Cfg) (c : Code) : ICode → Prop
  | .skip => c = .skip
  | .reg t => (∃ id ops rows, c = .region id ops false ∧ compRows P C ops ops.toList = some rows ∧ t = rowsRT rows) ∨
      (∃ id ops rows, c = .region id ops true ∧ P.follows .mixedOrders = true ∧ compRows P C ops ops.toList = some rows ∧ lin ops rows ops.size (Array.replicate ops.size false) = some t)
  | .seq a b => ∃ x y, c = .seq x y ∧ compC P C x = some a ∧ compC P C y = some b
  | .cond o a b => ∃ o' x y, c = .cond o' x y ∧ opT P 0 o' = some o ∧ compC P C x = some a ∧ compC P C y = some b
  | .block id b => ∃ x, c = .block id x ∧ compC P C x = some b
  | .loop b => ∃ x, c = .loop x ∧ compC P C x = some b
  | .exit id => c = .exit id
  | .scope b => ∃ x, c = .scope x ∧ compC P C x = some b
  | .label l => c = .label l
  | .goto l => c = .goto l
  | .ret => c = .ret

theorem compC_inv {c : Code} {ic : ICode} (hc : compC P C c = some ic) : CInv P C c ic := by
  cases c with
  | skip => simp only [compC, Option.some.injEq] at hc; subst hc; rfl
  | region id ops d =>
    cases d <;> simp only [compC] at hc
    · obtain ⟨rows, h1, rfl⟩ := optmap hc; exact .inl ⟨id, ops, rows, rfl, h1, rfl⟩
    · obtain ⟨h0, hc⟩ := bifsome hc; obtain ⟨rows, h1, hc⟩ := optbind hc; obtain ⟨t, h2, rfl⟩ := optmap hc; exact .inr ⟨id, ops, rows, rfl, h0, h1, h2⟩
  | seq x y => simp only [compC] at hc; obtain ⟨a, h1, hc⟩ := optbind hc; obtain ⟨b, h2, rfl⟩ := optmap hc; exact ⟨x, y, rfl, h1, h2⟩
  | cond o x y => simp only [compC] at hc; obtain ⟨o', h0, hc⟩ := optbind hc; obtain ⟨a, h1, hc⟩ := optbind hc; obtain ⟨b, h2, rfl⟩ := optmap hc; exact ⟨o, x, y, rfl, h0, h1, h2⟩
  | block id x => simp only [compC] at hc; obtain ⟨b, h1, rfl⟩ := optmap hc; exact ⟨x, rfl, h1⟩
  | loop x => simp only [compC] at hc; obtain ⟨b, h1, rfl⟩ := optmap hc; exact ⟨x, rfl, h1⟩
  | scope x => simp only [compC] at hc; obtain ⟨b, h1, rfl⟩ := optmap hc; exact ⟨x, rfl, h1⟩
  | exit id => simp only [compC, Option.some.injEq] at hc; subst hc; rfl
  | label l => simp only [compC, Option.some.injEq] at hc; subst hc; rfl
  | goto l => simp only [compC, Option.some.injEq] at hc; subst hc; rfl
  | ret => simp only [compC, Option.some.injEq] at hc; subst hc; rfl
  | _ => simp [compC] at hc

theorem evC_sound : ∀ (ic : ICode) (Q : Exit → Env → AHeap → Prop) (env : Env) (σ : AHeap), evC P C ic env σ Q → AWp P C ic env σ Q := by
  intro ic
  induction ic with
  | skip => intro Q env σ h c hc κ a w hS; obtain rfl := compC_inv hc; exact wp_skip (Lift.intro hS h)
  | exit id => intro Q env σ h c hc κ a w hS; obtain rfl := compC_inv hc; exact wp_exit (Lift.intro hS h)
  | label l => intro Q env σ h c hc κ a w hS; obtain rfl := compC_inv hc; exact wp_label (Lift.intro hS h)
  | goto l => intro Q env σ h c hc κ a w hS; obtain rfl := compC_inv hc; exact wp_goto (Lift.intro hS h)
  | ret => intro Q env σ h c hc κ a w hS; obtain rfl := compC_inv hc; exact wp_ret (Lift.intro hS h)
  | loop b _ => intro Q env σ h; simp only [evC, ALoop_def] at h; exact h
  | reg t =>
    intro Q env σ h c hc κ a w hS
    simp only [evC] at h
    rcases compC_inv hc with ⟨id, ops, rows, rfl, h1, rfl⟩ | ⟨id, ops, rows, rfl, hm, h1, h2⟩
    · refine wp_region ?_
      have := rows_sound (Q := Lift κ C.n Q) (K := fun env σ => Q .normal env σ) ops.toList 0 rows (fun j => by simp) h1 (by simp) hS h fun κ' σ' env' a' w' q1 q2 q3 => ⟨κ', env', σ', q1, q2, q3⟩
      simpa [List.range_eq_range'] using this
    · refine wp_region_any hm ?_
      have hS' : St κ C.n σ env a { w with drawn := w.drawn + 1 } := ⟨hS.inv.drew, hS.rep, hS.defers⟩
      exact any_sound h1 (K := fun env σ => Q .normal env σ) ops.size _ env σ κ a _ hS' (any_of_lin _ _ t h2 env σ h) fun κ' σ' env' a' w' q1 q2 q3 => ⟨κ', env', σ', q1, q2, q3⟩
  | seq x y ihx ihy =>
    intro Q env σ h c hc κ a w hS
    obtain ⟨cx, cy, rfl, hx, hy⟩ := compC_inv hc
    have h2 : (∃ l, x = .label l ∧ ALabel P C l y env σ Q) ∨ evC P C x env σ (seqQ (fun env σ => evC P C y env σ Q) Q) := by
      simp only [evC] at h
      split at h
      · exact .inl ⟨_, rfl, h⟩
      · exact .inr h
    rcases h2 with ⟨l, rfl, h⟩ | h
    · obtain rfl := compC_inv hx
      exact wp_seq (wp_label (h.out cy hy κ a w hS))
    refine wp_seq (wp_mono (ihx _ env σ h cx hx κ a w hS) ?_)
    rintro e a' w' ⟨κ', env', σ', q1, q2, q3⟩
    cases e with
    | normal => exact wp_mono (ihy _ env' σ' q3 cy hy κ' a' w' q2) fun e a w k => Lift.le q1 k
    | _ => exact ⟨κ', env', σ', q1, q2, q3⟩
  | cond o x y ihx ihy =>
    intro Q env σ h c hc κ a w hS
    obtain ⟨o', cx, cy, rfl, ho, hx, hy⟩ := compC_inv hc
    have ro := opT_spec hS.rep ho
    simp only [evC, condK] at h
    split at h
    · rename_i b he
      rw [he] at ro
      obtain ⟨hv, _⟩ := ro.v_inv
      rw [ABr_def] at h
      cases b
      · have h2 : setOpd env o (o.get env) (fun env => evC P C y env σ Q) := by rw [he]; exact h
        rw [setOpd_eq] at h2
        exact wp_cond_false hv (ihy _ env σ h2 cy hy κ a w hS)
      · have h2 : setOpd env o (o.get env) (fun env => evC P C x env σ Q) := by rw [he]; exact h
        rw [setOpd_eq] at h2
        exact wp_cond_true hv (ihx _ env σ h2 cx hx κ a w hS)
    · exact h.elim
  | block id x ih =>
    intro Q env σ h c hc κ a w hS
    obtain ⟨cx, rfl, hx⟩ := compC_inv hc
    refine wp_block (wp_mono (ih _ env σ h cx hx κ a w hS) ?_)
    rintro e a' w' ⟨κ', env', σ', q1, q2, q3⟩
    cases e with
    | exit i =>
      simp only [blockQ] at q3
      simp only [Exit.inBlock]
      split
      · rename_i hi; subst hi
        rw [Nat.beq_refl] at q3
        exact ⟨κ', env', σ', q1, q2, q3⟩
      · rename_i hi
        have : Nat.beq i id = false := by
          cases hb : Nat.beq i id with
          | false => rfl
          | true => exact absurd (Nat.eq_of_beq_eq_true hb) hi
        rw [this] at q3
        exact ⟨κ', env', σ', q1, q2, q3⟩
    | _ => exact ⟨κ', env', σ', q1, q2, q3⟩
  | scope x ih =>
    intro Q env σ h
    simp only [evC] at h
    cases hj : x.jumps with
    | true => rw [hj] at h; simp only [cond_true, AScope_def] at h; exact h
    | false =>
      rw [hj] at h
      intro c hc κ a w hS
      obtain ⟨cx, rfl, hx⟩ := compC_inv hc
      refine wp_scope_straight (wp_mono (ih _ env σ h cx hx κ a w hS) ?_)
      rintro e a' w' ⟨κ', env', σ', q1, q2, q3⟩
      cases e with
      | goto l => exact q3.elim
      | _ => exact ⟨κ', env', σ', q1, q2, q3⟩
end
end Go.Am
/-
  Loops and jumps by what holds at their heads; a function by its body.
-/
namespace Go.Am
set_option linter.unusedSectionVars false
open Go.RowKit (Below)

/-- Whatever the first stands for, the second does. -/
def VLe (x y : AVal) : Prop := ∀ κ v, RepV κ x v → RepV κ y v
theorem VLe.refl (x : AVal) : VLe x x := fun _ _ h => h
theorem VLe.top (x : AVal) : VLe x .top := fun _ _ _ => .top
theorem VLe.slice (s : Nat) (xs : List AVal) (t : Tok) : VLe (.slice s xs t) (.slice s xs .none) := fun κ v h => by
  cases h with
  | nil => exact .nil
  | slice h1 h2 h3 h4 h5 h6 => exact .slice h1 h2 h3 h4 h5 trivial
theorem VLe.tup {xs ys : List AVal} (h : ∀ κ vs, RepL κ xs vs → RepL κ ys vs) : VLe (.tup xs) (.tup ys) := fun κ v k => by
  cases k with | tup k => exact .tup (h κ _ k)
theorem VLe.cons {x y : AVal} {xs ys : List AVal} (h : VLe x y) (k : ∀ κ vs, RepL κ xs vs → RepL κ ys vs) : ∀ κ vs, RepL κ (x :: xs) vs → RepL κ (y :: ys) vs := fun κ vs r => by
  cases r with | cons a b => exact .cons (h κ _ a) (k κ _ b)
theorem VLe.nil : ∀ κ vs, RepL κ [] vs → RepL κ [] vs := fun _ _ r => r

inductive EnvLe : Env → Env → Prop
  | refl (e : Env) : EnvLe e e
  | node {a b a' b' : Env} {x x' : AVal} : EnvLe a a' → (x' = .top ∨ x' = x ∨ (x ≠ .top ∧ VLe x x')) → EnvLe b b' → EnvLe (.node a x b) (.node a' x' b')

theorem EnvLe.get {e e' : Env} (h : EnvLe e e') (p : Pth) : e'.get p = .top ∨ e'.get p = e.get p ∨ (e.get p ≠ .top ∧ VLe (e.get p) (e'.get p)) := by
  induction h generalizing p with
  | refl e => exact .inr (.inl rfl)
  | node h1 h2 h3 ih1 ih3 => cases p with
    | e => exact h2
    | l p => exact ih1 p
    | r p => exact ih3 p

theorem RepE.weaken {κ : Ghost} {n : Nat} {e e' : Env} {tmps : Array Value} (h : RepE κ n e tmps) (k : EnvLe e e') : RepE κ n e' tmps := by
  refine ⟨h.size, fun p v hv => ?_, fun p hp => ?_⟩
  · rcases k.get p with q | q | q
    · rw [q]; exact .top
    · rw [q]; exact h.get p v hv
    · exact q.2 κ v (h.get p v hv)
  · rcases k.get p with q | q | q
    · exact q
    · rw [q]; exact h.out p hp
    · exact absurd (h.out p hp) q.1

theorem St.weaken {κ : Ghost} {n : Nat} {σ σ' : AHeap} {e e' : Env} {a : Act} {w : World} (h : St κ n σ e a w) (k : EnvLe e e') (s : Sub σ σ') : St κ n σ' e' a w :=
  ⟨h.inv.sub s, h.rep.weaken k, h.defers⟩

/-- The slots that a body writes. -/
def RT.writes : RT → List Pth
  | .done => []
  | .one r t => match r.dst with
    | none => t.writes
    | some d => d :: t.writes
  | .both a b => a.writes ++ b.writes
def ICode.writes : ICode → List Pth
  | .reg t => t.writes
  | .seq a b => a.writes ++ b.writes
  | .cond _ a b => a.writes ++ b.writes
  | .block _ b | .loop b | .scope b => b.writes
  | _ => []

def clearK {β : Sort _} (env : Env) : List Pth → (Env → β) → β
  | [], k => k env
  | p :: ps, k => env.setK p .top fun e => clearK e ps k
def setsK {β : Sort _} (env : Env) : List (Pth × AVal) → (Env → β) → β
  | [], k => k env
  | (p, v) :: ps, k => env.setK p v fun e => setsK e ps k

def clear (env : Env) : List Pth → Env
  | [] => env
  | p :: ps => clear (env.set p .top) ps
def sets (env : Env) : List (Pth × AVal) → Env
  | [] => env
  | (p, v) :: ps => sets (env.set p v) ps
theorem clearK_eq {β : Sort _} : ∀ (ps : List Pth) (env : Env) (k : Env → β), clearK env ps k = k (clear env ps)
  | [], _, _ => rfl
  | p :: ps, env, k => by simp only [clearK, Env.setK_eq, clear]; exact clearK_eq ps _ k
theorem setsK_eq {β : Sort _} : ∀ (ps : List (Pth × AVal)) (env : Env) (k : Env → β), setsK env ps k = k (sets env ps)
  | [], _, _ => rfl
  | (p, v) :: ps, env, k => by simp only [setsK, Env.setK_eq, sets]; exact setsK_eq ps _ k

section
variable {P : Program} {C : Cfg}

/-- A loop: what holds of the slots that live, and of the objects, at its head. -/
theorem aloop {α : Type} {b : ICode} {env : Env} {σ : AHeap} {Q : Exit → Env → AHeap → Prop} (live : α → List (Pth × AVal)) (sig : α → AHeap) (I : α → Prop) (μ : α → Nat) (x0 : α) (h0 : I x0)
    (hs : Sub σ (sig x0)) (he : clearK env b.writes fun e0 => setsK e0 (live x0) fun e1 => EnvLe env e1)
    (round : ∀ x, I x → clearK env b.writes fun e0 => setsK e0 (live x) fun e1 => evC P C b e1 (sig x) (seqQ (fun env' σ' => ∃ x', I x' ∧ μ x' < μ x ∧ Sub σ' (sig x') ∧ setsK e0 (live x') fun e2 => EnvLe env' e2) Q)) :
    ALoop P C b env σ Q := by
  rw [ALoop_def]
  intro c hc κ a w hS
  obtain ⟨cb, rfl, hb⟩ := compC_inv hc
  simp only [clearK_eq, setsK_eq] at he round
  let fam : α → Env := fun x => sets (clear env b.writes) (live x)
  have key : ∀ m (x : α), μ x = m → I x → ∀ κ' a w, κ.le κ' → St κ' C.n (sig x) (fam x) a w → ∀ (bf : Frame) (k : List Item) (cs : List Frame),
      ∃ e a' w', Lift κ C.n Q e a' w' ∧ Arrives P (lone (bf.at a (.code cb :: .inLoop cb :: k)) cs w) bf k cs e a' w' := by
    intro m
    induction m using Nat.strongRecOn with
    | _ m ih =>
      intro x hm hx κ' a w hk hS bf k cs
      have hr := evC_sound b _ _ _ (round x hx) cb hb κ' a w hS
      obtain ⟨e, a1, w1, ⟨κ1, env1, σ1, q1, q2, q3⟩, harr⟩ := hr bf (.inLoop cb :: k) cs
      cases e with
      | normal =>
        obtain ⟨x', hx', hlt, hsub, hle⟩ := q3
        obtain ⟨e2, a2, w2, hq2, harr2⟩ := ih (μ x') (hm ▸ hlt) x' rfl hx' κ1 a1 w1 (hk.trans q1) (q2.weaken hle hsub) bf k cs
        exact ⟨e2, a2, w2, hq2, .of_steps (Steps.trans harr (.one step_inLoop)) harr2⟩
      | exit id => exact ⟨_, a1, w1, ⟨κ1, env1, σ1, hk.trans q1, q2, q3⟩, .pass (x := .inLoop cb) rfl (fun _ _ => .inl (by simp)) harr⟩
      | goto l => exact ⟨_, a1, w1, ⟨κ1, env1, σ1, hk.trans q1, q2, q3⟩, .pass (x := .inLoop cb) rfl (fun _ _ => .inl (by simp)) harr⟩
      | ret => exact ⟨_, a1, w1, ⟨κ1, env1, σ1, hk.trans q1, q2, q3⟩, .pass (x := .inLoop cb) rfl (fun _ _ => .inl (by simp)) harr⟩
      | panic ch => exact ⟨_, a1, w1, ⟨κ1, env1, σ1, hk.trans q1, q2, q3⟩, .pass (x := .inLoop cb) rfl (fun _ _ => .inl (by simp)) harr⟩
      | outgrown => exact ⟨_, a1, w1, ⟨κ1, env1, σ1, hk.trans q1, q2, q3⟩, .pass (x := .inLoop cb) rfl (fun _ _ => .inl (by simp)) harr⟩
  intro bf k cs
  obtain ⟨e, a', w', hq, harr⟩ := key _ x0 rfl h0 κ a w (Ghost.le.refl κ) (hS.weaken he hs) bf k cs
  exact ⟨e, a', w', hq, .of_steps (.one step_loop) harr⟩

def ICode.find : ICode → Nat → Option ICode
  | .seq a b, l => match a.find l with
    | some rest => some (.seq rest b)
    | none => b.find l
  | .label l', l => bif Nat.beq l' l then some .skip else none
  | _, _ => none

theorem find_comp : ∀ {c : Code} {ic : ICode}, compC P C c = some ic → ∀ (l : Nat) (r : ICode), ic.find l = some r → ∃ rest, findLabel c l = some rest ∧ compC P C rest = some r := by
  intro c
  have none_of : ∀ {c : Code} {ic : ICode}, compC P C c = some ic → ∀ l, ic.find l = none → findLabel c l = none := by
    intro c
    induction c with
    | seq x y ihx ihy =>
      intro ic hc l h
      simp only [compC] at hc; obtain ⟨a, h1, hc⟩ := optbind hc; obtain ⟨b, h2, rfl⟩ := optmap hc
      simp only [ICode.find] at h
      split at h
      · cases h
      · rename_i ha
        simp only [findLabel, ihx h1 l ha]
        exact ihy h2 l h
    | label l' =>
      intro ic hc l h
      simp only [compC, Option.some.injEq] at hc; subst hc
      simp only [ICode.find] at h
      simp only [findLabel]
      cases hb : Nat.beq l' l with
      | true => rw [hb] at h; cases h
      | false => rw [if_neg]; intro e; simp at e; subst e; rw [Nat.beq_refl] at hb; cases hb
    | _ => intro ic hc l h; rfl
  induction c with
  | seq x y ihx ihy =>
    intro ic hc l r h
    simp only [compC] at hc; obtain ⟨a, h1, hc⟩ := optbind hc; obtain ⟨b, h2, rfl⟩ := optmap hc
    simp only [ICode.find] at h
    split at h
    · rename_i rest hr
      cases h
      obtain ⟨r2, g1, g2⟩ := ihx h1 l rest hr
      refine ⟨.seq r2 y, by simp only [findLabel, g1], ?_⟩
      simp only [compC, g2, h2, Option.bind_some, Option.map_some]
    · rename_i ha
      obtain ⟨r2, g1, g2⟩ := ihy h2 l r h
      refine ⟨r2, ?_, g2⟩
      simp only [findLabel, none_of h1 l ha]; exact g1
  | label l' =>
    intro ic hc l r h
    simp only [compC, Option.some.injEq] at hc; subst hc
    simp only [ICode.find] at h
    obtain ⟨hb, h⟩ := bifsome h
    cases h
    refine ⟨.skip, ?_, rfl⟩
    have := Nat.eq_of_beq_eq_true hb
    subst this
    simp [findLabel]
  | _ =>
    intro ic hc l r h
    have hci := compC_inv hc
    cases ic <;> first
      | (simp [ICode.find] at h; done)
      | (simp only [CInv] at hci; first | (obtain ⟨_, _, hci, _⟩ := hci; cases hci; done) | (cases hci; done))

/-- A scope with jumps: what holds at each jump. -/
theorem ascope {α : Type} {b : ICode} {env : Env} {σ : AHeap} {Q : Exit → Env → AHeap → Prop} (live : α → List (Pth × AVal)) (sig : α → AHeap) (lab : α → Nat) (I : α → Prop) (μ : α → Nat)
    (first : clearK env b.writes fun e0 => evC P C b env σ (jumpQ (fun l env' σ' => ∃ x', lab x' = l ∧ I x' ∧ Sub σ' (sig x') ∧ setsK e0 (live x') fun e2 => EnvLe env' e2) Q))
    (pass : ∀ x, I x → ∃ rest, b.find (lab x) = some rest ∧ clearK env b.writes fun e0 => setsK e0 (live x) fun e1 => evC P C rest e1 (sig x) (jumpQ (fun l env' σ' => ∃ x', lab x' = l ∧ I x' ∧ μ x' < μ x ∧ Sub σ' (sig x') ∧ setsK e0 (live x') fun e2 => EnvLe env' e2) Q)) :
    AScope P C b env σ Q := by
  rw [AScope_def]
  intro c hc κ a w hS
  obtain ⟨cb, rfl, hb⟩ := compC_inv hc
  simp only [clearK_eq, setsK_eq] at first pass
  let fam : α → Env := fun x => sets (clear env b.writes) (live x)
  have key : ∀ m (x : α), μ x = m → I x → ∀ rest, findLabel cb (lab x) = some rest → ∀ κ' a w, κ.le κ' → St κ' C.n (sig x) (fam x) a w → ∀ (bf : Frame) (k : List Item) (cs : List Frame),
      ∃ e a' w', Lift κ C.n Q e a' w' ∧ Arrives P (lone (bf.at a (.code rest :: .inScope cb :: k)) cs w) bf k cs e a' w' := by
    intro m
    induction m using Nat.strongRecOn with
    | _ m ih =>
      intro x hm hx rest hrest κ' a w hk hS bf k cs
      obtain ⟨r0, hr0, hev⟩ := pass x hx
      obtain ⟨rest', hr1, hr2⟩ := find_comp hb _ _ hr0
      rw [hrest] at hr1; cases hr1
      have hr := evC_sound r0 _ _ _ hev rest hr2 κ' a w hS
      obtain ⟨e, a1, w1, ⟨κ1, env1, σ1, q1, q2, q3⟩, harr⟩ := hr bf (.inScope cb :: k) cs
      cases e with
      | normal => exact ⟨.normal, a1, w1, ⟨κ1, env1, σ1, hk.trans q1, q2, q3⟩, Steps.trans harr (.one step_inScope)⟩
      | exit id => exact ⟨.exit id, a1, w1, ⟨κ1, env1, σ1, hk.trans q1, q2, q3⟩, fun k' hk => harr k' (by simp [exitTo, hk])⟩
      | goto l =>
        obtain ⟨x', rfl, hx', hlt, hsub, hle⟩ := q3
        obtain ⟨r2, hr2', _⟩ := pass x' hx'
        obtain ⟨rest2, hr3, hr4⟩ := find_comp hb _ _ hr2'
        obtain ⟨e2, a2, w2, hq2, harr2⟩ := ih (μ x') (hm ▸ hlt) x' rfl hx' rest2 hr3 κ1 a1 w1 (hk.trans q1) (q2.weaken hle hsub) bf k cs
        exact ⟨e2, a2, w2, hq2, .of_steps (harr _ (by simp [gotoIn, hr3])) harr2⟩
      | ret => exact ⟨_, a1, w1, ⟨κ1, env1, σ1, hk.trans q1, q2, q3⟩, harr⟩
      | panic ch => exact ⟨_, a1, w1, ⟨κ1, env1, σ1, hk.trans q1, q2, q3⟩, harr⟩
      | outgrown => exact ⟨_, a1, w1, ⟨κ1, env1, σ1, hk.trans q1, q2, q3⟩, harr⟩
  intro bf k cs
  have hr := evC_sound b _ _ _ first cb hb κ a w hS
  obtain ⟨e, a1, w1, ⟨κ1, env1, σ1, q1, q2, q3⟩, harr⟩ := hr bf (.inScope cb :: k) cs
  cases e with
  | normal => exact ⟨.normal, a1, w1, ⟨κ1, env1, σ1, q1, q2, q3⟩, .head step_scope (Steps.trans harr (.one step_inScope))⟩
  | exit id => exact ⟨.exit id, a1, w1, ⟨κ1, env1, σ1, q1, q2, q3⟩, fun k' hk => .head step_scope (harr k' (by simp [exitTo, hk]))⟩
  | goto l =>
    obtain ⟨x', rfl, hx', hsub, hle⟩ := q3
    obtain ⟨r2, hr2', _⟩ := pass x' hx'
    obtain ⟨rest2, hr3, hr4⟩ := find_comp hb _ _ hr2'
    obtain ⟨e2, a2, w2, hq2, harr2⟩ := key (μ x') x' rfl hx' rest2 hr3 κ1 a1 w1 q1 (q2.weaken hle hsub) bf k cs
    exact ⟨e2, a2, w2, hq2, .of_steps (.head step_scope (harr _ (by simp [gotoIn, hr3]))) harr2⟩
  | ret => exact ⟨_, a1, w1, ⟨κ1, env1, σ1, q1, q2, q3⟩, .of_steps (.one step_scope) harr⟩
  | panic ch => exact ⟨_, a1, w1, ⟨κ1, env1, σ1, q1, q2, q3⟩, .of_steps (.one step_scope) harr⟩
  | outgrown => exact ⟨_, a1, w1, ⟨κ1, env1, σ1, q1, q2, q3⟩, .of_steps (.one step_scope) harr⟩

def lowQ {α : Type} (lab : α → Nat) (I : α → Prop) (R : α → Prop) (sig : α → AHeap) (le : Env → α → Prop) (Q : Exit → Env → AHeap → Prop) : Exit → Env → AHeap → Prop :=
  jumpQ (fun l env' σ' => ∃ x', lab x' = l ∧ I x' ∧ R x' ∧ Sub σ' (sig x') ∧ le env' x') Q

theorem lowQ_mono {α : Type} {lab : α → Nat} {I : α → Prop} {R R' : α → Prop} {sig : α → AHeap} {le : Env → α → Prop} {Q : Exit → Env → AHeap → Prop} (h : ∀ x, R x → R' x) {e : Exit} {env : Env} {σ : AHeap} (k : lowQ lab I R sig le Q e env σ) : lowQ lab I R' sig le Q e env σ := by
  cases e with
  | goto l => obtain ⟨x', h1, h2, h3, h4⟩ := k; exact ⟨x', h1, h2, h _ h3, h4⟩
  | _ => exact k

/-- A scope with jumps; a label that is reached from above is as one that is jumped to. -/
theorem ascope' {α : Type} {b : ICode} {env : Env} {σ : AHeap} {Q : Exit → Env → AHeap → Prop} (live : α → List (Pth × AVal)) (sig : α → AHeap) (lab : α → Nat) (I : α → Prop) (μ : α → Nat)
    (first : clearK env b.writes fun e0 => (∀ (Q2 : Exit → Env → AHeap → Prop), (∀ e env' σ', lowQ lab I (fun _ => True) sig (fun env' x' => setsK e0 (live x') fun e2 => EnvLe env' e2) Q e env' σ' → Q2 e env' σ') →
        ∀ l b' env' σ', (∃ x', lab x' = l ∧ I x' ∧ b.find l = some (.seq .skip b') ∧ Sub σ' (sig x') ∧ setsK e0 (live x') fun e2 => EnvLe env' e2) → ALabel P C l b' env' σ' Q2) →
      evC P C b env σ (lowQ lab I (fun _ => True) sig (fun env' x' => setsK e0 (live x') fun e2 => EnvLe env' e2) Q))
    (pass : ∀ x, I x → ∃ rest, b.find (lab x) = some rest ∧ clearK env b.writes fun e0 => 
      (∀ (Q2 : Exit → Env → AHeap → Prop), (∀ e env' σ', lowQ lab I (fun x' => μ x' < μ x) sig (fun env' x' => setsK e0 (live x') fun e2 => EnvLe env' e2) Q e env' σ' → Q2 e env' σ') →
        ∀ l b' env' σ', (∃ x', lab x' = l ∧ I x' ∧ μ x' < μ x ∧ b.find l = some (.seq .skip b') ∧ Sub σ' (sig x') ∧ setsK e0 (live x') fun e2 => EnvLe env' e2) → ALabel P C l b' env' σ' Q2) →
      setsK e0 (live x) fun e1 => evC P C rest e1 (sig x) (lowQ lab I (fun x' => μ x' < μ x) sig (fun env' x' => setsK e0 (live x') fun e2 => EnvLe env' e2) Q)) :
    AScope P C b env σ Q := by
  simp only [clearK_eq, setsK_eq] at first pass
  have key : ∀ m x, μ x = m → I x → ∃ rest, b.find (lab x) = some rest ∧ evC P C rest (sets (clear env b.writes) (live x)) (sig x) (lowQ lab I (fun x' => μ x' < μ x) sig (fun env' x' => EnvLe env' (sets (clear env b.writes) (live x'))) Q) := by
    intro m
    induction m using Nat.strongRecOn with
    | _ m ih =>
      intro x hm hx
      obtain ⟨rest, h1, h2⟩ := pass x hx
      refine ⟨rest, h1, h2 ?_⟩
      rintro Q2 hQ2 l b' env' σ' ⟨x', rfl, hx', hlt, hf, hs, he⟩
      obtain ⟨r', h3, h4⟩ := ih (μ x') (hm ▸ hlt) x' rfl hx'
      rw [hf] at h3; cases h3
      refine ⟨fun c hc κ a w hS => ?_⟩
      have hw := evC_sound b' _ _ _ (show evC P C b' _ _ _ from h4) c hc κ a w (hS.weaken he hs)
      refine wp_mono hw ?_
      rintro e a' w' ⟨κ', env2, σ2, q1, q2, q3⟩
      exact ⟨κ', env2, σ2, q1, q2, hQ2 _ _ _ (lowQ_mono (fun y hy => Nat.lt_trans hy hlt) q3)⟩
  refine ascope live sig lab I μ ?_ ?_
  · simp only [clearK_eq, setsK_eq]
    have := first ?_
    · refine cast (congrArg _ ?_) this
      funext e env' σ'
      cases e <;> simp [lowQ, jumpQ]
    · rintro Q2 hQ2 l b' env' σ' ⟨x', rfl, hx', hf, hs, he⟩
      obtain ⟨r', h3, h4⟩ := key _ x' rfl hx'
      rw [hf] at h3; cases h3
      refine ⟨fun c hc κ a w hS => ?_⟩
      have hw := evC_sound b' _ _ _ (show evC P C b' _ _ _ from h4) c hc κ a w (hS.weaken he hs)
      refine wp_mono hw ?_
      rintro e a' w' ⟨κ', env2, σ2, q1, q2, q3⟩
      exact ⟨κ', env2, σ2, q1, q2, hQ2 _ _ _ (lowQ_mono (fun _ _ => trivial) q3)⟩
  · intro x hx
    obtain ⟨rest, h1, h2⟩ := key _ x rfl hx
    refine ⟨rest, h1, ?_⟩
    simp only [clearK_eq, setsK_eq]
    exact h2
end
end Go.Am
/-
  A function, by its body.
-/
namespace Go.Am
set_option linter.unusedSectionVars false
open Go.RowKit (Below)

/-- What a function hands back, seen from outside: less may be known of it. -/
structure ARet (v : AVal) (σ : AHeap) (Q : AVal → AHeap → Prop) : Prop where of ::
  out : ∃ v' σ', VLe v v' ∧ Sub σ σ' ∧ Q v' σ'
theorem ARet_def (v : AVal) (σ : AHeap) (Q : AVal → AHeap → Prop) : ARet v σ Q = (∃ v' σ', VLe v v' ∧ Sub σ σ' ∧ Q v' σ') := propext ⟨fun h => h.out, fun h => ⟨h⟩⟩

def resK (env : Env) (σ : AHeap) : List IRes → (List AVal → Prop) → Prop
  | [], k => k []
  | .tmp p :: rs, k => resK env σ rs fun l => env.getK p fun x => k (x :: l)
  | .cell p g :: rs, k => match env.get p with
    | .ptr id off => ALoad σ id off g fun x => resK env σ rs fun l => k (x :: l)
    | _ => False

def resV : List AVal → AVal
  | [x] => x
  | l => .tup l

def resVK : List AVal → (AVal → Prop) → Prop
  | [x], k => k x
  | l, k => k (.tup l)
theorem resVK_eq (l : List AVal) (k : AVal → Prop) : resVK l k = k (resV l) := by
  cases l with
  | nil => rfl
  | cons x l => cases l <;> rfl
def retQ (F : IFun) (Q : AVal → AHeap → Prop) : Exit → Env → AHeap → Prop
  | .normal, env, σ | .ret, env, σ => resK env σ F.res fun l => resVK l fun v => ARet v σ Q
  | _, _, _ => False

def argsK (env : Env) : Nat → List AVal → (Env → Prop) → Prop
  | _, [], k => k env
  | n, x :: xs, k => env.setK (pth n) x fun e => argsK e (n + 1) xs k

def argsE (env : Env) : Nat → List AVal → Env
  | _, [] => env
  | n, x :: xs => argsE (env.set (pth n) x) (n + 1) xs
theorem argsK_eq : ∀ (xs : List AVal) (env : Env) (n : Nat) (k : Env → Prop), argsK env n xs k = k (argsE env n xs)
  | [], _, _, _ => rfl
  | x :: xs, env, n, k => by simp only [argsK, Env.setK_eq, argsE]; exact argsK_eq xs _ _ k

theorem full_get : ∀ (d : Nat) (p : Pth), (Env.full d).get p = .top
  | 0, _ => rfl
  | d + 1, .e => rfl
  | d + 1, .l p => full_get d p
  | d + 1, .r p => full_get d p

theorem argsE_get : ∀ (xs : List AVal) (env : Env) (n : Nat) (p : Pth), ((argsE env n xs).get p = .top ∧ (n ≤ p.num ∧ p.num < n + xs.length)) ∨ (∃ x, xs[p.num - n]? = some x ∧ n ≤ p.num ∧ (argsE env n xs).get p = x) ∨ ((p.num < n ∨ n + xs.length ≤ p.num) ∧ (argsE env n xs).get p = env.get p)
  | [], env, n, p => .inr (.inr ⟨by simp; omega, rfl⟩)
  | x :: xs, env, n, p => by
    simp only [argsE]
    rcases argsE_get xs (env.set (pth n) x) (n + 1) p with ⟨h1, h2⟩ | ⟨y, h1, h2, h3⟩ | ⟨h1, h2⟩
    · exact .inl ⟨h1, by simp; omega⟩
    · refine .inr (.inl ⟨y, ?_, by omega, h3⟩)
      rw [show p.num - n = (p.num - (n + 1)) + 1 by omega]; simpa using h1
    · by_cases hp : p = pth n
      · subst hp
        rw [num_pth] at h1 ⊢
        rcases env.get_set (pth n) x with k | k
        · exact .inr (.inl ⟨x, by simp, Nat.le_refl _, by rw [h2, k]⟩)
        · exact .inl ⟨by rw [h2, k], by simp⟩
      · have hne : p.num ≠ n := fun e => hp (Pth.num_inj (by rw [num_pth]; exact e))
        exact .inr (.inr ⟨by simp at *; omega, by rw [h2, Env.get_set_ne env x hp]⟩)

section
variable {P : Program} {C : Cfg}

theorem res_run {κ : Ghost} {σ : AHeap} {env : Env} {a : Act} {w : World} (hS : St κ C.n σ env a w) : ∀ {rs : List ResultVar} {irs : List IRes} {k : List AVal → Prop}, compRes P rs = some irs → resK env σ irs k →
    ∃ (vs : List Value) (xs : List AVal), (∀ f : ResultVar → Sem Value, (∀ t, f (.tmp t) = pure (a.tmps.getD t undef)) → (∀ p t, f (.cell p t) = do loadVar t (← asAddr (a.tmps.getD p undef))) → (rs.mapM f).run P w = .ok vs w) ∧
      RepL κ xs vs ∧ k xs
  | [], irs, k, h, hk => by simp only [compRes, Option.some.injEq] at h; subst h; exact ⟨[], [], fun f _ _ => by simp, .nil, hk⟩
  | .tmp t :: rs, irs, k, h, hk => by
    simp only [compRes] at h
    obtain ⟨irs', h1, rfl⟩ := optmap h
    simp only [resK, Env.getK_eq] at hk
    obtain ⟨vs, xs, g1, g2, g3⟩ := res_run hS h1 hk
    refine ⟨a.tmps.getD t undef :: vs, env.get (pth t) :: xs, fun f f1 f2 => ?_, .cons (hS.rep.eval t) g2, g3⟩
    simp only [List.mapM_cons, Sem.run_bind, f1, Sem.run_pure, Result.andThen_ok, g1 f f1 f2]
  | .cell p t :: rs, irs, k, h, hk => by
    simp only [compRes] at h
    obtain ⟨g, hg, h⟩ := optbind h
    obtain ⟨irs', h1, rfl⟩ := optmap h
    simp only [resK] at hk
    split at hk
    · rename_i id off he
      have rx := hS.rep.eval p
      rw [he] at rx
      obtain ⟨b, hv, hb⟩ := rx.ptr_inv
      rw [ALoad_def] at hk
      obtain ⟨cs, h2, h3⟩ := hk
      obtain ⟨c, e, vs, us, k1, k2, k3, k4, k5, k6, k7⟩ := hS.inv.objCells h2 hb
      obtain ⟨v, y, r1, r2, r3⟩ := load_run (P := P) (w := w) hg k4 k7 h3
      rw [Nat.zero_add] at r1
      obtain ⟨vs', xs, g1, g2, g3⟩ := res_run hS h1 r3
      refine ⟨v :: vs', y :: xs, fun f f1 f2 => ?_, .cons r2 g2, g3⟩
      have hv' : a.tmps.getD p undef = .pointer (some ⟨b, off, none⟩) := hv
      have ha : (asAddr (a.tmps.getD p undef)).run P w = .ok ⟨b, off, none⟩ w := by rw [hv']; rfl
      simp only [Instr.loadAt, Instr.sureAddr, Sem.run_bind, Sem.run_pure, Result.andThen_ok] at r1
      simp only [List.mapM_cons, Sem.run_bind, f2, ha, Sem.run_pure, Result.andThen_ok, r1, g1 f f1 f2]
    · exact hk.elim

theorem results_run {κ : Ghost} {σ : AHeap} {env : Env} {a : Act} {w : World} {fn : Func} (hS : St κ C.n σ env a w) {irs : List IRes} {k : List AVal → Prop} (hr : compRes P fn.results.toList = some irs) (h : resK env σ irs k) :
    ∃ v xs, (results fn a.tmps).run P w = .ok v w ∧ RepV κ (resV xs) v ∧ k xs := by
  obtain ⟨vs, xs, g1, g2, g3⟩ := res_run hS hr h
  have hm : (results fn a.tmps).run P w = .ok (if h : vs.toArray.size = 1 then vs.toArray[0] else .tuple vs.toArray) w := by
    unfold results
    rw [Sem.run_bind, Array.mapM_eq_mapM_toList, Sem.run_map, g1 _ (fun _ => rfl) (fun _ _ => rfl)]
    simp only [Result.andThen_ok, Sem.run_pure]
  refine ⟨_, xs, hm, ?_, g3⟩
  cases g2 with
  | nil => simpa [resV] using RepV.tup RepL.nil
  | cons hx ht =>
    cases ht with
    | nil => simpa [resV] using hx
    | cons hy ht =>
      simp only [resV]
      simpa using RepV.tup (RepL.cons hx (RepL.cons hy ht))

/-- A function by its body. -/
theorem acalls_of {f : FuncId} {fn : Func} {F : IFun} (hf : P.funcs[f]? = some fn) (hF : compF P C fn = some F) (hn : fn.ntmps = C.n) {args : List AVal} (hl : args.length ≤ C.n) {σ : AHeap} {Q : AVal → AHeap → Prop}
    (h : argsK (Env.full 9) 0 args fun env => evC P C F.body env σ (retQ F Q)) : ACalls P f args σ Q := by
  rw [ACalls_def]
  intro κ w cargs hI hargs
  unfold compF at hF
  split at hF
  · rename_i c hc
    obtain ⟨b, h1, hF⟩ := optbind hF
    obtain ⟨r, h2, rfl⟩ := optmap hF
    rw [argsK_eq] at h
    have hal := hargs.length
    let a0 : Act := { tmps := cargs.toArray ++ Array.replicate (fn.ntmps - cargs.toArray.size) undef, defers := [] }
    have hsz : a0.tmps.size = C.n := by simp [a0]; omega
    have hS : St κ C.n σ (argsE (Env.full 9) 0 args) a0 w := by
      refine ⟨hI, ⟨hsz, fun p v hv => ?_, fun p hp => ?_⟩, rfl⟩
      · rcases argsE_get args (Env.full 9) 0 p with ⟨g1, _⟩ | ⟨x, g1, g2, g3⟩ | ⟨g1, g2⟩
        · rw [g1]; exact .top
        · rw [g3]
          rw [Nat.sub_zero] at g1
          obtain ⟨u, hu, hr⟩ := hargs.get g1
          have hlt : p.num < cargs.length := (List.getElem?_eq_some_iff.1 hu).1
          have : a0.tmps[p.num]? = some u := by
            simp only [a0]
            rw [Array.getElem?_append_left (by simpa using hlt)]
            simpa using hu
          rw [this] at hv; cases hv; exact hr
        · rw [g2, full_get]; exact .top
      · rcases argsE_get args (Env.full 9) 0 p with ⟨g1, _⟩ | ⟨x, g1, g2, g3⟩ | ⟨g1, g2⟩
        · exact g1
        · rw [Nat.sub_zero] at g1
          have := (List.getElem?_eq_some_iff.1 g1).1
          omega
        · rw [g2, full_get]
    have hw := evC_sound b _ _ _ h c h1 κ a0 w hS
    refine calls_of_wp hf hc (wp_mono hw ?_)
    rintro e a' w' ⟨κ', env', σ', q1, q2, q3⟩
    cases e with
    | normal =>
      obtain ⟨v, xs, g1, g2, g3⟩ := results_run q2 h2 q3
      rw [resVK_eq, ARet_def] at g3
      obtain ⟨v', σ2, k1, k2, k3⟩ := g3
      exact ⟨q2.defers, v, g1, v, κ', σ2, v', rfl, q1, q2.inv.sub k2, k1 _ _ g2, k3⟩
    | ret =>
      obtain ⟨v, xs, g1, g2, g3⟩ := results_run q2 h2 q3
      rw [resVK_eq, ARet_def] at g3
      obtain ⟨v', σ2, k1, k2, k3⟩ := g3
      exact ⟨q2.defers, v, g1, v, κ', σ2, v', rfl, q1, q2.inv.sub k2, k1 _ _ g2, k3⟩
    | _ => exact q3.elim
  · cases hF
end
end Go.Am
/-
  How what stands still goes on.
-/
namespace Go.Am
set_option linter.unusedSectionVars false

theorem abr_dec {p : Prop} {_ : Decidable p} {K : Bool → Prop} (ht : p → K true) (hf : ¬p → K false) : ABr (decide p) K := by
  rw [ABr_def]; by_cases h : p
  · rw [decide_eq_true h]; exact ht h
  · rw [decide_eq_false h]; exact hf h
theorem abr_true {b : Bool} {K : Bool → Prop} (hb : b = true) (h : K true) : ABr b K := by rw [ABr_def]; rw [hb]; exact h
theorem abr_false {b : Bool} {K : Bool → Prop} (hb : b = false) (h : K false) : ABr b K := by rw [ABr_def]; rw [hb]; exact h
/-- A test, known. -/
theorem abr_yes {p : Prop} {_ : Decidable p} {K : Bool → Prop} (hp : p) (h : K true) : ABr (decide p) K := abr_true (decide_eq_true hp) h
theorem abr_no {p : Prop} {_ : Decidable p} {K : Bool → Prop} (hp : ¬p) (h : K false) : ABr (decide p) K := abr_false (decide_eq_false hp) h

theorem abr_same_ne {α : Type} {a : α} {_ : Decidable (a ≠ a)} {K : Bool → Prop} (h : K false) : ABr (decide (a ≠ a)) K := abr_no (fun h => h rfl) h
theorem wrap_i64 {n : Int} (h1 : -9223372036854775808 ≤ n) (h2 : n ≤ 9223372036854775807) : IntKind.i64.wrap n = n := by
  unfold IntKind.wrap IntKind.signed IntKind.bits; simp only [Bool.true_and]; split <;> simp at * <;> omega
theorem wrap_u8 {n : Int} (h1 : 0 ≤ n) (h2 : n < 256) : IntKind.u8.wrap n = n := by unfold IntKind.wrap IntKind.signed IntKind.bits; simp; omega
theorem wrap_u64 {n : Int} (h1 : 0 ≤ n) (h2 : n < 18446744073709551616) : IntKind.u64.wrap n = n := by unfold IntKind.wrap IntKind.signed IntKind.bits; simp; omega

theorem afit_eq {k : IntKind} {n m : Int} {K : Int → Prop} (e : k.wrap n = m) (h : K m) : AFit k n K := by rw [AFit_def]; rw [e]; exact h
theorem afit_i64 {n : Int} {K : Int → Prop} (h1 : -9223372036854775808 ≤ n ∧ n ≤ 9223372036854775807) (h : K n) : AFit .i64 n K := afit_eq (wrap_i64 h1.1 h1.2) h
theorem afit_u64 {n : Int} {K : Int → Prop} (h1 : 0 ≤ n ∧ n < 18446744073709551616) (h : K n) : AFit .u64 n K := afit_eq (wrap_u64 h1.1 h1.2) h

theorem abits_eq {op : BinOp} {k : IntKind} {a b m : Int} {K : Int → Prop} (e : bitsOp op k a b = m) (h : K m) : ABits op k a b K := by rw [ABits_def]; rw [e]; exact h
theorem ashl_eq {k : IntKind} {a b m : Int} {K : Int → Prop} (hb : 0 ≤ b) (e : k.wrap (a * 2 ^ (min b.toNat k.bits)) = m) (h : K m) : AShl k a b K := by rw [AShl_def]; rw [e]; exact ⟨hb, h⟩
theorem ashr_eq {k : IntKind} {a b m : Int} {K : Int → Prop} (hb : 0 ≤ b) (e : a.fdiv (2 ^ (min b.toNat k.bits)) = m) (h : K m) : AShr k a b K := by rw [AShr_def]; rw [e]; exact ⟨hb, h⟩
theorem adiv_i64 {a b : Int} {K : Int → Prop} (ha : 0 ≤ a ∧ a ≤ 9223372036854775807) (hb : 1 ≤ b) (h : K (a / b)) : ADiv .i64 a b K := by
  rw [ADiv_def]; refine ⟨by omega, ?_⟩
  have h1 : a.tdiv b = a / b := Int.tdiv_eq_ediv_of_nonneg ha.1
  have h2 : 0 ≤ a / b := Int.ediv_nonneg ha.1 (by omega)
  have h3 : a / b ≤ a := Int.ediv_le_self b ha.1
  rw [h1, wrap_i64 (by omega) (by omega)]; exact h
theorem arem_nonneg {a b : Int} {K : Int → Prop} (ha : 0 ≤ a) (hb : b ≠ 0) (h : K (a % b)) : ARem a b K := by
  rw [ARem_def]; exact ⟨hb, by rw [Int.tmod_eq_emod_of_nonneg ha]; exact h⟩
theorem amax {a b : Int} {K : Int → Prop} (h : K (max a b)) : AMx true a b K := by rw [AMx_def]; simp only [if_true]; rw [show (if b > a then b else a) = max a b by omega]; exact h
theorem amin {a b : Int} {K : Int → Prop} (h : K (min a b)) : AMx false a b K := by rw [AMx_def]; simp only [Bool.false_eq_true, if_false]; rw [show (if b < a then b else a) = min a b by omega]; exact h

theorem aget {xs : List AVal} {i : Int} {x : AVal} {K : AVal → Prop} (h0 : 0 ≤ i) (hx : xs[i.toNat]? = some x) (h : K x) : AGet xs i K := by rw [AGet_def]; exact ⟨x, h0, hx, h⟩
theorem aidx {i : Int} {n : Nat} {K : Nat → Prop} (h0 : 0 ≤ i) (h1 : i < n) (h : K i.toNat) : AIdx i n K := by rw [AIdx_def]; exact ⟨h0, h1, h⟩
theorem acell {cs : List AVal} {off : Nat} {x : AVal} {K : AVal → Prop} (hx : cs[off]? = some x) (h : K x) : ACell cs off none K := by rw [ACell_def]; exact ⟨x, hx, h⟩
theorem acells {cs : List AVal} {off n : Nat} {l : List AVal} {K : AVal → Prop} (hl : off + n ≤ cs.length) (e : (cs.drop off).take n = l) (h : K (.agg l)) : ACell cs off (some n) K := by rw [ACell_def]; exact ⟨hl, by rw [e]; exact h⟩
theorem aload {σ : AHeap} {id off : Nat} {cs : List AVal} {x : AVal} {K : AVal → Prop} (hs : σ id = some (.cells cs)) (hx : cs[off]? = some x) (h : K x) : ALoad σ id off none K := by rw [ALoad_def]; exact ⟨cs, hs, x, hx, h⟩
theorem aloads {σ : AHeap} {id off n : Nat} {cs l : List AVal} {K : AVal → Prop} (hs : σ id = some (.cells cs)) (hl : off + n ≤ cs.length) (e : (cs.drop off).take n = l) (h : K (.agg l)) : ALoad σ id off (some n) K := by
  rw [ALoad_def]; exact ⟨cs, hs, hl, by rw [e]; exact h⟩
theorem astore {σ : AHeap} {id off : Nat} {cs xs l : List AVal} {K : AHeap → Prop} (hs : σ id = some (.cells cs)) (hl : off + xs.length ≤ cs.length) (hc : xs.all AVal.isCell = true) (e : splice cs off xs = l) (h : K (upd σ id (.cells l))) : AStore σ id off xs K := by
  rw [AStore_def]; exact ⟨cs, hs, hl, hc, by rw [e]; exact h⟩
theorem anew {σ : AHeap} {xs : List AVal} {K : Nat → AHeap → Prop} (hc : xs.all AVal.isCell = true) (h : ∀ id, σ id = none → K id (upd σ id (.cells xs))) : ANew σ xs K := by rw [ANew_def]; exact ⟨hc, h⟩
theorem acut {n : Nat} {lo hi : Int} {K : Nat → Nat → Prop} (h0 : 0 ≤ lo) (h1 : lo ≤ hi) (h2 : hi ≤ n) (h : K lo.toNat hi.toNat) : ACut n lo hi K := by rw [ACut_def]; exact ⟨h0, h1, h2, h⟩
theorem anil {xs : List AVal} {K : Bool → Prop} (h : K false) (k : xs = [] → K true) : ANil xs K := by rw [ANil_def]; exact ⟨h, k⟩
theorem astr {xs : List AVal} {bs : List UInt8} {K : ByteArray → Prop} (e : xs = bs.map byteV) (h : K ⟨bs.toArray⟩) : AStr xs K := by rw [AStr_def]; exact ⟨bs, e, h⟩
theorem arowT {σ : AHeap} {s : Nat} {xs : List AVal} {K : AVal → AHeap → Prop} (h : ∀ t, σ t = none → K (.slice s xs (.own t)) (upd σ t .tip)) : ARowT σ s xs K := ⟨h⟩
theorem amark {σ : AHeap} {xs : List AVal} {t : Nat} {K : AHeap → Prop} (h0 : xs ≠ []) (h1 : σ t = some .tip) (h : K (del σ t)) : AMark σ xs (.own t) K := ⟨h0, t, rfl, h1, h⟩
theorem aapp_full {σ : AHeap} {s bytes : Nat} {xs ys : List AVal} {K : AVal → AHeap → Prop} (hl : (xs.length + ys.length) * bytes ≤ 140737488355328) (h : ∀ t, σ t = none → K (.slice s (xs ++ ys) (.tip t)) (upd σ t .tip)) : AApp σ s bytes xs .full ys K := by
  rw [AApp_def]; exact ⟨σ, .full, hl, h⟩
theorem aapp_tip {σ : AHeap} {s bytes t : Nat} {xs ys : List AVal} {K : AVal → AHeap → Prop} (ht : σ t = some .tip) (hl : (xs.length + ys.length) * bytes ≤ 140737488355328) (h : ∀ t', σ t' = none → K (.slice s (xs ++ ys) (.tip t')) (upd (del σ t) t' .tip)) :
    AApp σ s bytes xs (.tip t) ys K := by rw [AApp_def]; exact ⟨_, .tip ht, hl, h⟩
theorem acall {P : Program} {f : FuncId} {args : List AVal} {σ : AHeap} {Q Q' : AVal → AHeap → Prop} (h : ACalls P f args σ Q) (k : ∀ v σ', Q v σ' → Q' v σ') : ACalls P f args σ Q' := by
  rw [ACalls_def] at h ⊢
  intro κ w cargs h1 h2
  refine (h κ w cargs h1 h2).mono ?_
  rintro e w' ⟨v, κ', σ', x, h3, h4, h5, h6, h7⟩
  exact ⟨v, κ', σ', x, h3, h4, h5, h6, k _ _ h7⟩
theorem aret {v v' : AVal} {σ σ' : AHeap} {Q : AVal → AHeap → Prop} (hv : VLe v v') (hs : Sub σ σ') (h : Q v' σ') : ARet v σ Q := by rw [ARet_def]; exact ⟨v', σ', hv, hs, h⟩
theorem aret_same {v : AVal} {σ : AHeap} {Q : AVal → AHeap → Prop} (h : Q v σ) : ARet v σ Q := aret (VLe.refl v) (Sub.refl σ) h

/-- The right to append, and nothing else that is new. -/
def Owned (σ σ' : AHeap) (tk : Tok) : Prop := (tk = .full ∧ σ' = σ) ∨ ∃ t, σ t = none ∧ tk = .tip t ∧ σ' = upd σ t .tip
theorem Owned.full (σ : AHeap) : Owned σ σ .full := .inl ⟨rfl, rfl⟩
theorem Owned.tip {σ : AHeap} {t : Nat} (h : σ t = none) : Owned σ (upd σ t .tip) (.tip t) := .inr ⟨t, h, rfl, rfl⟩
theorem Owned.sub {σ σ' : AHeap} {tk : Tok} (h : Owned σ σ' tk) : Sub σ' σ := by
  rcases h with ⟨_, rfl⟩ | ⟨t, h, _, rfl⟩
  · exact Sub.refl _
  · exact Sub.upd_fresh _ h
theorem Owned.ext {σ σ' : AHeap} {tk : Tok} (h : Owned σ σ' tk) : Ext σ σ' := by
  rcases h with ⟨_, rfl⟩ | ⟨t, h, _, rfl⟩
  · exact Ext.refl _
  · exact Ext.upd_fresh _ h
theorem aapp_owned {σ σ' : AHeap} {s bytes : Nat} {xs ys : List AVal} {tk : Tok} {K : AVal → AHeap → Prop} (ho : Owned σ σ' tk) (hl : (xs.length + ys.length) * bytes ≤ 140737488355328)
    (h : ∀ t tk', Owned σ (upd σ t .tip) tk' → tk' = .tip t → K (.slice s (xs ++ ys) tk') (upd σ t .tip)) : AApp σ' s bytes xs tk ys K := by
  rcases ho with ⟨rfl, rfl⟩ | ⟨t, h0, rfl, rfl⟩
  · exact aapp_full hl fun t ht => h t _ (.tip ht) rfl
  · refine aapp_tip (upd_same _ _ _) hl fun t' ht' => ?_
    rw [del_upd _ _ _ h0]
    refine h t' _ (.tip ?_) rfl
    by_cases e : t' = t
    · subst e; exact h0
    · rw [upd_ne _ _ e] at ht'; exact ht'
theorem ashr_nat {k : IntKind} {n j : Nat} {K : Int → Prop} (hj : j ≤ k.bits) (h : K ((n / 2 ^ j : Nat) : Int)) : AShr k (n : Int) (j : Int) K := by
  refine ashr_eq (by omega) ?_ h
  rw [Int.toNat_natCast, Nat.min_eq_left hj, Int.fdiv_eq_ediv_of_nonneg _ (by exact Int.pow_nonneg (by omega))]
  rw [Int.natCast_ediv]; simp
theorem aappnew {σ : AHeap} {s bytes : Nat} {ys : List AVal} {K : AVal → AHeap → Prop} (hy : ys ≠ []) (hl : ys.length * bytes ≤ 140737488355328) (ho : ys.all (okElem s) = true) (h : ∀ r, σ r = none → K (.ms r s 0 ys.length) (upd σ r (.cells (ys.flatMap AVal.cells)))) :
    AAppNew σ s bytes [] .full ys K := ⟨.inr (.inl ⟨rfl, hy, rfl, hl, ho, h⟩)⟩
theorem aappnew_none {σ : AHeap} {s bytes : Nat} {xs : List AVal} {t : Tok} {K : AVal → AHeap → Prop} (hl : xs.length * bytes ≤ 140737488355328) (h : K (.slice s xs t) σ) : AAppNew σ s bytes xs t [] K := ⟨.inl ⟨rfl, hl, h⟩⟩
theorem aappm {σ : AHeap} {r s len bytes : Nat} {ys cs : List AVal} {K : AVal → AHeap → Prop} (hs : σ r = some (.cells cs)) (hc : len * s = cs.length) (hl : (len + ys.length) * bytes ≤ 140737488355328) (ho : ys.all (okElem s) = true)
    (h : ∀ r', σ r' = none → K (.ms r' s 0 (len + ys.length)) (upd (del σ r) r' (.cells (cs ++ ys.flatMap AVal.cells)))) : AAppM σ r s 0 len bytes ys K := ⟨⟨rfl, hl, ho, cs, hs, Nat.le_of_eq hc, by rw [hc, List.take_length]; exact h⟩⟩
theorem Owned.none_of {σ σ' : AHeap} {tk : Tok} {id : Nat} (h : Owned σ σ' tk) (k : σ' id = none) : σ id = none := by
  rcases h with ⟨_, rfl⟩ | ⟨t', h0, _, rfl⟩
  · exact k
  · by_cases e : id = t'
    · subst e; rw [upd_same] at k; cases k
    · rw [upd_ne _ _ e] at k; exact k
theorem Owned.same_of {σ σ' : AHeap} {tk : Tok} {id : Nat} {o : AObj} (h : Owned σ σ' tk) (k : σ id = some o) : σ' id = some o := by
  rcases h with ⟨_, rfl⟩ | ⟨t', h0, _, rfl⟩
  · exact k
  · by_cases e : id = t'
    · subst e; rw [h0] at k; cases k
    · rw [upd_ne _ _ e]; exact k

theorem acall_less {P : Program} {f : FuncId} {args : List AVal} {σ : AHeap} {Q Q' : AVal → AHeap → Prop} (h : ACalls P f args σ Q) (k : ∀ v σ', Q v σ' → ∃ v' σ2, VLe v v' ∧ Sub σ' σ2 ∧ Q' v' σ2) : ACalls P f args σ Q' := by
  rw [ACalls_def] at h ⊢
  intro κ w cargs h1 h2
  refine (h κ w cargs h1 h2).mono ?_
  rintro e w' ⟨v, κ', σ', x, h3, h4, h5, h6, h7⟩
  obtain ⟨v', σ2, a, b, c⟩ := k _ _ h7
  exact ⟨v, κ', σ2, v', h3, h4, h5.sub b, a _ _ h6, c⟩
theorem dec_congr {p q : Prop} {_ : Decidable p} {_ : Decidable q} (h : p ↔ q) : decide p = decide q := by
  by_cases hp : p
  · rw [decide_eq_true hp, decide_eq_true (h.1 hp)]
  · rw [decide_eq_false hp, decide_eq_false (fun hq => hp (h.2 hq))]

/-! Short names. -/
theorem zT {b : Bool} {K : Bool → Prop} (hb : b = true) (h : K true) : ABr b K := abr_true hb h
theorem zF {b : Bool} {K : Bool → Prop} (hb : b = false) (h : K false) : ABr b K := abr_false hb h
theorem zY {p : Prop} {_ : Decidable p} {K : Bool → Prop} (hp : p) (h : K true) : ABr (decide p) K := abr_yes hp h
theorem zN {p : Prop} {_ : Decidable p} {K : Bool → Prop} (hp : ¬p) (h : K false) : ABr (decide p) K := abr_no hp h
theorem zQ {α : Type} {a : α} {_ : Decidable (a ≠ a)} {K : Bool → Prop} (h : K false) : ABr (decide (a ≠ a)) K := abr_same_ne h
theorem zI {n : Int} {K : Int → Prop} (h1 : -9223372036854775808 ≤ n ∧ n ≤ 9223372036854775807) (h : K n) : AFit .i64 n K := afit_i64 h1 h
theorem zU {n : Int} {K : Int → Prop} (h1 : 0 ≤ n ∧ n < 18446744073709551616) (h : K n) : AFit .u64 n K := afit_u64 h1 h
theorem zE {a b : Int} {K : Int → Prop} (ha : 0 ≤ a) (hb : b ≠ 0) (h : K (a % b)) : ARem a b K := arem_nonneg ha hb h
theorem zX {i : Int} {n : Nat} {K : Nat → Prop} (h0 : 0 ≤ i) (h1 : i < n) (h : K i.toNat) : AIdx i n K := aidx h0 h1 h
theorem wX {P Q : Prop} (k : Q) (h : Q → P := by intro kX; (conv => whnf); (repeat ((first | with_reducible (first | refine zT rfl ?_ | refine zF rfl ?_ | refine zY rfl ?_) | refine zY (by decide) ?_ | refine zN (by decide) ?_ | with_reducible refine zQ ?_); (conv => whnf))); exact kX) : P := h k
theorem elX {e f : Env} (h : EnvLe e f := by repeat' first | with_reducible exact EnvLe.refl _ | (refine EnvLe.node ?_ (by first | exact Or.inl rfl | exact Or.inr (Or.inl rfl) | exact Or.inr (Or.inr ⟨nofun, VLe.slice _ _ _⟩)) ?_)) : EnvLe e f := h
end Go.Am
/-
  The bodies, compiled to the framework's language (printed by a program of this session).
-/
namespace Go.Proofs.Ytgbpjbpdpgbngaa
open Go Go.Am
abbrev s0 : Pth := .e
abbrev s1 : Pth := .l s0
abbrev s2 : Pth := .r s0
abbrev s3 : Pth := .l s1
abbrev s4 : Pth := .r s1
abbrev s5 : Pth := .l s2
abbrev s6 : Pth := .r s2
abbrev s7 : Pth := .l s3
abbrev s8 : Pth := .r s3
abbrev s9 : Pth := .l s4
abbrev s10 : Pth := .r s4
abbrev s11 : Pth := .l s5
abbrev s12 : Pth := .r s5
abbrev s13 : Pth := .l s6
abbrev s14 : Pth := .r s6
abbrev s15 : Pth := .l s7
abbrev s16 : Pth := .r s7
abbrev s17 : Pth := .l s8
abbrev s18 : Pth := .r s8
abbrev s19 : Pth := .l s9
abbrev s20 : Pth := .r s9
abbrev s21 : Pth := .l s10
abbrev s22 : Pth := .r s10
abbrev s23 : Pth := .l s11
abbrev s24 : Pth := .r s11
abbrev s25 : Pth := .l s12
abbrev s26 : Pth := .r s12
abbrev s27 : Pth := .l s13
abbrev s28 : Pth := .r s13
abbrev s29 : Pth := .l s14
abbrev s30 : Pth := .r s14
abbrev s31 : Pth := .l s15
abbrev s32 : Pth := .r s15
abbrev s33 : Pth := .l s16
abbrev s34 : Pth := .r s16
abbrev s35 : Pth := .l s17
abbrev s36 : Pth := .r s17
abbrev s37 : Pth := .l s18
abbrev s38 : Pth := .r s18
abbrev s39 : Pth := .l s19
abbrev s40 : Pth := .r s19
abbrev s41 : Pth := .l s20
abbrev s42 : Pth := .r s20
abbrev s43 : Pth := .l s21
abbrev s44 : Pth := .r s21
abbrev s45 : Pth := .l s22
abbrev s46 : Pth := .r s22
abbrev s47 : Pth := .l s23
abbrev s48 : Pth := .r s23
abbrev s49 : Pth := .l s24
abbrev s50 : Pth := .r s24
abbrev s51 : Pth := .l s25
abbrev s52 : Pth := .r s25
abbrev s53 : Pth := .l s26
abbrev s54 : Pth := .r s26
abbrev s55 : Pth := .l s27
abbrev s56 : Pth := .r s27
abbrev s57 : Pth := .l s28
abbrev s58 : Pth := .r s28
abbrev s59 : Pth := .l s29
abbrev s60 : Pth := .r s29
abbrev s61 : Pth := .l s30
abbrev s62 : Pth := .r s30
abbrev s63 : Pth := .l s31
abbrev s64 : Pth := .r s31
abbrev s65 : Pth := .l s32
abbrev s66 : Pth := .r s32
abbrev s67 : Pth := .l s33
abbrev s68 : Pth := .r s33
abbrev s69 : Pth := .l s34
abbrev s70 : Pth := .r s34
abbrev s71 : Pth := .l s35
abbrev s72 : Pth := .r s35
abbrev s73 : Pth := .l s36
abbrev s74 : Pth := .r s36
abbrev s75 : Pth := .l s37
abbrev s76 : Pth := .r s37
abbrev s77 : Pth := .l s38
abbrev s78 : Pth := .r s38
abbrev s79 : Pth := .l s39
abbrev s80 : Pth := .r s39
abbrev s81 : Pth := .l s40
abbrev s82 : Pth := .r s40
abbrev s83 : Pth := .l s41
abbrev s84 : Pth := .r s41
abbrev s85 : Pth := .l s42
abbrev s86 : Pth := .r s42
abbrev s87 : Pth := .l s43
abbrev s88 : Pth := .r s43
abbrev s89 : Pth := .l s44
abbrev s90 : Pth := .r s44
abbrev s91 : Pth := .l s45
abbrev s92 : Pth := .r s45
abbrev s93 : Pth := .l s46
abbrev s94 : Pth := .r s46
abbrev s95 : Pth := .l s47
abbrev s96 : Pth := .r s47
abbrev s97 : Pth := .l s48
abbrev s98 : Pth := .r s48
abbrev s99 : Pth := .l s49
abbrev s100 : Pth := .r s49
abbrev s101 : Pth := .l s50
abbrev s102 : Pth := .r s50
abbrev s103 : Pth := .l s51
abbrev s104 : Pth := .r s51
abbrev s105 : Pth := .l s52
abbrev s106 : Pth := .r s52
abbrev s107 : Pth := .l s53
abbrev s108 : Pth := .r s53
abbrev s109 : Pth := .l s54
abbrev s110 : Pth := .r s54
abbrev s111 : Pth := .l s55
abbrev s112 : Pth := .r s55
abbrev s113 : Pth := .l s56
abbrev s114 : Pth := .r s56
abbrev s115 : Pth := .l s57
abbrev s116 : Pth := .r s57
abbrev s117 : Pth := .l s58
abbrev s118 : Pth := .r s58
abbrev s119 : Pth := .l s59
abbrev s120 : Pth := .r s59
abbrev s121 : Pth := .l s60
abbrev s122 : Pth := .r s60
abbrev s123 : Pth := .l s61
abbrev s124 : Pth := .r s61
abbrev s125 : Pth := .l s62
abbrev s126 : Pth := .r s62
abbrev s127 : Pth := .l s63
abbrev s128 : Pth := .r s63
abbrev s129 : Pth := .l s64
abbrev s130 : Pth := .r s64
abbrev s131 : Pth := .l s65
abbrev s132 : Pth := .r s65
abbrev s133 : Pth := .l s66
abbrev s134 : Pth := .r s66
abbrev s135 : Pth := .l s67
abbrev s136 : Pth := .r s67
abbrev s137 : Pth := .l s68
abbrev s138 : Pth := .r s68
abbrev s139 : Pth := .l s69
abbrev s140 : Pth := .r s69
abbrev s141 : Pth := .l s70
abbrev s142 : Pth := .r s70
abbrev s143 : Pth := .l s71
abbrev s144 : Pth := .r s71
abbrev s145 : Pth := .l s72
abbrev s146 : Pth := .r s72
abbrev s147 : Pth := .l s73
abbrev s148 : Pth := .r s73
abbrev s149 : Pth := .l s74
abbrev s150 : Pth := .r s74
abbrev s151 : Pth := .l s75
abbrev s152 : Pth := .r s75
abbrev s153 : Pth := .l s76
abbrev s154 : Pth := .r s76
abbrev s155 : Pth := .l s77
abbrev s156 : Pth := .r s77
abbrev s157 : Pth := .l s78
abbrev s158 : Pth := .r s78
abbrev s159 : Pth := .l s79
abbrev s160 : Pth := .r s79
abbrev s161 : Pth := .l s80
abbrev s162 : Pth := .r s80
abbrev s163 : Pth := .l s81
abbrev s164 : Pth := .r s81
abbrev s165 : Pth := .l s82
abbrev s166 : Pth := .r s82
abbrev s167 : Pth := .l s83
abbrev s168 : Pth := .r s83
abbrev s169 : Pth := .l s84
abbrev s170 : Pth := .r s84
abbrev s171 : Pth := .l s85
abbrev s172 : Pth := .r s85
abbrev s173 : Pth := .l s86
abbrev s174 : Pth := .r s86
abbrev s175 : Pth := .l s87
abbrev s176 : Pth := .r s87
abbrev s177 : Pth := .l s88
abbrev s178 : Pth := .r s88
abbrev s179 : Pth := .l s89
abbrev s180 : Pth := .r s89
abbrev s181 : Pth := .l s90
abbrev s182 : Pth := .r s90
abbrev s183 : Pth := .l s91
abbrev s184 : Pth := .r s91
abbrev s185 : Pth := .l s92
abbrev s186 : Pth := .r s92
abbrev s187 : Pth := .l s93
abbrev s188 : Pth := .r s93
abbrev s189 : Pth := .l s94
abbrev s190 : Pth := .r s94
abbrev s191 : Pth := .l s95
abbrev s192 : Pth := .r s95
abbrev s193 : Pth := .l s96
abbrev s194 : Pth := .r s96
abbrev s195 : Pth := .l s97
abbrev s196 : Pth := .r s97
abbrev s197 : Pth := .l s98
abbrev s198 : Pth := .r s98
abbrev s199 : Pth := .l s99
abbrev s200 : Pth := .r s99
abbrev s201 : Pth := .l s100
abbrev s202 : Pth := .r s100
abbrev s203 : Pth := .l s101
abbrev s204 : Pth := .r s101
abbrev s205 : Pth := .l s102
abbrev s206 : Pth := .r s102
abbrev s207 : Pth := .l s103
abbrev s208 : Pth := .r s103
abbrev s209 : Pth := .l s104
abbrev s210 : Pth := .r s104
abbrev s211 : Pth := .l s105
abbrev s212 : Pth := .r s105
abbrev s213 : Pth := .l s106
abbrev s214 : Pth := .r s106
abbrev s215 : Pth := .l s107
abbrev s216 : Pth := .r s107
abbrev s217 : Pth := .l s108
abbrev s218 : Pth := .r s108
abbrev s219 : Pth := .l s109
abbrev s220 : Pth := .r s109
abbrev s221 : Pth := .l s110
abbrev s222 : Pth := .r s110
abbrev s223 : Pth := .l s111
abbrev s224 : Pth := .r s111
abbrev s225 : Pth := .l s112
abbrev s226 : Pth := .r s112
abbrev s227 : Pth := .l s113
abbrev s228 : Pth := .r s113
abbrev s229 : Pth := .l s114
abbrev s230 : Pth := .r s114
abbrev s231 : Pth := .l s115
abbrev s232 : Pth := .r s115
abbrev s233 : Pth := .l s116
abbrev s234 : Pth := .r s116
abbrev s235 : Pth := .l s117
abbrev s236 : Pth := .r s117
abbrev s237 : Pth := .l s118
abbrev s238 : Pth := .r s118
abbrev s239 : Pth := .l s119
abbrev s240 : Pth := .r s119
abbrev s241 : Pth := .l s120
abbrev s242 : Pth := .r s120
abbrev s243 : Pth := .l s121
abbrev s244 : Pth := .r s121
abbrev s245 : Pth := .l s122
abbrev s246 : Pth := .r s122
abbrev s247 : Pth := .l s123
abbrev s248 : Pth := .r s123
abbrev s249 : Pth := .l s124
abbrev s250 : Pth := .r s124
abbrev s251 : Pth := .l s125
abbrev s252 : Pth := .r s125
abbrev s253 : Pth := .l s126
abbrev s254 : Pth := .r s126
abbrev s255 : Pth := .l s127
abbrev s256 : Pth := .r s127
abbrev s257 : Pth := .l s128
abbrev s258 : Pth := .r s128
abbrev s259 : Pth := .l s129
abbrev s260 : Pth := .r s129
abbrev s261 : Pth := .l s130
abbrev s262 : Pth := .r s130
abbrev s263 : Pth := .l s131
abbrev s264 : Pth := .r s131
abbrev s265 : Pth := .l s132
abbrev s266 : Pth := .r s132
abbrev s267 : Pth := .l s133
abbrev s268 : Pth := .r s133
/-- Functions that turn nothing and give the same whenever they are called. -/
def ps : List FuncId := [7, 8]
/-- Functions that turn no object. -/
def qs : List FuncId := [3, 4, 5, 6, 7, 8, 9, 10, 11, 13, 16, 17, 18, 19, 20, 21, 22, 23, 24, 25, 26, 27, 29, 30, 31, 32, 33, 34, 35, 36, 40, 41, 43, 46, 47, 48, 49, 51, 52, 54, 55, 59, 60, 61, 62, 63, 64, 66, 68, 69, 71, 72, 73, 74, 75, 76, 77, 78, 79, 80, 81, 82, 83, 84, 85, 86, 87, 88, 89, 90, 91, 92, 93, 94, 95, 96, 97, 98, 99, 115, 116]
abbrev i_bowlinetop_TopReseg : FuncId := 3
abbrev i_amd_Right : FuncId := 4
abbrev i_bowlinetop_alive12 : FuncId := 5
abbrev i_amd_Data : FuncId := 6
abbrev i_reseg_Cut : FuncId := 7
abbrev i_reseg_Least : FuncId := 8
abbrev i_amd_Write : FuncId := 9
abbrev i_rxbuf_New : FuncId := 10
abbrev i_amd_Read : FuncId := 11
abbrev i_rxbuf_Buffer_Put : FuncId := 12
abbrev i_glue_New : FuncId := 13
abbrev i_rxbuf_Buffer_Take : FuncId := 14
abbrev i_glue_Glue_Put : FuncId := 15
abbrev i_glue_Glue_Held : FuncId := 16
abbrev i_rxbuf_Buffer_Bytes : FuncId := 17
abbrev i_amd_Size : FuncId := 18
abbrev i_reseg_ends : FuncId := 20
abbrev i_amd_Head : FuncId := 21
abbrev i_lens_Size : FuncId := 22
abbrev i_reseg_lenWidth : FuncId := 23
abbrev i_amd_isWidth : FuncId := 24
abbrev i_amd_head : FuncId := 25
abbrev i_lens_Write : FuncId := 26
abbrev i_amd_lenWidth : FuncId := 27
abbrev i_amd_readHead : FuncId := 28
abbrev i_bits_Read : FuncId := 29
abbrev i_lens_Read : FuncId := 30
abbrev i_amd_fields : FuncId := 31
abbrev i_rxbuf_Buffer_made : FuncId := 32
abbrev i_rxbuf_right : FuncId := 33
abbrev i_spans_New : FuncId := 34
abbrev i_rxbuf_piece_fits : FuncId := 35
abbrev i_slices_Clone_byte_byte : FuncId := 36
abbrev i_rxbuf_piece_fill : FuncId := 37
abbrev i_spans_Set_Add : FuncId := 38
abbrev i_rxbuf_piece_note : FuncId := 39
abbrev i_rxbuf_Buffer_find : FuncId := 40
abbrev i_rxbuf_piece_whole : FuncId := 41
abbrev i_glue_Glue_Put_1 : FuncId := 42
abbrev i_slices_ContainsFunc_byte_byte : FuncId := 43
abbrev i_glue_Glue_lose : FuncId := 44
abbrev i_glue_Glue_field : FuncId := 45
abbrev i_rxbuf_Buffer_Numbers : FuncId := 46
abbrev i_spans_Set_Count : FuncId := 47
abbrev i_seqnum_Space_Is : FuncId := 48
abbrev i_amd_offsetWidth : FuncId := 49
abbrev i_lens_isWidth : FuncId := 51
abbrev i_bits_New : FuncId := 52
abbrev i_bits_Writer_Put : FuncId := 53
abbrev i_amd_bit : FuncId := 54
abbrev i_bits_Writer_Bytes : FuncId := 55
abbrev i_amd_readHead_1 : FuncId := 56
abbrev i_bits_Reader_Get : FuncId := 57
abbrev i_bits_Reader_Rest : FuncId := 58
abbrev i_slices_ContainsFunc_int_int : FuncId := 59
abbrev i_amd_fields_1 : FuncId := 60
abbrev i_rxbuf_right_1 : FuncId := 61
abbrev i_rxbuf_piece_top : FuncId := 62
abbrev i_spans_Set_Has : FuncId := 63
abbrev i_spans_Set_ask : FuncId := 64
abbrev i_spans_Set_keep : FuncId := 65
abbrev i_slices_IndexFunc_byte_byte : FuncId := 66
abbrev i_glue_Glue_Drop : FuncId := 67
abbrev i_seqnum_Space_Size : FuncId := 69
abbrev i_bits_Writer_one : FuncId := 70
abbrev i_bits_Reader_Left : FuncId := 71
abbrev i_slices_IndexFunc_int_int : FuncId := 72
abbrev i_spans_Set_Spans : FuncId := 73
abbrev i_slices_ContainsFunc_spans_Span : FuncId := 74
abbrev i_spans_Set_Has_1 : FuncId := 75
abbrev i_spans_Right : FuncId := 76
abbrev i_seqnum_Right : FuncId := 79
abbrev i_spans_Span : FuncId := 80
abbrev i_slices_IndexFunc_spans_Span : FuncId := 81
end Go.Proofs.Ytgbpjbpdpgbngaa
/-
  From a start's world to the first abstract state; from a law's contract to what a row asks.
-/
namespace Go.Am
set_option linter.unusedSectionVars false
open Go.RowKit (Below)
open Go.ChangeShapes Go.WideShapes

def ghost0 (W : World) : Ghost :=
  { base := W.heap.size, w0 := W, cell := fun b o => match W.cell? ⟨b, o, none⟩ with | some v => (bif v.oneCell then some v else none) | none => none, size := fun _ => none, obj := fun _ => none, tok := fun _ => none }
def heap0 : AHeap := fun _ => none

theorem ghost0_cell {W : World} {b o : Nat} {v : Value} : (ghost0 W).cell b o = some v ↔ W.cell? ⟨b, o, none⟩ = some v ∧ v.oneCell = true := by
  unfold ghost0
  simp only
  cases h : W.cell? ⟨b, o, none⟩ with
  | none => simp
  | some u =>
    simp only
    cases h2 : u.oneCell with
    | true =>
      simp only [cond_true, Option.some.injEq]
      constructor
      · rintro rfl; exact ⟨rfl, h2⟩
      · rintro ⟨rfl, _⟩; rfl
    | false =>
      simp only [cond_false, Option.some.injEq]
      constructor
      · intro k; cases k
      · rintro ⟨rfl, k⟩; rw [h2] at k; cases k

theorem inv0 (W : World) : Inv (ghost0 W) heap0 W := by
  refine ⟨Below.refl _ _, Nat.le_refl _, fun b o v e => ghost0_cell.1 e, fun b n e => ?_, fun id b e => ?_, fun i j b hi => ?_, fun id cs e => ?_, fun id es e => ?_, fun t b p e => ?_, ⟨0, fun n _ => ⟨rfl, rfl, rfl⟩⟩⟩
  · cases e
  · cases e
  · exact absurd rfl hi
  · cases e
  · cases e
  · cases e

/-- A law's contract, as a row asks it. -/
theorem law_calls {P : Program} {f : FuncId} {args : List AVal} {cargs : Array Value} {W : World} {Q : AVal → AHeap → Prop} (h : ACalls P f args heap0 Q) (hq : ∀ v σ, Q v σ → v = .v (.bool true)) (hr : RepL (ghost0 W) args cargs.toList) :
    Calls P f cargs W fun e w' => e = .returned (.bool true) ∧ Below W.heap.size W w' := by
  rw [ACalls_def] at h
  have := h (ghost0 W) W cargs.toList (inv0 W) hr
  rw [Array.toArray_toList] at this
  refine this.mono ?_
  rintro e w' ⟨v, κ', σ', x, rfl, h2, h3, h4, h5⟩
  obtain rfl := hq _ _ h5
  obtain ⟨rfl, _⟩ := h4.v_inv
  refine ⟨rfl, ?_⟩
  have := h3.below
  rw [h2.base, h2.w0] at this
  exact this

/-- A slice of bytes among a start's arguments. -/
theorem bytes0 {H : Type} {enc : TypeId × Value → H} {P : Program} {W : World} {r : Reach} {spare : Nat → Bool} {held : Bool} {t e : TypeId} {base b1 : Nat} {v : Value} {d : DataW H} {ps : List MemPlace} {ts : List TypeId} {ds : List (DataW H)} {j : Nat}
    (hsz : (DataW.weightsEach P ts ds).all (· ≤ reachBytes) = true) (ht : ts[j]? = some t) (hd : ds[j]? = some d) (hu : P.underlying t = some (.slice e)) (he : P.underlying e = some (.int .u8)) (hc : P.cellsOf e = 1) (hB : P.bytesOf e = 1)
    (hv : Value.okWide P W r b1 t v) (h : DataW.Trod enc P W base spare held t v d ps) :
    ∃ bs : List UInt8, RepV (ghost0 W) (.slice 1 (bs.map byteV) .none) v ∧ bs.length ≤ 140737488351232 := by
  obtain ⟨a, len, cap, rfl⟩ := okWide_slice hu hv
  obtain ⟨fuel, hf⟩ := h
  rcases open_ints hu he hc hf with ⟨hcs, _⟩ | ⟨x, l, c, zs, hcs, _, hl, _, hz, hx, hcell, hwf⟩
  · simp [Value.cells] at hcs
    obtain ⟨rfl, rfl, rfl⟩ := hcs
    exact ⟨[], .nil, by simp⟩
  · simp [Value.cells] at hcs
    obtain ⟨rfl, rfl, rfl⟩ := hcs
    have hsp : x.spot = none := by
      have := hv
      simp only [Value.okWide, hu, Cell.okWide, Cell.ok] at this
      exact this.2.2.2.1
    obtain ⟨b, off, spot⟩ := x
    simp only at hsp
    subst hsp
    have hl2 : len ≤ zs.length := by rw [hz]; split <;> omega
    have hlen : (zs.take len).length = len := by simp; omega
    have hbyte : ∀ n ∈ zs, ((UInt8.ofNat n.toNat).toNat : Int) = n := by
      intro n hn
      have := hwf n hn
      simp only [Lit.wf, IntKind.min, IntKind.max, IntKind.signed, IntKind.bits] at this
      simp at this
      rw [UInt8.toNat_ofNat']
      omega
    refine ⟨(zs.take len).map fun n => UInt8.ofNat n.toNat, ?_, ?_⟩
    · have hvs : ∀ l : List Int, (∀ n ∈ l, n ∈ zs) → RepL (ghost0 W) (((l.map fun n => UInt8.ofNat n.toNat).map byteV).flatMap AVal.cells) (l.map (Value.int .u8)) := by
        intro l
        induction l with
        | nil => intro _; exact .nil
        | cons n l ih =>
          intro hm
          refine .cons ?_ (ih fun m k => hm m (List.mem_cons_of_mem _ k))
          unfold byteV
          rw [hbyte n (hm n (List.mem_cons_self ..))]
          exact .v rfl
      refine .slice (vs := (zs.take len).map (Value.int .u8)) (by rw [List.length_map, List.length_map]; exact hlen) hl (fun y hy => ?_) (hvs _ fun n hn => List.mem_of_mem_take hn) (fun i v hv => ?_) trivial
      · obtain ⟨n, _, rfl⟩ := List.mem_map.1 hy; rfl
      · rw [List.getElem?_map] at hv
        obtain ⟨n, hn, rfl⟩ := Option.map_eq_some_iff.1 hv
        have hi := (List.getElem?_eq_some_iff.1 hn).1
        have hi2 : i < zs.length := by rw [hlen] at hi; omega
        rw [ghost0_cell]
        refine ⟨?_, rfl⟩
        have := hcell i hi2
        rw [List.getElem?_take] at hn
        split at hn
        · rw [List.getD_eq_getElem?_getD, hn] at this
          simp only [Option.getD_some] at this
          rw [← this]
          congr 1
          unfold Addr.add
          split
          · rename_i h0; subst h0; rfl
          · rfl
        · cases hn
    · rw [List.length_map, hlen]
      obtain ⟨hx, _⟩ := Prod.mk.inj hx
      subst hx
      have z := sized_slice hsz ht hd hu
      rw [hB, Nat.mul_one] at z
      have h1 : (lits (H := H) .u8 (zs.take len)).length + (lits (H := H) .u8 (zs.drop len)).length = zs.length := by
        simp [lits]
        omega
      rw [h1] at z
      exact Nat.le_trans hl2 z
end Go.Am
/-
  What a start's data is read as: slices of anything, structs.
-/
namespace Go.Am
set_option linter.unusedSectionVars false
open Go.RowKit (Below)
open Go.ChangeShapes Go.WideShapes

section
variable {H : Type} {enc : TypeId × Value → H} {P : Program} {W : World} {base : Nat} {spare : Nat → Bool} {held : Bool}

/-- Data of a type, read as abstract cells. -/
def Reads (enc : TypeId × Value → H) (P : Program) (W : World) (base : Nat) (spare : Nat → Bool) (held : Bool) (t : TypeId) {α : Type} (f : α → List AVal) (good : α → Prop) : Prop :=
  ∀ (n : Nat) (cs : List Value) (y : DataW H × List MemPlace), DataW.trod enc P W base spare held n t cs = some y → (∀ k ∈ y.1.weights P t, k ≤ reachBytes) → ∃ a, RepL (ghost0 W) (f a) cs ∧ (∀ v ∈ cs, v.oneCell = true) ∧ good a

theorem reads_int {t : TypeId} {k : IntKind} (ht : P.underlying t = some (.int k)) : Reads enc P W base spare held t (fun n : Int => [.v (.int k n)]) (fun n => (Lit.int k n).wf = true) := by
  intro n cs y h _
  obtain ⟨m, rfl, rfl, hw⟩ := DataW.trod_int ht h
  exact ⟨m, .cons (.v rfl) .nil, fun v hv => by simp at hv; subst hv; rfl, hw⟩
theorem reads_i64 {t : TypeId} (ht : P.underlying t = some (.int .i64)) : Reads enc P W base spare held t (fun n : Int => [.v (.int .i64 n)]) (fun n => -9223372036854775808 ≤ n ∧ n ≤ 9223372036854775807) := by
  intro n cs y h hw
  obtain ⟨m, h1, h2, h3⟩ := reads_int ht n cs y h hw
  refine ⟨m, h1, h2, ?_⟩
  simp only [Lit.wf, IntKind.min, IntKind.max, IntKind.signed, IntKind.bits] at h3
  simp at h3
  omega
theorem reads_u16 {t : TypeId} (ht : P.underlying t = some (.int .u16)) : Reads enc P W base spare held t (fun n : Nat => [.v (.int .u16 n)]) (fun n => n < 65536) := by
  intro n cs y h hw
  obtain ⟨m, h1, h2, h3⟩ := reads_int ht n cs y h hw
  simp only [Lit.wf, IntKind.min, IntKind.max, IntKind.signed, IntKind.bits] at h3
  simp at h3
  refine ⟨m.toNat, ?_, h2, by omega⟩
  dsimp only
  rw [show ((m.toNat : Nat) : Int) = m by omega]; exact h1
theorem reads_u8 {t : TypeId} (ht : P.underlying t = some (.int .u8)) : Reads enc P W base spare held t (fun b : UInt8 => [byteV b]) (fun _ => True) := by
  intro n cs y h hw
  obtain ⟨m, h1, h2, h3⟩ := reads_int ht n cs y h hw
  simp only [Lit.wf, IntKind.min, IntKind.max, IntKind.signed, IntKind.bits] at h3
  simp at h3
  refine ⟨UInt8.ofNat m.toNat, ?_, h2, trivial⟩
  dsimp only [byteV]
  rw [show ((UInt8.ofNat m.toNat).toNat : Int) = m by rw [UInt8.toNat_ofNat']; omega]; exact h1

theorem addr_eq {b off i : Nat} : (⟨b, off, none⟩ : Addr).add i = ⟨b, off + i, none⟩ := by
  unfold Addr.add
  split
  · rename_i h; subst h; rfl
  · rfl

theorem weights_all {H : Type} {P : Program} {e : TypeId} : ∀ {l : List (DataW H)} {d : DataW H}, d ∈ l → ∀ n ∈ d.weights P e, n ∈ DataW.weightsAll P e l
  | a :: l, d, hd, n, hn => by
    unfold DataW.weightsAll
    rcases List.mem_cons.1 hd with rfl | h
    · exact List.mem_append_left _ hn
    · exact List.mem_append_right _ (weights_all h n hn)
/-- The elements of a slice. -/
theorem reads_elems {e : TypeId} {α : Type} {f : α → List AVal} {good : α → Prop} {s b off : Nat} (hc : P.cellsOf e = s) (re : Reads enc P W base spare held e f good) {n : Nat} {elems : List (DataW H × List MemPlace)} (hwt : ∀ x ∈ elems, ∀ k ∈ x.1.weights P e, k ≤ reachBytes) :
    ∀ (m : Nat), m ≤ elems.length → (∀ i, i < elems.length → (W.cells? base ((⟨b, off, none⟩ : Addr).add (i * P.cellsOf e)) (P.cellsOf e)).bind (DataW.trod enc P W base spare held n e) = elems[i]?) →
      ∃ (l : List α) (vs : List Value), l.length = m ∧ vs.length = m * s ∧ RepL (ghost0 W) (l.flatMap f) vs ∧ (∀ i v, vs[i]? = some v → W.cell? ⟨b, off + i, none⟩ = some v ∧ v.oneCell = true) ∧ ∀ a ∈ l, good a
  | 0, _, _ => ⟨[], [], rfl, by simp, .nil, fun i v h => by simp at h, fun a h => by simp at h⟩
  | m + 1, hm, h => by
    obtain ⟨l, vs, h1, h2, h3, h4, h5⟩ := reads_elems hc re hwt m (by omega) h
    have hb := h m (by omega)
    rw [List.getElem?_eq_getElem (by omega), Option.bind_eq_some_iff] at hb
    obtain ⟨cs, g1, g2⟩ := hb
    obtain ⟨a, r, c, k⟩ := re _ _ _ g2 (hwt _ (List.getElem_mem _))
    obtain ⟨_, q1, q2⟩ := World.cells?_some g1
    rw [hc] at q1 q2
    refine ⟨l ++ [a], vs ++ cs, by simp [h1], by rw [List.length_append, h2, q1, Nat.succ_mul], ?_, ?_, ?_⟩
    · rw [List.flatMap_append, List.flatMap_cons, List.flatMap_nil, List.append_nil]; exact h3.append r
    · intro i v hv
      by_cases hi : i < vs.length
      · rw [List.getElem?_append_left hi] at hv; exact h4 i v hv
      · rw [List.getElem?_append_right (by omega)] at hv
        have hlt := (List.getElem?_eq_some_iff.1 hv).1
        have := q2 (i - vs.length) (by omega)
        rw [addr_eq, addr_eq, hv] at this
        rw [show off + m * s + (i - vs.length) = off + i by rw [h2]; rw [h2] at hi; omega] at this
        exact ⟨this, c v (List.mem_of_getElem? hv)⟩
    · intro x hx
      rcases List.mem_append.1 hx with h | h
      · exact h5 x h
      · simp at h; subst h; exact k

/-- A slice among a start's arguments. -/
theorem slices0 {t e : TypeId} {α : Type} {f : α → AVal} {good : α → Prop} {s B b1 j : Nat} {r : Reach} {v : Value} {d : DataW H} {ps : List MemPlace} {ts : List TypeId} {ds : List (DataW H)}
    (hsz : (DataW.weightsEach P ts ds).all (· ≤ reachBytes) = true) (ht : ts[j]? = some t) (hd : ds[j]? = some d) (hu : P.underlying t = some (.slice e)) (hc : P.cellsOf e = s) (hB : P.bytesOf e = B) (hs : ∀ a, (f a).cells.length = s)
    (re : Reads enc P W base spare held e (fun a => (f a).cells) good) (hv : Value.okWide P W r b1 t v) (h : DataW.Trod enc P W base spare held t v d ps) :
    ∃ l : List α, RepV (ghost0 W) (.slice s (l.map f) .none) v ∧ l.length * B ≤ reachBytes ∧ ∀ a ∈ l, good a := by
  obtain ⟨a, len, cap, rfl⟩ := okWide_slice hu hv
  obtain ⟨fuel, hf⟩ := h
  rcases DataW.trod_slice hu hf with ⟨hcs, _⟩ | ⟨x, l, c, elems, rest, n, _, hcs, hx, _, hl, hm, hlen, hel, _, _⟩
  · simp [Value.cells] at hcs
    obtain ⟨rfl, rfl, rfl⟩ := hcs
    exact ⟨[], .nil, by simp, fun a h => by simp at h⟩
  · simp [Value.cells] at hcs
    obtain ⟨rfl, rfl, rfl⟩ := hcs
    have hsp : x.spot = none := by
      have := hv
      simp only [Value.okWide, hu, Cell.okWide, Cell.ok] at this
      exact this.2.2.2.1
    obtain ⟨b, off, spot⟩ := x
    simp only at hsp
    subst hsp
    subst hlen
    obtain ⟨hx, _⟩ := Prod.mk.inj hx
    have hwt : ∀ y ∈ elems, ∀ k ∈ y.1.weights P e, k ≤ reachBytes := fun y hy k hk => by
      have := List.all_eq_true.1 hsz _ (DataW.weights_mem_each ht hd k (by rw [hx]; simp only [DataW.weights, hu]; exact List.mem_cons_of_mem _ (List.mem_append_left _ (weights_all (List.mem_map.2 ⟨y, hy, rfl⟩) k hk))))
      simpa using this
    obtain ⟨xs, vs, g1, g2, g3, g4, g5⟩ := reads_elems hc re hwt elems.length (Nat.le_refl _) hel
    refine ⟨xs, ?_, ?_, g5⟩
    · refine .slice (vs := vs) (by rw [List.length_map]; exact g1) hl (fun y hy => ?_) ?_ (fun i v hv => ?_) trivial
      · obtain ⟨a, _, rfl⟩ := List.mem_map.1 hy; exact hs a
      · rw [List.flatMap_map]; exact g3
      · rw [ghost0_cell]; exact g4 i v hv
    · subst hx
      have z := sized_slice hsz ht hd hu
      rw [hB, List.length_map, List.length_map] at z
      rw [g1]
      exact Nat.le_trans (Nat.mul_le_mul_right _ (by omega)) z

theorem reads_bool {t : TypeId} (ht : P.underlying t = some .bool) : Reads enc P W base spare held t (fun b : Bool => [.v (.bool b)]) (fun _ => True) := by
  intro n cs y h _
  have : ∃ b, cs = [.bool b] := by
    cases n with
    | zero => simp [DataW.trod] at h
    | succ n =>
      unfold DataW.trod at h
      rw [ht] at h
      split at h <;> simp_all
  obtain ⟨b, rfl⟩ := this
  exact ⟨b, .cons (.v rfl) .nil, fun v hv => by simp at hv; subst hv; rfl, trivial⟩

theorem spot_none {b : Addr} {e : TypeId} {s n : Nat} {y : DataW H × List MemPlace} (hs : P.cellsOf e = s) (h0 : 0 < s) (h : (W.cells? base (b.add 0) (P.cellsOf e)).bind (DataW.trod enc P W base spare held n e) = some y) : b.spot = none := by
  rw [Option.bind_eq_some_iff] at h
  obtain ⟨cs, g1, _⟩ := h
  obtain ⟨_, q1, q2⟩ := World.cells?_some g1
  have := q2 0 (by omega)
  rw [List.getElem?_eq_getElem (by omega)] at this
  have e : ((b.add 0).add 0) = b := rfl
  rw [e] at this
  unfold World.cell? at this
  split at this
  · split at this
    · cases this
    · rename_i hsp; simpa using hsp
  · cases this

/-- A slice that stands in a cell. -/
theorem reads_slice {t e : TypeId} {α : Type} {f : α → AVal} {good : α → Prop} {s B : Nat} (hsp : ∀ b, spare b = true) (hu : P.underlying t = some (.slice e)) (hc : P.cellsOf e = s) (hB : P.bytesOf e = B) (h0 : 0 < s) (hs : ∀ a, (f a).cells.length = s)
    (re : Reads enc P W base spare held e (fun a => (f a).cells) good) : Reads enc P W base spare held t (fun l : List α => [.slice s (l.map f) .none]) (fun l => l.length * B ≤ reachBytes ∧ ∀ a ∈ l, good a) := by
  intro m cs y h hw
  rcases DataW.trod_slice hu h with ⟨rfl, _⟩ | ⟨x, len, cap, elems, rest, n, _, rfl, hx, _, hl, hm, hlen, hel, hre, _⟩
  · exact ⟨[], .cons .nil .nil, fun v hv => by simp at hv; subst hv; rfl, by simp, fun a h => by simp at h⟩
  · by_cases hcap : cap = 0
    · have : len = 0 := by omega
      subst this; subst hcap
      exact ⟨[], .cons .nil .nil, fun v hv => by simp at hv; subst hv; rfl, by simp, fun a h => by simp at h⟩
    · have hspot : x.spot = none := by
        by_cases h1 : len = 0
        · obtain ⟨r1, r2⟩ := hre (hsp _)
          have := r2 0 (by omega)
          rw [h1, Nat.zero_add, Nat.zero_mul, List.getElem?_eq_getElem (by omega)] at this
          exact spot_none hc h0 this
        · have := hel 0 (by omega)
          rw [Nat.zero_mul, List.getElem?_eq_getElem (by omega)] at this
          exact spot_none hc h0 this
      obtain ⟨b, off, spot⟩ := x
      simp only at hspot
      subst hspot
      subst hlen
      have hwt : ∀ y ∈ elems, ∀ k ∈ y.1.weights P e, k ≤ reachBytes := fun y hy k hk => by
        refine hw k ?_
        rw [hx]; simp only [DataW.weights, hu]
        exact List.mem_cons_of_mem _ (List.mem_append_left _ (weights_all (List.mem_map.2 ⟨y, hy, rfl⟩) k hk))
      have hz : (elems.length + rest.length) * P.bytesOf e ≤ reachBytes := by
        refine hw _ ?_
        rw [hx]; simp only [DataW.weights, hu, List.length_map]
        exact List.mem_cons_self ..
      obtain ⟨xs, vs, g1, g2, g3, g4, g5⟩ := reads_elems hc re hwt elems.length (Nat.le_refl _) hel
      refine ⟨xs, .cons ?_ .nil, fun v hv => by simp at hv; subst hv; rfl, by rw [g1, ← hB]; exact Nat.le_trans (Nat.mul_le_mul_right _ (by omega)) hz, g5⟩
      refine .slice (vs := vs) (by rw [List.length_map]; exact g1) hl (fun y hy => ?_) ?_ (fun i v hv => ?_) trivial
      · obtain ⟨a, _, rfl⟩ := List.mem_map.1 hy; exact hs a
      · rw [List.flatMap_map]; exact g3
      · rw [ghost0_cell]; exact g4 i v hv

/-- An array, or a struct, among a start's arguments. -/
theorem aggs0 {t : TypeId} {α : Type} {f : α → List AVal} {good : α → Prop} {b1 j : Nat} {r : Reach} {v : Value} {d : DataW H} {ps : List MemPlace} {ts : List TypeId} {ds : List (DataW H)}
    (hsz : (DataW.weightsEach P ts ds).all (· ≤ reachBytes) = true) (ht : ts[j]? = some t) (hd : ds[j]? = some d) (hu : (∃ n e, P.underlying t = some (.array n e)) ∨ ∃ fs, P.underlying t = some (.struct fs))
    (re : Reads enc P W base spare held t f good) (hv : Value.okWide P W r b1 t v) (h : DataW.Trod enc P W base spare held t v d ps) : ∃ a, RepV (ghost0 W) (.agg (f a)) v ∧ good a := by
  have : ∃ cs, v = .agg cs := by
    rcases hu with ⟨n, e, hu⟩ | ⟨fs, hu⟩ <;> simp only [Value.okWide, hu] at hv <;> obtain ⟨cs, rfl, _⟩ := hv <;> exact ⟨cs, rfl⟩
  obtain ⟨cs, rfl⟩ := this
  obtain ⟨fuel, hf⟩ := h
  obtain ⟨a, h1, _, h3⟩ := re _ _ _ hf (fun k hk => by simpa using List.all_eq_true.1 hsz _ (DataW.weights_mem_each ht hd k hk))
  refine ⟨a, ?_, h3⟩
  have := RepV.agg h1
  simpa [Value.cells] using this
/-- The fields of a struct, from a place on. -/
def ReadsFs (enc : TypeId × Value → H) (P : Program) (W : World) (base : Nat) (spare : Nat → Bool) (held : Bool) (L : Nat) (fs : List Field) (off : Nat) {α : Type} (f : α → List AVal) (good : α → Prop) : Prop :=
  ∀ (n : Nat) (cs : List Value) (xs : List (DataW H × List MemPlace)), cs.length = L → xs.length = fs.length → (∀ (i : Nat) (fd : Field), fs[i]? = some fd → DataW.trod enc P W base spare held n fd.type ((cs.drop fd.offset).take (P.cellsOf fd.type)) = xs[i]?) →
    (∀ (i : Nat) (fd : Field) x, fs[i]? = some fd → xs[i]? = some x → ∀ k ∈ x.1.weights P fd.type, k ≤ reachBytes) → ∃ a, RepL (ghost0 W) (f a) (cs.drop off) ∧ (∀ v ∈ cs.drop off, v.oneCell = true) ∧ good a
theorem readsFs_last {L off : Nat} {fd : Field} {α : Type} {f : α → List AVal} {good : α → Prop} (h0 : fd.offset = off) (h1 : L = off + P.cellsOf fd.type) (r : Reads enc P W base spare held fd.type f good) : ReadsFs enc P W base spare held L [fd] off f good := by
  intro n cs xs hl hx h hw
  match xs, hx with
  | [y], _ =>
  have g := h 0 fd rfl
  rw [h0, List.take_of_length_le (by rw [List.length_drop]; omega)] at g
  exact r n _ y (by simpa using g) (hw 0 fd y rfl rfl)
theorem readsFs_cons {L off off2 : Nat} {fd : Field} {fs : List Field} {α β : Type} {f : α → List AVal} {g : β → List AVal} {ga : α → Prop} {gb : β → Prop} (h0 : fd.offset = off) (h1 : off2 = off + P.cellsOf fd.type)
    (r : Reads enc P W base spare held fd.type f ga) (rs : ReadsFs enc P W base spare held L fs off2 g gb) : ReadsFs enc P W base spare held L (fd :: fs) off (fun p : α × β => f p.1 ++ g p.2) (fun p => ga p.1 ∧ gb p.2) := by
  intro n cs xs hl hx h hw
  match xs, hx with
  | y :: ys, hx =>
  have k := h 0 fd rfl
  rw [h0] at k
  obtain ⟨a, r1, c1, g1⟩ := r n _ y (by simpa using k) (hw 0 fd y rfl rfl)
  obtain ⟨b, r2, c2, g2⟩ := rs n cs ys hl (by simpa using hx) (fun i e he => by simpa using h (i + 1) e he) (fun i e x he hx => hw (i + 1) e x (by simpa using he) (by simpa using hx))
  have e : cs.drop off = (cs.drop off).take (P.cellsOf fd.type) ++ cs.drop off2 := by
    rw [h1, ← List.drop_drop, List.take_append_drop]
  refine ⟨(a, b), ?_, ?_, g1, g2⟩
  · rw [e]; exact r1.append r2
  · intro v hv
    rw [e] at hv
    rcases List.mem_append.1 hv with h | h
    · exact c1 v h
    · exact c2 v h
theorem reads_struct {t : TypeId} {fs : Array Field} {L : Nat} {α : Type} {f : α → List AVal} {good : α → Prop} (ht : P.underlying t = some (.struct fs)) (hl : P.cellsOf t = L) (r : ReadsFs enc P W base spare held L fs.toList 0 f good) : Reads enc P W base spare held t f good := by
  intro n cs y h hw
  obtain ⟨xs, m, _, rfl, hc, hlen, hf⟩ := DataW.trod_struct ht h
  obtain ⟨a, h1, h2, h3⟩ := r m cs xs (by omega) (by simpa using hlen) (fun i fd hfd => hf i fd (by simpa using hfd)) (fun i fd x hfd hx k hk => by
    refine hw k ?_
    simp only [DataW.weights, ht]
    exact DataW.weights_mem_each (j := i) (t := fd.type) (d := x.1) (by rw [List.getElem?_map, hfd]; rfl) (by rw [List.getElem?_map, hx]; rfl) k hk)
  exact ⟨a, h1, h2, h3⟩
end
end Go.Am
