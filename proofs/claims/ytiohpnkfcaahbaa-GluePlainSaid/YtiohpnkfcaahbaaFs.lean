/-
  Every order that a region may draw.
-/
import Derived.Test.YtiohpnkfcaahbaaFr
namespace Go.Am
set_option linter.unusedVariables false
set_option linter.unusedSimpArgs false
set_option linter.unusedSectionVars false
open Go.RowKit (Below)

theorem Pth.beq_eq : ∀ {p q : Pth}, Pth.beq p q = true ↔ p = q
  | .e, .e => by simp [Pth.beq]
  | .e, .l _ => by simp [Pth.beq]
  | .e, .r _ => by simp [Pth.beq]
  | .l _, .e => by simp [Pth.beq]
  | .r _, .e => by simp [Pth.beq]
  | .l _, .r _ => by simp [Pth.beq]
  | .r _, .l _ => by simp [Pth.beq]
  | .l p, .l q => by simp only [Pth.beq, Pth.l.injEq]; exact Pth.beq_eq
  | .r p, .r q => by simp only [Pth.beq, Pth.r.injEq]; exact Pth.beq_eq

def rowV (P : Program) (r : IRow) (env : Env) (σ : AHeap) (K : AVal → AHeap → Prop) : Prop :=
  match r.guard with
  | none => r.op.ev P env σ K
  | some (g, want) => (∃ b, env.get g = .v (.bool b) ∧ if b = want then r.op.ev P env σ K else K (.tup []) σ) ∨ (env.get g = .tup [] ∧ K (.tup []) σ)

theorem rowP_rowV {P : Program} {r : IRow} {env : Env} {σ : AHeap} {K : Env → AHeap → Prop} : rowP P r env σ K ↔ rowV P r env σ fun v σ' => K (putE env r.dst v) σ' := by
  unfold rowP rowV; cases r.guard <;> exact Iff.rfl

def Agree (r : IRow) (env env' : Env) : Prop := ∀ p, r.looks p = true → env'.get p = env.get p

theorem Agree.opds {r : IRow} {env env' : Env} (h : Agree r env env') : ∀ x ∈ r.op.opds, x.get env = x.get env' := by
  intro x hx
  cases x with
  | t p => exact (h p (by unfold IRow.looks; rw [Bool.or_eq_true]; exact .inl (List.any_eq_true.2 ⟨_, hx, Pth.beq_eq.2 rfl⟩))).symm
  | c v => rfl
theorem Agree.guard {r : IRow} {env env' : Env} (h : Agree r env env') {g : Pth} {want : Bool} (hg : r.guard = some (g, want)) : env'.get g = env.get g :=
  h g (by unfold IRow.looks; rw [Bool.or_eq_true]; exact .inr (by rw [hg]; exact Pth.beq_eq.2 rfl))

theorem rowV_congr {P : Program} {r : IRow} {env env' : Env} (h : Agree r env env') {σ : AHeap} {K : AVal → AHeap → Prop} (hr : rowV P r env σ K) : rowV P r env' σ K := by
  unfold rowV at hr ⊢
  rw [← ev_congr h.opds]
  cases hg : r.guard with
  | none => rw [hg] at hr; exact hr
  | some gw => rw [hg] at hr; simp only at hr ⊢; rw [h.guard hg]; exact hr

theorem rowV_mono {P : Program} {r : IRow} {env : Env} {σ : AHeap} {K K' : AVal → AHeap → Prop} (h : rowV P r env σ K) (hk : ∀ x σ', K x σ' → K' x σ') : rowV P r env σ K' := by
  unfold rowV at h ⊢
  cases hg : r.guard with
  | none => rw [hg] at h; exact ev_mono h hk
  | some gw =>
    rw [hg] at h
    rcases h with ⟨b, h1, h2⟩ | ⟨h1, h2⟩
    case inr => exact .inr ⟨h1, hk _ _ h2⟩
    refine .inl ⟨b, h1, ?_⟩
    split
    · rename_i hb; rw [if_pos hb] at h2; exact ev_mono h2 hk
    · rename_i hb; rw [if_neg hb] at h2; exact hk _ _ h2

theorem rowV_quiet {P : Program} {r : IRow} {env : Env} {σ : AHeap} {K : AVal → AHeap → Prop} (hc : r.op.cls ≤ 2) (h : rowV P r env σ K) : rowV P r env σ fun x σ' => K x σ' ∧ Ext σ σ' := by
  unfold rowV at h ⊢
  cases hg : r.guard with
  | none => rw [hg] at h; exact ev_quiet hc h
  | some gw =>
    rw [hg] at h
    rcases h with ⟨b, h1, h2⟩ | ⟨h1, h2⟩
    case inr => exact .inr ⟨h1, h2, Ext.refl σ⟩
    refine .inl ⟨b, h1, ?_⟩
    split
    · rename_i hb; rw [if_pos hb] at h2; exact ev_quiet hc h2
    · rename_i hb; rw [if_neg hb] at h2; exact ⟨h2, Ext.refl σ⟩

/-- Row r comes to x, now and later. -/
def Yd (P : Program) (r : IRow) (env : Env) (σ : AHeap) (x : AVal) : Prop := ∀ env' σ' K', Agree r env env' → (r.op.cls = 0 ∨ Ext σ σ') → K' x σ' → rowV P r env' σ' K'

theorem rowV_det {P : Program} {r : IRow} {env : Env} {σ : AHeap} {K : AVal → AHeap → Prop} (hc : r.op.cls ≤ 1) (h : rowV P r env σ K) : ∃ x, K x σ ∧ Yd P r env σ x := by
  unfold rowV at h
  cases hg : r.guard with
  | none =>
    rw [hg] at h
    obtain ⟨x, h1, h2⟩ := ev_det hc h
    refine ⟨x, h1, fun env' σ' K' ha he hk => ?_⟩
    unfold rowV; rw [hg]; simp only
    rw [← ev_congr ha.opds]; exact h2 σ' K' he hk
  | some gw =>
    obtain ⟨g, want⟩ := gw
    rw [hg] at h
    rcases h with ⟨b, h1, h2⟩ | ⟨h1, h2⟩
    case inr =>
      refine ⟨.tup [], h2, fun env' σ' K' ha he hk => ?_⟩
      unfold rowV; rw [hg]; simp only
      exact .inr ⟨by rw [ha.guard hg]; exact h1, hk⟩
    by_cases hb : b = want
    · rw [if_pos hb] at h2
      obtain ⟨x, h3, h4⟩ := ev_det hc h2
      refine ⟨x, h3, fun env' σ' K' ha he hk => ?_⟩
      unfold rowV; rw [hg]; simp only
      refine .inl ⟨b, by rw [ha.guard hg]; exact h1, ?_⟩
      rw [if_pos hb, ← ev_congr ha.opds]; exact h4 σ' K' he hk
    · rw [if_neg hb] at h2
      refine ⟨.tup [], h2, fun env' σ' K' ha he hk => ?_⟩
      unfold rowV; rw [hg]; simp only
      exact .inl ⟨b, by rw [ha.guard hg]; exact h1, by rw [if_neg hb]; exact hk⟩

theorem putE_get {env : Env} {d : Option Pth} {v : AVal} {p : Pth} (h : d ≠ some p) : (putE env d v).get p = env.get p := by
  cases d with
  | none => rfl
  | some d => exact Env.get_set_ne env v fun e => h (by rw [e])

theorem agree_put {r : IRow} {env : Env} {d : Option Pth} {v : AVal} (h : dstApart d r = true) : Agree r env (putE env d v) := by
  intro p hp
  refine putE_get fun e => ?_
  subst e
  simp only [dstApart, hp] at h
  cases h

theorem putE_comm (env : Env) {d e : Option Pth} (u v : AVal) (h : dstNe d e = true) : putE (putE env d u) e v = putE (putE env e v) d u := by
  cases d with
  | none => rfl
  | some d => cases e with
    | none => rfl
    | some d2 =>
      simp only [dstNe, Bool.not_eq_true'] at h
      exact Env.set_comm env u v fun k => by rw [Pth.beq_eq.2 k] at h; cases h

section
variable {P : Program} {C : Cfg} {ops : Array Oper} {rows : List IRow} {K : Env → AHeap → Prop}

def AAny (P : Program) (ops : Array Oper) (rows : List IRow) (K : Env → AHeap → Prop) : Nat → Array Bool → Env → AHeap → Prop
  | 0, listed, env, σ => Region.ready .any ops listed = [] ∧ K env σ
  | n + 1, listed, env, σ => (Region.ready .any ops listed = [] → K env σ) ∧
      ∀ i ∈ Region.ready .any ops listed, ∀ r, rows[i]? = some r → rowV P r env σ fun v σ' => AAny P ops rows K n (listed.setIfInBounds i true) (putE env r.dst v) σ'

def Free (ops : Array Oper) (rows : List IRow) (listed : Array Bool) (i : Nat) (ri : IRow) : Prop :=
  ∀ (j : Nat) (oj : Oper) (rj : IRow), ops[j]? = some oj → rows[j]? = some rj → j ≠ i → listed.getD j true = false → (∀ e ∈ oj.after, Region.binds .any e = true → e.on ≠ i) → apartR ri rj = true ∧ (ri.op.cls = 0 ∨ rj.op.cls ≤ 2)

theorem any_first {i : Nat} {ri : IRow} (hri : rows[i]? = some ri) : ∀ (n : Nat) (listed : Array Bool) (env : Env) (σ : AHeap) (x : AVal), Free ops rows listed i ri → i ∈ Region.ready .any ops listed → Yd P ri env σ x →
    AAny P ops rows K n (listed.setIfInBounds i true) (putE env ri.dst x) σ → AAny P ops rows K (n + 1) listed env σ := by
  intro n
  induction n with
  | zero =>
    intro listed env σ x _ hr hy H
    refine ⟨fun h => (by rw [h] at hr; cases hr), fun j hj r hrj => ?_⟩
    by_cases hji : j = i
    · subst hji
      rw [hri] at hrj; cases hrj
      exact hy env σ _ (fun _ _ => rfl) (.inr (Ext.refl σ)) H
    · have := ready_mono hj hji
      rw [H.1] at this; cases this
  | succ n ih =>
    intro listed env σ x hfree hr hy H
    refine ⟨fun h => (by rw [h] at hr; cases hr), fun j hj r hrj => ?_⟩
    by_cases hji : j = i
    · subst hji
      rw [hri] at hrj; cases hrj
      exact hy env σ _ (fun _ _ => rfl) (.inr (Ext.refl σ)) H
    · obtain ⟨hjun, oj, hoj, hall⟩ := mem_ready.1 hj
      have hnot : ∀ e ∈ oj.after, Region.binds .any e = true → e.on ≠ i := fun e he hb heq => by
        have h1 := hall e he hb
        have h0 := (mem_ready.1 hr).1
        rw [heq] at h1
        rcases Nat.lt_or_ge i listed.size with h' | h'
        · simp [h'] at h0 h1; rw [h0] at h1; cases h1
        · simp [Array.getElem?_eq_none h'] at h1
      obtain ⟨hap, hcl⟩ := hfree j oj r hoj hrj hji hjun hnot
      simp only [apartR, Bool.and_eq_true] at hap
      obtain ⟨⟨a1, a2⟩, a3⟩ := hap
      have h1 := H.2 j (ready_mono hj hji) r hrj
      have h2 : rowV P r env σ fun v σ' => AAny P ops rows K n ((listed.setIfInBounds i true).setIfInBounds j true) (putE (putE env ri.dst x) r.dst v) σ' := by
        refine rowV_congr (env := putE env ri.dst x) (fun p hp => ?_) h1
        exact (agree_put (v := x) a1 p hp).symm
      have h3 : rowV P r env σ fun v σ' => AAny P ops rows K n ((listed.setIfInBounds i true).setIfInBounds j true) (putE (putE env ri.dst x) r.dst v) σ' ∧ (ri.op.cls = 0 ∨ Ext σ σ') := by
        rcases hcl with hcl | hcl
        · exact rowV_mono h2 fun v σ' q => ⟨q, .inl hcl⟩
        · exact rowV_mono (rowV_quiet hcl h2) fun v σ' q => ⟨q.1, .inr q.2⟩
      refine rowV_mono h3 fun v σ' q => ?_
      refine ih (listed.setIfInBounds j true) (putE env r.dst v) σ' x ?_ (ready_mono hr (Ne.symm hji)) ?_ ?_
      · intro k ok rk hk hrk hki hun hno
        refine hfree k ok rk hk hrk hki ?_ hno
        by_cases hjk : j = k
        · subst hjk; exact hjun
        · rw [getD_set_ne true hjk] at hun; exact hun
      · intro env' σ2 K' hag he hk
        refine hy env' σ2 K' (fun p hp => ?_) ?_ hk
        · rw [hag p hp]; exact agree_put (v := v) a2 p hp
        · rcases q.2 with h | h
          · exact .inl h
          · rcases he with he | he
            · exact .inl he
            · exact .inr (h.trans he)
      · have := q.1
        rw [Array.setIfInBounds_comm _ _ hji, putE_comm env v x (by
          cases hd : ri.dst <;> cases he : r.dst <;> (rw [hd, he] at a3; first | rfl | (simp only [dstNe, Bool.not_eq_true'] at a3 ⊢; rw [← a3]; rename_i p q; cases hx : Pth.beq q p with
            | true => have := Pth.beq_eq.1 hx; subst this; rw [Pth.beq_eq.2 rfl]
            | false => cases hy2 : Pth.beq p q with
              | true => have := Pth.beq_eq.1 hy2; subst this; rw [Pth.beq_eq.2 rfl] at hx; cases hx
              | false => rfl)))]
        exact this

theorem firstB_spec {listed : Array Bool} {i : Nat} {ri : IRow} (hri : rows[i]? = some ri) (h : firstB ops rows listed i = true) : ri.op.cls ≤ 1 ∧ Free ops rows listed i ri := by
  unfold firstB at h
  rw [hri] at h
  simp only [Bool.and_eq_true] at h
  refine ⟨Nat.le_of_ble_eq_true h.1, fun j oj rj hj hrj hji hun hno => ?_⟩
  have hlt : j < ops.size := (Array.getElem?_eq_some_iff.1 hj).1
  have := List.all_eq_true.1 h.2 j (List.mem_range.2 hlt)
  simp only [hj, hrj, Bool.or_eq_true, Bool.and_eq_true] at this
  rcases this with ((this | this) | this) | this
  · exact absurd (Nat.eq_of_beq_eq_true this) hji
  · rw [hun] at this; cases this
  · obtain ⟨k, hk, hb⟩ := Array.any_eq_true.1 this
    simp only [Bool.and_eq_true] at hb
    exact absurd (Nat.eq_of_beq_eq_true hb.2) (hno _ (Array.getElem_mem hk) hb.1)
  · refine ⟨this.1, ?_⟩
    rcases this.2 with h | h
    · exact .inl (Nat.eq_of_beq_eq_true h)
    · exact .inr (Nat.le_of_ble_eq_true h)

theorem bothL_mem : ∀ {l : List (Option RT)} {t : RT} {env : Env} {σ : AHeap}, bothL l = some t → evRT P t env σ K → ∀ x ∈ l, ∃ u, x = some u ∧ evRT P u env σ K
  | [], t, _, _, h, _, x, hx => by cases h
  | [y], t, env, σ, h, hk, x, hx => by
    simp only [bothL] at h
    rw [List.mem_singleton] at hx; subst hx
    exact ⟨t, h, hk⟩
  | y :: z :: l, t, env, σ, h, hk, x, hx => by
    simp only [bothL] at h
    obtain ⟨a, ha, h⟩ := optbind h
    obtain ⟨b, hb, rfl⟩ := optmap h
    simp only [evRT] at hk
    rcases List.mem_cons.1 hx with rfl | hx
    · exact ⟨a, ha, hk.1⟩
    · exact bothL_mem hb hk.2 x hx

theorem any_of_lin : ∀ (n : Nat) (listed : Array Bool) (t : RT), lin ops rows n listed = some t → ∀ (env : Env) (σ : AHeap), evRT P t env σ K → AAny P ops rows K n listed env σ := by
  intro n
  induction n with
  | zero =>
    intro listed t h env σ hk
    simp only [lin] at h
    obtain ⟨h1, h⟩ := bifsome h
    cases h
    exact ⟨by simpa using h1, hk⟩
  | succ n ih =>
    intro listed t h env σ hk
    simp only [lin] at h
    split at h
    · rename_i he
      cases h
      exact ⟨fun _ => hk, fun i hi => by rw [he] at hi; cases hi⟩
    · rename_i hne
      split at h
      · rename_i i hfind
        split at h
        · rename_i r hr
          obtain ⟨u, hu, rfl⟩ := optmap h
          simp only [evRT] at hk
          have hmem : i ∈ Region.ready .any ops listed := List.mem_of_find?_eq_some hfind
          have hfb : firstB ops rows listed i = true := List.find?_some hfind
          obtain ⟨hc, hfree⟩ := firstB_spec hr hfb
          have hk' := rowP_rowV.1 (evRow_rowP hk)
          obtain ⟨x, hx, hy⟩ := rowV_det hc hk'
          exact any_first hr n listed env σ x hfree hmem hy (ih _ u hu _ _ hx)
        · cases h
      · refine ⟨fun he => absurd he hne, fun i hi r hr => ?_⟩
        obtain ⟨u, hu, hk2⟩ := bothL_mem h hk _ (List.mem_map.2 ⟨i, hi, rfl⟩)
        rw [hr] at hu
        simp only at hu
        obtain ⟨v, hv, rfl⟩ := optmap hu
        simp only [evRT] at hk2
        exact rowV_mono (rowP_rowV.1 (evRow_rowP hk2)) fun x σ' q => ih _ v hv _ _ q

theorem compRows_get : ∀ {os : List Oper} {rows : List IRow}, compRows P C ops os = some rows → ∀ (i : Nat) (o : Oper), os[i]? = some o → ∃ r, rows[i]? = some r ∧ compRow P C ops o = some r
  | [], rows, h, i, o, ho => by simp at ho
  | p :: os, rows, h, i, o, ho => by
    simp only [compRows] at h
    obtain ⟨r, h1, h⟩ := optbind h
    obtain ⟨rs, h2, rfl⟩ := optmap h
    cases i with
    | zero => simp at ho; subst ho; exact ⟨r, by simp, h1⟩
    | succ i => simp at ho; obtain ⟨r', h3, h4⟩ := compRows_get h2 i o ho; exact ⟨r', by simpa using h3, h4⟩

theorem any_sound (hrows : compRows P C ops ops.toList = some rows) {Q : Exit → Act → World → Prop} : ∀ (n : Nat) (listed : Array Bool) (env : Env) (σ : AHeap) (κ : Ghost) (a : Act) (w : World), St κ C.n σ env a w → AAny P ops rows K n listed env σ →
    (∀ κ' σ' env' a' w', κ.le κ' → St κ' C.n σ' env' a' w' → K env' σ' → Q .normal a' w') → wpAny P .any ops Q n listed a w := by
  intro n
  induction n with
  | zero => intro listed env σ κ a w hS h hQ; exact ⟨h.1, hQ κ σ env a w (Ghost.le.refl κ) hS h.2⟩
  | succ n ih =>
    intro listed env σ κ a w hS h hQ
    refine ⟨fun he => hQ κ σ env a w (Ghost.le.refl κ) hS (h.1 he), fun i hi => ?_⟩
    obtain ⟨_, o, ho, _⟩ := mem_ready.1 hi
    obtain ⟨r, hr, hcr⟩ := compRows_get hrows i o (by simpa using ho)
    exact row_sound ho hcr hS (rowP_rowV.2 (h.2 i hi r hr)) fun κ' σ' env' a' w' q1 q2 q3 =>
      ih _ _ _ _ _ _ q2 q3 fun κ2 σ2 env2 a2 w2 p1 p2 p3 => hQ κ2 σ2 env2 a2 w2 (q1.trans p1) p2 p3
end
end Go.Am

