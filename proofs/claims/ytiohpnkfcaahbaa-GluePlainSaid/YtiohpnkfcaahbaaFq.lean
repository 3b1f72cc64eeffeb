/-
  Operations: what they look at; which give the same at any later time.
-/
import Derived.Test.YtiohpnkfcaahbaaFp
namespace Go.Am
set_option linter.unusedVariables false
set_option linter.unusedSimpArgs false
set_option linter.unusedSectionVars false
open Go.RowKit (Below)

theorem fillK_eq (env : Env) : ∀ (ps : List (Nat × Nat × Opd)) (zs : List AVal) (k : List AVal → Prop) (env' : Env), (∀ x ∈ ps.map (·.2.2), x.get env = x.get env') → fillK env ps zs k = fillK env' ps zs k
  | [], zs, k, env', _ => rfl
  | (off, n, x) :: ps, zs, k, env', h => by
    have hx := h x (by simp)
    have ht : ∀ l, fillK env ps l k = fillK env' ps l k := fun l => fillK_eq env ps l k env' fun y hy => h y (by simp only [List.map_cons, List.mem_cons]; exact .inr hy)
    simp only [fillK, hx, ht]

theorem ev_congr {P : Program} {op : IOp} {env env' : Env} (h : ∀ x ∈ op.opds, x.get env = x.get env') (σ : AHeap) (K : AVal → AHeap → Prop) : op.ev P env σ K = op.ev P env' σ K := by
  have mp : ∀ {xs : List Opd}, (∀ x ∈ xs, x.get env = x.get env') → xs.map (Opd.get env) = xs.map (Opd.get env') := fun h => List.map_congr_left h
  cases op <;> simp only [IOp.opds, List.mem_cons, List.not_mem_nil, or_false, forall_eq_or_imp, forall_eq, List.mem_append] at h <;> simp only [IOp.ev, Opd.getK_eq, getLK_eq]
  case mv => rw [h]
  case pick => obtain ⟨h1, h2, h3⟩ := h; rw [h1, h2, h3]
  case bin => rw [h.1, h.2]
  case eqNil => rw [h]
  case eqAgg => rw [h.1, h.2]
  case not => rw [h]
  case conv => rw [h]
  case b2s => rw [h]
  case s2b => rw [h]
  case box => rw [h]
  case build zero ps => exact fillK_eq env ps zero _ env' h
  case row => rw [mp h]
  case rowT => rw [mp h]
  case mark => rw [h]
  case load => rw [h]
  case store => rw [h.1, h.2]
  case nilchk => rw [h]
  case faddr => rw [h]
  case field => rw [h]
  case iaddr => rw [h.1, h.2]
  case iaddrA => rw [h.1, h.2]
  case index => rw [h.1, h.2]
  case cut s x lo hi mx =>
    obtain ⟨h1, h2⟩ := h
    have hb : ∀ (y : Option Opd), (∀ x ∈ optL y, x.get env = x.get env') → ∀ d k, intOr env y d k = intOr env' y d k := by
      intro y hy d k
      cases y with
      | none => rfl
      | some y => simp only [intOr]; rw [hy y (by simp [optL])]
    have e1 := hb lo fun x hx => h2 x (.inl (.inl hx))
    have e2 := hb hi fun x hx => h2 x (.inl (.inr hx))
    have e3 := hb mx fun x hx => h2 x (.inr hx)
    simp only [h1, e1, e2, e3]
  case mk => rw [h.1, h.2]
  case look => rw [h.1, h.2]
  case mset => rw [h.1, h.2.1, h.2.2]
  case mdel => rw [h.1, h.2]
  case fn => rw [mp fun x hx => h x (.inl hx), mp fun x hx => h x (.inr hx)]
  case ext => rw [h]
  case call => rw [mp h]
  case callq => rw [mp h]
  case callv => rw [h.1, mp h.2]
  case app => rw [h.1, h.2]
  case appm => rw [h.1, h.2]
  case app0 => rw [h.1, h.2]
  case len => rw [h]
  case mxmn => rw [h.1, h.2]

/-- A value that comes, whatever is asked of it. -/
def Det (F : (AVal → AHeap → Prop) → Prop) (K : AVal → AHeap → Prop) (σ : AHeap) (G : AHeap → (AVal → AHeap → Prop) → Prop) (c : AHeap → Prop) : Prop :=
  F K → ∃ x, K x σ ∧ ∀ σ' K', c σ' → K' x σ' → G σ' K'

theorem binE_det {tb : Bool} {op : BinOp} {x y : Value} {K : Value → Prop} (h : binE tb op x y K) : ∃ r, K r ∧ ∀ K' : Value → Prop, K' r → binE tb op x y K' := by
  unfold binE at h ⊢
  split at h
  · rename_i k a k' b
    cases op
    case shl => simp only [AShl_def] at h ⊢; exact ⟨_, h.2, fun K' hk => ⟨h.1, hk⟩⟩
    case shr => simp only [AShr_def] at h ⊢; exact ⟨_, h.2, fun K' hk => ⟨h.1, hk⟩⟩
    all_goals
      obtain ⟨hk, hh⟩ := bifTrue h
      clear h
      simp only [hk, cond_true]
      first
        | (simp only [AFit_def] at hh ⊢; exact ⟨_, hh, fun K' k => k⟩)
        | (simp only [ADiv_def] at hh ⊢; exact ⟨_, hh.2, fun K' k => ⟨hh.1, k⟩⟩)
        | (simp only [ARem_def] at hh ⊢; exact ⟨_, hh.2, fun K' k => ⟨hh.1, k⟩⟩)
        | (simp only [ABits_def] at hh ⊢; exact ⟨_, hh, fun K' k => k⟩)
        | exact ⟨_, hh, fun K' k => k⟩
  · cases tb <;> cases op <;> first | exact h.elim | exact ⟨_, h, fun K' k => k⟩
  · cases op <;> first | exact h.elim | exact ⟨_, h, fun K' k => k⟩
  · exact h.elim

theorem eqCells_det : ∀ {ks : List Bool} {xs ys : List AVal} {K : Bool → Prop}, eqCells ks xs ys K → ∃ r, K r ∧ ∀ K' : Bool → Prop, K' r → eqCells ks xs ys K' := by
  intro ks
  induction ks with
  | nil => intro xs ys K h; cases xs <;> cases ys <;> simp only [eqCells] at h <;> first | exact h.elim | exact ⟨true, h, fun K' k => by simpa only [eqCells] using k⟩
  | cons x ks ih =>
    intro xs ys K h
    unfold eqCells at h
    split at h
    · exact absurd ‹_ :: _ = []› (by simp)
    · rename_i k a xs' k' b ys' he
      cases he
      obtain ⟨hk, hh⟩ := bifTrue h
      obtain ⟨r, h1, h2⟩ := ih hh
      exact ⟨_, h1, fun K' k => by simp only [eqCells, hk, cond_true]; exact h2 _ k⟩
    · rename_i a xs' b ys' he
      cases he
      obtain ⟨r, h1, h2⟩ := ih h
      exact ⟨_, h1, fun K' k => by simp only [eqCells]; exact h2 _ k⟩
    · exact h.elim

theorem putK_det {zs : List AVal} {off : Nat} {xs : List AVal} {k : List AVal → Prop} (h : putK zs off xs k) : ∃ l, k l ∧ ∀ k' : List AVal → Prop, k' l → putK zs off xs k' := by
  induction zs generalizing off xs k with
  | nil => cases off <;> cases xs <;> simp only [putK] at h <;> first | exact h.elim | exact ⟨_, h, fun k' e => by simpa only [putK] using e⟩
  | cons z zs ih =>
    cases off with
    | zero => cases xs with
      | nil => simp only [putK] at h; exact ⟨_, h, fun k' e => by simpa only [putK] using e⟩
      | cons x xs => simp only [putK] at h; obtain ⟨l, h1, h2⟩ := ih h; exact ⟨_, h1, fun k' e => by simp only [putK]; exact h2 _ e⟩
    | succ n =>
      have h' : putK zs n xs fun l => k (z :: l) := by cases xs <;> simpa only [putK] using h
      obtain ⟨l, h1, h2⟩ := ih h'
      exact ⟨_, h1, fun k' e => by cases xs <;> (simp only [putK]; exact h2 _ e)⟩

theorem fillK_det {env : Env} : ∀ {ps : List (Nat × Nat × Opd)} {zs : List AVal} {k : List AVal → Prop}, fillK env ps zs k → ∃ l, k l ∧ ∀ k' : List AVal → Prop, k' l → fillK env ps zs k'
  | [], zs, k, h => ⟨zs, h, fun _ e => e⟩
  | (off, n, x) :: ps, zs, k, h => by
    simp only [fillK] at h ⊢
    split at h
    · obtain ⟨hb, hh⟩ := bifTrue h
      obtain ⟨l, h1, h2⟩ := putK_det hh
      obtain ⟨m, h3, h4⟩ := fillK_det h1
      exact ⟨m, h3, fun k' e => by simp only [hb, cond_true]; exact h2 _ (h4 _ e)⟩
    · obtain ⟨hb, hh⟩ := bifTrue h
      obtain ⟨l, h1, h2⟩ := putK_det hh
      obtain ⟨m, h3, h4⟩ := fillK_det h1
      exact ⟨m, h3, fun k' e => by simp only [hb, cond_true]; exact h2 _ (h4 _ e)⟩

theorem lgetK_det : ∀ {l : List AVal} {j : Nat} {k : AVal → Prop}, lgetK l j k → ∃ y, k y ∧ ∀ k' : AVal → Prop, k' y → lgetK l j k'
  | [], _, _, h => h.elim
  | x :: l, 0, k, h => ⟨x, h, fun _ e => e⟩
  | x :: l, j + 1, k, h => by obtain ⟨y, h1, h2⟩ := lgetK_det (l := l) (j := j) h; exact ⟨y, h1, h2⟩

theorem cellsAt_det {cs : List AVal} {off : Nat} {g : Option Nat} {k : AVal → Prop} (h : cellsAt cs off g k) : ∃ y, k y ∧ ∀ k' : AVal → Prop, k' y → cellsAt cs off g k' := by
  cases g with
  | none => obtain ⟨x, h1, h2⟩ := h; exact ⟨x, h2, fun k' e => ⟨x, h1, e⟩⟩
  | some n => exact ⟨_, h.2, fun k' e => ⟨h.1, e⟩⟩

theorem intOr_det {env : Env} {x : Option Opd} {d : Int} {k : Int → Prop} (h : intOr env x d k) : ∃ m, k m ∧ ∀ k' : Int → Prop, k' m → intOr env x d k' := by
  cases x with
  | none => exact ⟨d, h, fun _ e => e⟩
  | some x =>
    simp only [intOr] at h ⊢
    split at h
    · exact ⟨_, h, fun _ e => e⟩
    · exact h.elim

theorem ev_det {P : Program} {op : IOp} {env : Env} {σ : AHeap} {K : AVal → AHeap → Prop} (hc : op.cls ≤ 1) (h : op.ev P env σ K) :
    ∃ x, K x σ ∧ ∀ σ' K', (op.cls = 0 ∨ Ext σ σ') → K' x σ' → op.ev P env σ' K' := by
  cases op <;> simp only [IOp.cls] at hc <;> (try omega) <;> simp only [IOp.ev, Opd.getK_eq, getLK_eq] at h ⊢
  case mv => exact ⟨_, h, fun _ _ _ k => k⟩
  case pick =>
    split at h
    · rename_i t he
      simp only [ABr_def] at h ⊢
      cases t
      · exact ⟨_, h, fun _ _ _ k => k⟩
      · exact ⟨_, h, fun _ _ _ k => k⟩
    · exact h.elim
  case bin =>
    split at h
    · obtain ⟨r, h1, h2⟩ := binE_det h; exact ⟨_, h1, fun _ _ _ k => h2 _ k⟩
    · exact h.elim
  case eqAgg =>
    split at h
    · obtain ⟨r, h1, h2⟩ := eqCells_det h; exact ⟨_, h1, fun _ _ _ k => h2 _ k⟩
    · exact h.elim
  case not => split at h <;> first | exact h.elim | exact ⟨_, h, fun _ _ _ k => k⟩
  case conv => split at h <;> first | exact h.elim | (simp only [AFit_def] at h ⊢; exact ⟨_, h, fun _ _ _ k => k⟩)
  case b2s =>
    split at h
    · obtain ⟨hb, hh⟩ := bifTrue h
      simp only [AStr_def] at hh ⊢
      obtain ⟨bs, h1, h2⟩ := hh
      exact ⟨_, h2, fun _ _ _ k => by rw [hb]; exact ⟨bs, h1, k⟩⟩
    · exact h.elim
  case s2b => split at h <;> first | exact h.elim | exact ⟨_, h, fun _ _ _ k => k⟩
  case build => obtain ⟨l, h1, h2⟩ := fillK_det h; exact ⟨_, h1, fun _ _ _ k => h2 _ k⟩
  case row =>
    obtain ⟨hb, hh⟩ := bifTrue h
    exact ⟨_, hh, fun _ _ _ k => by rw [hb]; exact k⟩
  case load =>
    split at h
    · simp only [ALoad_def] at h ⊢
      obtain ⟨cs, h1, h2⟩ := h
      obtain ⟨y, h3, h4⟩ := cellsAt_det h2
      refine ⟨y, h3, fun σ' K' hx k => ⟨cs, ?_, h4 _ k⟩⟩
      rcases hx with hx | hx
      · simp [IOp.cls] at hx
      · exact hx _ _ rfl h1
    · simp only [ACell_def] at h ⊢
      obtain ⟨y, h3, h4⟩ := cellsAt_det h
      exact ⟨y, h3, fun _ _ _ k => h4 _ k⟩
    · exact h.elim
  case nilchk => split at h <;> first | exact h.elim | exact ⟨_, h, fun _ _ _ k => k⟩
  case faddr => split at h <;> first | exact h.elim | exact ⟨_, h, fun _ _ _ k => k⟩
  case field =>
    split at h
    · simp only [ACell_def] at h ⊢
      obtain ⟨y, h3, h4⟩ := cellsAt_det h
      exact ⟨y, h3, fun _ _ _ k => h4 _ k⟩
    · exact h.elim
  case iaddr =>
    split at h
    · obtain ⟨hb, hh⟩ := bifTrue h
      simp only [AGet_def] at hh ⊢
      obtain ⟨y, h1, h2, h3⟩ := hh
      exact ⟨_, h3, fun _ _ _ k => by rw [hb]; exact ⟨y, h1, h2, k⟩⟩
    · obtain ⟨hb, hh⟩ := bifTrue h
      simp only [AIdx_def] at hh ⊢
      obtain ⟨h1, h2, h3⟩ := hh
      exact ⟨_, h3, fun _ _ _ k => by rw [hb]; exact ⟨h1, h2, k⟩⟩
    · exact h.elim
  case iaddrA =>
    split at h
    · simp only [AIdx_def] at h ⊢
      obtain ⟨h1, h2, h3⟩ := h
      exact ⟨_, h3, fun _ _ _ k => ⟨h1, h2, k⟩⟩
    · simp only [AIdx_def] at h ⊢
      obtain ⟨h1, h2, h3⟩ := h
      exact ⟨_, h3, fun _ _ _ k => ⟨h1, h2, k⟩⟩
    · exact h.elim
  case index =>
    split at h
    · simp only [AIdx_def, ACell_def] at h ⊢
      obtain ⟨h1, h2, h3⟩ := h
      obtain ⟨y, h4, h5⟩ := cellsAt_det h3
      exact ⟨y, h4, fun _ _ _ k => ⟨h1, h2, h5 _ k⟩⟩
    · exact h.elim
  case cut s x lo hi mx =>
    split at h
    · obtain ⟨hb, hh⟩ := bifTrue h
      obtain ⟨l, h1, e1⟩ := intOr_det hh
      obtain ⟨m, h2, e2⟩ := intOr_det h1
      simp only [ACut_def] at h2 e1 e2 ⊢
      obtain ⟨q0, q1, q2, h3⟩ := h2
      cases mx with
      | none => exact ⟨_, h3, fun _ _ _ k => by rw [hb, cond_true]; apply e1; apply e2; exact ⟨q0, q1, q2, k⟩⟩
      | some mo =>
        obtain ⟨z, h4, e3⟩ := intOr_det h3
        exact ⟨_, h4.2.2, fun _ _ _ k => by rw [hb, cond_true]; apply e1; apply e2; refine ⟨q0, q1, q2, ?_⟩; apply e3; exact ⟨h4.1, h4.2.1, k⟩⟩
    · obtain ⟨hb, hh⟩ := bifTrue h
      obtain ⟨l, h1, e1⟩ := intOr_det hh
      obtain ⟨m, h2, e2⟩ := intOr_det h1
      simp only [ACut_def] at h2 e1 e2 ⊢
      obtain ⟨q0, q1, q2, h3⟩ := h2
      cases mx with
      | none => exact ⟨_, h3.2, fun _ _ _ k => by rw [hb, cond_true]; apply e1; apply e2; exact ⟨q0, q1, q2, h3.1, k⟩⟩
      | some mo => exact h3.elim
    · exact h.elim
  case mk =>
    split at h
    · simp only [AMk_def] at h ⊢
      obtain ⟨h0, h1, h2, h3, h4⟩ := h
      exact ⟨_, h4, fun _ _ _ k => ⟨h0, h1, h2, h3, k⟩⟩
    · exact h.elim
  case look =>
    split at h
    · simp only [ALook_def] at h ⊢
      obtain ⟨es, h1, h2⟩ := h
      refine ⟨_, h2, fun σ' K' hx k => ⟨es, ?_, k⟩⟩
      rcases hx with hx | hx
      · simp [IOp.cls] at hx
      · exact hx _ _ rfl h1
    · exact ⟨_, h, fun _ _ _ k => k⟩
    · exact h.elim
  case fn => exact ⟨_, h, fun _ _ _ k => k⟩
  case ext =>
    split at h
    · obtain ⟨y, h1, h2⟩ := lgetK_det h; exact ⟨y, h1, fun _ _ _ k => h2 _ k⟩
    · exact h.elim
  case len => split at h <;> first | exact h.elim | exact ⟨_, h, fun _ _ _ k => k⟩
  case mxmn =>
    split at h
    · obtain ⟨hb, hh⟩ := bifTrue h
      simp only [AMx_def] at hh ⊢
      exact ⟨_, hh, fun _ _ _ k => by rw [hb]; exact k⟩
    · exact h.elim
end Go.Am

