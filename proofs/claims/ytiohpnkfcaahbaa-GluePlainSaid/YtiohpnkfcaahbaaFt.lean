/-
  Bodies: what a body comes to ('evC'), loops, jumps, calls.
-/
import Derived.Test.YtiohpnkfcaahbaaFs
namespace Go.Am
set_option linter.unusedVariables false
set_option linter.unusedSimpArgs false
set_option linter.unusedSectionVars false
open Go.RowKit (Below)

def seqQ (K : Env → AHeap → Prop) (Q : Exit → Env → AHeap → Prop) : Exit → Env → AHeap → Prop
  | .normal, env, σ => K env σ
  | e, env, σ => Q e env σ

def blockQ (id : Nat) (Q : Exit → Env → AHeap → Prop) : Exit → Env → AHeap → Prop
  | .exit i, env, σ => bif Nat.beq i id then Q .normal env σ else Q (.exit i) env σ
  | e, env, σ => Q e env σ

def noGotoQ (Q : Exit → Env → AHeap → Prop) : Exit → Env → AHeap → Prop
  | .goto _, _, _ => False
  | e, env, σ => Q e env σ

def jumpQ (J : Nat → Env → AHeap → Prop) (Q : Exit → Env → AHeap → Prop) : Exit → Env → AHeap → Prop
  | .goto l, env, σ => J l env σ
  | e, env, σ => Q e env σ

/-- What a body's run must come to, from any state that the abstract one stands for. -/
def AWp (P : Program) (C : Cfg) (ic : ICode) (env : Env) (σ : AHeap) (Q : Exit → Env → AHeap → Prop) : Prop :=
  ∀ c, compC P C c = some ic → ∀ κ a w, St κ C.n σ env a w → c.wp P (Lift κ C.n Q) a w

structure ALoop (P : Program) (C : Cfg) (b : ICode) (env : Env) (σ : AHeap) (Q : Exit → Env → AHeap → Prop) : Prop where of ::
  out : AWp P C (.loop b) env σ Q
theorem ALoop_def (P : Program) (C : Cfg) (b : ICode) (env : Env) (σ : AHeap) (Q : Exit → Env → AHeap → Prop) : ALoop P C b env σ Q = (AWp P C (.loop b) env σ Q) := propext ⟨fun h => h.out, fun h => ⟨h⟩⟩
structure AScope (P : Program) (C : Cfg) (b : ICode) (env : Env) (σ : AHeap) (Q : Exit → Env → AHeap → Prop) : Prop where of ::
  out : AWp P C (.scope b) env σ Q
theorem AScope_def (P : Program) (C : Cfg) (b : ICode) (env : Env) (σ : AHeap) (Q : Exit → Env → AHeap → Prop) : AScope P C b env σ Q = (AWp P C (.scope b) env σ Q) := propext ⟨fun h => h.out, fun h => ⟨h⟩⟩

/-- A label is reached from above. -/
structure ALabel (P : Program) (C : Cfg) (l : Nat) (b : ICode) (env : Env) (σ : AHeap) (Q : Exit → Env → AHeap → Prop) : Prop where of ::
  out : AWp P C b env σ Q

def ICode.jumps : ICode → Bool
  | .goto _ => true
  | .seq a b | .cond _ a b => a.jumps || b.jumps
  | .block _ b | .loop b | .scope b => b.jumps
  | _ => false

def setOpd (env : Env) (c : Opd) (v : AVal) (k : Env → Prop) : Prop :=
  match c with
  | .t p => env.setK p v k
  | .c _ => k env

def condK (env : Env) (c : Opd) (x : AVal) (yes no : Env → Prop) : Prop :=
  match x with
  | .v (.bool b) => ABr b fun b => setOpd env c (.v (.bool b)) fun env => match b with
    | true => yes env
    | false => no env
  | _ => False

def evC (P : Program) (C : Cfg) : ICode → Env → AHeap → (Exit → Env → AHeap → Prop) → Prop
  | .skip, env, σ, Q => Q .normal env σ
  | .reg t, env, σ, Q => evRT P t env σ fun env σ => Q .normal env σ
  | .seq a b, env, σ, Q => match a with
    | .label l => ALabel P C l b env σ Q
    | _ => evC P C a env σ (seqQ (fun env σ => evC P C b env σ Q) Q)
  | .cond c x y, env, σ, Q => condK env c (c.get env) (fun env => evC P C x env σ Q) (fun env => evC P C y env σ Q)
  | .block id b, env, σ, Q => evC P C b env σ (blockQ id Q)
  | .loop b, env, σ, Q => ALoop P C b env σ Q
  | .exit id, env, σ, Q => Q (.exit id) env σ
  | .scope b, env, σ, Q => bif b.jumps then AScope P C b env σ Q else evC P C b env σ (noGotoQ Q)
  | .label _, env, σ, Q => Q .normal env σ
  | .goto l, env, σ, Q => Q (.goto l) env σ
  | .ret, env, σ, Q => Q .ret env σ

section
variable {P : Program} {C : Cfg} {Q : Exit → Env → AHeap → Prop}

theorem Lift.intro {κ : Ghost} {n : Nat} {e : Exit} {a : Act} {w : World} {env : Env} {σ : AHeap} (h : St κ n σ env a w) (k : Q e env σ) : Lift κ n Q e a w := ⟨κ, env, σ, Ghost.le.refl κ, h, k⟩

theorem setOpd_eq {env : Env} {c : Opd} {k : Env → Prop} : setOpd env c (c.get env) k = k env := by
  cases c with
  | t p => simp only [setOpd, Opd.get, Env.setK_eq]; rw [env.set_get]
  | c x => rfl

/-- What code it was. -/
def CInv (P : Program) (C : Cfg) (c : Code) : ICode → Prop
  | .skip => c = .skip
  | .reg t => (∃ id ops rows, c = .region id ops false ∧ compRows P C ops ops.toList = some rows ∧ t = rowsRT rows) ∨
      (∃ id ops rows, c = .region id ops true ∧ P.follows .mixedOrders = true ∧ compRows P C ops ops.toList = some rows ∧ lin ops rows ops.size (Array.replicate ops.size false) = some t)
  | .seq a b => ∃ x y, c = .seq x y ∧ compC P C x = some a ∧ compC P C y = some b
  | .cond o a b => ∃ o' x y, c = .cond o' x y ∧ opT P 0 o' = some o ∧ compC P C x = some a ∧ compC P C y = some b
  | .block id b => ∃ x, c = .block id x ∧ compC P C x = some b
  | .loop b => ∃ x, c = .loop x ∧ compC P C x = some b
  | .exit id => c = .exit id
  | .scope b => ∃ x, c = .scope x ∧ compC P C x = some b
  | .label l => c = .label l
  | .goto l => c = .goto l
  | .ret => c = .ret

theorem compC_inv {c : Code} {ic : ICode} (hc : compC P C c = some ic) : CInv P C c ic := by
  cases c with
  | skip => simp only [compC, Option.some.injEq] at hc; subst hc; rfl
  | region id ops d =>
    cases d <;> simp only [compC] at hc
    · obtain ⟨rows, h1, rfl⟩ := optmap hc; exact .inl ⟨id, ops, rows, rfl, h1, rfl⟩
    · obtain ⟨h0, hc⟩ := bifsome hc; obtain ⟨rows, h1, hc⟩ := optbind hc; obtain ⟨t, h2, rfl⟩ := optmap hc; exact .inr ⟨id, ops, rows, rfl, h0, h1, h2⟩
  | seq x y => simp only [compC] at hc; obtain ⟨a, h1, hc⟩ := optbind hc; obtain ⟨b, h2, rfl⟩ := optmap hc; exact ⟨x, y, rfl, h1, h2⟩
  | cond o x y => simp only [compC] at hc; obtain ⟨o', h0, hc⟩ := optbind hc; obtain ⟨a, h1, hc⟩ := optbind hc; obtain ⟨b, h2, rfl⟩ := optmap hc; exact ⟨o, x, y, rfl, h0, h1, h2⟩
  | block id x => simp only [compC] at hc; obtain ⟨b, h1, rfl⟩ := optmap hc; exact ⟨x, rfl, h1⟩
  | loop x => simp only [compC] at hc; obtain ⟨b, h1, rfl⟩ := optmap hc; exact ⟨x, rfl, h1⟩
  | scope x => simp only [compC] at hc; obtain ⟨b, h1, rfl⟩ := optmap hc; exact ⟨x, rfl, h1⟩
  | exit id => simp only [compC, Option.some.injEq] at hc; subst hc; rfl
  | label l => simp only [compC, Option.some.injEq] at hc; subst hc; rfl
  | goto l => simp only [compC, Option.some.injEq] at hc; subst hc; rfl
  | ret => simp only [compC, Option.some.injEq] at hc; subst hc; rfl
  | _ => simp [compC] at hc

theorem evC_sound : ∀ (ic : ICode) (Q : Exit → Env → AHeap → Prop) (env : Env) (σ : AHeap), evC P C ic env σ Q → AWp P C ic env σ Q := by
  intro ic
  induction ic with
  | skip => intro Q env σ h c hc κ a w hS; obtain rfl := compC_inv hc; exact wp_skip (Lift.intro hS h)
  | exit id => intro Q env σ h c hc κ a w hS; obtain rfl := compC_inv hc; exact wp_exit (Lift.intro hS h)
  | label l => intro Q env σ h c hc κ a w hS; obtain rfl := compC_inv hc; exact wp_label (Lift.intro hS h)
  | goto l => intro Q env σ h c hc κ a w hS; obtain rfl := compC_inv hc; exact wp_goto (Lift.intro hS h)
  | ret => intro Q env σ h c hc κ a w hS; obtain rfl := compC_inv hc; exact wp_ret (Lift.intro hS h)
  | loop b _ => intro Q env σ h; simp only [evC, ALoop_def] at h; exact h
  | reg t =>
    intro Q env σ h c hc κ a w hS
    simp only [evC] at h
    rcases compC_inv hc with ⟨id, ops, rows, rfl, h1, rfl⟩ | ⟨id, ops, rows, rfl, hm, h1, h2⟩
    · refine wp_region ?_
      have := rows_sound (Q := Lift κ C.n Q) (K := fun env σ => Q .normal env σ) ops.toList 0 rows (fun j => by simp) h1 (by simp) hS h fun κ' σ' env' a' w' q1 q2 q3 => ⟨κ', env', σ', q1, q2, q3⟩
      simpa [List.range_eq_range'] using this
    · refine wp_region_any hm ?_
      have hS' : St κ C.n σ env a { w with drawn := w.drawn + 1 } := ⟨hS.inv.drew, hS.rep, hS.defers⟩
      exact any_sound h1 (K := fun env σ => Q .normal env σ) ops.size _ env σ κ a _ hS' (any_of_lin _ _ t h2 env σ h) fun κ' σ' env' a' w' q1 q2 q3 => ⟨κ', env', σ', q1, q2, q3⟩
  | seq x y ihx ihy =>
    intro Q env σ h c hc κ a w hS
    obtain ⟨cx, cy, rfl, hx, hy⟩ := compC_inv hc
    have h2 : (∃ l, x = .label l ∧ ALabel P C l y env σ Q) ∨ evC P C x env σ (seqQ (fun env σ => evC P C y env σ Q) Q) := by
      simp only [evC] at h
      split at h
      · exact .inl ⟨_, rfl, h⟩
      · exact .inr h
    rcases h2 with ⟨l, rfl, h⟩ | h
    · obtain rfl := compC_inv hx
      exact wp_seq (wp_label (h.out cy hy κ a w hS))
    refine wp_seq (wp_mono (ihx _ env σ h cx hx κ a w hS) ?_)
    rintro e a' w' ⟨κ', env', σ', q1, q2, q3⟩
    cases e with
    | normal => exact wp_mono (ihy _ env' σ' q3 cy hy κ' a' w' q2) fun e a w k => Lift.le q1 k
    | _ => exact ⟨κ', env', σ', q1, q2, q3⟩
  | cond o x y ihx ihy =>
    intro Q env σ h c hc κ a w hS
    obtain ⟨o', cx, cy, rfl, ho, hx, hy⟩ := compC_inv hc
    have ro := opT_spec hS.rep ho
    simp only [evC, condK] at h
    split at h
    · rename_i b he
      rw [he] at ro
      obtain ⟨hv, _⟩ := ro.v_inv
      rw [ABr_def] at h
      cases b
      · have h2 : setOpd env o (o.get env) (fun env => evC P C y env σ Q) := by rw [he]; exact h
        rw [setOpd_eq] at h2
        exact wp_cond_false hv (ihy _ env σ h2 cy hy κ a w hS)
      · have h2 : setOpd env o (o.get env) (fun env => evC P C x env σ Q) := by rw [he]; exact h
        rw [setOpd_eq] at h2
        exact wp_cond_true hv (ihx _ env σ h2 cx hx κ a w hS)
    · exact h.elim
  | block id x ih =>
    intro Q env σ h c hc κ a w hS
    obtain ⟨cx, rfl, hx⟩ := compC_inv hc
    refine wp_block (wp_mono (ih _ env σ h cx hx κ a w hS) ?_)
    rintro e a' w' ⟨κ', env', σ', q1, q2, q3⟩
    cases e with
    | exit i =>
      simp only [blockQ] at q3
      simp only [Exit.inBlock]
      split
      · rename_i hi; subst hi
        rw [Nat.beq_refl] at q3
        exact ⟨κ', env', σ', q1, q2, q3⟩
      · rename_i hi
        have : Nat.beq i id = false := by
          cases hb : Nat.beq i id with
          | false => rfl
          | true => exact absurd (Nat.eq_of_beq_eq_true hb) hi
        rw [this] at q3
        exact ⟨κ', env', σ', q1, q2, q3⟩
    | _ => exact ⟨κ', env', σ', q1, q2, q3⟩
  | scope x ih =>
    intro Q env σ h
    simp only [evC] at h
    cases hj : x.jumps with
    | true => rw [hj] at h; simp only [cond_true, AScope_def] at h; exact h
    | false =>
      rw [hj] at h
      intro c hc κ a w hS
      obtain ⟨cx, rfl, hx⟩ := compC_inv hc
      refine wp_scope_straight (wp_mono (ih _ env σ h cx hx κ a w hS) ?_)
      rintro e a' w' ⟨κ', env', σ', q1, q2, q3⟩
      cases e with
      | goto l => exact q3.elim
      | _ => exact ⟨κ', env', σ', q1, q2, q3⟩
end
end Go.Am

