/-
  Operands; what an operation's run gives, and how that is what 'ev' says: operations that only reckon.
-/
import Derived.Test.YtiohpnkfcaahbaaFd
import Derived.Laws.Sem
import Derived.Laws.Entries
import Derived.Laws.Cells
import Derived.Laws.Append
import Derived.Laws.BytesString
import Derived.Laws.Small
import Derived.Laws.Slices
import Derived.Laws.IdiomCopy
import Derived.Laws.Pointers
import Derived.Laws.Strings
namespace Go.Am
set_option linter.unusedVariables false
set_option linter.unusedSimpArgs false
set_option linter.unusedSectionVars false
open Go.RowKit (Below)

structure RepE (κ : Ghost) (n : Nat) (env : Env) (tmps : Array Value) : Prop where
  size : tmps.size = n
  get : ∀ p v, tmps[p.num]? = some v → RepV κ (env.get p) v
  out : ∀ p, n ≤ p.num → env.get p = .top

theorem RepE.mono {κ κ' : Ghost} {n : Nat} {env : Env} {tmps : Array Value} (h : RepE κ n env tmps) (hk : κ.le κ') : RepE κ' n env tmps :=
  ⟨h.size, fun p v e => (h.get p v e).mono hk, h.out⟩

theorem RepE.eval {κ : Ghost} {n : Nat} {env : Env} {a : Act} (h : RepE κ n env a.tmps) (t : Nat) : RepV κ (env.get (pth t)) (a.eval (.tmp t)) := by
  simp only [Act.eval]
  by_cases ht : t < a.tmps.size
  · have hn : a.tmps[(pth t).num]? = some (a.tmps.getD t undef) := by rw [num_pth]; simp [ht]
    exact h.get _ _ hn
  · rw [h.out (pth t) (by rw [num_pth]; have := h.size; omega)]; exact .top

theorem RepE.put {κ : Ghost} {n : Nat} {env : Env} {a : Act} (h : RepE κ n env a.tmps) {d : Nat} (hd : d < n) {x : AVal} {v : Value} (hv : RepV κ x v) :
    RepE κ n (env.set (pth d) x) (a.put (some d) v).tmps := by
  refine ⟨by simp [Act.put, h.size], fun p u e => ?_, fun p hp => ?_⟩
  · by_cases hpd : p = pth d
    · subst hpd
      simp only [Act.put, num_pth] at e
      have : u = v := by
        rw [Array.getElem?_setIfInBounds] at e
        simp [h.size, hd] at e; exact e.symm
      subst this
      rcases env.get_set (pth d) x with k | k <;> rw [k]
      · exact hv
      · exact .top
    · rw [env.get_set_ne x hpd]
      have hne : d ≠ p.num := fun e => hpd (Pth.num_inj (by rw [num_pth]; exact e.symm))
      simp only [Act.put] at e
      rw [Array.getElem?_setIfInBounds_ne hne] at e
      exact h.get p u e
  · rw [env.get_set_ne x (fun e => by rw [e, num_pth] at hp; omega)]; exact h.out p hp

theorem valEq_spec {a b : Value} (h : valEq a b = true) : a = b ∧ a.oneCell = true := by
  unfold valEq at h
  split at h <;> first
    | (cases h; done)
    | exact ⟨rfl, rfl⟩
    | (simp at h; subst h; exact ⟨rfl, rfl⟩)
    | (simp at h; obtain ⟨rfl, rfl⟩ := h; exact ⟨rfl, rfl⟩)
    | skip
  · rename_i a b
    have := of_decide_eq_true h
    refine ⟨?_, rfl⟩
    obtain ⟨⟨x⟩⟩ := a; obtain ⟨⟨y⟩⟩ := b
    simp at this; rw [this]

theorem okC_spec {κ : Ghost} {x : AVal} {v : Value} (h : okC x v = true) : RepV κ x v := by
  unfold okC at h
  split at h
  · obtain ⟨rfl, h2⟩ := valEq_spec h; exact .v h2
  · exact .nil
  · cases h

theorem okC_cell {x : AVal} {v : Value} (h : okC x v = true) : x.isCell = true ∧ v.oneCell = true := by
  unfold okC at h
  split at h
  · obtain ⟨rfl, h2⟩ := valEq_spec h; exact ⟨rfl, h2⟩
  · exact ⟨rfl, rfl⟩
  · cases h

theorem okL_spec {κ : Ghost} : ∀ {xs : List AVal} {vs : List Value}, okL xs vs = true → RepL κ xs vs ∧ Ones vs ∧ xs.all AVal.isCell = true
  | [], [], _ => ⟨.nil, (by intro v h; cases h), rfl⟩
  | x :: xs, v :: vs, h => by
    simp only [okL, Bool.and_eq_true] at h
    obtain ⟨h1, h2, h3⟩ := okL_spec (κ := κ) h.2
    refine ⟨.cons (okC_spec h.1) h1, fun u hu => ?_, by simp [(okC_cell h.1).1, h3]⟩
    cases hu with
    | head => exact (okC_cell h.1).2
    | tail _ hm => exact h2 u hm
  | [], _ :: _, h => by cases h
  | _ :: _, [], h => by cases h

theorem cellsT_spec {P : Program} {κ : Ghost} {t : TypeId} {cs : List Value} {l : List AVal} (h : cellsT P t cs = some l) : RepL κ l cs ∧ Ones cs ∧ l.all AVal.isCell = true := by
  unfold cellsT at h
  cases hb : okL (List.zipWith (leafA P) (flatT P 8 t) cs) cs with
  | true => simp only [hb, cond_true, Option.some.injEq] at h; subst h; exact okL_spec hb
  | false => simp [hb] at h

theorem cstT_spec {P : Program} {κ : Ghost} {t : TypeId} {v : Value} {x : AVal} (h : cstT P t v = some x) : RepV κ x v := by
  unfold cstT at h
  split at h
  · rename_i cs
    cases hc : cellsT P t cs.toList with
    | none => simp [hc] at h
    | some l =>
      simp only [hc, Option.map_some, Option.some.injEq] at h; subst h
      exact RepV.agg (κ := κ) (cellsT_spec hc).1
  · cases hb : okC (leafA P t v) v with
    | true => simp only [hb, cond_true, Option.some.injEq] at h; subst h; exact okC_spec hb
    | false => simp [hb] at h

theorem opT_spec {P : Program} {κ : Ghost} {n : Nat} {env : Env} {a : Act} (hE : RepE κ n env a.tmps) {t : TypeId} {x : Operand} {y : Opd} (h : opT P t x = some y) :
    RepV κ (y.get env) (a.eval x) := by
  cases x with
  | tmp k => simp only [opT, Option.some.injEq] at h; subst h; exact hE.eval k
  | const v =>
    cases hc : cstT P t v with
    | none => simp [opT, hc] at h
    | some z => simp only [opT, hc, Option.map_some, Option.some.injEq] at h; subst h; exact cstT_spec hc
  | global g => simp [opT] at h
  | func f => simp only [opT, Option.some.injEq] at h; subst h; exact .func .nil .nil

theorem opsT_spec {P : Program} {κ : Ghost} {n : Nat} {env : Env} {a : Act} (hE : RepE κ n env a.tmps) : ∀ {ts : List TypeId} {xs : List Operand} {ys : List Opd}, opsT P ts xs = some ys →
    RepL κ (ys.map (Opd.get env)) (xs.map a.eval)
  | [], [], ys, h => by simp only [opsT, Option.some.injEq] at h; subst h; exact .nil
  | t :: ts, x :: xs, ys, h => by
    simp only [opsT] at h
    cases h1 : opT P t x with
    | none => simp [h1] at h
    | some y =>
      cases h2 : opsT P ts xs with
      | none => simp [h1, h2] at h
      | some zs => simp only [h1, h2, Option.bind_some, Option.map_some, Option.some.injEq] at h; subst h; exact .cons (opT_spec hE h1) (opsT_spec hE h2)
  | [], _ :: _, ys, h => by cases h
  | _ :: _, [], ys, h => by cases h

theorem opsU_spec {P : Program} {κ : Ghost} {n : Nat} {env : Env} {a : Act} (hE : RepE κ n env a.tmps) : ∀ {xs : List Operand} {ys : List Opd}, opsU P xs = some ys →
    RepL κ (ys.map (Opd.get env)) (xs.map a.eval)
  | [], ys, h => by simp only [opsU, Option.some.injEq] at h; subst h; exact .nil
  | x :: xs, ys, h => by
    simp only [opsU] at h
    cases h1 : opT P 0 x with
    | none => simp [h1] at h
    | some y =>
      cases h2 : opsU P xs with
      | none => simp [h1, h2] at h
      | some zs => simp only [h1, h2, Option.bind_some, Option.map_some, Option.some.injEq] at h; subst h; exact .cons (opT_spec hE h1) (opsU_spec hE h2)

theorem getLK_eq (env : Env) : ∀ (xs : List Opd) (k : List AVal → Prop), getLK env xs k = k (xs.map (Opd.get env))
  | [], k => rfl
  | x :: xs, k => by simp only [getLK, Opd.getK_eq, getLK_eq env xs]; rfl

/-- What is left behind an operation. -/
def Post (κ : Ghost) (w' : World) (v : Value) (K : AVal → AHeap → Prop) : Prop := ∃ κ' σ' x, κ.le κ' ∧ Inv κ' σ' w' ∧ RepV κ' x v ∧ K x σ'

def Good (P : Program) (ρ : Operand → Value) (o : Oper) (κ : Ghost) (w : World) (K : AVal → AHeap → Prop) : Prop :=
  (∃ v w', (execOp ρ o).run P w = .ok (.value v) w' ∧ Post κ w' v K) ∨
  (∃ w', (execOp ρ o).run P w = .ok .skip w' ∧ Post κ w' undef K) ∨
  (∃ g cargs, (execOp ρ o).run P w = .ok (.enter g cargs) w ∧ Calls P g cargs w fun e w' => ∃ v, e = .returned v ∧ Post κ w' v K)

theorem Post.same {κ : Ghost} {σ : AHeap} {w : World} {v : Value} {x : AVal} {K : AVal → AHeap → Prop} (h : Inv κ σ w) (hv : RepV κ x v) (k : K x σ) : Post κ w v K :=
  ⟨κ, σ, x, Ghost.le.refl κ, h, hv, k⟩

/-- A value of the operation, the world as it was. -/
theorem Good.pure {P : Program} {ρ : Operand → Value} {o : Oper} {κ : Ghost} {σ : AHeap} {w : World} {K : AVal → AHeap → Prop} {v : Value} {x : AVal}
    (hr : (execOp ρ o).run P w = .ok (.value v) w) (h : Inv κ σ w) (hv : RepV κ x v) (k : K x σ) : Good P ρ o κ w K := .inl ⟨v, w, hr, .same h hv k⟩

theorem RepV.v_inv {κ : Ghost} {x v : Value} (h : RepV κ (.v x) v) : v = x ∧ x.oneCell = true := by cases h with | v h => exact ⟨rfl, h⟩

theorem RepV.ptr_inv {κ : Ghost} {id off : Nat} {v : Value} (h : RepV κ (.ptr id off) v) : ∃ b, v = .pointer (some ⟨b, off, none⟩) ∧ κ.obj id = some b := by cases h with | ptr h => exact ⟨_, rfl, h⟩
theorem RepV.eptr_inv {κ : Ghost} {cs : List AVal} {off : Nat} {v : Value} (h : RepV κ (.eptr cs off) v) :
    ∃ b o vs, v = .pointer (some ⟨b, o + off, none⟩) ∧ RepL κ cs vs ∧ ∀ i u, vs[i]? = some u → κ.cell b (o + i) = some u := by cases h with | eptr h k => exact ⟨_, _, _, rfl, h, k⟩
theorem RepV.ms_inv {κ : Ghost} {r s off len : Nat} {v : Value} (h : RepV κ (.ms r s off len) v) :
    ∃ b cap n, v = .slice (some ⟨b, off, none⟩) len cap ∧ κ.obj r = some b ∧ κ.size b = some n ∧ len ≤ cap ∧ off + cap * s ≤ n := by cases h with | ms h1 h2 h3 h4 => exact ⟨_, _, _, rfl, h1, h2, h3, h4⟩
theorem RepV.agg_inv {κ : Ghost} {cs : List AVal} {v : Value} (h : RepV κ (.agg cs) v) : ∃ vs, v = .agg vs.toArray ∧ RepL κ cs vs := by cases h with | agg h => exact ⟨_, rfl, h⟩
theorem RepV.tup_inv {κ : Ghost} {cs : List AVal} {v : Value} (h : RepV κ (.tup cs) v) : ∃ vs, v = .tuple vs.toArray ∧ RepL κ cs vs := by cases h with | tup h => exact ⟨_, rfl, h⟩
theorem RepV.func_inv {κ : Ghost} {g : FuncId} {f c : List AVal} {v : Value} (h : RepV κ (.func g f c) v) : ∃ fv cv, v = .func (.func g) fv.toArray cv.toArray ∧ RepL κ f fv ∧ RepL κ c cv := by
  cases h with | func h k => exact ⟨_, _, rfl, h, k⟩
theorem RepV.map_inv {κ : Ghost} {id : Nat} {v : Value} (h : RepV κ (.map id) v) : ∃ b, v = .map (some b) ∧ κ.obj id = some b := by cases h with | map h => exact ⟨_, rfl, h⟩
theorem RepV.slice_inv {κ : Ghost} {s : Nat} {xs : List AVal} {t : Tok} {v : Value} (h : RepV κ (.slice s xs t) v) :
    ((∃ a, v = .slice a 0 0) ∧ xs = []) ∨ ∃ b off cap vs, v = .slice (some ⟨b, off, none⟩) xs.length cap ∧ xs.length ≤ cap ∧ (∀ x ∈ xs, x.cells.length = s) ∧ RepL κ (xs.flatMap AVal.cells) vs ∧
      (∀ i v, vs[i]? = some v → κ.cell b (off + i) = some v) ∧ TokOk κ t b off xs.length cap s := by
  cases h with
  | nil => exact .inl ⟨⟨_, rfl⟩, rfl⟩
  | slice h1 h2 h3 h4 h5 h6 => subst h1; exact .inr ⟨_, _, _, _, rfl, h2, h3, h4, h5, h6⟩

theorem beqL (a b : List UInt8) : (a == b) = decide (a = b) := by rw [Bool.eq_iff_iff]; simp

/-- Binary operations on plain values. -/
theorem binE_spec {P : Program} {tb : Bool} {op : BinOp} {t : TypeId} {p q : Operand} {x y : Value} {K : Value → Prop} {w : World}
    (ht : tb = true → P.underlying t = some .bool) (h : binE tb op x y K) :
    ∃ r, (do eqGuard op t p q x y; binOp op t x y : Sem Value).run P w = .ok r w ∧ r.oneCell = true ∧ K r := by
  unfold binE at h
  split at h
  · rename_i k a k' b
    have hg : ∀ (z : Sem Value), (do eqGuard op t p q (.int k a) (.int k' b); z : Sem Value).run P w = z.run P w := fun z => by
      unfold eqGuard; cases op <;> simp
    rw [hg]
    have hk : op ≠ .shl → op ≠ .shr → k = k' := by
      intro h1 h2
      by_cases e : k = k'
      · exact e
      · exfalso; cases op <;> simp_all
    cases op
    case shl =>
      simp only at h; rw [AShl_def] at h
      exact ⟨_, by simp only [binOp, Op.shift]; rw [if_neg (by omega)]; rfl, rfl, h.2⟩
    case shr =>
      simp only at h; rw [AShr_def] at h
      exact ⟨_, by simp only [binOp, Op.shift]; rw [if_neg (by omega)]; rfl, rfl, h.2⟩
    all_goals
      obtain rfl := hk (by simp) (by simp)
      simp only [decide_true, cond_true] at h
    case add => rw [AFit_def] at h; exact ⟨_, by simp [binOp, Op.intArith], rfl, h⟩
    case sub => rw [AFit_def] at h; exact ⟨_, by simp [binOp, Op.intArith], rfl, h⟩
    case mul => rw [AFit_def] at h; exact ⟨_, by simp [binOp, Op.intArith], rfl, h⟩
    case quo => rw [ADiv_def] at h; exact ⟨_, by simp [binOp, Op.intDiv, h.1], rfl, h.2⟩
    case rem => rw [ARem_def] at h; exact ⟨_, by simp [binOp, Op.intDiv, h.1], rfl, h.2⟩
    case and => rw [ABits_def] at h; exact ⟨_, by simp only [binOp, Op.intBits, ne_eq, not_true_eq_false, if_false]; rfl, rfl, h⟩
    case or => rw [ABits_def] at h; exact ⟨_, by simp only [binOp, Op.intBits, ne_eq, not_true_eq_false, if_false]; rfl, rfl, h⟩
    case xor => rw [ABits_def] at h; exact ⟨_, by simp only [binOp, Op.intBits, ne_eq, not_true_eq_false, if_false]; rfl, rfl, h⟩
    case andNot => rw [ABits_def] at h; exact ⟨_, by simp only [binOp, Op.intBits, ne_eq, not_true_eq_false, if_false]; rfl, rfl, h⟩
    case eql => refine ⟨_, ?_, rfl, h⟩; simp [binOp, Op.intCmp]; rfl
    case neq => refine ⟨_, ?_, rfl, h⟩; simp [binOp, Op.intCmp, bne]; rfl
    case lss => refine ⟨_, ?_, rfl, h⟩; simp [binOp, Op.intCmp]
    case leq => refine ⟨_, ?_, rfl, h⟩; simp [binOp, Op.intCmp]
    case gtr => refine ⟨_, ?_, rfl, h⟩; simp [binOp, Op.intCmp]
    case geq => refine ⟨_, ?_, rfl, h⟩; simp [binOp, Op.intCmp]
  · rename_i a b
    have hg : ∀ (z : Sem Value), (do eqGuard op t p q (.bool a) (.bool b); z : Sem Value).run P w = z.run P w := fun z => by
      unfold eqGuard; cases op <;> simp
    rw [hg]
    cases tb
    · cases op <;> exact h.elim
    · have hb := ht rfl
      cases op <;> simp only at h <;> first | exact h.elim | skip
      · refine ⟨_, ?_, rfl, h⟩; exact run_eql_bool w t a b hb
      · refine ⟨_, ?_, rfl, h⟩; exact run_neq_bool w t a b hb
  · rename_i a b
    have hg : ∀ (z : Sem Value), (do eqGuard op t p q (.string a) (.string b); z : Sem Value).run P w = z.run P w := fun z => by
      unfold eqGuard; cases op <;> simp
    rw [hg]
    cases op <;> simp only at h <;> first | exact h.elim | skip
    · refine ⟨_, ?_, rfl, h⟩; simp only [binOp, Op.stringOp, ByteArray.toList_eq, beqL]; rfl
    · refine ⟨_, ?_, rfl, h⟩
      simp only [binOp, Op.stringOp, ByteArray.toList_eq, Sem.run_pure, ne_eq, decide_not, beqL]
  · exact h.elim
end Go.Am

