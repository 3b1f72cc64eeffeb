/-
  Rows, and regions: in their order; and where the order is drawn.
-/
import Derived.Test.YtiohpnkfcaahbaaFo
namespace Go.Am
set_option linter.unusedVariables false
set_option linter.unusedSimpArgs false
set_option linter.unusedSectionVars false
open Go.RowKit (Below)

section
variable {P : Program} {C : Cfg}

theorem ev_sound {κ : Ghost} {σ : AHeap} {w : World} {n : Nat} {env : Env} {a : Act} {K : AVal → AHeap → Prop} {o : Oper} {op : IOp} (hC : comp P C o = some op) (hI : Inv κ σ w) (hE : RepE κ n env a.tmps) (h : op.ev P env σ K) :
    Good P a.eval o κ w K := by
  obtain ⟨dst, opc, ty, pos, after, guard⟩ := o
  cases opc with
  | move x => exact ev_plain hC hI hE h (.inl ⟨x, rfl⟩)
  | assign x => exact ev_plain hC hI hE h (.inr (.inl ⟨x, rfl⟩))
  | pick c x y => exact ev_plain hC hI hE h (.inr (.inr (.inl ⟨c, x, y, rfl⟩)))
  | binOp b t x y u => exact ev_plain hC hI hE h (.inr (.inr (.inr (.inl ⟨b, t, x, y, u, rfl⟩))))
  | unOp u t x =>
    cases u <;> first
      | exact ev_plain hC hI hE h (.inr (.inr (.inr (.inr (.inl ⟨t, x, rfl⟩)))))
      | (simp [comp] at hC)
  | extract x i => exact ev_plain hC hI hE h (.inr (.inr (.inr (.inr (.inr (.inl ⟨x, i, rfl⟩))))))
  | nilCheck x => exact ev_plain hC hI hE h (.inr (.inr (.inr (.inr (.inr (.inr ⟨x, rfl⟩))))))
  | load t x => exact ev_load hC hI hE h
  | store t p x => exact ev_store hC hI hE h
  | alloc t => exact ev_alloc hC hI h
  | box t x => exact ev_box hC hI hE h
  | convert s d x => exact ev_conv hC hI hE h
  | build t ps => exact ev_build hC hI hE h
  | buildSlice t m ps => exact ev_row hC hI hE h
  | fieldAddr s x f => exact ev_faddr hC hI hE h
  | field s x f => exact ev_field hC hI hE h
  | index t x i => exact ev_index hC hI hE h
  | indexAddr t x i => exact ev_iaddr hC hI hE h
  | slice t x lo hi mx => exact ev_cut hC hI hE h
  | makeSlice t l c => exact ev_mk hC hI hE h
  | makeFunc f first caps =>
    cases f with
    | func g => exact ev_fn hC hI hE h
    | _ => simp [comp] at hC
  | call c => exact ev_call hC hI hE h
  | _ => simp [comp] at hC

/-- The state at a point of a body. -/
structure St (κ : Ghost) (n : Nat) (σ : AHeap) (env : Env) (a : Act) (w : World) : Prop where
  inv : Inv κ σ w
  rep : RepE κ n env a.tmps
  defers : a.defers = []

/-- A post on abstract states, at the model's states. -/
def Lift (κ : Ghost) (n : Nat) (Q : Exit → Env → AHeap → Prop) : Exit → Act → World → Prop := fun e a w => ∃ κ' env σ, κ.le κ' ∧ St κ' n σ env a w ∧ Q e env σ

theorem Lift.le {κ κ' : Ghost} (h : κ.le κ') {n : Nat} {Q : Exit → Env → AHeap → Prop} {e : Exit} {a : Act} {w : World} (k : Lift κ' n Q e a w) : Lift κ n Q e a w :=
  let ⟨κ2, env, σ, h1, h2⟩ := k; ⟨κ2, env, σ, h.trans h1, h2⟩

def putE (env : Env) (d : Option Pth) (v : AVal) : Env :=
  match d with
  | none => env
  | some d => env.set d v

/-- A row, without the slots written out. -/
def rowP (P : Program) (r : IRow) (env : Env) (σ : AHeap) (K : Env → AHeap → Prop) : Prop :=
  match r.guard with
  | none => r.op.ev P env σ fun v σ' => K (putE env r.dst v) σ'
  | some (g, want) => (∃ b, env.get g = .v (.bool b) ∧ if b = want then r.op.ev P env σ fun v σ' => K (putE env r.dst v) σ' else K (putE env r.dst (.tup [])) σ) ∨ (env.get g = .tup [] ∧ K (putE env r.dst (.tup [])) σ)

theorem setD_eq (env : Env) (d : Option Pth) (v : AVal) (k : Env → Prop) : setD env d v k = k (putE env d v) := by
  cases d with
  | none => rfl
  | some d => exact Env.setK_eq k env d v

theorem evRow_rowP {r : IRow} {env : Env} {σ : AHeap} {K : Env → AHeap → Prop} (h : evRow P r env σ K) : rowP P r env σ K := by
  obtain ⟨dst, guard, op⟩ := r
  cases guard with
  | none => simp only [evRow, setD_eq] at h; exact h
  | some gw =>
    obtain ⟨g, want⟩ := gw
    simp only [evRow, guardK] at h
    split at h
    · rename_i b he
      rw [ABr_def] at h
      simp only [Env.setK_eq, setD_eq] at h
      have hs : env.set g (.v (.bool b)) = env := by rw [← he]; exact env.set_get g
      rw [hs] at h
      refine .inl ⟨b, he, ?_⟩
      cases b <;> cases want <;> simpa using h
    · rename_i he
      simp only [setD_eq] at h
      exact .inr ⟨he, h⟩
    · exact h.elim

theorem compRow_spec {ops : Array Oper} {o : Oper} {r : IRow} (h : compRow P C ops o = some r) :
    comp P C o = some r.op ∧ r.dst = o.dst.map pth ∧ (∀ d, o.dst = some d → d < C.n) ∧ compGuard ops o = some r.guard := by
  unfold compRow at h
  obtain ⟨h1, h⟩ := bifsome h
  obtain ⟨g, h2, h⟩ := optbind h
  obtain ⟨op, h3, rfl⟩ := optmap h
  refine ⟨h3, rfl, fun d hd => ?_, h2⟩
  rw [hd] at h1
  exact Nat.le_of_ble_eq_true h1

theorem yielded_bool {ops : Array Oper} {tmps : Array Value} {j d : Nat} {b : Bool} (h1 : (ops[j]?).bind (·.dst) = some d) (h2 : tmps[d]? = some (.bool b)) : yielded ops tmps j = some b := by
  simp [yielded, h1, h2]

/-- A row of the region, run. -/
theorem row_sound {ops : Array Oper} {i : Nat} {o : Oper} {r : IRow} (ho : ops[i]? = some o) (hr : compRow P C ops o = some r) {κ : Ghost} {σ : AHeap} {env : Env} {a : Act} {w : World} (hS : St κ C.n σ env a w)
    {K : Env → AHeap → Prop} (h : rowP P r env σ K) {next : Act → World → Prop} {Q : Exit → Act → World → Prop}
    (hn : ∀ κ' σ' env' a' w', κ.le κ' → St κ' C.n σ' env' a' w' → K env' σ' → next a' w') : wpOp P ops Q i next a w := by
  obtain ⟨h1, h2, h3, h4⟩ := compRow_spec hr
  have put : ∀ (κ' : Ghost) (σ' : AHeap) (w' : World) (v : Value) (x : AVal), κ.le κ' → Inv κ' σ' w' → RepV κ' x v → K (putE env r.dst x) σ' → next (a.put o.dst v) w' := by
    intro κ' σ' w' v x q1 q2 q3 q4
    rw [h2] at q4
    cases hd : o.dst with
    | none => rw [hd] at q4; exact hn κ' σ' _ _ _ q1 ⟨q2, hS.rep.mono q1, hS.defers⟩ q4
    | some d => rw [hd] at q4; exact hn κ' σ' _ _ _ q1 ⟨q2, (hS.rep.mono q1).put (h3 d hd) q3, hS.defers⟩ q4
  have op : r.op.ev P env σ (fun v σ' => K (putE env r.dst v) σ') → o.wp P a w next Q := by
    intro h
    rcases ev_sound h1 hS.inv hS.rep h with ⟨v, w', g1, κ', σ', x, g2, g3, g4, g5⟩ | ⟨w', g1, κ', σ', x, g2, g3, g4, g5⟩ | ⟨g, cargs, g1, g2⟩
    · unfold Oper.wp; rw [g1]; exact put κ' σ' w' v x g2 g3 g4 g5
    · unfold Oper.wp; rw [g1]; exact put κ' σ' w' undef x g2 g3 g4 g5
    · unfold Oper.wp; rw [g1]
      refine g2.mono ?_
      rintro e w' ⟨v, rfl, κ', σ', x, q1, q2, q3, q4⟩
      exact put κ' σ' w' v x q1 q2 q3 q4
  unfold wpOp
  simp only [ho]
  unfold rowP at h
  unfold compGuard at h4
  cases hg : o.guard with
  | none =>
    rw [hg] at h4
    simp only [Option.some.injEq] at h4
    rw [← h4] at h
    have : Region.wanted o (yielded ops a.tmps) = true := by simp [Region.wanted, hg]
    rw [if_pos this]
    exact .inl (op h)
  | some gw =>
    obtain ⟨j, want⟩ := gw
    rw [hg] at h4
    simp only at h4
    split at h4
    · rename_i d hd
      simp only [Option.some.injEq] at h4
      rw [← h4] at h
      rcases h with ⟨b, hb, h⟩ | ⟨hb, h⟩
      case inr =>
        have hval : a.tmps[d]? = some (.tuple #[]) := by
          have hsz : d < a.tmps.size := by
            rcases Nat.lt_or_ge d a.tmps.size with k | k
            · exact k
            · have := hS.rep.out (pth d) (by rw [num_pth, ← hS.rep.size]; exact k)
              rw [this] at hb; cases hb
          have hr := hS.rep.get (pth d) a.tmps[d] (by rw [num_pth]; simp [hsz])
          rw [hb] at hr
          rw [Array.getElem?_eq_getElem hsz]
          generalize a.tmps[d] = u at hr
          cases hr with
          | tup hr => cases hr; rfl
        have hy : yielded ops a.tmps j = none := by simp [yielded, hd, hval]
        have hw : Region.wanted o (yielded ops a.tmps) = false := by
          simp only [Region.wanted, hg, hy]; rfl
        rw [if_neg (by rw [hw]; decide)]
        exact put κ σ w undef (.tup []) (Ghost.le.refl κ) hS.inv (.tup .nil) h
      have hval : a.tmps[d]? = some (.bool b) := by
        have hsz : d < a.tmps.size := by
          rcases Nat.lt_or_ge d a.tmps.size with k | k
          · exact k
          · have := hS.rep.out (pth d) (by rw [num_pth, ← hS.rep.size]; exact k)
            rw [this] at hb; cases hb
        have hr := hS.rep.get (pth d) a.tmps[d] (by rw [num_pth]; simp [hsz])
        rw [hb] at hr
        obtain ⟨hv, _⟩ := hr.v_inv
        rw [Array.getElem?_eq_getElem hsz, hv]
      have hy := yielded_bool hd hval
      have hw : Region.wanted o (yielded ops a.tmps) = decide (b = want) := by
        simp only [Region.wanted, hg, hy]
        cases b <;> cases want <;> rfl
      by_cases hbw : b = want
      · rw [if_pos hbw] at h
        rw [if_pos (by rw [hw]; simp [hbw])]
        exact .inl (op h)
      · rw [if_neg hbw] at h
        rw [if_neg (by rw [hw]; simp [hbw])]
        exact put κ σ w undef (.tup []) (Ghost.le.refl κ) hS.inv (.tup .nil) h
    · cases h4

/-- Rows, one behind the other. -/
theorem rows_sound {ops : Array Oper} {Q : Exit → Act → World → Prop} {K : Env → AHeap → Prop} : ∀ (os : List Oper) (k : Nat) (rows : List IRow), (∀ j, os[j]? = ops[k + j]?) → compRows P C ops os = some rows → k + os.length = ops.size →
    ∀ {κ : Ghost} {σ : AHeap} {env : Env} {a : Act} {w : World}, St κ C.n σ env a w → evRT P (rowsRT rows) env σ K → (∀ κ' σ' env' a' w', κ.le κ' → St κ' C.n σ' env' a' w' → K env' σ' → Q .normal a' w') →
    wpOps P ops Q ((List.range' k os.length)) a w
  | [], k, rows, _, hr, _, κ, σ, env, a, w, hS, h, hQ => by
    simp only [compRows, Option.some.injEq] at hr; subst hr
    exact hQ κ σ env a w (Ghost.le.refl κ) hS h
  | o :: os, k, rows, hk, hr, hl, κ, σ, env, a, w, hS, h, hQ => by
    simp only [compRows] at hr
    obtain ⟨r, h1, hr⟩ := optbind hr
    obtain ⟨rs, h2, rfl⟩ := optmap hr
    have ho : ops[k]? = some o := by simpa using (hk 0).symm
    simp only [List.length_cons, List.range'_succ]
    rw [wpOps_cons]
    simp only [rowsRT, evRT] at h
    refine row_sound ho h1 hS (evRow_rowP h) fun κ' σ' env' a' w' q1 q2 q3 => ?_
    exact rows_sound os (k + 1) rs (fun j => by have := hk (j + 1); simpa [Nat.add_assoc, Nat.add_comm 1 j] using this) h2 (by simp at hl; omega) q2 q3
      fun κ2 σ2 env2 a2 w2 p1 p2 p3 => hQ κ2 σ2 env2 a2 w2 (q1.trans p1) p2 p3
end
end Go.Am

