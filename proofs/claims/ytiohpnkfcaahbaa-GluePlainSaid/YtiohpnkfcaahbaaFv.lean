/-
  A function, by its body.
-/
import Derived.Test.YtiohpnkfcaahbaaFu
namespace Go.Am
set_option linter.unusedVariables false
set_option linter.unusedSimpArgs false
set_option linter.unusedSectionVars false
open Go.RowKit (Below)

/-- What a function hands back, seen from outside: less may be known of it. -/
structure ARet (v : AVal) (σ : AHeap) (Q : AVal → AHeap → Prop) : Prop where of ::
  out : ∃ v' σ', VLe v v' ∧ Sub σ σ' ∧ Q v' σ'
theorem ARet_def (v : AVal) (σ : AHeap) (Q : AVal → AHeap → Prop) : ARet v σ Q = (∃ v' σ', VLe v v' ∧ Sub σ σ' ∧ Q v' σ') := propext ⟨fun h => h.out, fun h => ⟨h⟩⟩

def resK (env : Env) (σ : AHeap) : List IRes → (List AVal → Prop) → Prop
  | [], k => k []
  | .tmp p :: rs, k => resK env σ rs fun l => env.getK p fun x => k (x :: l)
  | .cell p g :: rs, k => match env.get p with
    | .ptr id off => ALoad σ id off g fun x => resK env σ rs fun l => k (x :: l)
    | _ => False

def resV : List AVal → AVal
  | [x] => x
  | l => .tup l

def resVK : List AVal → (AVal → Prop) → Prop
  | [x], k => k x
  | l, k => k (.tup l)
theorem resVK_eq (l : List AVal) (k : AVal → Prop) : resVK l k = k (resV l) := by
  cases l with
  | nil => rfl
  | cons x l => cases l <;> rfl
def retQ (F : IFun) (Q : AVal → AHeap → Prop) : Exit → Env → AHeap → Prop
  | .normal, env, σ | .ret, env, σ => resK env σ F.res fun l => resVK l fun v => ARet v σ Q
  | _, _, _ => False

def argsK (env : Env) : Nat → List AVal → (Env → Prop) → Prop
  | _, [], k => k env
  | n, x :: xs, k => env.setK (pth n) x fun e => argsK e (n + 1) xs k

def argsE (env : Env) : Nat → List AVal → Env
  | _, [] => env
  | n, x :: xs => argsE (env.set (pth n) x) (n + 1) xs
theorem argsK_eq : ∀ (xs : List AVal) (env : Env) (n : Nat) (k : Env → Prop), argsK env n xs k = k (argsE env n xs)
  | [], _, _, _ => rfl
  | x :: xs, env, n, k => by simp only [argsK, Env.setK_eq, argsE]; exact argsK_eq xs _ _ k

theorem full_get : ∀ (d : Nat) (p : Pth), (Env.full d).get p = .top
  | 0, _ => rfl
  | d + 1, .e => rfl
  | d + 1, .l p => full_get d p
  | d + 1, .r p => full_get d p

theorem argsE_get : ∀ (xs : List AVal) (env : Env) (n : Nat) (p : Pth), ((argsE env n xs).get p = .top ∧ (n ≤ p.num ∧ p.num < n + xs.length)) ∨ (∃ x, xs[p.num - n]? = some x ∧ n ≤ p.num ∧ (argsE env n xs).get p = x) ∨ ((p.num < n ∨ n + xs.length ≤ p.num) ∧ (argsE env n xs).get p = env.get p)
  | [], env, n, p => .inr (.inr ⟨by simp; omega, rfl⟩)
  | x :: xs, env, n, p => by
    simp only [argsE]
    rcases argsE_get xs (env.set (pth n) x) (n + 1) p with ⟨h1, h2⟩ | ⟨y, h1, h2, h3⟩ | ⟨h1, h2⟩
    · exact .inl ⟨h1, by simp; omega⟩
    · refine .inr (.inl ⟨y, ?_, by omega, h3⟩)
      rw [show p.num - n = (p.num - (n + 1)) + 1 by omega]; simpa using h1
    · by_cases hp : p = pth n
      · subst hp
        rw [num_pth] at h1 ⊢
        rcases env.get_set (pth n) x with k | k
        · exact .inr (.inl ⟨x, by simp, Nat.le_refl _, by rw [h2, k]⟩)
        · exact .inl ⟨by rw [h2, k], by simp⟩
      · have hne : p.num ≠ n := fun e => hp (Pth.num_inj (by rw [num_pth]; exact e))
        exact .inr (.inr ⟨by simp at *; omega, by rw [h2, Env.get_set_ne env x hp]⟩)

section
variable {P : Program} {C : Cfg}

theorem res_run {κ : Ghost} {σ : AHeap} {env : Env} {a : Act} {w : World} (hS : St κ C.n σ env a w) : ∀ {rs : List ResultVar} {irs : List IRes} {k : List AVal → Prop}, compRes P rs = some irs → resK env σ irs k →
    ∃ (vs : List Value) (xs : List AVal), (∀ f : ResultVar → Sem Value, (∀ t, f (.tmp t) = pure (a.tmps.getD t undef)) → (∀ p t, f (.cell p t) = do loadVar t (← asAddr (a.tmps.getD p undef))) → (rs.mapM f).run P w = .ok vs w) ∧
      RepL κ xs vs ∧ k xs
  | [], irs, k, h, hk => by simp only [compRes, Option.some.injEq] at h; subst h; exact ⟨[], [], fun f _ _ => by simp, .nil, hk⟩
  | .tmp t :: rs, irs, k, h, hk => by
    simp only [compRes] at h
    obtain ⟨irs', h1, rfl⟩ := optmap h
    simp only [resK, Env.getK_eq] at hk
    obtain ⟨vs, xs, g1, g2, g3⟩ := res_run hS h1 hk
    refine ⟨a.tmps.getD t undef :: vs, env.get (pth t) :: xs, fun f f1 f2 => ?_, .cons (hS.rep.eval t) g2, g3⟩
    simp only [List.mapM_cons, Sem.run_bind, f1, Sem.run_pure, Result.andThen_ok, g1 f f1 f2]
  | .cell p t :: rs, irs, k, h, hk => by
    simp only [compRes] at h
    obtain ⟨g, hg, h⟩ := optbind h
    obtain ⟨irs', h1, rfl⟩ := optmap h
    simp only [resK] at hk
    split at hk
    · rename_i id off he
      have rx := hS.rep.eval p
      rw [he] at rx
      obtain ⟨b, hv, hb⟩ := rx.ptr_inv
      rw [ALoad_def] at hk
      obtain ⟨cs, h2, h3⟩ := hk
      obtain ⟨c, e, vs, us, k1, k2, k3, k4, k5, k6, k7⟩ := hS.inv.objCells h2 hb
      obtain ⟨v, y, r1, r2, r3⟩ := load_run (P := P) (w := w) hg k4 k7 h3
      rw [Nat.zero_add] at r1
      obtain ⟨vs', xs, g1, g2, g3⟩ := res_run hS h1 r3
      refine ⟨v :: vs', y :: xs, fun f f1 f2 => ?_, .cons r2 g2, g3⟩
      have hv' : a.tmps.getD p undef = .pointer (some ⟨b, off, none⟩) := hv
      have ha : (asAddr (a.tmps.getD p undef)).run P w = .ok ⟨b, off, none⟩ w := by rw [hv']; rfl
      simp only [Instr.loadAt, Instr.sureAddr, Sem.run_bind, Sem.run_pure, Result.andThen_ok] at r1
      simp only [List.mapM_cons, Sem.run_bind, f2, ha, Sem.run_pure, Result.andThen_ok, r1, g1 f f1 f2]
    · exact hk.elim

theorem results_run {κ : Ghost} {σ : AHeap} {env : Env} {a : Act} {w : World} {fn : Func} (hS : St κ C.n σ env a w) {irs : List IRes} {k : List AVal → Prop} (hr : compRes P fn.results.toList = some irs) (h : resK env σ irs k) :
    ∃ v xs, (results fn a.tmps).run P w = .ok v w ∧ RepV κ (resV xs) v ∧ k xs := by
  obtain ⟨vs, xs, g1, g2, g3⟩ := res_run hS hr h
  have hm : (results fn a.tmps).run P w = .ok (if h : vs.toArray.size = 1 then vs.toArray[0] else .tuple vs.toArray) w := by
    unfold results
    rw [Sem.run_bind, Array.mapM_eq_mapM_toList, Sem.run_map, g1 _ (fun _ => rfl) (fun _ _ => rfl)]
    simp only [Result.andThen_ok, Sem.run_pure]
  refine ⟨_, xs, hm, ?_, g3⟩
  cases g2 with
  | nil => simpa [resV] using RepV.tup RepL.nil
  | cons hx ht =>
    cases ht with
    | nil => simpa [resV] using hx
    | cons hy ht =>
      simp only [resV]
      simpa using RepV.tup (RepL.cons hx (RepL.cons hy ht))

/-- A function by its body. -/
theorem acalls_of {f : FuncId} {fn : Func} {F : IFun} (hf : P.funcs[f]? = some fn) (hF : compF P C fn = some F) (hn : fn.ntmps = C.n) {args : List AVal} (hl : args.length ≤ C.n) {σ : AHeap} {Q : AVal → AHeap → Prop}
    (h : argsK (Env.full 9) 0 args fun env => evC P C F.body env σ (retQ F Q)) : ACalls P f args σ Q := by
  rw [ACalls_def]
  intro κ w cargs hI hargs
  unfold compF at hF
  split at hF
  · rename_i c hc
    obtain ⟨b, h1, hF⟩ := optbind hF
    obtain ⟨r, h2, rfl⟩ := optmap hF
    rw [argsK_eq] at h
    have hal := hargs.length
    let a0 : Act := { tmps := cargs.toArray ++ Array.replicate (fn.ntmps - cargs.toArray.size) undef, defers := [] }
    have hsz : a0.tmps.size = C.n := by simp [a0]; omega
    have hS : St κ C.n σ (argsE (Env.full 9) 0 args) a0 w := by
      refine ⟨hI, ⟨hsz, fun p v hv => ?_, fun p hp => ?_⟩, rfl⟩
      · rcases argsE_get args (Env.full 9) 0 p with ⟨g1, _⟩ | ⟨x, g1, g2, g3⟩ | ⟨g1, g2⟩
        · rw [g1]; exact .top
        · rw [g3]
          rw [Nat.sub_zero] at g1
          obtain ⟨u, hu, hr⟩ := hargs.get g1
          have hlt : p.num < cargs.length := (List.getElem?_eq_some_iff.1 hu).1
          have : a0.tmps[p.num]? = some u := by
            simp only [a0]
            rw [Array.getElem?_append_left (by simpa using hlt)]
            simpa using hu
          rw [this] at hv; cases hv; exact hr
        · rw [g2, full_get]; exact .top
      · rcases argsE_get args (Env.full 9) 0 p with ⟨g1, _⟩ | ⟨x, g1, g2, g3⟩ | ⟨g1, g2⟩
        · exact g1
        · rw [Nat.sub_zero] at g1
          have := (List.getElem?_eq_some_iff.1 g1).1
          omega
        · rw [g2, full_get]
    have hw := evC_sound b _ _ _ h c h1 κ a0 w hS
    refine calls_of_wp hf hc (wp_mono hw ?_)
    rintro e a' w' ⟨κ', env', σ', q1, q2, q3⟩
    cases e with
    | normal =>
      obtain ⟨v, xs, g1, g2, g3⟩ := results_run q2 h2 q3
      rw [resVK_eq, ARet_def] at g3
      obtain ⟨v', σ2, k1, k2, k3⟩ := g3
      exact ⟨q2.defers, v, g1, v, κ', σ2, v', rfl, q1, q2.inv.sub k2, k1 _ _ g2, k3⟩
    | ret =>
      obtain ⟨v, xs, g1, g2, g3⟩ := results_run q2 h2 q3
      rw [resVK_eq, ARet_def] at g3
      obtain ⟨v', σ2, k1, k2, k3⟩ := g3
      exact ⟨q2.defers, v, g1, v, κ', σ2, v', rfl, q1, q2.inv.sub k2, k1 _ _ g2, k3⟩
    | _ => exact q3.elim
  · cases hF
end
end Go.Am

