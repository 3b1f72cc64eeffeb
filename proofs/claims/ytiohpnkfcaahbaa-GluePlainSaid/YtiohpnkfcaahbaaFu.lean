/-
  Loops and jumps by what holds at their heads; a function by its body.
-/
import Derived.Test.YtiohpnkfcaahbaaFt
namespace Go.Am
set_option linter.unusedVariables false
set_option linter.unusedSimpArgs false
set_option linter.unusedSectionVars false
open Go.RowKit (Below)

/-- Whatever the first stands for, the second does. -/
def VLe (x y : AVal) : Prop := ∀ κ v, RepV κ x v → RepV κ y v
theorem VLe.refl (x : AVal) : VLe x x := fun _ _ h => h
theorem VLe.top (x : AVal) : VLe x .top := fun _ _ _ => .top
theorem VLe.slice (s : Nat) (xs : List AVal) (t : Tok) : VLe (.slice s xs t) (.slice s xs .none) := fun κ v h => by
  cases h with
  | nil => exact .nil
  | slice h1 h2 h3 h4 h5 h6 => exact .slice h1 h2 h3 h4 h5 trivial
theorem VLe.tup {xs ys : List AVal} (h : ∀ κ vs, RepL κ xs vs → RepL κ ys vs) : VLe (.tup xs) (.tup ys) := fun κ v k => by
  cases k with | tup k => exact .tup (h κ _ k)
theorem VLe.cons {x y : AVal} {xs ys : List AVal} (h : VLe x y) (k : ∀ κ vs, RepL κ xs vs → RepL κ ys vs) : ∀ κ vs, RepL κ (x :: xs) vs → RepL κ (y :: ys) vs := fun κ vs r => by
  cases r with | cons a b => exact .cons (h κ _ a) (k κ _ b)
theorem VLe.nil : ∀ κ vs, RepL κ [] vs → RepL κ [] vs := fun _ _ r => r

inductive EnvLe : Env → Env → Prop
  | refl (e : Env) : EnvLe e e
  | node {a b a' b' : Env} {x x' : AVal} : EnvLe a a' → (x' = .top ∨ x' = x ∨ (x ≠ .top ∧ VLe x x')) → EnvLe b b' → EnvLe (.node a x b) (.node a' x' b')

theorem EnvLe.get {e e' : Env} (h : EnvLe e e') (p : Pth) : e'.get p = .top ∨ e'.get p = e.get p ∨ (e.get p ≠ .top ∧ VLe (e.get p) (e'.get p)) := by
  induction h generalizing p with
  | refl e => exact .inr (.inl rfl)
  | node h1 h2 h3 ih1 ih3 => cases p with
    | e => exact h2
    | l p => exact ih1 p
    | r p => exact ih3 p

theorem RepE.weaken {κ : Ghost} {n : Nat} {e e' : Env} {tmps : Array Value} (h : RepE κ n e tmps) (k : EnvLe e e') : RepE κ n e' tmps := by
  refine ⟨h.size, fun p v hv => ?_, fun p hp => ?_⟩
  · rcases k.get p with q | q | q
    · rw [q]; exact .top
    · rw [q]; exact h.get p v hv
    · exact q.2 κ v (h.get p v hv)
  · rcases k.get p with q | q | q
    · exact q
    · rw [q]; exact h.out p hp
    · exact absurd (h.out p hp) q.1

theorem St.weaken {κ : Ghost} {n : Nat} {σ σ' : AHeap} {e e' : Env} {a : Act} {w : World} (h : St κ n σ e a w) (k : EnvLe e e') (s : Sub σ σ') : St κ n σ' e' a w :=
  ⟨h.inv.sub s, h.rep.weaken k, h.defers⟩

/-- The slots that a body writes. -/
def RT.writes : RT → List Pth
  | .done => []
  | .one r t => match r.dst with
    | none => t.writes
    | some d => d :: t.writes
  | .both a b => a.writes ++ b.writes
def ICode.writes : ICode → List Pth
  | .reg t => t.writes
  | .seq a b => a.writes ++ b.writes
  | .cond _ a b => a.writes ++ b.writes
  | .block _ b | .loop b | .scope b => b.writes
  | _ => []

def clearK {β : Sort _} (env : Env) : List Pth → (Env → β) → β
  | [], k => k env
  | p :: ps, k => env.setK p .top fun e => clearK e ps k
def setsK {β : Sort _} (env : Env) : List (Pth × AVal) → (Env → β) → β
  | [], k => k env
  | (p, v) :: ps, k => env.setK p v fun e => setsK e ps k

def clear (env : Env) : List Pth → Env
  | [] => env
  | p :: ps => clear (env.set p .top) ps
def sets (env : Env) : List (Pth × AVal) → Env
  | [] => env
  | (p, v) :: ps => sets (env.set p v) ps
theorem clearK_eq {β : Sort _} : ∀ (ps : List Pth) (env : Env) (k : Env → β), clearK env ps k = k (clear env ps)
  | [], _, _ => rfl
  | p :: ps, env, k => by simp only [clearK, Env.setK_eq, clear]; exact clearK_eq ps _ k
theorem setsK_eq {β : Sort _} : ∀ (ps : List (Pth × AVal)) (env : Env) (k : Env → β), setsK env ps k = k (sets env ps)
  | [], _, _ => rfl
  | (p, v) :: ps, env, k => by simp only [setsK, Env.setK_eq, sets]; exact setsK_eq ps _ k

section
variable {P : Program} {C : Cfg}

/-- A loop: what holds of the slots that live, and of the objects, at its head. -/
theorem aloop {α : Type} {b : ICode} {env : Env} {σ : AHeap} {Q : Exit → Env → AHeap → Prop} (live : α → List (Pth × AVal)) (sig : α → AHeap) (I : α → Prop) (μ : α → Nat) (x0 : α) (h0 : I x0)
    (hs : Sub σ (sig x0)) (he : clearK env b.writes fun e0 => setsK e0 (live x0) fun e1 => EnvLe env e1)
    (round : ∀ x, I x → clearK env b.writes fun e0 => setsK e0 (live x) fun e1 => evC P C b e1 (sig x) (seqQ (fun env' σ' => ∃ x', I x' ∧ μ x' < μ x ∧ Sub σ' (sig x') ∧ setsK e0 (live x') fun e2 => EnvLe env' e2) Q)) :
    ALoop P C b env σ Q := by
  rw [ALoop_def]
  intro c hc κ a w hS
  obtain ⟨cb, rfl, hb⟩ := compC_inv hc
  simp only [clearK_eq, setsK_eq] at he round
  let fam : α → Env := fun x => sets (clear env b.writes) (live x)
  have key : ∀ m (x : α), μ x = m → I x → ∀ κ' a w, κ.le κ' → St κ' C.n (sig x) (fam x) a w → ∀ (bf : Frame) (k : List Item) (cs : List Frame),
      ∃ e a' w', Lift κ C.n Q e a' w' ∧ Arrives P (lone (bf.at a (.code cb :: .inLoop cb :: k)) cs w) bf k cs e a' w' := by
    intro m
    induction m using Nat.strongRecOn with
    | _ m ih =>
      intro x hm hx κ' a w hk hS bf k cs
      have hr := evC_sound b _ _ _ (round x hx) cb hb κ' a w hS
      obtain ⟨e, a1, w1, ⟨κ1, env1, σ1, q1, q2, q3⟩, harr⟩ := hr bf (.inLoop cb :: k) cs
      cases e with
      | normal =>
        obtain ⟨x', hx', hlt, hsub, hle⟩ := q3
        obtain ⟨e2, a2, w2, hq2, harr2⟩ := ih (μ x') (hm ▸ hlt) x' rfl hx' κ1 a1 w1 (hk.trans q1) (q2.weaken hle hsub) bf k cs
        exact ⟨e2, a2, w2, hq2, .of_steps (Steps.trans harr (.one step_inLoop)) harr2⟩
      | exit id => exact ⟨_, a1, w1, ⟨κ1, env1, σ1, hk.trans q1, q2, q3⟩, .pass (x := .inLoop cb) rfl (fun _ _ => .inl (by simp)) harr⟩
      | goto l => exact ⟨_, a1, w1, ⟨κ1, env1, σ1, hk.trans q1, q2, q3⟩, .pass (x := .inLoop cb) rfl (fun _ _ => .inl (by simp)) harr⟩
      | ret => exact ⟨_, a1, w1, ⟨κ1, env1, σ1, hk.trans q1, q2, q3⟩, .pass (x := .inLoop cb) rfl (fun _ _ => .inl (by simp)) harr⟩
      | panic ch => exact ⟨_, a1, w1, ⟨κ1, env1, σ1, hk.trans q1, q2, q3⟩, .pass (x := .inLoop cb) rfl (fun _ _ => .inl (by simp)) harr⟩
      | outgrown => exact ⟨_, a1, w1, ⟨κ1, env1, σ1, hk.trans q1, q2, q3⟩, .pass (x := .inLoop cb) rfl (fun _ _ => .inl (by simp)) harr⟩
  intro bf k cs
  obtain ⟨e, a', w', hq, harr⟩ := key _ x0 rfl h0 κ a w (Ghost.le.refl κ) (hS.weaken he hs) bf k cs
  exact ⟨e, a', w', hq, .of_steps (.one step_loop) harr⟩

def ICode.find : ICode → Nat → Option ICode
  | .seq a b, l => match a.find l with
    | some rest => some (.seq rest b)
    | none => b.find l
  | .label l', l => bif Nat.beq l' l then some .skip else none
  | _, _ => none

theorem find_comp : ∀ {c : Code} {ic : ICode}, compC P C c = some ic → ∀ (l : Nat) (r : ICode), ic.find l = some r → ∃ rest, findLabel c l = some rest ∧ compC P C rest = some r := by
  intro c
  have none_of : ∀ {c : Code} {ic : ICode}, compC P C c = some ic → ∀ l, ic.find l = none → findLabel c l = none := by
    intro c
    induction c with
    | seq x y ihx ihy =>
      intro ic hc l h
      simp only [compC] at hc; obtain ⟨a, h1, hc⟩ := optbind hc; obtain ⟨b, h2, rfl⟩ := optmap hc
      simp only [ICode.find] at h
      split at h
      · cases h
      · rename_i ha
        simp only [findLabel, ihx h1 l ha]
        exact ihy h2 l h
    | label l' =>
      intro ic hc l h
      simp only [compC, Option.some.injEq] at hc; subst hc
      simp only [ICode.find] at h
      simp only [findLabel]
      cases hb : Nat.beq l' l with
      | true => rw [hb] at h; cases h
      | false => rw [if_neg]; intro e; simp at e; subst e; rw [Nat.beq_refl] at hb; cases hb
    | _ => intro ic hc l h; rfl
  induction c with
  | seq x y ihx ihy =>
    intro ic hc l r h
    simp only [compC] at hc; obtain ⟨a, h1, hc⟩ := optbind hc; obtain ⟨b, h2, rfl⟩ := optmap hc
    simp only [ICode.find] at h
    split at h
    · rename_i rest hr
      cases h
      obtain ⟨r2, g1, g2⟩ := ihx h1 l rest hr
      refine ⟨.seq r2 y, by simp only [findLabel, g1], ?_⟩
      simp only [compC, g2, h2, Option.bind_some, Option.map_some]
    · rename_i ha
      obtain ⟨r2, g1, g2⟩ := ihy h2 l r h
      refine ⟨r2, ?_, g2⟩
      simp only [findLabel, none_of h1 l ha]; exact g1
  | label l' =>
    intro ic hc l r h
    simp only [compC, Option.some.injEq] at hc; subst hc
    simp only [ICode.find] at h
    obtain ⟨hb, h⟩ := bifsome h
    cases h
    refine ⟨.skip, ?_, rfl⟩
    have := Nat.eq_of_beq_eq_true hb
    subst this
    simp [findLabel]
  | _ =>
    intro ic hc l r h
    have hci := compC_inv hc
    cases ic <;> first
      | (simp [ICode.find] at h; done)
      | (simp only [CInv] at hci; first | (obtain ⟨_, _, hci, _⟩ := hci; cases hci; done) | (cases hci; done))

/-- A scope with jumps: what holds at each jump. -/
theorem ascope {α : Type} {b : ICode} {env : Env} {σ : AHeap} {Q : Exit → Env → AHeap → Prop} (live : α → List (Pth × AVal)) (sig : α → AHeap) (lab : α → Nat) (I : α → Prop) (μ : α → Nat)
    (first : clearK env b.writes fun e0 => evC P C b env σ (jumpQ (fun l env' σ' => ∃ x', lab x' = l ∧ I x' ∧ Sub σ' (sig x') ∧ setsK e0 (live x') fun e2 => EnvLe env' e2) Q))
    (pass : ∀ x, I x → ∃ rest, b.find (lab x) = some rest ∧ clearK env b.writes fun e0 => setsK e0 (live x) fun e1 => evC P C rest e1 (sig x) (jumpQ (fun l env' σ' => ∃ x', lab x' = l ∧ I x' ∧ μ x' < μ x ∧ Sub σ' (sig x') ∧ setsK e0 (live x') fun e2 => EnvLe env' e2) Q)) :
    AScope P C b env σ Q := by
  rw [AScope_def]
  intro c hc κ a w hS
  obtain ⟨cb, rfl, hb⟩ := compC_inv hc
  simp only [clearK_eq, setsK_eq] at first pass
  let fam : α → Env := fun x => sets (clear env b.writes) (live x)
  have key : ∀ m (x : α), μ x = m → I x → ∀ rest, findLabel cb (lab x) = some rest → ∀ κ' a w, κ.le κ' → St κ' C.n (sig x) (fam x) a w → ∀ (bf : Frame) (k : List Item) (cs : List Frame),
      ∃ e a' w', Lift κ C.n Q e a' w' ∧ Arrives P (lone (bf.at a (.code rest :: .inScope cb :: k)) cs w) bf k cs e a' w' := by
    intro m
    induction m using Nat.strongRecOn with
    | _ m ih =>
      intro x hm hx rest hrest κ' a w hk hS bf k cs
      obtain ⟨r0, hr0, hev⟩ := pass x hx
      obtain ⟨rest', hr1, hr2⟩ := find_comp hb _ _ hr0
      rw [hrest] at hr1; cases hr1
      have hr := evC_sound r0 _ _ _ hev rest hr2 κ' a w hS
      obtain ⟨e, a1, w1, ⟨κ1, env1, σ1, q1, q2, q3⟩, harr⟩ := hr bf (.inScope cb :: k) cs
      cases e with
      | normal => exact ⟨.normal, a1, w1, ⟨κ1, env1, σ1, hk.trans q1, q2, q3⟩, Steps.trans harr (.one step_inScope)⟩
      | exit id => exact ⟨.exit id, a1, w1, ⟨κ1, env1, σ1, hk.trans q1, q2, q3⟩, fun k' hk => harr k' (by simp [exitTo, hk])⟩
      | goto l =>
        obtain ⟨x', rfl, hx', hlt, hsub, hle⟩ := q3
        obtain ⟨r2, hr2', _⟩ := pass x' hx'
        obtain ⟨rest2, hr3, hr4⟩ := find_comp hb _ _ hr2'
        obtain ⟨e2, a2, w2, hq2, harr2⟩ := ih (μ x') (hm ▸ hlt) x' rfl hx' rest2 hr3 κ1 a1 w1 (hk.trans q1) (q2.weaken hle hsub) bf k cs
        exact ⟨e2, a2, w2, hq2, .of_steps (harr _ (by simp [gotoIn, hr3])) harr2⟩
      | ret => exact ⟨_, a1, w1, ⟨κ1, env1, σ1, hk.trans q1, q2, q3⟩, harr⟩
      | panic ch => exact ⟨_, a1, w1, ⟨κ1, env1, σ1, hk.trans q1, q2, q3⟩, harr⟩
      | outgrown => exact ⟨_, a1, w1, ⟨κ1, env1, σ1, hk.trans q1, q2, q3⟩, harr⟩
  intro bf k cs
  have hr := evC_sound b _ _ _ first cb hb κ a w hS
  obtain ⟨e, a1, w1, ⟨κ1, env1, σ1, q1, q2, q3⟩, harr⟩ := hr bf (.inScope cb :: k) cs
  cases e with
  | normal => exact ⟨.normal, a1, w1, ⟨κ1, env1, σ1, q1, q2, q3⟩, .head step_scope (Steps.trans harr (.one step_inScope))⟩
  | exit id => exact ⟨.exit id, a1, w1, ⟨κ1, env1, σ1, q1, q2, q3⟩, fun k' hk => .head step_scope (harr k' (by simp [exitTo, hk]))⟩
  | goto l =>
    obtain ⟨x', rfl, hx', hsub, hle⟩ := q3
    obtain ⟨r2, hr2', _⟩ := pass x' hx'
    obtain ⟨rest2, hr3, hr4⟩ := find_comp hb _ _ hr2'
    obtain ⟨e2, a2, w2, hq2, harr2⟩ := key (μ x') x' rfl hx' rest2 hr3 κ1 a1 w1 q1 (q2.weaken hle hsub) bf k cs
    exact ⟨e2, a2, w2, hq2, .of_steps (.head step_scope (harr _ (by simp [gotoIn, hr3]))) harr2⟩
  | ret => exact ⟨_, a1, w1, ⟨κ1, env1, σ1, q1, q2, q3⟩, .of_steps (.one step_scope) harr⟩
  | panic ch => exact ⟨_, a1, w1, ⟨κ1, env1, σ1, q1, q2, q3⟩, .of_steps (.one step_scope) harr⟩
  | outgrown => exact ⟨_, a1, w1, ⟨κ1, env1, σ1, q1, q2, q3⟩, .of_steps (.one step_scope) harr⟩

theorem evC_label {l : Nat} {b : ICode} {env : Env} {σ : AHeap} {Q : Exit → Env → AHeap → Prop} (h : evC P C b env σ Q) : ALabel P C l b env σ Q := ⟨evC_sound b Q env σ h⟩

def lowQ {α : Type} (lab : α → Nat) (I : α → Prop) (R : α → Prop) (sig : α → AHeap) (le : Env → α → Prop) (Q : Exit → Env → AHeap → Prop) : Exit → Env → AHeap → Prop :=
  jumpQ (fun l env' σ' => ∃ x', lab x' = l ∧ I x' ∧ R x' ∧ Sub σ' (sig x') ∧ le env' x') Q

theorem lowQ_mono {α : Type} {lab : α → Nat} {I : α → Prop} {R R' : α → Prop} {sig : α → AHeap} {le : Env → α → Prop} {Q : Exit → Env → AHeap → Prop} (h : ∀ x, R x → R' x) {e : Exit} {env : Env} {σ : AHeap} (k : lowQ lab I R sig le Q e env σ) : lowQ lab I R' sig le Q e env σ := by
  cases e with
  | goto l => obtain ⟨x', h1, h2, h3, h4⟩ := k; exact ⟨x', h1, h2, h _ h3, h4⟩
  | _ => exact k

/-- A scope with jumps; a label that is reached from above is as one that is jumped to. -/
theorem ascope' {α : Type} {b : ICode} {env : Env} {σ : AHeap} {Q : Exit → Env → AHeap → Prop} (live : α → List (Pth × AVal)) (sig : α → AHeap) (lab : α → Nat) (I : α → Prop) (μ : α → Nat)
    (first : clearK env b.writes fun e0 => (∀ (Q2 : Exit → Env → AHeap → Prop), (∀ e env' σ', lowQ lab I (fun _ => True) sig (fun env' x' => setsK e0 (live x') fun e2 => EnvLe env' e2) Q e env' σ' → Q2 e env' σ') →
        ∀ l b' env' σ', (∃ x', lab x' = l ∧ I x' ∧ b.find l = some (.seq .skip b') ∧ Sub σ' (sig x') ∧ setsK e0 (live x') fun e2 => EnvLe env' e2) → ALabel P C l b' env' σ' Q2) →
      evC P C b env σ (lowQ lab I (fun _ => True) sig (fun env' x' => setsK e0 (live x') fun e2 => EnvLe env' e2) Q))
    (pass : ∀ x, I x → ∃ rest, b.find (lab x) = some rest ∧ clearK env b.writes fun e0 => 
      (∀ (Q2 : Exit → Env → AHeap → Prop), (∀ e env' σ', lowQ lab I (fun x' => μ x' < μ x) sig (fun env' x' => setsK e0 (live x') fun e2 => EnvLe env' e2) Q e env' σ' → Q2 e env' σ') →
        ∀ l b' env' σ', (∃ x', lab x' = l ∧ I x' ∧ μ x' < μ x ∧ b.find l = some (.seq .skip b') ∧ Sub σ' (sig x') ∧ setsK e0 (live x') fun e2 => EnvLe env' e2) → ALabel P C l b' env' σ' Q2) →
      setsK e0 (live x) fun e1 => evC P C rest e1 (sig x) (lowQ lab I (fun x' => μ x' < μ x) sig (fun env' x' => setsK e0 (live x') fun e2 => EnvLe env' e2) Q)) :
    AScope P C b env σ Q := by
  simp only [clearK_eq, setsK_eq] at first pass
  have key : ∀ m x, μ x = m → I x → ∃ rest, b.find (lab x) = some rest ∧ evC P C rest (sets (clear env b.writes) (live x)) (sig x) (lowQ lab I (fun x' => μ x' < μ x) sig (fun env' x' => EnvLe env' (sets (clear env b.writes) (live x'))) Q) := by
    intro m
    induction m using Nat.strongRecOn with
    | _ m ih =>
      intro x hm hx
      obtain ⟨rest, h1, h2⟩ := pass x hx
      refine ⟨rest, h1, h2 ?_⟩
      rintro Q2 hQ2 l b' env' σ' ⟨x', rfl, hx', hlt, hf, hs, he⟩
      obtain ⟨r', h3, h4⟩ := ih (μ x') (hm ▸ hlt) x' rfl hx'
      rw [hf] at h3; cases h3
      refine ⟨fun c hc κ a w hS => ?_⟩
      have hw := evC_sound b' _ _ _ (show evC P C b' _ _ _ from h4) c hc κ a w (hS.weaken he hs)
      refine wp_mono hw ?_
      rintro e a' w' ⟨κ', env2, σ2, q1, q2, q3⟩
      exact ⟨κ', env2, σ2, q1, q2, hQ2 _ _ _ (lowQ_mono (fun y hy => Nat.lt_trans hy hlt) q3)⟩
  refine ascope live sig lab I μ ?_ ?_
  · simp only [clearK_eq, setsK_eq]
    have := first ?_
    · refine cast (congrArg _ ?_) this
      funext e env' σ'
      cases e <;> simp [lowQ, jumpQ]
    · rintro Q2 hQ2 l b' env' σ' ⟨x', rfl, hx', hf, hs, he⟩
      obtain ⟨r', h3, h4⟩ := key _ x' rfl hx'
      rw [hf] at h3; cases h3
      refine ⟨fun c hc κ a w hS => ?_⟩
      have hw := evC_sound b' _ _ _ (show evC P C b' _ _ _ from h4) c hc κ a w (hS.weaken he hs)
      refine wp_mono hw ?_
      rintro e a' w' ⟨κ', env2, σ2, q1, q2, q3⟩
      exact ⟨κ', env2, σ2, q1, q2, hQ2 _ _ _ (lowQ_mono (fun _ _ => trivial) q3)⟩
  · intro x hx
    obtain ⟨rest, h1, h2⟩ := key _ x rfl hx
    refine ⟨rest, h1, ?_⟩
    simp only [clearK_eq, setsK_eq]
    exact h2
end
end Go.Am

