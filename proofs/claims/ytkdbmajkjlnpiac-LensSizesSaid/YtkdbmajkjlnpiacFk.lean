/-
  Every operation: what 'ev' says is what the run gives.
-/
import Derived.Test.YtkdbmajkjlnpiacFj
namespace Go.Am
set_option linter.unusedVariables false
set_option linter.unusedSimpArgs false
set_option linter.unusedSectionVars false
open Go.RowKit (Below)

section
variable {P : Program} {κ : Ghost} {σ : AHeap} {w : World} {n : Nat} {env : Env} {a : Act} {K : AVal → AHeap → Prop}

theorem execV (S : Sem Value) {v : Value} {w' : World} (h : S.run P w = .ok v w') : (do pure (.value (← S)) : Sem Next).run P w = .ok (.value v) w' := by simp [h]
theorem execU (S : Sem Unit) {w' : World} (h : S.run P w = .ok () w') : (do S; pure .skip : Sem Next).run P w = .ok .skip w' := by simp [h]

theorem optmap {α β : Type} {o : Option α} {f : α → β} {y : β} (h : o.map f = some y) : ∃ x, o = some x ∧ f x = y := by simpa using h
theorem optbind {α β : Type} {o : Option α} {f : α → Option β} {y : β} (h : o.bind f = some y) : ∃ x, o = some x ∧ f x = some y := by simpa [Option.bind_eq_some_iff] using h
theorem bifsome {β : Type} {c : Bool} {x : Option β} {y : β} (h : (bif c then x else none) = some y) : c = true ∧ x = some y := by cases c <;> simp_all
theorem bifTrue {c : Bool} {p : Prop} (h : bif c then p else False) : c = true ∧ p := by cases c <;> simp_all

theorem ones_cells {κ : Ghost} : ∀ {xs : List AVal} {vs : List Value}, RepL κ xs vs → Ones vs → xs.flatMap AVal.cells = xs ∧ ∀ x ∈ xs, x.cells.length = 1
  | [], _, .nil, _ => ⟨rfl, by simp⟩
  | x :: xs, v :: vs, .cons hv ht, ho => by
    obtain ⟨h1, h2⟩ := ones_cells ht fun u hu => ho u (List.mem_cons_of_mem _ hu)
    have hv1 := ho v (List.mem_cons_self ..)
    have hx : x.cells = [x] := by
      cases hv <;> first | rfl | (simp [Value.oneCell] at hv1)
    refine ⟨by simp only [List.flatMap_cons, hx, h1]; rfl, fun y hy => ?_⟩
    cases hy with
    | head => rw [hx]; rfl
    | tail _ hm => exact h2 y hm

/-- The elements of an append's second operand. -/
theorem elems_spec {s : Nat} {y : AVal} {v : Value} {k : List AVal → Prop} (hI : Inv κ σ w) (hr : RepV κ y v) (h : elemsK σ s y k) (hs0 : s ≠ 0) :
    ∃ ys news, k ys ∧ (∀ y ∈ ys, y.cells.length = s) ∧ RepL κ (ys.flatMap AVal.cells) news ∧ Ones news ∧ (Builtin.lenOf v).run P w = .ok ys.length w ∧
      ∀ w', w'.heap = w.heap → (Builtin.firstCells s ys.length v).run P w' = .ok news.toArray w' := by
  unfold elemsK at h
  split at h
  · rename_i s2 ys t
    obtain ⟨hs, hk⟩ := bifTrue h
    have hs := Nat.eq_of_beq_eq_true hs
    subst hs
    cases hr with
    | nil => exact ⟨[], [], hk, by simp, .nil, (by intro v hv; cases hv), by simp [Builtin.lenOf], fun w' _ => by simp [Builtin.firstCells]⟩
    | slice h1 h2 h3 h4 h5 h6 =>
      rename_i b off len cap vs
      subst h1
      refine ⟨ys, vs, hk, h3, h4, stable_ones hI h5, by simp [Builtin.lenOf], fun w' hw => ?_⟩
      refine run_firstCells_some w' s ys.length ⟨b, off, none⟩ ys.length cap vs (by rw [← h4.length, flat_len h3]) fun j v e => ?_
      rw [addr_add]
      have := (hI.cell _ _ _ (h5 j v e)).1
      simpa [World.cell?, hw] using this
  · rename_i b
    obtain ⟨hs, hk⟩ := bifTrue h
    have hs := Nat.eq_of_beq_eq_true hs
    subst hs
    obtain ⟨rfl, _⟩ := hr.v_inv
    have hrl : ∀ l : List UInt8, RepL κ ((l.map byteV).flatMap AVal.cells) (l.map fun b => Value.int .u8 b.toNat) := by
      intro l
      induction l with
      | nil => exact .nil
      | cons x l ih => exact .cons (.v rfl) ih
    refine ⟨_, b.data.toList.map fun b => Value.int .u8 b.toNat, hk, fun y hy => ?_, hrl _, fun v hv => ?_, by simp [Builtin.lenOf], fun w' _ => ?_⟩
    · obtain ⟨x, _, rfl⟩ := List.mem_map.1 hy; rfl
    · obtain ⟨x, _, rfl⟩ := List.mem_map.1 hv; rfl
    · simp only [Builtin.firstCells, Sem.run_pure, List.length_map]
      congr 1
      apply Array.ext'
      simp
  · rename_i r s2 off ln
    obtain ⟨hs, hk⟩ := bifTrue h
    simp only [Bool.and_eq_true] at hs
    have e1 := Nat.eq_of_beq_eq_true hs.1
    have e2 := Nat.eq_of_beq_eq_true hs.2
    subst e1; subst e2
    rw [AView_def] at hk
    obtain ⟨cs, h1, h2, h3⟩ := hk
    cases hr with
    | ms g1 g2 g3 g4 =>
    rename_i cap b m
    obtain ⟨c, e, vs, us, k1, k2, k3, k4, k5, k6, k7⟩ := hI.objCells h1 g1
    have hl := k4.length
    have hr2 := (k4.drop off).take ln
    have ho2 := (k5.drop off).take ln
    obtain ⟨e1, e2⟩ := ones_cells hr2 ho2
    refine ⟨_, ((vs.drop off).take ln), h3, e2, by rw [e1]; exact hr2, ho2, by simp [Builtin.lenOf]; omega, fun w' hw => ?_⟩
    refine run_firstCells_some w' 1 _ ⟨b, off, none⟩ ln cap _ (by simp; omega) fun j v e => ?_
    rw [addr_add]
    rw [List.getElem?_take] at e
    split at e
    · rw [List.getElem?_drop] at e
      have := k7 (off + j) v e
      rw [Nat.zero_add] at this
      simpa [World.cell?, hw] using this
    · cases e
  · exact h.elim

theorem run_append (C : Call) (hb : C.callee = .builtin .append) (ρ : Operand → Value) (ty : TypeId) (dst : Option Tmp) (pos : String) (after : Array Edge) (guard : Option (Nat × Bool)) {v : Value} {w' : World}
    (h : (Builtin.append_ C.argTypes ty (C.args.map ρ)).run P w = .ok v w') : (execOp ρ ⟨dst, .call C, ty, pos, after, guard⟩).run P w = .ok (.value v) w' := by
  simp [execOp, resolve, hb, invoke, Go.builtin, h]

theorem run_call_fn {C : Call} {g : FuncId} (hb : C.callee = .value (.func g)) (ρ : Operand → Value) (hρ : ρ (.func g) = .func (.func g) #[] #[]) (ty : TypeId) (dst : Option Tmp) (pos : String) (after : Array Edge) (guard : Option (Nat × Bool)) (hc : callB P g = true) :
    (execOp ρ ⟨dst, .call C, ty, pos, after, guard⟩).run P w = .ok (.enter g (C.args.map ρ)) w := by
  unfold callB at hc
  split at hc
  · rename_i fn hf
    simp only [Bool.and_eq_true, Bool.not_eq_true'] at hc
    have h1 : fn.body.isNone = false := by cases hb : fn.body <;> simp_all
    have h2 : (fn.name == "runtime.NumGoroutine") = false := hc.2
    simp only [execOp, resolve, hb, hρ, Deferred.ofValue, invoke, callFunc, Sem.run_bind, Sem.run_pure, Result.andThen_ok, run_program, hf, h1, h2, Bool.false_eq_true, if_false]
    simp [hf, h1, h2]
  · cases hc

theorem opT_agg {P : Program} {t : TypeId} {v : Value} {x : Opd} (h : opT P t (.const v) = some x) : ∃ y, x = .c y := by
  simp only [opT] at h; obtain ⟨y, _, rfl⟩ := optmap h; exact ⟨y, rfl⟩

theorem lgetK_spec {κ : Ghost} {k : AVal → Prop} : ∀ {l : List AVal} {m : List Value} {j : Nat}, RepL κ l m → lgetK l j k → ∃ y v, m[j]? = some v ∧ RepV κ y v ∧ k y
  | [], _, _, _, h => h.elim
  | x :: l, v :: m, 0, .cons hx _, h => ⟨x, v, by simp, hx, h⟩
  | x :: l, v :: m, j + 1, .cons _ ht, h => by obtain ⟨y, u, h1, h2, h3⟩ := lgetK_spec (j := j) ht h; exact ⟨y, u, by simpa using h1, h2, h3⟩

/-- Against nil: what the run of '==' and '!=' gives, if the values' kinds are the type's. -/
theorem nil_run {P : Program} {w : World} {op : BinOp} {t : TypeId} {p q : Operand} {neg : Bool} (hop : (op = .eql ∧ neg = false) ∨ (op = .neq ∧ neg = true)) {x y : Value} {r : Bool}
    (hk : (∃ e a l c c2 l2, P.underlying t = some (.slice e) ∧ x = .slice a l c ∧ y = .slice none l2 c2 ∧ r = a.isNone) ∨ (∃ e a, P.underlying t = some (.pointer e) ∧ x = .pointer a ∧ y = .pointer none ∧ r = a.isNone) ∨
      (∃ k e a, P.underlying t = some (.map k e) ∧ x = .map a ∧ y = .map none ∧ r = a.isNone)) :
    (do eqGuard op t p q x y; binOp op t x y : Sem Value).run P w = .ok (.bool (r != neg)) w := by
  have he : ∀ d, (Op.equalIn (d + 1) t x y).run P w = .ok r w := by
    intro d
    rcases hk with ⟨e, a, l, c, c2, l2, ht, rfl, rfl, rfl⟩ | ⟨e, a, ht, rfl, rfl, rfl⟩ | ⟨k, e, a, ht, rfl, rfl, rfl⟩ <;> cases a <;> simp [Op.equalIn, run_underlying ht]
  have hq : (Op.equal t x y).run P w = .ok r w := he 9999
  have hg : ∀ S : Sem Value, (do eqGuard op t p q x y; S : Sem Value).run P w = S.run P w := by
    intro S
    rcases hk with ⟨e, a, l, c, c2, l2, ht, rfl, rfl, rfl⟩ | ⟨e, a, ht, rfl, rfl, rfl⟩ | ⟨k, e, a, ht, rfl, rfl, rfl⟩ <;> rcases hop with ⟨rfl, rfl⟩ | ⟨rfl, rfl⟩ <;> simp [eqGuard]
  rw [hg]
  have hb : (binOp op t x y).run P w = (do pure (.bool ((← Op.equal t x y) != neg)) : Sem Value).run P w := by
    rcases hk with ⟨e, a, l, c, c2, l2, ht, rfl, rfl, rfl⟩ | ⟨e, a, ht, rfl, rfl, rfl⟩ | ⟨k, e, a, ht, rfl, rfl, rfl⟩ <;> rcases hop with ⟨rfl, rfl⟩ | ⟨rfl, rfl⟩ <;> simp [binOp]
  rw [hb]
  simp [hq]

theorem ev_nil {dst : Option Tmp} {ty : TypeId} {pos : String} {after : Array Edge} {guard : Option (Nat × Bool)} {b : BinOp} {t : TypeId} {x y : Operand} {u : TypeId} {neg : Bool} {x' : Opd} {kd : Nat}
    (hop : (b = .eql ∧ neg = false) ∨ (b = .neq ∧ neg = true))
    (ht : (kd = 0 ∧ (∃ e, P.underlying t = some (.slice e)) ∧ ∃ l c, y = .const (.slice none l c)) ∨ (kd = 1 ∧ (∃ e, P.underlying t = some (.pointer e)) ∧ y = .const (.pointer none)) ∨
      (kd = 2 ∧ (∃ k e, P.underlying t = some (.map k e)) ∧ y = .const (.map none)))
    (hI : Inv κ σ w) (hx : RepV κ (x'.get env) (a.eval x)) (h : IOp.ev P env σ (.eqNil kd neg x') K) : Good P a.eval ⟨dst, .binOp b t x y u, ty, pos, after, guard⟩ κ w K := by
  have fin : ∀ (vx : Value) (r : Bool), a.eval x = vx → ((do eqGuard b t x y vx (a.eval y); binOp b t vx (a.eval y) : Sem Value).run P w = .ok (.bool (r != neg)) w) → K (.v (.bool (r != neg))) σ →
      Good P a.eval ⟨dst, .binOp b t x y u, ty, pos, after, guard⟩ κ w K := by
    intro vx r h1 h2 h3
    refine .pure (v := .bool (r != neg)) ?_ hI (.v rfl) h3
    simp only [execOp, h1]
    exact execV _ h2
  have nf : (false != neg) = neg := by cases neg <;> rfl
  have nt : (true != neg) = !neg := by cases neg <;> rfl
  rcases ht with ⟨rfl, ⟨e, ht⟩, l, c, rfl⟩ | ⟨rfl, ⟨e, ht⟩, rfl⟩ | ⟨rfl, ⟨k, e, ht⟩, rfl⟩ <;> simp only [IOp.ev, Opd.getK_eq] at h <;> split at h <;> rename_i he <;> (try contradiction) <;> (try exact h.elim) <;> rw [he] at hx
  · rw [ANil_def] at h
    rcases hx.slice_inv with ⟨hv, hn⟩ | ⟨b', off, cap, vs, hv, _⟩
    · exact fin _ true hv (nil_run hop (.inl ⟨e, none, 0, 0, _, _, ht, rfl, rfl, rfl⟩)) (h.2 hn)
    · exact fin _ false hv (nil_run hop (.inl ⟨e, _, _, _, _, _, ht, rfl, rfl, rfl⟩)) h.1
  · obtain ⟨b', cap, m, hv, _⟩ := hx.ms_inv
    exact fin _ false hv (nil_run hop (.inl ⟨e, _, _, _, _, _, ht, rfl, rfl, rfl⟩)) (by rw [nf]; exact h)
  · obtain ⟨b', hv, _⟩ := hx.ptr_inv
    exact fin _ false hv (nil_run hop (.inr (.inl ⟨e, _, ht, rfl, rfl, rfl⟩))) (by rw [nf]; exact h)
  · obtain ⟨b', o', vs, hv, _⟩ := hx.eptr_inv
    exact fin _ false hv (nil_run hop (.inr (.inl ⟨e, _, ht, rfl, rfl, rfl⟩))) (by rw [nf]; exact h)
  · obtain ⟨hv, _⟩ := hx.v_inv
    exact fin _ true hv (nil_run hop (.inr (.inl ⟨e, none, ht, rfl, rfl, rfl⟩))) (by rw [nt]; exact h)
  · obtain ⟨b', hv, _⟩ := hx.map_inv
    exact fin _ false hv (nil_run hop (.inr (.inr ⟨k, e, _, ht, rfl, rfl, rfl⟩))) (by rw [nf]; exact h)
  · obtain ⟨hv, _⟩ := hx.v_inv
    exact fin _ true hv (nil_run hop (.inr (.inr ⟨k, e, none, ht, rfl, rfl, rfl⟩))) (by rw [nt]; exact h)

/-- Operations that only reckon: moves, numbers, comparisons. -/
theorem ev_plain {C : Cfg} {o : Oper} {op : IOp} (hC : comp P C o = some op) (hI : Inv κ σ w) (hE : RepE κ n env a.tmps) (h : op.ev P env σ K)
    (hk : (∃ x, o.op = .move x) ∨ (∃ x, o.op = .assign x) ∨ (∃ c x y, o.op = .pick c x y) ∨ (∃ b t x y u, o.op = .binOp b t x y u) ∨ (∃ t x, o.op = .unOp .not t x) ∨ (∃ x i, o.op = .extract x i) ∨ (∃ x, o.op = .nilCheck x)) :
    Good P a.eval o κ w K := by
  obtain ⟨dst, opc, ty, pos, after, guard⟩ := o
  rcases hk with ⟨x, rfl⟩ | ⟨x, rfl⟩ | ⟨c, x, y, rfl⟩ | ⟨b, t, x, y, u, rfl⟩ | ⟨t, x, rfl⟩ | ⟨x, i, rfl⟩ | ⟨x, rfl⟩ <;> simp only [comp] at hC
  · obtain ⟨z, hz, rfl⟩ := optmap hC
    simp only [IOp.ev, Opd.getK_eq] at h
    exact .pure (x := z.get env) rfl hI (opT_spec hE hz) h
  · obtain ⟨z, hz, rfl⟩ := optmap hC
    simp only [IOp.ev, Opd.getK_eq] at h
    exact .pure (x := z.get env) rfl hI (opT_spec hE hz) h
  · obtain ⟨c', hc, hC⟩ := optbind hC
    obtain ⟨x', hx, hC⟩ := optbind hC
    obtain ⟨y', hy, rfl⟩ := optmap hC
    have rc := opT_spec hE hc
    simp only [IOp.ev, Opd.getK_eq] at h
    split at h
    · rename_i t he
      rw [he] at rc
      obtain ⟨rc, _⟩ := rc.v_inv
      rw [ABr_def] at h
      have hrun : (execOp a.eval ⟨dst, .pick c x y, ty, pos, after, guard⟩).run P w = .ok (.value (if t then a.eval x else a.eval y)) w := by simp [execOp, rc, asBool]
      cases t
      · exact .pure hrun hI (opT_spec hE hy) h
      · exact .pure hrun hI (opT_spec hE hx) h
    · exact h.elim
  · have fin : ∀ (tb : Bool) (x' y' : Opd), (tb = true → P.underlying t = some .bool) → opT P t x = some x' → opT P u y = some y' → IOp.ev P env σ (.bin tb b x' y') K → Good P a.eval ⟨dst, .binOp b t x y u, ty, pos, after, guard⟩ κ w K := by
      intro tb x' y' htb hx hy h
      have rx := opT_spec hE hx
      have ry := opT_spec hE hy
      simp only [IOp.ev, Opd.getK_eq] at h
      split at h
      · rename_i av bv h1 h2
        rw [h1] at rx; rw [h2] at ry
        obtain ⟨rx, _⟩ := rx.v_inv
        obtain ⟨ry, _⟩ := ry.v_inv
        obtain ⟨r, h3, h4, h5⟩ := binE_spec (P := P) (w := w) (p := x) (q := y) htb h
        refine .pure (v := r) ?_ hI (.v h4) h5
        simp only [execOp, rx, ry]
        exact execV _ h3
      · exact h.elim
    split at hC
    · obtain ⟨x', hx, hC⟩ := optbind hC
      obtain ⟨y', hy, rfl⟩ := optmap hC
      exact fin false x' y' (by simp) hx hy h
    · obtain ⟨x', hx, hC⟩ := optbind hC
      obtain ⟨y', hy, rfl⟩ := optmap hC
      exact fin false x' y' (by simp) hx hy h
    · rename_i hb
      obtain ⟨x', hx, hC⟩ := optbind hC
      obtain ⟨y', hy, rfl⟩ := optmap hC
      exact fin true x' y' (fun _ => hb) hx hy h
    · rename_i e ht
      split at hC
      · obtain ⟨x', hx, rfl⟩ := optmap hC
        exact ev_nil (.inl ⟨rfl, rfl⟩) (.inl ⟨rfl, ⟨e, ht⟩, _, _, rfl⟩) hI (opT_spec hE hx) h
      · obtain ⟨x', hx, rfl⟩ := optmap hC
        exact ev_nil (.inr ⟨rfl, rfl⟩) (.inl ⟨rfl, ⟨e, ht⟩, _, _, rfl⟩) hI (opT_spec hE hx) h
      · cases hC
    · rename_i e ht
      split at hC
      · obtain ⟨x', hx, rfl⟩ := optmap hC
        exact ev_nil (.inl ⟨rfl, rfl⟩) (.inr (.inl ⟨rfl, ⟨e, ht⟩, rfl⟩)) hI (opT_spec hE hx) h
      · obtain ⟨x', hx, rfl⟩ := optmap hC
        exact ev_nil (.inr ⟨rfl, rfl⟩) (.inr (.inl ⟨rfl, ⟨e, ht⟩, rfl⟩)) hI (opT_spec hE hx) h
      · cases hC
    · rename_i k e ht
      split at hC
      · obtain ⟨x', hx, rfl⟩ := optmap hC
        exact ev_nil (.inl ⟨rfl, rfl⟩) (.inr (.inr ⟨rfl, ⟨k, e, ht⟩, rfl⟩)) hI (opT_spec hE hx) h
      · obtain ⟨x', hx, rfl⟩ := optmap hC
        exact ev_nil (.inr ⟨rfl, rfl⟩) (.inr (.inr ⟨rfl, ⟨k, e, ht⟩, rfl⟩)) hI (opT_spec hE hx) h
      · cases hC
    · cases hC
  · obtain ⟨z, hz, rfl⟩ := optmap hC
    have rz := opT_spec hE hz
    simp only [IOp.ev, Opd.getK_eq] at h
    split at h
    · rename_i b he
      rw [he] at rz
      obtain ⟨rz, _⟩ := rz.v_inv
      exact .pure (v := .bool (!b)) (by simp [execOp, rz, Op.unary]) hI (.v rfl) h
    · exact h.elim
  · obtain ⟨z, hz, rfl⟩ := optmap hC
    have rz := opT_spec hE hz
    simp only [IOp.ev, Opd.getK_eq] at h
    split at h
    · rename_i vs he
      rw [he] at rz
      obtain ⟨us, hv, hr⟩ := rz.tup_inv
      obtain ⟨y, u, h1, h2, h3⟩ := lgetK_spec hr h
      exact .pure (v := u) (by simp [execOp, hv, Instr.extract, h1]) hI h2 h3
    · exact h.elim
  · obtain ⟨z, hz, rfl⟩ := optmap hC
    have rz := opT_spec hE hz
    simp only [IOp.ev, Opd.getK_eq] at h
    split at h
    · rename_i id off he
      rw [he] at rz
      obtain ⟨b, hv, hb⟩ := rz.ptr_inv
      exact .pure (v := .pointer (some ⟨b, off, none⟩)) (by simp [execOp, hv]) hI (.ptr hb) h
    · rename_i cs off he
      rw [he] at rz
      obtain ⟨b, q, vs, hv, hb, hc⟩ := rz.eptr_inv
      exact .pure (v := .pointer (some ⟨b, q + off, none⟩)) (by simp [execOp, hv]) hI (.eptr hb hc) h
    · exact h.elim
end
end Go.Am

