/-
  Texts of this claim, pack 1: Fk, Fl, Fm, Fn, Fx, Fo, Fp, Fq, Fr.
-/
import Derived.Test.YtgbpjbpdpgbngaaK0
import Derived.Laws.StructEq
import Derived.MapKept
import Derived.ChangeKeysEq
set_option linter.unusedSimpArgs false
set_option linter.unusedVariables false
/-
  Every operation: what 'ev' says is what the run gives.
-/
namespace Go.Am
set_option linter.unusedSectionVars false
open Go.RowKit (Below)

section
variable {P : Program} {κ : Ghost} {σ : AHeap} {w : World} {n : Nat} {env : Env} {a : Act} {K : AVal → AHeap → Prop}

theorem execV (S : Sem Value) {v : Value} {w' : World} (h : S.run P w = .ok v w') : (do pure (.value (← S)) : Sem Next).run P w = .ok (.value v) w' := by simp [h]
theorem execU (S : Sem Unit) {w' : World} (h : S.run P w = .ok () w') : (do S; pure .skip : Sem Next).run P w = .ok .skip w' := by simp [h]

theorem optmap {α β : Type} {o : Option α} {f : α → β} {y : β} (h : o.map f = some y) : ∃ x, o = some x ∧ f x = y := by simpa using h
theorem optbind {α β : Type} {o : Option α} {f : α → Option β} {y : β} (h : o.bind f = some y) : ∃ x, o = some x ∧ f x = some y := by simpa [Option.bind_eq_some_iff] using h
theorem bifsome {β : Type} {c : Bool} {x : Option β} {y : β} (h : (bif c then x else none) = some y) : c = true ∧ x = some y := by cases c <;> simp_all
theorem bifTrue {c : Bool} {p : Prop} (h : bif c then p else False) : c = true ∧ p := by cases c <;> simp_all

theorem ones_cells {κ : Ghost} : ∀ {xs : List AVal} {vs : List Value}, RepL κ xs vs → Ones vs → xs.flatMap AVal.cells = xs ∧ ∀ x ∈ xs, x.cells.length = 1
  | [], _, .nil, _ => ⟨rfl, by simp⟩
  | x :: xs, v :: vs, .cons hv ht, ho => by
    obtain ⟨h1, h2⟩ := ones_cells ht fun u hu => ho u (List.mem_cons_of_mem _ hu)
    have hv1 := ho v (List.mem_cons_self ..)
    have hx : x.cells = [x] := by
      cases hv <;> first | rfl | (simp [Value.oneCell] at hv1)
    refine ⟨by simp only [List.flatMap_cons, hx, h1]; rfl, fun y hy => ?_⟩
    cases hy with
    | head => rw [hx]; rfl
    | tail _ hm => exact h2 y hm

theorem chunkA_spec (s : Nat) : ∀ (n : Nat) (l : List AVal), l.length = n * s → (chunkA s n l).length = n ∧ (∀ y ∈ chunkA s n l, y.cells.length = s) ∧ (chunkA s n l).flatMap AVal.cells = l
  | 0, l, h => by
    have : l = [] := List.length_eq_zero_iff.1 (by omega)
    subst this
    exact ⟨rfl, nofun, rfl⟩
  | n + 1, l, h => by
    rw [Nat.succ_mul] at h
    obtain ⟨h1, h2, h3⟩ := chunkA_spec s n (l.drop s) (by rw [List.length_drop]; omega)
    refine ⟨by show (chunkA s n (l.drop s)).length + 1 = _; omega, ?_, ?_⟩
    · intro y hy
      rcases List.mem_cons.1 hy with rfl | hy
      · show (l.take s).length = s
        rw [List.length_take]; omega
      · exact h2 y hy
    · show l.take s ++ (chunkA s n (l.drop s)).flatMap AVal.cells = l
      rw [h3, List.take_append_drop]
/-- The elements of an append's second operand. -/
theorem elems_spec {s : Nat} {y : AVal} {v : Value} {k : List AVal → Prop} (hI : Inv κ σ w) (hr : RepV κ y v) (h : elemsK σ s y k) (hs0 : s ≠ 0) :
    ∃ ys news, k ys ∧ (∀ y ∈ ys, y.cells.length = s) ∧ RepL κ (ys.flatMap AVal.cells) news ∧ Ones news ∧ (Builtin.lenOf v).run P w = .ok ys.length w ∧
      ∀ w', w'.heap = w.heap → (Builtin.firstCells s ys.length v).run P w' = .ok news.toArray w' := by
  unfold elemsK at h
  split at h
  · rename_i s2 ys t
    obtain ⟨hs, hk⟩ := bifTrue h
    have hs := Nat.eq_of_beq_eq_true hs
    subst hs
    cases hr with
    | nil => exact ⟨[], [], hk, by simp, .nil, (by intro v hv; cases hv), by simp [Builtin.lenOf], fun w' _ => firstCells_zero ..⟩
    | slice h1 h2 h3 h4 h5 h6 =>
      rename_i b off len cap vs
      subst h1
      refine ⟨ys, vs, hk, h3, h4, stable_ones hI h5, by simp [Builtin.lenOf], fun w' hw => ?_⟩
      refine run_firstCells_some w' s ys.length ⟨b, off, none⟩ ys.length cap vs (by rw [← h4.length, flat_len h3]) fun j v e => ?_
      rw [addr_add]
      have := (hI.cell _ _ _ (h5 j v e)).1
      simpa [World.cell?, hw] using this
  · rename_i b
    obtain ⟨hs, hk⟩ := bifTrue h
    have hs := Nat.eq_of_beq_eq_true hs
    subst hs
    obtain ⟨rfl, _⟩ := hr.v_inv
    have hrl : ∀ l : List UInt8, RepL κ ((l.map byteV).flatMap AVal.cells) (l.map fun b => Value.int .u8 b.toNat) := by
      intro l
      induction l with
      | nil => exact .nil
      | cons x l ih => exact .cons (.v rfl) ih
    refine ⟨_, b.data.toList.map fun b => Value.int .u8 b.toNat, hk, fun y hy => ?_, hrl _, fun v hv => ?_, by simp [Builtin.lenOf], fun w' _ => ?_⟩
    · obtain ⟨x, _, rfl⟩ := List.mem_map.1 hy; rfl
    · obtain ⟨x, _, rfl⟩ := List.mem_map.1 hv; rfl
    · simp only [Builtin.firstCells, Sem.run_pure, List.length_map]
      congr 1
      apply Array.ext'
      simp
  · rename_i r s2 off ln
    obtain ⟨hs, hk⟩ := bifTrue h
    have e0 := Nat.eq_of_beq_eq_true hs
    subst e0
    have key : ∀ {K2 : List AVal → Prop}, AView σ r off (ln * s) K2 → ∃ l vs, l.length = ln * s ∧ K2 l ∧ RepL κ l vs ∧ Ones vs ∧ ∀ w', w'.heap = w.heap → (Builtin.firstCells s ln v).run P w' = .ok vs.toArray w' := by
      intro K2 hk
      rw [AView_def] at hk
      obtain ⟨cs, h1, h2, h3⟩ := hk
      cases hr with
      | ms g1 g2 g3 g4 =>
      rename_i cap b m
      obtain ⟨c, e, vs, us, k1, k2, k3, k4, k5, k6, k7⟩ := hI.objCells h1 g1
      have hl := k4.length
      refine ⟨_, (vs.drop off).take (ln * s), by rw [List.length_take, List.length_drop]; omega, h3, (k4.drop off).take (ln * s), (k5.drop off).take (ln * s), fun w' hw => ?_⟩
      refine run_firstCells_some w' s _ ⟨b, off, none⟩ ln cap _ (by simp; omega) fun j v e => ?_
      rw [addr_add]
      rw [List.getElem?_take] at e
      split at e
      · rw [List.getElem?_drop] at e
        have := k7 (off + j) v e
        rw [Nat.zero_add] at this
        simpa [World.cell?, hw] using this
      · cases e
    have hlen : (Builtin.lenOf v).run P w = .ok ln w := by cases hr with | ms g1 g2 g3 g4 => simp [Builtin.lenOf]
    by_cases h1 : s = 1
    · subst h1
      have hk : AView σ r off ln k := hk
      obtain ⟨l, vs, q0, q1, q2, q3, q4⟩ := key (K2 := k) (by rw [Nat.mul_one]; exact hk)
      obtain ⟨e1, e2⟩ := ones_cells q2 q3
      refine ⟨l, vs, q1, e2, by rw [e1]; exact q2, q3, by rw [hlen]; congr 1; omega, ?_⟩
      rw [show l.length = ln by omega]
      exact q4
    · have hb : Nat.beq s 1 = false := by cases e : Nat.beq s 1 with
        | false => rfl
        | true => exact absurd (Nat.eq_of_beq_eq_true e) h1
      rw [hb] at hk
      obtain ⟨l, vs, q0, q1, q2, q3, q4⟩ := key hk
      obtain ⟨c1, c2, c3⟩ := chunkA_spec s ln l (by omega)
      refine ⟨_, vs, q1, c2, by rw [c3]; exact q2, q3, by rw [hlen, c1], ?_⟩
      rw [c1]
      exact q4
  · exact h.elim

theorem run_call_fn {C : Call} {g : FuncId} (hb : C.callee = .value (.func g)) (ρ : Operand → Value) (hρ : ρ (.func g) = .func (.func g) #[] #[]) (ty : TypeId) (dst : Option Tmp) (pos : String) (after : Array Edge) (guard : Option (Nat × Bool)) (hc : callB P g = true) :
    (execOp ρ ⟨dst, .call C, ty, pos, after, guard⟩).run P w = .ok (.enter g (C.args.map ρ)) w := by
  unfold callB at hc
  split at hc
  · rename_i fn hf
    simp only [Bool.and_eq_true, Bool.not_eq_true'] at hc
    have h1 : fn.body.isNone = false := by cases hb : fn.body <;> simp_all
    have h2 : (fn.name == "runtime.NumGoroutine") = false := hc.2
    simp only [execOp, resolve, hb, hρ, Deferred.ofValue, invoke, callFunc, Sem.run_bind, Sem.run_pure, Result.andThen_ok, run_program, hf, h1, h2, Bool.false_eq_true, if_false]
    simp [hf, h1, h2]
  · cases hc

theorem lgetK_spec {κ : Ghost} {k : AVal → Prop} : ∀ {l : List AVal} {m : List Value} {j : Nat}, RepL κ l m → lgetK l j k → ∃ y v, m[j]? = some v ∧ RepV κ y v ∧ k y
  | [], _, _, _, h => h.elim
  | x :: l, v :: m, 0, .cons hx _, h => ⟨x, v, by simp, hx, h⟩
  | x :: l, v :: m, j + 1, .cons _ ht, h => by obtain ⟨y, u, h1, h2, h3⟩ := lgetK_spec (j := j) ht h; exact ⟨y, u, by simpa using h1, h2, h3⟩

/-- Against nil: what the run of '==' and '!=' gives, if the values' kinds are the type's. -/
theorem nil_run {P : Program} {w : World} {op : BinOp} {t : TypeId} {p q : Operand} {neg : Bool} (hop : (op = .eql ∧ neg = false) ∨ (op = .neq ∧ neg = true)) {x y : Value} {r : Bool}
    (hk : (∃ e a l c c2 l2, P.underlying t = some (.slice e) ∧ x = .slice a l c ∧ y = .slice none l2 c2 ∧ r = a.isNone) ∨ (∃ e a, P.underlying t = some (.pointer e) ∧ x = .pointer a ∧ y = .pointer none ∧ r = a.isNone) ∨
      (∃ k e a, P.underlying t = some (.map k e) ∧ x = .map a ∧ y = .map none ∧ r = a.isNone)) :
    (do eqGuard op t p q x y; binOp op t x y : Sem Value).run P w = .ok (.bool (r != neg)) w := by
  have he : ∀ d, (Op.equalIn (d + 1) t x y).run P w = .ok r w := by
    intro d
    rcases hk with ⟨e, a, l, c, c2, l2, ht, rfl, rfl, rfl⟩ | ⟨e, a, ht, rfl, rfl, rfl⟩ | ⟨k, e, a, ht, rfl, rfl, rfl⟩ <;> cases a <;> simp [Op.equalIn, run_underlying ht]
  have hq : (Op.equal t x y).run P w = .ok r w := he 9999
  have hg : ∀ S : Sem Value, (do eqGuard op t p q x y; S : Sem Value).run P w = S.run P w := by
    intro S
    rcases hk with ⟨e, a, l, c, c2, l2, ht, rfl, rfl, rfl⟩ | ⟨e, a, ht, rfl, rfl, rfl⟩ | ⟨k, e, a, ht, rfl, rfl, rfl⟩ <;> rcases hop with ⟨rfl, rfl⟩ | ⟨rfl, rfl⟩ <;> simp [eqGuard]
  rw [hg]
  have hb : (binOp op t x y).run P w = (do pure (.bool ((← Op.equal t x y) != neg)) : Sem Value).run P w := by
    rcases hk with ⟨e, a, l, c, c2, l2, ht, rfl, rfl, rfl⟩ | ⟨e, a, ht, rfl, rfl, rfl⟩ | ⟨k, e, a, ht, rfl, rfl, rfl⟩ <;> rcases hop with ⟨rfl, rfl⟩ | ⟨rfl, rfl⟩ <;> simp [binOp]
  rw [hb]
  simp [hq]

theorem ev_nil {dst : Option Tmp} {ty : TypeId} {pos : String} {after : Array Edge} {guard : Option (Nat × Bool)} {b : BinOp} {t : TypeId} {x y : Operand} {u : TypeId} {neg : Bool} {x' : Opd} {kd : Nat}
    (hop : (b = .eql ∧ neg = false) ∨ (b = .neq ∧ neg = true))
    (ht : (kd = 0 ∧ (∃ e, P.underlying t = some (.slice e)) ∧ ∃ l c, y = .const (.slice none l c)) ∨ (kd = 1 ∧ (∃ e, P.underlying t = some (.pointer e)) ∧ y = .const (.pointer none)) ∨
      (kd = 2 ∧ (∃ k e, P.underlying t = some (.map k e)) ∧ y = .const (.map none)))
    (hI : Inv κ σ w) (hx : RepV κ (x'.get env) (a.eval x)) (h : IOp.ev P env σ (.eqNil kd neg x') K) : Good P a.eval ⟨dst, .binOp b t x y u, ty, pos, after, guard⟩ κ w K := by
  have fin : ∀ (vx : Value) (r : Bool), a.eval x = vx → ((do eqGuard b t x y vx (a.eval y); binOp b t vx (a.eval y) : Sem Value).run P w = .ok (.bool (r != neg)) w) → K (.v (.bool (r != neg))) σ →
      Good P a.eval ⟨dst, .binOp b t x y u, ty, pos, after, guard⟩ κ w K := by
    intro vx r h1 h2 h3
    refine .pure (v := .bool (r != neg)) ?_ hI (.v rfl) h3
    simp only [execOp, h1]
    exact execV _ h2
  have nf : (false != neg) = neg := by cases neg <;> rfl
  have nt : (true != neg) = !neg := by cases neg <;> rfl
  rcases ht with ⟨rfl, ⟨e, ht⟩, l, c, rfl⟩ | ⟨rfl, ⟨e, ht⟩, rfl⟩ | ⟨rfl, ⟨k, e, ht⟩, rfl⟩ <;> simp only [IOp.ev, Opd.getK_eq] at h <;> split at h <;> rename_i he <;> (try contradiction) <;> (try exact h.elim) <;> rw [he] at hx
  · rw [ANil_def] at h
    rcases hx.slice_inv with ⟨hv, hn⟩ | ⟨b', off, cap, vs, hv, _⟩
    · obtain ⟨a0, hv⟩ := hv
      cases a0 with
      | none => exact fin _ true hv (nil_run hop (.inl ⟨e, none, 0, 0, _, _, ht, rfl, rfl, rfl⟩)) (h.2 hn)
      | some a0 => exact fin _ false hv (nil_run hop (.inl ⟨e, some a0, 0, 0, _, _, ht, rfl, rfl, rfl⟩)) h.1
    · exact fin _ false hv (nil_run hop (.inl ⟨e, _, _, _, _, _, ht, rfl, rfl, rfl⟩)) h.1
  · obtain ⟨b', cap, m, hv, _⟩ := hx.ms_inv
    exact fin _ false hv (nil_run hop (.inl ⟨e, _, _, _, _, _, ht, rfl, rfl, rfl⟩)) (by rw [nf]; exact h)
  · obtain ⟨b', hv, _⟩ := hx.ptr_inv
    exact fin _ false hv (nil_run hop (.inr (.inl ⟨e, _, ht, rfl, rfl, rfl⟩))) (by rw [nf]; exact h)
  · obtain ⟨b', o', vs, hv, _⟩ := hx.eptr_inv
    exact fin _ false hv (nil_run hop (.inr (.inl ⟨e, _, ht, rfl, rfl, rfl⟩))) (by rw [nf]; exact h)
  · obtain ⟨hv, _⟩ := hx.v_inv
    exact fin _ true hv (nil_run hop (.inr (.inl ⟨e, none, ht, rfl, rfl, rfl⟩))) (by rw [nt]; exact h)
  · obtain ⟨b', hv, _⟩ := hx.map_inv
    exact fin _ false hv (nil_run hop (.inr (.inr ⟨k, e, _, ht, rfl, rfl, rfl⟩))) (by rw [nf]; exact h)
  · obtain ⟨hv, _⟩ := hx.v_inv
    exact fin _ true hv (nil_run hop (.inr (.inr ⟨k, e, none, ht, rfl, rfl, rfl⟩))) (by rw [nt]; exact h)

theorem run_part_int {P : Program} {t : TypeId} {k : IntKind} (ht : P.underlying t = some (.int k)) {xs : Array Value} {off : Nat} {v : Value} (hx : xs[off]? = some v) (w : World) : (part t xs off).run P w = .ok v w := by
  simp [part, isAgg, run_underlying ht, hx]

theorem run_part_bool {P : Program} {t : TypeId} (ht : P.underlying t = some .bool) {xs : Array Value} {off : Nat} {v : Value} (hx : xs[off]? = some v) (w : World) : (part t xs off).run P w = .ok v w := by
  simp [part, isAgg, run_underlying ht, hx]
theorem run_equalIn_bool {P : Program} (w : World) (d : Nat) (t : TypeId) (a b : Bool) (ht : P.underlying t = some .bool) : (Op.equalIn (d + 1) t (.bool a) (.bool b)).run P w = .ok (a == b) w := by
  cases a <;> cases b <;> simp [Op.equalIn, run_underlying ht]

theorem eqFields_spec {P : Program} {κ : Ghost} {w : World} {xs ys : Array Value} {d : Nat} : ∀ (fs : List Field) (k : Nat) (as bs : List AVal) {K : Bool → Prop}, flatFs P k fs = true → RepL κ as (xs.toList.drop k) → RepL κ bs (ys.toList.drop k) → eqCells (flatKs P fs) as bs K →
    ∃ r, (Op.eqFields (d + 1) xs ys fs).run P w = .ok r w ∧ K r
  | [], k, as, bs, K, _, _, _, h => by
    simp only [flatKs, List.map_nil] at h
    cases as <;> cases bs <;> simp only [eqCells] at h
    exact ⟨true, by simp [Op.eqFields], h⟩
  | f :: fs, k, as, bs, K, hf, ha, hb, h => by
    simp only [flatFs, Bool.and_eq_true, Bool.not_eq_true', decide_eq_false_iff_not, Bool.or_eq_true] at hf
    obtain ⟨⟨⟨f1, f2⟩, f3⟩, f4⟩ := hf
    have f2 := Nat.eq_of_beq_eq_true f2
    simp only [flatKs, List.map_cons] at h
    unfold eqCells at h
    split at h
    · exact absurd ‹_ :: _ = []› (by simp)
    · rename_i ks k1 x as' k2 y bs' he
      injection he with he1 he2
      have f3 : plainI P f.type = true := by rcases f3 with h | h; exact h; rw [h] at he1; cases he1
      obtain ⟨kd, f3⟩ := plainI_spec f3
      obtain ⟨hk, hh⟩ := bifTrue h
      have hk := of_decide_eq_true hk
      subst hk
      have hx : xs.toList.drop k ≠ [] := fun e => by rw [e] at ha; cases ha
      have hy : ys.toList.drop k ≠ [] := fun e => by rw [e] at hb; cases hb
      have lx : k < xs.toList.length := Classical.byContradiction fun hn => hx (List.drop_eq_nil_of_le (by omega))
      have ly : k < ys.toList.length := Classical.byContradiction fun hn => hy (List.drop_eq_nil_of_le (by omega))
      rw [List.drop_eq_getElem_cons lx] at ha
      rw [List.drop_eq_getElem_cons ly] at hb
      cases ha with | cons ha1 ha2 =>
      cases hb with | cons hb1 hb2 =>
      obtain ⟨e1, _⟩ := ha1.v_inv
      obtain ⟨e2, _⟩ := hb1.v_inv
      have p1 : xs[f.offset]? = some (.int k1 x) := by rw [f2, ← Array.getElem?_toList, List.getElem?_eq_getElem lx, e1]
      have p2 : ys[f.offset]? = some (.int k1 y) := by rw [f2, ← Array.getElem?_toList, List.getElem?_eq_getElem ly, e2]
      obtain ⟨r, h1, h2⟩ := eqFields_spec (w := w) (d := d) fs (k + 1) as' bs' f4 ha2 hb2 (by unfold flatKs; rw [he2]; exact hh)
      refine ⟨_, ?_, h2⟩
      simp only [Op.eqFields, ne_eq, f1, not_false_eq_true, if_true, Sem.run_bind, run_part_int f3 p1, run_part_int f3 p2, Result.andThen_ok, run_equalIn_int w d f.type k1 kd x y f3]
      by_cases hxy : x = y
      · subst hxy; simp [h1]
      · simp [hxy]
    · rename_i ks x as' y bs' he
      injection he with he1 he2
      have f3 := plainB_spec he1
      have hx : xs.toList.drop k ≠ [] := fun e => by rw [e] at ha; cases ha
      have hy : ys.toList.drop k ≠ [] := fun e => by rw [e] at hb; cases hb
      have lx : k < xs.toList.length := Classical.byContradiction fun hn => hx (List.drop_eq_nil_of_le (by omega))
      have ly : k < ys.toList.length := Classical.byContradiction fun hn => hy (List.drop_eq_nil_of_le (by omega))
      rw [List.drop_eq_getElem_cons lx] at ha
      rw [List.drop_eq_getElem_cons ly] at hb
      cases ha with | cons ha1 ha2 =>
      cases hb with | cons hb1 hb2 =>
      obtain ⟨e1, _⟩ := ha1.v_inv
      obtain ⟨e2, _⟩ := hb1.v_inv
      have p1 : xs[f.offset]? = some (.bool x) := by rw [f2, ← Array.getElem?_toList, List.getElem?_eq_getElem lx, e1]
      have p2 : ys[f.offset]? = some (.bool y) := by rw [f2, ← Array.getElem?_toList, List.getElem?_eq_getElem ly, e2]
      obtain ⟨r, h1, h2⟩ := eqFields_spec (w := w) (d := d) fs (k + 1) as' bs' f4 ha2 hb2 (by unfold flatKs; rw [he2]; exact h)
      refine ⟨_, ?_, h2⟩
      simp only [Op.eqFields, ne_eq, f1, not_false_eq_true, if_true, Sem.run_bind, run_part_bool f3 p1, run_part_bool f3 p2, Result.andThen_ok, run_equalIn_bool w d f.type x y f3]
      cases x <;> cases y <;> simp [h1]
    · exact h.elim

def eqArr (d : Nat) (e : TypeId) (xs ys : Array Value) : List Nat → Sem Bool
  | [] => pure true
  | i :: is => do
    let a ← part e xs (i * 1)
    let b ← part e ys (i * 1)
    let r ← Op.equalIn d e a b
    if (!r) = true then pure false else eqArr d e xs ys is
theorem run_equalIn_arr {P : Program} {w : World} {d : Nat} {t e : TypeId} {n : Nat} {i : TypeInfo} {xs ys : Array Value} (ht : P.underlying t = some (.array n e)) (hi : P.info? e = some i) (h1 : i.size = 1) :
    (Op.equalIn (d + 1) t (.agg xs) (.agg ys)).run P w = (eqArr d e xs ys (List.range' 0 n)).run P w := by
  have hz : ∀ w, (sizeOf e).run P w = .ok 1 w := fun w => by simp [sizeOf, typeInfo, hi, h1]
  simp only [Op.equalIn, Sem.run_bind, run_underlying ht, Result.andThen_ok, hz]
  simp only [Std.Legacy.Range.forIn_eq_forIn_range', Std.Legacy.Range.size, Nat.sub_zero, Nat.add_sub_cancel, Nat.div_one]
  generalize List.range' 0 n = is
  induction is generalizing w with
  | nil => simp [eqArr]
  | cons j is ih =>
    simp only [List.forIn_cons, eqArr, Sem.run_bind, Sem.run_ite]
    generalize (part e xs (j * 1)).run P w = r1
    cases r1 with
    | ok a w1 =>
      simp only [Result.andThen_ok]
      generalize (part e ys (j * 1)).run P w1 = r2
      cases r2 with
      | ok b w2 =>
        simp only [Result.andThen_ok]
        generalize (Op.equalIn d e a b).run P w2 = r3
        cases r3 with
        | ok r w3 =>
          cases r
          · simp only [Result.andThen_ok, Bool.not_false, if_true, Sem.run_pure]
          · simp only [Result.andThen_ok, Bool.not_true, Bool.false_eq_true, if_false, Sem.run_pure]
            exact ih
        | halt x w3 => simp [Result.andThen]
      | halt x w2 => simp [Result.andThen]
    | halt x w1 => simp [Result.andThen]
theorem eqArr_spec {P : Program} {κ : Ghost} {w : World} {xs ys : Array Value} {d : Nat} {e : TypeId} {kd : IntKind} (he : P.underlying e = some (.int kd)) : ∀ (n k : Nat) (as bs : List AVal) {K : Bool → Prop}, RepL κ as (xs.toList.drop k) → RepL κ bs (ys.toList.drop k) → eqCells (List.replicate n false) as bs K →
    ∃ r, (eqArr (d + 1) e xs ys (List.range' k n)).run P w = .ok r w ∧ K r
  | 0, k, as, bs, K, _, _, h => by
    simp only [List.replicate] at h
    cases as <;> cases bs <;> simp only [eqCells] at h
    exact ⟨true, by simp [eqArr], h⟩
  | n + 1, k, as, bs, K, ha, hb, h => by
    simp only [List.replicate] at h
    unfold eqCells at h
    split at h
    · exact absurd ‹_ :: _ = []› (by simp)
    · rename_i ks k1 x as' k2 y bs' hee
      injection hee with he1 he2
      obtain ⟨hk, hh⟩ := bifTrue h
      have hk := of_decide_eq_true hk
      subst hk
      have hx : xs.toList.drop k ≠ [] := fun e => by rw [e] at ha; cases ha
      have hy : ys.toList.drop k ≠ [] := fun e => by rw [e] at hb; cases hb
      have lx : k < xs.toList.length := Classical.byContradiction fun hn => hx (List.drop_eq_nil_of_le (by omega))
      have ly : k < ys.toList.length := Classical.byContradiction fun hn => hy (List.drop_eq_nil_of_le (by omega))
      rw [List.drop_eq_getElem_cons lx] at ha
      rw [List.drop_eq_getElem_cons ly] at hb
      cases ha with | cons ha1 ha2 =>
      cases hb with | cons hb1 hb2 =>
      obtain ⟨e1, _⟩ := ha1.v_inv
      obtain ⟨e2, _⟩ := hb1.v_inv
      have p1 : xs[k * 1]? = some (.int k1 x) := by rw [Nat.mul_one, ← Array.getElem?_toList, List.getElem?_eq_getElem lx, e1]
      have p2 : ys[k * 1]? = some (.int k1 y) := by rw [Nat.mul_one, ← Array.getElem?_toList, List.getElem?_eq_getElem ly, e2]
      obtain ⟨r, h1, h2⟩ := eqArr_spec (w := w) (d := d) he n (k + 1) as' bs' ha2 hb2 (by rw [he2]; exact hh)
      refine ⟨_, ?_, h2⟩
      rw [List.range'_succ]
      simp only [eqArr, Sem.run_bind, run_part_int he p1, run_part_int he p2, Result.andThen_ok, run_equalIn_int w d e k1 kd x y he]
      by_cases hxy : x = y
      · subst hxy; simp [h1]
      · simp [hxy]
    · rename_i hee; cases hee
    · exact h.elim

theorem RepV.agg_inv' {κ : Ghost} {xs : List AVal} {v : Value} (h : RepV κ (.agg xs) v) : ∃ vs : List Value, v = .agg vs.toArray ∧ RepL κ xs vs := by
  cases h with | agg h => exact ⟨_, rfl, h⟩

/-- Two structs, or arrays, of numbers. -/
theorem ev_eqAgg {P : Program} {κ : Ghost} {σ : AHeap} {w : World} {env : Env} {a : Act} {n : List Bool} {K : AVal → AHeap → Prop} {dst : Option Tmp} {ty : TypeId} {pos : String} {after : Array Edge} {guard : Option (Nat × Bool)} {b : BinOp} {t u : TypeId} {x y : Operand} {x' y' : Opd} {neg : Bool}
    (hop : (b = .eql ∧ neg = false) ∨ (b = .neq ∧ neg = true)) (hflat : flatNum P t = some n) (hI : Inv κ σ w) (rx : RepV κ (x'.get env) (a.eval x)) (ry : RepV κ (y'.get env) (a.eval y)) (h : IOp.ev P env σ (.eqAgg neg n x' y') K) :
    Good P a.eval ⟨dst, .binOp b t x y u, ty, pos, after, guard⟩ κ w K := by
  simp only [IOp.ev] at h
  split at h
  · rename_i xs ys h1 h2
    rw [h1] at rx; rw [h2] at ry
    obtain ⟨vs, hv, rx⟩ := rx.agg_inv'
    obtain ⟨us, hu, ry⟩ := ry.agg_inv'
    have hh := h
    have core : P.eqGuardType P.depth t = false ∧ ∃ r, (Op.equalIn 10000 t (.agg vs.toArray) (.agg us.toArray)).run P w = .ok r w ∧ K (.v (.bool (r != neg))) σ := by
      unfold flatNum at hflat
      split at hflat
      · rename_i fs ht
        obtain ⟨hc, hsz⟩ := bifsome hflat
        cases hsz
        simp only [Bool.and_eq_true, Bool.not_eq_true'] at hc
        obtain ⟨⟨c1, c2⟩, c3⟩ := hc
        have hfo : P.fieldsOf t = fs := by unfold Program.fieldsOf; rw [ht]
        obtain ⟨r, q1, q2⟩ := eqFields_spec (P := P) (w := w) (xs := vs.toArray) (ys := us.toArray) (d := 9998) fs.toList 0 xs ys c1 (by simpa using rx) (by simpa using ry) hh
        refine ⟨c2, r, ?_, q2⟩
        rw [show (10000 : Nat) = 9999 + 1 from rfl, run_equalIn_agg w 9999 t _ _ (by rw [hfo]; exact ht) c3, hfo]
        exact q1
      · rename_i m e ht
        split at hflat
        · rename_i i hi
          obtain ⟨hc, hsz⟩ := bifsome hflat
          cases hsz
          simp only [Bool.and_eq_true, Bool.not_eq_true'] at hc
          obtain ⟨⟨c1, c2⟩, c3⟩ := hc
          obtain ⟨kd, c1⟩ := plainI_spec c1
          obtain ⟨r, q1, q2⟩ := eqArr_spec (P := P) (w := w) (xs := vs.toArray) (ys := us.toArray) (d := 9998) c1 m 0 xs ys (by simpa using rx) (by simpa using ry) hh
          refine ⟨c3, r, ?_, q2⟩
          rw [show (10000 : Nat) = 9999 + 1 from rfl, run_equalIn_arr ht hi (Nat.eq_of_beq_eq_true c2)]
          exact q1
        · cases hflat
      · cases hflat
    obtain ⟨hg, r, hr, hk⟩ := core
    rcases hop with ⟨rfl, rfl⟩ | ⟨rfl, rfl⟩
    · refine .pure (v := .bool (r != false)) ?_ hI (.v rfl) hk
      simp only [execOp, hv, hu]
      refine execV _ ?_
      simp only [Sem.run_bind, run_eqGuard_agg w _ t x y _ _ hg, Result.andThen_ok, run_eql_struct, hr]
      cases r <;> rfl
    · refine .pure (v := .bool (r != true)) ?_ hI (.v rfl) hk
      simp only [execOp, hv, hu]
      refine execV _ ?_
      simp only [Sem.run_bind, run_eqGuard_agg w _ t x y _ _ hg, Result.andThen_ok, run_neq_struct, hr]
      cases r <;> rfl
  · exact h.elim

/-- Operations that only reckon: moves, numbers, comparisons. -/
theorem ev_plain {C : Cfg} {o : Oper} {op : IOp} (hC : comp P C o = some op) (hI : Inv κ σ w) (hE : RepE κ n env a.tmps) (h : op.ev P env σ K)
    (hk : (∃ x, o.op = .move x) ∨ (∃ x, o.op = .assign x) ∨ (∃ c x y, o.op = .pick c x y) ∨ (∃ b t x y u, o.op = .binOp b t x y u) ∨ (∃ t x, o.op = .unOp .not t x) ∨ (∃ x i, o.op = .extract x i) ∨ (∃ x, o.op = .nilCheck x)) :
    Good P a.eval o κ w K := by
  obtain ⟨dst, opc, ty, pos, after, guard⟩ := o
  rcases hk with ⟨x, rfl⟩ | ⟨x, rfl⟩ | ⟨c, x, y, rfl⟩ | ⟨b, t, x, y, u, rfl⟩ | ⟨t, x, rfl⟩ | ⟨x, i, rfl⟩ | ⟨x, rfl⟩ <;> simp only [comp] at hC
  · obtain ⟨z, hz, rfl⟩ := optmap hC
    simp only [IOp.ev, Opd.getK_eq] at h
    exact .pure (x := z.get env) rfl hI (opT_spec hE hz) h
  · obtain ⟨z, hz, rfl⟩ := optmap hC
    simp only [IOp.ev, Opd.getK_eq] at h
    exact .pure (x := z.get env) rfl hI (opT_spec hE hz) h
  · obtain ⟨c', hc, hC⟩ := optbind hC
    obtain ⟨x', hx, hC⟩ := optbind hC
    obtain ⟨y', hy, rfl⟩ := optmap hC
    have rc := opT_spec hE hc
    simp only [IOp.ev, Opd.getK_eq] at h
    split at h
    · rename_i t he
      rw [he] at rc
      obtain ⟨rc, _⟩ := rc.v_inv
      rw [ABr_def] at h
      have hrun : (execOp a.eval ⟨dst, .pick c x y, ty, pos, after, guard⟩).run P w = .ok (.value (if t then a.eval x else a.eval y)) w := by simp [execOp, rc, asBool]
      cases t
      · exact .pure hrun hI (opT_spec hE hy) h
      · exact .pure hrun hI (opT_spec hE hx) h
    · exact h.elim
  · have fin : ∀ (tb : Bool) (x' y' : Opd), (tb = true → P.underlying t = some .bool) → opT P t x = some x' → opT P u y = some y' → IOp.ev P env σ (.bin tb b x' y') K → Good P a.eval ⟨dst, .binOp b t x y u, ty, pos, after, guard⟩ κ w K := by
      intro tb x' y' htb hx hy h
      have rx := opT_spec hE hx
      have ry := opT_spec hE hy
      simp only [IOp.ev, Opd.getK_eq] at h
      split at h
      · rename_i av bv h1 h2
        rw [h1] at rx; rw [h2] at ry
        obtain ⟨rx, _⟩ := rx.v_inv
        obtain ⟨ry, _⟩ := ry.v_inv
        obtain ⟨r, h3, h4, h5⟩ := binE_spec (P := P) (w := w) (p := x) (q := y) htb h
        refine .pure (v := r) ?_ hI (.v h4) h5
        simp only [execOp, rx, ry]
        exact execV _ h3
      · exact h.elim
    split at hC
    · obtain ⟨x', hx, hC⟩ := optbind hC
      obtain ⟨y', hy, rfl⟩ := optmap hC
      exact fin false x' y' (by simp) hx hy h
    · obtain ⟨x', hx, hC⟩ := optbind hC
      obtain ⟨y', hy, rfl⟩ := optmap hC
      exact fin false x' y' (by simp) hx hy h
    · rename_i hb
      obtain ⟨x', hx, hC⟩ := optbind hC
      obtain ⟨y', hy, rfl⟩ := optmap hC
      exact fin true x' y' (fun _ => hb) hx hy h
    · rename_i e ht
      split at hC
      · obtain ⟨x', hx, rfl⟩ := optmap hC
        exact ev_nil (.inl ⟨rfl, rfl⟩) (.inl ⟨rfl, ⟨e, ht⟩, _, _, rfl⟩) hI (opT_spec hE hx) h
      · obtain ⟨x', hx, rfl⟩ := optmap hC
        exact ev_nil (.inr ⟨rfl, rfl⟩) (.inl ⟨rfl, ⟨e, ht⟩, _, _, rfl⟩) hI (opT_spec hE hx) h
      · cases hC
    · rename_i e ht
      split at hC
      · obtain ⟨x', hx, rfl⟩ := optmap hC
        exact ev_nil (.inl ⟨rfl, rfl⟩) (.inr (.inl ⟨rfl, ⟨e, ht⟩, rfl⟩)) hI (opT_spec hE hx) h
      · obtain ⟨x', hx, rfl⟩ := optmap hC
        exact ev_nil (.inr ⟨rfl, rfl⟩) (.inr (.inl ⟨rfl, ⟨e, ht⟩, rfl⟩)) hI (opT_spec hE hx) h
      · cases hC
    · rename_i k e ht
      split at hC
      · obtain ⟨x', hx, rfl⟩ := optmap hC
        exact ev_nil (.inl ⟨rfl, rfl⟩) (.inr (.inr ⟨rfl, ⟨k, e, ht⟩, rfl⟩)) hI (opT_spec hE hx) h
      · obtain ⟨x', hx, rfl⟩ := optmap hC
        exact ev_nil (.inr ⟨rfl, rfl⟩) (.inr (.inr ⟨rfl, ⟨k, e, ht⟩, rfl⟩)) hI (opT_spec hE hx) h
      · cases hC
    · split at hC
      · rename_i n hflat
        split at hC
        · obtain ⟨x', hx, hC⟩ := optbind hC
          obtain ⟨y', hy, rfl⟩ := optmap hC
          exact ev_eqAgg (.inl ⟨rfl, rfl⟩) hflat hI (opT_spec hE hx) (opT_spec hE hy) h
        · obtain ⟨x', hx, hC⟩ := optbind hC
          obtain ⟨y', hy, rfl⟩ := optmap hC
          exact ev_eqAgg (.inr ⟨rfl, rfl⟩) hflat hI (opT_spec hE hx) (opT_spec hE hy) h
        · cases hC
      · cases hC
  · obtain ⟨z, hz, rfl⟩ := optmap hC
    have rz := opT_spec hE hz
    simp only [IOp.ev, Opd.getK_eq] at h
    split at h
    · rename_i b he
      rw [he] at rz
      obtain ⟨rz, _⟩ := rz.v_inv
      exact .pure (v := .bool (!b)) (by simp [execOp, rz, Op.unary]) hI (.v rfl) h
    · exact h.elim
  · obtain ⟨z, hz, rfl⟩ := optmap hC
    have rz := opT_spec hE hz
    simp only [IOp.ev, Opd.getK_eq] at h
    split at h
    · rename_i vs he
      rw [he] at rz
      obtain ⟨us, hv, hr⟩ := rz.tup_inv
      obtain ⟨y, u, h1, h2, h3⟩ := lgetK_spec hr h
      exact .pure (v := u) (by simp [execOp, hv, Instr.extract, h1]) hI h2 h3
    · exact h.elim
  · obtain ⟨z, hz, rfl⟩ := optmap hC
    have rz := opT_spec hE hz
    simp only [IOp.ev, Opd.getK_eq] at h
    split at h
    · rename_i id off he
      rw [he] at rz
      obtain ⟨b, hv, hb⟩ := rz.ptr_inv
      exact .pure (v := .pointer (some ⟨b, off, none⟩)) (by simp [execOp, hv]) hI (.ptr hb) h
    · rename_i cs off he
      rw [he] at rz
      obtain ⟨b, q, vs, hv, hb, hc⟩ := rz.eptr_inv
      exact .pure (v := .pointer (some ⟨b, q + off, none⟩)) (by simp [execOp, hv]) hI (.eptr hb hc) h
    · exact h.elim
end
end Go.Am
/-
  Operations on memory.
-/
namespace Go.Am
set_option linter.unusedSectionVars false
open Go.RowKit (Below)

section
variable {P : Program} {κ : Ghost} {σ : AHeap} {w : World} {n : Nat} {env : Env} {a : Act} {K : AVal → AHeap → Prop} {C : Cfg}
variable {dst : Option Tmp} {ty : TypeId} {pos : String} {after : Array Edge} {guard : Option (Nat × Bool)}

theorem ev_load {t : TypeId} {x : Operand} {op : IOp} (hC : comp P C ⟨dst, .load t x, ty, pos, after, guard⟩ = some op) (hI : Inv κ σ w) (hE : RepE κ n env a.tmps) (h : op.ev P env σ K) :
    Good P a.eval ⟨dst, .load t x, ty, pos, after, guard⟩ κ w K := by
  simp only [comp] at hC
  obtain ⟨g, hg, hC⟩ := optbind hC
  obtain ⟨x', hx, rfl⟩ := optmap hC
  have rx := opT_spec hE hx
  simp only [IOp.ev, Opd.getK_eq] at h
  split at h
  · rename_i id off he
    rw [he] at rx
    rw [ALoad_def] at h
    obtain ⟨cs, h1, h2⟩ := h
    obtain ⟨b, hv, hb⟩ := rx.ptr_inv
    obtain ⟨c, e, vs, us, k1, k2, k3, k4, k5, k6, k7⟩ := hI.objCells h1 hb
    obtain ⟨v, y, r1, r2, r3⟩ := load_run (P := P) (w := w) hg k4 k7 h2
    rw [Nat.zero_add] at r1
    exact .pure (v := v) (by simp only [execOp, hv]; exact execV _ r1) hI r2 r3
  · rename_i cs off he
    rw [he] at rx
    rw [ACell_def] at h
    obtain ⟨b, q, vs, hv, hr, hc⟩ := rx.eptr_inv
    obtain ⟨v, y, r1, r2, r3⟩ := load_run (P := P) (w := w) hg hr (fun j u e => (hI.cell _ _ _ (hc j u e)).1) h
    exact .pure (v := v) (by simp only [execOp, hv]; exact execV _ r1) hI r2 r3
  · exact h.elim

theorem cells_of {x : AVal} {v : Value} (hr : RepV κ x v) (hc : x.cells.all AVal.isCell = true) : RepL κ x.cells v.cells.toList := by
  cases x <;> first
    | exact hr.cells (.inr ⟨_, rfl⟩)
    | exact hr.cells (.inl rfl)
    | (simp [AVal.cells, AVal.isCell] at hc)

theorem ev_store {t : TypeId} {p x : Operand} {op : IOp} (hC : comp P C ⟨dst, .store t p x, ty, pos, after, guard⟩ = some op) (hI : Inv κ σ w) (hE : RepE κ n env a.tmps) (h : op.ev P env σ K) :
    Good P a.eval ⟨dst, .store t p x, ty, pos, after, guard⟩ κ w K := by
  simp only [comp] at hC
  split at hC
  · rename_i i hi
    obtain ⟨p', hp, hC⟩ := optbind hC
    obtain ⟨x', hx, rfl⟩ := optmap hC
    have rp := opT_spec hE hp
    have rx := opT_spec hE hx
    simp only [IOp.ev, Opd.getK_eq] at h
    split at h
    · rename_i id off he
      rw [he] at rp
      obtain ⟨hn, h⟩ := bifTrue h
      have hn := Nat.eq_of_beq_eq_true hn
      rw [AStore_def] at h
      obtain ⟨cs, h1, h2, h3, h4⟩ := h
      obtain ⟨b, hv, hb⟩ := rp.ptr_inv
      obtain ⟨w', r1, r2⟩ := hI.storeObj (P := P) hi h1 hb (cells_of rx h3) hn h2 h3
      exact .inr (.inl ⟨w', by simp only [execOp, hv]; exact execU _ r1, κ, _, .top, Ghost.le.refl κ, r2, .top, h4⟩)
    · exact h.elim
  · cases hC

theorem zeroT_spec {t : TypeId} {zs : List AVal} (h : zeroT P t = some zs) : ∃ i z, P.info? t = some i ∧ i.zero = some z ∧ z.cells.size = i.size ∧ RepL κ zs z.cells.toList ∧ Ones z.cells.toList ∧ zs.all AVal.isCell = true := by
  unfold zeroT at h
  split at h
  · rename_i i hi
    split at h
    · rename_i z hz
      obtain ⟨hb, h⟩ := bifsome h
      obtain ⟨h1, h2, h3⟩ := cellsT_spec (κ := κ) h
      exact ⟨i, z, hi, hz, Nat.eq_of_beq_eq_true hb, h1, h2, h3⟩
    · cases h
  · cases h

theorem newVar_good {o : Oper} {t : TypeId} {v : Value} {xs : List AVal} (hI : Inv κ σ w) (hr : (execOp a.eval o).run P w = .ok (.value (.pointer (some ⟨w.heap.size, 0, none⟩))) (w.alloc (.cells v.cells t)))
    (hv : RepL κ xs v.cells.toList) (h : ANew σ xs fun id σ' => K (.ptr id 0) σ') : Good P a.eval o κ w K := by
  rw [ANew_def] at h
  obtain ⟨T, hT⟩ := hI.fresh
  obtain ⟨κ', q1, q2, q3, q4⟩ := hI.allocObj (c := v.cells) (e := t) (us := []) (by simp) hv (ones_of hv h.1) (by intro v hv; cases hv) hT
  exact .inl ⟨_, _, hr, κ', _, _, q1, q2, .ptr q3, h.2 T hT.1⟩

theorem ev_alloc {t : TypeId} {op : IOp} (hC : comp P C ⟨dst, .alloc t, ty, pos, after, guard⟩ = some op) (hI : Inv κ σ w) (h : op.ev P env σ K) :
    Good P a.eval ⟨dst, .alloc t, ty, pos, after, guard⟩ κ w K := by
  simp only [comp] at hC
  obtain ⟨zs, hz, rfl⟩ := optmap hC
  obtain ⟨i, z, h1, h2, h3, h4, h5, h6⟩ := zeroT_spec (κ := κ) hz
  simp only [IOp.ev, Opd.getK_eq] at h
  refine newVar_good (t := t) (v := z) hI ?_ h4 h
  simp [execOp, Instr.alloc, zeroValue, typeInfo, h1, h2, newVar, newRow]

theorem ev_box {t : TypeId} {x : Operand} {op : IOp} (hC : comp P C ⟨dst, .box t x, ty, pos, after, guard⟩ = some op) (hI : Inv κ σ w) (hE : RepE κ n env a.tmps) (h : op.ev P env σ K) :
    Good P a.eval ⟨dst, .box t x, ty, pos, after, guard⟩ κ w K := by
  simp only [comp] at hC
  split at hC
  · obtain ⟨x', hx, rfl⟩ := optmap hC
    have rx := opT_spec hE hx
    simp only [IOp.ev, Opd.getK_eq] at h
    obtain ⟨_, h⟩ := bifTrue h
    have hc : (x'.get env).cells.all AVal.isCell = true := by rw [ANew_def] at h; exact h.1
    refine newVar_good (t := t) (v := a.eval x) hI ?_ (cells_of rx hc) h
    simp [execOp, Instr.box, newVar, newRow]
  · cases hC

theorem ev_conv {s d : TypeId} {x : Operand} {op : IOp} (hC : comp P C ⟨dst, .convert s d x, ty, pos, after, guard⟩ = some op) (hI : Inv κ σ w) (hE : RepE κ n env a.tmps) (h : op.ev P env σ K) :
    Good P a.eval ⟨dst, .convert s d x, ty, pos, after, guard⟩ κ w K := by
  simp only [comp] at hC
  split at hC
  · rename_i k1 k hs hd
    obtain ⟨x', hx, rfl⟩ := optmap hC
    have rx := opT_spec hE hx
    simp only [IOp.ev, Opd.getK_eq] at h
    split at h
    · rename_i k2 m he
      rw [he] at rx
      obtain ⟨hv, _⟩ := rx.v_inv
      rw [AFit_def] at h
      exact .pure (v := .int k (k.wrap m)) (by simp [execOp, hv, convert, run_underlying hs, run_underlying hd, Conv.intToInt]) hI (.v rfl) h
    · exact h.elim
  · rename_i e hs hd
    split at hC
    · rename_i he8
      obtain ⟨x', hx, rfl⟩ := optmap hC
      have rx := opT_spec hE hx
      simp only [IOp.ev, Opd.getK_eq] at h
      split at h
      · rename_i s1 xs t he
        rw [he] at rx
        obtain ⟨hs1, h⟩ := bifTrue h
        have hs1 := Nat.eq_of_beq_eq_true hs1
        subst hs1
        rw [AStr_def] at h
        obtain ⟨bs, rfl, hk⟩ := h
        rcases rx.slice_inv with ⟨⟨a0, hv⟩, hn⟩ | ⟨b, off, cap, vs, hv, h2, h3, h4, h5, h6⟩
        · have hb : bs = [] := by simpa using hn
          subst hb
          refine .pure (v := .string ByteArray.empty) ?_ hI (.v rfl) hk
          cases a0 <;> simp [execOp, hv, convert, run_underlying hs, run_underlying hd, run_underlying he8, Conv.bytesToString, loadCells, loadCellsFrom]
        · have hvs : vs = (bs.map fun b => Value.int .u8 b.toNat) := by
            clear h5 hv h3 h6 hk h2 he rx h
            induction bs generalizing vs with
            | nil => cases h4; rfl
            | cons x l ih =>
              simp only [List.map_cons, List.flatMap_cons, byteV, AVal.cells, List.singleton_append] at h4
              cases h4 with
              | cons hx ht => obtain ⟨rfl, _⟩ := hx.v_inv; rw [ih _ ht]; rfl
          refine .pure (v := .string ⟨bs.toArray⟩) ?_ hI (.v rfl) hk
          simp only [execOp, hv]
          refine execV _ ?_
          have hl := loadCells_run (P := P) (w := w) (b := b) (o := off) (vs := vs) (fun j v e => (hI.cell _ _ _ (h5 j v e)).1)
          have hll : vs.length = bs.length := by rw [hvs]; simp
          have hns : vs = (bs.map fun b => (b.toNat : Int)).map (Value.int .u8) := by rw [hvs]; simp
          rw [hll, hns] at hl
          have := run_bytesToString (P := P) w ⟨b, off, none⟩ bs.length cap _ hl
          simp only [convert, Sem.run_bind, run_underlying hs, run_underlying hd, Result.andThen_ok, run_underlying he8, List.length_map]
          rw [this]
          congr 2
          have key : ∀ (l : List UInt8) (s : ByteArray), (l.map fun b => (b.toNat : Int)).foldl (fun (r : ByteArray) (n : Int) => r.push (UInt8.ofNat n.toNat)) s = ⟨(s.data.toList ++ l).toArray⟩ := by
            intro l
            induction l with
            | nil => intro s; simp
            | cons x l ih => intro s; simp only [List.map_cons, List.foldl_cons, ih]; simp [ByteArray.push]
          rw [key]; simp [ByteArray.empty, ByteArray.emptyWithCapacity]; rfl
      · exact h.elim
    · cases hC
  · rename_i e0 e hs hd
    obtain ⟨hb, hC2⟩ := bifsome hC
    simp only [Bool.and_eq_true] at hb
    have hsd := Nat.eq_of_beq_eq_true hb.1
    have he8 := isByte_spec hb.2
    obtain ⟨x', hx, rfl⟩ := optmap hC2
    clear hC hC2
    have rx := opT_spec hE hx
    simp only [IOp.ev, Opd.getK_eq] at h
    split at h
    · rename_i s1 xs t he
      rw [he] at rx
      rw [AMark_def] at h
      obtain ⟨h0, t0, rfl, h1, hk⟩ := h
      rcases rx.slice_inv with ⟨hv, hn⟩ | ⟨b, off, cap, vs, hv, g2, g3, g4, g5, g6⟩
      · exact absurd hn h0
      · have htok : ∃ p, κ.tok t0 = some (b, p) := by
          exact ⟨_, g6⟩
        obtain ⟨p, htok⟩ := htok
        obtain ⟨_, ⟨c, ec, q2, _⟩, _⟩ := hI.tip t0 b p h1 htok
        refine .inl ⟨.slice (some ⟨b, off, none⟩) xs.length cap, _, ?_, κ, _, _, Ghost.le.refl κ, hI.markTip (k := c.size) h1 htok, ?_, hk⟩
        · simp only [execOp, hv]
          refine execV _ ?_
          have hsh : w.shape? b = some (ec, c.size) := by simp [World.shape?, q2]
          simp [convert, run_underlying hs, run_underlying hd, run_underlying he8, markStringish, hsh, hsd]
        · exact .slice rfl g2 g3 g4 g5 trivial
    · exact h.elim
  · rename_i e hs hd
    split at hC
    · rename_i he8
      obtain ⟨x', hx, rfl⟩ := optmap hC
      have rx := opT_spec hE hx
      simp only [IOp.ev, Opd.getK_eq] at h
      split at h
      · rename_i b he
        rw [he] at rx
        obtain ⟨hv, _⟩ := rx.v_inv
        obtain ⟨κ', r1, r2, r3⟩ := hI.newBytes e b
        refine .inl ⟨_, _, ?_, κ', σ, _, r1, r2, r3, h⟩
        simp only [execOp, hv]
        exact execV _ (Lib.run_convert_string_bytes w s d e b hs hd he8)
      · exact h.elim
    · cases hC
  · cases hC

theorem parts_ok {fs : Array Field} {sz : Nat → Nat} (hsz : ∀ (t : TypeId) i, P.info? t = some i → sz t = i.size) : ∀ {ps : List (Nat × Operand)} {qs : List (Nat × Nat × Opd)}, RepE κ n env a.tmps → partsT P fs ps = some qs →
    Parts κ env (fun i => ((fs[i]?).map fun f => (f.offset, sz f.type))) qs (ps.map fun x => (x.1, a.eval x.2))
  | [], qs, _, h => by simp only [partsT, Option.some.injEq] at h; subst h; exact .nil
  | (i, x) :: ps, qs, hE, h => by
    simp only [partsT] at h
    split at h
    · rename_i f hf
      split at h
      · rename_i fi hfi
        obtain ⟨y, hy, h⟩ := optbind h
        obtain ⟨l, hl, rfl⟩ := optmap h
        exact .cons (by rw [hf]; simp [hsz _ _ hfi]) (opT_spec hE hy) (parts_ok hsz hE hl)
      · cases h
    · cases h

theorem partsA_ok {e : TypeId} {s : Nat} : ∀ {ps : List (Nat × Operand)} {qs : List (Nat × Nat × Opd)}, RepE κ n env a.tmps → partsA P e s ps = some qs → Parts κ env (fun i => some (i * s, s)) qs (ps.map fun x => (x.1, a.eval x.2))
  | [], qs, _, h => by simp only [partsA, Option.some.injEq] at h; subst h; exact .nil
  | (i, x) :: ps, qs, hE, h => by
    simp only [partsA] at h
    obtain ⟨y, hy, h⟩ := optbind h
    obtain ⟨l, hl, rfl⟩ := optmap h
    exact .cons rfl (opT_spec hE hy) (partsA_ok hE hl)

theorem mapM_places (w : World) : ∀ (fs : List Field), (∀ f ∈ fs, ∃ i, P.info? f.type = some i) → ∀ acc : List (Nat × Nat),
    (fs.mapM fun f => (do pure (f.offset, ← sizeOf f.type) : Sem (Nat × Nat))).run P w = .ok (fs.map fun f => (f.offset, P.cellsOf f.type)) w := by
  intro fs
  induction fs with
  | nil => intro _ _; simp
  | cons f fs ih =>
    intro h acc
    obtain ⟨i, hi⟩ := h f (List.mem_cons_self ..)
    have := ih (fun g hg => h g (List.mem_cons_of_mem _ hg)) acc
    simp only [List.mapM_cons, Sem.run_bind, sizeOf, typeInfo, run_program, Result.andThen_ok, hi, Sem.run_pure, List.map_cons] at this ⊢
    rw [this]
    simp [Program.cellsOf, hi]

theorem ev_build {t : TypeId} {ps : Array (Nat × Operand)} {op : IOp} (hC : comp P C ⟨dst, .build t ps, ty, pos, after, guard⟩ = some op) (hI : Inv κ σ w) (hE : RepE κ n env a.tmps) (h : op.ev P env σ K) :
    Good P a.eval ⟨dst, .build t ps, ty, pos, after, guard⟩ κ w K := by
  simp only [comp] at hC
  split at hC
  · rename_i fs z hu hz
    obtain ⟨hfi, hC⟩ := bifsome hC
    obtain ⟨qs, hq, rfl⟩ := optmap hC
    obtain ⟨i, z0, h1, h2, h3, h4, h5, h6⟩ := zeroT_spec (κ := κ) hz
    simp only [IOp.ev, Opd.getK_eq] at h
    have hp := parts_ok (κ := κ) (P := P) (sz := P.cellsOf) (fun t i hi => by simp [Program.cellsOf, hi]) hE hq
    obtain ⟨c', l, r1, r2, r3⟩ := fill_spec hp h4 h
    refine .pure (v := .agg c') ?_ hI (by have := RepV.agg r2; simpa using this) r3
    simp only [execOp]
    refine execV _ ?_
    have hall : ∀ f ∈ fs.toList, ∃ i, P.info? f.type = some i := by
      intro f hf
      have := List.all_eq_true.1 hfi f hf
      cases hx : P.info? f.type with
      | none => simp [hx] at this
      | some i => exact ⟨i, rfl⟩
    have hm := mapM_places (P := P) w fs.toList hall []
    have hm2 : (fs.mapM fun f => (do pure (f.offset, ← sizeOf f.type) : Sem (Nat × Nat))).run P w = .ok (fs.map fun f => (f.offset, P.cellsOf f.type)) w := by
      rw [Array.mapM_eq_mapM_toList, Sem.run_map, hm]
      simp only [Result.andThen_ok]
      congr 1
      apply Array.ext'; simp
    have hfill : (fun i : Nat => (fs.map fun (f : Field) => (f.offset, P.cellsOf f.type))[i]?) = (fun i : Nat => ((fs[i]?).map fun (f : Field) => (f.offset, P.cellsOf f.type))) := by funext i; simp
    rw [← hfill] at r1
    simp only [Instr.build, Sem.run_bind, zeroValue, typeInfo, run_program, Result.andThen_ok, h1, h2, Sem.run_pure, run_underlying hu]
    rw [hm2]
    simp only [Result.andThen_ok]
    have : (Array.map (fun (x : Nat × Operand) => (x.1, a.eval x.2)) ps).toList = ps.toList.map fun x => (x.1, a.eval x.2) := by simp
    rw [this, r1]
    rfl
  · rename_i m e z hu hz
    split at hC
    · rename_i ei hei
      obtain ⟨qs, hq, rfl⟩ := optmap hC
      obtain ⟨i, z0, h1, h2, h3, h4, h5, h6⟩ := zeroT_spec (κ := κ) hz
      simp only [IOp.ev, Opd.getK_eq] at h
      have hp := partsA_ok (κ := κ) (P := P) hE hq
      obtain ⟨c', l, r1, r2, r3⟩ := fill_spec hp h4 h
      refine .pure (v := .agg c') ?_ hI (by have := RepV.agg r2; simpa using this) r3
      simp only [execOp]
      refine execV _ ?_
      simp [Instr.build, zeroValue, typeInfo, h1, h2, run_underlying hu, sizeOf, hei, r1]
    · cases hC
  · cases hC
end
end Go.Am
/-
  Addresses, pieces of slices, calls.
-/
namespace Go.Am
set_option linter.unusedSectionVars false
open Go.RowKit (Below)

section
variable {P : Program} {κ : Ghost} {σ : AHeap} {w : World} {n : Nat} {env : Env} {a : Act} {K : AVal → AHeap → Prop} {C : Cfg}
variable {dst : Option Tmp} {ty : TypeId} {pos : String} {after : Array Edge} {guard : Option (Nat × Bool)}

theorem inTurn_spec : ∀ {ps : List (Nat × Operand)} {k : Nat} (f : Operand → Value), inTurn k ps = true → ps.map (fun x => (x.1, f x.2)) = ((ps.map (·.2)).map f |>.zipIdx k).map fun x => (x.2, x.1)
  | [], _, _, _ => rfl
  | (i, x) :: ps, k, f, h => by
    simp only [inTurn, Bool.and_eq_true] at h
    have hi := Nat.eq_of_beq_eq_true h.1
    subst hi
    simp only [List.map_cons, List.zipIdx_cons, List.cons.injEq, true_and]
    exact inTurn_spec f h.2

theorem ev_row {t : TypeId} {m : Nat} {ps : Array (Nat × Operand)} {op : IOp} (hC : comp P C ⟨dst, .buildSlice t m ps, ty, pos, after, guard⟩ = some op) (hI : Inv κ σ w) (hE : RepE κ n env a.tmps) (h : op.ev P env σ K) :
    Good P a.eval ⟨dst, .buildSlice t m ps, ty, pos, after, guard⟩ κ w K := by
  simp only [comp] at hC
  split at hC
  · rename_i e hu
    split at hC
    · rename_i i z hi hz
      obtain ⟨hb, hC⟩ := bifsome hC
      obtain ⟨xs, hx, rfl⟩ := optmap hC
      simp only [Bool.and_eq_true, Bool.not_eq_true'] at hb
      obtain ⟨⟨⟨h1, h2⟩, h3⟩, h4⟩ := hb
      have h1 := Nat.eq_of_beq_eq_true h1
      have h3 := Nat.le_of_ble_eq_true h3
      have h4 := Nat.ne_of_beq_eq_false h4
      have rx := opsT_spec hE hx
      obtain ⟨i', z0, g1, g2, _⟩ := zeroT_spec (κ := κ) hz
      rw [hi] at g1; cases g1
      have hl : (xs.map (Opd.get env)).length = m := by
        have := rx.length
        simp at this; simp; omega
      have e1 : (Array.map (fun (x : Nat × Operand) => (x.1, a.eval x.2)) ps) = (((ps.toList.map (·.2)).map a.eval |>.zipIdx 0).map fun x => (x.2, x.1)).toArray := by
        apply Array.ext'
        rw [Array.toList_map]
        exact inTurn_spec a.eval h2
      cases hcc : isByte P e && kept C dst with
      | true =>
        rw [hcc] at h
        simp only [cond_true, IOp.ev, Opd.getK_eq] at h
        rw [getLK_eq] at h
        obtain ⟨h5, h⟩ := bifTrue h
        rw [ARowT_def] at h
        obtain ⟨N, hN⟩ := hI.fin
        obtain ⟨n', v, w', κ', r1, r2, r3, rfl, r4⟩ := hI.rowT (P := P) hu hi g2 rx h5 (by rw [hl]; exact h3) h4 (hN N (Nat.le_refl _))
        refine .inl ⟨_, w', ?_, κ', _, _, r2, r3, r4, h N (hN N (Nat.le_refl _)).1⟩
        simp only [execOp]
        refine execV _ ?_
        rw [e1]; rw [← r1, hl]
      | false =>
        rw [hcc] at h
        simp only [cond_false, IOp.ev, Opd.getK_eq] at h
        rw [getLK_eq] at h
        obtain ⟨h5, h⟩ := bifTrue h
        obtain ⟨v, w', κ', r1, r2, r3, r4⟩ := hI.row (P := P) hu hi g2 rx h5 (by rw [hl]; exact h3) h4
        refine .inl ⟨v, w', ?_, κ', σ, _, r2, r3, r4, h⟩
        simp only [execOp]
        refine execV _ ?_
        rw [hl] at r1
        rw [e1]; exact r1
    · cases hC
  · cases hC

theorem ev_faddr {s : TypeId} {x : Operand} {f : Nat} {op : IOp} (hC : comp P C ⟨dst, .fieldAddr s x f, ty, pos, after, guard⟩ = some op) (hI : Inv κ σ w) (hE : RepE κ n env a.tmps) (h : op.ev P env σ K) :
    Good P a.eval ⟨dst, .fieldAddr s x f, ty, pos, after, guard⟩ κ w K := by
  simp only [comp] at hC
  split at hC
  · rename_i fs hs
    split at hC
    · rename_i fd hf
      split at hC
      · rename_i i hi
        cases hb : Nat.beq i.size 0 with
        | true => simp [hb] at hC
        | false =>
        simp only [hb, cond_false] at hC
        have h0 := Nat.ne_of_beq_eq_false hb
        obtain ⟨x', hx, rfl⟩ := optmap hC
        have rx := opT_spec hE hx
        have run : ∀ b o, a.eval x = .pointer (some ⟨b, o, none⟩) → (execOp a.eval ⟨dst, .fieldAddr s x f, ty, pos, after, guard⟩).run P w = .ok (.value (.pointer (some ⟨b, o + fd.offset, none⟩))) w := by
          intro b o hv
          simp [execOp, hv, Instr.fieldAt, Instr.sureAddr, run_underlying hs, hf, fieldPlace, sizeOf, typeInfo, hi, h0, addr_add]
        simp only [IOp.ev, Opd.getK_eq] at h
        split at h
        · rename_i id off he
          rw [he] at rx
          obtain ⟨b, hv, hb⟩ := rx.ptr_inv
          exact .pure (run b off hv) hI (.ptr hb) h
        · rename_i cs off he
          rw [he] at rx
          obtain ⟨b, q, vs, hv, hr, hc⟩ := rx.eptr_inv
          refine .pure (run b (q + off) hv) hI ?_ h
          rw [Nat.add_assoc]
          exact .eptr hr hc
        · exact h.elim
      · cases hC
    · cases hC
  · cases hC

theorem part_run {t : TypeId} {g : Option Nat} (ht : aggOf P t = some g) {cs : List AVal} {vs : List Value} {off : Nat} {k : AVal → Prop} (hr : RepL κ cs vs) (h : cellsAt cs off g k) :
    ∃ v x, (part t vs.toArray off).run P w = .ok v w ∧ RepV κ x v ∧ k x := by
  obtain ⟨i, d, h1, h2, h3⟩ := aggOf_spec ht
  have hi : (typeInfo t).run P w = .ok i w := by simp [typeInfo, h1]
  rcases h3 with ⟨hd, rfl⟩ | ⟨hd, rfl⟩
  · obtain ⟨hl, hK⟩ := h
    refine ⟨.agg ((vs.drop off).take i.size).toArray, _, ?_, .agg ((hr.drop off).take i.size), hK⟩
    simp only [part, Sem.run_bind, isAgg_run h2, Result.andThen_ok, hd, if_true, sizeOf, hi, Sem.run_pure]
    congr 2
    apply Array.ext'
    simp [List.extract_eq_take_drop]
  · obtain ⟨x, hx, hK⟩ := h
    obtain ⟨v, hv, hr⟩ := hr.get hx
    refine ⟨v, x, ?_, hr, hK⟩
    simp only [part, Sem.run_bind, isAgg_run h2, Result.andThen_ok, hd, Bool.false_eq_true, if_false]
    simp [hv]

theorem ev_field {s : TypeId} {x : Operand} {f : Nat} {op : IOp} (hC : comp P C ⟨dst, .field s x f, ty, pos, after, guard⟩ = some op) (hI : Inv κ σ w) (hE : RepE κ n env a.tmps) (h : op.ev P env σ K) :
    Good P a.eval ⟨dst, .field s x f, ty, pos, after, guard⟩ κ w K := by
  simp only [comp] at hC
  split at hC
  · rename_i fs hs
    split at hC
    · rename_i fd hf
      obtain ⟨g, hg, hC⟩ := optbind hC
      obtain ⟨x', hx, rfl⟩ := optmap hC
      have rx := opT_spec hE hx
      simp only [IOp.ev, Opd.getK_eq] at h
      split at h
      · rename_i cs he
        rw [he] at rx
        rw [ACell_def] at h
        obtain ⟨vs, hv, hr⟩ := rx.agg_inv
        obtain ⟨v, y, r1, r2, r3⟩ := part_run (P := P) (w := w) hg hr h
        refine .pure (v := v) ?_ hI r2 r3
        simp only [execOp, hv]
        refine execV _ ?_
        simp only [Instr.field, Sem.run_bind, run_underlying hs, Result.andThen_ok, hf, asAgg, Sem.run_pure, r1]
      · exact h.elim
    · cases hC
  · cases hC

theorem ev_index {t : TypeId} {x i : Operand} {op : IOp} (hC : comp P C ⟨dst, .index t x i, ty, pos, after, guard⟩ = some op) (hI : Inv κ σ w) (hE : RepE κ n env a.tmps) (h : op.ev P env σ K) :
    Good P a.eval ⟨dst, .index t x i, ty, pos, after, guard⟩ κ w K := by
  simp only [comp] at hC
  split at hC
  · rename_i m e ht
    split at hC
    · rename_i ei hei
      obtain ⟨g, hg, hC⟩ := optbind hC
      obtain ⟨x', hx, hC⟩ := optbind hC
      obtain ⟨i', hi, rfl⟩ := optmap hC
      have rx := opT_spec hE hx
      have ri := opT_spec hE hi
      simp only [IOp.ev, Opd.getK_eq] at h
      split at h
      · rename_i cs k j h1 h2
        rw [h1] at rx; rw [h2] at ri
        rw [AIdx_def] at h
        obtain ⟨q1, q2, h⟩ := h
        rw [ACell_def] at h
        obtain ⟨vs, hv, hr⟩ := rx.agg_inv
        obtain ⟨hvi, _⟩ := ri.v_inv
        obtain ⟨v, y, r1, r2, r3⟩ := part_run (P := P) (w := w) hg hr h
        refine .pure (v := v) ?_ hI r2 r3
        simp only [execOp, hv, hvi]
        refine execV _ ?_
        simp only [Instr.index, asIntOf, Sem.run_bind, Sem.run_pure, Result.andThen_ok, run_underlying ht]
        rw [if_pos ⟨q1, q2⟩]
        simp only [Sem.run_bind, sizeOf, typeInfo, run_program, Result.andThen_ok, hei, Sem.run_pure, r1]
      · exact h.elim
    · cases hC
  · cases hC

theorem ev_iaddr {t : TypeId} {x i : Operand} {op : IOp} (hC : comp P C ⟨dst, .indexAddr t x i, ty, pos, after, guard⟩ = some op) (hI : Inv κ σ w) (hE : RepE κ n env a.tmps) (h : op.ev P env σ K) :
    Good P a.eval ⟨dst, .indexAddr t x i, ty, pos, after, guard⟩ κ w K := by
  simp only [comp] at hC
  split at hC
  · rename_i e ht
    split at hC
    · rename_i ei hei
      obtain ⟨x', hx, hC⟩ := optbind hC
      obtain ⟨i', hi, rfl⟩ := optmap hC
      have rx := opT_spec hE hx
      have ri := opT_spec hE hi
      have run : ∀ b o len cap (k : IntKind) (j : Int), a.eval x = .slice (some ⟨b, o, none⟩) len cap → a.eval i = .int k j → 0 ≤ j → j < len →
          (execOp a.eval ⟨dst, .indexAddr t x i, ty, pos, after, guard⟩).run P w = .ok (.value (.pointer (some ⟨b, o + j.toNat * ei.size, none⟩))) w := by
        intro b o len cap k j hv hvi q1 q2
        simp only [execOp, hv, hvi]
        refine execV _ ?_
        simp only [Instr.indexAt, asIntOf, Sem.run_bind, Sem.run_pure, Result.andThen_ok, run_underlying ht]
        rw [if_pos ⟨q1, q2⟩]
        simp only [Sem.run_bind, sizeOf, typeInfo, run_program, Result.andThen_ok, hei, Sem.run_pure, addr_add]
      simp only [IOp.ev, Opd.getK_eq] at h
      split at h
      · rename_i s2 xs tk k j h1 h2
        rw [h1] at rx; rw [h2] at ri
        obtain ⟨hs, hh⟩ := bifTrue h
        clear h
        have hs := Nat.eq_of_beq_eq_true hs
        subst hs
        have h := hh
        clear hh
        rw [AGet_def] at h
        obtain ⟨y, q1, q2, h⟩ := h
        obtain ⟨hvi, _⟩ := ri.v_inv
        have hlt : j.toNat < xs.length := (List.getElem?_eq_some_iff.1 q2).1
        rcases rx.slice_inv with ⟨hv, hn⟩ | ⟨b, off, cap, vs, hv, g2, g3, g4, g5, g6⟩
        · subst hn; simp at hlt
        · refine .pure (run b off xs.length cap k j hv hvi q1 (by omega)) hI ?_ h
          have key : ∀ (l : List AVal) (us : List Value) (m : Nat), RepL κ (l.flatMap AVal.cells) us → (∀ x ∈ l, x.cells.length = ei.size) → l[m]? = some y → RepL κ y.cells ((us.drop (m * ei.size)).take ei.size) := by
            intro l
            induction l with
            | nil => intro us m _ _ e; simp at e
            | cons z l ih =>
              intro us m hr hl e
              have hz := hl z (List.mem_cons_self ..)
              simp only [List.flatMap_cons] at hr
              obtain ⟨p1, p2⟩ := hr.split
              cases m with
              | zero => simp at e; subst e; rw [hz] at p1; simpa using p1
              | succ m =>
                simp at e
                have := ih _ m p2 (fun x hx => hl x (List.mem_cons_of_mem _ hx)) e
                rw [hz, List.drop_drop] at this
                rw [Nat.succ_mul, Nat.add_comm (m * ei.size)]; exact this
          refine .eptr (o := off + j.toNat * ei.size) (key xs vs j.toNat g4 g3 q2) fun m v e => ?_
          rw [List.getElem?_take] at e
          split at e
          · rw [List.getElem?_drop] at e
            rw [Nat.add_assoc]; exact g5 _ v e
          · cases e
      · rename_i r s2 off ln k j h1 h2
        rw [h1] at rx; rw [h2] at ri
        obtain ⟨hs, hh⟩ := bifTrue h
        clear h
        have hs := Nat.eq_of_beq_eq_true hs
        subst hs
        have h := hh
        clear hh
        rw [AIdx_def] at h
        obtain ⟨q1, q2, h⟩ := h
        obtain ⟨hvi, _⟩ := ri.v_inv
        obtain ⟨b, cap, m, hv, g1, g2, g3, g4⟩ := rx.ms_inv
        exact .pure (run b off ln cap k j hv hvi q1 q2) hI (.ptr g1) h
      · exact h.elim
    · cases hC
  · rename_i m e ht
    split at hC
    · rename_i ei hei
      obtain ⟨x', hx, hC⟩ := optbind hC
      obtain ⟨i', hi, rfl⟩ := optmap hC
      have rx := opT_spec hE hx
      have ri := opT_spec hE hi
      have run : ∀ b o (k : IntKind) (j : Int), a.eval x = .pointer (some ⟨b, o, none⟩) → a.eval i = .int k j → 0 ≤ j → j < m →
          (execOp a.eval ⟨dst, .indexAddr t x i, ty, pos, after, guard⟩).run P w = .ok (.value (.pointer (some ⟨b, o + j.toNat * ei.size, none⟩))) w := by
        intro b o k j hv hvi q1 q2
        simp only [execOp, hv, hvi]
        refine execV _ ?_
        simp only [Instr.indexAt, asIntOf, Sem.run_bind, Sem.run_pure, Result.andThen_ok, run_underlying ht, Instr.sureAddr]
        rw [if_pos ⟨q1, q2⟩]
        simp only [Sem.run_bind, sizeOf, typeInfo, run_program, Result.andThen_ok, hei, Sem.run_pure, addr_add]
      simp only [IOp.ev, Opd.getK_eq] at h
      split at h
      · rename_i id off k j h1 h2
        rw [h1] at rx; rw [h2] at ri
        rw [AIdx_def] at h
        obtain ⟨q1, q2, h⟩ := h
        obtain ⟨hvi, _⟩ := ri.v_inv
        obtain ⟨b, hv, hb⟩ := rx.ptr_inv
        exact .pure (run b off k j hv hvi q1 q2) hI (.ptr hb) h
      · rename_i cs off k j h1 h2
        rw [h1] at rx; rw [h2] at ri
        rw [AIdx_def] at h
        obtain ⟨q1, q2, h⟩ := h
        obtain ⟨hvi, _⟩ := ri.v_inv
        obtain ⟨b, q, vs, hv, hr, hc⟩ := rx.eptr_inv
        refine .pure (run b (q + off) k j hv hvi q1 q2) hI ?_ h
        rw [Nat.add_assoc]
        exact .eptr hr hc
      · exact h.elim
    · cases hC
  · cases hC
end
end Go.Am
/-
  Pieces of slices, make, functions, calls.
-/
namespace Go.Am
set_option linter.unusedSectionVars false
open Go.RowKit (Below)

section
variable {P : Program} {κ : Ghost} {σ : AHeap} {w : World} {n : Nat} {env : Env} {a : Act} {K : AVal → AHeap → Prop} {C : Cfg}
variable {dst : Option Tmp} {ty : TypeId} {pos : String} {after : Array Edge} {guard : Option (Nat × Bool)}

/-- A bound of a slice expression, as the run has it. -/
def bnd (d : Int) (x : Option Value) (k : Int) : Prop := match x with
  | none => k = d
  | some v => ∃ kd, v = .int kd k

theorem intOr_spec {t : TypeId} {x : Option Operand} {x' : Option Opd} (hE : RepE κ n env a.tmps) (hx : optT P t x = some x') {d : Int} {k : Int → Prop} (h : intOr env x' d k) : ∃ m, bnd d (x.map a.eval) m ∧ k m := by
  cases x with
  | none => simp only [optT, Option.some.injEq] at hx; subst hx; exact ⟨d, rfl, h⟩
  | some x =>
    simp only [optT] at hx
    obtain ⟨y, hy, rfl⟩ := optmap hx
    have ry := opT_spec hE hy
    simp only [intOr] at h
    split at h
    · rename_i kd m he
      rw [he] at ry
      obtain ⟨hv, _⟩ := ry.v_inv
      exact ⟨m, ⟨kd, hv⟩, h⟩
    · exact h.elim

theorem sliceBound_ok {x : Value} {y : Nat} {code : BoundsCode} {kd : IntKind} {m : Int} (hx : x = .int kd m) (h0 : 0 ≤ m) (h1 : m ≤ y) : (Instr.sliceBound x y code).run P w = .ok m.toNat w := by
  subst hx
  simp only [Instr.sliceBound, asIntOf, Sem.run_bind, Sem.run_pure, Result.andThen_ok]
  rw [if_pos ⟨h0, h1⟩]; rfl

theorem slice_run {t e : TypeId} {ei : TypeInfo} (ht : P.underlying t = some (.slice e)) (hei : P.info? e = some ei) {A : Option Addr} {len cap : Nat} {lo hi mx : Option Value} {l h m : Int}
    (hl : bnd 0 lo l) (hh : bnd len hi h) (hm : bnd cap mx m) (hmx : mx.isSome = true → hi.isSome = true) (h0 : 0 ≤ l) (h1 : l ≤ h) (h2 : h ≤ m) (h3 : m ≤ cap) :
    (Instr.sliceAt t (.slice A len cap) lo hi mx).run P w = .ok (.slice (if m.toNat = l.toNat then A else A.map (·.add (l.toNat * ei.size))) (h.toNat - l.toNat) (m.toNat - l.toNat)) w := by
  have hb : (Instr.sliceBounds true len cap lo hi mx).run P w = .ok (l.toNat, h.toNat, m.toNat) w := by
    cases mx with
    | none =>
      simp only [bnd] at hm; subst hm
      cases hi with
      | none =>
        simp only [bnd] at hh; subst hh
        cases lo with
        | none => simp only [bnd] at hl; subst hl; simp [Instr.sliceBounds]
        | some lv => obtain ⟨kl, hl⟩ := hl; simp [Instr.sliceBounds, sliceBound_ok (P := P) (w := w) (y := len) hl h0 (by omega)]
      | some hv =>
        obtain ⟨kh, hh⟩ := hh
        have q := sliceBound_ok (P := P) (w := w) (y := cap) (code := .sliceAcap) hh (by omega) (by omega)
        cases lo with
        | none => simp only [bnd] at hl; subst hl; simp [Instr.sliceBounds, q]
        | some lv => obtain ⟨kl, hl⟩ := hl; simp [Instr.sliceBounds, q, sliceBound_ok (P := P) (w := w) (y := h.toNat) hl h0 (by omega)]
    | some mv =>
      obtain ⟨km, hm⟩ := hm
      have qm := sliceBound_ok (P := P) (w := w) (y := cap) (code := .slice3Acap) hm (by omega) (by omega)
      cases hi with
      | none => simp at hmx
      | some hv =>
        obtain ⟨kh, hh⟩ := hh
        have q := sliceBound_ok (P := P) (w := w) (y := m.toNat) (code := .slice3B) hh (by omega) (by omega)
        cases lo with
        | none => simp only [bnd] at hl; subst hl; simp [Instr.sliceBounds, q, qm]
        | some lv => obtain ⟨kl, hl⟩ := hl; simp [Instr.sliceBounds, q, qm, sliceBound_ok (P := P) (w := w) (y := h.toNat) hl h0 (by omega)]
  simp only [Instr.sliceAt, Sem.run_bind, run_underlying ht, Result.andThen_ok, Instr.slice, hb, sizeOf, typeInfo, run_program, hei, Sem.run_pure]

theorem flat_take {s : Nat} : ∀ {xs : List AVal} (k : Nat), (∀ x ∈ xs, x.cells.length = s) → (xs.take k).flatMap AVal.cells = (xs.flatMap AVal.cells).take (k * s)
  | [], k, _ => by simp
  | x :: xs, 0, _ => by simp
  | x :: xs, k + 1, h => by
    have h1 := h x (List.mem_cons_self ..)
    simp only [List.take_succ_cons, List.flatMap_cons, flat_take k fun y hy => h y (List.mem_cons_of_mem _ hy)]
    have hle : x.cells.length ≤ k * s + s := by rw [h1]; exact Nat.le_add_left _ _
    rw [Nat.succ_mul, List.take_append, List.take_of_length_le hle, h1, Nat.add_sub_cancel]
theorem flat_drop {s : Nat} : ∀ {xs : List AVal} (k : Nat), (∀ x ∈ xs, x.cells.length = s) → (xs.drop k).flatMap AVal.cells = (xs.flatMap AVal.cells).drop (k * s)
  | [], k, _ => by simp
  | x :: xs, 0, _ => by simp
  | x :: xs, k + 1, h => by
    have h1 := h x (List.mem_cons_self ..)
    simp only [List.drop_succ_cons, List.flatMap_cons, flat_drop k fun y hy => h y (List.mem_cons_of_mem _ hy)]
    have hle : x.cells.length ≤ k * s + s := by rw [h1]; exact Nat.le_add_left _ _
    rw [Nat.succ_mul, List.drop_append, List.drop_of_length_le hle, List.nil_append, h1, Nat.add_sub_cancel]

/-- A piece of a slice, its capacity and right to append said apart. -/
theorem RepV.piece {s : Nat} {xs : List AVal} {t t' : Tok} {A : Option Addr} {len cap l h m : Nat} (hr : RepV κ (.slice s xs t) (.slice A len cap)) (h1 : l ≤ h) (h2 : h ≤ xs.length) (h3 : h ≤ m) (h4 : m ≤ cap)
    (ht : t' = .none ∨ (t' = .full ∧ m = h) ∨ (t' = t ∧ l = 0 ∧ h = xs.length ∧ m = cap)) :
    RepV κ (.slice s ((xs.take h).drop l) t') (.slice (if m = l then A else A.map (·.add (l * s))) (h - l) (m - l)) := by
  rcases hr.slice_inv with ⟨⟨a0, hv⟩, rfl⟩ | ⟨b, off, cap', vs, hv, g2, g3, g4, g5, g6⟩
  · cases hv
    have : h = 0 := by simpa using h2
    have : l = 0 := by omega
    have : m = 0 := by omega
    subst_vars
    simp; exact .nil
  · cases hv
    have hlen : ((xs.take h).drop l).length = h - l := by simp; omega
    have hx : ∀ x ∈ (xs.take h).drop l, x.cells.length = s := fun x hx => g3 x (List.mem_of_mem_take (List.mem_of_mem_drop hx))
    have hf : ((xs.take h).drop l).flatMap AVal.cells = ((xs.flatMap AVal.cells).take (h * s)).drop (l * s) := by
      rw [flat_drop l fun x hx => g3 x (List.mem_of_mem_take hx), flat_take h g3]
    have hrl : RepL κ (((xs.take h).drop l).flatMap AVal.cells) ((vs.take (h * s)).drop (l * s)) := by rw [hf]; exact (g4.take _).drop _
    have hcell : ∀ (i : Nat) (v : Value), ((vs.take (h * s)).drop (l * s))[i]? = some v → κ.cell b (off + l * s + i) = some v := fun i v e => by
      rw [List.getElem?_drop, List.getElem?_take] at e
      split at e
      · rw [Nat.add_assoc]; exact g5 _ v e
      · cases e
    by_cases hml : m = l
    · rw [if_pos hml]
      have hhl : h = l := by omega
      rw [hhl] at hlen hx hrl h2 ht ⊢
      clear hhl
      have he : (xs.take l).drop l = [] := by simp
      rw [he]
      refine .slice (vs := []) (by simp) (by simp) (by simp) .nil (by simp) ?_
      rcases ht with rfl | ⟨rfl, _⟩ | ⟨rfl, hl0, hl1, hl2⟩
      · trivial
      · simp only [TokOk]; omega
      · subst hl0
        have hx0 : xs.length = 0 := by omega
        cases t' with
        | none => trivial
        | full => simp only [TokOk]; omega
        | own _ => simp only [TokOk] at g6 ⊢; rw [g6, hx0]
        | tip _ => exact .inl (by omega)
    · rw [if_neg hml]
      simp only [Option.map_some, addr_add]
      refine .slice hlen (by omega) hx hrl hcell ?_
      rcases ht with rfl | ⟨rfl, he⟩ | ⟨rfl, hl0, hl1, hl2⟩
      · trivial
      · simp [TokOk]; omega
      · subst hl0; subst hl1; subst hl2
        simpa using g6

theorem ev_cut0 {t e : TypeId} {ei : TypeInfo} {x : Operand} {lo hi mx : Option Operand} {op : IOp} (ht : P.underlying t = some (.slice e)) (hei : P.info? e = some ei)
    (hC : ((opT P t x).bind fun x => (optT P 0 lo).bind fun lo => (optT P 0 hi).bind fun hi => (optT P 0 mx).map fun mx => IOp.cut ei.size x lo hi mx) = some op) (hI : Inv κ σ w) (hE : RepE κ n env a.tmps) (h : op.ev P env σ K) :
    Good P a.eval ⟨dst, .slice t x lo hi mx, ty, pos, after, guard⟩ κ w K := by
  by_cases hz : True
  · by_cases hz2 : True
    · obtain ⟨x', hx, hC⟩ := optbind hC
      obtain ⟨lo', hlo, hC⟩ := optbind hC
      obtain ⟨hi', hhi, hC⟩ := optbind hC
      obtain ⟨mx', hmx, rfl⟩ := optmap hC
      have rx := opT_spec hE hx
      have hsome : ∀ {y : Option Operand} {y' : Option Opd}, optT P 0 y = some y' → (y'.isSome = y.isSome) := by
        intro y y' h
        cases y with
        | none => simp only [optT, Option.some.injEq] at h; subst h; rfl
        | some y => simp only [optT] at h; obtain ⟨z, _, rfl⟩ := optmap h; rfl
      have hsl := hsome hlo
      have hsh := hsome hhi
      have hsm := hsome hmx
      simp only [IOp.ev, Opd.getK_eq] at h
      split at h
      · rename_i s2 xs tk he
        rw [he] at rx
        obtain ⟨hs, hh⟩ := bifTrue h
        clear h
        have hs := Nat.eq_of_beq_eq_true hs
        subst hs
        obtain ⟨l, bl, hh⟩ := intOr_spec hE hlo hh
        obtain ⟨hv, bh, hh⟩ := intOr_spec hE hhi hh
        rw [ACut_def] at hh
        obtain ⟨q0, q1, q2, hh⟩ := hh
        have hval : ∃ A cap, a.eval x = .slice A xs.length cap ∧ xs.length ≤ cap := by
          rcases rx.slice_inv with ⟨⟨a0, hv⟩, hn⟩ | ⟨b, off, cap, vs, hv, g2, _⟩
          · subst hn; exact ⟨a0, 0, hv, Nat.le_refl _⟩
          · exact ⟨_, cap, hv, g2⟩
        obtain ⟨A, cap, hav, hcap⟩ := hval
        rw [hav] at rx
        split at hh
        · have hmn : mx = none := by cases mx with
            | none => rfl
            | some _ => simp at hsm
          subst hmn
          have hr := slice_run (P := P) (w := w) ht hei (A := A) (mx := none) bl bh (m := cap) rfl (by simp) q0 q1 (by omega) (Int.le_refl _)
          refine .pure (v := _) (by simp only [execOp, hav]; exact execV _ hr) hI (rx.piece (by omega) (by omega) (by omega) (by simp) ?_) hh
          cases lo' with
          | some _ => exact .inl rfl
          | none =>
            cases hi' with
            | some _ => exact .inl rfl
            | none =>
              have e1 : lo = none := by cases lo with
                | none => rfl
                | some _ => simp at hsl
              have e2 : hi = none := by cases hi with
                | none => rfl
                | some _ => simp at hsh
              subst e1; subst e2
              simp only [Option.map_none, bnd] at bl bh
              subst bl; subst bh
              exact .inr (.inr ⟨rfl, rfl, by simp, by simp⟩)
        · rename_i mo
          obtain ⟨m, bm, hh⟩ := intOr_spec (d := 0) hE hmx hh
          obtain ⟨g1, g2, hh⟩ := hh
          subst g2
          have hms : mx.isSome = true := by rw [← hsm]; rfl
          obtain ⟨mo', rfl⟩ := Option.isSome_iff_exists.1 hms
          have hr := slice_run (P := P) (w := w) ht hei (A := A) (mx := some (a.eval mo')) (cap := cap) bl bh bm (fun _ => by
            rw [hsh] at g1
            obtain ⟨ho, rfl⟩ := Option.isSome_iff_exists.1 g1; rfl) q0 q1 (Int.le_refl _) (by omega)
          refine .pure (v := _) (by simp only [execOp, hav]; exact execV _ hr) hI (rx.piece (by omega) (by omega) (Nat.le_refl _) (by omega) (.inr (.inl ⟨rfl, rfl⟩))) hh
      · rename_i r s2 off ln he
        rw [he] at rx
        obtain ⟨hs, hh⟩ := bifTrue h
        clear h
        have hs := Nat.eq_of_beq_eq_true hs
        subst hs
        obtain ⟨l, bl, hh⟩ := intOr_spec hE hlo hh
        obtain ⟨hv, bh, hh⟩ := intOr_spec hE hhi hh
        rw [ACut_def] at hh
        obtain ⟨q0, q1, q2, hh⟩ := hh
        obtain ⟨b, cap, m, hav, g1, g2, g3, g4⟩ := rx.ms_inv
        have fin : ∀ (mv : Int), mv ≤ cap → hv ≤ mv → (Instr.sliceAt t (.slice (some ⟨b, off, none⟩) ln cap) (lo.map a.eval) (hi.map a.eval) (mx.map a.eval)).run P w =
            .ok (.slice (if mv.toNat = l.toNat then some ⟨b, off, none⟩ else (some ⟨b, off, none⟩ : Option Addr).map (·.add (l.toNat * ei.size))) (hv.toNat - l.toNat) (mv.toNat - l.toNat)) w →
            ACutM r ei.size off l.toNat hv.toNat (fun y => K y σ) → Good P a.eval ⟨dst, .slice t x lo hi mx, ty, pos, after, guard⟩ κ w K := by
          intro mv hm1 hm2 hr hk
          have hmul : l.toNat * ei.size ≤ cap * ei.size := Nat.mul_le_mul_right _ (by omega)
          have hmul2 : mv.toNat * ei.size ≤ cap * ei.size := Nat.mul_le_mul_right _ (by omega)
          have hmul3 : l.toNat * ei.size ≤ mv.toNat * ei.size := Nat.mul_le_mul_right _ (by omega)
          have hsb : (mv.toNat - l.toNat) * ei.size = mv.toNat * ei.size - l.toNat * ei.size := Nat.sub_mul ..
          have hrun := execV (P := P) (w := w) _ hr
          rcases hk.out with ⟨k1, k2⟩ | ⟨k1, k2⟩ | ⟨k1, k2⟩
          · refine .pure (v := _) (by simp only [execOp, hav]; exact hrun) hI ?_ k2
            rw [if_neg (by omega)]
            simp only [Option.map_some, addr_add]
            exact .ms g1 g2 (by omega) (by omega)
          · refine .pure (v := _) (by simp only [execOp, hav]; exact hrun) hI ?_ k2
            rw [k1, Nat.zero_mul, Nat.sub_zero, Nat.sub_zero]
            simp only [Option.map_some, addr_add, Nat.add_zero, ite_self]
            exact .ms g1 g2 (by omega) (by omega)
          · refine .pure (v := _) (by simp only [execOp, hav]; exact hrun) hI ?_ k2
            rw [k1, Nat.sub_self]
            by_cases hc : mv.toNat = hv.toNat
            · rw [if_pos hc, hc, Nat.sub_self]; exact .nil
            · rw [if_neg hc]
              simp only [Option.map_some, addr_add]
              exact .slice (vs := []) rfl (by simp) (by simp) .nil (by simp) trivial
        split at hh
        · have hmn : mx = none := by cases mx with
            | none => rfl
            | some _ => simp at hsm
          subst hmn
          have hr := slice_run (P := P) (w := w) ht hei (A := some ⟨b, off, none⟩) (mx := none) (cap := cap) bl bh (m := cap) rfl (by simp) q0 q1 (by omega) (Int.le_refl _)
          exact fin cap (Int.le_refl _) (by omega) hr hh
        · rename_i mo
          obtain ⟨mm, bm, hh⟩ := intOr_spec (d := 0) hE hmx hh
          obtain ⟨gg1, gg2, hh⟩ := hh
          subst gg2
          have hms : mx.isSome = true := by rw [← hsm]; rfl
          obtain ⟨mo', rfl⟩ := Option.isSome_iff_exists.1 hms
          have hr := slice_run (P := P) (w := w) ht hei (A := some ⟨b, off, none⟩) (mx := some (a.eval mo')) (cap := cap) bl bh bm (fun _ => by
            rw [hsh] at gg1
            obtain ⟨ho, rfl⟩ := Option.isSome_iff_exists.1 gg1; rfl) q0 q1 (Int.le_refl _) (by omega)
          exact fin mm (by omega) (Int.le_refl _) hr hh
      · exact h.elim
    · exact (hz2 trivial).elim
  · exact (hz trivial).elim

theorem ev_cut {t : TypeId} {x : Operand} {lo hi mx : Option Operand} {op : IOp} (hC : comp P C ⟨dst, .slice t x lo hi mx, ty, pos, after, guard⟩ = some op) (hI : Inv κ σ w) (hE : RepE κ n env a.tmps) (h : op.ev P env σ K) :
    Good P a.eval ⟨dst, .slice t x lo hi mx, ty, pos, after, guard⟩ κ w K := by
  simp only [comp] at hC
  split at hC
  · rename_i e ht
    split at hC
    · rename_i ei hei
      split at hC
      · rename_i hi hm
        obtain ⟨x', hx, hC⟩ := optbind hC
        obtain ⟨hi', hhi, rfl⟩ := optmap hC
        have hC0 : ((opT P t x).bind fun x => (optT P 0 none).bind fun lo => (optT P 0 (some hi)).bind fun hi => (optT P 0 none).map fun mx => IOp.cut ei.size x lo hi mx) = some (.cut ei.size x' none (some hi') none) := by
          simp only [optT, hx, hhi, Option.bind_some, Option.map_some]
        have rx := opT_spec hE hx
        have base := fun h => ev_cut0 (dst := dst) (ty := ty) (pos := pos) (after := after) (guard := guard) (K := K) ht hei hC0 hI hE h
        simp only [IOp.ev, Opd.getK_eq] at h base
        cases hv : x'.get env with
        | slice s2 xs tk =>
          rw [hv] at h base rx
          simp only at h base
          obtain ⟨hs, hh⟩ := bifTrue h
          simp only [hs, cond_true] at base
          simp only [intOr] at hh base
          split at hh
          · rename_i k m hm2
            rw [hm2] at base
            simp only at base
            rw [ACut_def] at hh
            obtain ⟨q0, q1, q2, hh⟩ := hh
            rcases hh.out with k1 | ⟨k1, k2, k3⟩
            · refine base ?_
              rw [ACut_def]
              exact ⟨q0, q1, q2, k1⟩
            · subst k1; subst k2
              have hs := Nat.eq_of_beq_eq_true hs
              subst hs
              have hval : ∃ A cap, a.eval x = .slice A 0 cap := by
                rcases rx.slice_inv with ⟨⟨a0, hv⟩, hn⟩ | ⟨b, off, cap, vs, hv, g2, _⟩
                · exact ⟨a0, 0, hv⟩
                · exact ⟨_, cap, hv⟩
              obtain ⟨A, cap, hav⟩ := hval
              have hm0 : m = 0 := by simp only [List.length_nil] at q2; omega
              subst hm0
              have rh := opT_spec hE hhi
              rw [hm2] at rh
              obtain ⟨hhv, _⟩ := rh.v_inv
              rw [hav] at rx
              have hr := slice_run (P := P) (w := w) ht hei (A := A) (len := 0) (cap := cap) (lo := none) (hi := some (a.eval hi)) (mx := none) (l := 0) (h := 0) (m := cap) rfl ⟨_, hhv⟩ rfl (by simp) (Int.le_refl _) (Int.le_refl _) (by omega) (Int.le_refl _)
              exact .pure (v := _) (by simp only [execOp, hav]; exact execV _ hr) hI (rx.piece (l := 0) (h := 0) (by omega) (by simp) (by omega) (by simp) (.inr (.inr ⟨rfl, rfl, by simp, by simp⟩))) k3
          · exact hh.elim
        | ms r s2 off ln =>
          rw [hv] at h base
          simp only at h base
          obtain ⟨hs, hh⟩ := bifTrue h
          simp only [hs, cond_true] at base
          exact base hh
        | _ => rw [hv] at h; exact h.elim
      · exact ev_cut0 ht hei hC hI hE h
    · cases hC
  · cases hC
end
end Go.Am
/-
  Maps from numbers: what the run gives.
-/
namespace Go.Am
set_option linter.unusedSectionVars false
open Go.RowKit (Below)
open Go.MapKept

def setMap (w : World) (b : Nat) (c : Array MapEntry) (clk : Nat) : World := { w with heap := w.heap.setIfInBounds b (.map c clk) }
theorem setMap_same {w : World} {b : Nat} {c : Array MapEntry} {clk : Nat} (h : b < w.heap.size) : (setMap w b c clk).heap[b]? = some (.map c clk) := by simp [setMap, h]
theorem setMap_ne {w : World} {b k : Nat} {c : Array MapEntry} {clk : Nat} (h : k ≠ b) : (setMap w b c clk).heap[k]? = w.heap[k]? := by
  simp only [setMap]; rw [Array.getElem?_setIfInBounds_ne (fun e => h e.symm)]
theorem setMap_size {w : World} {b : Nat} {c : Array MapEntry} {clk : Nat} : (setMap w b c clk).heap.size = w.heap.size := by simp [setMap]
theorem setMap_cell_ne {w : World} {b k o : Nat} {c : Array MapEntry} {clk : Nat} (h : k ≠ b) : (setMap w b c clk).cell? ⟨k, o, none⟩ = w.cell? ⟨k, o, none⟩ := by
  simp only [World.cell?]; rw [setMap_ne h]
theorem setMap_below {B : Nat} {w0 w : World} {b : Nat} {c : Array MapEntry} {clk : Nat} (h : Below B w0 w) (hb : B ≤ b) : Below B w0 (setMap w b c clk) :=
  h.trans ⟨rfl, rfl, rfl, by rw [setMap_size]; exact Nat.le_refl _, fun k hk => setMap_ne (by omega)⟩

/-- A new map. -/
theorem Inv.allocMap {κ : Ghost} {σ : AHeap} {w : World} (h : Inv κ σ w) {id : Nat} (ht : σ id = none ∧ κ.obj id = none ∧ κ.tok id = none) :
    ∃ κ', κ.le κ' ∧ Inv κ' (upd σ id (.map [])) (w.alloc (.map #[] 0)) ∧ κ'.obj id = some w.heap.size := by
  let κ' : Ghost := { κ with obj := fun i => if i = id then some w.heap.size else κ.obj i }
  have hcell : ∀ b o v, κ.cell b o = some v → b < w.heap.size := fun b o v e => World.block_lt_of_cell? w ⟨b, o, none⟩ (h.cell b o v e).1
  have hsize : ∀ b n, κ.size b = some n → b < w.heap.size := fun b n e => let ⟨c, e, f, k, _⟩ := h.size b n e; heap_lt k
  have hle : κ.le κ' := by
    refine ⟨rfl, rfl, fun b o v e => e, fun b n e => e, fun i b e => ?_, fun _ _ e => e⟩
    simp only [κ']; rw [if_neg]; exact e
    intro k; subst k; rw [ht.2.1] at e; cases e
  refine ⟨κ', hle, ?_, by simp [κ']⟩
  refine ⟨h.below.alloc h.base _, by simp; exact Nat.le_succ_of_le h.base, ?_, ?_, ?_, ?_, ?_, ?_, ?_, ?_⟩
  · intro b o v e
    have := hcell b o v e
    rw [alloc_cell_old this]; exact h.cell b o v e
  · intro b n e
    have := hsize b n e
    rw [alloc_old this]; exact h.size b n e
  · intro i b e
    simp only [κ'] at e
    split at e
    · cases e
      refine ⟨h.base, by simp, fun _ o => ?_⟩
      cases hx : κ.cell w.heap.size o with
      | none => rfl
      | some v => have := hcell _ _ _ hx; omega
    · rename_i hne
      obtain ⟨h1, h2, h3⟩ := h.obj i b e
      refine ⟨h1, by simp; omega, fun hl => h3 ?_⟩
      rw [upd_ne _ _ hne] at hl; exact hl
  · intro i j b li lj hi hj
    simp only [κ'] at hi hj
    split at hi
    · cases hi
      split at hj
      · rename_i a b; rw [a, b]
      · have := (h.obj j _ hj).2.1; omega
    · rename_i ni
      split at hj
      · cases hj; have := (h.obj i _ hi).2.1; omega
      · rename_i nj
        rw [upd_ne _ _ ni] at li; rw [upd_ne _ _ nj] at lj
        exact h.inj i j b li lj hi hj
  · intro i cs' e
    by_cases hid : i = id
    · subst hid; rw [upd_same] at e; cases e
    · rw [upd_ne _ _ hid] at e
      obtain ⟨b, c', e', vs, us, k1, k2, k3, k4, k5, k6⟩ := h.cells i cs' e
      exact ⟨b, c', e', vs, us, hle.obj _ _ k1, by rw [alloc_old (heap_lt k2)]; exact k2, k3, k4, k5.mono hle, k6⟩
  · intro i es e
    by_cases hid : i = id
    · subst hid
      rw [upd_same] at e; injection e with e; injection e with e; subst e
      exact ⟨_, #[], 0, by simp [κ'], alloc_new, ⟨rfl, stamped_empty 0⟩, .nil⟩
    · rw [upd_ne _ _ hid] at e
      obtain ⟨b, c', clk, k1, k2, k3, k4⟩ := h.map i es e
      exact ⟨b, c', clk, hle.obj _ _ k1, by rw [alloc_old (heap_lt k2)]; exact k2, k3, k4.mono hle⟩
  · intro t' b p e k
    have htt : t' ≠ id := fun k' => by subst k'; rw [upd_same] at e; cases e
    rw [upd_ne _ _ htt] at e
    obtain ⟨h1, ⟨c', e', h2, h2'⟩, h3, h4, h5⟩ := h.tip t' b p e k
    have hb := heap_lt h2
    refine ⟨h1, ⟨c', e', by rw [alloc_old hb]; exact h2, h2'⟩, h3, fun i k' => ?_, fun t'' p' e' k' => ?_⟩
    · simp only [κ'] at k'
      split at k'
      · cases k'; omega
      · exact h4 i k'
    · have h6 : t'' ≠ id := fun k' => by subst k'; rw [upd_same] at e'; cases e'
      rw [upd_ne _ _ h6] at e'
      exact h5 t'' p' e' k'
  · obtain ⟨N, hN⟩ := h.fin
    refine ⟨max N (id + 1), fun n hn => ?_⟩
    have hnt : n ≠ id := by omega
    obtain ⟨h1, h2, h3⟩ := hN n (by omega)
    refine ⟨by rw [upd_ne _ _ hnt]; exact h1, ?_, h3⟩
    simp only [κ']; rw [if_neg hnt]; exact h2

/-- A map's entries are turned. -/
theorem Inv.setMapObj {κ : Ghost} {σ : AHeap} {w : World} (h : Inv κ σ w) {id b : Nat} {c c' : Array MapEntry} {clk clk' : Nat} {es es' : List (Int × AVal)}
    (hs : σ id = some (.map es)) (hb : κ.obj id = some b) (hw : w.heap[b]? = some (.map c clk)) (hk : (c'.toList.map (·.key) = es'.map fun e => Value.int .i64 e.1) ∧ Stamped c' clk') (hr : RepL κ (es'.map (·.2)) (c'.toList.map (·.val))) :
    Inv κ (upd σ id (.map es')) (setMap w b c' clk') := by
  have hbl := heap_lt hw
  have hnc := (h.obj id b hb)
  have hlive : ∀ i, upd σ id (.map es') i ≠ none → σ i ≠ none := fun i k e => by
    by_cases hi : i = id
    · subst hi; rw [hs] at e; cases e
    · rw [upd_ne _ _ hi] at k; exact k e
  have hsl : σ id ≠ none := by rw [hs]; simp
  refine ⟨setMap_below h.below hnc.1, by rw [setMap_size]; exact h.base, ?_, ?_, ?_, fun i j b hi hj => h.inj i j b (hlive i hi) (hlive j hj), ?_, ?_, ?_, ?_⟩
  · intro b' o v k
    have : b' ≠ b := fun e => by subst e; rw [hnc.2.2 (by rw [hs]; nofun) o] at k; cases k
    rw [setMap_cell_ne this]; exact h.cell b' o v k
  · intro b' n k
    have hbb : b' ≠ b := fun e => by
      subst e
      obtain ⟨c1, e1, f1, k1, k2⟩ := h.size b' n k
      rw [hw] at k1; cases k1
    rw [setMap_ne hbb]; exact h.size b' n k
  · intro i b' k
    rw [setMap_size]; obtain ⟨h1, h2, h3⟩ := h.obj i b' k; exact ⟨h1, h2, fun hl => h3 (hlive i hl)⟩
  · intro i cs1 k
    by_cases hid : i = id
    · subst hid; rw [upd_same] at k; cases k
    · rw [upd_ne _ _ hid] at k
      obtain ⟨b1, c1, e1, vs1, us1, k1, k2, k3⟩ := h.cells i cs1 k
      have : b1 ≠ b := fun e => hid (h.inj i id b (by rw [k]; simp) hsl (e ▸ k1) hb)
      exact ⟨b1, c1, e1, vs1, us1, k1, by rw [setMap_ne this]; exact k2, k3⟩
  · intro i es1 k
    by_cases hid : i = id
    · subst hid
      rw [upd_same] at k; injection k with k; injection k with k; subst k
      exact ⟨b, c', clk', hb, setMap_same hbl, hk, hr⟩
    · rw [upd_ne _ _ hid] at k
      obtain ⟨b1, c1, clk, k1, k2, k3⟩ := h.map i es1 k
      have : b1 ≠ b := fun e => hid (h.inj i id b (by rw [k]; simp) hsl (e ▸ k1) hb)
      exact ⟨b1, c1, clk, k1, by rw [setMap_ne this]; exact k2, k3⟩
  · intro t' b1 p k1 k2
    have htt : t' ≠ id := fun e => by subst e; rw [upd_same] at k1; cases k1
    rw [upd_ne _ _ htt] at k1
    obtain ⟨h1, ⟨c', e', h2, h2'⟩, h3, h4, h5⟩ := h.tip t' b1 p k1 k2
    have : b1 ≠ b := fun e => h4 id (e ▸ hb)
    refine ⟨h1, ⟨c', e', by rw [setMap_ne this]; exact h2, h2'⟩, h3, h4, fun t'' p' e' k' => ?_⟩
    have h6 : t'' ≠ id := fun k' => by subst k'; rw [upd_same] at e'; cases e'
    rw [upd_ne _ _ h6] at e'
    exact h5 t'' p' e' k'
  · obtain ⟨N, hN⟩ := h.fin
    refine ⟨N, fun n hn => ?_⟩
    obtain ⟨h1, h2, h3⟩ := hN n hn
    have hnt : n ≠ id := fun e => by subst e; rw [hs] at h1; cases h1
    exact ⟨by rw [upd_ne _ _ hnt]; exact h1, h2, h3⟩

/-- A key's place. -/
theorem find_int (n : Int) : ∀ (l : List MapEntry) (es : List (Int × AVal)) (i : Nat), l.map (·.key) = es.map (fun e => Value.int .i64 e.1) →
    (Instr.findNow (.int .i64) (.int .i64 n) l i = some none ∧ es.find? (fun e => e.1 == n) = none ∧ (∀ x, mapSet es n x = es ++ [(n, x)]) ∧ mapDel es n = es) ∨
    ∃ j e0 y, Instr.findNow (.int .i64) (.int .i64 n) l i = some (some (i + j, e0.val)) ∧ l[j]? = some e0 ∧ e0.key = .int .i64 n ∧ es[j]? = some (n, y) ∧ es.find? (fun e => e.1 == n) = some (n, y) ∧
      (∀ x, mapSet es n x = es.set j (n, x)) ∧ mapDel es n = es.eraseIdx j
  | [], [], i, _ => .inl ⟨rfl, rfl, fun _ => rfl, rfl⟩
  | [], _ :: _, _, h => by simp at h
  | _ :: _, [], _, h => by simp at h
  | a :: l, (m, y) :: es, i, h => by
    simp only [List.map_cons, List.cons.injEq] at h
    obtain ⟨h1, h2⟩ := h
    by_cases hm : m = n
    · subst hm
      exact .inr ⟨0, a, y, by simp [Instr.findNow, Instr.sameNow, h1], rfl, h1, rfl, by simp, fun x => by simp [mapSet], by simp [mapDel]⟩
    · have hb : (m == n) = false := by simp [hm]
      have hb2 : (n == m) = false := by simp [Ne.symm hm]
      have hs : Instr.sameNow (.int .i64) (.int .i64 n) a.key = some false := by rw [h1]; simp [Instr.sameNow, Ne.symm hm]
      rcases find_int n l es (i + 1) h2 with ⟨g1, g2, g3, g4⟩ | ⟨j, e0, z, g1, g2, g3, g4, g5, g6, g7⟩
      · exact .inl ⟨by simp [Instr.findNow, hs, g1], by simp [hb, g2], fun x => by simp [mapSet, hm, g3], by simp [mapDel, hm, g4]⟩
      · exact .inr ⟨j + 1, e0, z, by simp [Instr.findNow, hs, g1]; omega, by simpa using g2, g3, by simpa using g4, by simp [hb, g5], fun x => by simp [mapSet, hm, g6], by simp [mapDel, hm, g7]⟩

theorem keys_ne {c : Array MapEntry} {es : List (Int × AVal)} {n : Int} (h : c.toList.map (·.key) = es.map fun e => Value.int .i64 e.1) (hn : es.find? (fun e => e.1 == n) = none) : ∀ x ∈ c.toList, x.key ≠ .int .i64 n := by
  intro x hx e
  have : x.key ∈ es.map fun e => Value.int .i64 e.1 := h ▸ List.mem_map_of_mem hx
  obtain ⟨y, hy, he⟩ := List.mem_map.1 this
  rw [e] at he
  have := List.find?_eq_none.1 hn y hy
  injection he with _ he
  simp [he] at this
theorem run_info {P : Program} {w : World} {t : TypeId} {i : TypeInfo} (h : P.info? t = some i) : (typeInfo t).run P w = .ok i w := by simp [typeInfo, run_program, h, Result.andThen]
theorem RepL.setAt {κ : Ghost} : ∀ {xs : List AVal} {vs : List Value} (j : Nat) {x : AVal} {v : Value}, RepL κ xs vs → RepV κ x v → RepL κ (xs.set j x) (vs.set j v)
  | _, _, _, _, _, .nil, _ => .nil
  | _, _, 0, _, _, .cons h t, k => .cons k t
  | _, _, j + 1, _, _, .cons h t, k => .cons h (RepL.setAt j t k)
theorem RepL.erase {κ : Ghost} : ∀ {xs : List AVal} {vs : List Value} (j : Nat), RepL κ xs vs → RepL κ (xs.eraseIdx j) (vs.eraseIdx j)
  | _, _, _, .nil => .nil
  | _, _, 0, .cons h t => t
  | _, _, j + 1, .cons h t => .cons h (RepL.erase j t)
theorem map_erase {α β : Type} (f : α → β) : ∀ (l : List α) (j : Nat), (l.eraseIdx j).map f = (l.map f).eraseIdx j
  | [], _ => by simp
  | _ :: _, 0 => by simp
  | a :: r, j + 1 => by simp [map_erase f r j]
theorem toList_modify {α : Type} (c : Array α) (j : Nat) (f : α → α) (a : α) (h : c.toList[j]? = some a) : (c.modify j f).toList = c.toList.set j (f a) := by
  rw [Array.toList_modify]
  apply List.ext_getElem?
  intro i
  rw [List.getElem?_modify, List.getElem?_set]
  by_cases e : j = i
  · subst e
    have := (List.getElem?_eq_some_iff.1 h).1
    have hs : j < c.size := by simpa using this
    have hg : c[j] = a := by rw [List.getElem?_eq_getElem this] at h; simpa using h
    simp [hs, hg]
  · simp [e]

section
variable {P : Program} {κ : Ghost} {σ : AHeap} {w : World} {n : Nat} {env : Env} {a : Act} {K : AVal → AHeap → Prop} {C : Cfg}
variable {dst : Option Tmp} {ty : TypeId} {pos : String} {after : Array Edge} {guard : Option (Nat × Bool)}

theorem ev_mkmap {t : TypeId} {r : Option Operand} {op : IOp} (hC : comp P C ⟨dst, .makeMap t r, ty, pos, after, guard⟩ = some op) (hI : Inv κ σ w) (h : op.ev P env σ K) : Good P a.eval ⟨dst, .makeMap t r, ty, pos, after, guard⟩ κ w K := by
  cases r with
  | some r => simp [comp] at hC
  | none =>
    simp only [comp] at hC
    cases hC
    simp only [IOp.ev, ANewMap_def] at h
    obtain ⟨id, hid⟩ := hI.fresh
    obtain ⟨κ', h1, h2, h3⟩ := hI.allocMap hid
    refine .inl ⟨.map (some w.heap.size), w.alloc (.map #[] 0), ?_, κ', _, _, h1, h2, .map h3, h id hid.1⟩
    simp only [execOp]
    refine execV _ ?_
    simp [Instr.makeMap, newObj, Sem.run]

theorem ev_look {t : TypeId} {m k : Operand} {ok : Bool} {op : IOp} (hC : comp P C ⟨dst, .lookup t m k ok, ty, pos, after, guard⟩ = some op) (hI : Inv κ σ w) (hE : RepE κ n env a.tmps) (h : op.ev P env σ K) :
    Good P a.eval ⟨dst, .lookup t m k ok, ty, pos, after, guard⟩ κ w K := by
  cases ok with
  | true => simp [comp] at hC
  | false =>
  simp only [comp] at hC
  split at hC
  · rename_i kt e ht
    split at hC
    · rename_i i hk hi
      split at hC
      · rename_i z hz
        obtain ⟨z', hz', hC⟩ := optbind hC
        obtain ⟨m', hm, hC⟩ := optbind hC
        obtain ⟨k', hk', hC⟩ := optmap hC
        subst hC
        have rm := opT_spec hE hm
        have rk := opT_spec hE hk'
        have rz := cstT_spec (κ := κ) hz'
        have hzv : (zeroValue e).run P w = .ok z w := by simp [zeroValue, run_info hi, hz, Result.andThen]
        simp only [IOp.ev, Opd.getK_eq] at h
        split at h
        · rename_i id x e1 e2
          rw [e1] at rm; rw [e2] at rk
          obtain ⟨b, hmv, hb⟩ := rm.map_inv
          obtain ⟨hkv, _⟩ := rk.v_inv
          rw [ALook_def] at h
          obtain ⟨es, hs, h⟩ := h
          obtain ⟨b', c, clk, k1, k2, k3, k4⟩ := hI.map id es hs
          rw [hb] at k1; cases k1
          rcases find_int x c.toList es 0 k3.1 with ⟨g1, g2, _⟩ | ⟨j, e0, y, g1, g2, g3, g4, g5, _⟩
          · rw [g2] at h
            refine .pure (v := z) ?_ hI rz h
            simp only [execOp, hmv, hkv]
            refine execV _ ?_
            simp [Instr.lookup, run_underlying ht, MapKept.run_getObj_map k2, run_checkKey hk (k := .int .i64 x) rfl, run_findKey hk g1, hzv, Result.andThen]
          · rw [g5] at h
            have hy : (es.map (·.2))[j]? = some y := by rw [List.getElem?_map, g4]; rfl
            obtain ⟨v, hv, hr⟩ := k4.get hy
            rw [List.getElem?_map, g2] at hv
            have hv : e0.val = v := by simpa using hv
            subst hv
            refine .pure (v := e0.val) ?_ hI hr h
            simp only [execOp, hmv, hkv]
            refine execV _ ?_
            simp [Instr.lookup, run_underlying ht, MapKept.run_getObj_map k2, run_checkKey hk (k := .int .i64 x) rfl, run_findKey hk g1, Result.andThen]
        · rename_i x e1 e2
          rw [e1] at rm; rw [e2] at rk
          obtain ⟨hmv, _⟩ := rm.v_inv
          obtain ⟨hkv, _⟩ := rk.v_inv
          refine .pure (v := z) ?_ hI rz h
          simp only [execOp, hmv, hkv]
          refine execV _ ?_
          simp [Instr.lookup, run_underlying ht, run_checkKey hk (k := .int .i64 x) rfl, run_findKey hk (l := []) (a := none) (k := .int .i64 x) rfl, hzv, Result.andThen]
        · exact h.elim
      · cases hC
    · cases hC
  · cases hC

theorem ev_mset {t : TypeId} {m k x : Operand} {op : IOp} (hC : comp P C ⟨dst, .mapUpdate t m k x, ty, pos, after, guard⟩ = some op) (hI : Inv κ σ w) (hE : RepE κ n env a.tmps) (h : op.ev P env σ K) :
    Good P a.eval ⟨dst, .mapUpdate t m k x, ty, pos, after, guard⟩ κ w K := by
  simp only [comp] at hC
  split at hC
  · rename_i kt e ht
    split at hC
    · rename_i hk
      obtain ⟨m', hm, hC⟩ := optbind hC
      obtain ⟨k', hk', hC⟩ := optbind hC
      obtain ⟨x', hx, hC⟩ := optmap hC
      subst hC
      have rm := opT_spec hE hm
      have rk := opT_spec hE hk'
      have rx := opT_spec hE hx
      simp only [IOp.ev, Opd.getK_eq] at h
      split at h
      · rename_i id q e1 e2
        rw [e1] at rm; rw [e2] at rk
        obtain ⟨b, hmv, hb⟩ := rm.map_inv
        obtain ⟨hkv, _⟩ := rk.v_inv
        rw [AMset_def] at h
        obtain ⟨es, hs, hcl, h⟩ := h
        obtain ⟨b', c, clk, k1, k2, k3, k4⟩ := hI.map id es hs
        rw [hb] at k1; cases k1
        have hkey : IsKey (.int .i64) (.int .i64 q) := rfl
        rcases find_int q c.toList es 0 k3.1 with ⟨g1, g2, g3, _⟩ | ⟨j, e0, y, g1, g2, g3, g4, g5, g6, _⟩
        · rw [g3] at h
          refine .inr (.inl ⟨setMap w b (c.push ⟨.int .i64 q, a.eval x, clk⟩) (clk + 1), ?_, κ, _, .top, Ghost.le.refl κ, hI.setMapObj hs hb k2 ⟨by simp [k3.1], stamped_push k3.2 (keys_ne k3.1 g2)⟩ ?_, .top, h⟩)
          · simp only [execOp, hmv, hkv]
            refine execU _ ?_
            simp [Instr.mapUpdate, run_underlying ht, MapKept.run_getObj_map k2, run_checkKey hk hkey, run_findKey hk g1, MapKept.run_setObj_map _ k2, Result.andThen, setMap]
          · simp only [List.map_append, List.map_cons, List.map_nil, Array.toList_push]
            exact k4.append (.cons rx .nil)
        · rw [g6] at h
          have hj : c[j]? = some e0 := by simpa using g2
          rw [Nat.zero_add] at g1
          refine .inr (.inl ⟨setMap w b (c.modify j fun e' => { e' with key := .int .i64 q, val := a.eval x }) clk, ?_, κ, _, .top, Ghost.le.refl κ, hI.setMapObj hs hb k2 ?_ ?_, .top, h⟩)
          · simp only [execOp, hmv, hkv]
            refine execU _ ?_
            simp [Instr.mapUpdate, run_underlying ht, MapKept.run_getObj_map k2, run_checkKey hk hkey, run_findKey hk g1, hj, g3, run_keyThatStays hkey, MapKept.run_setObj_map _ k2, Result.andThen, setMap]
          · refine ⟨by rw [toList_modify c j _ e0 g2, List.map_set, List.map_set, k3.1], stamped_modify k3.2 j _ (fun _ _ => rfl) (fun e' _ he => ?_)⟩
            rw [hj] at he; cases he; exact g3.symm
          · rw [toList_modify c j _ e0 g2, List.map_set, List.map_set]
            exact k4.setAt j rx
      · exact h.elim
    · cases hC
  · cases hC

theorem ev_mdel {t kt : TypeId} {m k : Operand} {m' k' : Opd} (hm : opT P t m = some m') (hk' : opT P kt k = some k') (hk : P.underlying kt = some (.int .i64)) (hI : Inv κ σ w) (hE : RepE κ n env a.tmps) (h : (IOp.mdel m' k').ev P env σ K) {G : Prop}
    (fin : ∀ (i : Nat) (w' : World), (∀ {at_ : Array TypeId} {e : TypeId}, at_[0]? = some t → P.underlying t = some (.map kt e) → (Builtin.delete_ at_ ty #[a.eval m, a.eval k]).run P w = .ok (.tuple #[]) w') → Post κ w' (.tuple #[]) K → G) : G := by
  have rm := opT_spec hE hm
  have rk := opT_spec hE hk'
  simp only [IOp.ev, Opd.getK_eq] at h
  split at h
  · rename_i id q e1 e2
    rw [e1] at rm; rw [e2] at rk
    obtain ⟨b, hmv, hb⟩ := rm.map_inv
    obtain ⟨hkv, _⟩ := rk.v_inv
    rw [AMdel_def] at h
    obtain ⟨es, hs, h⟩ := h
    obtain ⟨b', c, clk, k1, k2, k3, k4⟩ := hI.map id es hs
    rw [hb] at k1; cases k1
    have hkey : IsKey (.int .i64) (.int .i64 q) := rfl
    rcases find_int q c.toList es 0 k3.1 with ⟨g1, g2, _, g3⟩ | ⟨j, e0, y, g1, g2, g3, g4, g5, _, g6⟩
    · rw [g3] at h
      refine fin 0 (setMap w b c clk) (fun {at_ e} hat ht => ?_) ⟨κ, _, .tup [], Ghost.le.refl κ, hI.setMapObj hs hb k2 k3 k4, .tup .nil, h⟩
      rw [hmv, hkv]
      simp [Builtin.delete_, hat, run_underlying ht, MapKept.run_getObj_map k2, run_checkKey hk hkey, run_findKey hk g1, MapKept.run_setObj_map _ k2, Result.andThen, setMap]
    · rw [g6] at h
      rw [Nat.zero_add] at g1
      have hjs : j < c.size := by have := (List.getElem?_eq_some_iff.1 g2).1; simpa using this
      have hsub : (c.eraseIdxIfInBounds j).toList = c.toList.eraseIdx j := by
        unfold Array.eraseIdxIfInBounds
        rw [dif_pos hjs]
        simp
      refine fin 0 (setMap w b (c.eraseIdxIfInBounds j) clk) (fun {at_ e} hat ht => ?_) ⟨κ, _, .tup [], Ghost.le.refl κ, hI.setMapObj hs hb k2 ?_ ?_, .tup .nil, h⟩
      · rw [hmv, hkv]
        simp [Builtin.delete_, hat, run_underlying ht, MapKept.run_getObj_map k2, run_checkKey hk hkey, run_findKey hk g1, MapKept.run_setObj_map _ k2, Result.andThen, setMap]
      · exact ⟨by rw [hsub, map_erase, map_erase, k3.1], stamped_erase k3.2 j⟩
      · rw [hsub, map_erase, map_erase]
        exact k4.erase j
  · exact h.elim
end
end Go.Am
/-
  make, functions, calls and built-ins; every operation.
-/
namespace Go.Am
set_option linter.unusedSectionVars false
open Go.RowKit (Below)

section
variable {P : Program} {κ : Ghost} {σ : AHeap} {w : World} {n : Nat} {env : Env} {a : Act} {K : AVal → AHeap → Prop} {C : Cfg}
variable {dst : Option Tmp} {ty : TypeId} {pos : String} {after : Array Edge} {guard : Option (Nat × Bool)}

theorem wrap_small {m : Int} (h0 : 0 ≤ m) (h1 : m < 4611686018427387904) : IntKind.i64.wrap m = m := by
  unfold IntKind.wrap IntKind.signed IntKind.bits
  simp only [Bool.true_and]
  have : m % (2 ^ 64 : Int) = m := Int.emod_eq_of_lt h0 (by omega)
  rw [this, if_neg]
  simp; omega

theorem zero_list (c : Array Value) : ∀ m : Nat, ((Array.range (m * c.size)).map fun x => c[x % c.size]!).toList = (List.replicate m c.toList).flatten
  | 0 => by simp
  | m + 1 => by
    have ih := zero_list c m
    simp only [Array.toList_map, Array.toList_range] at ih ⊢
    rw [Nat.succ_mul, Nat.add_comm, List.range_add, List.map_append, List.map_map, List.replicate_succ, List.flatten_cons, ← ih]
    congr 1
    · refine List.ext_getElem (by simp) fun i h1 h2 => ?_
      simp only [List.length_map, List.length_range] at h1
      simp [Nat.mod_eq_of_lt h1, h1]
    · refine List.map_congr_left fun x _ => ?_
      simp only [Function.comp, Nat.add_mod_left]
theorem rep_many {z : AVal} {vs : List Value} (h : RepL κ z.cells vs) : ∀ m : Nat, RepL κ ((List.replicate m z).flatMap AVal.cells) (List.replicate m vs).flatten
  | 0 => .nil
  | m + 1 => by rw [List.replicate_succ, List.flatMap_cons, List.replicate_succ, List.flatten_cons]; exact h.append (rep_many h m)
theorem ones_many {vs : List Value} (h : Ones vs) : ∀ m : Nat, Ones (List.replicate m vs).flatten
  | 0 => nofun
  | m + 1 => by rw [List.replicate_succ, List.flatten_cons]; exact h.append (ones_many h m)
theorem len_many {α : Type} (vs : List α) : ∀ m : Nat, (List.replicate m vs).flatten.length = m * vs.length
  | 0 => by simp
  | m + 1 => by rw [List.replicate_succ, List.flatten_cons, List.length_append, len_many vs m, Nat.succ_mul, Nat.add_comm]

theorem ev_mk {t : TypeId} {l c : Operand} {op : IOp} (hC : comp P C ⟨dst, .makeSlice t l c, ty, pos, after, guard⟩ = some op) (hI : Inv κ σ w) (hE : RepE κ n env a.tmps) (h : op.ev P env σ K) :
    Good P a.eval ⟨dst, .makeSlice t l c, ty, pos, after, guard⟩ κ w K := by
  simp only [comp] at hC
  split at hC
  · rename_i e ht
    split at hC
    · rename_i i zs hi hz
      split at hC
      · rename_i z hg
        obtain ⟨hzc, hC⟩ := bifsome hC
        obtain ⟨l', hl, hC⟩ := optbind hC
        obtain ⟨c', hc, hop⟩ := optmap hC
        have rl := opT_spec hE hl
        have rc := opT_spec hE hc
        obtain ⟨i', z0, h1, h2, h3, h4, h5, h6⟩ := zeroT_spec (κ := κ) hz
        rw [hi] at h1; cases h1
        have hz1 : ∃ v0, z0.cells = #[v0] ∧ RepV κ z v0 ∧ v0.oneCell = true := by
          have hll := h4.length
          obtain ⟨arr⟩ : Nonempty (Array Value) := ⟨z0.cells⟩
          cases hzz : z0.cells.toList with
          | nil => rw [hzz] at hll; simp at hll
          | cons v0 r =>
            rw [hzz] at h4 hll h5
            have : r = [] := by simpa using hll.symm
            subst this
            cases h4 with
            | cons hv _ => exact ⟨v0, by apply Array.ext'; simpa using hzz, hv, h5 v0 (List.mem_cons_self ..)⟩
        obtain ⟨v0, hz1, hz2, hz3⟩ := hz1
        have hcs : z.cells = [z] := by cases z <;> first | rfl | (simp [AVal.isCell] at hzc)
        have run : ∀ {k1 k2 : IntKind} {m : Int}, a.eval l = .int k1 m → a.eval c = .int k2 m → 0 ≤ m → m < 4611686018427387904 → m * i.bytes ≤ 281474976710656 →
            (execOp a.eval ⟨dst, .makeSlice t l c, ty, pos, after, guard⟩).run P w = .ok (.value (.slice (some ⟨w.heap.size, 0, none⟩) m.toNat m.toNat)) (w.alloc (.cells (List.replicate m.toNat v0).toArray e)) := by
          intro k1 k2 m hlv hcv q0 q1 q2
          have hsz : i.size = 1 := by rw [← h3, hz1]; rfl
          simp only [execOp, hlv, hcv]
          refine execV _ ?_
          have hw := wrap_small q0 q1
          have hn1 : ¬ m < 0 := by omega
          have hn2 : ¬ (281474976710656 < (i.bytes : Int) * m) := by rw [Int.mul_comm]; omega
          have hzr : (if m.toNat = 0 then (pure #[] : Sem (Array Value)) else do pure (← zeroValue e).cells).run P w = .ok (if m.toNat = 0 then #[] else #[v0]) w := by
            split
            · rfl
            · simp [zeroValue, typeInfo, hi, h2, hz1]
          by_cases h0 : m.toNat = 0
          · simp [Instr.makeSlice, run_underlying ht, asInt, asIntOf, typeInfo, hi, hw, hn1, hn2, sizeOf, hsz, newRow, h0]
            have hr0 : Array.map (fun (_ : Nat) => (default : Value)) (Array.range 0) = #[] := by simp
            rw [hr0]
          · have hmap : (Array.range m.toNat).map (fun x => (#[v0] : Array Value)[x % (#[v0] : Array Value).size]!) = (List.replicate m.toNat v0).toArray := by
              apply Array.ext (by simp)
              intro j h1 h2
              simp [Nat.mod_one]
            simp [Instr.makeSlice, run_underlying ht, asInt, asIntOf, typeInfo, hi, hw, hn1, hn2, sizeOf, hsz, newRow, h0, zeroValue, h2, hz1]
            have hmap' := congrArg (fun c => w.alloc (.cells c e)) hmap
            simpa using hmap'
        cases hm : C.m.contains t with
        | true =>
          rw [hm] at hop
          simp only [cond_true] at hop
          subst hop
          simp only [IOp.ev, Opd.getK_eq] at h
          split at h
          · rename_i k1 m k2 m2 e1 e2
            rw [e1] at rl; rw [e2] at rc
            obtain ⟨hlv, _⟩ := rl.v_inv
            obtain ⟨hcv, _⟩ := rc.v_inv
            obtain ⟨rfl, h⟩ := h
            rw [AMk_def, ANew_def] at h
            obtain ⟨q0, q1, q2, hall, hk⟩ := h
            obtain ⟨N, hN⟩ := hI.fin
            obtain ⟨κ', r1, r2, r3, r4⟩ := hI.allocObj (c := (List.replicate m.toNat v0).toArray) (e := e) (cs := List.replicate m.toNat z) (vs := List.replicate m.toNat v0) (us := []) (by simp) (.replicate hz2 _) (Ones.replicate hz3 _) nofun (hN N (Nat.le_refl _))
            exact .inl ⟨_, _, run hlv hcv q0 q1 q2, κ', _, _, r1, r2, .ms r3 r4 (Nat.le_refl _) (by simp), hk N (hN N (Nat.le_refl _)).1⟩
          · exact h.elim
        | false =>
        rw [hm] at hop
        simp only [cond_false] at hop
        subst hop
        simp only [IOp.ev, Opd.getK_eq] at h
        split at h
        · rename_i k1 m k2 m2 e1 e2
          rw [e1] at rl; rw [e2] at rc
          obtain ⟨hlv, _⟩ := rl.v_inv
          obtain ⟨hcv, _⟩ := rc.v_inv
          obtain ⟨rfl, h⟩ := h
          rw [AMk_def] at h
          obtain ⟨q0, q1, q2, hk⟩ := h
          rw [hcs] at hk
          have hflat : (List.replicate m.toNat z).flatMap AVal.cells = List.replicate m.toNat z := by
            induction m.toNat with
            | zero => rfl
            | succ k ih => simp only [List.replicate_succ, List.flatMap_cons, ih, hcs]; rfl
          have hrep : RepL κ ((List.replicate m.toNat z).flatMap AVal.cells) (List.replicate m.toNat v0) := by rw [hflat]; exact .replicate hz2 _
          obtain ⟨N, hN⟩ := hI.fin
          obtain ⟨κ', r1, r2, r3⟩ := hI.newSlice (c := (List.replicate m.toNat v0).toArray) (e := e) (s := 1) (cap := m.toNat) (xs := List.replicate m.toNat z) (us := [])
            (fun x hx => by rw [List.eq_of_mem_replicate hx, hcs]; rfl) hrep (by simp) (by simpa using Ones.replicate hz3 _) (by simp) (by simp) (t := N) (hN N (Nat.le_refl _))
          rw [List.length_replicate] at r3
          exact .inl ⟨_, _, run hlv hcv q0 q1 q2, κ', σ, _, r1, r2.sub (Sub.upd_fresh _ (hN N (Nat.le_refl _)).1), r3.full_of_tip, hk⟩
        · exact h.elim
      · rename_i zs zs2 o0 n0 hg
        obtain ⟨hb, hC⟩ := bifsome hC
        simp only [Bool.and_eq_true, Bool.not_eq_true'] at hb
        have hnz := Nat.ne_of_beq_eq_false hb.2
        obtain ⟨l', hl, hC⟩ := optbind hC
        obtain ⟨c', hc, rfl⟩ := optmap hC
        have rl := opT_spec hE hl
        have rc := opT_spec hE hc
        obtain ⟨i', z0, h1, h2, h3, h4, h5, h6⟩ := zeroT_spec (κ := κ) hz
        rw [hi] at h1; cases h1
        simp only [IOp.ev, Opd.getK_eq] at h
        split at h
        · rename_i k1 m k2 m2 e1 e2
          rw [e1] at rl; rw [e2] at rc
          obtain ⟨hlv, _⟩ := rl.v_inv
          obtain ⟨hcv, _⟩ := rc.v_inv
          obtain ⟨rfl, h⟩ := h
          rw [AMk_def] at h
          obtain ⟨q0, q1, q2, hk⟩ := h
          have hzl : zs.length = i.size := by rw [h4.length, ← h3]; simp
          obtain ⟨N, hN⟩ := hI.fin
          obtain ⟨κ', r1, r2, r3⟩ := hI.newSlice (c := (List.replicate m.toNat z0.cells.toList).flatten.toArray) (e := e) (s := zs.length) (cap := m.toNat) (xs := List.replicate m.toNat (.agg zs)) (us := [])
            (fun x hx => by rw [List.eq_of_mem_replicate hx]; rfl) (rep_many (z := .agg zs) h4 _) (by simp) (by simpa using ones_many h5 _) (by simp) (by simp [len_many, h4.length]) (t := N) (hN N (Nat.le_refl _))
          rw [List.length_replicate] at r3
          refine .inl ⟨_, _, ?_, κ', σ, _, r1, r2.sub (Sub.upd_fresh _ (hN N (Nat.le_refl _)).1), r3.full_of_tip, hk⟩
          simp only [execOp, hlv, hcv]
          refine execV _ ?_
          have hw := wrap_small q0 q1
          have hn1 : ¬ m < 0 := by omega
          have hn2 : ¬ (281474976710656 < (i.bytes : Int) * m) := by rw [Int.mul_comm]; omega
          have hmap : (Array.range (m.toNat * i.size)).map (fun x => z0.cells[x % z0.cells.size]!) = (List.replicate m.toNat z0.cells.toList).flatten.toArray := by
            rw [← h3, ← zero_list z0.cells m.toNat]
          by_cases h0 : m.toNat = 0
          · simp [Instr.makeSlice, run_underlying ht, asInt, asIntOf, typeInfo, hi, hw, hn1, hn2, sizeOf, newRow, h0]
            have hr0 : Array.map (fun (_ : Nat) => (default : Value)) (Array.range 0) = #[] := by simp
            try rw [hr0]
          · simp only [Instr.makeSlice, Sem.run_bind, run_underlying ht, Result.andThen_ok]
            simp [asInt, asIntOf, typeInfo, hi, hw, hn1, hn2, sizeOf, newRow, h0, hnz, zeroValue, h2]
            rw [if_neg (Nat.mul_ne_zero h0 hnz), hmap]
        · exact h.elim
      · cases hC
    · cases hC
  · cases hC

theorem ev_fn {g : FuncId} {first caps : Array Operand} {op : IOp} (hC : comp P C ⟨dst, .makeFunc (.func g) first caps, ty, pos, after, guard⟩ = some op) (hI : Inv κ σ w) (hE : RepE κ n env a.tmps) (h : op.ev P env σ K) :
    Good P a.eval ⟨dst, .makeFunc (.func g) first caps, ty, pos, after, guard⟩ κ w K := by
  simp only [comp] at hC
  obtain ⟨f', hf, hC⟩ := optbind hC
  obtain ⟨c', hc, rfl⟩ := optmap hC
  have rf := opsU_spec hE hf
  have rc := opsU_spec hE hc
  simp only [IOp.ev, Opd.getK_eq] at h
  rw [getLK_eq, getLK_eq] at h
  refine .pure (v := .func (.func g) (first.map a.eval) (caps.map a.eval)) (by simp [execOp, Instr.makeFunc]) hI ?_ h
  have := RepV.func (g := g) rf rc
  have e : ∀ xs : Array Operand, (List.map a.eval xs.toList).toArray = xs.map a.eval := fun xs => by apply Array.ext'; simp
  rw [e, e] at this
  exact this

theorem run_builtin {Cl : Call} {b : Builtin} (hb : Cl.callee = .builtin b) {S : Sem Value} {v : Value} {w' : World}
    (hS : ∀ cs, Go.builtin b Cl.argTypes ty cs (Cl.args.map a.eval) = (do pure (.value (← S)))) (h : S.run P w = .ok v w') :
    (execOp a.eval ⟨dst, .call Cl, ty, pos, after, guard⟩).run P w = .ok (.value v) w' := by
  simp only [execOp, resolve, hb, Sem.run_bind, Sem.run_pure, Result.andThen_ok, invoke]
  rw [hS]
  exact execV _ h

theorem call_good {o : Oper} {g : FuncId} {args : List AVal} {cargs : List Value} (hI : Inv κ σ w) (hr : (execOp a.eval o).run P w = .ok (.enter g cargs.toArray) w) (hargs : RepL κ args cargs) (h : ACalls P g args σ K) : Good P a.eval o κ w K := by
  rw [ACalls_def] at h
  refine .inr (.inr ⟨g, _, hr, (h κ w cargs hI hargs).mono ?_⟩)
  rintro e w' ⟨v, κ', σ', x, rfl, h1, h2, h3, h4⟩
  exact ⟨v, rfl, κ', σ', x, h1, h2, h3, h4⟩

theorem ev_call {Cl : Call} {op : IOp} (hC : comp P C ⟨dst, .call Cl, ty, pos, after, guard⟩ = some op) (hI : Inv κ σ w) (hE : RepE κ n env a.tmps) (h : op.ev P env σ K) :
    Good P a.eval ⟨dst, .call Cl, ty, pos, after, guard⟩ κ w K := by
  simp only [comp] at hC
  have two : ∀ {x y : Operand}, Cl.args.toList = [x, y] → Cl.args = #[x, y] := fun h => by apply Array.ext'; simpa using h
  unfold compCall at hC
  split at hC
  · -- a named function
    rename_i g hcal
    split at hC
    · rename_i fn hfn
      obtain ⟨hcb, hC⟩ := bifsome hC
      obtain ⟨xs, hx, rfl⟩ := optmap hC
      have rx := opsT_spec hE hx
      have hrun := run_call_fn (P := P) (w := w) hcal a.eval rfl ty dst pos after guard hcb
      have hargs : (Cl.args.toList.map a.eval).toArray = Cl.args.map a.eval := by apply Array.ext'; simp
      rw [← hargs] at hrun
      cases hp : C.p.contains g with
      | true =>
        rw [hp] at h
        simp only [cond_true, IOp.ev] at h
        rw [getLK_eq] at h
        obtain ⟨r, h1, h2⟩ := h.out
        refine call_good hI hrun rx ?_
        have h1 := h1 σ (fun _ _ _ e => e)
        rw [ACalls_def] at h1 ⊢
        intro κ1 w1 cargs h3 h4
        refine (h1 κ1 w1 cargs h3 h4).mono ?_
        rintro e w' ⟨v, κ', σ', x, q1, q2, q3, q4, q5, q6⟩
        subst q5; subst q6
        exact ⟨v, κ', _, _, q1, q2, q3, q4, h2⟩
      | false =>
      rw [hp] at h
      simp only [cond_false] at h
      cases hq : C.q.contains g with
      | true =>
        rw [hq] at h
        simp only [cond_true, IOp.ev] at h
        rw [getLK_eq] at h
        refine call_good hI hrun rx ?_
        rw [ACalls_def] at h ⊢
        intro κ1 w1 cargs h1 h2
        refine (h κ1 w1 cargs h1 h2).mono ?_
        rintro e w' ⟨v, κ', σ', x, h3, h4, h5, h6, h7⟩
        exact ⟨v, κ', σ', x, h3, h4, h5, h6, h7.1⟩
      | false =>
        rw [hq] at h
        simp only [cond_false, IOp.ev] at h
        rw [getLK_eq] at h
        exact call_good hI hrun rx h
    · cases hC
  · -- a function value
    rename_i f hnf hcal
    obtain ⟨f', hf, hC⟩ := optbind hC
    obtain ⟨xs, hx, rfl⟩ := optmap hC
    have rf := opT_spec hE hf
    have rx := opsU_spec hE hx
    simp only [IOp.ev, Opd.getK_eq] at h
    split at h
    · rename_i g first caps he
      rw [he] at rf
      rw [getLK_eq] at h
      obtain ⟨hcb, h⟩ := h
      obtain ⟨fv, cv, hv, hfv, hcv⟩ := rf.func_inv
      refine call_good (cargs := fv ++ Cl.args.toList.map a.eval ++ cv) hI ?_ ((hfv.append rx).append hcv) h
      unfold callB at hcb
      split at hcb
      · rename_i fn hfn
        simp only [Bool.and_eq_true, Bool.not_eq_true'] at hcb
        have h1 : fn.body.isNone = false := by cases hb : fn.body <;> simp_all
        have h2 : (fn.name == "runtime.NumGoroutine") = false := hcb.2
        have hargs : fv.toArray ++ Cl.args.map a.eval ++ cv.toArray = (fv ++ Cl.args.toList.map a.eval ++ cv).toArray := by apply Array.ext'; simp
        simp only [execOp, resolve, hcal, hv, Deferred.ofValue, Sem.run_bind, Sem.run_pure, Result.andThen_ok, invoke, callFunc, run_program, hfn, h1, h2, Bool.false_eq_true, if_false]
        rw [← hargs]
        try simp [hfn, h1, h2]
      · cases hcb
    · exact h.elim
  · -- len
    rename_i hcal
    split at hC
    · rename_i t x ht hx
      have hargs : Cl.args = #[x] := by apply Array.ext'; simpa using hx
      have fin : ∀ (x' : Opd) (k : Nat) , RepV κ (x'.get env) (a.eval x) → (∀ v, a.eval x = v → (Builtin.len_ Cl.argTypes ty #[v]).run P w = .ok (.int .i64 k) w) → K (.v (.int .i64 k)) σ → Good P a.eval ⟨dst, .call Cl, ty, pos, after, guard⟩ κ w K := by
        intro x' k r1 r2 r3
        refine .pure (v := .int .i64 k) (run_builtin hcal (S := Builtin.len_ Cl.argTypes ty (Cl.args.map a.eval)) (fun _ => rfl) ?_) hI (.v rfl) r3
        have : Cl.args.map a.eval = #[a.eval x] := by rw [hargs]; simp
        rw [this]; exact r2 _ rfl
      split at hC
      · rename_i e hu
        obtain ⟨x', hx', rfl⟩ := optmap hC
        have rx := opT_spec hE hx'
        simp only [IOp.ev, Opd.getK_eq] at h
        split at h
        · rename_i s xs tk _ he
          rw [he] at rx
          refine fin x' xs.length (by rw [he]; exact rx) ?_ h
          intro v hv
          subst hv
          rcases rx.slice_inv with ⟨⟨a0, hv⟩, hn⟩ | ⟨b, off, cap, vs, hv, _⟩
          · subst hn; rw [hv]; simp [Builtin.len_, ht, run_underlying hu, goInt]
          · rw [hv]; simp [Builtin.len_, ht, run_underlying hu, goInt]
        · rename_i r s off ln _ he
          rw [he] at rx
          refine fin x' ln (by rw [he]; exact rx) ?_ h
          intro v hv
          subst hv
          obtain ⟨b, cap, m, hv, _⟩ := rx.ms_inv
          rw [hv]; simp [Builtin.len_, ht, run_underlying hu, goInt]
        · rename_i hf _; cases hf
        · exact h.elim
      · rename_i hu
        obtain ⟨x', hx', rfl⟩ := optmap hC
        have rx := opT_spec hE hx'
        simp only [IOp.ev, Opd.getK_eq] at h
        split at h
        · rename_i hf _; cases hf
        · rename_i hf _; cases hf
        · rename_i b _ he
          rw [he] at rx
          refine fin x' b.size (by rw [he]; exact rx) ?_ h
          intro v hv
          subst hv
          obtain ⟨hv, _⟩ := rx.v_inv
          rw [hv]; simp [Builtin.len_, ht, run_underlying hu, goInt]
        · exact h.elim
      · rename_i hu
        obtain ⟨x', hx', rfl⟩ := optmap hC
        have rx := opT_spec hE hx'
        simp only [IOp.ev, Opd.getK_eq] at h
        split at h
        · rename_i id he
          rw [he] at rx
          obtain ⟨b, hmv, hb⟩ := rx.map_inv
          rw [AMLen_def] at h
          obtain ⟨es, hs, h⟩ := h
          obtain ⟨b', c, clk, k1, k2, k3, k4⟩ := hI.map id es hs
          rw [hb] at k1; cases k1
          have hn : c.size = es.length := by have := k4.length; simpa using this.symm
          refine fin x' es.length (by rw [he]; exact rx) ?_ h
          intro v hv
          subst hv
          rw [hmv]; simp [Builtin.len_, ht, run_underlying hu, MapKept.run_getObj_map k2, hn, goInt]
        · rename_i he
          rw [he] at rx
          refine fin x' 0 (by rw [he]; exact rx) ?_ h
          intro v hv
          subst hv
          obtain ⟨hv, _⟩ := rx.v_inv
          rw [hv]; simp [Builtin.len_, ht, run_underlying hu, goInt]
        · exact h.elim
      · cases hC
    · cases hC
  · -- cap
    rename_i hcal
    split at hC
    · rename_i t x ht hx
      have hargs : Cl.args = #[x] := by apply Array.ext'; simpa using hx
      split at hC
      · rename_i e hu
        obtain ⟨x', hx', rfl⟩ := optmap hC
        have rx := opT_spec hE hx'
        simp only [IOp.ev, Opd.getK_eq] at h
        split at h
        · rename_i s xs he
          rw [he] at rx
          refine .pure (v := .int .i64 xs.length) (run_builtin hcal (S := Builtin.cap_ Cl.argTypes ty (Cl.args.map a.eval)) (fun _ => rfl) ?_) hI (.v rfl) h
          have : Cl.args.map a.eval = #[a.eval x] := by rw [hargs]; simp
          rw [this]
          rcases rx.slice_inv with ⟨⟨a0, hv⟩, hn⟩ | ⟨b, off, cap, vs, hv, g2, g3, g4, g5, g6⟩
          · subst hn; rw [hv]; simp [Builtin.cap_, ht, run_underlying hu, goInt]
          · rw [hv]
            have g6 : cap = xs.length := g6
            simp [Builtin.cap_, ht, run_underlying hu, goInt, g6]
        · exact h.elim
      · cases hC
    · cases hC
  · -- delete
    rename_i hcal
    split at hC
    · rename_i t m k ht hx
      have hargs : Cl.args = #[m, k] := two hx
      split at hC
      · rename_i kt e hu
        split at hC
        · rename_i hk
          obtain ⟨m', hm, hC⟩ := optbind hC
          obtain ⟨k', hk', rfl⟩ := optmap hC
          have hta : Cl.args.map a.eval = #[a.eval m, a.eval k] := by rw [hargs]; simp
          refine ev_mdel (ty := ty) hm hk' hk hI hE h fun i w' hr hp => .inl ⟨.tuple #[], w', run_builtin hcal (S := Builtin.delete_ Cl.argTypes ty (Cl.args.map a.eval)) (fun _ => rfl) ?_, hp⟩
          rw [hta]
          exact hr ht hu
        · cases hC
      · cases hC
    · cases hC
  · -- clear
    rename_i hcal
    split at hC
    · rename_i t x ht hx
      have hargs : Cl.args = #[x] := by apply Array.ext'; simpa using hx
      have hta : Cl.args.map a.eval = #[a.eval x] := by rw [hargs]; simp
      split at hC
      · rename_i e hu
        split at hC
        · rename_i z hz
          obtain ⟨x', hx', rfl⟩ := optmap hC
          have rx := opT_spec hE hx'
          obtain ⟨i, zv, hi, hiz, hsz, hrz, hoz, haz⟩ := zeroT_spec (κ := κ) hz
          simp only [IOp.ev, Opd.getK_eq] at h
          have fin : ∀ (w' : World), (Builtin.clear_ Cl.argTypes ty #[a.eval x]).run P w = .ok (.tuple #[]) w' → Post κ w' (.tuple #[]) K → Good P a.eval ⟨dst, .call Cl, ty, pos, after, guard⟩ κ w K := by
            intro w' hr hp
            refine .inl ⟨.tuple #[], w', run_builtin hcal (S := Builtin.clear_ Cl.argTypes ty (Cl.args.map a.eval)) (fun _ => rfl) ?_, hp⟩
            rw [hta]; exact hr
          split at h
          · rename_i r s off ln he
            rw [he] at rx
            obtain ⟨hs1, h⟩ := bifTrue h
            rw [AStore_def] at h
            obtain ⟨cs, h1, h2, h3, h4⟩ := h
            obtain ⟨b, cap, m, hv, hb, _⟩ := rx.ms_inv
            cases ln with
            | zero =>
              refine fin w ?_ ⟨κ, _, .tup [], Ghost.le.refl κ, ?_, .tup .nil, h4⟩
              · rw [hv]; simp [Builtin.clear_, ht, run_underlying hu]
              · rw [show splice cs off (List.replicate 0 z) = cs by simp [splice], upd_get _ _ _ h1]; exact hI
            | succ k =>
              obtain ⟨w', r1, r2⟩ := hI.storeObjL (P := P) (vs := (Builtin.zeroCells zv.cells (k + 1)).toList) h1 hb (zeroCells_reps hrz (k + 1)) h2 h3
              refine fin w' ?_ ⟨κ, _, .tup [], Ghost.le.refl κ, r2, .tup .nil, h4⟩
              rw [hv]
              have hzv : (zeroValue e).run P w = .ok zv w := by simp [zeroValue, run_info hi, hiz, Result.andThen]
              simp [Builtin.clear_, ht, run_underlying hu, hzv, r1, Result.andThen]
          · rename_i s tk he
            rw [he] at rx
            refine fin w ?_ ⟨κ, _, .tup [], Ghost.le.refl κ, hI, .tup .nil, h⟩
            rcases rx.slice_inv with ⟨⟨a0, hv⟩, hn⟩ | ⟨b, off, cap, vs, hv, _⟩
            · rw [hv]; cases a0 <;> simp [Builtin.clear_, ht, run_underlying hu]
            · rw [hv]; simp [Builtin.clear_, ht, run_underlying hu]
          · exact h.elim
        · cases hC
      · cases hC
    · cases hC
  · -- max
    rename_i hcal
    split at hC
    · rename_i x y hxy
      have hargs : Cl.args = #[x, y] := by apply Array.ext'; simpa using hxy
      obtain ⟨x', hx, hC⟩ := optbind hC
      obtain ⟨y', hy, rfl⟩ := optmap hC
      have rx := opT_spec hE hx
      have ry := opT_spec hE hy
      simp only [IOp.ev, Opd.getK_eq] at h
      split at h
      · rename_i k m k' m' e1 e2
        rw [e1] at rx; rw [e2] at ry
        obtain ⟨hk, hh⟩ := bifTrue h
        clear h
        have hk := of_decide_eq_true hk
        subst hk
        have h := hh
        rw [AMx_def] at h
        obtain ⟨hxv, _⟩ := rx.v_inv
        obtain ⟨hyv, _⟩ := ry.v_inv
        refine .pure (run_builtin hcal (S := Builtin.max_ Cl.argTypes ty (Cl.args.map a.eval)) (fun _ => rfl) ?_) hI (.v rfl) h
        have : Cl.args.map a.eval = #[.int k m, .int k m'] := by rw [hargs]; simp [hxv, hyv]
        rw [this, run_max_int2]; simp
      · exact h.elim
    · cases hC
  · -- min
    rename_i hcal
    split at hC
    · rename_i x y hxy
      have hargs : Cl.args = #[x, y] := by apply Array.ext'; simpa using hxy
      obtain ⟨x', hx, hC⟩ := optbind hC
      obtain ⟨y', hy, rfl⟩ := optmap hC
      have rx := opT_spec hE hx
      have ry := opT_spec hE hy
      simp only [IOp.ev, Opd.getK_eq] at h
      split at h
      · rename_i k m k' m' e1 e2
        rw [e1] at rx; rw [e2] at ry
        obtain ⟨hk, hh⟩ := bifTrue h
        clear h
        have hk := of_decide_eq_true hk
        subst hk
        have h := hh
        rw [AMx_def] at h
        obtain ⟨hxv, _⟩ := rx.v_inv
        obtain ⟨hyv, _⟩ := ry.v_inv
        refine .pure (run_builtin hcal (S := Builtin.min_ Cl.argTypes ty (Cl.args.map a.eval)) (fun _ => rfl) ?_) hI (.v rfl) h
        have : Cl.args.map a.eval = #[.int k m, .int k m'] := by rw [hargs]; simp [hxv, hyv]
        rw [this, run_min_int2]; simp
      · exact h.elim
    · rename_i x y z hxy
      have hargs : Cl.args = #[x, y, z] := by apply Array.ext'; simpa using hxy
      obtain ⟨x', hx, hC⟩ := optbind hC
      obtain ⟨y', hy, hC⟩ := optbind hC
      obtain ⟨z', hz, rfl⟩ := optmap hC
      have rx := opT_spec hE hx
      have ry := opT_spec hE hy
      have rz := opT_spec hE hz
      simp only [IOp.ev, Opd.getK_eq] at h
      split at h
      · rename_i k m k' m' k2 m2 e1 e2 e3
        rw [e1] at rx; rw [e2] at ry; rw [e3] at rz
        obtain ⟨hk, hh⟩ := bifTrue h
        clear h
        obtain ⟨hk, hk2⟩ := of_decide_eq_true hk
        subst hk
        subst hk2
        have h := hh
        rw [AMx_def, AMx_def] at h
        obtain ⟨hxv, _⟩ := rx.v_inv
        obtain ⟨hyv, _⟩ := ry.v_inv
        obtain ⟨hzv, _⟩ := rz.v_inv
        refine .pure (run_builtin hcal (S := Builtin.min_ Cl.argTypes ty (Cl.args.map a.eval)) (fun _ => rfl) ?_) hI (.v rfl) h
        have : Cl.args.map a.eval = #[.int k m, .int k m', .int k m2] := by rw [hargs]; simp [hxv, hyv, hzv]
        rw [this]; rfl
      · exact h.elim
    · cases hC
  · -- append
    rename_i hcal
    split at hC
    · rename_i t u x y htu hxy
      have hargs : Cl.args = #[x, y] := by apply Array.ext'; simpa using hxy
      have htys : Cl.argTypes = #[t, u] := by apply Array.ext'; simpa using htu
      have hmap : ∀ vx vy, a.eval x = vx → a.eval y = vy → Cl.args.map a.eval = #[vx, vy] := fun vx vy h1 h2 => by rw [hargs]; simp [h1, h2]
      have good : ∀ v w', (Builtin.append_ Cl.argTypes ty (Cl.args.map a.eval)).run P w = .ok v w' → Post κ w' v K → Good P a.eval ⟨dst, .call Cl, ty, pos, after, guard⟩ κ w K := fun v w' h1 h2 =>
        .inl ⟨v, w', run_builtin hcal (fun _ => rfl) h1, h2⟩
      split at hC
      · rename_i e ud hte hud
        split at hC
        · rename_i i zs hi hz
          obtain ⟨i', z0, g1, g2, g3, g4, g5, g6⟩ := zeroT_spec (κ := κ) hz
          rw [hi] at g1; cases g1
          -- the two ways of a run, for whatever is appended
          have ways : ∀ (base : Option Addr) (sLen sCap : Nat) (vy : Value) (ny : Nat) (news : List Value), a.eval x = .slice base sLen sCap → a.eval y = vy → i.size ≠ 0 → i.bytes ≠ 0 →
              ((∃ e2, P.underlying u = some (.slice e2)) ∨ P.underlying u = some .string) → (Builtin.lenOf vy).run P w = .ok ny w → (∀ w', w'.heap = w.heap → (Builtin.firstCells i.size ny vy).run P w' = .ok news.toArray w') →
              news.length = ny * i.size → (sLen + ny) * i.bytes ≤ 140737488355328 →
              (sLen + ny ≤ sCap → (Builtin.append_ Cl.argTypes ty (Cl.args.map a.eval)).run P w = fitRun P w base (sLen + ny) sCap (sLen * i.size) news) ∧
              (¬ sLen + ny ≤ sCap → ∀ olds : List Value, (Builtin.firstCells i.size sLen (.slice base sLen sCap)).run P w.drew = .ok olds.toArray w.drew →
                ∃ cap c rest, sLen + ny ≤ cap ∧ (Builtin.append_ Cl.argTypes ty (Cl.args.map a.eval)).run P w = .ok (.slice (some ⟨w.heap.size, 0, none⟩) (sLen + ny) cap) (w.drew.alloc (.cells c e)) ∧
                  c.toList = olds ++ (news ++ rest) ∧ Ones rest ∧ (olds.length = sLen * i.size → cap * i.size ≤ c.size)) := by
            intro base sLen sCap vy ny news h1 h2 h3 h4 h5 h6 h7 h8 h9
            rw [hmap _ _ h1 h2, htys]
            refine ⟨fun hc => append_fits hte hi h5 base h6 (h7 w rfl) hc, fun hc olds ho => ?_⟩
            have hr := append_grows (ty := ty) (olds := olds) hte hi g2 h5 base h6 (h7 w.drew rfl) ho hc h4 h9
            refine ⟨_, _, (Builtin.zeroCells z0.cells (grownCap w (sLen + ny) sCap e - (sLen + ny))).toList, ?_, hr, by simp, ones_zero g5 _, fun hol => ?_⟩
            · unfold grownCap; simp only [Question.cut]; omega
            · have hge : sLen + ny ≤ grownCap w (sLen + ny) sCap e := by unfold grownCap; simp only [Question.cut]; omega
              simp only [Array.size_append, List.size_toArray, size_zero, g3, hol, h8]
              rw [← Nat.add_assoc, ← Nat.add_mul, ← Nat.add_mul]
              exact Nat.le_of_eq (by congr 1; omega)
          -- a list of elements
          have many : ∀ (x' y' : Opd), opT P t x = some x' → opT P u y = some y' → i.size ≠ 0 → i.bytes ≠ 0 → ((∃ e2, P.underlying u = some (.slice e2)) ∨ P.underlying u = some .string) →
              (IOp.ev P env σ (.app i.size i.bytes x' y') K ∨ IOp.ev P env σ (.appm i.size i.bytes x' y') K) → Good P a.eval ⟨dst, .call Cl, ty, pos, after, guard⟩ κ w K := by
            intro x' y' hx hy h3 h4 h5 h
            have rx := opT_spec hE hx
            have ry := opT_spec hE hy
            rcases h with h | h
            · simp only [IOp.ev, Opd.getK_eq] at h
              split at h
              · rename_i s1 xs tk he
                rw [he] at rx
                obtain ⟨hs, hh⟩ := bifTrue h
                clear h
                have hs := Nat.eq_of_beq_eq_true hs
                subst hs
                obtain ⟨ys, news, q1, q2, q3, q4, q5, q6⟩ := elems_spec (P := P) hI ry hh h3
                rw [AApp_def] at q1
                obtain ⟨σ', p1, p2, p3⟩ := q1
                have hval : ∃ A cap, a.eval x = .slice A xs.length cap := by
                  rcases rx.slice_inv with ⟨⟨a0, hv⟩, hn⟩ | ⟨b, off, cap, vs, hv, _⟩
                  · subst hn; exact ⟨a0, 0, hv⟩
                  · exact ⟨_, cap, hv⟩
                obtain ⟨A, cap, hav⟩ := hval
                have hnl : news.length = ys.length * i.size := by rw [← q3.length, flat_len q2]
                obtain ⟨w1, w2⟩ := ways A xs.length cap _ ys.length news hav rfl h3 h4 h5 q5 q6 hnl p2
                rw [hav] at rx
                obtain ⟨v, w', r1, r2⟩ := hI.app (P := P) rx q2 q3 q4 h3 w1 w2 p1 p3
                exact good v w' r1 r2
              · exact h.elim
            · simp only [IOp.ev, Opd.getK_eq] at h
              split at h
              · rename_i s1 xs tk he
                rw [he] at rx
                obtain ⟨hs, hh⟩ := bifTrue h
                clear h
                have hs := Nat.eq_of_beq_eq_true hs
                subst hs
                obtain ⟨ys, news, q1, q2, q3, q4, q5, q6⟩ := elems_spec (P := P) hI ry hh h3
                rw [AAppNew_def] at q1
                rcases q1 with ⟨rfl, p2, p3⟩ | q1 | q1
                · have hval : ∃ A cap, a.eval x = .slice A xs.length cap := by
                    rcases rx.slice_inv with ⟨⟨a0, hv⟩, hn⟩ | ⟨b, off, cap, vs, hv, _⟩
                    · subst hn; exact ⟨a0, 0, hv⟩
                    · exact ⟨_, cap, hv⟩
                  obtain ⟨A, cap, hav⟩ := hval
                  have hnn : news = [] := by cases q3; rfl
                  subst hnn
                  obtain ⟨w1, w2⟩ := ways A xs.length cap _ ([] : List AVal).length [] hav rfl h3 h4 h5 q5 q6 (by simp) (by simpa using p2)
                  rw [hav] at rx
                  obtain ⟨v, w', r1, r2⟩ := hI.appNone (P := P) rx w1 p3
                  exact good v w' r1 r2
                · obtain ⟨rfl, p1, rfl, p2, p3, p4⟩ := q1
                  have hval : ∃ A cap, a.eval x = .slice A 0 cap := by
                    rcases rx.slice_inv with ⟨⟨a0, hv⟩, hn⟩ | ⟨b, off, cap, vs, hv, _⟩
                    · exact ⟨a0, 0, hv⟩
                    · exact ⟨_, cap, hv⟩
                  obtain ⟨A, cap, hav⟩ := hval
                  have hnl : news.length = ys.length * i.size := by rw [← q3.length, flat_len q2]
                  obtain ⟨w1, w2⟩ := ways A 0 cap _ ys.length news hav rfl h3 h4 h5 q5 q6 hnl (by rw [Nat.zero_add]; exact p2)
                  rw [hav] at rx
                  obtain ⟨v, w', r1, r2⟩ := hI.appNew (P := P) rx q2 q3 q4 w2 p1 p4
                  exact good v w' r1 r2
                · rw [AApp_def] at q1
                  obtain ⟨σ', p1, p2, p3⟩ := q1
                  have hval : ∃ A cap, a.eval x = .slice A xs.length cap := by
                    rcases rx.slice_inv with ⟨⟨a0, hv⟩, hn⟩ | ⟨b, off, cap, vs, hv, _⟩
                    · subst hn; exact ⟨a0, 0, hv⟩
                    · exact ⟨_, cap, hv⟩
                  obtain ⟨A, cap, hav⟩ := hval
                  have hnl : news.length = ys.length * i.size := by rw [← q3.length, flat_len q2]
                  obtain ⟨w1, w2⟩ := ways A xs.length cap _ ys.length news hav rfl h3 h4 h5 q5 q6 hnl p2
                  rw [hav] at rx
                  obtain ⟨v, w', r1, r2⟩ := hI.app (P := P) rx q2 q3 q4 h3 w1 w2 p1 p3
                  exact good v w' r1 r2
              · rename_i r s1 off ln he
                rw [he] at rx
                obtain ⟨hs, hh⟩ := bifTrue h
                clear h
                have hs := Nat.eq_of_beq_eq_true hs
                subst hs
                obtain ⟨ys, news, q1, q2, q3, q4, q5, q6⟩ := elems_spec (P := P) hI ry hh h3
                rw [AAppM_def] at q1
                obtain ⟨rfl, p1, p2, cs, p3, p4, p5⟩ := q1
                obtain ⟨b, cap, m, hav, _⟩ := rx.ms_inv
                have hnl : news.length = ys.length * i.size := by rw [← q3.length, flat_len q2]
                obtain ⟨w1, w2⟩ := ways (some ⟨b, 0, none⟩) ln cap _ ys.length news hav rfl h3 h4 h5 q5 q6 hnl p1
                rw [hav] at rx
                obtain ⟨v, w', r1, r2⟩ := hI.appM (P := P) rx p3 p4 q2 q3 q4 w1 w2 p5
                exact good v w' r1 r2
              · exact h.elim
          have many2 : ∀ op, ((bif zs.all AVal.isCell && !(Nat.beq i.size 0) && !(Nat.beq i.bytes 0) then (opT P t x).bind fun x => (opT P u y).map fun y => bif C.m.contains t then IOp.appm i.size i.bytes x y else IOp.app i.size i.bytes x y else none) = some op) →
              ((∃ e2, P.underlying u = some (.slice e2)) ∨ P.underlying u = some .string) → IOp.ev P env σ op K → Good P a.eval ⟨dst, .call Cl, ty, pos, after, guard⟩ κ w K := by
            intro op hC h5 h
            obtain ⟨hb, hC⟩ := bifsome hC
            simp only [Bool.and_eq_true, Bool.not_eq_true'] at hb
            obtain ⟨x', hx, hC⟩ := optbind hC
            obtain ⟨y', hy, hop⟩ := optmap hC
            refine many x' y' hx hy (Nat.ne_of_beq_eq_false hb.1.2) (Nat.ne_of_beq_eq_false hb.2) h5 ?_
            cases hm : C.m.contains t with
            | true => rw [hm] at hop; subst hop; exact .inr h
            | false => rw [hm] at hop; subst hop; exact .inl h
          have noughts : ∀ (z : AVal) (k : IntKind) (x' y' : Opd), z.cells = zs → ud = .int k → i.size ≠ 0 → i.bytes ≠ 0 → opT P t x = some x' → opT P u y = some y' → IOp.ev P env σ (.app0 i.size i.bytes z x' y') K → Good P a.eval ⟨dst, .call Cl, ty, pos, after, guard⟩ κ w K := by
              intro z k x' y' hzc hk h3 h4 hx hy h
              subst hk
              have rx := opT_spec hE hx
              have ry := opT_spec hE hy
              have hcl : z.cells.length = i.size := by rw [hzc, g4.length, ← g3]; simp
              have hzl : ∀ m : Nat, (Builtin.zeroCells z0.cells m).toList = (List.replicate m z0.cells.toList).flatten := fun m => zero_list z0.cells m
              have hrep : ∀ m : Nat, RepL κ ((List.replicate m z).flatMap AVal.cells) (List.replicate m z0.cells.toList).flatten := fun m => rep_many (by rw [hzc]; exact g4) m
              have hones : ∀ m : Nat, Ones (List.replicate m z0.cells.toList).flatten := fun m => ones_many g5 m
              have hel : ∀ m : Nat, ∀ y ∈ List.replicate m z, y.cells.length = i.size := fun m y hy => by rw [List.eq_of_mem_replicate hy, hcl]
              have ways0 : ∀ (base : Option Addr) (sLen sCap : Nat) (m : Int) (k' : IntKind), a.eval x = .slice base sLen sCap → a.eval y = .int k' m → 0 ≤ m → m < 4611686018427387904 → m * i.bytes ≤ 140737488355328 →
                  (sLen + (List.replicate m.toNat z).length) * i.bytes ≤ 140737488355328 →
                  (sLen + (List.replicate m.toNat z).length ≤ sCap → (Builtin.append_ Cl.argTypes ty (Cl.args.map a.eval)).run P w = fitRun P w base (sLen + (List.replicate m.toNat z).length) sCap (sLen * i.size) (List.replicate m.toNat z0.cells.toList).flatten) ∧
                  (¬ sLen + (List.replicate m.toNat z).length ≤ sCap → ∀ olds : List Value, (Builtin.firstCells i.size sLen (.slice base sLen sCap)).run P w.drew = .ok olds.toArray w.drew →
                    ∃ cap c rest, sLen + (List.replicate m.toNat z).length ≤ cap ∧ (Builtin.append_ Cl.argTypes ty (Cl.args.map a.eval)).run P w = .ok (.slice (some ⟨w.heap.size, 0, none⟩) (sLen + (List.replicate m.toNat z).length) cap) (w.drew.alloc (.cells c e)) ∧
                      c.toList = olds ++ ((List.replicate m.toNat z0.cells.toList).flatten ++ rest) ∧ Ones rest ∧ (olds.length = sLen * i.size → cap * i.size ≤ c.size)) := by
                intro base sLen sCap m k' h1 h2 q0 q1 q2 h9
                rw [List.length_replicate] at h9 ⊢
                have hw := wrap_small q0 q1
                rw [hmap _ _ h1 h2, htys]
                refine ⟨fun hc => ?_, fun hc olds ho => ?_⟩
                · have := append0_fits (w := w) (ty := ty) hte hi g2 hud base q0 q2 hw h3 (k' := k') hc
                  rw [this, hzl]
                · have hr := append0_grows (w := w) (ty := ty) (olds := olds) hte hi g2 hud base q0 q2 hw h3 (k' := k') ho hc h4 h9
                  refine ⟨_, _, (Builtin.zeroCells z0.cells (grownCap w (sLen + m.toNat) sCap e - (sLen + m.toNat))).toList, ?_, hr, by simp [hzl], ones_zero g5 _, fun hol => ?_⟩
                  · unfold grownCap; simp only [Question.cut]; omega
                  · have hge : sLen + m.toNat ≤ grownCap w (sLen + m.toNat) sCap e := by unfold grownCap; simp only [Question.cut]; omega
                    simp only [Array.size_append, List.size_toArray, size_zero, g3, hol]
                    rw [← Nat.add_assoc, ← Nat.add_mul, ← Nat.add_mul]
                    exact Nat.le_of_eq (by congr 1; omega)
              simp only [IOp.ev, Opd.getK_eq] at h
              split at h
              · rename_i s1 xs tk k' m e1 e2
                rw [e1] at rx; rw [e2] at ry
                obtain ⟨hs, hh⟩ := bifTrue h
                clear h
                simp only [Bool.and_eq_true] at hs
                have hs1 := Nat.eq_of_beq_eq_true hs.1
                subst hs1
                obtain ⟨q0, q1, q2, hh⟩ := hh
                obtain ⟨hyv, _⟩ := ry.v_inv
                have hval : ∃ A cap, a.eval x = .slice A xs.length cap := by
                  rcases rx.slice_inv with ⟨⟨a0, hv⟩, hn⟩ | ⟨b, off, cap, vs, hv, _⟩
                  · subst hn; exact ⟨a0, 0, hv⟩
                  · exact ⟨_, cap, hv⟩
                obtain ⟨A, cap, hav⟩ := hval
                rcases hh with hh | hh
                · rw [AApp_def] at hh
                  obtain ⟨σ', p1, p2, p3⟩ := hh
                  obtain ⟨w1, w2⟩ := ways0 A xs.length cap m k' hav hyv q0 q1 q2 p2
                  rw [hav] at rx
                  obtain ⟨v, w', r1, r2⟩ := hI.app (P := P) rx (hel m.toNat) (hrep m.toNat) (hones _) h3 w1 w2 p1 p3
                  exact good v w' r1 r2
                · rw [AAppNew_def] at hh
                  rcases hh with ⟨p0, p2, p3⟩ | hh | hh
                  · have hm0 : m.toNat = 0 := by cases hq : m.toNat with
                      | zero => rfl
                      | succ k => rw [hq] at p0; cases p0
                    obtain ⟨w1, w2⟩ := ways0 A xs.length cap m k' hav hyv q0 q1 q2 (by rw [hm0]; simpa using p2)
                    rw [hav] at rx
                    obtain ⟨v, w', r1, r2⟩ := hI.appNone (P := P) (S := Builtin.append_ Cl.argTypes ty (Cl.args.map a.eval)) rx (fun hle => by have := w1 (by rw [hm0]; exact hle); rw [hm0] at this; exact this) p3
                    exact good v w' r1 r2
                  · obtain ⟨rfl, p1, rfl, p2, p3, p4⟩ := hh
                    obtain ⟨w1, w2⟩ := ways0 A 0 cap m k' hav hyv q0 q1 q2 (by rw [Nat.zero_add]; exact p2)
                    have hav' : a.eval x = .slice A 0 cap := hav
                    have rx' : RepV κ (.slice i.size [] .full) (.slice A 0 cap) := by rw [← hav']; exact rx
                    obtain ⟨v, w', r1, r2⟩ := hI.appNew (P := P) rx' (hel m.toNat) (hrep m.toNat) (hones _) w2 p1 p4
                    exact good v w' r1 r2
                  · rw [AApp_def] at hh
                    obtain ⟨σ', p1, p2, p3⟩ := hh
                    obtain ⟨w1, w2⟩ := ways0 A xs.length cap m k' hav hyv q0 q1 q2 p2
                    rw [hav] at rx
                    obtain ⟨v, w', r1, r2⟩ := hI.app (P := P) rx (hel m.toNat) (hrep m.toNat) (hones _) h3 w1 w2 p1 p3
                    exact good v w' r1 r2
              · rename_i r s1 off ln k' m e1 e2
                rw [e1] at rx; rw [e2] at ry
                obtain ⟨hs, hh⟩ := bifTrue h
                clear h
                simp only [Bool.and_eq_true] at hs
                have hs1 := Nat.eq_of_beq_eq_true hs.1
                subst hs1
                obtain ⟨q0, q1, q2, hh⟩ := hh
                obtain ⟨hyv, _⟩ := ry.v_inv
                rw [AAppM_def] at hh
                obtain ⟨rfl, p1, p2, cs, p3, p4, p5⟩ := hh
                obtain ⟨b, cap, m', hav, _⟩ := rx.ms_inv
                obtain ⟨w1, w2⟩ := ways0 (some ⟨b, 0, none⟩) ln cap m k' hav hyv q0 q1 q2 p1
                rw [hav] at rx
                obtain ⟨v, w', r1, r2⟩ := hI.appM (P := P) rx p3 p4 (hel m.toNat) (hrep m.toNat) (hones _) w1 w2 p5
                exact good v w' r1 r2
              · exact h.elim
          split at hC
          · -- noughts
            rename_i k
            split at hC
            · rename_i z hg
              obtain ⟨hb, hC⟩ := bifsome hC
              simp only [Bool.and_eq_true, Bool.not_eq_true'] at hb
              have h4 := Nat.ne_of_beq_eq_false hb.1
              have h3 := Nat.eq_of_beq_eq_true hb.2
              obtain ⟨x', hx, hC⟩ := optbind hC
              obtain ⟨y', hy, rfl⟩ := optmap hC
              have hzc : z.isCell = true := by simpa using g6
              have hcs : z.cells = [z] := by cases z <;> first | rfl | (simp [AVal.isCell] at hzc)
              exact noughts z k x' y' hcs rfl (by rw [h3]; decide) h4 hx hy (by rw [h3]; exact h)
            · rename_i zs zs2 o0 n0 hg
              obtain ⟨hb, hC⟩ := bifsome hC
              simp only [Bool.and_eq_true, Bool.not_eq_true'] at hb
              obtain ⟨x', hx, hC⟩ := optbind hC
              obtain ⟨y', hy, rfl⟩ := optmap hC
              exact noughts (.agg zs) k x' y' rfl rfl (Nat.ne_of_beq_eq_false hb.1.2) (Nat.ne_of_beq_eq_false hb.1.1) hx hy h
            · cases hC
          · exact many2 op hC (.inl ⟨_, hud⟩) h
          · exact many2 op hC (.inr hud) h
          · cases hC
        · cases hC
      · cases hC
    · cases hC
  · cases hC
end
end Go.Am
/-
  Rows, and regions: in their order; and where the order is drawn.
-/
namespace Go.Am
set_option linter.unusedSectionVars false
open Go.RowKit (Below)

section
variable {P : Program} {C : Cfg}

theorem ev_sound {κ : Ghost} {σ : AHeap} {w : World} {n : Nat} {env : Env} {a : Act} {K : AVal → AHeap → Prop} {o : Oper} {op : IOp} (hC : comp P C o = some op) (hI : Inv κ σ w) (hE : RepE κ n env a.tmps) (h : op.ev P env σ K) :
    Good P a.eval o κ w K := by
  obtain ⟨dst, opc, ty, pos, after, guard⟩ := o
  cases opc with
  | move x => exact ev_plain hC hI hE h (.inl ⟨x, rfl⟩)
  | assign x => exact ev_plain hC hI hE h (.inr (.inl ⟨x, rfl⟩))
  | pick c x y => exact ev_plain hC hI hE h (.inr (.inr (.inl ⟨c, x, y, rfl⟩)))
  | binOp b t x y u => exact ev_plain hC hI hE h (.inr (.inr (.inr (.inl ⟨b, t, x, y, u, rfl⟩))))
  | unOp u t x =>
    cases u <;> first
      | exact ev_plain hC hI hE h (.inr (.inr (.inr (.inr (.inl ⟨t, x, rfl⟩)))))
      | (simp [comp] at hC)
  | extract x i => exact ev_plain hC hI hE h (.inr (.inr (.inr (.inr (.inr (.inl ⟨x, i, rfl⟩))))))
  | nilCheck x => exact ev_plain hC hI hE h (.inr (.inr (.inr (.inr (.inr (.inr ⟨x, rfl⟩))))))
  | load t x => exact ev_load hC hI hE h
  | store t p x => exact ev_store hC hI hE h
  | alloc t => exact ev_alloc hC hI h
  | box t x => exact ev_box hC hI hE h
  | convert s d x => exact ev_conv hC hI hE h
  | build t ps => exact ev_build hC hI hE h
  | buildSlice t m ps => exact ev_row hC hI hE h
  | fieldAddr s x f => exact ev_faddr hC hI hE h
  | field s x f => exact ev_field hC hI hE h
  | index t x i => exact ev_index hC hI hE h
  | indexAddr t x i => exact ev_iaddr hC hI hE h
  | slice t x lo hi mx => exact ev_cut hC hI hE h
  | makeSlice t l c => exact ev_mk hC hI hE h
  | makeFunc f first caps =>
    cases f with
    | func g => exact ev_fn hC hI hE h
    | _ => simp [comp] at hC
  | makeMap t r => exact ev_mkmap hC hI h
  | lookup t m k ok => exact ev_look hC hI hE h
  | mapUpdate t m k x => exact ev_mset hC hI hE h
  | call c => exact ev_call hC hI hE h
  | _ => simp [comp] at hC

/-- The state at a point of a body. -/
structure St (κ : Ghost) (n : Nat) (σ : AHeap) (env : Env) (a : Act) (w : World) : Prop where
  inv : Inv κ σ w
  rep : RepE κ n env a.tmps
  defers : a.defers = []

/-- A post on abstract states, at the model's states. -/
def Lift (κ : Ghost) (n : Nat) (Q : Exit → Env → AHeap → Prop) : Exit → Act → World → Prop := fun e a w => ∃ κ' env σ, κ.le κ' ∧ St κ' n σ env a w ∧ Q e env σ

theorem Lift.le {κ κ' : Ghost} (h : κ.le κ') {n : Nat} {Q : Exit → Env → AHeap → Prop} {e : Exit} {a : Act} {w : World} (k : Lift κ' n Q e a w) : Lift κ n Q e a w :=
  let ⟨κ2, env, σ, h1, h2⟩ := k; ⟨κ2, env, σ, h.trans h1, h2⟩

def putE (env : Env) (d : Option Pth) (v : AVal) : Env :=
  match d with
  | none => env
  | some d => env.set d v

/-- A row, without the slots written out. -/
def rowP (P : Program) (r : IRow) (env : Env) (σ : AHeap) (K : Env → AHeap → Prop) : Prop :=
  match r.guard with
  | none => r.op.ev P env σ fun v σ' => K (putE env r.dst v) σ'
  | some (g, want) => (∃ b, env.get g = .v (.bool b) ∧ if b = want then r.op.ev P env σ fun v σ' => K (putE env r.dst v) σ' else K (putE env r.dst (.tup [])) σ) ∨ (env.get g = .tup [] ∧ K (putE env r.dst (.tup [])) σ)

theorem setD_eq (env : Env) (d : Option Pth) (v : AVal) (k : Env → Prop) : setD env d v k = k (putE env d v) := by
  cases d with
  | none => rfl
  | some d => exact Env.setK_eq k env d v

theorem evRow_rowP {r : IRow} {env : Env} {σ : AHeap} {K : Env → AHeap → Prop} (h : evRow P r env σ K) : rowP P r env σ K := by
  obtain ⟨dst, guard, op⟩ := r
  cases guard with
  | none => simp only [evRow, setD_eq] at h; exact h
  | some gw =>
    obtain ⟨g, want⟩ := gw
    simp only [evRow, guardK] at h
    split at h
    · rename_i b he
      rw [ABr_def] at h
      simp only [Env.setK_eq, setD_eq] at h
      have hs : env.set g (.v (.bool b)) = env := by rw [← he]; exact env.set_get g
      rw [hs] at h
      refine .inl ⟨b, he, ?_⟩
      cases b <;> cases want <;> simpa using h
    · rename_i he
      simp only [setD_eq] at h
      exact .inr ⟨he, h⟩
    · exact h.elim

theorem compRow_spec {ops : Array Oper} {o : Oper} {r : IRow} (h : compRow P C ops o = some r) :
    compN P C o = r.op ∧ r.dst = o.dst.map pth ∧ (∀ d, o.dst = some d → d < C.n) ∧ compGuard ops o = some r.guard := by
  unfold compRow at h
  obtain ⟨h1, h⟩ := bifsome h
  obtain ⟨g, h2, rfl⟩ := optmap h
  refine ⟨rfl, rfl, fun d hd => ?_, h2⟩
  rw [hd] at h1
  exact Nat.le_of_ble_eq_true h1

theorem yielded_bool {ops : Array Oper} {tmps : Array Value} {j d : Nat} {b : Bool} (h1 : (ops[j]?).bind (·.dst) = some d) (h2 : tmps[d]? = some (.bool b)) : yielded ops tmps j = some b := by
  simp [yielded, h1, h2]

/-- A row of the region, run. -/
theorem row_sound {ops : Array Oper} {i : Nat} {o : Oper} {r : IRow} (ho : ops[i]? = some o) (hr : compRow P C ops o = some r) {κ : Ghost} {σ : AHeap} {env : Env} {a : Act} {w : World} (hS : St κ C.n σ env a w)
    {K : Env → AHeap → Prop} (h : rowP P r env σ K) {next : Act → World → Prop} {Q : Exit → Act → World → Prop}
    (hn : ∀ κ' σ' env' a' w', κ.le κ' → St κ' C.n σ' env' a' w' → K env' σ' → next a' w') : wpOp P ops Q i next a w := by
  obtain ⟨h1, h2, h3, h4⟩ := compRow_spec hr
  have put : ∀ (κ' : Ghost) (σ' : AHeap) (w' : World) (v : Value) (x : AVal), κ.le κ' → Inv κ' σ' w' → RepV κ' x v → K (putE env r.dst x) σ' → next (a.put o.dst v) w' := by
    intro κ' σ' w' v x q1 q2 q3 q4
    rw [h2] at q4
    cases hd : o.dst with
    | none => rw [hd] at q4; exact hn κ' σ' _ _ _ q1 ⟨q2, hS.rep.mono q1, hS.defers⟩ q4
    | some d => rw [hd] at q4; exact hn κ' σ' _ _ _ q1 ⟨q2, (hS.rep.mono q1).put (h3 d hd) q3, hS.defers⟩ q4
  have op : r.op.ev P env σ (fun v σ' => K (putE env r.dst v) σ') → o.wp P a w next Q := by
    intro h
    have hcp : comp P C o = some r.op := by
      unfold compN at h1
      split at h1
      · rename_i op hop; rw [hop, h1]
      · rw [← h1] at h; exact h.elim
    rcases ev_sound hcp hS.inv hS.rep h with ⟨v, w', g1, κ', σ', x, g2, g3, g4, g5⟩ | ⟨w', g1, κ', σ', x, g2, g3, g4, g5⟩ | ⟨g, cargs, g1, g2⟩
    · unfold Oper.wp; rw [g1]; exact put κ' σ' w' v x g2 g3 g4 g5
    · unfold Oper.wp; rw [g1]; exact put κ' σ' w' undef x g2 g3 g4 g5
    · unfold Oper.wp; rw [g1]
      refine g2.mono ?_
      rintro e w' ⟨v, rfl, κ', σ', x, q1, q2, q3, q4⟩
      exact put κ' σ' w' v x q1 q2 q3 q4
  unfold wpOp
  simp only [ho]
  unfold rowP at h
  unfold compGuard at h4
  cases hg : o.guard with
  | none =>
    rw [hg] at h4
    simp only [Option.some.injEq] at h4
    rw [← h4] at h
    have : Region.wanted o (yielded ops a.tmps) = true := by simp [Region.wanted, hg]
    rw [if_pos this]
    exact .inl (op h)
  | some gw =>
    obtain ⟨j, want⟩ := gw
    rw [hg] at h4
    simp only at h4
    split at h4
    · rename_i d hd
      simp only [Option.some.injEq] at h4
      rw [← h4] at h
      rcases h with ⟨b, hb, h⟩ | ⟨hb, h⟩
      case inr =>
        have hval : a.tmps[d]? = some (.tuple #[]) := by
          have hsz : d < a.tmps.size := by
            rcases Nat.lt_or_ge d a.tmps.size with k | k
            · exact k
            · have := hS.rep.out (pth d) (by rw [num_pth, ← hS.rep.size]; exact k)
              rw [this] at hb; cases hb
          have hr := hS.rep.get (pth d) a.tmps[d] (by rw [num_pth]; simp [hsz])
          rw [hb] at hr
          rw [Array.getElem?_eq_getElem hsz]
          generalize a.tmps[d] = u at hr
          cases hr with
          | tup hr => cases hr; rfl
        have hy : yielded ops a.tmps j = none := by simp [yielded, hd, hval]
        have hw : Region.wanted o (yielded ops a.tmps) = false := by
          simp only [Region.wanted, hg, hy]; rfl
        rw [if_neg (by rw [hw]; decide)]
        exact put κ σ w undef (.tup []) (Ghost.le.refl κ) hS.inv (.tup .nil) h
      have hval : a.tmps[d]? = some (.bool b) := by
        have hsz : d < a.tmps.size := by
          rcases Nat.lt_or_ge d a.tmps.size with k | k
          · exact k
          · have := hS.rep.out (pth d) (by rw [num_pth, ← hS.rep.size]; exact k)
            rw [this] at hb; cases hb
        have hr := hS.rep.get (pth d) a.tmps[d] (by rw [num_pth]; simp [hsz])
        rw [hb] at hr
        obtain ⟨hv, _⟩ := hr.v_inv
        rw [Array.getElem?_eq_getElem hsz, hv]
      have hy := yielded_bool hd hval
      have hw : Region.wanted o (yielded ops a.tmps) = decide (b = want) := by
        simp only [Region.wanted, hg, hy]
        cases b <;> cases want <;> rfl
      by_cases hbw : b = want
      · rw [if_pos hbw] at h
        rw [if_pos (by rw [hw]; simp [hbw])]
        exact .inl (op h)
      · rw [if_neg hbw] at h
        rw [if_neg (by rw [hw]; simp [hbw])]
        exact put κ σ w undef (.tup []) (Ghost.le.refl κ) hS.inv (.tup .nil) h
    · cases h4

/-- Rows, one behind the other. -/
theorem rows_sound {ops : Array Oper} {Q : Exit → Act → World → Prop} {K : Env → AHeap → Prop} : ∀ (os : List Oper) (k : Nat) (rows : List IRow), (∀ j, os[j]? = ops[k + j]?) → compRows P C ops os = some rows → k + os.length = ops.size →
    ∀ {κ : Ghost} {σ : AHeap} {env : Env} {a : Act} {w : World}, St κ C.n σ env a w → evRT P (rowsRT rows) env σ K → (∀ κ' σ' env' a' w', κ.le κ' → St κ' C.n σ' env' a' w' → K env' σ' → Q .normal a' w') →
    wpOps P ops Q ((List.range' k os.length)) a w
  | [], k, rows, _, hr, _, κ, σ, env, a, w, hS, h, hQ => by
    simp only [compRows, Option.some.injEq] at hr; subst hr
    exact hQ κ σ env a w (Ghost.le.refl κ) hS h
  | o :: os, k, rows, hk, hr, hl, κ, σ, env, a, w, hS, h, hQ => by
    simp only [compRows] at hr
    obtain ⟨r, h1, hr⟩ := optbind hr
    obtain ⟨rs, h2, rfl⟩ := optmap hr
    have ho : ops[k]? = some o := by simpa using (hk 0).symm
    simp only [List.length_cons, List.range'_succ]
    rw [wpOps_cons]
    simp only [rowsRT, evRT] at h
    refine row_sound ho h1 hS (evRow_rowP h) fun κ' σ' env' a' w' q1 q2 q3 => ?_
    exact rows_sound os (k + 1) rs (fun j => by have := hk (j + 1); simpa [Nat.add_assoc, Nat.add_comm 1 j] using this) h2 (by simp at hl; omega) q2 q3
      fun κ2 σ2 env2 a2 w2 p1 p2 p3 => hQ κ2 σ2 env2 a2 w2 (q1.trans p1) p2 p3
end
end Go.Am
/-
  Operations: what they look at; which give the same at any later time.
-/
namespace Go.Am
set_option linter.unusedSectionVars false
open Go.RowKit (Below)

theorem fillK_eq (env : Env) : ∀ (ps : List (Nat × Nat × Opd)) (zs : List AVal) (k : List AVal → Prop) (env' : Env), (∀ x ∈ ps.map (·.2.2), x.get env = x.get env') → fillK env ps zs k = fillK env' ps zs k
  | [], zs, k, env', _ => rfl
  | (off, n, x) :: ps, zs, k, env', h => by
    have hx := h x (by simp)
    have ht : ∀ l, fillK env ps l k = fillK env' ps l k := fun l => fillK_eq env ps l k env' fun y hy => h y (by simp only [List.map_cons, List.mem_cons]; exact .inr hy)
    simp only [fillK, Opd.getK_eq, hx, ht]

theorem ev_congr {P : Program} {op : IOp} {env env' : Env} (h : ∀ x ∈ op.opds, x.get env = x.get env') (σ : AHeap) (K : AVal → AHeap → Prop) : op.ev P env σ K = op.ev P env' σ K := by
  have mp : ∀ {xs : List Opd}, (∀ x ∈ xs, x.get env = x.get env') → xs.map (Opd.get env) = xs.map (Opd.get env') := fun h => List.map_congr_left h
  cases op <;> simp only [IOp.opds, List.mem_cons, List.not_mem_nil, or_false, forall_eq_or_imp, forall_eq, List.mem_append] at h <;> simp only [IOp.ev, Opd.getK_eq, getLK_eq]
  case mv => rw [h]
  case pick => obtain ⟨h1, h2, h3⟩ := h; rw [h1, h2, h3]
  case bin => rw [h.1, h.2]
  case eqNil => rw [h]
  case eqAgg => rw [h.1, h.2]
  case not => rw [h]
  case conv => rw [h]
  case b2s => rw [h]
  case s2b => rw [h]
  case box => rw [h]
  case build zero ps => exact fillK_eq env ps zero _ env' h
  case row => rw [mp h]
  case rowT => rw [mp h]
  case mark => rw [h]
  case load => rw [h]
  case store => rw [h.1, h.2]
  case nilchk => rw [h]
  case faddr => rw [h]
  case field => rw [h]
  case iaddr => rw [h.1, h.2]
  case iaddrA => rw [h.1, h.2]
  case index => rw [h.1, h.2]
  case cut s x lo hi mx =>
    obtain ⟨h1, h2⟩ := h
    have hb : ∀ (y : Option Opd), (∀ x ∈ optL y, x.get env = x.get env') → ∀ d k, intOr env y d k = intOr env' y d k := by
      intro y hy d k
      cases y with
      | none => rfl
      | some y => simp only [intOr]; rw [hy y (by simp [optL])]
    have e1 := hb lo fun x hx => h2 x (.inl (.inl hx))
    have e2 := hb hi fun x hx => h2 x (.inl (.inr hx))
    have e3 := hb mx fun x hx => h2 x (.inr hx)
    simp only [h1, e1, e2, e3]
  case mk => rw [h.1, h.2]
  case mkm => rw [h.1, h.2]
  case look => rw [h.1, h.2]
  case mset => rw [h.1, h.2.1, h.2.2]
  case mdel => rw [h.1, h.2]
  case fn => rw [mp fun x hx => h x (.inl hx), mp fun x hx => h x (.inr hx)]
  case ext => rw [h]
  case call => rw [mp h]
  case callq => rw [mp h]
  case callp => rw [mp h]
  case cutc s x hi =>
    have e1 : ∀ d k, intOr env (some hi) d k = intOr env' (some hi) d k := fun d k => by simp only [intOr]; rw [h.2]
    simp only [h.1, e1]
  case callv => rw [h.1, mp h.2]
  case app => rw [h.1, h.2]
  case appm => rw [h.1, h.2]
  case app0 => rw [h.1, h.2]
  case len => rw [h]
  case cap => rw [h]
  case mxmn => rw [h.1, h.2]
  case min3 => rw [h.1, h.2.1, h.2.2]
  case mlen => rw [h]
  case clr => rw [h]

theorem binE_det {tb : Bool} {op : BinOp} {x y : Value} {K : Value → Prop} (h : binE tb op x y K) : ∃ r, K r ∧ ∀ K' : Value → Prop, K' r → binE tb op x y K' := by
  unfold binE at h ⊢
  split at h
  · rename_i k a k' b
    cases op
    case shl => simp only [AShl_def] at h ⊢; exact ⟨_, h.2, fun K' hk => ⟨h.1, hk⟩⟩
    case shr => simp only [AShr_def] at h ⊢; exact ⟨_, h.2, fun K' hk => ⟨h.1, hk⟩⟩
    all_goals
      obtain ⟨hk, hh⟩ := bifTrue h
      clear h
      simp only [hk, cond_true]
      first
        | (simp only [AFit_def] at hh ⊢; exact ⟨_, hh, fun K' k => k⟩)
        | (simp only [ADiv_def] at hh ⊢; exact ⟨_, hh.2, fun K' k => ⟨hh.1, k⟩⟩)
        | (simp only [ARem_def] at hh ⊢; exact ⟨_, hh.2, fun K' k => ⟨hh.1, k⟩⟩)
        | (simp only [ABits_def] at hh ⊢; exact ⟨_, hh, fun K' k => k⟩)
        | exact ⟨_, hh, fun K' k => k⟩
  · cases tb <;> cases op <;> first | exact h.elim | exact ⟨_, h, fun K' k => k⟩
  · cases op <;> first | exact h.elim | exact ⟨_, h, fun K' k => k⟩
  · exact h.elim

theorem eqCells_det : ∀ {ks : List Bool} {xs ys : List AVal} {K : Bool → Prop}, eqCells ks xs ys K → ∃ r, K r ∧ ∀ K' : Bool → Prop, K' r → eqCells ks xs ys K' := by
  intro ks
  induction ks with
  | nil => intro xs ys K h; cases xs <;> cases ys <;> simp only [eqCells] at h <;> first | exact h.elim | exact ⟨true, h, fun K' k => by simpa only [eqCells] using k⟩
  | cons x ks ih =>
    intro xs ys K h
    unfold eqCells at h
    split at h
    · exact absurd ‹_ :: _ = []› (by simp)
    · rename_i k a xs' k' b ys' he
      cases he
      obtain ⟨hk, hh⟩ := bifTrue h
      obtain ⟨r, h1, h2⟩ := ih hh
      exact ⟨_, h1, fun K' k => by simp only [eqCells, hk, cond_true]; exact h2 _ k⟩
    · rename_i a xs' b ys' he
      cases he
      obtain ⟨r, h1, h2⟩ := ih h
      exact ⟨_, h1, fun K' k => by simp only [eqCells]; exact h2 _ k⟩
    · exact h.elim

theorem putK_det {zs : List AVal} {off : Nat} {xs : List AVal} {k : List AVal → Prop} (h : putK zs off xs k) : ∃ l, k l ∧ ∀ k' : List AVal → Prop, k' l → putK zs off xs k' := by
  induction zs generalizing off xs k with
  | nil => cases off <;> cases xs <;> simp only [putK] at h <;> first | exact h.elim | exact ⟨_, h, fun k' e => by simpa only [putK] using e⟩
  | cons z zs ih =>
    cases off with
    | zero => cases xs with
      | nil => simp only [putK] at h; exact ⟨_, h, fun k' e => by simpa only [putK] using e⟩
      | cons x xs => simp only [putK] at h; obtain ⟨l, h1, h2⟩ := ih h; exact ⟨_, h1, fun k' e => by simp only [putK]; exact h2 _ e⟩
    | succ n =>
      have h' : putK zs n xs fun l => k (z :: l) := by cases xs <;> simpa only [putK] using h
      obtain ⟨l, h1, h2⟩ := ih h'
      exact ⟨_, h1, fun k' e => by cases xs <;> (simp only [putK]; exact h2 _ e)⟩

theorem fillK_det {env : Env} : ∀ {ps : List (Nat × Nat × Opd)} {zs : List AVal} {k : List AVal → Prop}, fillK env ps zs k → ∃ l, k l ∧ ∀ k' : List AVal → Prop, k' l → fillK env ps zs k'
  | [], zs, k, h => ⟨zs, h, fun _ e => e⟩
  | (off, n, x) :: ps, zs, k, h => by
    simp only [fillK, Opd.getK_eq] at h ⊢
    split at h
    · obtain ⟨hb, hh⟩ := bifTrue h
      obtain ⟨l, h1, h2⟩ := putK_det hh
      obtain ⟨m, h3, h4⟩ := fillK_det h1
      exact ⟨m, h3, fun k' e => by simp only [hb, cond_true]; exact h2 _ (h4 _ e)⟩
    · obtain ⟨hb, hh⟩ := bifTrue h
      obtain ⟨l, h1, h2⟩ := putK_det hh
      obtain ⟨m, h3, h4⟩ := fillK_det h1
      exact ⟨m, h3, fun k' e => by simp only [hb, cond_true]; exact h2 _ (h4 _ e)⟩

theorem lgetK_det : ∀ {l : List AVal} {j : Nat} {k : AVal → Prop}, lgetK l j k → ∃ y, k y ∧ ∀ k' : AVal → Prop, k' y → lgetK l j k'
  | [], _, _, h => h.elim
  | x :: l, 0, k, h => ⟨x, h, fun _ e => e⟩
  | x :: l, j + 1, k, h => by obtain ⟨y, h1, h2⟩ := lgetK_det (l := l) (j := j) h; exact ⟨y, h1, h2⟩

theorem cellsAt_det {cs : List AVal} {off : Nat} {g : Option Nat} {k : AVal → Prop} (h : cellsAt cs off g k) : ∃ y, k y ∧ ∀ k' : AVal → Prop, k' y → cellsAt cs off g k' := by
  cases g with
  | none => obtain ⟨x, h1, h2⟩ := h; exact ⟨x, h2, fun k' e => ⟨x, h1, e⟩⟩
  | some n => exact ⟨_, h.2, fun k' e => ⟨h.1, e⟩⟩

theorem intOr_det {env : Env} {x : Option Opd} {d : Int} {k : Int → Prop} (h : intOr env x d k) : ∃ m, k m ∧ ∀ k' : Int → Prop, k' m → intOr env x d k' := by
  cases x with
  | none => exact ⟨d, h, fun _ e => e⟩
  | some x =>
    simp only [intOr] at h ⊢
    split at h
    · exact ⟨_, h, fun _ e => e⟩
    · exact h.elim

theorem ev_det {P : Program} {op : IOp} {env : Env} {σ : AHeap} {K : AVal → AHeap → Prop} (hc : op.cls ≤ 1) (h : op.ev P env σ K) :
    ∃ x, K x σ ∧ ∀ σ' K', (op.cls = 0 ∨ Ext σ σ') → K' x σ' → op.ev P env σ' K' := by
  cases op <;> simp only [IOp.cls] at hc <;> (try omega) <;> simp only [IOp.ev, Opd.getK_eq, getLK_eq] at h ⊢
  case mv => exact ⟨_, h, fun _ _ _ k => k⟩
  case pick =>
    split at h
    · rename_i t he
      simp only [ABr_def] at h ⊢
      cases t
      · exact ⟨_, h, fun _ _ _ k => k⟩
      · exact ⟨_, h, fun _ _ _ k => k⟩
    · exact h.elim
  case bin =>
    split at h
    · obtain ⟨r, h1, h2⟩ := binE_det h; exact ⟨_, h1, fun _ _ _ k => h2 _ k⟩
    · exact h.elim
  case eqAgg =>
    split at h
    · obtain ⟨r, h1, h2⟩ := eqCells_det h; exact ⟨_, h1, fun _ _ _ k => h2 _ k⟩
    · exact h.elim
  case not => split at h <;> first | exact h.elim | exact ⟨_, h, fun _ _ _ k => k⟩
  case conv => split at h <;> first | exact h.elim | (simp only [AFit_def] at h ⊢; exact ⟨_, h, fun _ _ _ k => k⟩)
  case b2s =>
    split at h
    · obtain ⟨hb, hh⟩ := bifTrue h
      simp only [AStr_def] at hh ⊢
      obtain ⟨bs, h1, h2⟩ := hh
      exact ⟨_, h2, fun _ _ _ k => by rw [hb]; exact ⟨bs, h1, k⟩⟩
    · exact h.elim
  case s2b => split at h <;> first | exact h.elim | exact ⟨_, h, fun _ _ _ k => k⟩
  case build => obtain ⟨l, h1, h2⟩ := fillK_det h; exact ⟨_, h1, fun _ _ _ k => h2 _ k⟩
  case row =>
    obtain ⟨hb, hh⟩ := bifTrue h
    exact ⟨_, hh, fun _ _ _ k => by rw [hb]; exact k⟩
  case load =>
    split at h
    · simp only [ALoad_def] at h ⊢
      obtain ⟨cs, h1, h2⟩ := h
      obtain ⟨y, h3, h4⟩ := cellsAt_det h2
      refine ⟨y, h3, fun σ' K' hx k => ⟨cs, ?_, h4 _ k⟩⟩
      rcases hx with hx | hx
      · simp [IOp.cls] at hx
      · exact hx _ _ rfl h1
    · simp only [ACell_def] at h ⊢
      obtain ⟨y, h3, h4⟩ := cellsAt_det h
      exact ⟨y, h3, fun _ _ _ k => h4 _ k⟩
    · exact h.elim
  case nilchk => split at h <;> first | exact h.elim | exact ⟨_, h, fun _ _ _ k => k⟩
  case faddr => split at h <;> first | exact h.elim | exact ⟨_, h, fun _ _ _ k => k⟩
  case field =>
    split at h
    · simp only [ACell_def] at h ⊢
      obtain ⟨y, h3, h4⟩ := cellsAt_det h
      exact ⟨y, h3, fun _ _ _ k => h4 _ k⟩
    · exact h.elim
  case iaddr =>
    split at h
    · obtain ⟨hb, hh⟩ := bifTrue h
      simp only [AGet_def] at hh ⊢
      obtain ⟨y, h1, h2, h3⟩ := hh
      exact ⟨_, h3, fun _ _ _ k => by rw [hb]; exact ⟨y, h1, h2, k⟩⟩
    · obtain ⟨hb, hh⟩ := bifTrue h
      simp only [AIdx_def] at hh ⊢
      obtain ⟨h1, h2, h3⟩ := hh
      exact ⟨_, h3, fun _ _ _ k => by rw [hb]; exact ⟨h1, h2, k⟩⟩
    · exact h.elim
  case iaddrA =>
    split at h
    · simp only [AIdx_def] at h ⊢
      obtain ⟨h1, h2, h3⟩ := h
      exact ⟨_, h3, fun _ _ _ k => ⟨h1, h2, k⟩⟩
    · simp only [AIdx_def] at h ⊢
      obtain ⟨h1, h2, h3⟩ := h
      exact ⟨_, h3, fun _ _ _ k => ⟨h1, h2, k⟩⟩
    · exact h.elim
  case index =>
    split at h
    · simp only [AIdx_def, ACell_def] at h ⊢
      obtain ⟨h1, h2, h3⟩ := h
      obtain ⟨y, h4, h5⟩ := cellsAt_det h3
      exact ⟨y, h4, fun _ _ _ k => ⟨h1, h2, h5 _ k⟩⟩
    · exact h.elim
  case cut s x lo hi mx =>
    split at h
    · obtain ⟨hb, hh⟩ := bifTrue h
      obtain ⟨l, h1, e1⟩ := intOr_det hh
      obtain ⟨m, h2, e2⟩ := intOr_det h1
      simp only [ACut_def] at h2 e1 e2 ⊢
      obtain ⟨q0, q1, q2, h3⟩ := h2
      cases mx with
      | none => exact ⟨_, h3, fun _ _ _ k => by rw [hb, cond_true]; apply e1; apply e2; exact ⟨q0, q1, q2, k⟩⟩
      | some mo =>
        obtain ⟨z, h4, e3⟩ := intOr_det h3
        exact ⟨_, h4.2.2, fun _ _ _ k => by rw [hb, cond_true]; apply e1; apply e2; refine ⟨q0, q1, q2, ?_⟩; apply e3; exact ⟨h4.1, h4.2.1, k⟩⟩
    · obtain ⟨hb, hh⟩ := bifTrue h
      obtain ⟨l, h1, e1⟩ := intOr_det hh
      obtain ⟨m, h2, e2⟩ := intOr_det h1
      simp only [ACut_def] at h2 e1 e2 ⊢
      obtain ⟨q0, q1, q2, h3⟩ := h2
      cases mx with
      | none =>
        rcases h3.out with ⟨k1, k2⟩ | ⟨k1, k2⟩ | ⟨k1, k2⟩
        · exact ⟨_, k2, fun _ _ _ k => by rw [hb, cond_true]; apply e1; apply e2; exact ⟨q0, q1, q2, ⟨.inl ⟨k1, k⟩⟩⟩⟩
        · exact ⟨_, k2, fun _ _ _ k => by rw [hb, cond_true]; apply e1; apply e2; exact ⟨q0, q1, q2, ⟨.inr (.inl ⟨k1, k⟩)⟩⟩⟩
        · exact ⟨_, k2, fun _ _ _ k => by rw [hb, cond_true]; apply e1; apply e2; exact ⟨q0, q1, q2, ⟨.inr (.inr ⟨k1, k⟩)⟩⟩⟩
      | some mo =>
        obtain ⟨mm, h4, e3⟩ := intOr_det h3
        obtain ⟨h5, h6, h7⟩ := h4
        rcases h7.out with ⟨k1, k2⟩ | ⟨k1, k2⟩ | ⟨k1, k2⟩
        · exact ⟨_, k2, fun _ _ _ k => by rw [hb, cond_true]; apply e1; apply e2; exact ⟨q0, q1, q2, e3 _ ⟨h5, h6, ⟨.inl ⟨k1, k⟩⟩⟩⟩⟩
        · exact ⟨_, k2, fun _ _ _ k => by rw [hb, cond_true]; apply e1; apply e2; exact ⟨q0, q1, q2, e3 _ ⟨h5, h6, ⟨.inr (.inl ⟨k1, k⟩)⟩⟩⟩⟩
        · exact ⟨_, k2, fun _ _ _ k => by rw [hb, cond_true]; apply e1; apply e2; exact ⟨q0, q1, q2, e3 _ ⟨h5, h6, ⟨.inr (.inr ⟨k1, k⟩)⟩⟩⟩⟩
    · exact h.elim
  case callp g args =>
    obtain ⟨r, h1, h2⟩ := h.out
    refine ⟨r, h2, fun σ' K' hx k => ⟨r, fun σ2 h3 => h1 σ2 ?_, k⟩⟩
    rcases hx with hx | hx
    · simp [IOp.cls] at hx
    · exact fun i o ho e => h3 i o ho (hx i o ho e)
  case cutc s x hi =>
    split at h
    · obtain ⟨hb, hh⟩ := bifTrue h
      obtain ⟨m, h2, e2⟩ := intOr_det hh
      simp only [ACut_def] at h2 e2 ⊢
      obtain ⟨q0, q1, q2, h3⟩ := h2
      rcases h3.out with k1 | ⟨k1, k2, k3⟩
      · exact ⟨_, k1, fun _ _ _ k => by rw [hb, cond_true]; apply e2; exact ⟨q0, q1, q2, ⟨.inl k⟩⟩⟩
      · exact ⟨_, k3, fun _ _ _ k => by rw [hb, cond_true]; apply e2; exact ⟨q0, q1, q2, ⟨.inr ⟨k1, k2, k⟩⟩⟩⟩
    · obtain ⟨hb, hh⟩ := bifTrue h
      obtain ⟨m, h2, e2⟩ := intOr_det hh
      simp only [ACut_def] at h2 e2 ⊢
      obtain ⟨q0, q1, q2, h3⟩ := h2
      rcases h3.out with ⟨k1, k2⟩ | ⟨k1, k2⟩ | ⟨k1, k2⟩
      · exact ⟨_, k2, fun _ _ _ k => by rw [hb, cond_true]; apply e2; exact ⟨q0, q1, q2, ⟨.inl ⟨k1, k⟩⟩⟩⟩
      · exact ⟨_, k2, fun _ _ _ k => by rw [hb, cond_true]; apply e2; exact ⟨q0, q1, q2, ⟨.inr (.inl ⟨k1, k⟩)⟩⟩⟩
      · exact ⟨_, k2, fun _ _ _ k => by rw [hb, cond_true]; apply e2; exact ⟨q0, q1, q2, ⟨.inr (.inr ⟨k1, k⟩)⟩⟩⟩
    · exact h.elim
  case mk =>
    split at h
    · simp only [AMk_def] at h ⊢
      obtain ⟨h0, h1, h2, h3, h4⟩ := h
      exact ⟨_, h4, fun _ _ _ k => ⟨h0, h1, h2, h3, k⟩⟩
    · exact h.elim
  case look =>
    split at h
    · simp only [ALook_def] at h ⊢
      obtain ⟨es, h1, h2⟩ := h
      refine ⟨_, h2, fun σ' K' hx k => ⟨es, ?_, k⟩⟩
      rcases hx with hx | hx
      · simp [IOp.cls] at hx
      · exact hx _ _ rfl h1
    · exact ⟨_, h, fun _ _ _ k => k⟩
    · exact h.elim
  case fn => exact ⟨_, h, fun _ _ _ k => k⟩
  case ext =>
    split at h
    · obtain ⟨y, h1, h2⟩ := lgetK_det h; exact ⟨y, h1, fun _ _ _ k => h2 _ k⟩
    · exact h.elim
  case len => split at h <;> first | exact h.elim | exact ⟨_, h, fun _ _ _ k => k⟩
  case cap => split at h <;> first | exact h.elim | exact ⟨_, h, fun _ _ _ k => k⟩
  case mxmn =>
    split at h
    · obtain ⟨hb, hh⟩ := bifTrue h
      simp only [AMx_def] at hh ⊢
      exact ⟨_, hh, fun _ _ _ k => by rw [hb]; exact k⟩
    · exact h.elim
  case mlen =>
    split at h
    · simp only [AMLen_def] at h ⊢
      obtain ⟨es, h1, h2⟩ := h
      refine ⟨_, h2, fun σ' K' hx k => ⟨es, ?_, k⟩⟩
      rcases hx with hx | hx
      · simp [IOp.cls] at hx
      · exact hx _ _ rfl h1
    · exact ⟨_, h, fun _ _ _ k => k⟩
    · exact h.elim
  case min3 =>
    split at h
    · obtain ⟨hb, hh⟩ := bifTrue h
      simp only [AMx_def] at hh ⊢
      exact ⟨_, hh, fun _ _ _ k => by rw [hb]; exact k⟩
    · exact h.elim
end Go.Am
/-
  Regions that draw their order.
-/
namespace Go.Am
set_option linter.unusedSectionVars false
open Go.RowKit (Below)

theorem Ext.refl (σ : AHeap) : Ext σ σ := fun _ _ _ h => h
theorem Ext.trans {a b c : AHeap} (h : Ext a b) (k : Ext b c) : Ext a c := fun i o ho e => k i o ho (h i o ho e)
theorem Ext.upd_fresh {σ : AHeap} {id : Nat} (o : AObj) (h : σ id = none) : Ext σ (upd σ id o) := fun i o' _ e => by
  rw [upd_ne]; exact e
  intro k; subst k; rw [h] at e; cases e

/-- More may be asked of what comes, if it holds whatever comes; and of operations that turn no object, that none is turned. -/
theorem ev_mono {P : Program} {op : IOp} {env : Env} {σ : AHeap} {K K' : AVal → AHeap → Prop} (h : op.ev P env σ K) (hk : ∀ x σ', K x σ' → K' x σ') : op.ev P env σ K' := by
  by_cases hc : op.cls ≤ 1
  · obtain ⟨x, h1, h2⟩ := ev_det hc h
    exact h2 σ K' (.inr (Ext.refl σ)) (hk _ _ h1)
  · have calls : ∀ {g : FuncId} {l : List AVal} {Q Q' : AVal → AHeap → Prop}, ACalls P g l σ Q → (∀ x σ', Q x σ' → Q' x σ') → ACalls P g l σ Q' := by
      intro g l Q Q' h hq
      rw [ACalls_def] at h ⊢
      intro κ w cargs h1 h2
      refine (h κ w cargs h1 h2).mono ?_
      rintro e w' ⟨v, κ', σ', x, h3, h4, h5, h6, h7⟩
      exact ⟨v, κ', σ', x, h3, h4, h5, h6, hq _ _ h7⟩
    have elems : ∀ {s : Nat} {y : AVal} {k k' : List AVal → Prop}, elemsK σ s y k → (∀ l, k l → k' l) → elemsK σ s y k' := by
      intro s y k k' h hkk
      unfold elemsK at h ⊢
      split at h
      · obtain ⟨hb, hh⟩ := bifTrue h; rw [hb]; exact hkk _ hh
      · obtain ⟨hb, hh⟩ := bifTrue h; rw [hb]; exact hkk _ hh
      · obtain ⟨hb, hh⟩ := bifTrue h; rw [hb]; simp only [cond_true] at hh ⊢
        cases e : Nat.beq s 1
        · rw [e] at hh; simp only [cond_false, AView_def] at hh ⊢; obtain ⟨cs, h1, h2, h3⟩ := hh; exact ⟨cs, h1, h2, hkk _ h3⟩
        · rw [e] at hh; simp only [cond_true, AView_def] at hh ⊢; obtain ⟨cs, h1, h2, h3⟩ := hh; exact ⟨cs, h1, h2, hkk _ h3⟩
      · exact h.elim
    have app : ∀ {s bytes : Nat} {xs : List AVal} {t : Tok} {ys : List AVal}, AApp σ s bytes xs t ys K → AApp σ s bytes xs t ys K' := by
      intro s bytes xs t ys h; rw [AApp_def] at h ⊢; obtain ⟨σ', h1, h2, h3⟩ := h; exact ⟨σ', h1, h2, fun t' ht => hk _ _ (h3 t' ht)⟩
    have appN : ∀ {s bytes : Nat} {xs : List AVal} {t : Tok} {ys : List AVal}, AAppNew σ s bytes xs t ys K → AAppNew σ s bytes xs t ys K' := by
      intro s bytes xs t ys h; rw [AAppNew_def] at h ⊢; exact h.imp (fun ⟨h1, h2, h3⟩ => ⟨h1, h2, hk _ _ h3⟩) (fun h => h.imp (fun ⟨h1, h2, h3, h4, h5, h6⟩ => ⟨h1, h2, h3, h4, h5, fun t' ht => hk _ _ (h6 t' ht)⟩) app)
    have appM : ∀ {r s off len bytes : Nat} {ys : List AVal}, AAppM σ r s off len bytes ys K → AAppM σ r s off len bytes ys K' := by
      intro r s off len bytes ys h; rw [AAppM_def] at h ⊢; obtain ⟨h1, h2, h3, cs, h4, h5, h6⟩ := h; exact ⟨h1, h2, h3, cs, h4, h5, fun t' ht => hk _ _ (h6 t' ht)⟩
    cases op <;> simp only [IOp.cls] at hc <;> (try omega) <;> simp only [IOp.ev, Opd.getK_eq, getLK_eq] at h ⊢
    case eqNil =>
      split at h
      · simp only [ANil_def] at h ⊢; exact ⟨hk _ _ h.1, fun e => hk _ _ (h.2 e)⟩
      all_goals first | exact hk _ _ h | exact h.elim
    case new => simp only [ANew_def] at h ⊢; exact ⟨h.1, fun id hid => hk _ _ (h.2 id hid)⟩
    case box => obtain ⟨hb, hh⟩ := bifTrue h; rw [hb]; simp only [cond_true, ANew_def] at hh ⊢; exact ⟨hh.1, fun id hid => hk _ _ (hh.2 id hid)⟩
    case store =>
      split at h
      · obtain ⟨hb, hh⟩ := bifTrue h; rw [hb]; simp only [cond_true, AStore_def] at hh ⊢; obtain ⟨cs, h1, h2, h3, h4⟩ := hh; exact ⟨cs, h1, h2, h3, hk _ _ h4⟩
      · exact h.elim
    case rowT => obtain ⟨hb, hh⟩ := bifTrue h; rw [hb]; simp only [cond_true, ARowT_def] at hh ⊢; exact fun t ht => hk _ _ (hh t ht)
    case mark =>
      split at h
      · simp only [AMark_def] at h ⊢; obtain ⟨h0, t0, h1, h2, h3⟩ := h; exact ⟨h0, t0, h1, h2, hk _ _ h3⟩
      · exact h.elim
    case mkmap => simp only [ANewMap_def] at h ⊢; exact fun id hid => hk _ _ (h id hid)
    case mset =>
      split at h
      · simp only [AMset_def] at h ⊢; obtain ⟨es, h1, h2, h3⟩ := h; exact ⟨es, h1, h2, hk _ _ h3⟩
      · exact h.elim
    case mkm =>
      split at h
      · simp only [AMk_def, ANew_def] at h ⊢; exact ⟨h.1, h.2.1, h.2.2.1, h.2.2.2.1, h.2.2.2.2.1, fun id hid => hk _ _ (h.2.2.2.2.2 id hid)⟩
      · exact h.elim
    case clr =>
      split at h
      · obtain ⟨hb, hh⟩ := bifTrue h; rw [hb]; simp only [cond_true, AStore_def] at hh ⊢; obtain ⟨cs, h1, h2, h3, h4⟩ := hh; exact ⟨cs, h1, h2, h3, hk _ _ h4⟩
      · exact hk _ _ h
      · exact h.elim
    case mdel =>
      split at h
      · simp only [AMdel_def] at h ⊢; obtain ⟨es, h1, h3⟩ := h; exact ⟨es, h1, hk _ _ h3⟩
      · exact h.elim
    case call => exact calls h hk
    case callq => exact calls h fun x σ' q => ⟨hk _ _ q.1, q.2⟩
    case callv =>
      split at h
      · exact ⟨h.1, calls h.2 hk⟩
      · exact h.elim
    case app =>
      split at h
      · obtain ⟨hb, hh⟩ := bifTrue h; rw [hb]; exact elems hh fun l q => app q
      · exact h.elim
    case appm =>
      split at h
      · obtain ⟨hb, hh⟩ := bifTrue h; rw [hb]; exact elems hh fun l q => appN q
      · obtain ⟨hb, hh⟩ := bifTrue h; rw [hb]; exact elems hh fun l q => appM q
      · exact h.elim
    case app0 =>
      split at h
      · obtain ⟨hb, hh⟩ := bifTrue h; rw [hb]; exact ⟨hh.1, hh.2.1, hh.2.2.1, hh.2.2.2.imp app appN⟩
      · obtain ⟨hb, hh⟩ := bifTrue h; rw [hb]; exact ⟨hh.1, hh.2.1, hh.2.2.1, appM hh.2.2.2⟩
      · exact h.elim

theorem AppWay.ext {σ σ' : AHeap} {t : Tok} (h : AppWay σ t σ') : ∀ id o, o.isTip = false → σ id = some o → σ' id = some o := by
  cases h with
  | full => exact fun _ _ _ e => e
  | tip k =>
    intro id o ho e
    rw [del_ne]; exact e
    intro q; subst q; rw [k] at e; cases e; cases ho

theorem ev_quiet {P : Program} {op : IOp} {env : Env} {σ : AHeap} {K : AVal → AHeap → Prop} (hc : op.cls ≤ 2) (h : op.ev P env σ K) : op.ev P env σ fun x σ' => K x σ' ∧ Ext σ σ' := by
  by_cases hc1 : op.cls ≤ 1
  · obtain ⟨x, h1, h2⟩ := ev_det hc1 h
    exact h2 σ _ (.inr (Ext.refl σ)) ⟨h1, Ext.refl σ⟩
  · cases op <;> simp only [IOp.cls] at hc hc1 <;> (try omega) <;> simp only [IOp.ev, Opd.getK_eq, getLK_eq] at h ⊢
    case eqNil =>
      split at h
      · simp only [ANil_def] at h ⊢; exact ⟨⟨h.1, Ext.refl σ⟩, fun e => ⟨h.2 e, Ext.refl σ⟩⟩
      all_goals first | exact ⟨h, Ext.refl σ⟩ | exact h.elim
    case new => simp only [ANew_def] at h ⊢; exact ⟨h.1, fun id hid => ⟨h.2 id hid, Ext.upd_fresh _ hid⟩⟩
    case box => obtain ⟨hb, hh⟩ := bifTrue h; rw [hb]; simp only [cond_true, ANew_def] at hh ⊢; exact ⟨hh.1, fun id hid => ⟨hh.2 id hid, Ext.upd_fresh _ hid⟩⟩
    case rowT => obtain ⟨hb, hh⟩ := bifTrue h; rw [hb]; simp only [cond_true, ARowT_def] at hh ⊢; exact fun t ht => ⟨hh t ht, Ext.upd_fresh _ ht⟩
    case mark =>
      split at h
      · simp only [AMark_def] at h ⊢; obtain ⟨h0, t0, h1, h2, h3⟩ := h
        refine ⟨h0, t0, h1, h2, h3, fun id o ho e => ?_⟩
        rw [del_ne]; exact e
        intro q; subst q; rw [h2] at e; cases e; cases ho
      · exact h.elim
    case mkm =>
      split at h
      · simp only [AMk_def, ANew_def] at h ⊢; exact ⟨h.1, h.2.1, h.2.2.1, h.2.2.2.1, h.2.2.2.2.1, fun id hid => ⟨h.2.2.2.2.2 id hid, Ext.upd_fresh _ hid⟩⟩
      · exact h.elim
    case mkmap => simp only [ANewMap_def] at h ⊢; exact fun id hid => ⟨h id hid, Ext.upd_fresh _ hid⟩
    case callq =>
      rw [ACalls_def] at h ⊢
      intro κ w cargs h1 h2
      refine (h κ w cargs h1 h2).mono ?_
      rintro e w' ⟨v, κ', σ', x, h3, h4, h5, h6, h7⟩
      exact ⟨v, κ', σ', x, h3, h4, h5, h6, h7, h7.2⟩
    case app =>
      have app : ∀ {s bytes : Nat} {xs : List AVal} {t : Tok} {ys : List AVal}, AApp σ s bytes xs t ys K → AApp σ s bytes xs t ys fun x σ' => K x σ' ∧ Ext σ σ' := by
        intro s bytes xs t ys h; rw [AApp_def] at h ⊢; obtain ⟨σ', h1, h2, h3⟩ := h
        refine ⟨σ', h1, h2, fun t' ht => ⟨h3 t' ht, fun id o ho e => ?_⟩⟩
        rw [upd_ne]; exact h1.ext id o ho e
        intro q; subst q; rw [ht] at e; cases e
      split at h
      · obtain ⟨hb, hh⟩ := bifTrue h; rw [hb]
        simp only [cond_true]
        unfold elemsK at hh ⊢
        split at hh
        · obtain ⟨hb, hh⟩ := bifTrue hh; rw [hb]; exact app hh
        · obtain ⟨hb, hh⟩ := bifTrue hh; rw [hb]; exact app hh
        · obtain ⟨hb, hh⟩ := bifTrue hh; rw [hb]; simp only [cond_true] at hh ⊢
          generalize Nat.beq _ 1 = bb at hh ⊢
          cases bb
          · simp only [cond_false, AView_def] at hh ⊢; obtain ⟨cs, h1, h2, h3⟩ := hh; exact ⟨cs, h1, h2, app h3⟩
          · simp only [cond_true, AView_def] at hh ⊢; obtain ⟨cs, h1, h2, h3⟩ := hh; exact ⟨cs, h1, h2, app h3⟩
        · exact hh.elim
      · exact h.elim
end Go.Am
