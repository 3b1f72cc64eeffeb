/-
  Every operation: what 'ev' says is what the run gives.
-/
import Derived.Test.YtiohpnkfcaahbaaFj
import Derived.Laws.StructEq
namespace Go.Am
set_option linter.unusedVariables false
set_option linter.unusedSimpArgs false
set_option linter.unusedSectionVars false
open Go.RowKit (Below)

section
variable {P : Program} {κ : Ghost} {σ : AHeap} {w : World} {n : Nat} {env : Env} {a : Act} {K : AVal → AHeap → Prop}

theorem execV (S : Sem Value) {v : Value} {w' : World} (h : S.run P w = .ok v w') : (do pure (.value (← S)) : Sem Next).run P w = .ok (.value v) w' := by simp [h]
theorem execU (S : Sem Unit) {w' : World} (h : S.run P w = .ok () w') : (do S; pure .skip : Sem Next).run P w = .ok .skip w' := by simp [h]

theorem optmap {α β : Type} {o : Option α} {f : α → β} {y : β} (h : o.map f = some y) : ∃ x, o = some x ∧ f x = y := by simpa using h
theorem optbind {α β : Type} {o : Option α} {f : α → Option β} {y : β} (h : o.bind f = some y) : ∃ x, o = some x ∧ f x = some y := by simpa [Option.bind_eq_some_iff] using h
theorem bifsome {β : Type} {c : Bool} {x : Option β} {y : β} (h : (bif c then x else none) = some y) : c = true ∧ x = some y := by cases c <;> simp_all
theorem bifTrue {c : Bool} {p : Prop} (h : bif c then p else False) : c = true ∧ p := by cases c <;> simp_all

theorem ones_cells {κ : Ghost} : ∀ {xs : List AVal} {vs : List Value}, RepL κ xs vs → Ones vs → xs.flatMap AVal.cells = xs ∧ ∀ x ∈ xs, x.cells.length = 1
  | [], _, .nil, _ => ⟨rfl, by simp⟩
  | x :: xs, v :: vs, .cons hv ht, ho => by
    obtain ⟨h1, h2⟩ := ones_cells ht fun u hu => ho u (List.mem_cons_of_mem _ hu)
    have hv1 := ho v (List.mem_cons_self ..)
    have hx : x.cells = [x] := by
      cases hv <;> first | rfl | (simp [Value.oneCell] at hv1)
    refine ⟨by simp only [List.flatMap_cons, hx, h1]; rfl, fun y hy => ?_⟩
    cases hy with
    | head => rw [hx]; rfl
    | tail _ hm => exact h2 y hm

/-- The elements of an append's second operand. -/
theorem elems_spec {s : Nat} {y : AVal} {v : Value} {k : List AVal → Prop} (hI : Inv κ σ w) (hr : RepV κ y v) (h : elemsK σ s y k) (hs0 : s ≠ 0) :
    ∃ ys news, k ys ∧ (∀ y ∈ ys, y.cells.length = s) ∧ RepL κ (ys.flatMap AVal.cells) news ∧ Ones news ∧ (Builtin.lenOf v).run P w = .ok ys.length w ∧
      ∀ w', w'.heap = w.heap → (Builtin.firstCells s ys.length v).run P w' = .ok news.toArray w' := by
  unfold elemsK at h
  split at h
  · rename_i s2 ys t
    obtain ⟨hs, hk⟩ := bifTrue h
    have hs := Nat.eq_of_beq_eq_true hs
    subst hs
    cases hr with
    | nil => exact ⟨[], [], hk, by simp, .nil, (by intro v hv; cases hv), by simp [Builtin.lenOf], fun w' _ => firstCells_zero ..⟩
    | slice h1 h2 h3 h4 h5 h6 =>
      rename_i b off len cap vs
      subst h1
      refine ⟨ys, vs, hk, h3, h4, stable_ones hI h5, by simp [Builtin.lenOf], fun w' hw => ?_⟩
      refine run_firstCells_some w' s ys.length ⟨b, off, none⟩ ys.length cap vs (by rw [← h4.length, flat_len h3]) fun j v e => ?_
      rw [addr_add]
      have := (hI.cell _ _ _ (h5 j v e)).1
      simpa [World.cell?, hw] using this
  · rename_i b
    obtain ⟨hs, hk⟩ := bifTrue h
    have hs := Nat.eq_of_beq_eq_true hs
    subst hs
    obtain ⟨rfl, _⟩ := hr.v_inv
    have hrl : ∀ l : List UInt8, RepL κ ((l.map byteV).flatMap AVal.cells) (l.map fun b => Value.int .u8 b.toNat) := by
      intro l
      induction l with
      | nil => exact .nil
      | cons x l ih => exact .cons (.v rfl) ih
    refine ⟨_, b.data.toList.map fun b => Value.int .u8 b.toNat, hk, fun y hy => ?_, hrl _, fun v hv => ?_, by simp [Builtin.lenOf], fun w' _ => ?_⟩
    · obtain ⟨x, _, rfl⟩ := List.mem_map.1 hy; rfl
    · obtain ⟨x, _, rfl⟩ := List.mem_map.1 hv; rfl
    · simp only [Builtin.firstCells, Sem.run_pure, List.length_map]
      congr 1
      apply Array.ext'
      simp
  · rename_i r s2 off ln
    obtain ⟨hs, hk⟩ := bifTrue h
    simp only [Bool.and_eq_true] at hs
    have e1 := Nat.eq_of_beq_eq_true hs.1
    have e2 := Nat.eq_of_beq_eq_true hs.2
    subst e1; subst e2
    rw [AView_def] at hk
    obtain ⟨cs, h1, h2, h3⟩ := hk
    cases hr with
    | ms g1 g2 g3 g4 =>
    rename_i cap b m
    obtain ⟨c, e, vs, us, k1, k2, k3, k4, k5, k6, k7⟩ := hI.objCells h1 g1
    have hl := k4.length
    have hr2 := (k4.drop off).take ln
    have ho2 := (k5.drop off).take ln
    obtain ⟨e1, e2⟩ := ones_cells hr2 ho2
    refine ⟨_, ((vs.drop off).take ln), h3, e2, by rw [e1]; exact hr2, ho2, by simp [Builtin.lenOf]; omega, fun w' hw => ?_⟩
    refine run_firstCells_some w' 1 _ ⟨b, off, none⟩ ln cap _ (by simp; omega) fun j v e => ?_
    rw [addr_add]
    rw [List.getElem?_take] at e
    split at e
    · rw [List.getElem?_drop] at e
      have := k7 (off + j) v e
      rw [Nat.zero_add] at this
      simpa [World.cell?, hw] using this
    · cases e
  · exact h.elim

theorem run_append (C : Call) (hb : C.callee = .builtin .append) (ρ : Operand → Value) (ty : TypeId) (dst : Option Tmp) (pos : String) (after : Array Edge) (guard : Option (Nat × Bool)) {v : Value} {w' : World}
    (h : (Builtin.append_ C.argTypes ty (C.args.map ρ)).run P w = .ok v w') : (execOp ρ ⟨dst, .call C, ty, pos, after, guard⟩).run P w = .ok (.value v) w' := by
  simp [execOp, resolve, hb, invoke, Go.builtin, h]

theorem run_call_fn {C : Call} {g : FuncId} (hb : C.callee = .value (.func g)) (ρ : Operand → Value) (hρ : ρ (.func g) = .func (.func g) #[] #[]) (ty : TypeId) (dst : Option Tmp) (pos : String) (after : Array Edge) (guard : Option (Nat × Bool)) (hc : callB P g = true) :
    (execOp ρ ⟨dst, .call C, ty, pos, after, guard⟩).run P w = .ok (.enter g (C.args.map ρ)) w := by
  unfold callB at hc
  split at hc
  · rename_i fn hf
    simp only [Bool.and_eq_true, Bool.not_eq_true'] at hc
    have h1 : fn.body.isNone = false := by cases hb : fn.body <;> simp_all
    have h2 : (fn.name == "runtime.NumGoroutine") = false := hc.2
    simp only [execOp, resolve, hb, hρ, Deferred.ofValue, invoke, callFunc, Sem.run_bind, Sem.run_pure, Result.andThen_ok, run_program, hf, h1, h2, Bool.false_eq_true, if_false]
    simp [hf, h1, h2]
  · cases hc

theorem opT_agg {P : Program} {t : TypeId} {v : Value} {x : Opd} (h : opT P t (.const v) = some x) : ∃ y, x = .c y := by
  simp only [opT] at h; obtain ⟨y, _, rfl⟩ := optmap h; exact ⟨y, rfl⟩

theorem lgetK_spec {κ : Ghost} {k : AVal → Prop} : ∀ {l : List AVal} {m : List Value} {j : Nat}, RepL κ l m → lgetK l j k → ∃ y v, m[j]? = some v ∧ RepV κ y v ∧ k y
  | [], _, _, _, h => h.elim
  | x :: l, v :: m, 0, .cons hx _, h => ⟨x, v, by simp, hx, h⟩
  | x :: l, v :: m, j + 1, .cons _ ht, h => by obtain ⟨y, u, h1, h2, h3⟩ := lgetK_spec (j := j) ht h; exact ⟨y, u, by simpa using h1, h2, h3⟩

/-- Against nil: what the run of '==' and '!=' gives, if the values' kinds are the type's. -/
theorem nil_run {P : Program} {w : World} {op : BinOp} {t : TypeId} {p q : Operand} {neg : Bool} (hop : (op = .eql ∧ neg = false) ∨ (op = .neq ∧ neg = true)) {x y : Value} {r : Bool}
    (hk : (∃ e a l c c2 l2, P.underlying t = some (.slice e) ∧ x = .slice a l c ∧ y = .slice none l2 c2 ∧ r = a.isNone) ∨ (∃ e a, P.underlying t = some (.pointer e) ∧ x = .pointer a ∧ y = .pointer none ∧ r = a.isNone) ∨
      (∃ k e a, P.underlying t = some (.map k e) ∧ x = .map a ∧ y = .map none ∧ r = a.isNone)) :
    (do eqGuard op t p q x y; binOp op t x y : Sem Value).run P w = .ok (.bool (r != neg)) w := by
  have he : ∀ d, (Op.equalIn (d + 1) t x y).run P w = .ok r w := by
    intro d
    rcases hk with ⟨e, a, l, c, c2, l2, ht, rfl, rfl, rfl⟩ | ⟨e, a, ht, rfl, rfl, rfl⟩ | ⟨k, e, a, ht, rfl, rfl, rfl⟩ <;> cases a <;> simp [Op.equalIn, run_underlying ht]
  have hq : (Op.equal t x y).run P w = .ok r w := he 9999
  have hg : ∀ S : Sem Value, (do eqGuard op t p q x y; S : Sem Value).run P w = S.run P w := by
    intro S
    rcases hk with ⟨e, a, l, c, c2, l2, ht, rfl, rfl, rfl⟩ | ⟨e, a, ht, rfl, rfl, rfl⟩ | ⟨k, e, a, ht, rfl, rfl, rfl⟩ <;> rcases hop with ⟨rfl, rfl⟩ | ⟨rfl, rfl⟩ <;> simp [eqGuard]
  rw [hg]
  have hb : (binOp op t x y).run P w = (do pure (.bool ((← Op.equal t x y) != neg)) : Sem Value).run P w := by
    rcases hk with ⟨e, a, l, c, c2, l2, ht, rfl, rfl, rfl⟩ | ⟨e, a, ht, rfl, rfl, rfl⟩ | ⟨k, e, a, ht, rfl, rfl, rfl⟩ <;> rcases hop with ⟨rfl, rfl⟩ | ⟨rfl, rfl⟩ <;> simp [binOp]
  rw [hb]
  simp [hq]

theorem ev_nil {dst : Option Tmp} {ty : TypeId} {pos : String} {after : Array Edge} {guard : Option (Nat × Bool)} {b : BinOp} {t : TypeId} {x y : Operand} {u : TypeId} {neg : Bool} {x' : Opd} {kd : Nat}
    (hop : (b = .eql ∧ neg = false) ∨ (b = .neq ∧ neg = true))
    (ht : (kd = 0 ∧ (∃ e, P.underlying t = some (.slice e)) ∧ ∃ l c, y = .const (.slice none l c)) ∨ (kd = 1 ∧ (∃ e, P.underlying t = some (.pointer e)) ∧ y = .const (.pointer none)) ∨
      (kd = 2 ∧ (∃ k e, P.underlying t = some (.map k e)) ∧ y = .const (.map none)))
    (hI : Inv κ σ w) (hx : RepV κ (x'.get env) (a.eval x)) (h : IOp.ev P env σ (.eqNil kd neg x') K) : Good P a.eval ⟨dst, .binOp b t x y u, ty, pos, after, guard⟩ κ w K := by
  have fin : ∀ (vx : Value) (r : Bool), a.eval x = vx → ((do eqGuard b t x y vx (a.eval y); binOp b t vx (a.eval y) : Sem Value).run P w = .ok (.bool (r != neg)) w) → K (.v (.bool (r != neg))) σ →
      Good P a.eval ⟨dst, .binOp b t x y u, ty, pos, after, guard⟩ κ w K := by
    intro vx r h1 h2 h3
    refine .pure (v := .bool (r != neg)) ?_ hI (.v rfl) h3
    simp only [execOp, h1]
    exact execV _ h2
  have nf : (false != neg) = neg := by cases neg <;> rfl
  have nt : (true != neg) = !neg := by cases neg <;> rfl
  rcases ht with ⟨rfl, ⟨e, ht⟩, l, c, rfl⟩ | ⟨rfl, ⟨e, ht⟩, rfl⟩ | ⟨rfl, ⟨k, e, ht⟩, rfl⟩ <;> simp only [IOp.ev, Opd.getK_eq] at h <;> split at h <;> rename_i he <;> (try contradiction) <;> (try exact h.elim) <;> rw [he] at hx
  · rw [ANil_def] at h
    rcases hx.slice_inv with ⟨hv, hn⟩ | ⟨b', off, cap, vs, hv, _⟩
    · obtain ⟨a0, hv⟩ := hv
      cases a0 with
      | none => exact fin _ true hv (nil_run hop (.inl ⟨e, none, 0, 0, _, _, ht, rfl, rfl, rfl⟩)) (h.2 hn)
      | some a0 => exact fin _ false hv (nil_run hop (.inl ⟨e, some a0, 0, 0, _, _, ht, rfl, rfl, rfl⟩)) h.1
    · exact fin _ false hv (nil_run hop (.inl ⟨e, _, _, _, _, _, ht, rfl, rfl, rfl⟩)) h.1
  · obtain ⟨b', cap, m, hv, _⟩ := hx.ms_inv
    exact fin _ false hv (nil_run hop (.inl ⟨e, _, _, _, _, _, ht, rfl, rfl, rfl⟩)) (by rw [nf]; exact h)
  · obtain ⟨b', hv, _⟩ := hx.ptr_inv
    exact fin _ false hv (nil_run hop (.inr (.inl ⟨e, _, ht, rfl, rfl, rfl⟩))) (by rw [nf]; exact h)
  · obtain ⟨b', o', vs, hv, _⟩ := hx.eptr_inv
    exact fin _ false hv (nil_run hop (.inr (.inl ⟨e, _, ht, rfl, rfl, rfl⟩))) (by rw [nf]; exact h)
  · obtain ⟨hv, _⟩ := hx.v_inv
    exact fin _ true hv (nil_run hop (.inr (.inl ⟨e, none, ht, rfl, rfl, rfl⟩))) (by rw [nt]; exact h)
  · obtain ⟨b', hv, _⟩ := hx.map_inv
    exact fin _ false hv (nil_run hop (.inr (.inr ⟨k, e, _, ht, rfl, rfl, rfl⟩))) (by rw [nf]; exact h)
  · obtain ⟨hv, _⟩ := hx.v_inv
    exact fin _ true hv (nil_run hop (.inr (.inr ⟨k, e, none, ht, rfl, rfl, rfl⟩))) (by rw [nt]; exact h)

theorem run_part_int {P : Program} {t : TypeId} {k : IntKind} (ht : P.underlying t = some (.int k)) {xs : Array Value} {off : Nat} {v : Value} (hx : xs[off]? = some v) (w : World) : (part t xs off).run P w = .ok v w := by
  simp [part, isAgg, run_underlying ht, hx]

theorem run_part_bool {P : Program} {t : TypeId} (ht : P.underlying t = some .bool) {xs : Array Value} {off : Nat} {v : Value} (hx : xs[off]? = some v) (w : World) : (part t xs off).run P w = .ok v w := by
  simp [part, isAgg, run_underlying ht, hx]
theorem run_equalIn_bool {P : Program} (w : World) (d : Nat) (t : TypeId) (a b : Bool) (ht : P.underlying t = some .bool) : (Op.equalIn (d + 1) t (.bool a) (.bool b)).run P w = .ok (a == b) w := by
  cases a <;> cases b <;> simp [Op.equalIn, run_underlying ht]

theorem eqFields_spec {P : Program} {κ : Ghost} {w : World} {xs ys : Array Value} {d : Nat} : ∀ (fs : List Field) (k : Nat) (as bs : List AVal) {K : Bool → Prop}, flatFs P k fs = true → RepL κ as (xs.toList.drop k) → RepL κ bs (ys.toList.drop k) → eqCells (flatKs P fs) as bs K →
    ∃ r, (Op.eqFields (d + 1) xs ys fs).run P w = .ok r w ∧ K r
  | [], k, as, bs, K, _, _, _, h => by
    simp only [flatKs, List.map_nil] at h
    cases as <;> cases bs <;> simp only [eqCells] at h
    exact ⟨true, by simp [Op.eqFields], h⟩
  | f :: fs, k, as, bs, K, hf, ha, hb, h => by
    simp only [flatFs, Bool.and_eq_true, Bool.not_eq_true', decide_eq_false_iff_not, Bool.or_eq_true] at hf
    obtain ⟨⟨⟨f1, f2⟩, f3⟩, f4⟩ := hf
    have f2 := Nat.eq_of_beq_eq_true f2
    simp only [flatKs, List.map_cons] at h
    unfold eqCells at h
    split at h
    · exact absurd ‹_ :: _ = []› (by simp)
    · rename_i ks k1 x as' k2 y bs' he
      injection he with he1 he2
      have f3 : plainI P f.type = true := by rcases f3 with h | h; exact h; rw [h] at he1; cases he1
      obtain ⟨kd, f3⟩ := plainI_spec f3
      obtain ⟨hk, hh⟩ := bifTrue h
      have hk := of_decide_eq_true hk
      subst hk
      have hx : xs.toList.drop k ≠ [] := fun e => by rw [e] at ha; cases ha
      have hy : ys.toList.drop k ≠ [] := fun e => by rw [e] at hb; cases hb
      have lx : k < xs.toList.length := Classical.byContradiction fun hn => hx (List.drop_eq_nil_of_le (by omega))
      have ly : k < ys.toList.length := Classical.byContradiction fun hn => hy (List.drop_eq_nil_of_le (by omega))
      rw [List.drop_eq_getElem_cons lx] at ha
      rw [List.drop_eq_getElem_cons ly] at hb
      cases ha with | cons ha1 ha2 =>
      cases hb with | cons hb1 hb2 =>
      obtain ⟨e1, _⟩ := ha1.v_inv
      obtain ⟨e2, _⟩ := hb1.v_inv
      have p1 : xs[f.offset]? = some (.int k1 x) := by rw [f2, ← Array.getElem?_toList, List.getElem?_eq_getElem lx, e1]
      have p2 : ys[f.offset]? = some (.int k1 y) := by rw [f2, ← Array.getElem?_toList, List.getElem?_eq_getElem ly, e2]
      obtain ⟨r, h1, h2⟩ := eqFields_spec (w := w) (d := d) fs (k + 1) as' bs' f4 ha2 hb2 (by unfold flatKs; rw [he2]; exact hh)
      refine ⟨_, ?_, h2⟩
      simp only [Op.eqFields, ne_eq, f1, not_false_eq_true, if_true, Sem.run_bind, run_part_int f3 p1, run_part_int f3 p2, Result.andThen_ok, run_equalIn_int w d f.type k1 kd x y f3]
      by_cases hxy : x = y
      · subst hxy; simp [h1]
      · simp [hxy]
    · rename_i ks x as' y bs' he
      injection he with he1 he2
      have f3 := plainB_spec he1
      have hx : xs.toList.drop k ≠ [] := fun e => by rw [e] at ha; cases ha
      have hy : ys.toList.drop k ≠ [] := fun e => by rw [e] at hb; cases hb
      have lx : k < xs.toList.length := Classical.byContradiction fun hn => hx (List.drop_eq_nil_of_le (by omega))
      have ly : k < ys.toList.length := Classical.byContradiction fun hn => hy (List.drop_eq_nil_of_le (by omega))
      rw [List.drop_eq_getElem_cons lx] at ha
      rw [List.drop_eq_getElem_cons ly] at hb
      cases ha with | cons ha1 ha2 =>
      cases hb with | cons hb1 hb2 =>
      obtain ⟨e1, _⟩ := ha1.v_inv
      obtain ⟨e2, _⟩ := hb1.v_inv
      have p1 : xs[f.offset]? = some (.bool x) := by rw [f2, ← Array.getElem?_toList, List.getElem?_eq_getElem lx, e1]
      have p2 : ys[f.offset]? = some (.bool y) := by rw [f2, ← Array.getElem?_toList, List.getElem?_eq_getElem ly, e2]
      obtain ⟨r, h1, h2⟩ := eqFields_spec (w := w) (d := d) fs (k + 1) as' bs' f4 ha2 hb2 (by unfold flatKs; rw [he2]; exact h)
      refine ⟨_, ?_, h2⟩
      simp only [Op.eqFields, ne_eq, f1, not_false_eq_true, if_true, Sem.run_bind, run_part_bool f3 p1, run_part_bool f3 p2, Result.andThen_ok, run_equalIn_bool w d f.type x y f3]
      cases x <;> cases y <;> simp [h1]
    · exact h.elim

def eqArr (d : Nat) (e : TypeId) (xs ys : Array Value) : List Nat → Sem Bool
  | [] => pure true
  | i :: is => do
    let a ← part e xs (i * 1)
    let b ← part e ys (i * 1)
    let r ← Op.equalIn d e a b
    if (!r) = true then pure false else eqArr d e xs ys is
theorem run_equalIn_arr {P : Program} {w : World} {d : Nat} {t e : TypeId} {n : Nat} {i : TypeInfo} {xs ys : Array Value} (ht : P.underlying t = some (.array n e)) (hi : P.info? e = some i) (h1 : i.size = 1) :
    (Op.equalIn (d + 1) t (.agg xs) (.agg ys)).run P w = (eqArr d e xs ys (List.range' 0 n)).run P w := by
  have hz : ∀ w, (sizeOf e).run P w = .ok 1 w := fun w => by simp [sizeOf, typeInfo, hi, h1]
  simp only [Op.equalIn, Sem.run_bind, run_underlying ht, Result.andThen_ok, hz]
  simp only [Std.Legacy.Range.forIn_eq_forIn_range', Std.Legacy.Range.size, Nat.sub_zero, Nat.add_sub_cancel, Nat.div_one]
  generalize List.range' 0 n = is
  induction is generalizing w with
  | nil => simp [eqArr]
  | cons j is ih =>
    simp only [List.forIn_cons, eqArr, Sem.run_bind, Sem.run_ite]
    generalize (part e xs (j * 1)).run P w = r1
    cases r1 with
    | ok a w1 =>
      simp only [Result.andThen_ok]
      generalize (part e ys (j * 1)).run P w1 = r2
      cases r2 with
      | ok b w2 =>
        simp only [Result.andThen_ok]
        generalize (Op.equalIn d e a b).run P w2 = r3
        cases r3 with
        | ok r w3 =>
          cases r
          · simp only [Result.andThen_ok, Bool.not_false, if_true, Sem.run_pure]
          · simp only [Result.andThen_ok, Bool.not_true, Bool.false_eq_true, if_false, Sem.run_pure]
            exact ih
        | halt x w3 => simp [Result.andThen]
      | halt x w2 => simp [Result.andThen]
    | halt x w1 => simp [Result.andThen]
theorem eqArr_spec {P : Program} {κ : Ghost} {w : World} {xs ys : Array Value} {d : Nat} {e : TypeId} {kd : IntKind} (he : P.underlying e = some (.int kd)) : ∀ (n k : Nat) (as bs : List AVal) {K : Bool → Prop}, RepL κ as (xs.toList.drop k) → RepL κ bs (ys.toList.drop k) → eqCells (List.replicate n false) as bs K →
    ∃ r, (eqArr (d + 1) e xs ys (List.range' k n)).run P w = .ok r w ∧ K r
  | 0, k, as, bs, K, _, _, h => by
    simp only [List.replicate] at h
    cases as <;> cases bs <;> simp only [eqCells] at h
    exact ⟨true, by simp [eqArr], h⟩
  | n + 1, k, as, bs, K, ha, hb, h => by
    simp only [List.replicate] at h
    unfold eqCells at h
    split at h
    · exact absurd ‹_ :: _ = []› (by simp)
    · rename_i ks k1 x as' k2 y bs' hee
      injection hee with he1 he2
      obtain ⟨hk, hh⟩ := bifTrue h
      have hk := of_decide_eq_true hk
      subst hk
      have hx : xs.toList.drop k ≠ [] := fun e => by rw [e] at ha; cases ha
      have hy : ys.toList.drop k ≠ [] := fun e => by rw [e] at hb; cases hb
      have lx : k < xs.toList.length := Classical.byContradiction fun hn => hx (List.drop_eq_nil_of_le (by omega))
      have ly : k < ys.toList.length := Classical.byContradiction fun hn => hy (List.drop_eq_nil_of_le (by omega))
      rw [List.drop_eq_getElem_cons lx] at ha
      rw [List.drop_eq_getElem_cons ly] at hb
      cases ha with | cons ha1 ha2 =>
      cases hb with | cons hb1 hb2 =>
      obtain ⟨e1, _⟩ := ha1.v_inv
      obtain ⟨e2, _⟩ := hb1.v_inv
      have p1 : xs[k * 1]? = some (.int k1 x) := by rw [Nat.mul_one, ← Array.getElem?_toList, List.getElem?_eq_getElem lx, e1]
      have p2 : ys[k * 1]? = some (.int k1 y) := by rw [Nat.mul_one, ← Array.getElem?_toList, List.getElem?_eq_getElem ly, e2]
      obtain ⟨r, h1, h2⟩ := eqArr_spec (w := w) (d := d) he n (k + 1) as' bs' ha2 hb2 (by rw [he2]; exact hh)
      refine ⟨_, ?_, h2⟩
      rw [List.range'_succ]
      simp only [eqArr, Sem.run_bind, run_part_int he p1, run_part_int he p2, Result.andThen_ok, run_equalIn_int w d e k1 kd x y he]
      by_cases hxy : x = y
      · subst hxy; simp [h1]
      · simp [hxy]
    · rename_i hee; cases hee
    · exact h.elim

theorem RepV.agg_inv' {κ : Ghost} {xs : List AVal} {v : Value} (h : RepV κ (.agg xs) v) : ∃ vs : List Value, v = .agg vs.toArray ∧ RepL κ xs vs := by
  cases h with | agg h => exact ⟨_, rfl, h⟩

/-- Two structs, or arrays, of numbers. -/
theorem ev_eqAgg {P : Program} {κ : Ghost} {σ : AHeap} {w : World} {env : Env} {a : Act} {n : List Bool} {K : AVal → AHeap → Prop} {dst : Option Tmp} {ty : TypeId} {pos : String} {after : Array Edge} {guard : Option (Nat × Bool)} {b : BinOp} {t u : TypeId} {x y : Operand} {x' y' : Opd} {neg : Bool}
    (hop : (b = .eql ∧ neg = false) ∨ (b = .neq ∧ neg = true)) (hflat : flatNum P t = some n) (hI : Inv κ σ w) (rx : RepV κ (x'.get env) (a.eval x)) (ry : RepV κ (y'.get env) (a.eval y)) (h : IOp.ev P env σ (.eqAgg neg n x' y') K) :
    Good P a.eval ⟨dst, .binOp b t x y u, ty, pos, after, guard⟩ κ w K := by
  simp only [IOp.ev] at h
  split at h
  · rename_i xs ys h1 h2
    rw [h1] at rx; rw [h2] at ry
    obtain ⟨vs, hv, rx⟩ := rx.agg_inv'
    obtain ⟨us, hu, ry⟩ := ry.agg_inv'
    have hh := h
    have core : P.eqGuardType P.depth t = false ∧ ∃ r, (Op.equalIn 10000 t (.agg vs.toArray) (.agg us.toArray)).run P w = .ok r w ∧ K (.v (.bool (r != neg))) σ := by
      unfold flatNum at hflat
      split at hflat
      · rename_i fs ht
        obtain ⟨hc, hsz⟩ := bifsome hflat
        cases hsz
        simp only [Bool.and_eq_true, Bool.not_eq_true'] at hc
        obtain ⟨⟨c1, c2⟩, c3⟩ := hc
        have hfo : P.fieldsOf t = fs := by unfold Program.fieldsOf; rw [ht]
        obtain ⟨r, q1, q2⟩ := eqFields_spec (P := P) (w := w) (xs := vs.toArray) (ys := us.toArray) (d := 9998) fs.toList 0 xs ys c1 (by simpa using rx) (by simpa using ry) hh
        refine ⟨c2, r, ?_, q2⟩
        rw [show (10000 : Nat) = 9999 + 1 from rfl, run_equalIn_agg w 9999 t _ _ (by rw [hfo]; exact ht) c3, hfo]
        exact q1
      · rename_i m e ht
        split at hflat
        · rename_i i hi
          obtain ⟨hc, hsz⟩ := bifsome hflat
          cases hsz
          simp only [Bool.and_eq_true, Bool.not_eq_true'] at hc
          obtain ⟨⟨c1, c2⟩, c3⟩ := hc
          obtain ⟨kd, c1⟩ := plainI_spec c1
          obtain ⟨r, q1, q2⟩ := eqArr_spec (P := P) (w := w) (xs := vs.toArray) (ys := us.toArray) (d := 9998) c1 m 0 xs ys (by simpa using rx) (by simpa using ry) hh
          refine ⟨c3, r, ?_, q2⟩
          rw [show (10000 : Nat) = 9999 + 1 from rfl, run_equalIn_arr ht hi (Nat.eq_of_beq_eq_true c2)]
          exact q1
        · cases hflat
      · cases hflat
    obtain ⟨hg, r, hr, hk⟩ := core
    rcases hop with ⟨rfl, rfl⟩ | ⟨rfl, rfl⟩
    · refine .pure (v := .bool (r != false)) ?_ hI (.v rfl) hk
      simp only [execOp, hv, hu]
      refine execV _ ?_
      simp only [Sem.run_bind, run_eqGuard_agg w _ t x y _ _ hg, Result.andThen_ok, run_eql_struct, hr]
      cases r <;> rfl
    · refine .pure (v := .bool (r != true)) ?_ hI (.v rfl) hk
      simp only [execOp, hv, hu]
      refine execV _ ?_
      simp only [Sem.run_bind, run_eqGuard_agg w _ t x y _ _ hg, Result.andThen_ok, run_neq_struct, hr]
      cases r <;> rfl
  · exact h.elim

/-- Operations that only reckon: moves, numbers, comparisons. -/
theorem ev_plain {C : Cfg} {o : Oper} {op : IOp} (hC : comp P C o = some op) (hI : Inv κ σ w) (hE : RepE κ n env a.tmps) (h : op.ev P env σ K)
    (hk : (∃ x, o.op = .move x) ∨ (∃ x, o.op = .assign x) ∨ (∃ c x y, o.op = .pick c x y) ∨ (∃ b t x y u, o.op = .binOp b t x y u) ∨ (∃ t x, o.op = .unOp .not t x) ∨ (∃ x i, o.op = .extract x i) ∨ (∃ x, o.op = .nilCheck x)) :
    Good P a.eval o κ w K := by
  obtain ⟨dst, opc, ty, pos, after, guard⟩ := o
  rcases hk with ⟨x, rfl⟩ | ⟨x, rfl⟩ | ⟨c, x, y, rfl⟩ | ⟨b, t, x, y, u, rfl⟩ | ⟨t, x, rfl⟩ | ⟨x, i, rfl⟩ | ⟨x, rfl⟩ <;> simp only [comp] at hC
  · obtain ⟨z, hz, rfl⟩ := optmap hC
    simp only [IOp.ev, Opd.getK_eq] at h
    exact .pure (x := z.get env) rfl hI (opT_spec hE hz) h
  · obtain ⟨z, hz, rfl⟩ := optmap hC
    simp only [IOp.ev, Opd.getK_eq] at h
    exact .pure (x := z.get env) rfl hI (opT_spec hE hz) h
  · obtain ⟨c', hc, hC⟩ := optbind hC
    obtain ⟨x', hx, hC⟩ := optbind hC
    obtain ⟨y', hy, rfl⟩ := optmap hC
    have rc := opT_spec hE hc
    simp only [IOp.ev, Opd.getK_eq] at h
    split at h
    · rename_i t he
      rw [he] at rc
      obtain ⟨rc, _⟩ := rc.v_inv
      rw [ABr_def] at h
      have hrun : (execOp a.eval ⟨dst, .pick c x y, ty, pos, after, guard⟩).run P w = .ok (.value (if t then a.eval x else a.eval y)) w := by simp [execOp, rc, asBool]
      cases t
      · exact .pure hrun hI (opT_spec hE hy) h
      · exact .pure hrun hI (opT_spec hE hx) h
    · exact h.elim
  · have fin : ∀ (tb : Bool) (x' y' : Opd), (tb = true → P.underlying t = some .bool) → opT P t x = some x' → opT P u y = some y' → IOp.ev P env σ (.bin tb b x' y') K → Good P a.eval ⟨dst, .binOp b t x y u, ty, pos, after, guard⟩ κ w K := by
      intro tb x' y' htb hx hy h
      have rx := opT_spec hE hx
      have ry := opT_spec hE hy
      simp only [IOp.ev, Opd.getK_eq] at h
      split at h
      · rename_i av bv h1 h2
        rw [h1] at rx; rw [h2] at ry
        obtain ⟨rx, _⟩ := rx.v_inv
        obtain ⟨ry, _⟩ := ry.v_inv
        obtain ⟨r, h3, h4, h5⟩ := binE_spec (P := P) (w := w) (p := x) (q := y) htb h
        refine .pure (v := r) ?_ hI (.v h4) h5
        simp only [execOp, rx, ry]
        exact execV _ h3
      · exact h.elim
    split at hC
    · obtain ⟨x', hx, hC⟩ := optbind hC
      obtain ⟨y', hy, rfl⟩ := optmap hC
      exact fin false x' y' (by simp) hx hy h
    · obtain ⟨x', hx, hC⟩ := optbind hC
      obtain ⟨y', hy, rfl⟩ := optmap hC
      exact fin false x' y' (by simp) hx hy h
    · rename_i hb
      obtain ⟨x', hx, hC⟩ := optbind hC
      obtain ⟨y', hy, rfl⟩ := optmap hC
      exact fin true x' y' (fun _ => hb) hx hy h
    · rename_i e ht
      split at hC
      · obtain ⟨x', hx, rfl⟩ := optmap hC
        exact ev_nil (.inl ⟨rfl, rfl⟩) (.inl ⟨rfl, ⟨e, ht⟩, _, _, rfl⟩) hI (opT_spec hE hx) h
      · obtain ⟨x', hx, rfl⟩ := optmap hC
        exact ev_nil (.inr ⟨rfl, rfl⟩) (.inl ⟨rfl, ⟨e, ht⟩, _, _, rfl⟩) hI (opT_spec hE hx) h
      · cases hC
    · rename_i e ht
      split at hC
      · obtain ⟨x', hx, rfl⟩ := optmap hC
        exact ev_nil (.inl ⟨rfl, rfl⟩) (.inr (.inl ⟨rfl, ⟨e, ht⟩, rfl⟩)) hI (opT_spec hE hx) h
      · obtain ⟨x', hx, rfl⟩ := optmap hC
        exact ev_nil (.inr ⟨rfl, rfl⟩) (.inr (.inl ⟨rfl, ⟨e, ht⟩, rfl⟩)) hI (opT_spec hE hx) h
      · cases hC
    · rename_i k e ht
      split at hC
      · obtain ⟨x', hx, rfl⟩ := optmap hC
        exact ev_nil (.inl ⟨rfl, rfl⟩) (.inr (.inr ⟨rfl, ⟨k, e, ht⟩, rfl⟩)) hI (opT_spec hE hx) h
      · obtain ⟨x', hx, rfl⟩ := optmap hC
        exact ev_nil (.inr ⟨rfl, rfl⟩) (.inr (.inr ⟨rfl, ⟨k, e, ht⟩, rfl⟩)) hI (opT_spec hE hx) h
      · cases hC
    · split at hC
      · rename_i n hflat
        split at hC
        · obtain ⟨x', hx, hC⟩ := optbind hC
          obtain ⟨y', hy, rfl⟩ := optmap hC
          exact ev_eqAgg (.inl ⟨rfl, rfl⟩) hflat hI (opT_spec hE hx) (opT_spec hE hy) h
        · obtain ⟨x', hx, hC⟩ := optbind hC
          obtain ⟨y', hy, rfl⟩ := optmap hC
          exact ev_eqAgg (.inr ⟨rfl, rfl⟩) hflat hI (opT_spec hE hx) (opT_spec hE hy) h
        · cases hC
      · cases hC
  · obtain ⟨z, hz, rfl⟩ := optmap hC
    have rz := opT_spec hE hz
    simp only [IOp.ev, Opd.getK_eq] at h
    split at h
    · rename_i b he
      rw [he] at rz
      obtain ⟨rz, _⟩ := rz.v_inv
      exact .pure (v := .bool (!b)) (by simp [execOp, rz, Op.unary]) hI (.v rfl) h
    · exact h.elim
  · obtain ⟨z, hz, rfl⟩ := optmap hC
    have rz := opT_spec hE hz
    simp only [IOp.ev, Opd.getK_eq] at h
    split at h
    · rename_i vs he
      rw [he] at rz
      obtain ⟨us, hv, hr⟩ := rz.tup_inv
      obtain ⟨y, u, h1, h2, h3⟩ := lgetK_spec hr h
      exact .pure (v := u) (by simp [execOp, hv, Instr.extract, h1]) hI h2 h3
    · exact h.elim
  · obtain ⟨z, hz, rfl⟩ := optmap hC
    have rz := opT_spec hE hz
    simp only [IOp.ev, Opd.getK_eq] at h
    split at h
    · rename_i id off he
      rw [he] at rz
      obtain ⟨b, hv, hb⟩ := rz.ptr_inv
      exact .pure (v := .pointer (some ⟨b, off, none⟩)) (by simp [execOp, hv]) hI (.ptr hb) h
    · rename_i cs off he
      rw [he] at rz
      obtain ⟨b, q, vs, hv, hb, hc⟩ := rz.eptr_inv
      exact .pure (v := .pointer (some ⟨b, q + off, none⟩)) (by simp [execOp, hv]) hI (.eptr hb hc) h
    · exact h.elim
end
end Go.Am

