/-
  New blocks, literals, appends.
-/
import Derived.Test.YtiohpnkfcaahbaaFf
import Derived.Lib.ConvBytes
import Derived.Laws.AppendOwn
namespace Go.Am
set_option linter.unusedVariables false
set_option linter.unusedSimpArgs false
set_option linter.unusedSectionVars false
open Go.RowKit (Below)

theorem fold_set_list : ∀ (vs : List (Value × Nat)) (off k : Nat) (cs : Array Value), (∀ j x, vs[j]? = some x → x.2 = k + j) → off + k + vs.length ≤ cs.size →
    (vs.foldl (fun (cs : Array Value) (x : Value × Nat) => cs.setIfInBounds (off + x.2) x.1) cs).toList = splice cs.toList (off + k) (vs.map (·.1))
  | [], off, k, cs, _, _ => by simp [splice]
  | (v, j) :: vs, off, k, cs, hi, hl => by
    have hj : j = k := by have := hi 0 (v, j) (by simp); simpa using this
    subst hj
    simp only [List.length_cons] at hl
    simp only [List.foldl_cons, List.map_cons]
    rw [fold_set_list vs off (j + 1) _ (fun i x e => by have := hi (i + 1) x (by simpa using e); omega) (by simp; omega)]
    simp only [Array.toList_setIfInBounds]
    rw [← Nat.add_assoc, splice_cons _ _ _ _ (by simp; omega)]

theorem fold_set (vs : Array Value) (off : Nat) (cs : Array Value) (h : off + vs.size ≤ cs.size) :
    (vs.zipIdx.foldl (fun (cs : Array Value) (x : Value × Nat) => cs.setIfInBounds (off + x.2) x.1) cs).toList = splice cs.toList off vs.toList := by
  rw [← Array.foldl_toList, Array.toList_zipIdx]
  have := fold_set_list (vs.toList.zipIdx) off 0 cs (fun j x e => by
    rw [List.getElem?_zipIdx] at e
    cases hv : vs.toList[j]? with
    | none => simp [hv] at e
    | some v => simp [hv] at e; rw [← e]; simp) (by simpa using h)
  simpa [List.zipIdx_map_fst] using this

theorem putK_spec {k : List AVal → Prop} : ∀ {zs : List AVal} {off : Nat} {xs : List AVal}, putK zs off xs k → off + xs.length ≤ zs.length ∧ k (splice zs off xs) := by
  intro zs
  induction zs generalizing k with
  | nil =>
    intro off xs h
    cases off <;> cases xs <;> simp only [putK] at h <;> first | exact h.elim | exact ⟨by simp, by simpa [splice] using h⟩
  | cons z zs ih =>
    intro off xs h
    cases off with
    | zero =>
      cases xs with
      | nil => simp only [putK] at h; exact ⟨by simp, by simpa [splice] using h⟩
      | cons x xs =>
        simp only [putK] at h
        obtain ⟨h1, h2⟩ := ih h
        exact ⟨by simp at *; omega, by simpa [splice] using h2⟩
    | succ n =>
      have h' : putK zs n xs fun l => k (z :: l) := by cases xs <;> simpa only [putK] using h
      obtain ⟨h1, h2⟩ := ih h'
      refine ⟨by simp at *; omega, ?_⟩
      simpa [splice, Nat.succ_add] using h2

inductive Parts (κ : Ghost) (env : Env) (place : Nat → Option (Nat × Nat)) : List (Nat × Nat × Opd) → List (Nat × Value) → Prop
  | nil : Parts κ env place [] []
  | cons {off n x i v ps vs} : place i = some (off, n) → RepV κ (x.get env) v → Parts κ env place ps vs → Parts κ env place ((off, n, x) :: ps) ((i, v) :: vs)

theorem fill_spec {κ : Ghost} {env : Env} {place : Nat → Option (Nat × Nat)} {k : List AVal → Prop} : ∀ {ps : List (Nat × Nat × Opd)} {vs : List (Nat × Value)} {zs : List AVal} {cs : Array Value}, Parts κ env place ps vs →
    RepL κ zs cs.toList → fillK env ps zs k → ∃ c' l, Instr.fill place cs vs = some c' ∧ RepL κ l c'.toList ∧ k l := by
  intro ps
  induction ps with
  | nil => intro vs zs cs hp hz h; cases hp; exact ⟨cs, zs, rfl, hz, h⟩
  | cons p ps ih =>
    intro vs zs cs hp hz h
    cases hp with
    | cons h1 h2 h3 =>
    rename_i off n x i v vs
    have key : ∀ xs : List AVal, RepL κ xs v.cells.toList → xs.length = n → (putK zs off xs fun l => fillK env ps l k) → ∃ c' l, Instr.fill place cs ((i, v) :: vs) = some c' ∧ RepL κ l c'.toList ∧ k l := by
      intro xs hx hn hq
      obtain ⟨q1, q2⟩ := putK_spec hq
      have hxl := hx.length
      have hzl := hz.length
      simp only [Array.length_toList] at hxl hzl
      have hf := fold_set v.cells off cs (by omega)
      obtain ⟨c', l, r1, r2, r3⟩ := ih (cs := v.cells.zipIdx.foldl (fun (cs : Array Value) (x : Value × Nat) => cs.setIfInBounds (off + x.2) x.1) cs) h3 (by rw [hf]; exact hz.splice hx off) q2
      refine ⟨c', l, ?_, r2, r3⟩
      simp only [Instr.fill, h1]
      rw [if_neg (by simp; omega)]
      exact r1
    simp only [fillK] at h
    split at h
    · rename_i cs' he
      rw [he] at h2
      cases hb : Nat.beq cs'.length n with
      | false => simp [hb] at h
      | true =>
        simp only [hb, cond_true] at h
        exact key cs' (h2.cells (.inr ⟨cs', rfl⟩)) (Nat.eq_of_beq_eq_true hb) h
    · cases hb : (Nat.beq n 1 && (x.get env).isCell) with
      | false => simp [hb] at h
      | true =>
        simp only [hb, cond_true] at h
        simp only [Bool.and_eq_true] at hb
        have hcs : (x.get env).cells = [x.get env] := by
          have := hb.2
          cases hx : x.get env <;> first | rfl | (rw [hx] at this; simp [AVal.isCell] at this)
        exact key [x.get env] (by rw [← hcs]; exact h2.cells (.inl hb.2)) (by have := Nat.eq_of_beq_eq_true hb.1; simp; omega) h

theorem rows_fill (s : Nat) : ∀ (vs : List Value) (k : Nat) (cs : Array Value), (∀ v ∈ vs, v.cells.size = s) → (k + vs.length) * s ≤ cs.size →
    ∃ c', Instr.fill (fun i => some (i * s, s)) cs ((vs.zipIdx k).map fun x => (x.2, x.1)) = some c' ∧ c'.toList = splice cs.toList (k * s) (vs.flatMap fun v => v.cells.toList)
  | [], k, cs, _, _ => ⟨cs, rfl, by simp [splice]⟩
  | v :: vs, k, cs, hv, hl => by
    have h1 := hv v (List.mem_cons_self ..)
    have hl' : (k + 1 + vs.length) * s ≤ cs.size := by simp only [List.length_cons] at hl; rw [show k + 1 + vs.length = k + (vs.length + 1) by omega]; exact hl
    have hks : k * s + s ≤ cs.size := by
      have : (k + 1) * s ≤ (k + 1 + vs.length) * s := Nat.mul_le_mul_right s (by omega)
      rw [Nat.succ_mul] at this; omega
    have hf := fold_set v.cells (k * s) cs (by omega)
    obtain ⟨c', r1, r2⟩ := rows_fill s vs (k + 1) (v.cells.zipIdx.foldl (fun (cs : Array Value) (x : Value × Nat) => cs.setIfInBounds (k * s + x.2) x.1) cs) (fun u hu => hv u (List.mem_cons_of_mem _ hu)) (by
      have := congrArg List.length hf
      rw [splice_length _ _ _ (by simp; omega)] at this
      simp only [Array.length_toList] at this; omega)
    refine ⟨c', ?_, ?_⟩
    · simp only [List.zipIdx_cons, List.map_cons, Instr.fill]
      rw [if_neg (by simp; omega)]
      exact r1
    · rw [r2, hf]
      simp only [splice, List.flatMap_cons]
      have hlen : v.cells.toList.length = s := by simpa using h1
      have e1 : (k + 1) * s = k * s + s := Nat.succ_mul k s
      have htl : (List.take (k * s) cs.toList).length = k * s := by simp; omega
      rw [e1]
      rw [List.take_append_of_le_length (by simp; omega), List.take_of_length_le (by simp; omega)]
      simp only [List.append_assoc, List.length_append, hlen]
      congr 2
      congr 1
      rw [← List.append_assoc, List.drop_append, List.drop_of_length_le (by simp; omega), List.nil_append, List.drop_drop]
      congr 1
      simp only [List.length_append, htl, hlen]
      omega
theorem flat_len {s : Nat} : ∀ {xs : List AVal}, (∀ x ∈ xs, x.cells.length = s) → (xs.flatMap AVal.cells).length = xs.length * s
  | [], _ => by simp
  | x :: xs, h => by
    have h1 := h x (List.mem_cons_self ..)
    have h2 := flat_len (xs := xs) fun y hy => h y (List.mem_cons_of_mem _ hy)
    simp only [List.flatMap_cons, List.length_append, h1, h2, List.length_cons, Nat.succ_mul]; omega

/-- A slice over a new row, with the right to append. -/
theorem Inv.newSlice {κ : Ghost} {σ : AHeap} {w : World} (h : Inv κ σ w) {c : Array Value} {e : TypeId} {s cap : Nat} {xs : List AVal} {vs us : List Value} (hx : ∀ x ∈ xs, x.cells.length = s)
    (hr : RepL κ (xs.flatMap AVal.cells) vs) (hc : c.toList = vs ++ us) (ho : Ones c.toList) (hcap : xs.length ≤ cap) (hsz : cap * s ≤ c.size) {t : Nat} (ht : σ t = none ∧ κ.obj t = none ∧ κ.tok t = none) :
    ∃ κ', κ.le κ' ∧ Inv κ' (upd σ t .tip) (w.alloc (.cells c e)) ∧ RepV κ' (.slice s xs (.tip t)) (.slice (some ⟨w.heap.size, 0, none⟩) xs.length cap) := by
  have hl : vs.length = xs.length * s := by rw [← hr.length, flat_len hx]
  have hcs : c.size = vs.length + us.length := by have := congrArg List.length hc; simpa using this
  obtain ⟨κ', h1, h2, h3, h4, h5⟩ := h.allocRow (c := c) (e := e) (m := xs.length * s) (by omega) ho ht
  refine ⟨κ', h1, h2, .slice rfl hcap hx (hr.mono h1) (fun i v e => ?_) (.inr ⟨by rw [h5, Nat.zero_add], c.size, h4, by omega⟩)⟩
  have hi : i < vs.length := (List.getElem?_eq_some_iff.1 e).1
  rw [Nat.zero_add]
  refine h3 i v (by omega) ?_
  rw [← Array.getElem?_toList, hc, List.getElem?_append_left hi]; exact e

theorem Inv.newSliceO {κ : Ghost} {σ : AHeap} {w : World} (h : Inv κ σ w) {c : Array Value} {e : TypeId} {s cap : Nat} {xs : List AVal} {vs us : List Value} (hx : ∀ x ∈ xs, x.cells.length = s)
    (hr : RepL κ (xs.flatMap AVal.cells) vs) (hc : c.toList = vs ++ us) (ho : Ones c.toList) (hcap : xs.length ≤ cap) (hsz : cap * s ≤ c.size) {t : Nat} (ht : σ t = none ∧ κ.obj t = none ∧ κ.tok t = none) :
    ∃ κ', κ.le κ' ∧ Inv κ' (upd σ t .tip) (w.alloc (.cells c e)) ∧ RepV κ' (.slice s xs (.own t)) (.slice (some ⟨w.heap.size, 0, none⟩) xs.length cap) := by
  have hl : vs.length = xs.length * s := by rw [← hr.length, flat_len hx]
  have hcs : c.size = vs.length + us.length := by have := congrArg List.length hc; simpa using this
  obtain ⟨κ', h1, h2, h3, h4, h5⟩ := h.allocRow (c := c) (e := e) (m := xs.length * s) (by omega) ho ht
  refine ⟨κ', h1, h2, .slice rfl hcap hx (hr.mono h1) (fun i v e => ?_) (by show κ'.tok t = _; rw [h5, Nat.zero_add])⟩
  have hi : i < vs.length := (List.getElem?_eq_some_iff.1 e).1
  rw [Nat.zero_add]
  refine h3 i v (by omega) ?_
  rw [← Array.getElem?_toList, hc, List.getElem?_append_left hi]; exact e

theorem RepV.full_of_own {κ : Ghost} {s : Nat} {xs : List AVal} {t : Nat} {b off len : Nat} (h : RepV κ (.slice s xs (.own t)) (.slice (some ⟨b, off, none⟩) len len)) : RepV κ (.slice s xs .full) (.slice (some ⟨b, off, none⟩) len len) := by
  cases h with
  | nil => exact .nil
  | slice h1 h2 h3 h4 h5 h6 => exact .slice h1 h2 h3 h4 h5 rfl

theorem RepV.full_of_tip {κ : Ghost} {s : Nat} {xs : List AVal} {t : Nat} {b off len : Nat} (h : RepV κ (.slice s xs (.tip t)) (.slice (some ⟨b, off, none⟩) len len)) : RepV κ (.slice s xs .full) (.slice (some ⟨b, off, none⟩) len len) := by
  cases h with
  | nil => exact .nil
  | slice h1 h2 h3 h4 h5 h6 => exact .slice h1 h2 h3 h4 h5 rfl

theorem okElem_spec {s : Nat} {x : AVal} (h : okElem s x = true) : x.cells.length = s ∧ x.cells.all AVal.isCell = true ∧ (x.isCell = true ∨ ∃ cs, x = .agg cs) := by
  unfold okElem at h
  split at h
  · simp only [Bool.and_eq_true] at h
    exact ⟨Nat.eq_of_beq_eq_true h.1, h.2, .inr ⟨_, rfl⟩⟩
  · simp only [Bool.and_eq_true] at h
    have hs := Nat.eq_of_beq_eq_true h.1
    have hc : x.cells = [x] := by
      cases x <;> first | rfl | (simp [AVal.isCell] at h)
    rw [hc]
    exact ⟨by simp [hs], by simp [h.2], .inl h.2⟩

theorem elems_rep {κ : Ghost} {s : Nat} : ∀ {xs : List AVal} {vs : List Value}, RepL κ xs vs → xs.all (okElem s) = true →
    (∀ x ∈ xs, x.cells.length = s) ∧ (∀ v ∈ vs, v.cells.size = s) ∧ RepL κ (xs.flatMap AVal.cells) (vs.flatMap fun v => v.cells.toList) ∧ Ones (vs.flatMap fun v => v.cells.toList)
  | [], _, .nil, _ => ⟨by simp, by simp, .nil, by intro v h; cases h⟩
  | x :: xs, v :: vs, .cons hv ht, h => by
    simp only [List.all_cons, Bool.and_eq_true] at h
    obtain ⟨h1, h2, h3⟩ := okElem_spec h.1
    obtain ⟨k1, k2, k3, k4⟩ := elems_rep ht h.2
    have hr := hv.cells h3
    have hl : v.cells.size = s := by have := hr.length; simp only [Array.length_toList] at this; omega
    refine ⟨fun y hy => ?_, fun u hu => ?_, ?_, ?_⟩
    · cases hy with
      | head => exact h1
      | tail _ hm => exact k1 y hm
    · cases hu with
      | head => exact hl
      | tail _ hm => exact k2 u hm
    · simp only [List.flatMap_cons]; exact hr.append k3
    · simp only [List.flatMap_cons]; exact (ones_of hr h2).append k4

/-- A slice's literal. -/
theorem Inv.rowT {P : Program} {κ : Ghost} {σ : AHeap} {w : World} (h : Inv κ σ w) {t e : TypeId} {i : TypeInfo} {z : Value} (ht : P.underlying t = some (.slice e)) (hi : P.info? e = some i) (hz : i.zero = some z)
    {xs : List AVal} {vs : List Value} (hr : RepL κ xs vs) (hx : xs.all (okElem i.size) = true) (hn : xs.length * i.size ≤ 16777216) (h0 : i.size ≠ 0) {N : Nat} (hN : σ N = none ∧ κ.obj N = none ∧ κ.tok N = none) :
    ∃ n v w' κ', (Instr.buildSlice t xs.length (vs.zipIdx.map fun x => (x.2, x.1)).toArray).run P w = .ok v w' ∧ κ.le κ' ∧ Inv κ' (upd σ N .tip) w' ∧ v = .slice (some ⟨n, 0, none⟩) xs.length xs.length ∧ RepV κ' (.slice i.size xs (.own N)) v := by
  obtain ⟨k1, k2, k3, k4⟩ := elems_rep hr hx
  have hl := hr.length
  let Z : Array Value := if vs.length * i.size = 0 then #[] else z.cells
  obtain ⟨c, r1, r2⟩ := rows_fill i.size vs 0 ((Array.range (vs.length * i.size)).map (Z[· % Z.size]!)) k2 (by simp)
  have r2' : c.toList = (vs.flatMap fun v => v.cells.toList) := by
    rw [r2]
    have hll : (vs.flatMap fun v => v.cells.toList).length = vs.length * i.size := by
      rw [← k3.length, flat_len k1, hl]
    simp only [splice, Nat.zero_mul, List.take_zero, List.nil_append, Nat.zero_add]
    rw [List.drop_of_length_le (by simp [hll]), List.append_nil]
  obtain ⟨κ', q1, q2, q3⟩ := h.newSliceO (c := c) (e := e) (s := i.size) (cap := xs.length) (xs := xs) (us := []) k1 k3 (by simpa using r2') (by rw [r2']; exact k4) (Nat.le_refl _) (by
    have := congrArg List.length r2'
    rw [← k3.length, flat_len k1] at this
    simp only [Array.length_toList] at this; omega) (t := N) hN
  refine ⟨w.heap.size, _, _, κ', ?_, q1, q2, rfl, q3⟩
  rw [hl] at hn
  have hnn : ¬ (16777216 < vs.length * i.size) := by omega
  have hres : (Value.slice (some ⟨w.heap.size, 0, none⟩) xs.length xs.length) = Value.slice (some ⟨w.heap.size, 0, none⟩) vs.length vs.length := by rw [hl]
  rw [hres]
  simp only [Instr.buildSlice, Sem.run_bind, run_underlying ht, Result.andThen_ok, sizeOf, typeInfo, run_program, hi, Sem.run_pure, hl]
  rw [if_neg hnn]
  by_cases h00 : vs.length * i.size = 0
  · rw [if_pos h00]
    have hZ : Z = #[] := if_pos h00
    rw [hZ] at r1
    simp only [Sem.run_bind, Sem.run_pure, Result.andThen_ok, r1, newRow, run_newObj]
    rfl
  · rw [if_neg h00]
    have hZ : Z = z.cells := if_neg h00
    rw [hZ] at r1
    have hzr : (zeroValue e).run P w = .ok z w := by simp [zeroValue, typeInfo, hi, hz]
    simp only [Sem.run_bind, Sem.run_pure, Result.andThen_ok, hzr, r1, newRow, run_newObj]
    rfl

/-- A slice's literal. -/
theorem Inv.row {P : Program} {κ : Ghost} {σ : AHeap} {w : World} (h : Inv κ σ w) {t e : TypeId} {i : TypeInfo} {z : Value} (ht : P.underlying t = some (.slice e)) (hi : P.info? e = some i) (hz : i.zero = some z)
    {xs : List AVal} {vs : List Value} (hr : RepL κ xs vs) (hx : xs.all (okElem i.size) = true) (hn : xs.length * i.size ≤ 16777216) (h0 : i.size ≠ 0) :
    ∃ v w' κ', (Instr.buildSlice t xs.length (vs.zipIdx.map fun x => (x.2, x.1)).toArray).run P w = .ok v w' ∧ κ.le κ' ∧ Inv κ' σ w' ∧ RepV κ' (.slice i.size xs .full) v := by
  obtain ⟨N, hN⟩ := h.fin
  obtain ⟨n, v, w', κ', r1, r2, r3, rfl, r4⟩ := h.rowT ht hi hz hr hx hn h0 (hN N (Nat.le_refl _))
  exact ⟨_, w', κ', r1, r2, r3.sub (Sub.upd_fresh _ (hN N (Nat.le_refl _)).1), r4.full_of_own⟩

/-- The right to append to a row is given up: the row may be marked. -/
theorem Inv.markTip {κ : Ghost} {σ : AHeap} {w : World} (h : Inv κ σ w) {t b p k : Nat} (ht : σ t = some .tip) (hk : κ.tok t = some (b, p)) : Inv κ (del σ t) (w.freeze ⟨b, k, none⟩ 1) := by
  obtain ⟨g1, ⟨c, e, g2, g2'⟩, g3, g4, g5⟩ := h.tip t b p ht hk
  have hb := heap_lt g2
  have hne : ∀ j, j ≠ b → (w.freeze ⟨b, k, none⟩ 1).heap[j]? = w.heap[j]? := fun j hj => by
    simp [World.freeze, Array.getElem?_modify, Ne.symm hj]
  have hat : (w.freeze ⟨b, k, none⟩ 1).heap[b]? = some (.cells c e (k, k + 1)) := by
    simp [World.freeze, Array.getElem?_modify, g2]
  have hsub : Sub σ (del σ t) := Sub.del t
  have hbel : Below κ.base κ.w0 (w.freeze ⟨b, k, none⟩ 1) := by
    refine h.below.trans ⟨rfl, rfl, rfl, by simp [World.freeze], fun j hj => ?_⟩
    rw [hne j (by omega)]
  refine ⟨hbel, by simp [World.freeze]; exact h.base, fun b' o v q => ?_, fun b' n q => ?_, fun id b' q => ?_, fun i j b' hi hj => h.inj i j b' (hsub.live hi) (hsub.live hj), fun id cs q => ?_, fun id es q => ?_, fun t' b' p' q k' => ?_, ?_⟩
  · have := h.cell b' o v q
    refine ⟨?_, this.2⟩
    by_cases hbb : b' = b
    · subst hbb; rw [heap_cell hat, ← heap_cell g2]; exact this.1
    · have e1 := this.1
      simp only [World.cell?] at e1 ⊢
      rw [hne b' hbb]; exact e1
  · obtain ⟨c', e', f, k1, k2⟩ := h.size b' n q
    by_cases hbb : b' = b
    · subst hbb; rw [g2] at k1; cases k1; exact ⟨c, e, _, hat, k2⟩
    · exact ⟨c', e', f, by rw [hne b' hbb]; exact k1, k2⟩
  · obtain ⟨h1, h2, h3⟩ := h.obj id b' q
    exact ⟨h1, by simp [World.freeze]; exact h2, fun hl => h3 (hsub.live hl)⟩
  · obtain ⟨b', c', e', vs, us, k1, k2, k3⟩ := h.cells id cs (hsub _ _ q)
    exact ⟨b', c', e', vs, us, k1, by rw [hne b' (fun e => g4 id (e ▸ k1))]; exact k2, k3⟩
  · obtain ⟨b', c', clk, k1, k2, k3⟩ := h.map id es (hsub _ _ q)
    exact ⟨b', c', clk, k1, by rw [hne b' (fun e => g4 id (e ▸ k1))]; exact k2, k3⟩
  · have hq := hsub _ _ q
    obtain ⟨h1, ⟨c', e', h2, h2'⟩, h3, h4, h5⟩ := h.tip t' b' p' hq k'
    have htt : t' ≠ t := fun e => by subst e; rw [del_same] at q; cases q
    have hbb : b' ≠ b := fun e => by subst e; exact htt (g5 t' p' hq k')
    exact ⟨h1, ⟨c', e', by rw [hne b' hbb]; exact h2, h2'⟩, h3, h4, fun t'' p'' e'' k'' => h5 t'' p'' (hsub _ _ e'') k''⟩
  · obtain ⟨N, hN⟩ := h.fin
    refine ⟨N, fun n hn => ⟨?_, (hN n hn).2⟩⟩
    unfold del; split
    · rfl
    · exact (hN n hn).1

theorem freeze_at {w : World} {o : Obj} {k : Nat} {c : Array Value} {e : TypeId} (ho : o = .cells c e (0, 0)) : ((w.alloc o).freeze ⟨w.heap.size, k, none⟩ 1).heap[w.heap.size]? = some (.cells c e (k, k + 1)) := by
  subst ho
  simp [World.freeze, World.alloc, -World.alloc_eq]
  rw [Array.getElem_modify_self]
  simp
theorem freeze_ne {w : World} {o : Obj} {k b : Nat} (h : b < w.heap.size) : ((w.alloc o).freeze ⟨w.heap.size, k, none⟩ 1).heap[b]? = w.heap[b]? := by
  have h1 : w.heap.size ≠ b := by omega
  simp [World.freeze, World.alloc, -World.alloc_eq, Array.getElem?_modify, Array.getElem?_push, h1, Ne.symm h1]

/-- A new row that a conversion marks: its cells will not change any more. -/
theorem Inv.allocFrozen {κ : Ghost} {σ : AHeap} {w : World} (h : Inv κ σ w) {c : Array Value} {e : TypeId} {m k : Nat} (hm : m ≤ c.size) (hc : Ones c.toList) :
    ∃ κ', κ.le κ' ∧ Inv κ' σ ((w.alloc (.cells c e)).freeze ⟨w.heap.size, k, none⟩ 1) ∧ (∀ i v, i < m → c[i]? = some v → κ'.cell w.heap.size i = some v) := by
  let κ' : Ghost := { κ with
    cell := fun b o => if b = w.heap.size then (if o < m then c[o]? else none) else κ.cell b o }
  have hcell : ∀ b o v, κ.cell b o = some v → b < w.heap.size := fun b o v e => World.block_lt_of_cell? w ⟨b, o, none⟩ (h.cell b o v e).1
  have hle : κ.le κ' := by
    refine ⟨rfl, rfl, fun b o v e => ?_, fun b n e => e, fun _ _ e => e, fun i x e => e⟩
    have := hcell b o v e
    simp only [κ']; rw [if_neg (by omega)]; exact e
  have hbel : Below κ.base κ.w0 ((w.alloc (.cells c e)).freeze ⟨w.heap.size, k, none⟩ 1) := by
    refine (h.below.alloc h.base (.cells c e)).trans ⟨rfl, rfl, rfl, by simp [World.freeze], fun j hj => ?_⟩
    have hb := h.base
    rw [freeze_ne (by omega), alloc_old (by omega)]
  refine ⟨κ', hle, ?_, fun i v hi hv => by simp only [κ', if_true]; rw [if_pos hi]; exact hv⟩
  refine ⟨hbel, by simp [World.freeze]; exact Nat.le_succ_of_le h.base, fun b o v q => ?_, fun b n q => ?_, fun id b q => ?_, h.inj, fun id cs q => ?_, fun id es q => ?_, fun t b p q k' => ?_, h.fin⟩
  · simp only [κ'] at q
    split at q
    · rename_i hb; subst hb
      split at q
      · refine ⟨by rw [heap_cell (freeze_at rfl)]; exact q, hc v ?_⟩
        rw [Array.mem_toList_iff]; exact Array.mem_of_getElem? q
      · cases q
    · have hlt := hcell b o v q
      have := h.cell b o v q
      refine ⟨?_, this.2⟩
      have e1 := this.1
      simp only [World.cell?] at e1 ⊢
      rw [freeze_ne hlt]; exact e1
  · obtain ⟨c', e', f, k1, k2⟩ := h.size b n q
    exact ⟨c', e', f, by rw [freeze_ne (heap_lt k1)]; exact k1, k2⟩
  · obtain ⟨h1, h2, h3⟩ := h.obj id b q
    refine ⟨h1, by simp [World.freeze]; omega, fun hl o => ?_⟩
    simp only [κ']; rw [if_neg (by omega)]; exact h3 hl o
  · obtain ⟨b, c', e', vs, us, k1, k2, k3, k4, k5, k6⟩ := h.cells id cs q
    exact ⟨b, c', e', vs, us, k1, by rw [freeze_ne (heap_lt k2)]; exact k2, k3, k4, k5.mono hle, k6⟩
  · obtain ⟨b, c', clk, k1, k2, k3, k4⟩ := h.map id es q
    exact ⟨b, c', clk, k1, by rw [freeze_ne (heap_lt k2)]; exact k2, k3, k4.mono hle⟩
  · obtain ⟨h1, ⟨c', e', h2, h2'⟩, h3, h4, h5⟩ := h.tip t b p q k'
    have hb := heap_lt h2
    refine ⟨h1, ⟨c', e', by rw [freeze_ne hb]; exact h2, h2'⟩, fun o ho => ?_, h4, h5⟩
    simp only [κ']; rw [if_neg (by omega)]; exact h3 o ho

theorem Inv.newBytes {κ : Ghost} {σ : AHeap} {w : World} (h : Inv κ σ w) (e : TypeId) (s : ByteArray) :
    ∃ κ', κ.le κ' ∧ Inv κ' σ (Lib.bytesWorld w e s) ∧ RepV κ' (.slice 1 (s.data.toList.map byteV) .none) (.slice (some ⟨w.heap.size, 0, none⟩) s.size (grownCap w s.size 0 e)) := by
  have hge := grownCap_ge w s.size 0 e
  have hsz : s.size = s.data.toList.length := by rw [Array.length_toList]; rfl
  have hones : Ones (Lib.bytesCells w e s).toList := by
    intro v hv
    simp only [Lib.bytesCells, Array.toList_append, Array.toList_map, Array.toList_replicate, List.mem_append, List.mem_map, List.mem_replicate] at hv
    rcases hv with ⟨b, _, rfl⟩ | ⟨_, rfl⟩ <;> rfl
  obtain ⟨κ', h1, h2, h3⟩ := h.drew.allocFrozen (c := Lib.bytesCells w e s) (e := e) (m := s.size) (k := (Lib.bytesCells w e s).size) (by rw [hsz]; simp [Lib.bytesCells]) hones
  refine ⟨κ', h1, h2, ?_⟩
  have hrep : ∀ l : List UInt8, RepL κ' ((l.map byteV).flatMap AVal.cells) (l.map fun b => Value.int .u8 b.toNat) := by
    intro l
    induction l with
    | nil => exact .nil
    | cons x l ih => exact .cons (.v rfl) ih
  refine .slice (by rw [hsz]; simp) (by rw [hsz] at hge ⊢; simpa using hge) (fun x hx => ?_) (hrep _) (fun i v q => ?_) trivial
  · obtain ⟨b, _, rfl⟩ := List.mem_map.1 hx; rfl
  · have hi := (List.getElem?_eq_some_iff.1 q).1
    simp at hi
    rw [Nat.zero_add]
    refine h3 i v (by rw [hsz]; simpa using hi) ?_
    rw [← Array.getElem?_toList]
    simp only [Lib.bytesCells, Array.toList_append, Array.toList_map]
    rw [List.getElem?_append_left (by simpa using hi)]; exact q

end Go.Am

