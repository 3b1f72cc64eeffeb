/-
  Memory: loads, stores, new blocks, views, appends: what the run gives.
-/
import Derived.Test.YtiohpnkfcaahbaaFe
namespace Go.Am
set_option linter.unusedVariables false
set_option linter.unusedSimpArgs false
set_option linter.unusedSectionVars false
open Go.RowKit (Below)

theorem aggOf_spec {P : Program} {t : TypeId} {g : Option Nat} (h : aggOf P t = some g) :
    ∃ i d, P.info? t = some i ∧ P.underlying t = some d ∧ ((isSA d = true ∧ g = some i.size) ∨ (isSA d = false ∧ g = none)) := by
  unfold aggOf at h
  split at h
  · rename_i i d h1 h2
    cases h
    refine ⟨_, _, h1, h2, ?_⟩
    cases isSA d
    · exact .inr ⟨rfl, rfl⟩
    · exact .inl ⟨rfl, rfl⟩
  · cases h

theorem isAgg_run {P : Program} {t : TypeId} {d : TypeDesc} (h : P.underlying t = some d) (w : World) : (isAgg t).run P w = .ok (isSA d) w := by
  unfold isAgg
  simp only [Sem.run_bind, run_underlying h, Result.andThen_ok]
  cases d <;> rfl

theorem addr_add (b o j : Nat) : (⟨b, o, none⟩ : Addr).add j = ⟨b, o + j, none⟩ := by unfold Addr.add; split <;> simp_all

theorem loadCells_run {P : Program} {w : World} {b o : Nat} {vs : List Value} (h : ∀ j v, vs[j]? = some v → w.cell? ⟨b, o + j, none⟩ = some v) :
    (loadCells ⟨b, o, none⟩ vs.length).run P w = .ok vs.toArray w :=
  run_loadCells_list w ⟨b, o, none⟩ vs fun j v e => by rw [addr_add]; exact h j v e

theorem load_run {P : Program} {w : World} {κ : Ghost} {t : TypeId} {g : Option Nat} (ht : aggOf P t = some g) {b o off : Nat} {cs : List AVal} {vs : List Value} {K : AVal → Prop}
    (hr : RepL κ cs vs) (hc : ∀ j v, vs[j]? = some v → w.cell? ⟨b, o + j, none⟩ = some v) (h : cellsAt cs off g K) :
    ∃ v x, (Instr.loadAt t (.pointer (some ⟨b, o + off, none⟩))).run P w = .ok v w ∧ RepV κ x v ∧ K x := by
  obtain ⟨i, d, h1, h2, h3⟩ := aggOf_spec ht
  have hi : (typeInfo t).run P w = .ok i w := by simp [typeInfo, h1]
  rcases h3 with ⟨hd, rfl⟩ | ⟨hd, rfl⟩
  · obtain ⟨hl, hK⟩ := h
    have hlen := hr.length
    have hvs : ((vs.drop off).take i.size).length = i.size := by simp; omega
    refine ⟨.agg ((vs.drop off).take i.size).toArray, _, ?_, .agg ((hr.drop off).take i.size), hK⟩
    have hload : (loadCells ⟨b, o + off, none⟩ i.size).run P w = .ok ((vs.drop off).take i.size).toArray w := by
      have := loadCells_run (P := P) (w := w) (b := b) (o := o + off) (vs := (vs.drop off).take i.size) (fun j v e => by
        rw [List.getElem?_take] at e
        split at e
        · rw [List.getElem?_drop] at e
          rw [Nat.add_assoc]; exact hc _ v e
        · cases e)
      rwa [hvs] at this
    simp only [Instr.loadAt, Instr.sureAddr, Sem.run_bind, Sem.run_pure, Result.andThen_ok, loadVar, isAgg_run h2, hd, if_true, sizeOf, hi, hload]
  · obtain ⟨x, hx, hK⟩ := h
    obtain ⟨v, hv, hr⟩ := hr.get hx
    refine ⟨v, x, ?_, hr, hK⟩
    simp only [Instr.loadAt, Instr.sureAddr, Sem.run_bind, Sem.run_pure, Result.andThen_ok, loadVar, isAgg_run h2, hd, Bool.false_eq_true, if_false, run_load, hc off v hv]

/-- The cells of a named object, as the world has them. -/
theorem Inv.objCells {κ : Ghost} {σ : AHeap} {w : World} (h : Inv κ σ w) {id b : Nat} {cs : List AVal} (hs : σ id = some (.cells cs)) (hb : κ.obj id = some b) :
    ∃ c e vs us, w.heap[b]? = some (.cells c e (0, 0)) ∧ κ.size b = some c.size ∧ c.toList = vs ++ us ∧ RepL κ cs vs ∧ Ones vs ∧ Ones us ∧
      ∀ j v, vs[j]? = some v → w.cell? ⟨b, 0 + j, none⟩ = some v := by
  obtain ⟨b', c, e, vs, us, k1, k2, k3, k4, k5, k6, k7⟩ := h.cells id cs hs
  rw [hb] at k1; cases k1
  refine ⟨c, e, vs, us, k2, k3, k4, k5, k6, k7, fun j v e => ?_⟩
  rw [heap_cell k2, Nat.zero_add, ← Array.getElem?_toList, k4]
  rw [List.getElem?_append_left]; exact e
  exact (List.getElem?_eq_some_iff.1 e).1

theorem splice_length {α : Type} (cs : List α) (off : Nat) (xs : List α) (h : off + xs.length ≤ cs.length) : (splice cs off xs).length = cs.length := by
  simp [splice]; omega

theorem splice_cons {α : Type} (cs : List α) (off : Nat) (x : α) (xs : List α) (h : off < cs.length) : splice (cs.set off x) (off + 1) xs = splice cs off (x :: xs) := by
  simp only [splice]
  rw [List.take_add_one, List.take_set_of_le (Nat.le_refl _), List.drop_set_of_lt (by omega)]
  simp [h]
  congr 1; omega

/-- A store of cells into a block. -/
theorem storeCells_run {P : Program} {b : Nat} {e : TypeId} : ∀ (vs : List Value) (o i : Nat) (w : World) (c : Array Value), w.heap[b]? = some (.cells c e (0, 0)) → o + i + vs.length ≤ c.size → Ones vs →
    ∃ c', (storeCells ⟨b, o, none⟩ vs i).run P w = .ok () (setBlock w b c' e) ∧ c'.toList = splice c.toList (o + i) vs
  | [], o, i, w, c, hw, _, _ => ⟨c, by rw [setBlock_get hw]; rfl, by simp [splice]⟩
  | v :: vs, o, i, w, c, hw, hl, ho => by
    simp only [List.length_cons] at hl
    have hv : v.oneCell' = true := by have := ho v (List.mem_cons_self ..); cases v <;> first | rfl | exact this
    have hcell : w.cell? ⟨b, o + i, none⟩ = some c[o + i] := by rw [heap_cell hw]; simp
    have hfr : w.frozen? ⟨b, o + i, none⟩ = false := by simp [World.frozen?, hw]
    have hs : (store ((⟨b, o, none⟩ : Addr).add i) v).run P w = .ok () (setBlock w b (c.setIfInBounds (o + i) v) e) := by
      rw [addr_add, run_store P w _ _ _ hv, hcell]
      simp only [hfr, Bool.false_eq_true, if_false]
      rw [setCell_eq hw]
    obtain ⟨c', h1, h2⟩ := storeCells_run (P := P) (b := b) (e := e) vs o (i + 1) (setBlock w b (c.setIfInBounds (o + i) v) e) (c.setIfInBounds (o + i) v) (setBlock_same (heap_lt hw)) (by simp; omega)
      (fun u hu => ho u (List.mem_cons_of_mem _ hu))
    refine ⟨c', ?_, ?_⟩
    · simp only [storeCells, Sem.run_bind, hs, Result.andThen_ok, h1, setBlock_setBlock]
    · rw [h2]
      simp only [Array.toList_setIfInBounds]
      rw [← Nat.add_assoc, splice_cons _ _ _ _ (by simp; omega)]

theorem storeVar_run {P : Program} {w : World} {t : TypeId} {i : TypeInfo} (hi : P.info? t = some i) {b o : Nat} {c : Array Value} {e : TypeId} {v : Value} (hw : w.heap[b]? = some (.cells c e (0, 0)))
    (hv : v.cells.size = i.size) (hl : o + v.cells.size ≤ c.size) (ho : Ones v.cells.toList) :
    ∃ c', (Instr.storeAt t (.pointer (some ⟨b, o, none⟩)) v).run P w = .ok () (setBlock w b c' e) ∧ c'.toList = splice c.toList o v.cells.toList := by
  obtain ⟨c', h1, h2⟩ := storeCells_run (P := P) v.cells.toList o 0 w c hw (by simpa using hl) ho
  refine ⟨c', ?_, by simpa using h2⟩
  have hs : (sizeOf t).run P w = .ok i.size w := by simp [sizeOf, typeInfo, hi]
  simp only [Instr.storeAt, Instr.sureAddr, Sem.run_bind, Sem.run_pure, Result.andThen_ok, storeVar, hs, ne_eq, hv, not_true_eq_false, if_false]
  simp only [Bool.false_eq_true, if_false, h1]

theorem RepL.splice {κ : Ghost} {cs xs : List AVal} {vs us : List Value} (h : RepL κ cs vs) (k : RepL κ xs us) (off : Nat) : RepL κ (Am.splice cs off xs) (Am.splice vs off us) := by
  simp only [Am.splice]
  rw [k.length]
  exact ((h.take off).append k).append (h.drop _)

theorem Ones.splice {cs xs : List Value} (h : Ones cs) (k : Ones xs) (off : Nat) : Ones (Am.splice cs off xs) := ((h.take off).append k).append (h.drop _)

/-- A store into a named object. -/
theorem Inv.storeObj {P : Program} {κ : Ghost} {σ : AHeap} {w : World} (h : Inv κ σ w) {t : TypeId} {i : TypeInfo} (hi : P.info? t = some i) {id off b : Nat} {cs xs : List AVal} {v : Value}
    (hs : σ id = some (.cells cs)) (hb : κ.obj id = some b) (hx : RepL κ xs v.cells.toList) (hn : xs.length = i.size) (hl : off + xs.length ≤ cs.length) (hc : xs.all AVal.isCell = true) :
    ∃ w', (Instr.storeAt t (.pointer (some ⟨b, off, none⟩)) v).run P w = .ok () w' ∧ Inv κ (upd σ id (.cells (Am.splice cs off xs))) w' := by
  obtain ⟨c, e, vs, us, k1, k2, k3, k4, k5, k6, _⟩ := h.objCells hs hb
  have hxl : xs.length = v.cells.size := by have := hx.length; simpa using this
  have hcl : cs.length = vs.length := k4.length
  have hsz : c.size = vs.length + us.length := by have := congrArg List.length k3; simpa using this
  obtain ⟨c', h1, h2⟩ := storeVar_run (P := P) (t := t) (o := off) (v := v) hi k1 (by omega) (by omega) (ones_of hx hc)
  refine ⟨_, h1, h.setObj (vs := Am.splice vs off v.cells.toList) (us := us) hs hb k1 ?_ ?_ (k4.splice hx off) (k5.splice (ones_of hx hc) off) k6⟩
  · have := congrArg List.length h2
    rw [splice_length _ _ _ (by simp; omega)] at this
    simpa using this
  · rw [h2, k3]
    simp only [Am.splice]
    have hvl : v.cells.toList.length = xs.length := by simp; omega
    rw [List.take_append_of_le_length (by omega), List.drop_append_of_le_length (by omega)]
    simp
end Go.Am

