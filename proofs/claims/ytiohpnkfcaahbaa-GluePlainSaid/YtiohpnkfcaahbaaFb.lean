/-
  What becomes of the invariant: a new block, a store into a named object, an append in place.
-/
import Derived.Test.YtiohpnkfcaahbaaFa
namespace Go.Am
set_option linter.unusedVariables false
set_option linter.unusedSimpArgs false
set_option linter.unusedSectionVars false
open Go.RowKit (Below)

theorem heap_cell {w : World} {b : Nat} {c : Array Value} {e : TypeId} {f : Nat × Nat} (h : w.heap[b]? = some (.cells c e f)) (o : Nat) : w.cell? ⟨b, o, none⟩ = c[o]? := by
  simp [World.cell?, h]

theorem heap_lt {w : World} {b : Nat} {o : Obj} (h : w.heap[b]? = some o) : b < w.heap.size := by
  rcases Nat.lt_or_ge b w.heap.size with h' | h'
  · exact h'
  · simp [Array.getElem?_eq_none h'] at h

theorem alloc_old {w : World} {o : Obj} {b : Nat} (h : b < w.heap.size) : (w.alloc o).heap[b]? = w.heap[b]? := Below.heap_alloc w o b h
theorem alloc_new {w : World} {o : Obj} : (w.alloc o).heap[w.heap.size]? = some o := by show (w.heap.push o)[w.heap.size]? = some o; simp
theorem alloc_cell_old {w : World} {o : Obj} {b i : Nat} (h : b < w.heap.size) : (w.alloc o).cell? ⟨b, i, none⟩ = w.cell? ⟨b, i, none⟩ := by
  simp only [World.cell?]; rw [alloc_old h]

def setBlock (w : World) (b : Nat) (c : Array Value) (e : TypeId) : World := { w with heap := w.heap.setIfInBounds b (.cells c e (0, 0)) }

theorem setBlock_same {w : World} {b : Nat} {c : Array Value} {e : TypeId} (h : b < w.heap.size) : (setBlock w b c e).heap[b]? = some (.cells c e (0, 0)) := by
  simp [setBlock, h]
theorem setBlock_ne {w : World} {b k : Nat} {c : Array Value} {e : TypeId} (h : k ≠ b) : (setBlock w b c e).heap[k]? = w.heap[k]? := by
  simp only [setBlock]; rw [Array.getElem?_setIfInBounds_ne (fun e => h e.symm)]
theorem setBlock_size {w : World} {b : Nat} {c : Array Value} {e : TypeId} : (setBlock w b c e).heap.size = w.heap.size := by simp [setBlock]
theorem setBlock_cell_ne {w : World} {b k o : Nat} {c : Array Value} {e : TypeId} (h : k ≠ b) : (setBlock w b c e).cell? ⟨k, o, none⟩ = w.cell? ⟨k, o, none⟩ := by
  simp only [World.cell?]; rw [setBlock_ne h]
theorem setBlock_setBlock {w : World} {b : Nat} {c c' : Array Value} {e e' : TypeId} : setBlock (setBlock w b c e) b c' e' = setBlock w b c' e' := by
  simp only [setBlock]; congr 1; simp [Array.setIfInBounds_setIfInBounds]
theorem setBlock_below {B : Nat} {w0 w : World} {b : Nat} {c : Array Value} {e : TypeId} (h : Below B w0 w) (hb : B ≤ b) : Below B w0 (setBlock w b c e) :=
  h.trans ⟨rfl, rfl, rfl, by rw [setBlock_size]; exact Nat.le_refl _, fun k hk => setBlock_ne (by omega)⟩
theorem setBlock_get {w : World} {b : Nat} {c : Array Value} {e : TypeId} (h : w.heap[b]? = some (.cells c e (0, 0))) : setBlock w b c e = w := by
  simp only [setBlock]
  have : w.heap.setIfInBounds b (.cells c e (0, 0)) = w.heap := by
    apply Array.ext_getElem?; intro i
    by_cases hi : i = b
    · subst hi; rw [h]; simp [heap_lt h]
    · rw [Array.getElem?_setIfInBounds_ne (fun e => hi e.symm)]
  rw [this]

theorem setCell_eq {w : World} {b o : Nat} {c : Array Value} {e : TypeId} {v : Value} (h : w.heap[b]? = some (.cells c e (0, 0))) :
    w.setCell ⟨b, o, none⟩ v = setBlock w b (c.setIfInBounds o v) e := by
  simp only [World.setCell, setBlock]
  congr 1
  apply Array.ext_getElem?; intro i
  by_cases hi : i = b
  · subst hi
    have := heap_lt h
    rw [Array.getElem?_modify, if_pos rfl, h]; simp [this]
  · rw [Array.getElem?_setIfInBounds_ne (fun e => hi e.symm), Array.getElem?_modify, if_neg (fun e => hi e.symm)]

theorem ones_of {κ : Ghost} {cs : List AVal} {vs : List Value} (h : RepL κ cs vs) (hc : cs.all AVal.isCell = true) : Ones vs := by
  induction cs generalizing vs with
  | nil => cases h; intro v hv; cases hv
  | cons x xs ih =>
    cases h with
    | cons hv t =>
      simp only [List.all_cons, Bool.and_eq_true] at hc
      intro v hm
      cases hm with
      | head => exact hv.oneCell hc.1
      | tail _ hm => exact ih t hc.2 v hm

theorem Ones.append {a b : List Value} (h : Ones a) (k : Ones b) : Ones (a ++ b) := fun v hv => (List.mem_append.1 hv).elim (h v) (k v)
theorem Ones.left {a b : List Value} (h : Ones (a ++ b)) : Ones a := fun v hv => h v (List.mem_append_left _ hv)
theorem Ones.right {a b : List Value} (h : Ones (a ++ b)) : Ones b := fun v hv => h v (List.mem_append_right _ hv)
theorem Ones.take {a : List Value} (h : Ones a) (n : Nat) : Ones (a.take n) := fun v hv => h v (List.mem_of_mem_take hv)
theorem Ones.drop {a : List Value} (h : Ones a) (n : Nat) : Ones (a.drop n) := fun v hv => h v (List.mem_of_mem_drop hv)
theorem Ones.replicate {v : Value} (h : v.oneCell = true) (n : Nat) : Ones (List.replicate n v) := fun u hu => by rw [List.eq_of_mem_replicate hu]; exact h

/-- A new row: its first m cells will not change any more; a name t for the right to append behind them. -/
theorem Inv.allocRow {κ : Ghost} {σ : AHeap} {w : World} (h : Inv κ σ w) {c : Array Value} {e : TypeId} {m : Nat} (hm : m ≤ c.size) (hc : Ones c.toList) {t : Nat}
    (ht : σ t = none ∧ κ.obj t = none ∧ κ.tok t = none) :
    ∃ κ', κ.le κ' ∧ Inv κ' (upd σ t .tip) (w.alloc (.cells c e)) ∧ (∀ i v, i < m → c[i]? = some v → κ'.cell w.heap.size i = some v) ∧
      κ'.size w.heap.size = some c.size ∧ κ'.tok t = some (w.heap.size, m) := by
  let κ' : Ghost := { κ with
    cell := fun b o => if b = w.heap.size then (if o < m then c[o]? else none) else κ.cell b o
    size := fun b => if b = w.heap.size then some c.size else κ.size b
    tok := fun i => if i = t then some (w.heap.size, m) else κ.tok i }
  have hcell : ∀ b o v, κ.cell b o = some v → b < w.heap.size := fun b o v e => World.block_lt_of_cell? w ⟨b, o, none⟩ (h.cell b o v e).1
  have hsize : ∀ b n, κ.size b = some n → b < w.heap.size := fun b n e => let ⟨c, e, f, k, _⟩ := h.size b n e; heap_lt k
  have hle : κ.le κ' := by
    refine ⟨rfl, rfl, fun b o v e => ?_, fun b n e => ?_, fun _ _ e => e, fun i x e => ?_⟩
    · have := hcell b o v e
      simp only [κ']; rw [if_neg (by omega)]; exact e
    · have := hsize b n e
      simp only [κ']; rw [if_neg (by omega)]; exact e
    · simp only [κ']; rw [if_neg]; exact e
      intro k; subst k; rw [ht.2.2] at e; cases e
  refine ⟨κ', hle, ?_, ?_, by simp [κ'], by simp [κ']⟩
  · refine ⟨h.below.alloc h.base _, by simp; exact Nat.le_succ_of_le h.base, ?_, ?_, ?_, fun i j b hi hj ki kj => h.inj i j b (fun e => ?_) (fun e => ?_) ki kj, ?_, ?_, ?_, ?_⟩
    rotate_left 3
    · by_cases k : i = t
      · subst k; rw [ht.2.1] at ki; cases ki
      · rw [upd_ne _ _ k] at hi; exact hi e
    · by_cases k : j = t
      · subst k; rw [ht.2.1] at kj; cases kj
      · rw [upd_ne _ _ k] at hj; exact hj e
    rotate_left 4
    · intro b o v e
      simp only [κ'] at e
      split at e
      · rename_i hb; subst hb
        split at e
        · refine ⟨by rw [heap_cell alloc_new]; exact e, hc v ?_⟩
          rw [Array.mem_toList_iff]; exact Array.mem_of_getElem? e
        · cases e
      · have := hcell b o v e
        rw [alloc_cell_old this]; exact h.cell b o v e
    · intro b n e
      simp only [κ'] at e
      split at e
      · rename_i hb; subst hb; cases e; exact ⟨c, _, _, alloc_new, rfl⟩
      · have := hsize b n e
        rw [alloc_old this]; exact h.size b n e
    · intro id b e
      obtain ⟨h1, h2, h3⟩ := h.obj id b e
      refine ⟨h1, by simp; omega, fun hl o => ?_⟩
      rw [upd_ne _ _ (fun k => by subst k; rw [ht.2.1] at e; cases e)] at hl
      simp only [κ']; rw [if_neg (by omega)]; exact h3 hl o
    · intro id cs e
      have hid : id ≠ t := fun k => by subst k; simp [upd] at e
      rw [upd_ne _ _ hid] at e
      obtain ⟨b, c', e', vs, us, k1, k2, k3, k4, k5, k6⟩ := h.cells id cs e
      exact ⟨b, c', e', vs, us, k1, by rw [alloc_old (heap_lt k2)]; exact k2, hle.size _ _ k3, k4, k5.mono hle, k6⟩
    · intro id es e
      have hid : id ≠ t := fun k => by subst k; simp [upd] at e
      rw [upd_ne _ _ hid] at e
      obtain ⟨b, c', clk, k1, k2, k3, k4⟩ := h.map id es e
      exact ⟨b, c', clk, k1, by rw [alloc_old (heap_lt k2)]; exact k2, k3, k4.mono hle⟩
    · intro t' b p e k
      by_cases htt : t' = t
      · subst htt
        simp only [κ', if_true] at k
        cases k
        refine ⟨h.base, ⟨c, _, alloc_new, hc⟩, fun o ho => ?_, fun id k => ?_, fun t'' p' e' k' => ?_⟩
        · simp only [κ', if_true]; rw [if_neg (by omega)]
        · have := (h.obj id _ k).2.1; omega
        · by_cases h2 : t'' = t'
          · exact h2
          · rw [upd_ne _ _ h2] at e'
            simp only [κ'] at k'; rw [if_neg h2] at k'
            obtain ⟨_, ⟨c', e'', k3, _⟩, _⟩ := h.tip t'' _ _ e' k'
            have := heap_lt k3; omega
      · rw [upd_ne _ _ htt] at e
        simp only [κ'] at k; rw [if_neg htt] at k
        obtain ⟨h1, ⟨c', e', h2, h2'⟩, h3, h4, h5⟩ := h.tip t' b p e k
        have hb := heap_lt h2
        refine ⟨h1, ⟨c', e', by rw [alloc_old hb]; exact h2, h2'⟩, fun o ho => ?_, h4, fun t'' p' e' k' => ?_⟩
        · simp only [κ']; rw [if_neg (by omega)]; exact h3 o ho
        · by_cases h6 : t'' = t
          · subst h6; simp only [κ', if_true] at k'; injection k' with k'; injection k' with k1 k2; omega
          · rw [upd_ne _ _ h6] at e'
            simp only [κ'] at k'; rw [if_neg h6] at k'
            exact h5 t'' p' e' k'
    · obtain ⟨N, hN⟩ := h.fin
      refine ⟨max N (t + 1), fun n hn => ?_⟩
      have hnt : n ≠ t := by omega
      obtain ⟨h1, h2, h3⟩ := hN n (by omega)
      refine ⟨by rw [upd_ne _ _ hnt]; exact h1, h2, ?_⟩
      simp only [κ']; rw [if_neg hnt]; exact h3
  · intro i v hi hv
    simp only [κ', if_true]; rw [if_pos hi]; exact hv

/-- A new object. -/
theorem Inv.allocObj {κ : Ghost} {σ : AHeap} {w : World} (h : Inv κ σ w) {c : Array Value} {e : TypeId} {cs : List AVal} {vs us : List Value} (hcv : c.toList = vs ++ us) (hr : RepL κ cs vs)
    (ho : Ones vs) (hu : Ones us) {id : Nat} (ht : σ id = none ∧ κ.obj id = none ∧ κ.tok id = none) :
    ∃ κ', κ.le κ' ∧ Inv κ' (upd σ id (.cells cs)) (w.alloc (.cells c e)) ∧ κ'.obj id = some w.heap.size ∧ κ'.size w.heap.size = some c.size := by
  let κ' : Ghost := { κ with
    size := fun b => if b = w.heap.size then some c.size else κ.size b
    obj := fun i => if i = id then some w.heap.size else κ.obj i }
  have hcell : ∀ b o v, κ.cell b o = some v → b < w.heap.size := fun b o v e => World.block_lt_of_cell? w ⟨b, o, none⟩ (h.cell b o v e).1
  have hsize : ∀ b n, κ.size b = some n → b < w.heap.size := fun b n e => let ⟨c, e, f, k, _⟩ := h.size b n e; heap_lt k
  have hle : κ.le κ' := by
    refine ⟨rfl, rfl, fun b o v e => e, fun b n e => ?_, fun i b e => ?_, fun _ _ e => e⟩
    · have := hsize b n e
      simp only [κ']; rw [if_neg (by omega)]; exact e
    · simp only [κ']; rw [if_neg]; exact e
      intro k; subst k; rw [ht.2.1] at e; cases e
  refine ⟨κ', hle, ?_, by simp [κ'], by simp [κ']⟩
  refine ⟨h.below.alloc h.base _, by simp; exact Nat.le_succ_of_le h.base, ?_, ?_, ?_, ?_, ?_, ?_, ?_, ?_⟩
  · intro b o v e
    have := hcell b o v e
    rw [alloc_cell_old this]; exact h.cell b o v e
  · intro b n e
    simp only [κ'] at e
    split at e
    · rename_i hb; subst hb; cases e; exact ⟨c, _, _, alloc_new, rfl⟩
    · have := hsize b n e
      rw [alloc_old this]; exact h.size b n e
  · intro i b e
    simp only [κ'] at e
    split at e
    · cases e
      refine ⟨h.base, by simp, fun _ o => ?_⟩
      cases hx : κ.cell w.heap.size o with
      | none => rfl
      | some v => have := hcell _ _ _ hx; omega
    · rename_i hne
      obtain ⟨h1, h2, h3⟩ := h.obj i b e
      refine ⟨h1, by simp; omega, fun hl => h3 ?_⟩
      rw [upd_ne _ _ hne] at hl; exact hl
  · intro i j b li lj hi hj
    simp only [κ'] at hi hj
    split at hi
    · cases hi
      split at hj
      · rename_i a b; rw [a, b]
      · have := (h.obj j _ hj).2.1; omega
    · rename_i ni
      split at hj
      · cases hj; have := (h.obj i _ hi).2.1; omega
      · rename_i nj
        rw [upd_ne _ _ ni] at li; rw [upd_ne _ _ nj] at lj
        exact h.inj i j b li lj hi hj
  · intro i cs' e
    by_cases hid : i = id
    · subst hid
      rw [upd_same] at e; injection e with e; injection e with e; subst e
      exact ⟨_, c, _, vs, us, by simp [κ'], alloc_new, by simp [κ'], hcv, hr.mono hle, ho, hu⟩
    · rw [upd_ne _ _ hid] at e
      obtain ⟨b, c', e', vs, us, k1, k2, k3, k4, k5, k6⟩ := h.cells i cs' e
      exact ⟨b, c', e', vs, us, hle.obj _ _ k1, by rw [alloc_old (heap_lt k2)]; exact k2, hle.size _ _ k3, k4, k5.mono hle, k6⟩
  · intro i es e
    by_cases hid : i = id
    · subst hid; rw [upd_same] at e; cases e
    · rw [upd_ne _ _ hid] at e
      obtain ⟨b, c', clk, k1, k2, k3, k4⟩ := h.map i es e
      exact ⟨b, c', clk, hle.obj _ _ k1, by rw [alloc_old (heap_lt k2)]; exact k2, k3, k4.mono hle⟩
  · intro t' b p e k
    have htt : t' ≠ id := fun k' => by subst k'; rw [upd_same] at e; cases e
    rw [upd_ne _ _ htt] at e
    obtain ⟨h1, ⟨c', e', h2, h2'⟩, h3, h4, h5⟩ := h.tip t' b p e k
    have hb := heap_lt h2
    refine ⟨h1, ⟨c', e', by rw [alloc_old hb]; exact h2, h2'⟩, h3, fun i k' => ?_, fun t'' p' e' k' => ?_⟩
    · simp only [κ'] at k'
      split at k'
      · cases k'; omega
      · exact h4 i k'
    · have h6 : t'' ≠ id := fun k' => by subst k'; rw [upd_same] at e'; cases e'
      rw [upd_ne _ _ h6] at e'
      exact h5 t'' p' e' k'
  · obtain ⟨N, hN⟩ := h.fin
    refine ⟨max N (id + 1), fun n hn => ?_⟩
    have hnt : n ≠ id := by omega
    obtain ⟨h1, h2, h3⟩ := hN n (by omega)
    refine ⟨by rw [upd_ne _ _ hnt]; exact h1, ?_, h3⟩
    simp only [κ']; rw [if_neg hnt]; exact h2

/-- A named object's cells are turned. -/
theorem Inv.setObj {κ : Ghost} {σ : AHeap} {w : World} (h : Inv κ σ w) {id b : Nat} {c c' : Array Value} {e : TypeId} {cs cs' : List AVal} {vs us : List Value}
    (hs : σ id = some (.cells cs)) (hb : κ.obj id = some b) (hw : w.heap[b]? = some (.cells c e (0, 0))) (hsz : c'.size = c.size)
    (hcv : c'.toList = vs ++ us) (hr : RepL κ cs' vs) (ho : Ones vs) (hu : Ones us) :
    Inv κ (upd σ id (.cells cs')) (setBlock w b c' e) := by
  have hbl := heap_lt hw
  have hnc := (h.obj id b hb)
  have hlive : ∀ i, upd σ id (.cells cs') i ≠ none → σ i ≠ none := fun i k e => by
    by_cases hi : i = id
    · subst hi; rw [hs] at e; cases e
    · rw [upd_ne _ _ hi] at k; exact k e
  have hsl : σ id ≠ none := by rw [hs]; simp
  refine ⟨setBlock_below h.below hnc.1, by rw [setBlock_size]; exact h.base, ?_, ?_, ?_, fun i j b hi hj => h.inj i j b (hlive i hi) (hlive j hj), ?_, ?_, ?_, ?_⟩
  · intro b' o v k
    have : b' ≠ b := fun e => by subst e; rw [hnc.2.2 (by rw [hs]; nofun) o] at k; cases k
    rw [setBlock_cell_ne this]; exact h.cell b' o v k
  · intro b' n k
    by_cases hbb : b' = b
    · subst hbb
      obtain ⟨c1, e1, f1, k1, k2⟩ := h.size b' n k
      rw [hw] at k1; cases k1
      exact ⟨c', e, _, setBlock_same hbl, by rw [hsz]; exact k2⟩
    · rw [setBlock_ne hbb]; exact h.size b' n k
  · intro i b' k
    rw [setBlock_size]; obtain ⟨h1, h2, h3⟩ := h.obj i b' k; exact ⟨h1, h2, fun hl => h3 (hlive i hl)⟩
  · intro i cs1 k
    by_cases hid : i = id
    · subst hid
      rw [upd_same] at k; injection k with k; injection k with k; subst k
      obtain ⟨b1, c1, e1, vs1, us1, k1, k2, k3, _⟩ := h.cells i cs hs
      rw [hb] at k1; cases k1
      rw [hw] at k2; cases k2
      exact ⟨b, c', e, vs, us, hb, setBlock_same hbl, by rw [hsz]; exact k3, hcv, hr, ho, hu⟩
    · rw [upd_ne _ _ hid] at k
      obtain ⟨b1, c1, e1, vs1, us1, k1, k2, k3⟩ := h.cells i cs1 k
      have : b1 ≠ b := fun e => hid (h.inj i id b (by rw [k]; simp) hsl (e ▸ k1) hb)
      exact ⟨b1, c1, e1, vs1, us1, k1, by rw [setBlock_ne this]; exact k2, k3⟩
  · intro i es k
    by_cases hid : i = id
    · subst hid; rw [upd_same] at k; cases k
    · rw [upd_ne _ _ hid] at k
      obtain ⟨b1, c1, clk, k1, k2, k3⟩ := h.map i es k
      have : b1 ≠ b := fun e => hid (h.inj i id b (by rw [k]; simp) hsl (e ▸ k1) hb)
      exact ⟨b1, c1, clk, k1, by rw [setBlock_ne this]; exact k2, k3⟩
  · intro t' b1 p k1 k2
    have htt : t' ≠ id := fun e => by subst e; rw [upd_same] at k1; cases k1
    rw [upd_ne _ _ htt] at k1
    obtain ⟨h1, ⟨c', e', h2, h2'⟩, h3, h4, h5⟩ := h.tip t' b1 p k1 k2
    have : b1 ≠ b := fun e => h4 id (e ▸ hb)
    refine ⟨h1, ⟨c', e', by rw [setBlock_ne this]; exact h2, h2'⟩, h3, h4, fun t'' p' e' k' => ?_⟩
    have h6 : t'' ≠ id := fun k' => by subst k'; rw [upd_same] at e'; cases e'
    rw [upd_ne _ _ h6] at e'
    exact h5 t'' p' e' k'
  · obtain ⟨N, hN⟩ := h.fin
    refine ⟨N, fun n hn => ?_⟩
    obtain ⟨h1, h2, h3⟩ := hN n hn
    have hnt : n ≠ id := fun e => by subst e; rw [hs] at h1; cases h1
    exact ⟨by rw [upd_ne _ _ hnt]; exact h1, h2, h3⟩

/-- An append in place: the right t is spent, the cells behind its place stand for ever, a new right t'. -/
theorem Inv.growTip {κ : Ghost} {σ : AHeap} {w : World} (h : Inv κ σ w) {t t' b p m : Nat} {c c' : Array Value} {e : TypeId}
    (hs : σ t = some .tip) (hb : κ.tok t = some (b, p)) (hw : w.heap[b]? = some (.cells c e (0, 0))) (hsz : c'.size = c.size)
    (hold : ∀ i, i < p → c'[i]? = c[i]?) (ho : Ones c'.toList) (ht' : σ t' = none ∧ κ.obj t' = none ∧ κ.tok t' = none) :
    ∃ κ', κ.le κ' ∧ Inv κ' (upd (del σ t) t' .tip) (setBlock w b c' e) ∧ (∀ i v, i < m → c'[p + i]? = some v → κ'.cell b (p + i) = some v) ∧ κ'.tok t' = some (b, p + m) := by
  obtain ⟨hbase, ⟨c0, e0, hw0, _⟩, hfree, hno, huniq⟩ := h.tip t b p hs hb
  have hbl := heap_lt hw
  let κ' : Ghost := { κ with
    cell := fun x o => if x = b ∧ p ≤ o then (if o < p + m then c'[o]? else none) else κ.cell x o
    tok := fun i => if i = t' then some (b, p + m) else κ.tok i }
  have hle : κ.le κ' := by
    refine ⟨rfl, rfl, fun x o v k => ?_, fun _ _ k => k, fun _ _ k => k, fun i x k => ?_⟩
    · simp only [κ']; rw [if_neg]; exact k
      rintro ⟨rfl, hp⟩; rw [hfree o hp] at k; cases k
    · simp only [κ']; rw [if_neg]; exact k
      intro e; subst e; rw [ht'.2.2] at k; cases k
  have htt : t ≠ t' := fun e => by subst e; rw [ht'.1] at hs; cases hs
  have hsub : ∀ i o, i ≠ t' → upd (del σ t) t' .tip i = some o → i ≠ t ∧ σ i = some o := fun i o hi k => by
    rw [upd_ne _ _ hi] at k
    by_cases hit : i = t
    · subst hit; rw [del_same] at k; cases k
    · rw [del_ne _ hit] at k; exact ⟨hit, k⟩
  refine ⟨κ', hle, ?_, ?_, by simp [κ']⟩
  · have hlive : ∀ i b, κ.obj i = some b → upd (del σ t) t' .tip i ≠ none → σ i ≠ none := fun i b k1 k e => by
      have hi : i ≠ t' := fun e => by subst e; rw [ht'.2.1] at k1; cases k1
      rw [upd_ne _ _ hi] at k
      simp only [del] at k; split at k
      · exact k rfl
      · exact k e
    refine ⟨setBlock_below h.below hbase, by rw [setBlock_size]; exact h.base, ?_, ?_, ?_, fun i j b hi hj ki kj => h.inj i j b (hlive i b ki hi) (hlive j b kj hj) ki kj, ?_, ?_, ?_, ?_⟩
    · intro x o v k
      simp only [κ'] at k
      split at k
      · rename_i hx; obtain ⟨rfl, hp⟩ := hx
        split at k
        · refine ⟨by rw [heap_cell (setBlock_same hbl)]; exact k, ho v ?_⟩
          rw [Array.mem_toList_iff]; exact Array.mem_of_getElem? k
        · cases k
      · by_cases hx : x = b
        · subst hx
          have hp : o < p := by
            rename_i hn; rcases Nat.lt_or_ge o p with hp | hp
            · exact hp
            · exact absurd ⟨rfl, hp⟩ hn
          have := h.cell x o v k
          rw [heap_cell hw] at this
          rw [heap_cell (setBlock_same hbl), hold o hp]; exact this
        · rw [setBlock_cell_ne hx]; exact h.cell x o v k
    · intro x n k
      by_cases hx : x = b
      · subst hx
        obtain ⟨c1, e1, f1, k1, k2⟩ := h.size x n k
        rw [hw] at k1; cases k1
        exact ⟨c', e, _, setBlock_same hbl, by rw [hsz]; exact k2⟩
      · rw [setBlock_ne hx]; exact h.size x n k
    · intro i x k
      obtain ⟨h1, h2, h3⟩ := h.obj i x k
      refine ⟨h1, by rw [setBlock_size]; exact h2, fun hl o => ?_⟩
      simp only [κ']; rw [if_neg]; exact h3 (hlive i x k hl) o
      rintro ⟨rfl, _⟩; exact hno i k
    · intro i cs k
      have hi : i ≠ t' := fun e => by subst e; rw [upd_same] at k; cases k
      obtain ⟨b1, c1, e1, vs1, us1, k1, k2, k3, k4, k5, k6⟩ := h.cells i cs (hsub i _ hi k).2
      have : b1 ≠ b := fun e => hno i (e ▸ k1)
      exact ⟨b1, c1, e1, vs1, us1, k1, by rw [setBlock_ne this]; exact k2, k3, k4, k5.mono hle, k6⟩
    · intro i es k
      have hi : i ≠ t' := fun e => by subst e; rw [upd_same] at k; cases k
      obtain ⟨b1, c1, clk, k1, k2, k3, k4⟩ := h.map i es (hsub i _ hi k).2
      have : b1 ≠ b := fun e => hno i (e ▸ k1)
      exact ⟨b1, c1, clk, k1, by rw [setBlock_ne this]; exact k2, k3, k4.mono hle⟩
    · intro i x q k1 k2
      by_cases hi : i = t'
      · subst hi
        simp only [κ', if_true] at k2; cases k2
        refine ⟨hbase, ⟨c', e, setBlock_same hbl, ho⟩, fun o hq => ?_, hno, fun t'' p' e' k' => ?_⟩
        · simp only [κ']; rw [if_pos ⟨trivial, by omega⟩, if_neg (by omega)]
        · by_cases h2 : t'' = i
          · exact h2
          · simp only [κ'] at k'; rw [if_neg h2] at k'
            obtain ⟨h3, h4⟩ := hsub t'' _ h2 e'
            exact absurd (huniq t'' p' h4 k') h3
      · obtain ⟨hit, k1'⟩ := hsub i _ hi k1
        simp only [κ'] at k2; rw [if_neg hi] at k2
        obtain ⟨h1, ⟨c1, e1, h2, h2'⟩, h3, h4, h5⟩ := h.tip i x q k1' k2
        have hx : x ≠ b := fun e => by subst e; exact hit (huniq i q k1' k2)
        refine ⟨h1, ⟨c1, e1, by rw [setBlock_ne hx]; exact h2, h2'⟩, fun o hq => ?_, h4, fun t'' p' e' k' => ?_⟩
        · simp only [κ']; rw [if_neg (fun k => hx k.1)]; exact h3 o hq
        · by_cases h6 : t'' = t'
          · subst h6; simp only [κ', if_true] at k'; injection k' with k'; injection k' with k1 k2; exact absurd k1.symm hx
          · simp only [κ'] at k'; rw [if_neg h6] at k'
            exact h5 t'' p' (hsub t'' _ h6 e').2 k'
    · obtain ⟨N, hN⟩ := h.fin
      refine ⟨max N (t' + 1), fun n hn => ?_⟩
      have hnt : n ≠ t' := by omega
      obtain ⟨h1, h2, h3⟩ := hN n (by omega)
      refine ⟨?_, h2, ?_⟩
      · rw [upd_ne _ _ hnt]; simp only [del]; split
        · rfl
        · exact h1
      · simp only [κ']; rw [if_neg hnt]; exact h3
  · intro i v hi hv
    simp only [κ']; rw [if_pos ⟨trivial, by omega⟩, if_pos (by omega)]; exact hv
/-- An object gets another name. -/
theorem Inv.rename {κ : Ghost} {σ : AHeap} {w : World} (h : Inv κ σ w) {r r' b : Nat} {cs : List AVal} (hs : σ r = some (.cells cs)) (hb : κ.obj r = some b)
    (ht : σ r' = none ∧ κ.obj r' = none ∧ κ.tok r' = none) :
    ∃ κ', κ.le κ' ∧ Inv κ' (upd (del σ r) r' (.cells cs)) w ∧ κ'.obj r' = some b := by
  let κ' : Ghost := { κ with obj := fun i => if i = r' then some b else κ.obj i }
  have hle : κ.le κ' := by
    refine ⟨rfl, rfl, fun _ _ _ e => e, fun _ _ e => e, fun i b e => ?_, fun _ _ e => e⟩
    simp only [κ']; rw [if_neg]; exact e
    intro k; subst k; rw [ht.2.1] at e; cases e
  have hrr : r ≠ r' := fun e => by subst e; rw [ht.1] at hs; cases hs
  have hsub : ∀ i o, i ≠ r' → upd (del σ r) r' (.cells cs) i = some o → i ≠ r ∧ σ i = some o := fun i o hi k => by
    rw [upd_ne _ _ hi] at k
    by_cases hit : i = r
    · subst hit; rw [del_same] at k; cases k
    · rw [del_ne _ hit] at k; exact ⟨hit, k⟩
  have hlive : ∀ i, i ≠ r' → upd (del σ r) r' (.cells cs) i ≠ none → i ≠ r ∧ σ i ≠ none := fun i hi k => by
    cases e : upd (del σ r) r' (.cells cs) i with
    | none => exact absurd e k
    | some o => have := hsub i o hi e; exact ⟨this.1, by rw [this.2]; simp⟩
  refine ⟨κ', hle, ?_, by simp [κ']⟩
  refine ⟨h.below, h.base, h.cell, h.size, ?_, ?_, ?_, ?_, ?_, ?_⟩
  · intro i x e
    simp only [κ'] at e
    split at e
    · cases e; obtain ⟨h1, h2, h3⟩ := h.obj r b hb; exact ⟨h1, h2, fun _ => h3 (by rw [hs]; nofun)⟩
    · rename_i hne; obtain ⟨h1, h2, h3⟩ := h.obj i x e; exact ⟨h1, h2, fun hl => h3 (hlive i hne hl).2⟩
  · intro i j x li lj ki kj
    simp only [κ'] at ki kj
    split at ki
    · cases ki
      split at kj
      · rename_i a b; rw [a, b]
      · rename_i nj
        have := hlive j nj lj
        exact absurd (h.inj j r _ this.2 (by rw [hs]; simp) kj hb) this.1
    · rename_i ni
      split at kj
      · cases kj
        have := hlive i ni li
        exact absurd (h.inj i r _ this.2 (by rw [hs]; simp) ki hb) this.1
      · rename_i nj
        exact h.inj i j x (hlive i ni li).2 (hlive j nj lj).2 ki kj
  · intro i cs' e
    by_cases hi : i = r'
    · subst hi
      rw [upd_same] at e; injection e with e; injection e with e; subst e
      obtain ⟨b1, c, e1, vs, us, k1, k2, k3, k4, k5, k6⟩ := h.cells r cs hs
      rw [hb] at k1; cases k1
      exact ⟨b, c, e1, vs, us, by simp [κ'], k2, k3, k4, k5.mono hle, k6⟩
    · obtain ⟨b1, c, e1, vs, us, k1, k2, k3, k4, k5, k6⟩ := h.cells i cs' (hsub i _ hi e).2
      exact ⟨b1, c, e1, vs, us, hle.obj _ _ k1, k2, k3, k4, k5.mono hle, k6⟩
  · intro i es e
    have hi : i ≠ r' := fun k => by subst k; rw [upd_same] at e; cases e
    obtain ⟨b1, c, clk, k1, k2, k3, k4⟩ := h.map i es (hsub i _ hi e).2
    exact ⟨b1, c, clk, hle.obj _ _ k1, k2, k3, k4.mono hle⟩
  · intro t x p e k
    have hi : t ≠ r' := fun k => by subst k; rw [upd_same] at e; cases e
    obtain ⟨h1, h2, h3, h4, h5⟩ := h.tip t x p (hsub t _ hi e).2 k
    refine ⟨h1, h2, h3, fun i k' => ?_, fun t'' p' e' k' => ?_⟩
    · simp only [κ'] at k'
      split at k'
      · cases k'; exact h4 r hb
      · exact h4 i k'
    · have hi' : t'' ≠ r' := fun k => by subst k; rw [upd_same] at e'; cases e'
      exact h5 t'' p' (hsub t'' _ hi' e').2 k'
  · obtain ⟨N, hN⟩ := h.fin
    refine ⟨max N (r' + 1), fun n hn => ?_⟩
    have hnt : n ≠ r' := by omega
    obtain ⟨h1, h2, h3⟩ := hN n (by omega)
    refine ⟨?_, ?_, h3⟩
    · rw [upd_ne _ _ hnt]; simp only [del]; split
      · rfl
      · exact h1
    · simp only [κ']; rw [if_neg hnt]; exact h2

/-- A named object's cells will not change any more. -/
theorem Inv.still {κ : Ghost} {σ : AHeap} {w : World} (h : Inv κ σ w) {r b : Nat} {cs : List AVal} (hs : σ r = some (.cells cs)) (hb : κ.obj r = some b) :
    ∃ κ' vs, κ.le κ' ∧ Inv κ' (del σ r) w ∧ RepL κ cs vs ∧ ∀ i v, vs[i]? = some v → κ'.cell b i = some v := by
  obtain ⟨b', c, e, vs, us, k1, k2, k3, k4, k5, k6, k7⟩ := h.cells r cs hs
  rw [hb] at k1; cases k1
  have hl : σ r ≠ none := by rw [hs]; nofun
  have hfree := (h.obj r b hb).2.2 hl
  let κ' : Ghost := { κ with cell := fun x o => if x = b then vs[o]? else κ.cell x o }
  have hle : κ.le κ' := by
    refine ⟨rfl, rfl, fun x o v k => ?_, fun _ _ k => k, fun _ _ k => k, fun _ _ k => k⟩
    simp only [κ']; rw [if_neg]; exact k
    intro hx; subst hx; rw [hfree o] at k; cases k
  have hsub : Sub σ (del σ r) := Sub.del r
  refine ⟨κ', vs, hle, ?_, k5, fun i v k => by simp only [κ', if_true]; exact k⟩
  refine ⟨h.below, h.base, fun x o v k => ?_, h.size, fun i x k => ?_, fun i j x hi hj => h.inj i j x (hsub.live hi) (hsub.live hj), fun i cs1 k => ?_, fun i es k => ?_, fun t x p k kt => ?_, ?_⟩
  · simp only [κ'] at k
    split at k
    · rename_i hx; subst hx
      refine ⟨?_, k6 v (List.mem_of_getElem? k)⟩
      rw [heap_cell k2, ← Array.getElem?_toList, k4, List.getElem?_append_left (List.getElem?_eq_some_iff.1 k).1]; exact k
    · exact h.cell x o v k
  · obtain ⟨h1, h2, h3⟩ := h.obj i x k
    refine ⟨h1, h2, fun hli o => ?_⟩
    have hli2 := hsub.live hli
    have hir : i ≠ r := fun q => by subst q; rw [del_same] at hli; exact hli rfl
    simp only [κ']; rw [if_neg]; exact h3 hli2 o
    intro hx; subst hx; exact hir (h.inj i r x hli2 hl k hb)
  · obtain ⟨b1, c1, e1, vs1, us1, q1, q2, q3, q4, q5, q6⟩ := h.cells i cs1 (hsub _ _ k)
    exact ⟨b1, c1, e1, vs1, us1, q1, q2, q3, q4, q5.mono hle, q6⟩
  · obtain ⟨b1, c1, clk, q1, q2, q3, q4⟩ := h.map i es (hsub _ _ k)
    exact ⟨b1, c1, clk, q1, q2, q3, q4.mono hle⟩
  · obtain ⟨h1, h2, h3, h4, h5⟩ := h.tip t x p (hsub _ _ k) kt
    refine ⟨h1, h2, fun o ho => ?_, h4, fun t' p' k' kt' => h5 t' p' (hsub _ _ k') kt'⟩
    simp only [κ']; rw [if_neg]; exact h3 o ho
    intro hx; subst hx; exact h4 r hb
  · obtain ⟨N, hN⟩ := h.fin
    refine ⟨N, fun n hn => ⟨?_, (hN n hn).2⟩⟩
    unfold del; split
    · rfl
    · exact (hN n hn).1
end Go.Am

