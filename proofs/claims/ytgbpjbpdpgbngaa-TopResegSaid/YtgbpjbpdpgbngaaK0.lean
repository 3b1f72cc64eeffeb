/-
  Texts of this claim, pack 0: Fa, Fb, Fc, Fd, Fe, Ff, Fg, Fh, Fi, Fj.
-/
import Derived.Calls
import Derived.ScopeJumps
import Derived.Orders
import Derived.Below
import Derived.Wp
import Derived.Laws.World
import Derived.MapKept
import Derived.Laws.Sem
import Derived.Laws.Entries
import Derived.Laws.Cells
import Derived.Laws.Append
import Derived.Laws.BytesString
import Derived.Laws.Small
import Derived.Laws.Slices
import Derived.Laws.IdiomCopy
import Derived.Laws.Pointers
import Derived.Laws.Strings
import Derived.Lib.ConvBytes
import Derived.Laws.AppendOwn
set_option linter.unusedSimpArgs false
set_option linter.unusedVariables false
/-
  What the framework's words say: abstract values, the heap of named objects, and how they stand for the model's values and world.
-/
namespace Go.Am
set_option linter.unusedSectionVars false
open Go.RowKit (Below)

inductive Tok where
  | none | full | own (t : Nat)
  | tip (t : Nat)

inductive AVal where
  | top
  | v (x : Value)
  | slice (s : Nat) (xs : List AVal) (t : Tok)
  | ms (r s off len : Nat)
  | ptr (id off : Nat)
  | eptr (cs : List AVal) (off : Nat)
  | agg (cs : List AVal)
  | tup (cs : List AVal)
  | func (g : FuncId) (first caps : List AVal)
  | map (id : Nat)

def AVal.cells : AVal → List AVal
  | .agg cs => cs
  | x => [x]

def AVal.isCell : AVal → Bool
  | .top | .agg _ | .tup _ => false
  | _ => true

inductive AObj where
  | cells (cs : List AVal)
  | tip
  | map (es : List (Int × AVal))

abbrev AHeap := Nat → Option AObj

def upd (σ : AHeap) (id : Nat) (o : AObj) : AHeap := fun i => if i = id then some o else σ i
def del (σ : AHeap) (id : Nat) : AHeap := fun i => if i = id then none else σ i

structure Ghost where
  base : Nat
  w0 : World
  cell : Nat → Nat → Option Value
  size : Nat → Option Nat
  obj : Nat → Option Nat
  tok : Nat → Option (Nat × Nat)

structure Ghost.le (κ κ' : Ghost) : Prop where
  base : κ'.base = κ.base
  w0 : κ'.w0 = κ.w0
  cell : ∀ b o v, κ.cell b o = some v → κ'.cell b o = some v
  size : ∀ b n, κ.size b = some n → κ'.size b = some n
  obj : ∀ i b, κ.obj i = some b → κ'.obj i = some b
  tok : ∀ t x, κ.tok t = some x → κ'.tok t = some x

theorem Ghost.le.refl (κ : Ghost) : κ.le κ := ⟨rfl, rfl, fun _ _ _ h => h, fun _ _ h => h, fun _ _ h => h, fun _ _ h => h⟩
theorem Ghost.le.trans {a b c : Ghost} (h : a.le b) (k : b.le c) : a.le c :=
  ⟨k.base.trans h.base, k.w0.trans h.w0, fun x o v e => k.cell _ _ _ (h.cell _ _ _ e), fun x n e => k.size _ _ (h.size _ _ e), fun i x e => k.obj _ _ (h.obj _ _ e), fun t x e => k.tok _ _ (h.tok _ _ e)⟩

def TokOk (κ : Ghost) (t : Tok) (b off len cap s : Nat) : Prop :=
  match t with
  | .none => True
  | .full => cap = len
  | .own t => κ.tok t = some (b, off + len * s)
  | .tip t => cap = len ∨ (κ.tok t = some (b, off + len * s) ∧ ∃ n, κ.size b = some n ∧ off + cap * s ≤ n)

theorem TokOk.mono {κ κ' : Ghost} (hk : κ.le κ') {t : Tok} {b off len cap s : Nat} (h : TokOk κ t b off len cap s) : TokOk κ' t b off len cap s := by
  cases t with
  | none => exact h
  | full => exact h
  | own t => exact hk.tok _ _ h
  | tip t => exact h.imp id fun ⟨h1, n, h2, h3⟩ => ⟨hk.tok _ _ h1, n, hk.size _ _ h2, h3⟩

mutual
inductive RepV (κ : Ghost) : AVal → Value → Prop
  | top {v} : RepV κ .top v
  | v {x} : x.oneCell = true → RepV κ (.v x) x
  | nil {s t a} : RepV κ (.slice s [] t) (.slice a 0 0)
  | slice {s xs t b off len cap vs} : xs.length = len → len ≤ cap → (∀ x ∈ xs, x.cells.length = s) → RepL κ (xs.flatMap AVal.cells) vs →
      (∀ i v, vs[i]? = some v → κ.cell b (off + i) = some v) → TokOk κ t b off len cap s → RepV κ (.slice s xs t) (.slice (some ⟨b, off, none⟩) len cap)
  | ms {r s off len cap b n} : κ.obj r = some b → κ.size b = some n → len ≤ cap → off + cap * s ≤ n → RepV κ (.ms r s off len) (.slice (some ⟨b, off, none⟩) len cap)
  | ptr {id off b} : κ.obj id = some b → RepV κ (.ptr id off) (.pointer (some ⟨b, off, none⟩))
  | eptr {cs off b o vs} : RepL κ cs vs → (∀ i v, vs[i]? = some v → κ.cell b (o + i) = some v) → RepV κ (.eptr cs off) (.pointer (some ⟨b, o + off, none⟩))
  | agg {cs vs} : RepL κ cs vs → RepV κ (.agg cs) (.agg vs.toArray)
  | tup {cs vs} : RepL κ cs vs → RepV κ (.tup cs) (.tuple vs.toArray)
  | func {g f1 c1 fv cv} : RepL κ f1 fv → RepL κ c1 cv → RepV κ (.func g f1 c1) (.func (.func g) fv.toArray cv.toArray)
  | map {id b} : κ.obj id = some b → RepV κ (.map id) (.map (some b))
inductive RepL (κ : Ghost) : List AVal → List Value → Prop
  | nil : RepL κ [] []
  | cons {x v xs vs} : RepV κ x v → RepL κ xs vs → RepL κ (x :: xs) (v :: vs)
end

mutual
theorem RepV.mono {κ κ' : Ghost} (hk : κ.le κ') : ∀ {x : AVal} {v : Value}, RepV κ x v → RepV κ' x v
  | _, _, .top => .top
  | _, _, .v h => .v h
  | _, _, .nil => .nil
  | _, _, .slice h1 h2 h3 h4 h5 h6 => .slice h1 h2 h3 (RepL.mono hk h4) (fun i v h => hk.cell _ _ _ (h5 i v h)) (h6.mono hk)
  | _, _, .ms h1 h2 h3 h4 => .ms (hk.obj _ _ h1) (hk.size _ _ h2) h3 h4
  | _, _, .ptr h => .ptr (hk.obj _ _ h)
  | _, _, .eptr h1 h2 => .eptr (RepL.mono hk h1) (fun i v h => hk.cell _ _ _ (h2 i v h))
  | _, _, .agg h => .agg (RepL.mono hk h)
  | _, _, .tup h => .tup (RepL.mono hk h)
  | _, _, .func h1 h2 => .func (RepL.mono hk h1) (RepL.mono hk h2)
  | _, _, .map h => .map (hk.obj _ _ h)
theorem RepL.mono {κ κ' : Ghost} (hk : κ.le κ') : ∀ {xs : List AVal} {vs : List Value}, RepL κ xs vs → RepL κ' xs vs
  | _, _, .nil => .nil
  | _, _, .cons h t => .cons (RepV.mono hk h) (RepL.mono hk t)
end

section RepL
variable {κ : Ghost}
theorem RepL.length {xs : List AVal} {vs : List Value} (h : RepL κ xs vs) : xs.length = vs.length := by
  induction xs generalizing vs with
  | nil => cases h; rfl
  | cons x xs ih => cases h with | cons _ t => simp [ih t]
theorem RepL.get {xs : List AVal} {vs : List Value} (h : RepL κ xs vs) {i : Nat} {x : AVal} (hx : xs[i]? = some x) : ∃ v, vs[i]? = some v ∧ RepV κ x v := by
  induction xs generalizing vs i with
  | nil => simp at hx
  | cons y ys ih =>
    cases h with
    | cons hv t =>
      cases i with
      | zero => simp at hx; subst hx; exact ⟨_, by simp, hv⟩
      | succ i => simp at hx; obtain ⟨v, h1, h2⟩ := ih t hx; exact ⟨v, by simpa using h1, h2⟩
theorem RepL.append {xs ys : List AVal} {vs us : List Value} (h : RepL κ xs vs) (k : RepL κ ys us) : RepL κ (xs ++ ys) (vs ++ us) := by
  induction xs generalizing vs with
  | nil => cases h; exact k
  | cons x xs ih => cases h with | cons hv t => exact .cons hv (ih t)
theorem RepL.split {xs ys : List AVal} {vs : List Value} (h : RepL κ (xs ++ ys) vs) : RepL κ xs (vs.take xs.length) ∧ RepL κ ys (vs.drop xs.length) := by
  induction xs generalizing vs with
  | nil => exact ⟨by simpa using RepL.nil, by simpa using h⟩
  | cons x xs ih => cases h with | cons hv t => exact ⟨by simpa using RepL.cons hv (ih t).1, by simpa using (ih t).2⟩
theorem RepL.take {xs : List AVal} {vs : List Value} (h : RepL κ xs vs) (n : Nat) : RepL κ (xs.take n) (vs.take n) := by
  induction xs generalizing vs n with
  | nil => cases h; simpa using RepL.nil
  | cons x xs ih =>
    cases h with
    | cons hv t => cases n with
      | zero => simpa using RepL.nil
      | succ n => simpa using RepL.cons hv (ih t n)
theorem RepL.drop {xs : List AVal} {vs : List Value} (h : RepL κ xs vs) (n : Nat) : RepL κ (xs.drop n) (vs.drop n) := by
  induction xs generalizing vs n with
  | nil => cases h; simpa using RepL.nil
  | cons x xs ih =>
    cases h with
    | cons hv t => cases n with
      | zero => simpa using RepL.cons hv t
      | succ n => simpa using ih t n
theorem RepL.set {xs : List AVal} {vs : List Value} (h : RepL κ xs vs) (i : Nat) {x : AVal} {v : Value} (hv : RepV κ x v) : RepL κ (xs.set i x) (vs.set i v) := by
  induction xs generalizing vs i with
  | nil => cases h; simpa using RepL.nil
  | cons y ys ih =>
    cases h with
    | cons hy t => cases i with
      | zero => simpa using RepL.cons hv t
      | succ i => simpa using RepL.cons hy (ih t i)
theorem RepL.one {x : AVal} {v : Value} (h : RepV κ x v) : RepL κ [x] [v] := .cons h .nil
theorem RepL.replicate {x : AVal} {v : Value} (h : RepV κ x v) (n : Nat) : RepL κ (List.replicate n x) (List.replicate n v) := by
  induction n with
  | zero => exact .nil
  | succ n ih => exact .cons h ih
end RepL

/-- What an abstract value's cells are, at a value that it stands for. -/
theorem RepV.cells {κ : Ghost} {x : AVal} {v : Value} (h : RepV κ x v) (hc : x.isCell = true ∨ ∃ cs, x = .agg cs) : RepL κ x.cells v.cells.toList := by
  cases h <;> first
    | (simp [AVal.isCell] at hc; done)
    | (rename_i h1; exact by simpa [AVal.cells, Value.cells] using h1)
    | skip
  all_goals try simp only [AVal.cells, Value.cells]
  case v hx =>
    cases v <;> first
      | exact .one (.v hx)
      | (simp [Value.oneCell] at hx)
  case nil => exact .one .nil
  case slice h1 h2 h3 h4 h5 h6 => exact .one (.slice h1 h2 h3 h4 h5 h6)
  case ms h1 h2 h3 h4 => exact .one (.ms h1 h2 h3 h4)
  case ptr h1 => exact .one (.ptr h1)
  case eptr h1 h2 => exact .one (.eptr h1 h2)
  case func h1 h2 => exact .one (.func h1 h2)
  case map h1 => exact .one (.map h1)

theorem RepV.oneCell {κ : Ghost} {x : AVal} {v : Value} (h : RepV κ x v) (hc : x.isCell = true) : v.oneCell = true := by
  cases h <;> first | rfl | assumption | (simp [AVal.isCell] at hc)

/-- All values of a list are of one cell. -/
def Ones (vs : List Value) : Prop := ∀ v ∈ vs, v.oneCell = true

structure Inv (κ : Ghost) (σ : AHeap) (w : World) : Prop where
  below : Below κ.base κ.w0 w
  base : κ.base ≤ w.heap.size
  cell : ∀ b o v, κ.cell b o = some v → w.cell? ⟨b, o, none⟩ = some v ∧ v.oneCell = true
  size : ∀ b n, κ.size b = some n → ∃ c e f, w.heap[b]? = some (.cells c e f) ∧ c.size = n
  obj : ∀ id b, κ.obj id = some b → κ.base ≤ b ∧ b < w.heap.size ∧ (σ id ≠ none → ∀ o, κ.cell b o = none)
  inj : ∀ i j b, σ i ≠ none → σ j ≠ none → κ.obj i = some b → κ.obj j = some b → i = j
  cells : ∀ id cs, σ id = some (.cells cs) → ∃ b c e vs us, κ.obj id = some b ∧ w.heap[b]? = some (.cells c e (0, 0)) ∧ κ.size b = some c.size ∧ c.toList = vs ++ us ∧ RepL κ cs vs ∧ Ones vs ∧ Ones us
  map : ∀ id es, σ id = some (.map es) → ∃ b c clk, κ.obj id = some b ∧ w.heap[b]? = some (.map c clk) ∧
    (c.toList.map (·.key) = es.map (fun e => Value.int .i64 e.1) ∧ MapKept.Stamped c clk) ∧ RepL κ (es.map (·.2)) (c.toList.map (·.val))
  tip : ∀ t b p, σ t = some .tip → κ.tok t = some (b, p) → κ.base ≤ b ∧ (∃ c e, w.heap[b]? = some (.cells c e (0, 0)) ∧ Ones c.toList) ∧ (∀ o, p ≤ o → κ.cell b o = none) ∧
    (∀ id, κ.obj id ≠ some b) ∧ ∀ t' p', σ t' = some .tip → κ.tok t' = some (b, p') → t' = t
  fin : ∃ N, ∀ n, N ≤ n → σ n = none ∧ κ.obj n = none ∧ κ.tok n = none

/-- Fewer objects are known of. -/
def Sub (σ σ' : AHeap) : Prop := ∀ id o, σ' id = some o → σ id = some o

theorem Sub.live {σ σ' : AHeap} (hs : Sub σ σ') {i : Nat} (h : σ' i ≠ none) : σ i ≠ none := fun e => by
  cases k : σ' i with
  | none => exact h k
  | some o => rw [hs _ _ k] at e; cases e

theorem Inv.sub {κ : Ghost} {σ σ' : AHeap} {w : World} (h : Inv κ σ w) (hs : Sub σ σ') : Inv κ σ' w :=
  { h with
    obj := fun i b e => let ⟨h1, h2, h3⟩ := h.obj i b e; ⟨h1, h2, fun hl => h3 (hs.live hl)⟩
    inj := fun i j b hi hj => h.inj i j b (hs.live hi) (hs.live hj)
    cells := fun id cs e => h.cells id cs (hs _ _ e)
    map := fun id es e => h.map id es (hs _ _ e)
    tip := fun t b p e k => let ⟨h1, h2, h3, h4, h5⟩ := h.tip t b p (hs _ _ e) k; ⟨h1, h2, h3, h4, fun t' p' e' k' => h5 t' p' (hs _ _ e') k'⟩
    fin := let ⟨N, hN⟩ := h.fin; ⟨N, fun n hn => by
      refine ⟨?_, (hN n hn).2⟩
      cases e : σ' n with
      | none => rfl
      | some o => have := hs _ _ e; rw [(hN n hn).1] at this; cases this⟩ }

/-- A name that nothing bears yet. -/
theorem Inv.fresh {κ : Ghost} {σ : AHeap} {w : World} (h : Inv κ σ w) : ∃ n, σ n = none ∧ κ.obj n = none ∧ κ.tok n = none := let ⟨N, hN⟩ := h.fin; ⟨N, hN N (Nat.le_refl _)⟩

theorem Inv.drew {κ : Ghost} {σ : AHeap} {w : World} (h : Inv κ σ w) : Inv κ σ w.drew :=
  ⟨h.below.drew, h.base, h.cell, h.size, h.obj, h.inj, h.cells, h.map, h.tip, h.fin⟩

theorem upd_same (σ : AHeap) (id : Nat) (o : AObj) : upd σ id o id = some o := by simp [upd]
theorem upd_ne (σ : AHeap) {id i : Nat} (o : AObj) (h : i ≠ id) : upd σ id o i = σ i := by simp [upd, h]
theorem del_same (σ : AHeap) (id : Nat) : del σ id id = none := by simp [del]
theorem del_ne (σ : AHeap) {id i : Nat} (h : i ≠ id) : del σ id i = σ i := by simp [del, h]
theorem upd_upd (σ : AHeap) (id : Nat) (o o' : AObj) : upd (upd σ id o) id o' = upd σ id o' := by funext i; simp only [upd]; split <;> rfl
theorem del_upd (σ : AHeap) (id : Nat) (o : AObj) (h : σ id = none) : del (upd σ id o) id = σ := by
  funext i; simp only [upd, del]; split
  · rename_i e; rw [e, h]
  · rfl
theorem upd_get (σ : AHeap) (id : Nat) (o : AObj) (h : σ id = some o) : upd σ id o = σ := by
  funext i; simp only [upd]; split
  · rename_i e; rw [e, h]
  · rfl
theorem upd_comm (σ : AHeap) {i j : Nat} (o o' : AObj) (h : i ≠ j) : upd (upd σ i o) j o' = upd (upd σ j o') i o := by
  funext k; simp only [upd]; split
  · rename_i e; subst e; rw [if_neg (fun e => h e.symm)]
  · rfl
theorem del_upd_comm (σ : AHeap) {i j : Nat} (o : AObj) (h : i ≠ j) : del (upd σ i o) j = upd (del σ j) i o := by
  funext k; simp only [upd, del]; split
  · rename_i e; subst e; rw [if_neg (fun e => h e.symm)]
  · rfl
theorem Sub.refl (σ : AHeap) : Sub σ σ := fun _ _ h => h
theorem Sub.trans {a b c : AHeap} (h : Sub a b) (k : Sub b c) : Sub a c := fun _ _ e => h _ _ (k _ _ e)
theorem Sub.upd_fresh {σ : AHeap} {id : Nat} (o : AObj) (h : σ id = none) : Sub (upd σ id o) σ := fun i o' e => by
  rw [upd_ne]; exact e
  intro e'; subst e'; rw [h] at e; cases e
theorem Sub.upd {σ σ' : AHeap} (h : Sub σ σ') (id : Nat) (o : AObj) : Sub (Am.upd σ id o) (Am.upd σ' id o) := fun i o' e => by
  simp only [Am.upd] at *; split at e
  · rename_i k; rw [if_pos k]; exact e
  · rename_i k; rw [if_neg k]; exact h _ _ e
theorem Sub.del {σ : AHeap} (id : Nat) : Sub σ (Am.del σ id) := fun i o e => by
  simp only [Am.del] at e; split at e
  · cases e
  · exact e
theorem Sub.get {σ σ' : AHeap} (h : Sub σ σ') {id : Nat} {o : AObj} (e : σ' id = some o) : σ id = some o := h _ _ e
end Go.Am
/-
  What becomes of the invariant: a new block, a store into a named object, an append in place.
-/
namespace Go.Am
set_option linter.unusedSectionVars false
open Go.RowKit (Below)

theorem heap_cell {w : World} {b : Nat} {c : Array Value} {e : TypeId} {f : Nat × Nat} (h : w.heap[b]? = some (.cells c e f)) (o : Nat) : w.cell? ⟨b, o, none⟩ = c[o]? := by
  simp [World.cell?, h]

theorem heap_lt {w : World} {b : Nat} {o : Obj} (h : w.heap[b]? = some o) : b < w.heap.size := by
  rcases Nat.lt_or_ge b w.heap.size with h' | h'
  · exact h'
  · simp [Array.getElem?_eq_none h'] at h

theorem alloc_old {w : World} {o : Obj} {b : Nat} (h : b < w.heap.size) : (w.alloc o).heap[b]? = w.heap[b]? := Below.heap_alloc w o b h
theorem alloc_new {w : World} {o : Obj} : (w.alloc o).heap[w.heap.size]? = some o := by show (w.heap.push o)[w.heap.size]? = some o; simp
theorem alloc_cell_old {w : World} {o : Obj} {b i : Nat} (h : b < w.heap.size) : (w.alloc o).cell? ⟨b, i, none⟩ = w.cell? ⟨b, i, none⟩ := by
  simp only [World.cell?]; rw [alloc_old h]

def setBlock (w : World) (b : Nat) (c : Array Value) (e : TypeId) : World := { w with heap := w.heap.setIfInBounds b (.cells c e (0, 0)) }

theorem setBlock_same {w : World} {b : Nat} {c : Array Value} {e : TypeId} (h : b < w.heap.size) : (setBlock w b c e).heap[b]? = some (.cells c e (0, 0)) := by
  simp [setBlock, h]
theorem setBlock_ne {w : World} {b k : Nat} {c : Array Value} {e : TypeId} (h : k ≠ b) : (setBlock w b c e).heap[k]? = w.heap[k]? := by
  simp only [setBlock]; rw [Array.getElem?_setIfInBounds_ne (fun e => h e.symm)]
theorem setBlock_size {w : World} {b : Nat} {c : Array Value} {e : TypeId} : (setBlock w b c e).heap.size = w.heap.size := by simp [setBlock]
theorem setBlock_cell_ne {w : World} {b k o : Nat} {c : Array Value} {e : TypeId} (h : k ≠ b) : (setBlock w b c e).cell? ⟨k, o, none⟩ = w.cell? ⟨k, o, none⟩ := by
  simp only [World.cell?]; rw [setBlock_ne h]
theorem setBlock_setBlock {w : World} {b : Nat} {c c' : Array Value} {e e' : TypeId} : setBlock (setBlock w b c e) b c' e' = setBlock w b c' e' := by
  simp only [setBlock]; congr 1; simp [Array.setIfInBounds_setIfInBounds]
theorem setBlock_below {B : Nat} {w0 w : World} {b : Nat} {c : Array Value} {e : TypeId} (h : Below B w0 w) (hb : B ≤ b) : Below B w0 (setBlock w b c e) :=
  h.trans ⟨rfl, rfl, rfl, by rw [setBlock_size]; exact Nat.le_refl _, fun k hk => setBlock_ne (by omega)⟩
theorem setBlock_get {w : World} {b : Nat} {c : Array Value} {e : TypeId} (h : w.heap[b]? = some (.cells c e (0, 0))) : setBlock w b c e = w := by
  simp only [setBlock]
  have : w.heap.setIfInBounds b (.cells c e (0, 0)) = w.heap := by
    apply Array.ext_getElem?; intro i
    by_cases hi : i = b
    · subst hi; rw [h]; simp [heap_lt h]
    · rw [Array.getElem?_setIfInBounds_ne (fun e => hi e.symm)]
  rw [this]

theorem setCell_eq {w : World} {b o : Nat} {c : Array Value} {e : TypeId} {v : Value} (h : w.heap[b]? = some (.cells c e (0, 0))) :
    w.setCell ⟨b, o, none⟩ v = setBlock w b (c.setIfInBounds o v) e := by
  simp only [World.setCell, setBlock]
  congr 1
  apply Array.ext_getElem?; intro i
  by_cases hi : i = b
  · subst hi
    have := heap_lt h
    rw [Array.getElem?_modify, if_pos rfl, h]; simp [this]
  · rw [Array.getElem?_setIfInBounds_ne (fun e => hi e.symm), Array.getElem?_modify, if_neg (fun e => hi e.symm)]

theorem ones_of {κ : Ghost} {cs : List AVal} {vs : List Value} (h : RepL κ cs vs) (hc : cs.all AVal.isCell = true) : Ones vs := by
  induction cs generalizing vs with
  | nil => cases h; intro v hv; cases hv
  | cons x xs ih =>
    cases h with
    | cons hv t =>
      simp only [List.all_cons, Bool.and_eq_true] at hc
      intro v hm
      cases hm with
      | head => exact hv.oneCell hc.1
      | tail _ hm => exact ih t hc.2 v hm

theorem Ones.append {a b : List Value} (h : Ones a) (k : Ones b) : Ones (a ++ b) := fun v hv => (List.mem_append.1 hv).elim (h v) (k v)
theorem Ones.left {a b : List Value} (h : Ones (a ++ b)) : Ones a := fun v hv => h v (List.mem_append_left _ hv)
theorem Ones.right {a b : List Value} (h : Ones (a ++ b)) : Ones b := fun v hv => h v (List.mem_append_right _ hv)
theorem Ones.take {a : List Value} (h : Ones a) (n : Nat) : Ones (a.take n) := fun v hv => h v (List.mem_of_mem_take hv)
theorem Ones.drop {a : List Value} (h : Ones a) (n : Nat) : Ones (a.drop n) := fun v hv => h v (List.mem_of_mem_drop hv)
theorem Ones.replicate {v : Value} (h : v.oneCell = true) (n : Nat) : Ones (List.replicate n v) := fun u hu => by rw [List.eq_of_mem_replicate hu]; exact h

/-- A new row: its first m cells will not change any more; a name t for the right to append behind them. -/
theorem Inv.allocRow {κ : Ghost} {σ : AHeap} {w : World} (h : Inv κ σ w) {c : Array Value} {e : TypeId} {m : Nat} (hm : m ≤ c.size) (hc : Ones c.toList) {t : Nat}
    (ht : σ t = none ∧ κ.obj t = none ∧ κ.tok t = none) :
    ∃ κ', κ.le κ' ∧ Inv κ' (upd σ t .tip) (w.alloc (.cells c e)) ∧ (∀ i v, i < m → c[i]? = some v → κ'.cell w.heap.size i = some v) ∧
      κ'.size w.heap.size = some c.size ∧ κ'.tok t = some (w.heap.size, m) := by
  let κ' : Ghost := { κ with
    cell := fun b o => if b = w.heap.size then (if o < m then c[o]? else none) else κ.cell b o
    size := fun b => if b = w.heap.size then some c.size else κ.size b
    tok := fun i => if i = t then some (w.heap.size, m) else κ.tok i }
  have hcell : ∀ b o v, κ.cell b o = some v → b < w.heap.size := fun b o v e => World.block_lt_of_cell? w ⟨b, o, none⟩ (h.cell b o v e).1
  have hsize : ∀ b n, κ.size b = some n → b < w.heap.size := fun b n e => let ⟨c, e, f, k, _⟩ := h.size b n e; heap_lt k
  have hle : κ.le κ' := by
    refine ⟨rfl, rfl, fun b o v e => ?_, fun b n e => ?_, fun _ _ e => e, fun i x e => ?_⟩
    · have := hcell b o v e
      simp only [κ']; rw [if_neg (by omega)]; exact e
    · have := hsize b n e
      simp only [κ']; rw [if_neg (by omega)]; exact e
    · simp only [κ']; rw [if_neg]; exact e
      intro k; subst k; rw [ht.2.2] at e; cases e
  refine ⟨κ', hle, ?_, ?_, by simp [κ'], by simp [κ']⟩
  · refine ⟨h.below.alloc h.base _, by simp; exact Nat.le_succ_of_le h.base, ?_, ?_, ?_, fun i j b hi hj ki kj => h.inj i j b (fun e => ?_) (fun e => ?_) ki kj, ?_, ?_, ?_, ?_⟩
    rotate_left 3
    · by_cases k : i = t
      · subst k; rw [ht.2.1] at ki; cases ki
      · rw [upd_ne _ _ k] at hi; exact hi e
    · by_cases k : j = t
      · subst k; rw [ht.2.1] at kj; cases kj
      · rw [upd_ne _ _ k] at hj; exact hj e
    rotate_left 4
    · intro b o v e
      simp only [κ'] at e
      split at e
      · rename_i hb; subst hb
        split at e
        · refine ⟨by rw [heap_cell alloc_new]; exact e, hc v ?_⟩
          rw [Array.mem_toList_iff]; exact Array.mem_of_getElem? e
        · cases e
      · have := hcell b o v e
        rw [alloc_cell_old this]; exact h.cell b o v e
    · intro b n e
      simp only [κ'] at e
      split at e
      · rename_i hb; subst hb; cases e; exact ⟨c, _, _, alloc_new, rfl⟩
      · have := hsize b n e
        rw [alloc_old this]; exact h.size b n e
    · intro id b e
      obtain ⟨h1, h2, h3⟩ := h.obj id b e
      refine ⟨h1, by simp; omega, fun hl o => ?_⟩
      rw [upd_ne _ _ (fun k => by subst k; rw [ht.2.1] at e; cases e)] at hl
      simp only [κ']; rw [if_neg (by omega)]; exact h3 hl o
    · intro id cs e
      have hid : id ≠ t := fun k => by subst k; simp [upd] at e
      rw [upd_ne _ _ hid] at e
      obtain ⟨b, c', e', vs, us, k1, k2, k3, k4, k5, k6⟩ := h.cells id cs e
      exact ⟨b, c', e', vs, us, k1, by rw [alloc_old (heap_lt k2)]; exact k2, hle.size _ _ k3, k4, k5.mono hle, k6⟩
    · intro id es e
      have hid : id ≠ t := fun k => by subst k; simp [upd] at e
      rw [upd_ne _ _ hid] at e
      obtain ⟨b, c', clk, k1, k2, k3, k4⟩ := h.map id es e
      exact ⟨b, c', clk, k1, by rw [alloc_old (heap_lt k2)]; exact k2, k3, k4.mono hle⟩
    · intro t' b p e k
      by_cases htt : t' = t
      · subst htt
        simp only [κ', if_true] at k
        cases k
        refine ⟨h.base, ⟨c, _, alloc_new, hc⟩, fun o ho => ?_, fun id k => ?_, fun t'' p' e' k' => ?_⟩
        · simp only [κ', if_true]; rw [if_neg (by omega)]
        · have := (h.obj id _ k).2.1; omega
        · by_cases h2 : t'' = t'
          · exact h2
          · rw [upd_ne _ _ h2] at e'
            simp only [κ'] at k'; rw [if_neg h2] at k'
            obtain ⟨_, ⟨c', e'', k3, _⟩, _⟩ := h.tip t'' _ _ e' k'
            have := heap_lt k3; omega
      · rw [upd_ne _ _ htt] at e
        simp only [κ'] at k; rw [if_neg htt] at k
        obtain ⟨h1, ⟨c', e', h2, h2'⟩, h3, h4, h5⟩ := h.tip t' b p e k
        have hb := heap_lt h2
        refine ⟨h1, ⟨c', e', by rw [alloc_old hb]; exact h2, h2'⟩, fun o ho => ?_, h4, fun t'' p' e' k' => ?_⟩
        · simp only [κ']; rw [if_neg (by omega)]; exact h3 o ho
        · by_cases h6 : t'' = t
          · subst h6; simp only [κ', if_true] at k'; injection k' with k'; injection k' with k1 k2; omega
          · rw [upd_ne _ _ h6] at e'
            simp only [κ'] at k'; rw [if_neg h6] at k'
            exact h5 t'' p' e' k'
    · obtain ⟨N, hN⟩ := h.fin
      refine ⟨max N (t + 1), fun n hn => ?_⟩
      have hnt : n ≠ t := by omega
      obtain ⟨h1, h2, h3⟩ := hN n (by omega)
      refine ⟨by rw [upd_ne _ _ hnt]; exact h1, h2, ?_⟩
      simp only [κ']; rw [if_neg hnt]; exact h3
  · intro i v hi hv
    simp only [κ', if_true]; rw [if_pos hi]; exact hv

/-- A new object. -/
theorem Inv.allocObj {κ : Ghost} {σ : AHeap} {w : World} (h : Inv κ σ w) {c : Array Value} {e : TypeId} {cs : List AVal} {vs us : List Value} (hcv : c.toList = vs ++ us) (hr : RepL κ cs vs)
    (ho : Ones vs) (hu : Ones us) {id : Nat} (ht : σ id = none ∧ κ.obj id = none ∧ κ.tok id = none) :
    ∃ κ', κ.le κ' ∧ Inv κ' (upd σ id (.cells cs)) (w.alloc (.cells c e)) ∧ κ'.obj id = some w.heap.size ∧ κ'.size w.heap.size = some c.size := by
  let κ' : Ghost := { κ with
    size := fun b => if b = w.heap.size then some c.size else κ.size b
    obj := fun i => if i = id then some w.heap.size else κ.obj i }
  have hcell : ∀ b o v, κ.cell b o = some v → b < w.heap.size := fun b o v e => World.block_lt_of_cell? w ⟨b, o, none⟩ (h.cell b o v e).1
  have hsize : ∀ b n, κ.size b = some n → b < w.heap.size := fun b n e => let ⟨c, e, f, k, _⟩ := h.size b n e; heap_lt k
  have hle : κ.le κ' := by
    refine ⟨rfl, rfl, fun b o v e => e, fun b n e => ?_, fun i b e => ?_, fun _ _ e => e⟩
    · have := hsize b n e
      simp only [κ']; rw [if_neg (by omega)]; exact e
    · simp only [κ']; rw [if_neg]; exact e
      intro k; subst k; rw [ht.2.1] at e; cases e
  refine ⟨κ', hle, ?_, by simp [κ'], by simp [κ']⟩
  refine ⟨h.below.alloc h.base _, by simp; exact Nat.le_succ_of_le h.base, ?_, ?_, ?_, ?_, ?_, ?_, ?_, ?_⟩
  · intro b o v e
    have := hcell b o v e
    rw [alloc_cell_old this]; exact h.cell b o v e
  · intro b n e
    simp only [κ'] at e
    split at e
    · rename_i hb; subst hb; cases e; exact ⟨c, _, _, alloc_new, rfl⟩
    · have := hsize b n e
      rw [alloc_old this]; exact h.size b n e
  · intro i b e
    simp only [κ'] at e
    split at e
    · cases e
      refine ⟨h.base, by simp, fun _ o => ?_⟩
      cases hx : κ.cell w.heap.size o with
      | none => rfl
      | some v => have := hcell _ _ _ hx; omega
    · rename_i hne
      obtain ⟨h1, h2, h3⟩ := h.obj i b e
      refine ⟨h1, by simp; omega, fun hl => h3 ?_⟩
      rw [upd_ne _ _ hne] at hl; exact hl
  · intro i j b li lj hi hj
    simp only [κ'] at hi hj
    split at hi
    · cases hi
      split at hj
      · rename_i a b; rw [a, b]
      · have := (h.obj j _ hj).2.1; omega
    · rename_i ni
      split at hj
      · cases hj; have := (h.obj i _ hi).2.1; omega
      · rename_i nj
        rw [upd_ne _ _ ni] at li; rw [upd_ne _ _ nj] at lj
        exact h.inj i j b li lj hi hj
  · intro i cs' e
    by_cases hid : i = id
    · subst hid
      rw [upd_same] at e; injection e with e; injection e with e; subst e
      exact ⟨_, c, _, vs, us, by simp [κ'], alloc_new, by simp [κ'], hcv, hr.mono hle, ho, hu⟩
    · rw [upd_ne _ _ hid] at e
      obtain ⟨b, c', e', vs, us, k1, k2, k3, k4, k5, k6⟩ := h.cells i cs' e
      exact ⟨b, c', e', vs, us, hle.obj _ _ k1, by rw [alloc_old (heap_lt k2)]; exact k2, hle.size _ _ k3, k4, k5.mono hle, k6⟩
  · intro i es e
    by_cases hid : i = id
    · subst hid; rw [upd_same] at e; cases e
    · rw [upd_ne _ _ hid] at e
      obtain ⟨b, c', clk, k1, k2, k3, k4⟩ := h.map i es e
      exact ⟨b, c', clk, hle.obj _ _ k1, by rw [alloc_old (heap_lt k2)]; exact k2, k3, k4.mono hle⟩
  · intro t' b p e k
    have htt : t' ≠ id := fun k' => by subst k'; rw [upd_same] at e; cases e
    rw [upd_ne _ _ htt] at e
    obtain ⟨h1, ⟨c', e', h2, h2'⟩, h3, h4, h5⟩ := h.tip t' b p e k
    have hb := heap_lt h2
    refine ⟨h1, ⟨c', e', by rw [alloc_old hb]; exact h2, h2'⟩, h3, fun i k' => ?_, fun t'' p' e' k' => ?_⟩
    · simp only [κ'] at k'
      split at k'
      · cases k'; omega
      · exact h4 i k'
    · have h6 : t'' ≠ id := fun k' => by subst k'; rw [upd_same] at e'; cases e'
      rw [upd_ne _ _ h6] at e'
      exact h5 t'' p' e' k'
  · obtain ⟨N, hN⟩ := h.fin
    refine ⟨max N (id + 1), fun n hn => ?_⟩
    have hnt : n ≠ id := by omega
    obtain ⟨h1, h2, h3⟩ := hN n (by omega)
    refine ⟨by rw [upd_ne _ _ hnt]; exact h1, ?_, h3⟩
    simp only [κ']; rw [if_neg hnt]; exact h2

/-- A named object's cells are turned. -/
theorem Inv.setObj {κ : Ghost} {σ : AHeap} {w : World} (h : Inv κ σ w) {id b : Nat} {c c' : Array Value} {e : TypeId} {cs cs' : List AVal} {vs us : List Value}
    (hs : σ id = some (.cells cs)) (hb : κ.obj id = some b) (hw : w.heap[b]? = some (.cells c e (0, 0))) (hsz : c'.size = c.size)
    (hcv : c'.toList = vs ++ us) (hr : RepL κ cs' vs) (ho : Ones vs) (hu : Ones us) :
    Inv κ (upd σ id (.cells cs')) (setBlock w b c' e) := by
  have hbl := heap_lt hw
  have hnc := (h.obj id b hb)
  have hlive : ∀ i, upd σ id (.cells cs') i ≠ none → σ i ≠ none := fun i k e => by
    by_cases hi : i = id
    · subst hi; rw [hs] at e; cases e
    · rw [upd_ne _ _ hi] at k; exact k e
  have hsl : σ id ≠ none := by rw [hs]; simp
  refine ⟨setBlock_below h.below hnc.1, by rw [setBlock_size]; exact h.base, ?_, ?_, ?_, fun i j b hi hj => h.inj i j b (hlive i hi) (hlive j hj), ?_, ?_, ?_, ?_⟩
  · intro b' o v k
    have : b' ≠ b := fun e => by subst e; rw [hnc.2.2 (by rw [hs]; nofun) o] at k; cases k
    rw [setBlock_cell_ne this]; exact h.cell b' o v k
  · intro b' n k
    by_cases hbb : b' = b
    · subst hbb
      obtain ⟨c1, e1, f1, k1, k2⟩ := h.size b' n k
      rw [hw] at k1; cases k1
      exact ⟨c', e, _, setBlock_same hbl, by rw [hsz]; exact k2⟩
    · rw [setBlock_ne hbb]; exact h.size b' n k
  · intro i b' k
    rw [setBlock_size]; obtain ⟨h1, h2, h3⟩ := h.obj i b' k; exact ⟨h1, h2, fun hl => h3 (hlive i hl)⟩
  · intro i cs1 k
    by_cases hid : i = id
    · subst hid
      rw [upd_same] at k; injection k with k; injection k with k; subst k
      obtain ⟨b1, c1, e1, vs1, us1, k1, k2, k3, _⟩ := h.cells i cs hs
      rw [hb] at k1; cases k1
      rw [hw] at k2; cases k2
      exact ⟨b, c', e, vs, us, hb, setBlock_same hbl, by rw [hsz]; exact k3, hcv, hr, ho, hu⟩
    · rw [upd_ne _ _ hid] at k
      obtain ⟨b1, c1, e1, vs1, us1, k1, k2, k3⟩ := h.cells i cs1 k
      have : b1 ≠ b := fun e => hid (h.inj i id b (by rw [k]; simp) hsl (e ▸ k1) hb)
      exact ⟨b1, c1, e1, vs1, us1, k1, by rw [setBlock_ne this]; exact k2, k3⟩
  · intro i es k
    by_cases hid : i = id
    · subst hid; rw [upd_same] at k; cases k
    · rw [upd_ne _ _ hid] at k
      obtain ⟨b1, c1, clk, k1, k2, k3⟩ := h.map i es k
      have : b1 ≠ b := fun e => hid (h.inj i id b (by rw [k]; simp) hsl (e ▸ k1) hb)
      exact ⟨b1, c1, clk, k1, by rw [setBlock_ne this]; exact k2, k3⟩
  · intro t' b1 p k1 k2
    have htt : t' ≠ id := fun e => by subst e; rw [upd_same] at k1; cases k1
    rw [upd_ne _ _ htt] at k1
    obtain ⟨h1, ⟨c', e', h2, h2'⟩, h3, h4, h5⟩ := h.tip t' b1 p k1 k2
    have : b1 ≠ b := fun e => h4 id (e ▸ hb)
    refine ⟨h1, ⟨c', e', by rw [setBlock_ne this]; exact h2, h2'⟩, h3, h4, fun t'' p' e' k' => ?_⟩
    have h6 : t'' ≠ id := fun k' => by subst k'; rw [upd_same] at e'; cases e'
    rw [upd_ne _ _ h6] at e'
    exact h5 t'' p' e' k'
  · obtain ⟨N, hN⟩ := h.fin
    refine ⟨N, fun n hn => ?_⟩
    obtain ⟨h1, h2, h3⟩ := hN n hn
    have hnt : n ≠ id := fun e => by subst e; rw [hs] at h1; cases h1
    exact ⟨by rw [upd_ne _ _ hnt]; exact h1, h2, h3⟩

/-- An append in place: the right t is spent, the cells behind its place stand for ever, a new right t'. -/
theorem Inv.growTip {κ : Ghost} {σ : AHeap} {w : World} (h : Inv κ σ w) {t t' b p m : Nat} {c c' : Array Value} {e : TypeId}
    (hs : σ t = some .tip) (hb : κ.tok t = some (b, p)) (hw : w.heap[b]? = some (.cells c e (0, 0))) (hsz : c'.size = c.size)
    (hold : ∀ i, i < p → c'[i]? = c[i]?) (ho : Ones c'.toList) (ht' : σ t' = none ∧ κ.obj t' = none ∧ κ.tok t' = none) :
    ∃ κ', κ.le κ' ∧ Inv κ' (upd (del σ t) t' .tip) (setBlock w b c' e) ∧ (∀ i v, i < m → c'[p + i]? = some v → κ'.cell b (p + i) = some v) ∧ κ'.tok t' = some (b, p + m) := by
  obtain ⟨hbase, ⟨c0, e0, hw0, _⟩, hfree, hno, huniq⟩ := h.tip t b p hs hb
  have hbl := heap_lt hw
  let κ' : Ghost := { κ with
    cell := fun x o => if x = b ∧ p ≤ o then (if o < p + m then c'[o]? else none) else κ.cell x o
    tok := fun i => if i = t' then some (b, p + m) else κ.tok i }
  have hle : κ.le κ' := by
    refine ⟨rfl, rfl, fun x o v k => ?_, fun _ _ k => k, fun _ _ k => k, fun i x k => ?_⟩
    · simp only [κ']; rw [if_neg]; exact k
      rintro ⟨rfl, hp⟩; rw [hfree o hp] at k; cases k
    · simp only [κ']; rw [if_neg]; exact k
      intro e; subst e; rw [ht'.2.2] at k; cases k
  have htt : t ≠ t' := fun e => by subst e; rw [ht'.1] at hs; cases hs
  have hsub : ∀ i o, i ≠ t' → upd (del σ t) t' .tip i = some o → i ≠ t ∧ σ i = some o := fun i o hi k => by
    rw [upd_ne _ _ hi] at k
    by_cases hit : i = t
    · subst hit; rw [del_same] at k; cases k
    · rw [del_ne _ hit] at k; exact ⟨hit, k⟩
  refine ⟨κ', hle, ?_, ?_, by simp [κ']⟩
  · have hlive : ∀ i b, κ.obj i = some b → upd (del σ t) t' .tip i ≠ none → σ i ≠ none := fun i b k1 k e => by
      have hi : i ≠ t' := fun e => by subst e; rw [ht'.2.1] at k1; cases k1
      rw [upd_ne _ _ hi] at k
      simp only [del] at k; split at k
      · exact k rfl
      · exact k e
    refine ⟨setBlock_below h.below hbase, by rw [setBlock_size]; exact h.base, ?_, ?_, ?_, fun i j b hi hj ki kj => h.inj i j b (hlive i b ki hi) (hlive j b kj hj) ki kj, ?_, ?_, ?_, ?_⟩
    · intro x o v k
      simp only [κ'] at k
      split at k
      · rename_i hx; obtain ⟨rfl, hp⟩ := hx
        split at k
        · refine ⟨by rw [heap_cell (setBlock_same hbl)]; exact k, ho v ?_⟩
          rw [Array.mem_toList_iff]; exact Array.mem_of_getElem? k
        · cases k
      · by_cases hx : x = b
        · subst hx
          have hp : o < p := by
            rename_i hn; rcases Nat.lt_or_ge o p with hp | hp
            · exact hp
            · exact absurd ⟨rfl, hp⟩ hn
          have := h.cell x o v k
          rw [heap_cell hw] at this
          rw [heap_cell (setBlock_same hbl), hold o hp]; exact this
        · rw [setBlock_cell_ne hx]; exact h.cell x o v k
    · intro x n k
      by_cases hx : x = b
      · subst hx
        obtain ⟨c1, e1, f1, k1, k2⟩ := h.size x n k
        rw [hw] at k1; cases k1
        exact ⟨c', e, _, setBlock_same hbl, by rw [hsz]; exact k2⟩
      · rw [setBlock_ne hx]; exact h.size x n k
    · intro i x k
      obtain ⟨h1, h2, h3⟩ := h.obj i x k
      refine ⟨h1, by rw [setBlock_size]; exact h2, fun hl o => ?_⟩
      simp only [κ']; rw [if_neg]; exact h3 (hlive i x k hl) o
      rintro ⟨rfl, _⟩; exact hno i k
    · intro i cs k
      have hi : i ≠ t' := fun e => by subst e; rw [upd_same] at k; cases k
      obtain ⟨b1, c1, e1, vs1, us1, k1, k2, k3, k4, k5, k6⟩ := h.cells i cs (hsub i _ hi k).2
      have : b1 ≠ b := fun e => hno i (e ▸ k1)
      exact ⟨b1, c1, e1, vs1, us1, k1, by rw [setBlock_ne this]; exact k2, k3, k4, k5.mono hle, k6⟩
    · intro i es k
      have hi : i ≠ t' := fun e => by subst e; rw [upd_same] at k; cases k
      obtain ⟨b1, c1, clk, k1, k2, k3, k4⟩ := h.map i es (hsub i _ hi k).2
      have : b1 ≠ b := fun e => hno i (e ▸ k1)
      exact ⟨b1, c1, clk, k1, by rw [setBlock_ne this]; exact k2, k3, k4.mono hle⟩
    · intro i x q k1 k2
      by_cases hi : i = t'
      · subst hi
        simp only [κ', if_true] at k2; cases k2
        refine ⟨hbase, ⟨c', e, setBlock_same hbl, ho⟩, fun o hq => ?_, hno, fun t'' p' e' k' => ?_⟩
        · simp only [κ']; rw [if_pos ⟨trivial, by omega⟩, if_neg (by omega)]
        · by_cases h2 : t'' = i
          · exact h2
          · simp only [κ'] at k'; rw [if_neg h2] at k'
            obtain ⟨h3, h4⟩ := hsub t'' _ h2 e'
            exact absurd (huniq t'' p' h4 k') h3
      · obtain ⟨hit, k1'⟩ := hsub i _ hi k1
        simp only [κ'] at k2; rw [if_neg hi] at k2
        obtain ⟨h1, ⟨c1, e1, h2, h2'⟩, h3, h4, h5⟩ := h.tip i x q k1' k2
        have hx : x ≠ b := fun e => by subst e; exact hit (huniq i q k1' k2)
        refine ⟨h1, ⟨c1, e1, by rw [setBlock_ne hx]; exact h2, h2'⟩, fun o hq => ?_, h4, fun t'' p' e' k' => ?_⟩
        · simp only [κ']; rw [if_neg (fun k => hx k.1)]; exact h3 o hq
        · by_cases h6 : t'' = t'
          · subst h6; simp only [κ', if_true] at k'; injection k' with k'; injection k' with k1 k2; exact absurd k1.symm hx
          · simp only [κ'] at k'; rw [if_neg h6] at k'
            exact h5 t'' p' (hsub t'' _ h6 e').2 k'
    · obtain ⟨N, hN⟩ := h.fin
      refine ⟨max N (t' + 1), fun n hn => ?_⟩
      have hnt : n ≠ t' := by omega
      obtain ⟨h1, h2, h3⟩ := hN n (by omega)
      refine ⟨?_, h2, ?_⟩
      · rw [upd_ne _ _ hnt]; simp only [del]; split
        · rfl
        · exact h1
      · simp only [κ']; rw [if_neg hnt]; exact h3
  · intro i v hi hv
    simp only [κ']; rw [if_pos ⟨trivial, by omega⟩, if_pos (by omega)]; exact hv
/-- An object gets another name. -/
theorem Inv.rename {κ : Ghost} {σ : AHeap} {w : World} (h : Inv κ σ w) {r r' b : Nat} {cs : List AVal} (hs : σ r = some (.cells cs)) (hb : κ.obj r = some b)
    (ht : σ r' = none ∧ κ.obj r' = none ∧ κ.tok r' = none) :
    ∃ κ', κ.le κ' ∧ Inv κ' (upd (del σ r) r' (.cells cs)) w ∧ κ'.obj r' = some b := by
  let κ' : Ghost := { κ with obj := fun i => if i = r' then some b else κ.obj i }
  have hle : κ.le κ' := by
    refine ⟨rfl, rfl, fun _ _ _ e => e, fun _ _ e => e, fun i b e => ?_, fun _ _ e => e⟩
    simp only [κ']; rw [if_neg]; exact e
    intro k; subst k; rw [ht.2.1] at e; cases e
  have hrr : r ≠ r' := fun e => by subst e; rw [ht.1] at hs; cases hs
  have hsub : ∀ i o, i ≠ r' → upd (del σ r) r' (.cells cs) i = some o → i ≠ r ∧ σ i = some o := fun i o hi k => by
    rw [upd_ne _ _ hi] at k
    by_cases hit : i = r
    · subst hit; rw [del_same] at k; cases k
    · rw [del_ne _ hit] at k; exact ⟨hit, k⟩
  have hlive : ∀ i, i ≠ r' → upd (del σ r) r' (.cells cs) i ≠ none → i ≠ r ∧ σ i ≠ none := fun i hi k => by
    cases e : upd (del σ r) r' (.cells cs) i with
    | none => exact absurd e k
    | some o => have := hsub i o hi e; exact ⟨this.1, by rw [this.2]; simp⟩
  refine ⟨κ', hle, ?_, by simp [κ']⟩
  refine ⟨h.below, h.base, h.cell, h.size, ?_, ?_, ?_, ?_, ?_, ?_⟩
  · intro i x e
    simp only [κ'] at e
    split at e
    · cases e; obtain ⟨h1, h2, h3⟩ := h.obj r b hb; exact ⟨h1, h2, fun _ => h3 (by rw [hs]; nofun)⟩
    · rename_i hne; obtain ⟨h1, h2, h3⟩ := h.obj i x e; exact ⟨h1, h2, fun hl => h3 (hlive i hne hl).2⟩
  · intro i j x li lj ki kj
    simp only [κ'] at ki kj
    split at ki
    · cases ki
      split at kj
      · rename_i a b; rw [a, b]
      · rename_i nj
        have := hlive j nj lj
        exact absurd (h.inj j r _ this.2 (by rw [hs]; simp) kj hb) this.1
    · rename_i ni
      split at kj
      · cases kj
        have := hlive i ni li
        exact absurd (h.inj i r _ this.2 (by rw [hs]; simp) ki hb) this.1
      · rename_i nj
        exact h.inj i j x (hlive i ni li).2 (hlive j nj lj).2 ki kj
  · intro i cs' e
    by_cases hi : i = r'
    · subst hi
      rw [upd_same] at e; injection e with e; injection e with e; subst e
      obtain ⟨b1, c, e1, vs, us, k1, k2, k3, k4, k5, k6⟩ := h.cells r cs hs
      rw [hb] at k1; cases k1
      exact ⟨b, c, e1, vs, us, by simp [κ'], k2, k3, k4, k5.mono hle, k6⟩
    · obtain ⟨b1, c, e1, vs, us, k1, k2, k3, k4, k5, k6⟩ := h.cells i cs' (hsub i _ hi e).2
      exact ⟨b1, c, e1, vs, us, hle.obj _ _ k1, k2, k3, k4, k5.mono hle, k6⟩
  · intro i es e
    have hi : i ≠ r' := fun k => by subst k; rw [upd_same] at e; cases e
    obtain ⟨b1, c, clk, k1, k2, k3, k4⟩ := h.map i es (hsub i _ hi e).2
    exact ⟨b1, c, clk, hle.obj _ _ k1, k2, k3, k4.mono hle⟩
  · intro t x p e k
    have hi : t ≠ r' := fun k => by subst k; rw [upd_same] at e; cases e
    obtain ⟨h1, h2, h3, h4, h5⟩ := h.tip t x p (hsub t _ hi e).2 k
    refine ⟨h1, h2, h3, fun i k' => ?_, fun t'' p' e' k' => ?_⟩
    · simp only [κ'] at k'
      split at k'
      · cases k'; exact h4 r hb
      · exact h4 i k'
    · have hi' : t'' ≠ r' := fun k => by subst k; rw [upd_same] at e'; cases e'
      exact h5 t'' p' (hsub t'' _ hi' e').2 k'
  · obtain ⟨N, hN⟩ := h.fin
    refine ⟨max N (r' + 1), fun n hn => ?_⟩
    have hnt : n ≠ r' := by omega
    obtain ⟨h1, h2, h3⟩ := hN n (by omega)
    refine ⟨?_, ?_, h3⟩
    · rw [upd_ne _ _ hnt]; simp only [del]; split
      · rfl
      · exact h1
    · simp only [κ']; rw [if_neg hnt]; exact h2

/-- A named object's cells will not change any more. -/
theorem Inv.still {κ : Ghost} {σ : AHeap} {w : World} (h : Inv κ σ w) {r b : Nat} {cs : List AVal} (hs : σ r = some (.cells cs)) (hb : κ.obj r = some b) :
    ∃ κ' vs, κ.le κ' ∧ Inv κ' (del σ r) w ∧ RepL κ cs vs ∧ ∀ i v, vs[i]? = some v → κ'.cell b i = some v := by
  obtain ⟨b', c, e, vs, us, k1, k2, k3, k4, k5, k6, k7⟩ := h.cells r cs hs
  rw [hb] at k1; cases k1
  have hl : σ r ≠ none := by rw [hs]; nofun
  have hfree := (h.obj r b hb).2.2 hl
  let κ' : Ghost := { κ with cell := fun x o => if x = b then vs[o]? else κ.cell x o }
  have hle : κ.le κ' := by
    refine ⟨rfl, rfl, fun x o v k => ?_, fun _ _ k => k, fun _ _ k => k, fun _ _ k => k⟩
    simp only [κ']; rw [if_neg]; exact k
    intro hx; subst hx; rw [hfree o] at k; cases k
  have hsub : Sub σ (del σ r) := Sub.del r
  refine ⟨κ', vs, hle, ?_, k5, fun i v k => by simp only [κ', if_true]; exact k⟩
  refine ⟨h.below, h.base, fun x o v k => ?_, h.size, fun i x k => ?_, fun i j x hi hj => h.inj i j x (hsub.live hi) (hsub.live hj), fun i cs1 k => ?_, fun i es k => ?_, fun t x p k kt => ?_, ?_⟩
  · simp only [κ'] at k
    split at k
    · rename_i hx; subst hx
      refine ⟨?_, k6 v (List.mem_of_getElem? k)⟩
      rw [heap_cell k2, ← Array.getElem?_toList, k4, List.getElem?_append_left (List.getElem?_eq_some_iff.1 k).1]; exact k
    · exact h.cell x o v k
  · obtain ⟨h1, h2, h3⟩ := h.obj i x k
    refine ⟨h1, h2, fun hli o => ?_⟩
    have hli2 := hsub.live hli
    have hir : i ≠ r := fun q => by subst q; rw [del_same] at hli; exact hli rfl
    simp only [κ']; rw [if_neg]; exact h3 hli2 o
    intro hx; subst hx; exact hir (h.inj i r x hli2 hl k hb)
  · obtain ⟨b1, c1, e1, vs1, us1, q1, q2, q3, q4, q5, q6⟩ := h.cells i cs1 (hsub _ _ k)
    exact ⟨b1, c1, e1, vs1, us1, q1, q2, q3, q4, q5.mono hle, q6⟩
  · obtain ⟨b1, c1, clk, q1, q2, q3, q4⟩ := h.map i es (hsub _ _ k)
    exact ⟨b1, c1, clk, q1, q2, q3, q4.mono hle⟩
  · obtain ⟨h1, h2, h3, h4, h5⟩ := h.tip t x p (hsub _ _ k) kt
    refine ⟨h1, h2, fun o ho => ?_, h4, fun t' p' k' kt' => h5 t' p' (hsub _ _ k') kt'⟩
    simp only [κ']; rw [if_neg]; exact h3 o ho
    intro hx; subst hx; exact h4 r hb
  · obtain ⟨N, hN⟩ := h.fin
    refine ⟨N, fun n hn => ⟨?_, (hN n hn).2⟩⟩
    unfold del; split
    · rfl
    · exact (hN n hn).1
end Go.Am
/-
  The small language that a body is compiled to, what its operations come to at abstract values ('ev'), and the compiler.
-/
namespace Go.Am
set_option linter.unusedSectionVars false

/-- A slot's place in the tree of slots. -/
inductive Pth where
  | e | l (p : Pth) | r (p : Pth)

def Pth.num : Pth → Nat
  | .e => 0
  | .l p => 2 * p.num + 1
  | .r p => 2 * p.num + 2

def pthF : Nat → Nat → Pth
  | 0, _ => .e
  | _ + 1, 0 => .e
  | f + 1, n + 1 => bif Nat.beq (n % 2) 0 then .l (pthF f (n / 2)) else .r (pthF f (n / 2))
def pth (n : Nat) : Pth := pthF (n + 1) n

inductive Env where
  | nil | node (a : Env) (x : AVal) (b : Env)

def Env.full : Nat → Env
  | 0 => .nil
  | n + 1 => .node (Env.full n) .top (Env.full n)

def Env.get : Env → Pth → AVal
  | .nil, _ => .top
  | .node _ x _, .e => x
  | .node a _ _, .l p => a.get p
  | .node _ _ b, .r p => b.get p

def Env.set : Env → Pth → AVal → Env
  | .nil, _, _ => .nil
  | .node a _ b, .e, v => .node a v b
  | .node a x b, .l p, v => .node (a.set p v) x b
  | .node a x b, .r p, v => .node a x (b.set p v)

def Env.setK {β : Sort _} : Env → Pth → AVal → (Env → β) → β
  | .nil, _, _, k => k .nil
  | .node a _ b, .e, v, k => k (.node a v b)
  | .node a x b, .l p, v, k => a.setK p v fun a' => k (.node a' x b)
  | .node a x b, .r p, v, k => b.setK p v fun b' => k (.node a x b')

theorem Env.setK_eq {β : Sort _} (k : Env → β) (e : Env) (p : Pth) (v : AVal) : e.setK p v k = k (e.set p v) := by
  induction e generalizing p k with
  | nil => rfl
  | node a x b iha ihb => cases p with
    | e => rfl
    | l p => exact iha _ p
    | r p => exact ihb _ p

theorem Env.get_set_ne (e : Env) {p q : Pth} (v : AVal) (h : q ≠ p) : (e.set p v).get q = e.get q := by
  induction e generalizing p q with
  | nil => rfl
  | node a x b iha ihb =>
    cases p <;> cases q <;> first
      | rfl
      | exact absurd rfl h
      | exact iha (fun e => h (congrArg _ e))
      | exact ihb (fun e => h (congrArg _ e))
theorem Env.get_set (e : Env) (p : Pth) (v : AVal) : (e.set p v).get p = v ∨ (e.set p v).get p = .top := by
  induction e generalizing p with
  | nil => exact .inr rfl
  | node a x b iha ihb => cases p with
    | e => exact .inl rfl
    | l p => exact iha p
    | r p => exact ihb p
theorem Env.set_get (e : Env) (p : Pth) : e.set p (e.get p) = e := by
  induction e generalizing p with
  | nil => rfl
  | node a x b iha ihb => cases p with
    | e => rfl
    | l p => simp only [Env.set, Env.get]; rw [iha p]
    | r p => simp only [Env.set, Env.get]; rw [ihb p]
theorem Env.set_comm (e : Env) {p q : Pth} (u v : AVal) (h : p ≠ q) : (e.set p u).set q v = (e.set q v).set p u := by
  induction e generalizing p q with
  | nil => rfl
  | node a x b iha ihb =>
    cases p <;> cases q <;> first
      | rfl
      | exact absurd rfl h
      | (simp only [Env.set]; rw [iha (fun e => h (congrArg _ e))])
      | (simp only [Env.set]; rw [ihb (fun e => h (congrArg _ e))])

theorem Pth.num_inj : ∀ {p q : Pth}, p.num = q.num → p = q
  | .e, .e, _ => rfl
  | .e, .l _, h => by simp only [Pth.num] at h; omega
  | .e, .r _, h => by simp only [Pth.num] at h; omega
  | .l _, .e, h => by simp only [Pth.num] at h; omega
  | .r _, .e, h => by simp only [Pth.num] at h; omega
  | .l _, .r _, h => by simp only [Pth.num] at h; omega
  | .r _, .l _, h => by simp only [Pth.num] at h; omega
  | .l p, .l q, h => by simp only [Pth.num] at h; rw [Pth.num_inj (p := p) (q := q) (by omega)]
  | .r p, .r q, h => by simp only [Pth.num] at h; rw [Pth.num_inj (p := p) (q := q) (by omega)]

theorem num_pthF : ∀ (f n : Nat), n < f → (pthF f n).num = n
  | 0, n, h => by omega
  | f + 1, 0, _ => rfl
  | f + 1, n + 1, h => by
    have := num_pthF f (n / 2) (by omega)
    simp only [pthF]
    cases hb : Nat.beq (n % 2) 0 with
    | true => have := Nat.eq_of_beq_eq_true hb; simp only [cond_true, Pth.num]; omega
    | false => have := Nat.ne_of_beq_eq_false hb; simp only [cond_false, Pth.num]; omega
theorem num_pth (n : Nat) : (pth n).num = n := num_pthF _ _ (by omega)

/-- An operand. -/
inductive Opd where
  | t (p : Pth) | c (x : AVal)

def Opd.get (env : Env) : Opd → AVal
  | .t p => env.get p
  | .c x => x

def Env.getK : Env → Pth → (AVal → Prop) → Prop
  | .nil, _, k => k .top
  | .node _ x _, .e, k => k x
  | .node a _ _, .l p, k => a.getK p k
  | .node _ _ b, .r p, k => b.getK p k
theorem Env.getK_eq : ∀ (e : Env) (p : Pth) (k : AVal → Prop), e.getK p k = k (e.get p)
  | .nil, _, _ => rfl
  | .node _ _ _, .e, _ => rfl
  | .node a _ _, .l p, k => a.getK_eq p k
  | .node _ _ b, .r p, k => b.getK_eq p k
def Opd.getK (env : Env) (x : Opd) (k : AVal → Prop) : Prop :=
  match x with
  | .t p => env.getK p k
  | .c x => k x
theorem Opd.getK_eq (env : Env) (x : Opd) (k : AVal → Prop) : x.getK env k = k (x.get env) := by
  cases x with
  | t p => exact Env.getK_eq env p k
  | c x => rfl

/-- An operation. -/
inductive IOp where
  | mv (x : Opd)
  | pick (c a b : Opd)
  | bin (tb : Bool) (op : BinOp) (x y : Opd)
  | eqNil (kd : Nat) (neg : Bool) (x : Opd)
  | eqAgg (neg : Bool) (ks : List Bool) (x y : Opd)
  | not (x : Opd)
  | conv (k : IntKind) (x : Opd)
  | b2s (x : Opd)
  | s2b (x : Opd)
  | rowT (s : Nat) (xs : List Opd)
  | mark (x : Opd)
  | new (zero : List AVal)
  | box (n : Nat) (x : Opd)
  | build (zero : List AVal) (parts : List (Nat × Nat × Opd))
  | row (s : Nat) (xs : List Opd)
  | load (agg : Option Nat) (a : Opd)
  | store (n : Nat) (a x : Opd)
  | nilchk (x : Opd)
  | faddr (off : Nat) (x : Opd)
  | field (agg : Option Nat) (off : Nat) (x : Opd)
  | iaddr (s : Nat) (x i : Opd)
  | iaddrA (s n : Nat) (x i : Opd)
  | index (agg : Option Nat) (s n : Nat) (x i : Opd)
  | cut (s : Nat) (x : Opd) (lo hi mx : Option Opd)
  | mk (bytes : Nat) (zero : AVal) (len cap : Opd)
  | mkmap
  | look (zero : AVal) (m k : Opd)
  | cap (x : Opd)
  | mset (m k x : Opd)
  | mdel (m k : Opd)
  | fn (g : FuncId) (first caps : List Opd)
  | ext (x : Opd) (i : Nat)
  | call (g : FuncId) (args : List Opd)
  | callq (g : FuncId) (args : List Opd)
  | callp (g : FuncId) (args : List Opd)
  | never
  | cutc (s : Nat) (x hi : Opd)
  | callv (f : Opd) (args : List Opd)
  | app (s bytes : Nat) (x y : Opd)
  | appm (s bytes : Nat) (x y : Opd)
  | app0 (s bytes : Nat) (zero : AVal) (x n : Opd)
  | len (str : Bool) (x : Opd)
  | mxmn (mx : Bool) (x y : Opd)
  | min3 (x y z : Opd)
  | mlen (x : Opd)
  | clr (zero : AVal) (x : Opd)
  | mkm (bytes : Nat) (zero : AVal) (len cap : Opd)

structure IRow where
  dst : Option Pth
  guard : Option (Pth × Bool)
  op : IOp

/-- The rows of a region, in an order; where more than one order counts, each. -/
inductive RT where
  | done
  | one (r : IRow) (t : RT)
  | both (a b : RT)

inductive ICode where
  | skip
  | reg (t : RT)
  | seq (a b : ICode)
  | cond (c : Opd) (a b : ICode)
  | block (id : Nat) (b : ICode)
  | loop (b : ICode)
  | exit (id : Nat)
  | scope (b : ICode)
  | label (l : Nat)
  | goto (l : Nat)
  | ret

/-! What stands still until a lemma says how it goes on. -/
structure ABr (b : Bool) (K : Bool → Prop) : Prop where of ::
  out : K b
theorem ABr_def (b : Bool) (K : Bool → Prop) : ABr b K = (K b) := propext ⟨fun h => h.out, fun h => ⟨h⟩⟩
structure AFit (k : IntKind) (n : Int) (K : Int → Prop) : Prop where of ::
  out : K (k.wrap n)
theorem AFit_def (k : IntKind) (n : Int) (K : Int → Prop) : AFit k n K = (K (k.wrap n)) := propext ⟨fun h => h.out, fun h => ⟨h⟩⟩
structure ADiv (k : IntKind) (a b : Int) (K : Int → Prop) : Prop where of ::
  out : b ≠ 0 ∧ K (k.wrap (a.tdiv b))
theorem ADiv_def (k : IntKind) (a b : Int) (K : Int → Prop) : ADiv k a b K = (b ≠ 0 ∧ K (k.wrap (a.tdiv b))) := propext ⟨fun h => h.out, fun h => ⟨h⟩⟩
structure ARem (a b : Int) (K : Int → Prop) : Prop where of ::
  out : b ≠ 0 ∧ K (a.tmod b)
theorem ARem_def (a b : Int) (K : Int → Prop) : ARem a b K = (b ≠ 0 ∧ K (a.tmod b)) := propext ⟨fun h => h.out, fun h => ⟨h⟩⟩
structure AShl (k : IntKind) (a b : Int) (K : Int → Prop) : Prop where of ::
  out : 0 ≤ b ∧ K (k.wrap (a * 2 ^ (min b.toNat k.bits)))
theorem AShl_def (k : IntKind) (a b : Int) (K : Int → Prop) : AShl k a b K = (0 ≤ b ∧ K (k.wrap (a * 2 ^ (min b.toNat k.bits)))) := propext ⟨fun h => h.out, fun h => ⟨h⟩⟩
structure AShr (k : IntKind) (a b : Int) (K : Int → Prop) : Prop where of ::
  out : 0 ≤ b ∧ K (a.fdiv (2 ^ (min b.toNat k.bits)))
theorem AShr_def (k : IntKind) (a b : Int) (K : Int → Prop) : AShr k a b K = (0 ≤ b ∧ K (a.fdiv (2 ^ (min b.toNat k.bits)))) := propext ⟨fun h => h.out, fun h => ⟨h⟩⟩
def bitsOp (op : BinOp) (k : IntKind) (x y : Int) : Int :=
  let a := BitVec.ofInt k.bits x
  let b := BitVec.ofInt k.bits y
  match op with
  | .and => k.wrap (a &&& b).toNat
  | .or => k.wrap (a ||| b).toNat
  | .xor => k.wrap (a ^^^ b).toNat
  | _ => k.wrap (a &&& ~~~b).toNat
structure ABits (op : BinOp) (k : IntKind) (a b : Int) (K : Int → Prop) : Prop where of ::
  out : K (bitsOp op k a b)
theorem ABits_def (op : BinOp) (k : IntKind) (a b : Int) (K : Int → Prop) : ABits op k a b K = (K (bitsOp op k a b)) := propext ⟨fun h => h.out, fun h => ⟨h⟩⟩
structure AMx (mx : Bool) (a b : Int) (K : Int → Prop) : Prop where of ::
  out : K (if mx then (if b > a then b else a) else (if b < a then b else a))
theorem AMx_def (mx : Bool) (a b : Int) (K : Int → Prop) : AMx mx a b K = (K (if mx then (if b > a then b else a) else (if b < a then b else a))) := propext ⟨fun h => h.out, fun h => ⟨h⟩⟩
/-- An element of a list that is not written out. -/
structure AGet (xs : List AVal) (i : Int) (K : AVal → Prop) : Prop where of ::
  out : ∃ x, 0 ≤ i ∧ xs[i.toNat]? = some x ∧ K x
theorem AGet_def (xs : List AVal) (i : Int) (K : AVal → Prop) : AGet xs i K = (∃ x, 0 ≤ i ∧ xs[i.toNat]? = some x ∧ K x) := propext ⟨fun h => h.out, fun h => ⟨h⟩⟩
/-- A cell, or n of them, out of a list of cells. -/
def cellsAt (cs : List AVal) (off : Nat) (agg : Option Nat) (K : AVal → Prop) : Prop :=
  match agg with
  | none => ∃ x, cs[off]? = some x ∧ K x
  | some n => off + n ≤ cs.length ∧ K (.agg ((cs.drop off).take n))
structure ACell (cs : List AVal) (off : Nat) (agg : Option Nat) (K : AVal → Prop) : Prop where of ::
  out : cellsAt cs off agg K
theorem ACell_def (cs : List AVal) (off : Nat) (agg : Option Nat) (K : AVal → Prop) : ACell cs off agg K = (cellsAt cs off agg K) := propext ⟨fun h => h.out, fun h => ⟨h⟩⟩
structure ALoad (σ : AHeap) (id off : Nat) (agg : Option Nat) (K : AVal → Prop) : Prop where of ::
  out : ∃ cs, σ id = some (.cells cs) ∧ cellsAt cs off agg K
theorem ALoad_def (σ : AHeap) (id off : Nat) (agg : Option Nat) (K : AVal → Prop) : ALoad σ id off agg K = (∃ cs, σ id = some (.cells cs) ∧ cellsAt cs off agg K) := propext ⟨fun h => h.out, fun h => ⟨h⟩⟩
def splice {α : Type} (cs : List α) (off : Nat) (xs : List α) : List α := cs.take off ++ xs ++ cs.drop (off + xs.length)
structure AStore (σ : AHeap) (id off : Nat) (xs : List AVal) (K : AHeap → Prop) : Prop where of ::
  out : ∃ cs, σ id = some (.cells cs) ∧ off + xs.length ≤ cs.length ∧ xs.all AVal.isCell = true ∧ K (upd σ id (.cells (splice cs off xs)))
theorem AStore_def (σ : AHeap) (id off : Nat) (xs : List AVal) (K : AHeap → Prop) : AStore σ id off xs K = (∃ cs, σ id = some (.cells cs) ∧ off + xs.length ≤ cs.length ∧ xs.all AVal.isCell = true ∧ K (upd σ id (.cells (splice cs off xs)))) := propext ⟨fun h => h.out, fun h => ⟨h⟩⟩
structure ANew (σ : AHeap) (xs : List AVal) (K : Nat → AHeap → Prop) : Prop where of ::
  out : xs.all AVal.isCell = true ∧ ∀ id, σ id = none → K id (upd σ id (.cells xs))
theorem ANew_def (σ : AHeap) (xs : List AVal) (K : Nat → AHeap → Prop) : ANew σ xs K = (xs.all AVal.isCell = true ∧ ∀ id, σ id = none → K id (upd σ id (.cells xs))) := propext ⟨fun h => h.out, fun h => ⟨h⟩⟩
/-- A row with the right to append. -/
structure ARowT (σ : AHeap) (s : Nat) (xs : List AVal) (K : AVal → AHeap → Prop) : Prop where of ::
  out : ∀ t, σ t = none → K (.slice s xs (.own t)) (upd σ t .tip)
theorem ARowT_def (σ : AHeap) (s : Nat) (xs : List AVal) (K : AVal → AHeap → Prop) : ARowT σ s xs K = (∀ t, σ t = none → K (.slice s xs (.own t)) (upd σ t .tip)) := propext ⟨fun h => h.out, fun h => ⟨h⟩⟩
/-- The right to append, given up. -/
structure AMark (σ : AHeap) (xs : List AVal) (t : Tok) (K : AHeap → Prop) : Prop where of ::
  out : xs ≠ [] ∧ ∃ t0, t = .own t0 ∧ σ t0 = some .tip ∧ K (del σ t0)
theorem AMark_def (σ : AHeap) (xs : List AVal) (t : Tok) (K : AHeap → Prop) : AMark σ xs t K = (xs ≠ [] ∧ ∃ t0, t = .own t0 ∧ σ t0 = some .tip ∧ K (del σ t0)) := propext ⟨fun h => h.out, fun h => ⟨h⟩⟩
/-- A piece of a slice's list. -/
structure ACut (n : Nat) (lo hi : Int) (K : Nat → Nat → Prop) : Prop where of ::
  out : 0 ≤ lo ∧ lo ≤ hi ∧ hi ≤ n ∧ K lo.toNat hi.toNat
theorem ACut_def (n : Nat) (lo hi : Int) (K : Nat → Nat → Prop) : ACut n lo hi K = (0 ≤ lo ∧ lo ≤ hi ∧ hi ≤ n ∧ K lo.toNat hi.toNat) := propext ⟨fun h => h.out, fun h => ⟨h⟩⟩
structure ANil (xs : List AVal) (K : Bool → Prop) : Prop where of ::
  out : K false ∧ (xs = [] → K true)
theorem ANil_def (xs : List AVal) (K : Bool → Prop) : ANil xs K = (K false ∧ (xs = [] → K true)) := propext ⟨fun h => h.out, fun h => ⟨h⟩⟩
def byteV (b : UInt8) : AVal := .v (.int .u8 b.toNat)
structure AStr (xs : List AVal) (K : ByteArray → Prop) : Prop where of ::
  out : ∃ bs : List UInt8, xs = bs.map byteV ∧ K ⟨bs.toArray⟩
theorem AStr_def (xs : List AVal) (K : ByteArray → Prop) : AStr xs K = (∃ bs : List UInt8, xs = bs.map byteV ∧ K ⟨bs.toArray⟩) := propext ⟨fun h => h.out, fun h => ⟨h⟩⟩
structure AMk (bytes : Nat) (n : Int) (K : Nat → Prop) : Prop where of ::
  out : 0 ≤ n ∧ n < 4611686018427387904 ∧ n * bytes ≤ 281474976710656 ∧ K n.toNat
theorem AMk_def (bytes : Nat) (n : Int) (K : Nat → Prop) : AMk bytes n K = (0 ≤ n ∧ n < 4611686018427387904 ∧ n * bytes ≤ 281474976710656 ∧ K n.toNat) := propext ⟨fun h => h.out, fun h => ⟨h⟩⟩

/-- The right to append: where it stands after the append. -/
inductive AppWay (σ : AHeap) : Tok → AHeap → Prop
  | full : AppWay σ .full σ
  | tip {t} : σ t = some .tip → AppWay σ (.tip t) (del σ t)

/-- An append of a list of elements to a slice's list: the list behind each other, and a right to append again. -/
structure AApp (σ : AHeap) (s bytes : Nat) (xs : List AVal) (t : Tok) (ys : List AVal) (K : AVal → AHeap → Prop) : Prop where of ::
  out : ∃ σ', AppWay σ t σ' ∧ (xs.length + ys.length) * bytes ≤ 140737488355328 ∧ ∀ t', σ t' = none → K (.slice s (xs ++ ys) (.tip t')) (upd σ' t' .tip)
theorem AApp_def (σ : AHeap) (s bytes : Nat) (xs : List AVal) (t : Tok) (ys : List AVal) (K : AVal → AHeap → Prop) : AApp σ s bytes xs t ys K = (∃ σ', AppWay σ t σ' ∧ (xs.length + ys.length) * bytes ≤ 140737488355328 ∧ ∀ t', σ t' = none → K (.slice s (xs ++ ys) (.tip t')) (upd σ' t' .tip)) := propext ⟨fun h => h.out, fun h => ⟨h⟩⟩

/-- Semantics of a call, over the kit's 'Calls'. -/
structure ACalls (P : Program) (f : FuncId) (args : List AVal) (σ : AHeap) (Q : AVal → AHeap → Prop) : Prop where of ::
  out : ∀ κ w cargs, Inv κ σ w → RepL κ args cargs → Calls P f cargs.toArray w fun e w' => ∃ v κ' σ' x, e = .returned v ∧ κ.le κ' ∧ Inv κ' σ' w' ∧ RepV κ' x v ∧ Q x σ'
theorem ACalls_def (P : Program) (f : FuncId) (args : List AVal) (σ : AHeap) (Q : AVal → AHeap → Prop) : ACalls P f args σ Q = (∀ κ w cargs, Inv κ σ w → RepL κ args cargs → Calls P f cargs.toArray w fun e w' => ∃ v κ' σ' x, e = .returned v ∧ κ.le κ' ∧ Inv κ' σ' w' ∧ RepV κ' x v ∧ Q x σ') := propext ⟨fun h => h.out, fun h => ⟨h⟩⟩

/-- The order of two numbers, decided (not to be unfolded). -/
@[irreducible] def ltDec (a b : Int) : Decidable (a < b) := inferInstance
@[irreducible] def leDec (a b : Int) : Decidable (a ≤ b) := inferInstance

def binE (tb : Bool) (op : BinOp) (x y : Value) (K : Value → Prop) : Prop :=
  match x, y with
  | .int k a, .int k' b =>
    match op with
    | .shl => AShl k a b fun n => K (.int k n)
    | .shr => AShr k a b fun n => K (.int k n)
    | op => bif decide (k = k') then (match op with
      | .add => AFit k (a + b) fun n => K (.int k n)
      | .sub => AFit k (a - b) fun n => K (.int k n)
      | .mul => AFit k (a * b) fun n => K (.int k n)
      | .quo => ADiv k a b fun n => K (.int k n)
      | .rem => ARem a b fun n => K (.int k n)
      | .and => ABits .and k a b fun n => K (.int k n)
      | .or => ABits .or k a b fun n => K (.int k n)
      | .xor => ABits .xor k a b fun n => K (.int k n)
      | .andNot => ABits .andNot k a b fun n => K (.int k n)
      | .eql => K (.bool (decide (a = b)))
      | .neq => K (.bool (decide (a ≠ b)))
      | .lss => K (.bool (@decide (a < b) (ltDec a b)))
      | .leq => K (.bool (@decide (a ≤ b) (leDec a b)))
      | .gtr => K (.bool (@decide (b < a) (ltDec b a)))
      | .geq => K (.bool (@decide (b ≤ a) (leDec b a)))
      | _ => False) else False
  | .bool a, .bool b =>
    match tb, op with
    | true, .eql => K (.bool (a == b))
    | true, .neq => K (.bool (!(a == b)))
    | _, _ => False
  | .string a, .string b =>
    match op with
    | .eql => K (.bool (decide (a.data.toList = b.data.toList)))
    | .neq => K (.bool (decide (a.data.toList ≠ b.data.toList)))
    | _ => False
  | _, _ => False

/-- Are two lists of plain cells equal? -/
def eqCells : List Bool → List AVal → List AVal → (Bool → Prop) → Prop
  | [], [], [], K => K true
  | false :: ks, .v (.int k a) :: xs, .v (.int k' b) :: ys, K => bif decide (k = k') then eqCells ks xs ys fun p => K (decide (a = b) && p) else False
  | true :: ks, .v (.bool a) :: xs, .v (.bool b) :: ys, K => eqCells ks xs ys fun p => K ((a == b) && p)
  | _, _, _, _ => False

/-- Lists of operands, looked up one by one. -/
def getLK (env : Env) : List Opd → (List AVal → Prop) → Prop
  | [], k => k []
  | x :: xs, k => x.getK env fun v => getLK env xs fun l => k (v :: l)

/-- Cells put into a list of cells from a place on. -/
def putK : List AVal → Nat → List AVal → (List AVal → Prop) → Prop
  | zs, 0, [], k => k zs
  | _ :: zs, 0, x :: xs, k => putK zs 0 xs fun l => k (x :: l)
  | z :: zs, n + 1, xs, k => putK zs n xs fun l => k (z :: l)
  | [], _, _, _ => False

def fillK (env : Env) : List (Nat × Nat × Opd) → List AVal → (List AVal → Prop) → Prop
  | [], zs, k => k zs
  | (off, n, x) :: rest, zs, k => x.getK env fun v =>
    match v with
    | .agg cs => bif Nat.beq cs.length n then putK zs off cs fun l => fillK env rest l k else False
    | y => bif Nat.beq n 1 && y.isCell then putK zs off [y] fun l => fillK env rest l k else False

def okElem (s : Nat) : AVal → Bool
  | .agg cs => Nat.beq cs.length s && cs.all AVal.isCell
  | x => Nat.beq s 1 && x.isCell

def lgetK : List AVal → Nat → (AVal → Prop) → Prop
  | [], _, _ => False
  | x :: _, 0, k => k x
  | _ :: l, n + 1, k => lgetK l n k

/-- No cells and no map are turned or lost. -/
def AObj.isTip : AObj → Bool
  | .tip => true
  | _ => false
def Ext (σ σ' : AHeap) : Prop := ∀ id o, o.isTip = false → σ id = some o → σ' id = some o

/-- An index that lies in a length. -/
structure AIdx (i : Int) (n : Nat) (K : Nat → Prop) : Prop where of ::
  out : 0 ≤ i ∧ i < n ∧ K i.toNat
theorem AIdx_def (i : Int) (n : Nat) (K : Nat → Prop) : AIdx i n K = (0 ≤ i ∧ i < n ∧ K i.toNat) := propext ⟨fun h => h.out, fun h => ⟨h⟩⟩

structure AAppNew (σ : AHeap) (s bytes : Nat) (xs : List AVal) (t : Tok) (ys : List AVal) (K : AVal → AHeap → Prop) : Prop where of ::
  out : (ys = [] ∧ xs.length * bytes ≤ 140737488355328 ∧ K (.slice s xs t) σ) ∨ (xs = [] ∧ ys ≠ [] ∧ t = .full ∧ ys.length * bytes ≤ 140737488355328 ∧ ys.all (okElem s) = true ∧
    ∀ r, σ r = none → K (.ms r s 0 ys.length) (upd σ r (.cells (ys.flatMap AVal.cells)))) ∨ AApp σ s bytes xs t ys K
theorem AAppNew_def (σ : AHeap) (s bytes : Nat) (xs : List AVal) (t : Tok) (ys : List AVal) (K : AVal → AHeap → Prop) : AAppNew σ s bytes xs t ys K = ((ys = [] ∧ xs.length * bytes ≤ 140737488355328 ∧ K (.slice s xs t) σ) ∨ (xs = [] ∧ ys ≠ [] ∧ t = .full ∧ ys.length * bytes ≤ 140737488355328 ∧ ys.all (okElem s) = true ∧
    ∀ r, σ r = none → K (.ms r s 0 ys.length) (upd σ r (.cells (ys.flatMap AVal.cells)))) ∨ AApp σ s bytes xs t ys K) := propext ⟨fun h => h.out, fun h => ⟨h⟩⟩
structure AAppM (σ : AHeap) (r s off len bytes : Nat) (ys : List AVal) (K : AVal → AHeap → Prop) : Prop where of ::
  out : off = 0 ∧ (len + ys.length) * bytes ≤ 140737488355328 ∧ ys.all (okElem s) = true ∧ ∃ cs, σ r = some (.cells cs) ∧ len * s ≤ cs.length ∧
    ∀ r', σ r' = none → K (.ms r' s 0 (len + ys.length)) (upd (del σ r) r' (.cells (cs.take (len * s) ++ ys.flatMap AVal.cells)))
theorem AAppM_def (σ : AHeap) (r s off len bytes : Nat) (ys : List AVal) (K : AVal → AHeap → Prop) : AAppM σ r s off len bytes ys K = (off = 0 ∧ (len + ys.length) * bytes ≤ 140737488355328 ∧ ys.all (okElem s) = true ∧ ∃ cs, σ r = some (.cells cs) ∧ len * s ≤ cs.length ∧
    ∀ r', σ r' = none → K (.ms r' s 0 (len + ys.length)) (upd (del σ r) r' (.cells (cs.take (len * s) ++ ys.flatMap AVal.cells)))) := propext ⟨fun h => h.out, fun h => ⟨h⟩⟩
/-- What a view of an object's cells reads as; elements of one cell. -/
structure AView (σ : AHeap) (r off ln : Nat) (K : List AVal → Prop) : Prop where of ::
  out : ∃ cs, σ r = some (.cells cs) ∧ off + ln ≤ cs.length ∧ K ((cs.drop off).take ln)
theorem AView_def (σ : AHeap) (r off ln : Nat) (K : List AVal → Prop) : AView σ r off ln K = (∃ cs, σ r = some (.cells cs) ∧ off + ln ≤ cs.length ∧ K ((cs.drop off).take ln)) := propext ⟨fun h => h.out, fun h => ⟨h⟩⟩
structure AMLen (σ : AHeap) (id : Nat) (K : AVal → Prop) : Prop where of ::
  out : ∃ es, σ id = some (.map es) ∧ K (.v (.int .i64 es.length))
theorem AMLen_def (σ : AHeap) (id : Nat) (K : AVal → Prop) : AMLen σ id K = (∃ es, σ id = some (.map es) ∧ K (.v (.int .i64 es.length))) := propext ⟨fun h => h.out, fun h => ⟨h⟩⟩
structure ALook (σ : AHeap) (id : Nat) (n : Int) (zero : AVal) (K : AVal → Prop) : Prop where of ::
  out : ∃ es, σ id = some (.map es) ∧ K (((es.find? fun e => e.1 == n).map (·.2)).getD zero)
theorem ALook_def (σ : AHeap) (id : Nat) (n : Int) (zero : AVal) (K : AVal → Prop) : ALook σ id n zero K = (∃ es, σ id = some (.map es) ∧ K (((es.find? fun e => e.1 == n).map (·.2)).getD zero)) := propext ⟨fun h => h.out, fun h => ⟨h⟩⟩
def mapSet (es : List (Int × AVal)) (n : Int) (x : AVal) : List (Int × AVal) :=
  match es with
  | [] => [(n, x)]
  | e :: es => if e.1 == n then (n, x) :: es else e :: mapSet es n x
def mapDel (es : List (Int × AVal)) (n : Int) : List (Int × AVal) := 
  match es with
  | [] => []
  | e :: es => if e.1 == n then es else e :: mapDel es n
structure AMset (σ : AHeap) (id : Nat) (n : Int) (x : AVal) (K : AHeap → Prop) : Prop where of ::
  out : ∃ es, σ id = some (.map es) ∧ x.isCell = true ∧ K (upd σ id (.map (mapSet es n x)))
theorem AMset_def (σ : AHeap) (id : Nat) (n : Int) (x : AVal) (K : AHeap → Prop) : AMset σ id n x K = (∃ es, σ id = some (.map es) ∧ x.isCell = true ∧ K (upd σ id (.map (mapSet es n x)))) := propext ⟨fun h => h.out, fun h => ⟨h⟩⟩
structure AMdel (σ : AHeap) (id : Nat) (n : Int) (K : AHeap → Prop) : Prop where of ::
  out : ∃ es, σ id = some (.map es) ∧ K (upd σ id (.map (mapDel es n)))
theorem AMdel_def (σ : AHeap) (id : Nat) (n : Int) (K : AHeap → Prop) : AMdel σ id n K = (∃ es, σ id = some (.map es) ∧ K (upd σ id (.map (mapDel es n)))) := propext ⟨fun h => h.out, fun h => ⟨h⟩⟩
structure ANewMap (σ : AHeap) (K : Nat → AHeap → Prop) : Prop where of ::
  out : ∀ id, σ id = none → K id (upd σ id (.map []))
theorem ANewMap_def (σ : AHeap) (K : Nat → AHeap → Prop) : ANewMap σ K = (∀ id, σ id = none → K id (upd σ id (.map []))) := propext ⟨fun h => h.out, fun h => ⟨h⟩⟩

/-- A call that turns nothing, and gives the same whenever it is made. -/
structure ACallP (P : Program) (g : FuncId) (args : List AVal) (σ : AHeap) (K : AVal → Prop) : Prop where
  out : ∃ r, (∀ σ', Ext σ σ' → ACalls P g args σ' fun v σ2 => v = r ∧ σ2 = σ') ∧ K r
/-- The right to append to a piece from the beginning on. -/
structure ATk (xs : List AVal) (t : Tok) (K : Tok → Prop) : Prop where
  out : K .none ∨ (xs = [] ∧ t = .full ∧ K .full)

/-- A piece of a view. -/
structure ACutM (r s off l h : Nat) (K : AVal → Prop) : Prop where of ::
  out : (l < h ∧ K (.ms r s (off + l * s) (h - l))) ∨ (l = 0 ∧ K (.ms r s off h)) ∨ (l = h ∧ K (.slice s [] .none))
def cutTok (lo hi : Option Opd) (t : Tok) : Tok :=
  match lo, hi with
  | none, none => t
  | _, _ => .none

def intOr (env : Env) (x : Option Opd) (d : Int) (K : Int → Prop) : Prop :=
  match x with
  | none => K d
  | some x => match x.get env with
    | .v (.int _ n) => K n
    | _ => False

/-- Cells, s of them each as one element. -/
def chunkA (s : Nat) : Nat → List AVal → List AVal
  | 0, _ => []
  | n + 1, l => .agg (l.take s) :: chunkA s n (l.drop s)
/-- The elements that an append's second operand stands for. -/
def elemsK (σ : AHeap) (s : Nat) (y : AVal) (K : List AVal → Prop) : Prop :=
  match y with
  | .slice s2 ys _ => bif Nat.beq s s2 then K ys else False
  | .v (.string b) => bif Nat.beq s 1 then K (b.data.toList.map byteV) else False
  | .ms r s2 off ln => bif Nat.beq s s2 then (bif Nat.beq s 1 then AView σ r off ln K else AView σ r off (ln * s) fun l => K (chunkA s ln l)) else False
  | _ => False

def callB (P : Program) (g : FuncId) : Bool :=
  match P.funcs[g]? with
  | some fn => fn.body.isSome && !(fn.name == "runtime.NumGoroutine")
  | none => false

/-- What an operation comes to. -/
def IOp.ev (P : Program) (env : Env) (σ : AHeap) (op : IOp) (K : AVal → AHeap → Prop) : Prop :=
  match op with
  | .mv x => x.getK env fun v => K v σ
  | .pick c a b => match c.get env with
    | .v (.bool t) => ABr t fun t => match t with
      | true => a.getK env fun v => K v σ
      | false => b.getK env fun v => K v σ
    | _ => False
  | .bin tb op x y => match x.get env, y.get env with
    | .v a, .v b => binE tb op a b fun r => K (.v r) σ
    | _, _ => False
  | .eqNil kd neg x => match kd, x.get env with
    | 0, .slice _ xs _ => ANil xs fun t => K (.v (.bool (t != neg))) σ
    | 0, .ms .. | 1, .ptr .. | 1, .eptr .. | 2, .map .. => K (.v (.bool neg)) σ
    | 1, .v (.pointer none) | 2, .v (.map none) => K (.v (.bool (!neg))) σ
    | _, _ => False
  | .eqAgg neg ks x y => match x.get env, y.get env with
    | .agg xs, .agg ys => eqCells ks xs ys fun t => K (.v (.bool (t != neg))) σ
    | _, _ => False
  | .not x => match x.get env with
    | .v (.bool b) => K (.v (.bool (!b))) σ
    | _ => False
  | .conv k x => match x.get env with
    | .v (.int _ n) => AFit k n fun m => K (.v (.int k m)) σ
    | _ => False
  | .b2s x => match x.get env with
    | .slice s xs _ => bif Nat.beq s 1 then AStr xs fun b => K (.v (.string b)) σ else False
    | _ => False
  | .s2b x => match x.get env with
    | .v (.string b) => K (.slice 1 (b.data.toList.map byteV) .none) σ
    | _ => False
  | .new zero => ANew σ zero fun id σ' => K (.ptr id 0) σ'
  | .box n x => x.getK env fun v => bif Nat.beq v.cells.length n then ANew σ v.cells fun id σ' => K (.ptr id 0) σ' else False
  | .build zero parts => fillK env parts zero fun l => K (.agg l) σ
  | .rowT s xs => getLK env xs fun l => bif l.all (okElem s) then ARowT σ s l K else False
  | .mark x => match x.get env with
    | .slice s xs t => AMark σ xs t fun σ' => K (.slice s xs .none) σ'
    | _ => False
  | .row s xs => getLK env xs fun l => bif l.all (okElem s) then K (.slice s l .full) σ else False
  | .load agg a => match a.get env with
    | .ptr id off => ALoad σ id off agg fun x => K x σ
    | .eptr cs off => ACell cs off agg fun x => K x σ
    | _ => False
  | .store n a x => match a.get env with
    | .ptr id off => x.getK env fun v => bif Nat.beq v.cells.length n then AStore σ id off v.cells fun σ' => K .top σ' else False
    | _ => False
  | .nilchk x => match x.get env with
    | .ptr id off => K (.ptr id off) σ
    | .eptr cs off => K (.eptr cs off) σ
    | _ => False
  | .faddr off x => match x.get env with
    | .ptr id o => K (.ptr id (o + off)) σ
    | .eptr cs o => K (.eptr cs (o + off)) σ
    | _ => False
  | .field agg off x => match x.get env with
    | .agg cs => ACell cs off agg fun y => K y σ
    | _ => False
  | .iaddr s x i => match x.get env, i.get env with
    | .slice s2 xs _, .v (.int _ n) => bif Nat.beq s s2 then AGet xs n fun y => K (.eptr y.cells 0) σ else False
    | .ms r s2 off ln, .v (.int _ n) => bif Nat.beq s s2 then AIdx n ln fun k => K (.ptr r (off + k * s)) σ else False
    | _, _ => False
  | .iaddrA s ln x i => match x.get env, i.get env with
    | .ptr id off, .v (.int _ n) => AIdx n ln fun k => K (.ptr id (off + k * s)) σ
    | .eptr cs off, .v (.int _ n) => AIdx n ln fun k => K (.eptr cs (off + k * s)) σ
    | _, _ => False
  | .index agg s ln x i => match x.get env, i.get env with
    | .agg cs, .v (.int _ n) => AIdx n ln fun k => ACell cs (k * s) agg fun y => K y σ
    | _, _ => False
  | .cut s x lo hi mx => match x.get env with
    | .slice s2 xs t => bif Nat.beq s s2 then
        intOr env lo 0 fun l => intOr env hi xs.length fun h => ACut xs.length l h fun l' h' =>
          match mx with
          | none => K (.slice s ((xs.take h').drop l') (cutTok lo hi t)) σ
          | some _ => intOr env mx 0 fun m => hi.isSome = true ∧ m = h ∧ K (.slice s ((xs.take h').drop l') .full) σ
      else False
    | .ms r s2 off ln => bif Nat.beq s s2 then
        intOr env lo 0 fun l => intOr env hi ln fun h => ACut ln l h fun l' h' =>
          match mx with
          | none => ACutM r s off l' h' fun y => K y σ
          | some _ => intOr env mx 0 fun m => hi.isSome = true ∧ m = h ∧ ACutM r s off l' h' fun y => K y σ
      else False
    | _ => False
  | .mk bytes zero ln cp => match ln.get env, cp.get env with
    | .v (.int _ n), .v (.int _ m) => n = m ∧ AMk bytes n fun k => K (.slice zero.cells.length (List.replicate k zero) .full) σ
    | _, _ => False
  | .mkm bytes zero ln cp => match ln.get env, cp.get env with
    | .v (.int _ n), .v (.int _ m) => n = m ∧ AMk bytes n fun k => ANew σ (List.replicate k zero) fun id σ' => K (.ms id 1 0 k) σ'
    | _, _ => False
  | .mkmap => ANewMap σ fun id σ' => K (.map id) σ'
  | .look zero m k => match m.get env, k.get env with
    | .map id, .v (.int .i64 n) => ALook σ id n zero fun y => K y σ
    | .v (.map none), .v (.int .i64 _) => K zero σ
    | _, _ => False
  | .mset m k x => match m.get env, k.get env with
    | .map id, .v (.int .i64 n) => x.getK env fun v => AMset σ id n v fun σ' => K .top σ'
    | _, _ => False
  | .mdel m k => match m.get env, k.get env with
    | .map id, .v (.int .i64 n) => AMdel σ id n fun σ' => K (.tup []) σ'
    | _, _ => False
  | .fn g first caps => getLK env first fun f => getLK env caps fun c => K (.func g f c) σ
  | .ext x i => match x.get env with
    | .tup vs => lgetK vs i fun y => K y σ
    | _ => False
  | .call g args => getLK env args fun l => ACalls P g l σ K
  | .callq g args => getLK env args fun l => ACalls P g l σ fun v σ' => K v σ' ∧ Ext σ σ'
  | .callp g args => getLK env args fun l => ACallP P g l σ fun v => K v σ
  | .never => False
  | .cutc s x hi => match x.get env with
    | .slice s2 xs t => bif Nat.beq s s2 then
        intOr env (some hi) xs.length fun h => ACut xs.length 0 h fun l' h' => ATk xs t fun t' => K (.slice s ((xs.take h').drop l') t') σ
      else False
    | .ms r s2 off ln => bif Nat.beq s s2 then
        intOr env (some hi) ln fun h => ACut ln 0 h fun l' h' => ACutM r s off l' h' fun y => K y σ
      else False
    | _ => False
  | .callv f args => match f.get env with
    | .func g first caps => callB P g = true ∧ getLK env args fun l => ACalls P g (first ++ l ++ caps) σ K
    | _ => False
  | .app s bytes x y => match x.get env with
    | .slice s1 xs t => bif Nat.beq s s1 then elemsK σ s (y.get env) fun ys => AApp σ s bytes xs t ys K else False
    | _ => False
  | .appm s bytes x y => match x.get env with
    | .slice s1 xs t => bif Nat.beq s s1 then elemsK σ s (y.get env) fun ys => AAppNew σ s bytes xs t ys K else False
    | .ms r s1 off ln => bif Nat.beq s s1 then elemsK σ s (y.get env) fun ys => AAppM σ r s off ln bytes ys K else False
    | _ => False
  | .app0 s bytes zero x n => match x.get env, n.get env with
    | .slice s1 xs t, .v (.int _ m) => bif Nat.beq s s1 && okElem s zero then 0 ≤ m ∧ m < 4611686018427387904 ∧ m * bytes ≤ 140737488355328 ∧ (AApp σ s bytes xs t (List.replicate m.toNat zero) K ∨ AAppNew σ s bytes xs t (List.replicate m.toNat zero) K) else False
    | .ms r s1 off ln, .v (.int _ m) => bif Nat.beq s s1 && okElem s zero then 0 ≤ m ∧ m < 4611686018427387904 ∧ m * bytes ≤ 140737488355328 ∧ AAppM σ r s off ln bytes (List.replicate m.toNat zero) K else False
    | _, _ => False
  | .len str x => match str, x.get env with
    | false, .slice _ xs _ => K (.v (.int .i64 xs.length)) σ
    | false, .ms _ _ _ ln => K (.v (.int .i64 ln)) σ
    | true, .v (.string b) => K (.v (.int .i64 b.size)) σ
    | _, _ => False
  | .cap x => match x.get env with
    | .slice _ xs .full => K (.v (.int .i64 xs.length)) σ
    | _ => False
  | .mxmn mx x y => match x.get env, y.get env with
    | .v (.int k a), .v (.int k' b) => bif decide (k = k') then AMx mx a b fun n => K (.v (.int k n)) σ else False
    | _, _ => False
  | .mlen x => match x.get env with
    | .map id => AMLen σ id fun y => K y σ
    | .v (.map none) => K (.v (.int .i64 0)) σ
    | _ => False
  | .clr z x => match x.get env with
    | .ms r s off ln => bif Nat.beq s 1 then AStore σ r off (List.replicate ln z) fun σ' => K (.tup []) σ' else False
    | .slice _ [] _ => K (.tup []) σ
    | _ => False
  | .min3 x y z => match x.get env, y.get env, z.get env with
    | .v (.int k a), .v (.int k' b), .v (.int k2 c) => bif decide (k = k' ∧ k = k2) then AMx false a b fun m => AMx false m c fun n => K (.v (.int k n)) σ else False
    | _, _, _ => False

def setD (env : Env) (d : Option Pth) (v : AVal) (k : Env → Prop) : Prop :=
  match d with
  | none => k env
  | some d => env.setK d v k

def guardK (env : Env) (g : Pth) (want : Bool) (x : AVal) (yes no : Env → Prop) : Prop :=
  match x with
  | .v (.bool b) => ABr b fun b => env.setK g (.v (.bool b)) fun env => match b, want with
    | true, true | false, false => yes env
    | _, _ => no env
  | .tup [] => no env
  | _ => False

/-- A row: its guard first. -/
def evRow (P : Program) (r : IRow) (env : Env) (σ : AHeap) (K : Env → AHeap → Prop) : Prop :=
  match r.guard with
  | none => r.op.ev P env σ fun v σ' => setD env r.dst v fun env' => K env' σ'
  | some (g, want) => guardK env g want (env.get g) (fun env => r.op.ev P env σ fun v σ' => setD env r.dst v fun env' => K env' σ') (fun env => setD env r.dst (.tup []) fun env' => K env' σ)

def evRT (P : Program) : RT → Env → AHeap → (Env → AHeap → Prop) → Prop
  | .done, env, σ, K => K env σ
  | .one r t, env, σ, K => evRow P r env σ fun env' σ' => evRT P t env' σ' K
  | .both a b, env, σ, K => evRT P a env σ K ∧ evRT P b env σ K
end Go.Am
/-
  The compiler: a body of the model's program as the small language; each row's order in a region that draws it.
-/
namespace Go.Am
set_option linter.unusedSectionVars false

/-- Which functions are called as such that turn no object; whether appends turn objects; how many slots there are. -/
structure Cfg where
  q : List FuncId
  /-- Slice types whose appends turn objects. -/
  m : List TypeId
  n : Nat
  /-- Slots whose row is marked later. -/
  k : List Tmp
  /-- Functions that turn nothing and give the same whenever they are called. -/
  p : List FuncId

def flatT (P : Program) : Nat → TypeId → List TypeId
  | 0, t => [t]
  | n + 1, t => match P.underlying t with
    | some (.struct fs) => fs.toList.flatMap fun f => flatT P n f.type
    | some (.array m e) => (List.replicate m (flatT P n e)).flatten
    | _ => [t]

def leafA (P : Program) (t : TypeId) (v : Value) : AVal :=
  match v with
  | .slice none 0 0 => match P.underlying t with
    | some (.slice e) => .slice (P.cellsOf e) [] .full
    | _ => .v v
  | _ => .v v

def valEq : Value → Value → Bool
  | .bool a, .bool b => a == b
  | .int k a, .int k' b => decide (k = k') && decide (a = b)
  | .string a, .string b => decide (a.data.toList = b.data.toList)
  | .pointer none, .pointer none => true
  | .map none, .map none => true
  | .nilFunc, .nilFunc => true
  | _, _ => false

def okC : AVal → Value → Bool
  | .v a, b => valEq a b
  | .slice _ [] _, .slice none 0 0 => true
  | _, _ => false

def okL : List AVal → List Value → Bool
  | [], [] => true
  | x :: xs, v :: vs => okC x v && okL xs vs
  | _, _ => false

def cellsT (P : Program) (t : TypeId) (cs : List Value) : Option (List AVal) :=
  let l := List.zipWith (leafA P) (flatT P 8 t) cs
  bif okL l cs then some l else none

def cstT (P : Program) (t : TypeId) (v : Value) : Option AVal :=
  match v with
  | .agg cs => (cellsT P t cs.toList).map .agg
  | v => bif okC (leafA P t v) v then some (leafA P t v) else none

def opT (P : Program) (t : TypeId) : Operand → Option Opd
  | .tmp n => some (.t (pth n))
  | .const v => (cstT P t v).map .c
  | .func f => some (.c (.func f [] []))
  | .global _ => none

def opsT (P : Program) : List TypeId → List Operand → Option (List Opd)
  | [], [] => some []
  | t :: ts, x :: xs => (opT P t x).bind fun y => (opsT P ts xs).map (y :: ·)
  | _, _ => none

/-- Operands that need no type. -/
def opsU (P : Program) : List Operand → Option (List Opd)
  | [] => some []
  | x :: xs => (opT P 0 x).bind fun y => (opsU P xs).map (y :: ·)

def isSA : TypeDesc → Bool
  | .struct _ | .array _ _ => true
  | _ => false

def aggOf (P : Program) (t : TypeId) : Option (Option Nat) :=
  match P.info? t, P.underlying t with
  | some i, some d => some (bif isSA d then some i.size else none)
  | _, _ => none

def zeroT (P : Program) (t : TypeId) : Option (List AVal) :=
  match P.info? t with
  | some i => match i.zero with
    | some z => bif Nat.beq z.cells.size i.size then cellsT P t z.cells.toList else none
    | none => none
  | none => none

def partsT (P : Program) (fs : Array Field) : List (Nat × Operand) → Option (List (Nat × Nat × Opd))
  | [] => some []
  | (i, x) :: rest => match fs[i]? with
    | some f => match P.info? f.type with
      | some fi => (opT P f.type x).bind fun y => (partsT P fs rest).map ((f.offset, fi.size, y) :: ·)
      | none => none
    | none => none

def partsA (P : Program) (e : TypeId) (s : Nat) : List (Nat × Operand) → Option (List (Nat × Nat × Opd))
  | [] => some []
  | (i, x) :: rest => (opT P e x).bind fun y => (partsA P e s rest).map ((i * s, s, y) :: ·)

/-- All parts of a slice's literal, one behind the other. -/
def inTurn : Nat → List (Nat × Operand) → Bool
  | _, [] => true
  | n, (i, _) :: rest => Nat.beq i n && inTurn (n + 1) rest

def optT (P : Program) (t : TypeId) : Option Operand → Option (Option Opd)
  | none => some none
  | some x => (opT P t x).map some

def compCall (P : Program) (C : Cfg) (c : Call) : Option IOp :=
  match c.callee with
  | .value (.func g) => match P.funcs[g]? with
    | some fn => bif callB P g then (opsT P fn.params.toList c.args.toList).map (bif C.p.contains g then .callp g else bif C.q.contains g then .callq g else .call g) else none
    | none => none
  | .value f => (opT P 0 f).bind fun f => (opsU P c.args.toList).map (.callv f)
  | .builtin .len => match c.argTypes[0]?, c.args.toList with
    | some t, [x] => match P.underlying t with
      | some (.slice _) => (opT P t x).map (.len false)
      | some .string => (opT P t x).map (.len true)
      | some (.map _ _) => (opT P t x).map .mlen
      | _ => none
    | _, _ => none
  | .builtin .cap => match c.argTypes[0]?, c.args.toList with
    | some t, [x] => match P.underlying t with
      | some (.slice _) => (opT P t x).map .cap
      | _ => none
    | _, _ => none
  | .builtin .delete => match c.argTypes[0]?, c.args.toList with
    | some t, [m, k] => match P.underlying t with
      | some (.map kt _) => match P.underlying kt with
        | some (.int .i64) => (opT P t m).bind fun m => (opT P kt k).map fun k => .mdel m k
        | _ => none
      | _ => none
    | _, _ => none
  | .builtin .clear => match c.argTypes[0]?, c.args.toList with
    | some t, [x] => match P.underlying t with
      | some (.slice e) => match zeroT P e with
        | some [z] => (opT P t x).map (.clr z)
        | _ => none
      | _ => none
    | _, _ => none
  | .builtin .max => match c.args.toList with
    | [x, y] => (opT P 0 x).bind fun x => (opT P 0 y).map (.mxmn true x)
    | _ => none
  | .builtin .min => match c.args.toList with
    | [x, y] => (opT P 0 x).bind fun x => (opT P 0 y).map (.mxmn false x)
    | [x, y, z] => (opT P 0 x).bind fun x => (opT P 0 y).bind fun y => (opT P 0 z).map (.min3 x y)
    | _ => none
  | .builtin .append => match c.argTypes.toList, c.args.toList with
    | [t, u], [x, y] => match P.underlying t, P.underlying u with
      | some (.slice e), some ud => match P.info? e, zeroT P e with
        | some i, some zs => match ud with
          | .int _ => match zs, aggOf P e with
            | [z], some none => bif !(Nat.beq i.bytes 0) && Nat.beq i.size 1 then (opT P t x).bind fun x => (opT P u y).map fun y => .app0 1 i.bytes z x y else none
            | zs, some (some _) => bif !(Nat.beq i.bytes 0) && !(Nat.beq i.size 0) && zs.all AVal.isCell then (opT P t x).bind fun x => (opT P u y).map fun y => .app0 i.size i.bytes (.agg zs) x y else none
            | _, _ => none
          | .slice _ | .string => bif zs.all AVal.isCell && !(Nat.beq i.size 0) && !(Nat.beq i.bytes 0) then (opT P t x).bind fun x => (opT P u y).map fun y => bif C.m.contains t then .appm i.size i.bytes x y else .app i.size i.bytes x y else none
          | _ => none
        | _, _ => none
      | _, _ => none
    | _, _ => none
  | _ => none

def isByte (P : Program) (e : TypeId) : Bool :=
  match P.underlying e with
  | some (.int .u8) => true
  | _ => false
def kept (C : Cfg) : Option Tmp → Bool
  | some t => C.k.contains t
  | none => false
theorem isByte_spec {P : Program} {e : TypeId} (h : isByte P e = true) : P.underlying e = some (.int .u8) := by
  unfold isByte at h; split at h
  · assumption
  · cases h

def plainI (P : Program) (t : TypeId) : Bool :=
  match P.underlying t with
  | some (.int _) => true
  | _ => false
theorem plainI_spec {P : Program} {t : TypeId} (h : plainI P t = true) : ∃ k, P.underlying t = some (.int k) := by
  unfold plainI at h; split at h
  · exact ⟨_, by assumption⟩
  · cases h
def plainB (P : Program) (t : TypeId) : Bool :=
  match P.underlying t with
  | some .bool => true
  | _ => false
theorem plainB_spec {P : Program} {t : TypeId} (h : plainB P t = true) : P.underlying t = some .bool := by
  unfold plainB at h; split at h
  · assumption
  · cases h
/-- Fields that are numbers or truths, one behind the other. -/
def flatFs (P : Program) : Nat → List Field → Bool
  | _, [] => true
  | k, f :: fs => !(decide (f.name = "_")) && Nat.beq f.offset k && (plainI P f.type || plainB P f.type) && flatFs P (k + 1) fs
/-- Which fields are truths. -/
def flatKs (P : Program) (fs : List Field) : List Bool := fs.map fun f => plainB P f.type
/-- The parts of a value of a type that may be compared: true for a truth, false for a number. -/
def flatNum (P : Program) (t : TypeId) : Option (List Bool) :=
  match P.underlying t with
  | some (.struct fs) => bif flatFs P 0 fs.toList && !(P.eqGuardType P.depth t) && !(P.stoodInHeld t) then some (flatKs P fs.toList) else none
  | some (.array n e) => match P.info? e with
    | some i => bif plainI P e && Nat.beq i.size 1 && !(P.eqGuardType P.depth t) then some (List.replicate n false) else none
    | none => none
  | _ => none

def comp (P : Program) (C : Cfg) (o : Oper) : Option IOp :=
  match o.op with
  | .move x | .assign x => (opT P o.type x).map .mv
  | .pick c a b => (opT P o.type c).bind fun c => (opT P o.type a).bind fun a => (opT P o.type b).map fun b => .pick c a b
  | .binOp op t x y u => match P.underlying t with
    | some (.int _) | some .string => (opT P t x).bind fun x => (opT P u y).map fun y => .bin false op x y
    | some .bool => (opT P t x).bind fun x => (opT P u y).map fun y => .bin true op x y
    | some (.slice _) => match op, y with
      | .eql, .const (.slice none _ _) => (opT P t x).map (.eqNil 0 false)
      | .neq, .const (.slice none _ _) => (opT P t x).map (.eqNil 0 true)
      | _, _ => none
    | some (.pointer _) => match op, y with
      | .eql, .const (.pointer none) => (opT P t x).map (.eqNil 1 false)
      | .neq, .const (.pointer none) => (opT P t x).map (.eqNil 1 true)
      | _, _ => none
    | some (.map _ _) => match op, y with
      | .eql, .const (.map none) => (opT P t x).map (.eqNil 2 false)
      | .neq, .const (.map none) => (opT P t x).map (.eqNil 2 true)
      | _, _ => none
    | _ => match flatNum P t with
      | some n => match op with
        | .eql => (opT P t x).bind fun x => (opT P u y).map fun y => .eqAgg false n x y
        | .neq => (opT P t x).bind fun x => (opT P u y).map fun y => .eqAgg true n x y
        | _ => none
      | none => none
  | .unOp .not _ x => (opT P o.type x).map .not
  | .convert s d x => match P.underlying s, P.underlying d with
    | some (.int _), some (.int k) => (opT P s x).map (.conv k)
    | some (.slice e), some .string => match P.underlying e with
      | some (.int .u8) => (opT P s x).map .b2s
      | _ => none
    | some (.slice _), some (.slice e) => bif Nat.beq s d && isByte P e then (opT P s x).map .mark else none
    | some .string, some (.slice e) => match P.underlying e with
      | some (.int .u8) => (opT P s x).map .s2b
      | _ => none
    | _, _ => none
  | .alloc t => (zeroT P t).map .new
  | .box t x => match P.info? t with
    | some i => (opT P t x).map (.box i.size)
    | none => none
  | .build t ps => match P.underlying t, zeroT P t with
    | some (.struct fs), some z => bif fs.toList.all (fun f => (P.info? f.type).isSome) then (partsT P fs ps.toList).map (.build z) else none
    | some (.array _ e), some z => match P.info? e with
      | some i => (partsA P e i.size ps.toList).map (.build z)
      | none => none
    | _, _ => none
  | .buildSlice t n ps => match P.underlying t with
    | some (.slice e) => match P.info? e, zeroT P e with
      | some i, some z => bif Nat.beq ps.size n && inTurn 0 ps.toList && Nat.ble (n * i.size) 16777216 && !(Nat.beq i.size 0) then (opsT P (List.replicate n e) (ps.toList.map (·.2))).map (fun xs => bif isByte P e && kept C o.dst then .rowT i.size xs else .row i.size xs) else none
      | _, _ => none
    | _ => none
  | .load t x => (aggOf P t).bind fun g => (opT P o.type x).map (.load g)
  | .store t a x => match P.info? t with
    | some i => (opT P 0 a).bind fun a => (opT P t x).map (.store i.size a)
    | none => none
  | .nilCheck x => (opT P 0 x).map .nilchk
  | .fieldAddr s x f => match P.underlying s with
    | some (.struct fs) => match fs[f]? with
      | some fd => match P.info? fd.type with
        | some i => bif Nat.beq i.size 0 then none else (opT P 0 x).map (.faddr fd.offset)
        | none => none
      | none => none
    | _ => none
  | .field s x f => match P.underlying s with
    | some (.struct fs) => match fs[f]? with
      | some fd => (aggOf P fd.type).bind fun g => (opT P s x).map (.field g fd.offset)
      | none => none
    | _ => none
  | .indexAddr t x i => match P.underlying t with
    | some (.slice e) => match P.info? e with
      | some ei => (opT P t x).bind fun x => (opT P 0 i).map (.iaddr ei.size x)
      | none => none
    | some (.array n e) => match P.info? e with
      | some ei => (opT P 0 x).bind fun x => (opT P 0 i).map (.iaddrA ei.size n x)
      | none => none
    | _ => none
  | .index t x i => match P.underlying t with
    | some (.array n e) => match P.info? e with
      | some ei => (aggOf P e).bind fun g => (opT P t x).bind fun x => (opT P 0 i).map (.index g ei.size n x)
      | none => none
    | _ => none
  | .slice t x lo hi mx => match P.underlying t with
    | some (.slice e) => match P.info? e with
      | some ei => match C.m.contains t, lo, hi, mx with
        | true, none, some hi, none => (opT P t x).bind fun x => (opT P 0 hi).map fun hi => .cutc ei.size x hi
        | _, _, _, _ => (opT P t x).bind fun x => (optT P 0 lo).bind fun lo => (optT P 0 hi).bind fun hi => (optT P 0 mx).map fun mx => .cut ei.size x lo hi mx
      | none => none
    | _ => none
  | .makeSlice t l c => match P.underlying t with
    | some (.slice e) => match P.info? e, zeroT P e with
      | some i, some zs => match zs, aggOf P e with
        | [z], some none => bif z.isCell then (opT P 0 l).bind fun l => (opT P 0 c).map fun c => bif C.m.contains t then .mkm i.bytes z l c else .mk i.bytes z l c else none
        | zs, some (some _) => bif zs.all AVal.isCell && !(Nat.beq i.size 0) then (opT P 0 l).bind fun l => (opT P 0 c).map fun c => .mk i.bytes (.agg zs) l c else none
        | _, _ => none
      | _, _ => none
    | _ => none
  | .makeMap _ none => some .mkmap
  | .lookup t m k false => match P.underlying t with
    | some (.map kt e) => match P.underlying kt, P.info? e with
      | some (.int .i64), some i => match i.zero with
        | some z => (cstT P e z).bind fun z => (opT P t m).bind fun m => (opT P kt k).map fun k => .look z m k
        | none => none
      | _, _ => none
    | _ => none
  | .mapUpdate t m k x => match P.underlying t with
    | some (.map kt e) => match P.underlying kt with
      | some (.int .i64) => (opT P t m).bind fun m => (opT P kt k).bind fun k => (opT P e x).map fun x => .mset m k x
      | _ => none
    | _ => none
  | .makeFunc (.func g) first caps => (opsU P first.toList).bind fun f => (opsU P caps.toList).map fun c => .fn g f c
  | .extract x i => (opT P 0 x).map fun x => .ext x i
  | .call c => compCall P C c
  | _ => none

/-- What is not covered is never to be reached. -/
def compN (P : Program) (C : Cfg) (o : Oper) : IOp :=
  match comp P C o with
  | some op => op
  | none => .never

def compGuard (ops : Array Oper) (o : Oper) : Option (Option (Pth × Bool)) :=
  match o.guard with
  | none => some none
  | some (j, want) => match (ops[j]?).bind (·.dst) with
    | some d => some (some (pth d, want))
    | none => none

def compRow (P : Program) (C : Cfg) (ops : Array Oper) (o : Oper) : Option IRow :=
  bif (match o.dst with
    | none => true
    | some d => Nat.blt d C.n) then (compGuard ops o).map fun g => ⟨o.dst.map pth, g, compN P C o⟩ else none

/-- Of an operation: 0: it hangs on its operands alone; 1: it reads objects; 2: it turns none; 3: it may. -/
def IOp.cls : IOp → Nat
  | .mv _ | .pick .. | .bin .. | .not _ | .conv .. | .nilchk _ | .faddr .. | .field .. | .iaddr .. | .iaddrA .. | .index .. | .cut .. | .cutc .. | .fn .. | .ext .. | .len .. | .cap _ | .mxmn .. | .min3 .. | .b2s _ | .build .. | .eqAgg .. | .row .. | .mk .. | .s2b _ => 0
  | .load .. | .look .. | .callp .. | .mlen _ => 1
  | .new _ | .box .. | .mkmap | .mkm .. | .callq .. | .app .. | .eqNil .. | .rowT .. | .mark _ => 2
  | _ => 3

def optL {α : Type} : Option α → List α
  | none => []
  | some x => [x]

/-- An operation's operands. -/
def IOp.opds : IOp → List Opd
  | .mv x | .not x | .conv _ x | .b2s x | .s2b x | .mark x | .box _ x | .load _ x | .nilchk x | .faddr _ x | .field _ _ x | .ext x _ | .len _ x | .cap x | .eqNil _ _ x | .mlen x | .clr _ x => [x]
  | .pick c a b => [c, a, b]
  | .bin _ _ x y | .eqAgg _ _ x y | .store _ x y | .iaddr _ x y | .iaddrA _ _ x y | .index _ _ _ x y | .mk _ _ x y | .mkm _ _ x y | .app _ _ x y | .appm _ _ x y | .app0 _ _ _ x y | .mxmn _ x y | .look _ x y | .mdel x y => [x, y]
  | .mset x y z | .min3 x y z => [x, y, z]
  | .new _ | .mkmap | .never => []
  | .build _ ps => ps.map (·.2.2)
  | .row _ xs | .rowT _ xs => xs
  | .cut _ x lo hi mx => x :: (optL lo ++ optL hi ++ optL mx)
  | .fn _ f c => f ++ c
  | .call _ xs | .callq _ xs | .callp _ xs => xs
  | .cutc _ x y => [x, y]
  | .callv f xs => f :: xs

def Pth.beq : Pth → Pth → Bool
  | .e, .e => true
  | .l p, .l q | .r p, .r q => Pth.beq p q
  | _, _ => false

def Opd.isAt (p : Pth) : Opd → Bool
  | .t q => Pth.beq p q
  | .c _ => false

def isAtG (p : Pth) : Option (Pth × Bool) → Bool
  | some (q, _) => Pth.beq p q
  | none => false

/-- Does a row look at a slot? -/
def IRow.looks (r : IRow) (p : Pth) : Bool := r.op.opds.any (Opd.isAt p) || isAtG p r.guard

def dstApart (d : Option Pth) (r : IRow) : Bool :=
  match d with
  | none => true
  | some p => !r.looks p

def dstNe : Option Pth → Option Pth → Bool
  | some p, some q => !Pth.beq p q
  | _, _ => true

def apartR (x y : IRow) : Bool := dstApart x.dst y && dstApart y.dst x && dstNe x.dst y.dst

/-- Row j waits for row i, by way of rows that are not listed. -/
def blkB (ops : Array Oper) (listed : Array Bool) (i : Nat) : Nat → Nat → Bool
  | 0, _ => false
  | f + 1, j => match ops[j]? with
    | some oj => oj.after.any fun e => Region.binds .any e && (Nat.beq e.on i || (!listed.getD e.on true && blkB ops listed i f e.on))
    | none => false

/-- Which of the first rows wait for row i, by way of rows that are not listed: the last one first. -/
def waitL (ops : Array Oper) (listed : Array Bool) (i : Nat) : Nat → List Bool
  | 0 => []
  | k + 1 =>
    let acc := waitL ops listed i k
    (match ops[k]? with
    | some oj => oj.after.any fun e => Region.binds .any e && (Nat.beq e.on i || (Nat.blt e.on k && !listed.getD e.on true && (acc[k - 1 - e.on]?).getD false))
    | none => false) :: acc

/-- May row i be taken first, of all that are not listed? -/
def firstB (ops : Array Oper) (rows : List IRow) (listed : Array Bool) (i : Nat) : Bool :=
  match rows[i]? with
  | some ri =>
    Nat.ble ri.op.cls 1 && (List.range ops.size).all fun j =>
      match ops[j]?, rows[j]? with
      | some oj, some rj => Nat.beq j i || listed.getD j true || oj.after.any (fun e => Region.binds .any e && Nat.beq e.on i) || (apartR ri rj && (Nat.beq ri.op.cls 0 || Nat.ble rj.op.cls 2)) || blkB ops listed i 5 j || ((waitL ops listed i ops.size)[ops.size - 1 - j]?).getD false
      | _, _ => false
  | none => false

def bothL : List (Option RT) → Option RT
  | [] => none
  | [x] => x
  | x :: xs => x.bind fun a => (bothL xs).map (.both a)

def lin (ops : Array Oper) (rows : List IRow) : Nat → Array Bool → Option RT
  | 0, listed => bif (Region.ready .any ops listed).isEmpty then some .done else none
  | n + 1, listed =>
    match Region.ready .any ops listed with
    | [] => some .done
    | rs => match rs.find? (firstB ops rows listed) with
      | some i => match rows[i]? with
        | some r => (lin ops rows n (listed.setIfInBounds i true)).map (.one r)
        | none => none
      | none => bothL (rs.map fun i => match rows[i]? with
        | some r => (lin ops rows n (listed.setIfInBounds i true)).map (.one r)
        | none => none)

def rowsRT : List IRow → RT
  | [] => .done
  | r :: rs => .one r (rowsRT rs)

def compRows (P : Program) (C : Cfg) (ops : Array Oper) : List Oper → Option (List IRow)
  | [] => some []
  | o :: os => (compRow P C ops o).bind fun r => (compRows P C ops os).map (r :: ·)

def compC (P : Program) (C : Cfg) : Code → Option ICode
  | .skip => some .skip
  | .region _ ops false => (compRows P C ops ops.toList).map fun rows => .reg (rowsRT rows)
  | .region _ ops true => bif P.follows .mixedOrders then (compRows P C ops ops.toList).bind fun rows => (lin ops rows ops.size (Array.replicate ops.size false)).map .reg else none
  | .seq a b => (compC P C a).bind fun a => (compC P C b).map (.seq a)
  | .cond c a b => (opT P 0 c).bind fun c => (compC P C a).bind fun a => (compC P C b).map (.cond c a)
  | .block id b => (compC P C b).map (.block id)
  | .loop b => (compC P C b).map .loop
  | .exit id => some (.exit id)
  | .scope b => (compC P C b).map .scope
  | .label l => some (.label l)
  | .goto l => some (.goto l)
  | .ret => some .ret
  | _ => none

inductive IRes where
  | tmp (p : Pth)
  | cell (p : Pth) (agg : Option Nat)

structure IFun where
  params : Nat
  res : List IRes
  body : ICode

def compRes (P : Program) : List ResultVar → Option (List IRes)
  | [] => some []
  | .tmp t :: rs => (compRes P rs).map (.tmp (pth t) :: ·)
  | .cell a t :: rs => (aggOf P t).bind fun g => (compRes P rs).map (.cell (pth a) g :: ·)

def compF (P : Program) (C : Cfg) (fn : Func) : Option IFun :=
  match fn.body with
  | some c => (compC P C c).bind fun b => (compRes P fn.results.toList).map fun r => ⟨fn.params.size + fn.nfree, r, b⟩
  | none => none
end Go.Am
/-
  Operands; what an operation's run gives, and how that is what 'ev' says: operations that only reckon.
-/
namespace Go.Am
set_option linter.unusedSectionVars false
open Go.RowKit (Below)

structure RepE (κ : Ghost) (n : Nat) (env : Env) (tmps : Array Value) : Prop where
  size : tmps.size = n
  get : ∀ p v, tmps[p.num]? = some v → RepV κ (env.get p) v
  out : ∀ p, n ≤ p.num → env.get p = .top

theorem RepE.mono {κ κ' : Ghost} {n : Nat} {env : Env} {tmps : Array Value} (h : RepE κ n env tmps) (hk : κ.le κ') : RepE κ' n env tmps :=
  ⟨h.size, fun p v e => (h.get p v e).mono hk, h.out⟩

theorem RepE.eval {κ : Ghost} {n : Nat} {env : Env} {a : Act} (h : RepE κ n env a.tmps) (t : Nat) : RepV κ (env.get (pth t)) (a.eval (.tmp t)) := by
  simp only [Act.eval]
  by_cases ht : t < a.tmps.size
  · have hn : a.tmps[(pth t).num]? = some (a.tmps.getD t undef) := by rw [num_pth]; simp [ht]
    exact h.get _ _ hn
  · rw [h.out (pth t) (by rw [num_pth]; have := h.size; omega)]; exact .top

theorem RepE.put {κ : Ghost} {n : Nat} {env : Env} {a : Act} (h : RepE κ n env a.tmps) {d : Nat} (hd : d < n) {x : AVal} {v : Value} (hv : RepV κ x v) :
    RepE κ n (env.set (pth d) x) (a.put (some d) v).tmps := by
  refine ⟨by simp [Act.put, h.size], fun p u e => ?_, fun p hp => ?_⟩
  · by_cases hpd : p = pth d
    · subst hpd
      simp only [Act.put, num_pth] at e
      have : u = v := by
        rw [Array.getElem?_setIfInBounds] at e
        simp [h.size, hd] at e; exact e.symm
      subst this
      rcases env.get_set (pth d) x with k | k <;> rw [k]
      · exact hv
      · exact .top
    · rw [env.get_set_ne x hpd]
      have hne : d ≠ p.num := fun e => hpd (Pth.num_inj (by rw [num_pth]; exact e.symm))
      simp only [Act.put] at e
      rw [Array.getElem?_setIfInBounds_ne hne] at e
      exact h.get p u e
  · rw [env.get_set_ne x (fun e => by rw [e, num_pth] at hp; omega)]; exact h.out p hp

theorem valEq_spec {a b : Value} (h : valEq a b = true) : a = b ∧ a.oneCell = true := by
  unfold valEq at h
  split at h <;> first
    | (cases h; done)
    | exact ⟨rfl, rfl⟩
    | (simp at h; subst h; exact ⟨rfl, rfl⟩)
    | (simp at h; obtain ⟨rfl, rfl⟩ := h; exact ⟨rfl, rfl⟩)
    | skip
  · rename_i a b
    have := of_decide_eq_true h
    refine ⟨?_, rfl⟩
    obtain ⟨⟨x⟩⟩ := a; obtain ⟨⟨y⟩⟩ := b
    simp at this; rw [this]

theorem okC_spec {κ : Ghost} {x : AVal} {v : Value} (h : okC x v = true) : RepV κ x v := by
  unfold okC at h
  split at h
  · obtain ⟨rfl, h2⟩ := valEq_spec h; exact .v h2
  · exact .nil
  · cases h

theorem okC_cell {x : AVal} {v : Value} (h : okC x v = true) : x.isCell = true ∧ v.oneCell = true := by
  unfold okC at h
  split at h
  · obtain ⟨rfl, h2⟩ := valEq_spec h; exact ⟨rfl, h2⟩
  · exact ⟨rfl, rfl⟩
  · cases h

theorem okL_spec {κ : Ghost} : ∀ {xs : List AVal} {vs : List Value}, okL xs vs = true → RepL κ xs vs ∧ Ones vs ∧ xs.all AVal.isCell = true
  | [], [], _ => ⟨.nil, (by intro v h; cases h), rfl⟩
  | x :: xs, v :: vs, h => by
    simp only [okL, Bool.and_eq_true] at h
    obtain ⟨h1, h2, h3⟩ := okL_spec (κ := κ) h.2
    refine ⟨.cons (okC_spec h.1) h1, fun u hu => ?_, by simp [(okC_cell h.1).1, h3]⟩
    cases hu with
    | head => exact (okC_cell h.1).2
    | tail _ hm => exact h2 u hm
  | [], _ :: _, h => by cases h
  | _ :: _, [], h => by cases h

theorem cellsT_spec {P : Program} {κ : Ghost} {t : TypeId} {cs : List Value} {l : List AVal} (h : cellsT P t cs = some l) : RepL κ l cs ∧ Ones cs ∧ l.all AVal.isCell = true := by
  unfold cellsT at h
  cases hb : okL (List.zipWith (leafA P) (flatT P 8 t) cs) cs with
  | true => simp only [hb, cond_true, Option.some.injEq] at h; subst h; exact okL_spec hb
  | false => simp [hb] at h

theorem cstT_spec {P : Program} {κ : Ghost} {t : TypeId} {v : Value} {x : AVal} (h : cstT P t v = some x) : RepV κ x v := by
  unfold cstT at h
  split at h
  · rename_i cs
    cases hc : cellsT P t cs.toList with
    | none => simp [hc] at h
    | some l =>
      simp only [hc, Option.map_some, Option.some.injEq] at h; subst h
      exact RepV.agg (κ := κ) (cellsT_spec hc).1
  · cases hb : okC (leafA P t v) v with
    | true => simp only [hb, cond_true, Option.some.injEq] at h; subst h; exact okC_spec hb
    | false => simp [hb] at h

theorem opT_spec {P : Program} {κ : Ghost} {n : Nat} {env : Env} {a : Act} (hE : RepE κ n env a.tmps) {t : TypeId} {x : Operand} {y : Opd} (h : opT P t x = some y) :
    RepV κ (y.get env) (a.eval x) := by
  cases x with
  | tmp k => simp only [opT, Option.some.injEq] at h; subst h; exact hE.eval k
  | const v =>
    cases hc : cstT P t v with
    | none => simp [opT, hc] at h
    | some z => simp only [opT, hc, Option.map_some, Option.some.injEq] at h; subst h; exact cstT_spec hc
  | global g => simp [opT] at h
  | func f => simp only [opT, Option.some.injEq] at h; subst h; exact .func .nil .nil

theorem opsT_spec {P : Program} {κ : Ghost} {n : Nat} {env : Env} {a : Act} (hE : RepE κ n env a.tmps) : ∀ {ts : List TypeId} {xs : List Operand} {ys : List Opd}, opsT P ts xs = some ys →
    RepL κ (ys.map (Opd.get env)) (xs.map a.eval)
  | [], [], ys, h => by simp only [opsT, Option.some.injEq] at h; subst h; exact .nil
  | t :: ts, x :: xs, ys, h => by
    simp only [opsT] at h
    cases h1 : opT P t x with
    | none => simp [h1] at h
    | some y =>
      cases h2 : opsT P ts xs with
      | none => simp [h1, h2] at h
      | some zs => simp only [h1, h2, Option.bind_some, Option.map_some, Option.some.injEq] at h; subst h; exact .cons (opT_spec hE h1) (opsT_spec hE h2)
  | [], _ :: _, ys, h => by cases h
  | _ :: _, [], ys, h => by cases h

theorem opsU_spec {P : Program} {κ : Ghost} {n : Nat} {env : Env} {a : Act} (hE : RepE κ n env a.tmps) : ∀ {xs : List Operand} {ys : List Opd}, opsU P xs = some ys →
    RepL κ (ys.map (Opd.get env)) (xs.map a.eval)
  | [], ys, h => by simp only [opsU, Option.some.injEq] at h; subst h; exact .nil
  | x :: xs, ys, h => by
    simp only [opsU] at h
    cases h1 : opT P 0 x with
    | none => simp [h1] at h
    | some y =>
      cases h2 : opsU P xs with
      | none => simp [h1, h2] at h
      | some zs => simp only [h1, h2, Option.bind_some, Option.map_some, Option.some.injEq] at h; subst h; exact .cons (opT_spec hE h1) (opsU_spec hE h2)

theorem getLK_eq (env : Env) : ∀ (xs : List Opd) (k : List AVal → Prop), getLK env xs k = k (xs.map (Opd.get env))
  | [], k => rfl
  | x :: xs, k => by simp only [getLK, Opd.getK_eq, getLK_eq env xs]; rfl

/-- What is left behind an operation. -/
def Post (κ : Ghost) (w' : World) (v : Value) (K : AVal → AHeap → Prop) : Prop := ∃ κ' σ' x, κ.le κ' ∧ Inv κ' σ' w' ∧ RepV κ' x v ∧ K x σ'

def Good (P : Program) (ρ : Operand → Value) (o : Oper) (κ : Ghost) (w : World) (K : AVal → AHeap → Prop) : Prop :=
  (∃ v w', (execOp ρ o).run P w = .ok (.value v) w' ∧ Post κ w' v K) ∨
  (∃ w', (execOp ρ o).run P w = .ok .skip w' ∧ Post κ w' undef K) ∨
  (∃ g cargs, (execOp ρ o).run P w = .ok (.enter g cargs) w ∧ Calls P g cargs w fun e w' => ∃ v, e = .returned v ∧ Post κ w' v K)

theorem Post.same {κ : Ghost} {σ : AHeap} {w : World} {v : Value} {x : AVal} {K : AVal → AHeap → Prop} (h : Inv κ σ w) (hv : RepV κ x v) (k : K x σ) : Post κ w v K :=
  ⟨κ, σ, x, Ghost.le.refl κ, h, hv, k⟩

/-- A value of the operation, the world as it was. -/
theorem Good.pure {P : Program} {ρ : Operand → Value} {o : Oper} {κ : Ghost} {σ : AHeap} {w : World} {K : AVal → AHeap → Prop} {v : Value} {x : AVal}
    (hr : (execOp ρ o).run P w = .ok (.value v) w) (h : Inv κ σ w) (hv : RepV κ x v) (k : K x σ) : Good P ρ o κ w K := .inl ⟨v, w, hr, .same h hv k⟩

theorem RepV.v_inv {κ : Ghost} {x v : Value} (h : RepV κ (.v x) v) : v = x ∧ x.oneCell = true := by cases h with | v h => exact ⟨rfl, h⟩

theorem RepV.ptr_inv {κ : Ghost} {id off : Nat} {v : Value} (h : RepV κ (.ptr id off) v) : ∃ b, v = .pointer (some ⟨b, off, none⟩) ∧ κ.obj id = some b := by cases h with | ptr h => exact ⟨_, rfl, h⟩
theorem RepV.eptr_inv {κ : Ghost} {cs : List AVal} {off : Nat} {v : Value} (h : RepV κ (.eptr cs off) v) :
    ∃ b o vs, v = .pointer (some ⟨b, o + off, none⟩) ∧ RepL κ cs vs ∧ ∀ i u, vs[i]? = some u → κ.cell b (o + i) = some u := by cases h with | eptr h k => exact ⟨_, _, _, rfl, h, k⟩
theorem RepV.ms_inv {κ : Ghost} {r s off len : Nat} {v : Value} (h : RepV κ (.ms r s off len) v) :
    ∃ b cap n, v = .slice (some ⟨b, off, none⟩) len cap ∧ κ.obj r = some b ∧ κ.size b = some n ∧ len ≤ cap ∧ off + cap * s ≤ n := by cases h with | ms h1 h2 h3 h4 => exact ⟨_, _, _, rfl, h1, h2, h3, h4⟩
theorem RepV.agg_inv {κ : Ghost} {cs : List AVal} {v : Value} (h : RepV κ (.agg cs) v) : ∃ vs, v = .agg vs.toArray ∧ RepL κ cs vs := by cases h with | agg h => exact ⟨_, rfl, h⟩
theorem RepV.tup_inv {κ : Ghost} {cs : List AVal} {v : Value} (h : RepV κ (.tup cs) v) : ∃ vs, v = .tuple vs.toArray ∧ RepL κ cs vs := by cases h with | tup h => exact ⟨_, rfl, h⟩
theorem RepV.func_inv {κ : Ghost} {g : FuncId} {f c : List AVal} {v : Value} (h : RepV κ (.func g f c) v) : ∃ fv cv, v = .func (.func g) fv.toArray cv.toArray ∧ RepL κ f fv ∧ RepL κ c cv := by
  cases h with | func h k => exact ⟨_, _, rfl, h, k⟩
theorem RepV.map_inv {κ : Ghost} {id : Nat} {v : Value} (h : RepV κ (.map id) v) : ∃ b, v = .map (some b) ∧ κ.obj id = some b := by cases h with | map h => exact ⟨_, rfl, h⟩
theorem RepV.slice_inv {κ : Ghost} {s : Nat} {xs : List AVal} {t : Tok} {v : Value} (h : RepV κ (.slice s xs t) v) :
    ((∃ a, v = .slice a 0 0) ∧ xs = []) ∨ ∃ b off cap vs, v = .slice (some ⟨b, off, none⟩) xs.length cap ∧ xs.length ≤ cap ∧ (∀ x ∈ xs, x.cells.length = s) ∧ RepL κ (xs.flatMap AVal.cells) vs ∧
      (∀ i v, vs[i]? = some v → κ.cell b (off + i) = some v) ∧ TokOk κ t b off xs.length cap s := by
  cases h with
  | nil => exact .inl ⟨⟨_, rfl⟩, rfl⟩
  | slice h1 h2 h3 h4 h5 h6 => subst h1; exact .inr ⟨_, _, _, _, rfl, h2, h3, h4, h5, h6⟩

theorem beqL (a b : List UInt8) : (a == b) = decide (a = b) := by rw [Bool.eq_iff_iff]; simp

/-- Binary operations on plain values. -/
theorem binE_spec {P : Program} {tb : Bool} {op : BinOp} {t : TypeId} {p q : Operand} {x y : Value} {K : Value → Prop} {w : World}
    (ht : tb = true → P.underlying t = some .bool) (h : binE tb op x y K) :
    ∃ r, (do eqGuard op t p q x y; binOp op t x y : Sem Value).run P w = .ok r w ∧ r.oneCell = true ∧ K r := by
  unfold binE at h
  split at h
  · rename_i k a k' b
    have hg : ∀ (z : Sem Value), (do eqGuard op t p q (.int k a) (.int k' b); z : Sem Value).run P w = z.run P w := fun z => by
      unfold eqGuard; cases op <;> simp
    rw [hg]
    have hk : op ≠ .shl → op ≠ .shr → k = k' := by
      intro h1 h2
      by_cases e : k = k'
      · exact e
      · exfalso; cases op <;> simp_all
    cases op
    case shl =>
      simp only at h; rw [AShl_def] at h
      exact ⟨_, by simp only [binOp, Op.shift]; rw [if_neg (by omega)]; rfl, rfl, h.2⟩
    case shr =>
      simp only at h; rw [AShr_def] at h
      exact ⟨_, by simp only [binOp, Op.shift]; rw [if_neg (by omega)]; rfl, rfl, h.2⟩
    all_goals
      obtain rfl := hk (by simp) (by simp)
      simp only [decide_true, cond_true] at h
    case add => rw [AFit_def] at h; exact ⟨_, by simp [binOp, Op.intArith], rfl, h⟩
    case sub => rw [AFit_def] at h; exact ⟨_, by simp [binOp, Op.intArith], rfl, h⟩
    case mul => rw [AFit_def] at h; exact ⟨_, by simp [binOp, Op.intArith], rfl, h⟩
    case quo => rw [ADiv_def] at h; exact ⟨_, by simp [binOp, Op.intDiv, h.1], rfl, h.2⟩
    case rem => rw [ARem_def] at h; exact ⟨_, by simp [binOp, Op.intDiv, h.1], rfl, h.2⟩
    case and => rw [ABits_def] at h; exact ⟨_, by simp only [binOp, Op.intBits, ne_eq, not_true_eq_false, if_false]; rfl, rfl, h⟩
    case or => rw [ABits_def] at h; exact ⟨_, by simp only [binOp, Op.intBits, ne_eq, not_true_eq_false, if_false]; rfl, rfl, h⟩
    case xor => rw [ABits_def] at h; exact ⟨_, by simp only [binOp, Op.intBits, ne_eq, not_true_eq_false, if_false]; rfl, rfl, h⟩
    case andNot => rw [ABits_def] at h; exact ⟨_, by simp only [binOp, Op.intBits, ne_eq, not_true_eq_false, if_false]; rfl, rfl, h⟩
    case eql => refine ⟨_, ?_, rfl, h⟩; simp [binOp, Op.intCmp]; rfl
    case neq => refine ⟨_, ?_, rfl, h⟩; simp [binOp, Op.intCmp, bne]; rfl
    case lss => refine ⟨_, ?_, rfl, h⟩; simp [binOp, Op.intCmp]
    case leq => refine ⟨_, ?_, rfl, h⟩; simp [binOp, Op.intCmp]
    case gtr => refine ⟨_, ?_, rfl, h⟩; simp [binOp, Op.intCmp]
    case geq => refine ⟨_, ?_, rfl, h⟩; simp [binOp, Op.intCmp]
  · rename_i a b
    have hg : ∀ (z : Sem Value), (do eqGuard op t p q (.bool a) (.bool b); z : Sem Value).run P w = z.run P w := fun z => by
      unfold eqGuard; cases op <;> simp
    rw [hg]
    cases tb
    · cases op <;> exact h.elim
    · have hb := ht rfl
      cases op <;> simp only at h <;> first | exact h.elim | skip
      · refine ⟨_, ?_, rfl, h⟩; exact run_eql_bool w t a b hb
      · refine ⟨_, ?_, rfl, h⟩; exact run_neq_bool w t a b hb
  · rename_i a b
    have hg : ∀ (z : Sem Value), (do eqGuard op t p q (.string a) (.string b); z : Sem Value).run P w = z.run P w := fun z => by
      unfold eqGuard; cases op <;> simp
    rw [hg]
    cases op <;> simp only at h <;> first | exact h.elim | skip
    · refine ⟨_, ?_, rfl, h⟩; simp only [binOp, Op.stringOp, ByteArray.toList_eq, beqL]; rfl
    · refine ⟨_, ?_, rfl, h⟩
      simp only [binOp, Op.stringOp, ByteArray.toList_eq, Sem.run_pure, ne_eq, decide_not, beqL]
  · exact h.elim
end Go.Am
/-
  Memory: loads, stores, new blocks, views, appends: what the run gives.
-/
namespace Go.Am
set_option linter.unusedSectionVars false
open Go.RowKit (Below)

theorem aggOf_spec {P : Program} {t : TypeId} {g : Option Nat} (h : aggOf P t = some g) :
    ∃ i d, P.info? t = some i ∧ P.underlying t = some d ∧ ((isSA d = true ∧ g = some i.size) ∨ (isSA d = false ∧ g = none)) := by
  unfold aggOf at h
  split at h
  · rename_i i d h1 h2
    cases h
    refine ⟨_, _, h1, h2, ?_⟩
    cases isSA d
    · exact .inr ⟨rfl, rfl⟩
    · exact .inl ⟨rfl, rfl⟩
  · cases h

theorem isAgg_run {P : Program} {t : TypeId} {d : TypeDesc} (h : P.underlying t = some d) (w : World) : (isAgg t).run P w = .ok (isSA d) w := by
  unfold isAgg
  simp only [Sem.run_bind, run_underlying h, Result.andThen_ok]
  cases d <;> rfl

theorem addr_add (b o j : Nat) : (⟨b, o, none⟩ : Addr).add j = ⟨b, o + j, none⟩ := by unfold Addr.add; split <;> simp_all

theorem loadCells_run {P : Program} {w : World} {b o : Nat} {vs : List Value} (h : ∀ j v, vs[j]? = some v → w.cell? ⟨b, o + j, none⟩ = some v) :
    (loadCells ⟨b, o, none⟩ vs.length).run P w = .ok vs.toArray w :=
  run_loadCells_list w ⟨b, o, none⟩ vs fun j v e => by rw [addr_add]; exact h j v e

theorem load_run {P : Program} {w : World} {κ : Ghost} {t : TypeId} {g : Option Nat} (ht : aggOf P t = some g) {b o off : Nat} {cs : List AVal} {vs : List Value} {K : AVal → Prop}
    (hr : RepL κ cs vs) (hc : ∀ j v, vs[j]? = some v → w.cell? ⟨b, o + j, none⟩ = some v) (h : cellsAt cs off g K) :
    ∃ v x, (Instr.loadAt t (.pointer (some ⟨b, o + off, none⟩))).run P w = .ok v w ∧ RepV κ x v ∧ K x := by
  obtain ⟨i, d, h1, h2, h3⟩ := aggOf_spec ht
  have hi : (typeInfo t).run P w = .ok i w := by simp [typeInfo, h1]
  rcases h3 with ⟨hd, rfl⟩ | ⟨hd, rfl⟩
  · obtain ⟨hl, hK⟩ := h
    have hlen := hr.length
    have hvs : ((vs.drop off).take i.size).length = i.size := by simp; omega
    refine ⟨.agg ((vs.drop off).take i.size).toArray, _, ?_, .agg ((hr.drop off).take i.size), hK⟩
    have hload : (loadCells ⟨b, o + off, none⟩ i.size).run P w = .ok ((vs.drop off).take i.size).toArray w := by
      have := loadCells_run (P := P) (w := w) (b := b) (o := o + off) (vs := (vs.drop off).take i.size) (fun j v e => by
        rw [List.getElem?_take] at e
        split at e
        · rw [List.getElem?_drop] at e
          rw [Nat.add_assoc]; exact hc _ v e
        · cases e)
      rwa [hvs] at this
    simp only [Instr.loadAt, Instr.sureAddr, Sem.run_bind, Sem.run_pure, Result.andThen_ok, loadVar, isAgg_run h2, hd, if_true, sizeOf, hi, hload]
  · obtain ⟨x, hx, hK⟩ := h
    obtain ⟨v, hv, hr⟩ := hr.get hx
    refine ⟨v, x, ?_, hr, hK⟩
    simp only [Instr.loadAt, Instr.sureAddr, Sem.run_bind, Sem.run_pure, Result.andThen_ok, loadVar, isAgg_run h2, hd, Bool.false_eq_true, if_false, run_load, hc off v hv]

/-- The cells of a named object, as the world has them. -/
theorem Inv.objCells {κ : Ghost} {σ : AHeap} {w : World} (h : Inv κ σ w) {id b : Nat} {cs : List AVal} (hs : σ id = some (.cells cs)) (hb : κ.obj id = some b) :
    ∃ c e vs us, w.heap[b]? = some (.cells c e (0, 0)) ∧ κ.size b = some c.size ∧ c.toList = vs ++ us ∧ RepL κ cs vs ∧ Ones vs ∧ Ones us ∧
      ∀ j v, vs[j]? = some v → w.cell? ⟨b, 0 + j, none⟩ = some v := by
  obtain ⟨b', c, e, vs, us, k1, k2, k3, k4, k5, k6, k7⟩ := h.cells id cs hs
  rw [hb] at k1; cases k1
  refine ⟨c, e, vs, us, k2, k3, k4, k5, k6, k7, fun j v e => ?_⟩
  rw [heap_cell k2, Nat.zero_add, ← Array.getElem?_toList, k4]
  rw [List.getElem?_append_left]; exact e
  exact (List.getElem?_eq_some_iff.1 e).1

theorem splice_length {α : Type} (cs : List α) (off : Nat) (xs : List α) (h : off + xs.length ≤ cs.length) : (splice cs off xs).length = cs.length := by
  simp [splice]; omega

theorem splice_cons {α : Type} (cs : List α) (off : Nat) (x : α) (xs : List α) (h : off < cs.length) : splice (cs.set off x) (off + 1) xs = splice cs off (x :: xs) := by
  simp only [splice]
  rw [List.take_add_one, List.take_set_of_le (Nat.le_refl _), List.drop_set_of_lt (by omega)]
  simp [h]
  congr 1; omega

/-- A store of cells into a block. -/
theorem storeCells_run {P : Program} {b : Nat} {e : TypeId} : ∀ (vs : List Value) (o i : Nat) (w : World) (c : Array Value), w.heap[b]? = some (.cells c e (0, 0)) → o + i + vs.length ≤ c.size → Ones vs →
    ∃ c', (storeCells ⟨b, o, none⟩ vs i).run P w = .ok () (setBlock w b c' e) ∧ c'.toList = splice c.toList (o + i) vs
  | [], o, i, w, c, hw, _, _ => ⟨c, by rw [setBlock_get hw]; rfl, by simp [splice]⟩
  | v :: vs, o, i, w, c, hw, hl, ho => by
    simp only [List.length_cons] at hl
    have hv : v.oneCell' = true := by have := ho v (List.mem_cons_self ..); cases v <;> first | rfl | exact this
    have hcell : w.cell? ⟨b, o + i, none⟩ = some c[o + i] := by rw [heap_cell hw]; simp
    have hfr : w.frozen? ⟨b, o + i, none⟩ = false := by simp [World.frozen?, hw]
    have hs : (store ((⟨b, o, none⟩ : Addr).add i) v).run P w = .ok () (setBlock w b (c.setIfInBounds (o + i) v) e) := by
      rw [addr_add, run_store P w _ _ _ hv, hcell]
      simp only [hfr, Bool.false_eq_true, if_false]
      rw [setCell_eq hw]
    obtain ⟨c', h1, h2⟩ := storeCells_run (P := P) (b := b) (e := e) vs o (i + 1) (setBlock w b (c.setIfInBounds (o + i) v) e) (c.setIfInBounds (o + i) v) (setBlock_same (heap_lt hw)) (by simp; omega)
      (fun u hu => ho u (List.mem_cons_of_mem _ hu))
    refine ⟨c', ?_, ?_⟩
    · simp only [storeCells, Sem.run_bind, hs, Result.andThen_ok, h1, setBlock_setBlock]
    · rw [h2]
      simp only [Array.toList_setIfInBounds]
      rw [← Nat.add_assoc, splice_cons _ _ _ _ (by simp; omega)]

theorem storeVar_run {P : Program} {w : World} {t : TypeId} {i : TypeInfo} (hi : P.info? t = some i) {b o : Nat} {c : Array Value} {e : TypeId} {v : Value} (hw : w.heap[b]? = some (.cells c e (0, 0)))
    (hv : v.cells.size = i.size) (hl : o + v.cells.size ≤ c.size) (ho : Ones v.cells.toList) :
    ∃ c', (Instr.storeAt t (.pointer (some ⟨b, o, none⟩)) v).run P w = .ok () (setBlock w b c' e) ∧ c'.toList = splice c.toList o v.cells.toList := by
  obtain ⟨c', h1, h2⟩ := storeCells_run (P := P) v.cells.toList o 0 w c hw (by simpa using hl) ho
  refine ⟨c', ?_, by simpa using h2⟩
  have hs : (sizeOf t).run P w = .ok i.size w := by simp [sizeOf, typeInfo, hi]
  simp only [Instr.storeAt, Instr.sureAddr, Sem.run_bind, Sem.run_pure, Result.andThen_ok, storeVar, hs, ne_eq, hv, not_true_eq_false, if_false]
  simp only [Bool.false_eq_true, if_false, h1]

theorem RepL.splice {κ : Ghost} {cs xs : List AVal} {vs us : List Value} (h : RepL κ cs vs) (k : RepL κ xs us) (off : Nat) : RepL κ (Am.splice cs off xs) (Am.splice vs off us) := by
  simp only [Am.splice]
  rw [k.length]
  exact ((h.take off).append k).append (h.drop _)

theorem Ones.splice {cs xs : List Value} (h : Ones cs) (k : Ones xs) (off : Nat) : Ones (Am.splice cs off xs) := ((h.take off).append k).append (h.drop _)

/-- A store of values into a named object. -/
theorem Inv.storeObjL {P : Program} {κ : Ghost} {σ : AHeap} {w : World} (h : Inv κ σ w) {id off b : Nat} {cs xs : List AVal} {vs : List Value}
    (hs : σ id = some (.cells cs)) (hb : κ.obj id = some b) (hx : RepL κ xs vs) (hl : off + xs.length ≤ cs.length) (hc : xs.all AVal.isCell = true) :
    ∃ w', (storeCells ⟨b, off, none⟩ vs).run P w = .ok () w' ∧ Inv κ (upd σ id (.cells (Am.splice cs off xs))) w' := by
  obtain ⟨c, e, vs0, us, k1, k2, k3, k4, k5, k6, _⟩ := h.objCells hs hb
  have hxl : xs.length = vs.length := hx.length
  have hcl : cs.length = vs0.length := k4.length
  have hsz : c.size = vs0.length + us.length := by have := congrArg List.length k3; simpa using this
  obtain ⟨c', h1, h2⟩ := storeCells_run (P := P) vs off 0 w c k1 (by omega) (ones_of hx hc)
  refine ⟨_, h1, h.setObj (vs := Am.splice vs0 off vs) (us := us) hs hb k1 ?_ ?_ (k4.splice hx off) (k5.splice (ones_of hx hc) off) k6⟩
  · have := congrArg List.length h2
    rw [splice_length _ _ _ (by simp; omega)] at this
    simpa using this
  · rw [h2, k3]
    simp only [Am.splice, Nat.add_zero]
    rw [List.take_append_of_le_length (by omega), List.drop_append_of_le_length (by omega)]
    simp
theorem zeroCells_reps {κ : Ghost} {z : AVal} {c : Array Value} (h : RepL κ [z] c.toList) (n : Nat) : RepL κ (List.replicate n z) (Builtin.zeroCells c n).toList := by
  have hl : c.size = 1 := by have := h.length; simpa using this.symm
  have e : (Builtin.zeroCells c n).toList = List.replicate n c[0]! := by
    apply List.ext_getElem
    · simp [Builtin.zeroCells, hl]
    · intro i h1 h2
      simp [Builtin.zeroCells, hl, Nat.mod_one]
  rw [e]
  have hz : RepV κ z c[0]! := by
    obtain ⟨l⟩ := c
    match l, h with
    | [v], .cons h1 .nil => exact h1
  clear e
  induction n with
  | zero => exact .nil
  | succ n ih => exact .cons hz ih
/-- A store into a named object. -/
theorem Inv.storeObj {P : Program} {κ : Ghost} {σ : AHeap} {w : World} (h : Inv κ σ w) {t : TypeId} {i : TypeInfo} (hi : P.info? t = some i) {id off b : Nat} {cs xs : List AVal} {v : Value}
    (hs : σ id = some (.cells cs)) (hb : κ.obj id = some b) (hx : RepL κ xs v.cells.toList) (hn : xs.length = i.size) (hl : off + xs.length ≤ cs.length) (hc : xs.all AVal.isCell = true) :
    ∃ w', (Instr.storeAt t (.pointer (some ⟨b, off, none⟩)) v).run P w = .ok () w' ∧ Inv κ (upd σ id (.cells (Am.splice cs off xs))) w' := by
  obtain ⟨c, e, vs, us, k1, k2, k3, k4, k5, k6, _⟩ := h.objCells hs hb
  have hxl : xs.length = v.cells.size := by have := hx.length; simpa using this
  have hcl : cs.length = vs.length := k4.length
  have hsz : c.size = vs.length + us.length := by have := congrArg List.length k3; simpa using this
  obtain ⟨c', h1, h2⟩ := storeVar_run (P := P) (t := t) (o := off) (v := v) hi k1 (by omega) (by omega) (ones_of hx hc)
  refine ⟨_, h1, h.setObj (vs := Am.splice vs off v.cells.toList) (us := us) hs hb k1 ?_ ?_ (k4.splice hx off) (k5.splice (ones_of hx hc) off) k6⟩
  · have := congrArg List.length h2
    rw [splice_length _ _ _ (by simp; omega)] at this
    simpa using this
  · rw [h2, k3]
    simp only [Am.splice]
    have hvl : v.cells.toList.length = xs.length := by simp; omega
    rw [List.take_append_of_le_length (by omega), List.drop_append_of_le_length (by omega)]
    simp
end Go.Am
/-
  New blocks, literals, appends.
-/
namespace Go.Am
set_option linter.unusedSectionVars false
open Go.RowKit (Below)

theorem fold_set_list : ∀ (vs : List (Value × Nat)) (off k : Nat) (cs : Array Value), (∀ j x, vs[j]? = some x → x.2 = k + j) → off + k + vs.length ≤ cs.size →
    (vs.foldl (fun (cs : Array Value) (x : Value × Nat) => cs.setIfInBounds (off + x.2) x.1) cs).toList = splice cs.toList (off + k) (vs.map (·.1))
  | [], off, k, cs, _, _ => by simp [splice]
  | (v, j) :: vs, off, k, cs, hi, hl => by
    have hj : j = k := by have := hi 0 (v, j) (by simp); simpa using this
    subst hj
    simp only [List.length_cons] at hl
    simp only [List.foldl_cons, List.map_cons]
    rw [fold_set_list vs off (j + 1) _ (fun i x e => by have := hi (i + 1) x (by simpa using e); omega) (by simp; omega)]
    simp only [Array.toList_setIfInBounds]
    rw [← Nat.add_assoc, splice_cons _ _ _ _ (by simp; omega)]

theorem fold_set (vs : Array Value) (off : Nat) (cs : Array Value) (h : off + vs.size ≤ cs.size) :
    (vs.zipIdx.foldl (fun (cs : Array Value) (x : Value × Nat) => cs.setIfInBounds (off + x.2) x.1) cs).toList = splice cs.toList off vs.toList := by
  rw [← Array.foldl_toList, Array.toList_zipIdx]
  have := fold_set_list (vs.toList.zipIdx) off 0 cs (fun j x e => by
    rw [List.getElem?_zipIdx] at e
    cases hv : vs.toList[j]? with
    | none => simp [hv] at e
    | some v => simp [hv] at e; rw [← e]; simp) (by simpa using h)
  simpa [List.zipIdx_map_fst] using this

theorem putK_spec {k : List AVal → Prop} : ∀ {zs : List AVal} {off : Nat} {xs : List AVal}, putK zs off xs k → off + xs.length ≤ zs.length ∧ k (splice zs off xs) := by
  intro zs
  induction zs generalizing k with
  | nil =>
    intro off xs h
    cases off <;> cases xs <;> simp only [putK] at h <;> first | exact h.elim | exact ⟨by simp, by simpa [splice] using h⟩
  | cons z zs ih =>
    intro off xs h
    cases off with
    | zero =>
      cases xs with
      | nil => simp only [putK] at h; exact ⟨by simp, by simpa [splice] using h⟩
      | cons x xs =>
        simp only [putK] at h
        obtain ⟨h1, h2⟩ := ih h
        exact ⟨by simp at *; omega, by simpa [splice] using h2⟩
    | succ n =>
      have h' : putK zs n xs fun l => k (z :: l) := by cases xs <;> simpa only [putK] using h
      obtain ⟨h1, h2⟩ := ih h'
      refine ⟨by simp at *; omega, ?_⟩
      simpa [splice, Nat.succ_add] using h2

inductive Parts (κ : Ghost) (env : Env) (place : Nat → Option (Nat × Nat)) : List (Nat × Nat × Opd) → List (Nat × Value) → Prop
  | nil : Parts κ env place [] []
  | cons {off n x i v ps vs} : place i = some (off, n) → RepV κ (x.get env) v → Parts κ env place ps vs → Parts κ env place ((off, n, x) :: ps) ((i, v) :: vs)

theorem fill_spec {κ : Ghost} {env : Env} {place : Nat → Option (Nat × Nat)} {k : List AVal → Prop} : ∀ {ps : List (Nat × Nat × Opd)} {vs : List (Nat × Value)} {zs : List AVal} {cs : Array Value}, Parts κ env place ps vs →
    RepL κ zs cs.toList → fillK env ps zs k → ∃ c' l, Instr.fill place cs vs = some c' ∧ RepL κ l c'.toList ∧ k l := by
  intro ps
  induction ps with
  | nil => intro vs zs cs hp hz h; cases hp; exact ⟨cs, zs, rfl, hz, h⟩
  | cons p ps ih =>
    intro vs zs cs hp hz h
    cases hp with
    | cons h1 h2 h3 =>
    rename_i off n x i v vs
    have key : ∀ xs : List AVal, RepL κ xs v.cells.toList → xs.length = n → (putK zs off xs fun l => fillK env ps l k) → ∃ c' l, Instr.fill place cs ((i, v) :: vs) = some c' ∧ RepL κ l c'.toList ∧ k l := by
      intro xs hx hn hq
      obtain ⟨q1, q2⟩ := putK_spec hq
      have hxl := hx.length
      have hzl := hz.length
      simp only [Array.length_toList] at hxl hzl
      have hf := fold_set v.cells off cs (by omega)
      obtain ⟨c', l, r1, r2, r3⟩ := ih (cs := v.cells.zipIdx.foldl (fun (cs : Array Value) (x : Value × Nat) => cs.setIfInBounds (off + x.2) x.1) cs) h3 (by rw [hf]; exact hz.splice hx off) q2
      refine ⟨c', l, ?_, r2, r3⟩
      simp only [Instr.fill, h1]
      rw [if_neg (by simp; omega)]
      exact r1
    simp only [fillK, Opd.getK_eq] at h
    split at h
    · rename_i cs' he
      rw [he] at h2
      cases hb : Nat.beq cs'.length n with
      | false => simp [hb] at h
      | true =>
        simp only [hb, cond_true] at h
        exact key cs' (h2.cells (.inr ⟨cs', rfl⟩)) (Nat.eq_of_beq_eq_true hb) h
    · cases hb : (Nat.beq n 1 && (x.get env).isCell) with
      | false => simp [hb] at h
      | true =>
        simp only [hb, cond_true] at h
        simp only [Bool.and_eq_true] at hb
        have hcs : (x.get env).cells = [x.get env] := by
          have := hb.2
          cases hx : x.get env <;> first | rfl | (rw [hx] at this; simp [AVal.isCell] at this)
        exact key [x.get env] (by rw [← hcs]; exact h2.cells (.inl hb.2)) (by have := Nat.eq_of_beq_eq_true hb.1; simp; omega) h

theorem rows_fill (s : Nat) : ∀ (vs : List Value) (k : Nat) (cs : Array Value), (∀ v ∈ vs, v.cells.size = s) → (k + vs.length) * s ≤ cs.size →
    ∃ c', Instr.fill (fun i => some (i * s, s)) cs ((vs.zipIdx k).map fun x => (x.2, x.1)) = some c' ∧ c'.toList = splice cs.toList (k * s) (vs.flatMap fun v => v.cells.toList)
  | [], k, cs, _, _ => ⟨cs, rfl, by simp [splice]⟩
  | v :: vs, k, cs, hv, hl => by
    have h1 := hv v (List.mem_cons_self ..)
    have hl' : (k + 1 + vs.length) * s ≤ cs.size := by simp only [List.length_cons] at hl; rw [show k + 1 + vs.length = k + (vs.length + 1) by omega]; exact hl
    have hks : k * s + s ≤ cs.size := by
      have : (k + 1) * s ≤ (k + 1 + vs.length) * s := Nat.mul_le_mul_right s (by omega)
      rw [Nat.succ_mul] at this; omega
    have hf := fold_set v.cells (k * s) cs (by omega)
    obtain ⟨c', r1, r2⟩ := rows_fill s vs (k + 1) (v.cells.zipIdx.foldl (fun (cs : Array Value) (x : Value × Nat) => cs.setIfInBounds (k * s + x.2) x.1) cs) (fun u hu => hv u (List.mem_cons_of_mem _ hu)) (by
      have := congrArg List.length hf
      rw [splice_length _ _ _ (by simp; omega)] at this
      simp only [Array.length_toList] at this; omega)
    refine ⟨c', ?_, ?_⟩
    · simp only [List.zipIdx_cons, List.map_cons, Instr.fill]
      rw [if_neg (by simp; omega)]
      exact r1
    · rw [r2, hf]
      simp only [splice, List.flatMap_cons]
      have hlen : v.cells.toList.length = s := by simpa using h1
      have e1 : (k + 1) * s = k * s + s := Nat.succ_mul k s
      have htl : (List.take (k * s) cs.toList).length = k * s := by simp; omega
      rw [e1]
      rw [List.take_append_of_le_length (by simp; omega), List.take_of_length_le (by simp; omega)]
      simp only [List.append_assoc, List.length_append, hlen]
      congr 2
      congr 1
      rw [← List.append_assoc, List.drop_append, List.drop_of_length_le (by simp; omega), List.nil_append, List.drop_drop]
      congr 1
      simp only [List.length_append, htl, hlen]
      omega
theorem flat_len {s : Nat} : ∀ {xs : List AVal}, (∀ x ∈ xs, x.cells.length = s) → (xs.flatMap AVal.cells).length = xs.length * s
  | [], _ => by simp
  | x :: xs, h => by
    have h1 := h x (List.mem_cons_self ..)
    have h2 := flat_len (xs := xs) fun y hy => h y (List.mem_cons_of_mem _ hy)
    simp only [List.flatMap_cons, List.length_append, h1, h2, List.length_cons, Nat.succ_mul]; omega

/-- A slice over a new row, with the right to append. -/
theorem Inv.newSlice {κ : Ghost} {σ : AHeap} {w : World} (h : Inv κ σ w) {c : Array Value} {e : TypeId} {s cap : Nat} {xs : List AVal} {vs us : List Value} (hx : ∀ x ∈ xs, x.cells.length = s)
    (hr : RepL κ (xs.flatMap AVal.cells) vs) (hc : c.toList = vs ++ us) (ho : Ones c.toList) (hcap : xs.length ≤ cap) (hsz : cap * s ≤ c.size) {t : Nat} (ht : σ t = none ∧ κ.obj t = none ∧ κ.tok t = none) :
    ∃ κ', κ.le κ' ∧ Inv κ' (upd σ t .tip) (w.alloc (.cells c e)) ∧ RepV κ' (.slice s xs (.tip t)) (.slice (some ⟨w.heap.size, 0, none⟩) xs.length cap) := by
  have hl : vs.length = xs.length * s := by rw [← hr.length, flat_len hx]
  have hcs : c.size = vs.length + us.length := by have := congrArg List.length hc; simpa using this
  obtain ⟨κ', h1, h2, h3, h4, h5⟩ := h.allocRow (c := c) (e := e) (m := xs.length * s) (by omega) ho ht
  refine ⟨κ', h1, h2, .slice rfl hcap hx (hr.mono h1) (fun i v e => ?_) (.inr ⟨by rw [h5, Nat.zero_add], c.size, h4, by omega⟩)⟩
  have hi : i < vs.length := (List.getElem?_eq_some_iff.1 e).1
  rw [Nat.zero_add]
  refine h3 i v (by omega) ?_
  rw [← Array.getElem?_toList, hc, List.getElem?_append_left hi]; exact e

theorem Inv.newSliceO {κ : Ghost} {σ : AHeap} {w : World} (h : Inv κ σ w) {c : Array Value} {e : TypeId} {s cap : Nat} {xs : List AVal} {vs us : List Value} (hx : ∀ x ∈ xs, x.cells.length = s)
    (hr : RepL κ (xs.flatMap AVal.cells) vs) (hc : c.toList = vs ++ us) (ho : Ones c.toList) (hcap : xs.length ≤ cap) (hsz : cap * s ≤ c.size) {t : Nat} (ht : σ t = none ∧ κ.obj t = none ∧ κ.tok t = none) :
    ∃ κ', κ.le κ' ∧ Inv κ' (upd σ t .tip) (w.alloc (.cells c e)) ∧ RepV κ' (.slice s xs (.own t)) (.slice (some ⟨w.heap.size, 0, none⟩) xs.length cap) := by
  have hl : vs.length = xs.length * s := by rw [← hr.length, flat_len hx]
  have hcs : c.size = vs.length + us.length := by have := congrArg List.length hc; simpa using this
  obtain ⟨κ', h1, h2, h3, h4, h5⟩ := h.allocRow (c := c) (e := e) (m := xs.length * s) (by omega) ho ht
  refine ⟨κ', h1, h2, .slice rfl hcap hx (hr.mono h1) (fun i v e => ?_) (by show κ'.tok t = _; rw [h5, Nat.zero_add])⟩
  have hi : i < vs.length := (List.getElem?_eq_some_iff.1 e).1
  rw [Nat.zero_add]
  refine h3 i v (by omega) ?_
  rw [← Array.getElem?_toList, hc, List.getElem?_append_left hi]; exact e

theorem RepV.full_of_own {κ : Ghost} {s : Nat} {xs : List AVal} {t : Nat} {b off len : Nat} (h : RepV κ (.slice s xs (.own t)) (.slice (some ⟨b, off, none⟩) len len)) : RepV κ (.slice s xs .full) (.slice (some ⟨b, off, none⟩) len len) := by
  cases h with
  | nil => exact .nil
  | slice h1 h2 h3 h4 h5 h6 => exact .slice h1 h2 h3 h4 h5 rfl

theorem RepV.full_of_tip {κ : Ghost} {s : Nat} {xs : List AVal} {t : Nat} {b off len : Nat} (h : RepV κ (.slice s xs (.tip t)) (.slice (some ⟨b, off, none⟩) len len)) : RepV κ (.slice s xs .full) (.slice (some ⟨b, off, none⟩) len len) := by
  cases h with
  | nil => exact .nil
  | slice h1 h2 h3 h4 h5 h6 => exact .slice h1 h2 h3 h4 h5 rfl

theorem okElem_spec {s : Nat} {x : AVal} (h : okElem s x = true) : x.cells.length = s ∧ x.cells.all AVal.isCell = true ∧ (x.isCell = true ∨ ∃ cs, x = .agg cs) := by
  unfold okElem at h
  split at h
  · simp only [Bool.and_eq_true] at h
    exact ⟨Nat.eq_of_beq_eq_true h.1, h.2, .inr ⟨_, rfl⟩⟩
  · simp only [Bool.and_eq_true] at h
    have hs := Nat.eq_of_beq_eq_true h.1
    have hc : x.cells = [x] := by
      cases x <;> first | rfl | (simp [AVal.isCell] at h)
    rw [hc]
    exact ⟨by simp [hs], by simp [h.2], .inl h.2⟩

theorem elems_rep {κ : Ghost} {s : Nat} : ∀ {xs : List AVal} {vs : List Value}, RepL κ xs vs → xs.all (okElem s) = true →
    (∀ x ∈ xs, x.cells.length = s) ∧ (∀ v ∈ vs, v.cells.size = s) ∧ RepL κ (xs.flatMap AVal.cells) (vs.flatMap fun v => v.cells.toList) ∧ Ones (vs.flatMap fun v => v.cells.toList)
  | [], _, .nil, _ => ⟨by simp, by simp, .nil, by intro v h; cases h⟩
  | x :: xs, v :: vs, .cons hv ht, h => by
    simp only [List.all_cons, Bool.and_eq_true] at h
    obtain ⟨h1, h2, h3⟩ := okElem_spec h.1
    obtain ⟨k1, k2, k3, k4⟩ := elems_rep ht h.2
    have hr := hv.cells h3
    have hl : v.cells.size = s := by have := hr.length; simp only [Array.length_toList] at this; omega
    refine ⟨fun y hy => ?_, fun u hu => ?_, ?_, ?_⟩
    · cases hy with
      | head => exact h1
      | tail _ hm => exact k1 y hm
    · cases hu with
      | head => exact hl
      | tail _ hm => exact k2 u hm
    · simp only [List.flatMap_cons]; exact hr.append k3
    · simp only [List.flatMap_cons]; exact (ones_of hr h2).append k4

/-- A slice's literal. -/
theorem Inv.rowT {P : Program} {κ : Ghost} {σ : AHeap} {w : World} (h : Inv κ σ w) {t e : TypeId} {i : TypeInfo} {z : Value} (ht : P.underlying t = some (.slice e)) (hi : P.info? e = some i) (hz : i.zero = some z)
    {xs : List AVal} {vs : List Value} (hr : RepL κ xs vs) (hx : xs.all (okElem i.size) = true) (hn : xs.length * i.size ≤ 16777216) (h0 : i.size ≠ 0) {N : Nat} (hN : σ N = none ∧ κ.obj N = none ∧ κ.tok N = none) :
    ∃ n v w' κ', (Instr.buildSlice t xs.length (vs.zipIdx.map fun x => (x.2, x.1)).toArray).run P w = .ok v w' ∧ κ.le κ' ∧ Inv κ' (upd σ N .tip) w' ∧ v = .slice (some ⟨n, 0, none⟩) xs.length xs.length ∧ RepV κ' (.slice i.size xs (.own N)) v := by
  obtain ⟨k1, k2, k3, k4⟩ := elems_rep hr hx
  have hl := hr.length
  let Z : Array Value := if vs.length * i.size = 0 then #[] else z.cells
  obtain ⟨c, r1, r2⟩ := rows_fill i.size vs 0 ((Array.range (vs.length * i.size)).map (Z[· % Z.size]!)) k2 (by simp)
  have r2' : c.toList = (vs.flatMap fun v => v.cells.toList) := by
    rw [r2]
    have hll : (vs.flatMap fun v => v.cells.toList).length = vs.length * i.size := by
      rw [← k3.length, flat_len k1, hl]
    simp only [splice, Nat.zero_mul, List.take_zero, List.nil_append, Nat.zero_add]
    rw [List.drop_of_length_le (by simp [hll]), List.append_nil]
  obtain ⟨κ', q1, q2, q3⟩ := h.newSliceO (c := c) (e := e) (s := i.size) (cap := xs.length) (xs := xs) (us := []) k1 k3 (by simpa using r2') (by rw [r2']; exact k4) (Nat.le_refl _) (by
    have := congrArg List.length r2'
    rw [← k3.length, flat_len k1] at this
    simp only [Array.length_toList] at this; omega) (t := N) hN
  refine ⟨w.heap.size, _, _, κ', ?_, q1, q2, rfl, q3⟩
  rw [hl] at hn
  have hnn : ¬ (16777216 < vs.length * i.size) := by omega
  have hres : (Value.slice (some ⟨w.heap.size, 0, none⟩) xs.length xs.length) = Value.slice (some ⟨w.heap.size, 0, none⟩) vs.length vs.length := by rw [hl]
  rw [hres]
  simp only [Instr.buildSlice, Sem.run_bind, run_underlying ht, Result.andThen_ok, sizeOf, typeInfo, run_program, hi, Sem.run_pure, hl]
  rw [if_neg hnn]
  by_cases h00 : vs.length * i.size = 0
  · rw [if_pos h00]
    have hZ : Z = #[] := if_pos h00
    rw [hZ] at r1
    simp only [Sem.run_bind, Sem.run_pure, Result.andThen_ok, r1, newRow, run_newObj]
    rfl
  · rw [if_neg h00]
    have hZ : Z = z.cells := if_neg h00
    rw [hZ] at r1
    have hzr : (zeroValue e).run P w = .ok z w := by simp [zeroValue, typeInfo, hi, hz]
    simp only [Sem.run_bind, Sem.run_pure, Result.andThen_ok, hzr, r1, newRow, run_newObj]
    rfl

/-- A slice's literal. -/
theorem Inv.row {P : Program} {κ : Ghost} {σ : AHeap} {w : World} (h : Inv κ σ w) {t e : TypeId} {i : TypeInfo} {z : Value} (ht : P.underlying t = some (.slice e)) (hi : P.info? e = some i) (hz : i.zero = some z)
    {xs : List AVal} {vs : List Value} (hr : RepL κ xs vs) (hx : xs.all (okElem i.size) = true) (hn : xs.length * i.size ≤ 16777216) (h0 : i.size ≠ 0) :
    ∃ v w' κ', (Instr.buildSlice t xs.length (vs.zipIdx.map fun x => (x.2, x.1)).toArray).run P w = .ok v w' ∧ κ.le κ' ∧ Inv κ' σ w' ∧ RepV κ' (.slice i.size xs .full) v := by
  obtain ⟨N, hN⟩ := h.fin
  obtain ⟨n, v, w', κ', r1, r2, r3, rfl, r4⟩ := h.rowT ht hi hz hr hx hn h0 (hN N (Nat.le_refl _))
  exact ⟨_, w', κ', r1, r2, r3.sub (Sub.upd_fresh _ (hN N (Nat.le_refl _)).1), r4.full_of_own⟩

/-- The right to append to a row is given up: the row may be marked. -/
theorem Inv.markTip {κ : Ghost} {σ : AHeap} {w : World} (h : Inv κ σ w) {t b p k : Nat} (ht : σ t = some .tip) (hk : κ.tok t = some (b, p)) : Inv κ (del σ t) (w.freeze ⟨b, k, none⟩ 1) := by
  obtain ⟨g1, ⟨c, e, g2, g2'⟩, g3, g4, g5⟩ := h.tip t b p ht hk
  have hb := heap_lt g2
  have hne : ∀ j, j ≠ b → (w.freeze ⟨b, k, none⟩ 1).heap[j]? = w.heap[j]? := fun j hj => by
    simp [World.freeze, Array.getElem?_modify, Ne.symm hj]
  have hat : (w.freeze ⟨b, k, none⟩ 1).heap[b]? = some (.cells c e (k, k + 1)) := by
    simp [World.freeze, Array.getElem?_modify, g2]
  have hsub : Sub σ (del σ t) := Sub.del t
  have hbel : Below κ.base κ.w0 (w.freeze ⟨b, k, none⟩ 1) := by
    refine h.below.trans ⟨rfl, rfl, rfl, by simp [World.freeze], fun j hj => ?_⟩
    rw [hne j (by omega)]
  refine ⟨hbel, by simp [World.freeze]; exact h.base, fun b' o v q => ?_, fun b' n q => ?_, fun id b' q => ?_, fun i j b' hi hj => h.inj i j b' (hsub.live hi) (hsub.live hj), fun id cs q => ?_, fun id es q => ?_, fun t' b' p' q k' => ?_, ?_⟩
  · have := h.cell b' o v q
    refine ⟨?_, this.2⟩
    by_cases hbb : b' = b
    · subst hbb; rw [heap_cell hat, ← heap_cell g2]; exact this.1
    · have e1 := this.1
      simp only [World.cell?] at e1 ⊢
      rw [hne b' hbb]; exact e1
  · obtain ⟨c', e', f, k1, k2⟩ := h.size b' n q
    by_cases hbb : b' = b
    · subst hbb; rw [g2] at k1; cases k1; exact ⟨c, e, _, hat, k2⟩
    · exact ⟨c', e', f, by rw [hne b' hbb]; exact k1, k2⟩
  · obtain ⟨h1, h2, h3⟩ := h.obj id b' q
    exact ⟨h1, by simp [World.freeze]; exact h2, fun hl => h3 (hsub.live hl)⟩
  · obtain ⟨b', c', e', vs, us, k1, k2, k3⟩ := h.cells id cs (hsub _ _ q)
    exact ⟨b', c', e', vs, us, k1, by rw [hne b' (fun e => g4 id (e ▸ k1))]; exact k2, k3⟩
  · obtain ⟨b', c', clk, k1, k2, k3⟩ := h.map id es (hsub _ _ q)
    exact ⟨b', c', clk, k1, by rw [hne b' (fun e => g4 id (e ▸ k1))]; exact k2, k3⟩
  · have hq := hsub _ _ q
    obtain ⟨h1, ⟨c', e', h2, h2'⟩, h3, h4, h5⟩ := h.tip t' b' p' hq k'
    have htt : t' ≠ t := fun e => by subst e; rw [del_same] at q; cases q
    have hbb : b' ≠ b := fun e => by subst e; exact htt (g5 t' p' hq k')
    exact ⟨h1, ⟨c', e', by rw [hne b' hbb]; exact h2, h2'⟩, h3, h4, fun t'' p'' e'' k'' => h5 t'' p'' (hsub _ _ e'') k''⟩
  · obtain ⟨N, hN⟩ := h.fin
    refine ⟨N, fun n hn => ⟨?_, (hN n hn).2⟩⟩
    unfold del; split
    · rfl
    · exact (hN n hn).1

theorem freeze_at {w : World} {o : Obj} {k : Nat} {c : Array Value} {e : TypeId} (ho : o = .cells c e (0, 0)) : ((w.alloc o).freeze ⟨w.heap.size, k, none⟩ 1).heap[w.heap.size]? = some (.cells c e (k, k + 1)) := by
  subst ho
  simp [World.freeze, World.alloc, -World.alloc_eq]
  rw [Array.getElem_modify_self]
  simp
theorem freeze_ne {w : World} {o : Obj} {k b : Nat} (h : b < w.heap.size) : ((w.alloc o).freeze ⟨w.heap.size, k, none⟩ 1).heap[b]? = w.heap[b]? := by
  have h1 : w.heap.size ≠ b := by omega
  simp [World.freeze, World.alloc, -World.alloc_eq, Array.getElem?_modify, Array.getElem?_push, h1, Ne.symm h1]

/-- A new row that a conversion marks: its cells will not change any more. -/
theorem Inv.allocFrozen {κ : Ghost} {σ : AHeap} {w : World} (h : Inv κ σ w) {c : Array Value} {e : TypeId} {m k : Nat} (hm : m ≤ c.size) (hc : Ones c.toList) :
    ∃ κ', κ.le κ' ∧ Inv κ' σ ((w.alloc (.cells c e)).freeze ⟨w.heap.size, k, none⟩ 1) ∧ (∀ i v, i < m → c[i]? = some v → κ'.cell w.heap.size i = some v) := by
  let κ' : Ghost := { κ with
    cell := fun b o => if b = w.heap.size then (if o < m then c[o]? else none) else κ.cell b o }
  have hcell : ∀ b o v, κ.cell b o = some v → b < w.heap.size := fun b o v e => World.block_lt_of_cell? w ⟨b, o, none⟩ (h.cell b o v e).1
  have hle : κ.le κ' := by
    refine ⟨rfl, rfl, fun b o v e => ?_, fun b n e => e, fun _ _ e => e, fun i x e => e⟩
    have := hcell b o v e
    simp only [κ']; rw [if_neg (by omega)]; exact e
  have hbel : Below κ.base κ.w0 ((w.alloc (.cells c e)).freeze ⟨w.heap.size, k, none⟩ 1) := by
    refine (h.below.alloc h.base (.cells c e)).trans ⟨rfl, rfl, rfl, by simp [World.freeze], fun j hj => ?_⟩
    have hb := h.base
    rw [freeze_ne (by omega), alloc_old (by omega)]
  refine ⟨κ', hle, ?_, fun i v hi hv => by simp only [κ', if_true]; rw [if_pos hi]; exact hv⟩
  refine ⟨hbel, by simp [World.freeze]; exact Nat.le_succ_of_le h.base, fun b o v q => ?_, fun b n q => ?_, fun id b q => ?_, h.inj, fun id cs q => ?_, fun id es q => ?_, fun t b p q k' => ?_, h.fin⟩
  · simp only [κ'] at q
    split at q
    · rename_i hb; subst hb
      split at q
      · refine ⟨by rw [heap_cell (freeze_at rfl)]; exact q, hc v ?_⟩
        rw [Array.mem_toList_iff]; exact Array.mem_of_getElem? q
      · cases q
    · have hlt := hcell b o v q
      have := h.cell b o v q
      refine ⟨?_, this.2⟩
      have e1 := this.1
      simp only [World.cell?] at e1 ⊢
      rw [freeze_ne hlt]; exact e1
  · obtain ⟨c', e', f, k1, k2⟩ := h.size b n q
    exact ⟨c', e', f, by rw [freeze_ne (heap_lt k1)]; exact k1, k2⟩
  · obtain ⟨h1, h2, h3⟩ := h.obj id b q
    refine ⟨h1, by simp [World.freeze]; omega, fun hl o => ?_⟩
    simp only [κ']; rw [if_neg (by omega)]; exact h3 hl o
  · obtain ⟨b, c', e', vs, us, k1, k2, k3, k4, k5, k6⟩ := h.cells id cs q
    exact ⟨b, c', e', vs, us, k1, by rw [freeze_ne (heap_lt k2)]; exact k2, k3, k4, k5.mono hle, k6⟩
  · obtain ⟨b, c', clk, k1, k2, k3, k4⟩ := h.map id es q
    exact ⟨b, c', clk, k1, by rw [freeze_ne (heap_lt k2)]; exact k2, k3, k4.mono hle⟩
  · obtain ⟨h1, ⟨c', e', h2, h2'⟩, h3, h4, h5⟩ := h.tip t b p q k'
    have hb := heap_lt h2
    refine ⟨h1, ⟨c', e', by rw [freeze_ne hb]; exact h2, h2'⟩, fun o ho => ?_, h4, h5⟩
    simp only [κ']; rw [if_neg (by omega)]; exact h3 o ho

theorem Inv.newBytes {κ : Ghost} {σ : AHeap} {w : World} (h : Inv κ σ w) (e : TypeId) (s : ByteArray) :
    ∃ κ', κ.le κ' ∧ Inv κ' σ (Lib.bytesWorld w e s) ∧ RepV κ' (.slice 1 (s.data.toList.map byteV) .none) (.slice (some ⟨w.heap.size, 0, none⟩) s.size (grownCap w s.size 0 e)) := by
  have hge := grownCap_ge w s.size 0 e
  have hsz : s.size = s.data.toList.length := by rw [Array.length_toList]; rfl
  have hones : Ones (Lib.bytesCells w e s).toList := by
    intro v hv
    simp only [Lib.bytesCells, Array.toList_append, Array.toList_map, Array.toList_replicate, List.mem_append, List.mem_map, List.mem_replicate] at hv
    rcases hv with ⟨b, _, rfl⟩ | ⟨_, rfl⟩ <;> rfl
  obtain ⟨κ', h1, h2, h3⟩ := h.drew.allocFrozen (c := Lib.bytesCells w e s) (e := e) (m := s.size) (k := (Lib.bytesCells w e s).size) (by rw [hsz]; simp [Lib.bytesCells]) hones
  refine ⟨κ', h1, h2, ?_⟩
  have hrep : ∀ l : List UInt8, RepL κ' ((l.map byteV).flatMap AVal.cells) (l.map fun b => Value.int .u8 b.toNat) := by
    intro l
    induction l with
    | nil => exact .nil
    | cons x l ih => exact .cons (.v rfl) ih
  refine .slice (by rw [hsz]; simp) (by rw [hsz] at hge ⊢; simpa using hge) (fun x hx => ?_) (hrep _) (fun i v q => ?_) trivial
  · obtain ⟨b, _, rfl⟩ := List.mem_map.1 hx; rfl
  · have hi := (List.getElem?_eq_some_iff.1 q).1
    simp at hi
    rw [Nat.zero_add]
    refine h3 i v (by rw [hsz]; simpa using hi) ?_
    rw [← Array.getElem?_toList]
    simp only [Lib.bytesCells, Array.toList_append, Array.toList_map]
    rw [List.getElem?_append_left (by simpa using hi)]; exact q

end Go.Am
/-
  make and append.
-/
namespace Go.Am
set_option linter.unusedSectionVars false
open Go.RowKit (Below)

theorem Inv.addTip {κ : Ghost} {σ : AHeap} {w : World} (h : Inv κ σ w) {t : Nat} (ht : σ t = none ∧ κ.obj t = none ∧ κ.tok t = none) : Inv κ (upd σ t .tip) w := by
  have hs : ∀ i o, i ≠ t → upd σ t .tip i = some o → σ i = some o := fun i o hi e => by rwa [upd_ne _ _ hi] at e
  refine ⟨h.below, h.base, h.cell, h.size, fun i b q => ?_, ?_, ?_, ?_, ?_, ?_⟩
  · obtain ⟨h1, h2, h3⟩ := h.obj i b q
    refine ⟨h1, h2, fun hl => h3 ?_⟩
    rw [upd_ne _ _ (fun k => by subst k; rw [ht.2.1] at q; cases q)] at hl; exact hl
  · intro i j b li lj ki kj
    have hi : i ≠ t := fun e => by subst e; rw [ht.2.1] at ki; cases ki
    have hj : j ≠ t := fun e => by subst e; rw [ht.2.1] at kj; cases kj
    rw [upd_ne _ _ hi] at li; rw [upd_ne _ _ hj] at lj
    exact h.inj i j b li lj ki kj
  · intro i cs e
    have hi : i ≠ t := fun k => by subst k; rw [upd_same] at e; cases e
    exact h.cells i cs (hs _ _ hi e)
  · intro i es e
    have hi : i ≠ t := fun k => by subst k; rw [upd_same] at e; cases e
    exact h.map i es (hs _ _ hi e)
  · intro i b p e k
    have hi : i ≠ t := fun k' => by subst k'; rw [ht.2.2] at k; cases k
    obtain ⟨h1, h2, h3, h4, h5⟩ := h.tip i b p (hs _ _ hi e) k
    refine ⟨h1, h2, h3, h4, fun t' p' e' k' => ?_⟩
    have hi' : t' ≠ t := fun k'' => by subst k''; rw [ht.2.2] at k'; cases k'
    exact h5 t' p' (hs _ _ hi' e') k'
  · obtain ⟨N, hN⟩ := h.fin
    refine ⟨max N (t + 1), fun n hn => ?_⟩
    obtain ⟨h1, h2, h3⟩ := hN n (by omega)
    exact ⟨by rw [upd_ne _ _ (by omega)]; exact h1, h2, h3⟩

theorem ones_zero {z : Array Value} (h : Ones z.toList) (n : Nat) : Ones (Builtin.zeroCells z n).toList := by
  intro v hv
  simp only [Builtin.zeroCells, Array.toList_map, List.mem_map] at hv
  obtain ⟨i, hi, rfl⟩ := hv
  simp only [Array.toList_range, List.mem_range] at hi
  have hz : z.size ≠ 0 := fun e => by rw [e] at hi; omega
  have hlt : i % z.size < z.size := Nat.mod_lt _ (by omega)
  rw [getElem!_pos z _ hlt]
  exact h _ (by simp)

theorem size_zero (z : Array Value) (n : Nat) : (Builtin.zeroCells z n).size = n * z.size := by simp [Builtin.zeroCells]

/-- What an append that fits comes to. -/
def fitRun (P : Program) (w : World) (base : Option Addr) (n cap k : Nat) (news : List Value) : Result Value :=
  match base with
  | none => .ok (.slice none n cap) w
  | some a => ((storeCells (a.add k) news).run P w).andThen fun _ w' => .ok (.slice (some a) n cap) w'

theorem fitRun_none {P : Program} {w : World} (base : Option Addr) (n cap k : Nat) : fitRun P w base n cap k [] = .ok (.slice base n cap) w := by
  cases base <;> simp [fitRun, storeCells]
theorem firstCells_zero {P : Program} {w : World} (s : Nat) (base : Option Addr) (c : Nat) : (Builtin.firstCells s 0 (.slice base 0 c)).run P w = .ok #[] w := by
  cases base <;> simp [Builtin.firstCells, loadCells, loadCellsFrom]

section
variable {P : Program} {w : World} {t u ty e : TypeId} {i : TypeInfo} {z : Value} {x : Value} {n sLen sCap : Nat} {news olds : List Value}

theorem append_fits (ht : P.underlying t = some (.slice e)) (hi : P.info? e = some i) (hu : (∃ e2, P.underlying u = some (.slice e2)) ∨ P.underlying u = some .string) (base : Option Addr)
    (hlen : (Builtin.lenOf x).run P w = .ok n w) (hnew : (Builtin.firstCells i.size n x).run P w = .ok news.toArray w) (hc : sLen + n ≤ sCap) :
    (Builtin.append_ #[t, u] ty #[.slice base sLen sCap, x]).run P w = fitRun P w base (sLen + n) sCap (sLen * i.size) news := by
  unfold fitRun
  rcases hu with ⟨e2, hu⟩ | hu <;> cases base <;> simp [Builtin.append_, run_underlying ht, run_underlying hu, sizeOf, typeInfo, hi, hlen, hnew, hc]

theorem append_grows (ht : P.underlying t = some (.slice e)) (hi : P.info? e = some i) (hz : i.zero = some z) (hu : (∃ e2, P.underlying u = some (.slice e2)) ∨ P.underlying u = some .string) (base : Option Addr)
    (hlen : (Builtin.lenOf x).run P w = .ok n w) (hnew : (Builtin.firstCells i.size n x).run P w.drew = .ok news.toArray w.drew) (hold : (Builtin.firstCells i.size sLen (.slice base sLen sCap)).run P w.drew = .ok olds.toArray w.drew)
    (hc : ¬ sLen + n ≤ sCap) (hb : i.bytes ≠ 0) (hfit : (sLen + n) * i.bytes ≤ 140737488355328) :
    (Builtin.append_ #[t, u] ty #[.slice base sLen sCap, x]).run P w = .ok (.slice (some ⟨w.heap.size, 0, none⟩) (sLen + n) (grownCap w (sLen + n) sCap e))
        (w.drew.alloc (.cells (olds.toArray ++ (news.toArray ++ Builtin.zeroCells z.cells (grownCap w (sLen + n) sCap e - (sLen + n)))) e)) := by
  have h48 : ¬ (281474976710656 < Builtin.nextslicecap (sLen + n) sCap * i.bytes) := by
    have := growslice_fits (need := sLen + n) (old := sCap) (by omega) hfit; omega
  rcases hu with ⟨e2, hu⟩ | hu <;> simp [Builtin.append_, run_underlying ht, run_underlying hu, sizeOf, typeInfo, zeroValue, hi, hz, hlen, hc, hb, h48, Question.forced, hnew, hold, newRow, grownCap]

theorem append0_fits (ht : P.underlying t = some (.slice e)) (hi : P.info? e = some i) (hz : i.zero = some z) {k k' : IntKind} (hu : P.underlying u = some (.int k)) (base : Option Addr) {m : Int} (hm : 0 ≤ m) (hm2 : m * i.bytes ≤ 140737488355328)
    (hw : IntKind.i64.wrap m = m) (hs : i.size ≠ 0) (hc : sLen + m.toNat ≤ sCap) :
    (Builtin.append_ #[t, u] ty #[.slice base sLen sCap, .int k' m]).run P w = fitRun P w base (sLen + m.toNat) sCap (sLen * i.size) (Builtin.zeroCells z.cells m.toNat).toList := by
  unfold fitRun
  have h1 : ¬ m < 0 := by omega
  have h2 : ¬ 281474976710656 < m * i.bytes := by omega
  by_cases h0 : m.toNat = 0
  · have hz0 : Builtin.zeroCells z.cells m.toNat = #[] := by apply Array.eq_empty_of_size_eq_zero; rw [size_zero, h0]; simp
    have hz1 : Builtin.zeroCells z.cells 0 = #[] := by rw [← h0]; exact hz0
    rw [h0] at hc ⊢
    have hc' : sLen ≤ sCap := hc
    cases base <;> simp [Builtin.append_, run_underlying ht, run_underlying hu, sizeOf, typeInfo, hi, hz, hc', asInt, asIntOf, hw, h1, h2, h0, hz1, hs, storeCells]
  · have hne : ¬ m.toNat * i.size = 0 := Nat.mul_ne_zero h0 hs
    cases base <;> simp [Builtin.append_, run_underlying ht, run_underlying hu, sizeOf, typeInfo, hi, hz, hc, asInt, asIntOf, hw, h1, h2, h0, hs, zeroValue]
    all_goals (intro h; exact absurd h hne)

theorem append0_grows (ht : P.underlying t = some (.slice e)) (hi : P.info? e = some i) (hz : i.zero = some z) {k k' : IntKind} (hu : P.underlying u = some (.int k)) (base : Option Addr) {m : Int} (hm : 0 ≤ m) (hm2 : m * i.bytes ≤ 140737488355328)
    (hw : IntKind.i64.wrap m = m) (hs : i.size ≠ 0) (hold : (Builtin.firstCells i.size sLen (.slice base sLen sCap)).run P w.drew = .ok olds.toArray w.drew)
    (hc : ¬ sLen + m.toNat ≤ sCap) (hb : i.bytes ≠ 0) (hfit : (sLen + m.toNat) * i.bytes ≤ 140737488355328) :
    (Builtin.append_ #[t, u] ty #[.slice base sLen sCap, .int k' m]).run P w = .ok (.slice (some ⟨w.heap.size, 0, none⟩) (sLen + m.toNat) (grownCap w (sLen + m.toNat) sCap e))
        (w.drew.alloc (.cells (olds.toArray ++ (Builtin.zeroCells z.cells m.toNat ++ Builtin.zeroCells z.cells (grownCap w (sLen + m.toNat) sCap e - (sLen + m.toNat)))) e)) := by
  have h1 : ¬ m < 0 := by omega
  have h2 : ¬ 281474976710656 < m * i.bytes := by omega
  have h48 : ¬ (281474976710656 < Builtin.nextslicecap (sLen + m.toNat) sCap * i.bytes) := by
    have := growslice_fits (need := sLen + m.toNat) (old := sCap) (by omega) hfit; omega
  have h63 : ¬ 9223372036854775807 < (sLen : Int) + (m.toNat : Int) := by
    have : sLen + m.toNat ≤ (sLen + m.toNat) * i.bytes := Nat.le_mul_of_pos_right _ (by omega)
    omega
  have hz0 : Builtin.zeroCells z.cells 0 = #[] := by apply Array.eq_empty_of_size_eq_zero; rw [size_zero]; simp
  by_cases h0 : m.toNat = 0
  · rw [h0] at h48 hc h63 ⊢
    simp only [Nat.add_zero] at hc h48
    have h63' : ¬ 9223372036854775807 < (sLen : Int) := by simpa using h63
    simp [Builtin.append_, run_underlying ht, run_underlying hu, sizeOf, typeInfo, zeroValue, hi, hz, asInt, asIntOf, hw, h1, h2, h0, hs, hc, hb, h48, h63', Question.forced, newRow, grownCap, hz0]
    simp [hold]
    intro hlt; exfalso; omega
  · simp [Builtin.append_, run_underlying ht, run_underlying hu, sizeOf, typeInfo, zeroValue, hi, hz, asInt, asIntOf, hw, h1, h2, h0, hs, hc, hb, h48, h63, Question.forced, newRow, grownCap]
    simp [hold]
    rw [if_neg (by omega), if_neg (Nat.mul_ne_zero h0 hs)]
end
end Go.Am
/-
  An append, as the abstract values see it.
-/
namespace Go.Am
set_option linter.unusedSectionVars false
open Go.RowKit (Below)

theorem AppWay.sub {σ σ' : AHeap} {t : Tok} (h : AppWay σ t σ') : Sub σ σ' := by cases h <;> first | exact Sub.refl _ | exact Sub.del _

theorem stable_ones {κ : Ghost} {σ : AHeap} {w : World} (h : Inv κ σ w) {b off : Nat} {vs : List Value} (hc : ∀ i v, vs[i]? = some v → κ.cell b (off + i) = some v) : Ones vs := by
  intro v hv
  obtain ⟨i, hi⟩ := List.mem_iff_getElem?.1 hv
  exact (h.cell _ _ _ (hc i v hi)).2

theorem firstCells_stable {P : Program} {κ : Ghost} {σ : AHeap} {w : World} (h : Inv κ σ w) {b off len cap s : Nat} {vs : List Value} (hl : vs.length = len * s) (hc : ∀ i v, vs[i]? = some v → κ.cell b (off + i) = some v) :
    (Builtin.firstCells s len (.slice (some ⟨b, off, none⟩) len cap)).run P w = .ok vs.toArray w :=
  run_firstCells_some w s len ⟨b, off, none⟩ len cap vs hl fun j v e => by rw [addr_add]; exact (h.cell _ _ _ (hc j v e)).1

theorem Inv.app {P : Program} {κ : Ghost} {σ σ' : AHeap} {w : World} (h : Inv κ σ w) {s : Nat} {xs ys : List AVal} {tok : Tok} {base : Option Addr} {sLen sCap : Nat} {S : Sem Value} {e : TypeId} {news : List Value}
    (hx : RepV κ (.slice s xs tok) (.slice base sLen sCap)) (hys : ∀ y ∈ ys, y.cells.length = s) (hnr : RepL κ (ys.flatMap AVal.cells) news) (hno : Ones news) (hs0 : s ≠ 0)
    (hfits : sLen + ys.length ≤ sCap → S.run P w = fitRun P w base (sLen + ys.length) sCap (sLen * s) news)
    (hgrow : ¬ sLen + ys.length ≤ sCap → ∀ olds : List Value, (Builtin.firstCells s sLen (.slice base sLen sCap)).run P w.drew = .ok olds.toArray w.drew →
      ∃ cap c rest, sLen + ys.length ≤ cap ∧ S.run P w = .ok (.slice (some ⟨w.heap.size, 0, none⟩) (sLen + ys.length) cap) (w.drew.alloc (.cells c e)) ∧ c.toList = olds ++ (news ++ rest) ∧ Ones rest ∧
        (olds.length = sLen * s → cap * s ≤ c.size))
    {K : AVal → AHeap → Prop} (hway : AppWay σ tok σ') (hK : ∀ t', σ t' = none → K (.slice s (xs ++ ys) (.tip t')) (upd σ' t' .tip)) :
    ∃ v w', S.run P w = .ok v w' ∧ Post κ w' v K := by
  have hnl : news.length = ys.length * s := by rw [← hnr.length, flat_len hys]
  have hfresh := h.fresh
  obtain ⟨T, hT⟩ := hfresh
  have hT' : σ' T = none := by
    cases hway with
    | full => exact hT.1
    | tip k => simp only [del]; split <;> first | rfl | exact hT.1
  -- a new row
  have grow : ∀ (vs : List Value), RepL κ (xs.flatMap AVal.cells) vs → Ones vs → (∀ x ∈ xs, x.cells.length = s) → xs.length = sLen → vs.length = sLen * s →
      (Builtin.firstCells s sLen (.slice base sLen sCap)).run P w.drew = .ok vs.toArray w.drew → ¬ sLen + ys.length ≤ sCap → ∃ v w', S.run P w = .ok v w' ∧ Post κ w' v K := by
    intro vs hr ho hxc hxl hvl hf hn
    obtain ⟨cap, c, rest, g1, g2, g3, g4, g5⟩ := hgrow hn vs hf
    obtain ⟨κ', q1, q2, q3⟩ := h.drew.newSlice (c := c) (e := e) (s := s) (cap := cap) (xs := xs ++ ys) (vs := vs ++ news) (us := rest)
      (fun x hx => (List.mem_append.1 hx).elim (hxc x) (hys x)) (by rw [List.flatMap_append]; exact hr.append hnr) (by rw [g3, List.append_assoc]) (by rw [g3]; exact ho.append (hno.append g4))
      (by simp; omega) (g5 hvl) (t := T) hT
    refine ⟨_, _, g2, κ', upd σ' T .tip, _, q1, q2.sub (hway.sub.upd _ _), ?_, hK T hT.1⟩
    have : (xs ++ ys).length = sLen + ys.length := by simp [hxl]
    rw [this] at q3
    exact q3
  cases hx with
  | nil =>
    by_cases hn : ys.length = 0
    · have hy : ys = [] := List.eq_nil_of_length_eq_zero hn
      subst hy
      have hnn : news = [] := List.eq_nil_of_length_eq_zero (by rw [hnl]; simp)
      subst hnn
      refine ⟨_, _, (hfits (by simp)).trans (fitRun_none ..), κ, upd σ' T .tip, _, Ghost.le.refl κ, (h.addTip hT).sub (hway.sub.upd _ _), ?_, hK T hT.1⟩
      exact .nil
    · refine grow [] .nil (by intro v hv; cases hv) (by simp) rfl (by simp) ?_ (by omega)
      exact firstCells_zero ..
  | slice h1 h2 h3 h4 h5 h6 =>
    rename_i b off vs
    have hvl : vs.length = sLen * s := by rw [← h4.length, flat_len h3, h1]
    by_cases hn : sLen + ys.length ≤ sCap
    · have hrun := hfits hn
      simp only [fitRun] at hrun
      rw [addr_add] at hrun
      by_cases hy0 : ys.length = 0
      · -- nothing is put
        have hy : ys = [] := List.eq_nil_of_length_eq_zero hy0
        subst hy
        have hnn : news = [] := List.eq_nil_of_length_eq_zero (by rw [hnl]; simp)
        subst hnn
        have hrun' : S.run P w = .ok (.slice (some ⟨b, off, none⟩) sLen sCap) w := by rw [hrun]; rfl
        cases hway with
        | full =>
          refine ⟨_, _, hrun', κ, upd σ T .tip, _, Ghost.le.refl κ, h.addTip hT, ?_, hK T hT.1⟩
          rw [List.append_nil]
          exact .slice h1 h2 h3 h4 h5 (.inl h6)
        | tip k =>
          rename_i t0
          rcases h6 with h6 | ⟨h6, n, h7, h8⟩
          · refine ⟨_, _, hrun', κ, upd (del σ t0) T .tip, _, Ghost.le.refl κ, (h.addTip hT).sub ((Sub.del t0).upd _ _), ?_, hK T hT.1⟩
            rw [List.append_nil]
            exact .slice h1 h2 h3 h4 h5 (.inl h6)
          · obtain ⟨g1, ⟨c, e', g2, g3⟩, g4⟩ := h.tip t0 _ _ k h6
            obtain ⟨κ', q1, q2, q3, q4⟩ := h.growTip (m := 0) k h6 g2 rfl (fun _ _ => rfl) g3 hT
            rw [setBlock_get g2] at q2
            refine ⟨_, _, hrun', κ', upd (del σ t0) T .tip, _, q1, q2, ?_, hK T hT.1⟩
            rw [List.append_nil]
            exact .slice h1 h2 h3 (h4.mono q1) (fun i v e => q1.cell _ _ _ (h5 i v e)) (.inr ⟨q4, n, q1.size _ _ h7, h8⟩)
      · cases hway with
        | full => simp only [TokOk] at h6; omega
        | tip k =>
          rename_i t0
          rcases h6 with h6 | ⟨h6, n, h7, h8⟩
          · omega
          · obtain ⟨g1, ⟨c, e', g2, g3⟩, g4⟩ := h.tip t0 _ _ k h6
            obtain ⟨c2, e2, f2, z1, z2⟩ := h.size _ _ h7
            rw [g2] at z1; cases z1
            have hfit : off + sLen * s + news.length ≤ c.size := by
              have : (sLen + ys.length) * s ≤ sCap * s := Nat.mul_le_mul_right s hn
              rw [Nat.add_mul] at this; omega
            obtain ⟨c', r1, r2⟩ := storeCells_run (P := P) news (off + sLen * s) 0 w c g2 (by omega) hno
            rw [Nat.add_zero] at r2
            have hsz : c'.size = c.size := by
              have := congrArg List.length r2
              rw [splice_length _ _ _ (by simpa using hfit)] at this
              simpa using this
            have hget : ∀ j, c'[j]? = (splice c.toList (off + sLen * s) news)[j]? := fun j => by rw [← r2, Array.getElem?_toList]
            obtain ⟨κ', q1, q2, q3, q4⟩ := h.growTip (m := ys.length * s) (c' := c') k h6 g2 hsz (fun j hj => by
              rw [hget, splice, List.append_assoc, List.getElem?_append_left (by simp; omega), List.getElem?_take_of_lt hj, Array.getElem?_toList]) (by rw [r2]; exact g3.splice hno _) hT
            refine ⟨_, _, by rw [hrun, r1]; rfl, κ', upd (del σ t0) T .tip, _, q1, q2, ?_, hK T hT.1⟩
            refine .slice (by simp [h1]) hn (fun x hx => (List.mem_append.1 hx).elim (h3 x) (hys x)) (by rw [List.flatMap_append]; exact (h4.append hnr).mono q1) (fun j v e => ?_) (.inr ⟨?_, n, q1.size _ _ h7, h8⟩)
            · by_cases hj : j < vs.length
              · rw [List.getElem?_append_left hj] at e
                exact q1.cell _ _ _ (h5 j v e)
              · rw [List.getElem?_append_right (by omega)] at e
                have hjn : j - vs.length < news.length := (List.getElem?_eq_some_iff.1 e).1
                have := q3 (j - vs.length) v (by omega) (by
                  rw [hget, splice, List.append_assoc, List.getElem?_append_right (by simp; omega)]
                  have hlt : (List.take (off + sLen * s) c.toList).length = off + sLen * s := by simp; omega
                  rw [hlt, Nat.add_sub_cancel_left, List.getElem?_append_left hjn]; exact e)
                rw [hvl] at this
                have e2 : off + sLen * s + (j - sLen * s) = off + j := by omega
                rw [e2] at this; exact this
            · rw [q4]; congr 2; simp [Nat.add_mul, h1, Nat.add_assoc]
    · exact grow vs h4 (stable_ones h h5) h3 h1 hvl (firstCells_stable h.drew hvl h5) hn
theorem Inv.appNone {P : Program} {κ : Ghost} {σ : AHeap} {w : World} (h : Inv κ σ w) {s : Nat} {xs : List AVal} {tok : Tok} {base : Option Addr} {sLen sCap : Nat} {S : Sem Value}
    (hx : RepV κ (.slice s xs tok) (.slice base sLen sCap)) (hfits : sLen + 0 ≤ sCap → S.run P w = fitRun P w base (sLen + 0) sCap (sLen * s) []) {K : AVal → AHeap → Prop} (hK : K (.slice s xs tok) σ) :
    ∃ v w', S.run P w = .ok v w' ∧ Post κ w' v K := by
  cases hx with
  | nil => exact ⟨_, _, (hfits (by simp)).trans (fitRun_none ..), κ, σ, _, Ghost.le.refl κ, h, .nil, hK⟩
  | slice h1 h2 h3 h4 h5 h6 =>
    have hrun := hfits h2
    simp only [fitRun] at hrun
    rw [addr_add] at hrun
    exact ⟨_, _, hrun, κ, σ, _, Ghost.le.refl κ, h, .slice h1 h2 h3 h4 h5 h6, hK⟩
end Go.Am
/-
  Appends that make, or lengthen, a row that is an object (it may be stored into).
-/
namespace Go.Am
set_option linter.unusedSectionVars false
open Go.RowKit (Below)

theorem firstCells_obj {P : Program} {w : World} {b len cap s : Nat} {vs : List Value} (hl : vs.length = len * s) (hc : ∀ j v, vs[j]? = some v → w.cell? ⟨b, 0 + j, none⟩ = some v) :
    (Builtin.firstCells s len (.slice (some ⟨b, 0, none⟩) len cap)).run P w = .ok vs.toArray w :=
  run_firstCells_some w s len ⟨b, 0, none⟩ len cap vs hl fun j v e => by rw [addr_add]; exact hc j v e

theorem Inv.appNew {P : Program} {κ : Ghost} {σ : AHeap} {w : World} (h : Inv κ σ w) {s : Nat} {ys : List AVal} {base : Option Addr} {sLen sCap : Nat} {S : Sem Value} {e : TypeId} {news : List Value}
    (hx : RepV κ (.slice s [] .full) (.slice base sLen sCap)) (hys : ∀ y ∈ ys, y.cells.length = s) (hnr : RepL κ (ys.flatMap AVal.cells) news) (hno : Ones news)
    (hgrow : ¬ sLen + ys.length ≤ sCap → ∀ olds : List Value, (Builtin.firstCells s sLen (.slice base sLen sCap)).run P w.drew = .ok olds.toArray w.drew →
      ∃ cap c rest, sLen + ys.length ≤ cap ∧ S.run P w = .ok (.slice (some ⟨w.heap.size, 0, none⟩) (sLen + ys.length) cap) (w.drew.alloc (.cells c e)) ∧ c.toList = olds ++ (news ++ rest) ∧ Ones rest ∧
        (olds.length = sLen * s → cap * s ≤ c.size))
    {K : AVal → AHeap → Prop} (hy : ys ≠ []) (hK : ∀ r, σ r = none → K (.ms r s 0 ys.length) (upd σ r (.cells (ys.flatMap AVal.cells)))) :
    ∃ v w', S.run P w = .ok v w' ∧ Post κ w' v K := by
  obtain ⟨T, hT⟩ := h.fresh
  have hyl : ys.length ≠ 0 := fun e => hy (List.eq_nil_of_length_eq_zero e)
  have key : sLen = 0 → sCap = 0 → (Builtin.firstCells s sLen (.slice base sLen sCap)).run P w.drew = .ok ([] : List Value).toArray w.drew → ∃ v w', S.run P w = .ok v w' ∧ Post κ w' v K := by
    intro h0 h1 hf
    obtain ⟨cap, c, rest, g1, g2, g3, g4, g5⟩ := hgrow (by omega) [] hf
    obtain ⟨κ', q1, q2, q3, q4⟩ := h.drew.allocObj (c := c) (e := e) (by simpa using g3) hnr hno g4 hT
    refine ⟨_, _, g2, κ', _, _, q1, q2, ?_, hK T hT.1⟩
    have hg5 := g5 (by simp [h0])
    rw [show sLen + ys.length = ys.length by omega]
    exact .ms q3 q4 (by omega) (by omega)
  cases hx with
  | nil => exact key rfl rfl (firstCells_zero ..)
  | slice h1 h2 h3 h4 h5 h6 =>
    have h0 : sLen = 0 := by simpa using h1.symm
    subst h0
    have : sCap = 0 := by simpa [TokOk] using h6
    exact key rfl this (by simp [Builtin.firstCells, loadCells, loadCellsFrom])

theorem Inv.appM {P : Program} {κ : Ghost} {σ : AHeap} {w : World} (h : Inv κ σ w) {r s len : Nat} {cs ys : List AVal} {base : Option Addr} {sLen sCap : Nat} {S : Sem Value} {e : TypeId} {news : List Value}
    (hx : RepV κ (.ms r s 0 len) (.slice base sLen sCap)) (hs : σ r = some (.cells cs)) (hcs : len * s ≤ cs.length) (hys : ∀ y ∈ ys, y.cells.length = s) (hnr : RepL κ (ys.flatMap AVal.cells) news) (hno : Ones news)
    (hfits : sLen + ys.length ≤ sCap → S.run P w = fitRun P w base (sLen + ys.length) sCap (sLen * s) news)
    (hgrow : ¬ sLen + ys.length ≤ sCap → ∀ olds : List Value, (Builtin.firstCells s sLen (.slice base sLen sCap)).run P w.drew = .ok olds.toArray w.drew →
      ∃ cap c rest, sLen + ys.length ≤ cap ∧ S.run P w = .ok (.slice (some ⟨w.heap.size, 0, none⟩) (sLen + ys.length) cap) (w.drew.alloc (.cells c e)) ∧ c.toList = olds ++ (news ++ rest) ∧ Ones rest ∧
        (olds.length = sLen * s → cap * s ≤ c.size))
    {K : AVal → AHeap → Prop} (hK : ∀ r', σ r' = none → K (.ms r' s 0 (len + ys.length)) (upd (del σ r) r' (.cells (cs.take (len * s) ++ ys.flatMap AVal.cells)))) :
    ∃ v w', S.run P w = .ok v w' ∧ Post κ w' v K := by
  obtain ⟨T, hT⟩ := h.fresh
  have hnl : news.length = ys.length * s := by rw [← hnr.length, flat_len hys]
  cases hx with
  | ms h1 h2 h3 h4 =>
  rename_i b n
  obtain ⟨c, e1, vs0, us0, k1, k2, k30, k40, k50, k60, k70⟩ := h.objCells hs h1
  rw [h2] at k2; cases k2
  have k4 := k40.take (len * s)
  have k5 := k50.take (len * s)
  have k6 : Ones (vs0.drop (len * s) ++ us0) := (k50.drop _).append k60
  have k3 : c.toList = vs0.take (len * s) ++ (vs0.drop (len * s) ++ us0) := by rw [← List.append_assoc, List.take_append_drop]; exact k30
  have hvl : (vs0.take (len * s)).length = len * s := by rw [List.length_take, ← k40.length]; omega
  have k7 : ∀ j v, (vs0.take (len * s))[j]? = some v → w.cell? ⟨b, 0 + j, none⟩ = some v := fun j v e => by
    rw [List.getElem?_take] at e
    split at e
    · exact k70 j v e
    · cases e
  generalize vs0.take (len * s) = vs at *
  generalize vs0.drop (len * s) ++ us0 = us at *
  have hcl : c.size = vs.length + us.length := by have := congrArg List.length k3; simpa using this
  by_cases hn : len + ys.length ≤ sCap
  · have hrun := hfits hn
    simp only [fitRun] at hrun
    rw [addr_add] at hrun
    have hfit : 0 + len * s + news.length ≤ c.size := by
      have : (len + ys.length) * s ≤ sCap * s := Nat.mul_le_mul_right s hn
      rw [Nat.add_mul] at this; omega
    obtain ⟨c', r1, r2⟩ := storeCells_run (P := P) news (0 + len * s) 0 w c k1 (by omega) hno
    rw [Nat.add_zero] at r2
    have hsz : c'.size = c.size := by
      have := congrArg List.length r2
      rw [splice_length _ _ _ (by simpa using hfit)] at this
      simpa using this
    have hT2 : c'.toList = (vs ++ news) ++ us.drop news.length := by
      rw [r2, k3, splice, Nat.zero_add, ← hvl, List.take_left, List.drop_append, List.drop_of_length_le (by omega)]
      simp
    have hI := h.setObj (vs := vs ++ news) (us := us.drop news.length) (cs' := cs.take (len * s) ++ ys.flatMap AVal.cells) hs h1 k1 hsz hT2 (k4.append hnr) (k5.append hno) (k6.drop _)
    have hTr : T ≠ r := fun e => by subst e; rw [hs] at hT; cases hT.1
    obtain ⟨κ', q1, q2, q3⟩ := hI.rename (r := r) (r' := T) (upd_same _ _ _) h1 ⟨by rw [upd_ne _ _ hTr]; exact hT.1, hT.2⟩
    have hdel : del (upd σ r (.cells (cs.take (len * s) ++ ys.flatMap AVal.cells))) r = del σ r := by funext i; simp only [del, upd]; split <;> rfl
    rw [hdel] at q2
    exact ⟨_, _, by rw [hrun, r1]; rfl, κ', _, _, q1, q2, .ms q3 (q1.size _ _ h2) hn h4, hK T hT.1⟩
  · obtain ⟨cap, c', rest, g1, g2, g3, g4, g5⟩ := hgrow hn vs (firstCells_obj (w := w.drew) hvl k7)
    obtain ⟨κ', q1, q2, q3, q4⟩ := h.drew.allocObj (c := c') (e := e) (cs := cs.take (len * s) ++ ys.flatMap AVal.cells) (vs := vs ++ news) (us := rest) (by rw [g3, List.append_assoc]) (k4.append hnr) (k5.append hno) g4 hT
    refine ⟨_, _, g2, κ', _, _, q1, q2.sub ((Sub.del r).upd _ _), .ms q3 q4 g1 (by have := g5 hvl; omega), hK T hT.1⟩
end Go.Am
