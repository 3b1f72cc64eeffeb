/-
  What the framework's words say: abstract values, the heap of named objects, and how they stand for the model's values and world.
-/
import Derived.Calls
import Derived.ScopeJumps
import Derived.Orders
import Derived.Below
import Derived.Wp
import Derived.Laws.World
namespace Go.Am
set_option linter.unusedVariables false
set_option linter.unusedSimpArgs false
set_option linter.unusedSectionVars false
open Go.RowKit (Below)

inductive Tok where
  | none | full | own (t : Nat)
  | tip (t : Nat)

inductive AVal where
  | top
  | v (x : Value)
  | slice (s : Nat) (xs : List AVal) (t : Tok)
  | ms (r s off len : Nat)
  | ptr (id off : Nat)
  | eptr (cs : List AVal) (off : Nat)
  | agg (cs : List AVal)
  | tup (cs : List AVal)
  | func (g : FuncId) (first caps : List AVal)
  | map (id : Nat)

def AVal.cells : AVal → List AVal
  | .agg cs => cs
  | x => [x]

def AVal.isCell : AVal → Bool
  | .top | .agg _ | .tup _ => false
  | _ => true

inductive AObj where
  | cells (cs : List AVal)
  | tip
  | map (es : List (Int × AVal))

abbrev AHeap := Nat → Option AObj

def upd (σ : AHeap) (id : Nat) (o : AObj) : AHeap := fun i => if i = id then some o else σ i
def del (σ : AHeap) (id : Nat) : AHeap := fun i => if i = id then none else σ i

structure Ghost where
  base : Nat
  w0 : World
  cell : Nat → Nat → Option Value
  size : Nat → Option Nat
  obj : Nat → Option Nat
  tok : Nat → Option (Nat × Nat)

structure Ghost.le (κ κ' : Ghost) : Prop where
  base : κ'.base = κ.base
  w0 : κ'.w0 = κ.w0
  cell : ∀ b o v, κ.cell b o = some v → κ'.cell b o = some v
  size : ∀ b n, κ.size b = some n → κ'.size b = some n
  obj : ∀ i b, κ.obj i = some b → κ'.obj i = some b
  tok : ∀ t x, κ.tok t = some x → κ'.tok t = some x

theorem Ghost.le.refl (κ : Ghost) : κ.le κ := ⟨rfl, rfl, fun _ _ _ h => h, fun _ _ h => h, fun _ _ h => h, fun _ _ h => h⟩
theorem Ghost.le.trans {a b c : Ghost} (h : a.le b) (k : b.le c) : a.le c :=
  ⟨k.base.trans h.base, k.w0.trans h.w0, fun x o v e => k.cell _ _ _ (h.cell _ _ _ e), fun x n e => k.size _ _ (h.size _ _ e), fun i x e => k.obj _ _ (h.obj _ _ e), fun t x e => k.tok _ _ (h.tok _ _ e)⟩

def TokOk (κ : Ghost) (t : Tok) (b off len cap s : Nat) : Prop :=
  match t with
  | .none => True
  | .full => cap = len
  | .own t => κ.tok t = some (b, off + len * s)
  | .tip t => cap = len ∨ (κ.tok t = some (b, off + len * s) ∧ ∃ n, κ.size b = some n ∧ off + cap * s ≤ n)

theorem TokOk.mono {κ κ' : Ghost} (hk : κ.le κ') {t : Tok} {b off len cap s : Nat} (h : TokOk κ t b off len cap s) : TokOk κ' t b off len cap s := by
  cases t with
  | none => exact h
  | full => exact h
  | own t => exact hk.tok _ _ h
  | tip t => exact h.imp id fun ⟨h1, n, h2, h3⟩ => ⟨hk.tok _ _ h1, n, hk.size _ _ h2, h3⟩

mutual
inductive RepV (κ : Ghost) : AVal → Value → Prop
  | top {v} : RepV κ .top v
  | v {x} : x.oneCell = true → RepV κ (.v x) x
  | nil {s t a} : RepV κ (.slice s [] t) (.slice a 0 0)
  | slice {s xs t b off len cap vs} : xs.length = len → len ≤ cap → (∀ x ∈ xs, x.cells.length = s) → RepL κ (xs.flatMap AVal.cells) vs →
      (∀ i v, vs[i]? = some v → κ.cell b (off + i) = some v) → TokOk κ t b off len cap s → RepV κ (.slice s xs t) (.slice (some ⟨b, off, none⟩) len cap)
  | ms {r s off len cap b n} : κ.obj r = some b → κ.size b = some n → len ≤ cap → off + cap * s ≤ n → RepV κ (.ms r s off len) (.slice (some ⟨b, off, none⟩) len cap)
  | ptr {id off b} : κ.obj id = some b → RepV κ (.ptr id off) (.pointer (some ⟨b, off, none⟩))
  | eptr {cs off b o vs} : RepL κ cs vs → (∀ i v, vs[i]? = some v → κ.cell b (o + i) = some v) → RepV κ (.eptr cs off) (.pointer (some ⟨b, o + off, none⟩))
  | agg {cs vs} : RepL κ cs vs → RepV κ (.agg cs) (.agg vs.toArray)
  | tup {cs vs} : RepL κ cs vs → RepV κ (.tup cs) (.tuple vs.toArray)
  | func {g f1 c1 fv cv} : RepL κ f1 fv → RepL κ c1 cv → RepV κ (.func g f1 c1) (.func (.func g) fv.toArray cv.toArray)
  | map {id b} : κ.obj id = some b → RepV κ (.map id) (.map (some b))
inductive RepL (κ : Ghost) : List AVal → List Value → Prop
  | nil : RepL κ [] []
  | cons {x v xs vs} : RepV κ x v → RepL κ xs vs → RepL κ (x :: xs) (v :: vs)
end

mutual
theorem RepV.mono {κ κ' : Ghost} (hk : κ.le κ') : ∀ {x : AVal} {v : Value}, RepV κ x v → RepV κ' x v
  | _, _, .top => .top
  | _, _, .v h => .v h
  | _, _, .nil => .nil
  | _, _, .slice h1 h2 h3 h4 h5 h6 => .slice h1 h2 h3 (RepL.mono hk h4) (fun i v h => hk.cell _ _ _ (h5 i v h)) (h6.mono hk)
  | _, _, .ms h1 h2 h3 h4 => .ms (hk.obj _ _ h1) (hk.size _ _ h2) h3 h4
  | _, _, .ptr h => .ptr (hk.obj _ _ h)
  | _, _, .eptr h1 h2 => .eptr (RepL.mono hk h1) (fun i v h => hk.cell _ _ _ (h2 i v h))
  | _, _, .agg h => .agg (RepL.mono hk h)
  | _, _, .tup h => .tup (RepL.mono hk h)
  | _, _, .func h1 h2 => .func (RepL.mono hk h1) (RepL.mono hk h2)
  | _, _, .map h => .map (hk.obj _ _ h)
theorem RepL.mono {κ κ' : Ghost} (hk : κ.le κ') : ∀ {xs : List AVal} {vs : List Value}, RepL κ xs vs → RepL κ' xs vs
  | _, _, .nil => .nil
  | _, _, .cons h t => .cons (RepV.mono hk h) (RepL.mono hk t)
end

section RepL
variable {κ : Ghost}
theorem RepL.length {xs : List AVal} {vs : List Value} (h : RepL κ xs vs) : xs.length = vs.length := by
  induction xs generalizing vs with
  | nil => cases h; rfl
  | cons x xs ih => cases h with | cons _ t => simp [ih t]
theorem RepL.get {xs : List AVal} {vs : List Value} (h : RepL κ xs vs) {i : Nat} {x : AVal} (hx : xs[i]? = some x) : ∃ v, vs[i]? = some v ∧ RepV κ x v := by
  induction xs generalizing vs i with
  | nil => simp at hx
  | cons y ys ih =>
    cases h with
    | cons hv t =>
      cases i with
      | zero => simp at hx; subst hx; exact ⟨_, by simp, hv⟩
      | succ i => simp at hx; obtain ⟨v, h1, h2⟩ := ih t hx; exact ⟨v, by simpa using h1, h2⟩
theorem RepL.append {xs ys : List AVal} {vs us : List Value} (h : RepL κ xs vs) (k : RepL κ ys us) : RepL κ (xs ++ ys) (vs ++ us) := by
  induction xs generalizing vs with
  | nil => cases h; exact k
  | cons x xs ih => cases h with | cons hv t => exact .cons hv (ih t)
theorem RepL.split {xs ys : List AVal} {vs : List Value} (h : RepL κ (xs ++ ys) vs) : RepL κ xs (vs.take xs.length) ∧ RepL κ ys (vs.drop xs.length) := by
  induction xs generalizing vs with
  | nil => exact ⟨by simpa using RepL.nil, by simpa using h⟩
  | cons x xs ih => cases h with | cons hv t => exact ⟨by simpa using RepL.cons hv (ih t).1, by simpa using (ih t).2⟩
theorem RepL.take {xs : List AVal} {vs : List Value} (h : RepL κ xs vs) (n : Nat) : RepL κ (xs.take n) (vs.take n) := by
  induction xs generalizing vs n with
  | nil => cases h; simpa using RepL.nil
  | cons x xs ih =>
    cases h with
    | cons hv t => cases n with
      | zero => simpa using RepL.nil
      | succ n => simpa using RepL.cons hv (ih t n)
theorem RepL.drop {xs : List AVal} {vs : List Value} (h : RepL κ xs vs) (n : Nat) : RepL κ (xs.drop n) (vs.drop n) := by
  induction xs generalizing vs n with
  | nil => cases h; simpa using RepL.nil
  | cons x xs ih =>
    cases h with
    | cons hv t => cases n with
      | zero => simpa using RepL.cons hv t
      | succ n => simpa using ih t n
theorem RepL.set {xs : List AVal} {vs : List Value} (h : RepL κ xs vs) (i : Nat) {x : AVal} {v : Value} (hv : RepV κ x v) : RepL κ (xs.set i x) (vs.set i v) := by
  induction xs generalizing vs i with
  | nil => cases h; simpa using RepL.nil
  | cons y ys ih =>
    cases h with
    | cons hy t => cases i with
      | zero => simpa using RepL.cons hv t
      | succ i => simpa using RepL.cons hy (ih t i)
theorem RepL.one {x : AVal} {v : Value} (h : RepV κ x v) : RepL κ [x] [v] := .cons h .nil
theorem RepL.tops (vs : List Value) : RepL κ (List.replicate vs.length .top) vs := by
  induction vs with
  | nil => exact .nil
  | cons v vs ih => exact .cons .top ih
theorem RepL.replicate {x : AVal} {v : Value} (h : RepV κ x v) (n : Nat) : RepL κ (List.replicate n x) (List.replicate n v) := by
  induction n with
  | zero => exact .nil
  | succ n ih => exact .cons h ih
end RepL

/-- What an abstract value's cells are, at a value that it stands for. -/
theorem RepV.cells {κ : Ghost} {x : AVal} {v : Value} (h : RepV κ x v) (hc : x.isCell = true ∨ ∃ cs, x = .agg cs) : RepL κ x.cells v.cells.toList := by
  cases h <;> first
    | (simp [AVal.isCell] at hc; done)
    | (rename_i h1; exact by simpa [AVal.cells, Value.cells] using h1)
    | skip
  all_goals try simp only [AVal.cells, Value.cells]
  case v hx =>
    cases v <;> first
      | exact .one (.v hx)
      | (simp [Value.oneCell] at hx)
  case nil => exact .one .nil
  case slice h1 h2 h3 h4 h5 h6 => exact .one (.slice h1 h2 h3 h4 h5 h6)
  case ms h1 h2 h3 h4 => exact .one (.ms h1 h2 h3 h4)
  case ptr h1 => exact .one (.ptr h1)
  case eptr h1 h2 => exact .one (.eptr h1 h2)
  case func h1 h2 => exact .one (.func h1 h2)
  case map h1 => exact .one (.map h1)

theorem RepV.oneCell {κ : Ghost} {x : AVal} {v : Value} (h : RepV κ x v) (hc : x.isCell = true) : v.oneCell = true := by
  cases h <;> first | rfl | assumption | (simp [AVal.isCell] at hc)

/-- All values of a list are of one cell. -/
def Ones (vs : List Value) : Prop := ∀ v ∈ vs, v.oneCell = true

structure Inv (κ : Ghost) (σ : AHeap) (w : World) : Prop where
  below : Below κ.base κ.w0 w
  base : κ.base ≤ w.heap.size
  cell : ∀ b o v, κ.cell b o = some v → w.cell? ⟨b, o, none⟩ = some v ∧ v.oneCell = true
  size : ∀ b n, κ.size b = some n → ∃ c e f, w.heap[b]? = some (.cells c e f) ∧ c.size = n
  obj : ∀ id b, κ.obj id = some b → κ.base ≤ b ∧ b < w.heap.size ∧ (σ id ≠ none → ∀ o, κ.cell b o = none)
  inj : ∀ i j b, σ i ≠ none → σ j ≠ none → κ.obj i = some b → κ.obj j = some b → i = j
  cells : ∀ id cs, σ id = some (.cells cs) → ∃ b c e vs us, κ.obj id = some b ∧ w.heap[b]? = some (.cells c e (0, 0)) ∧ κ.size b = some c.size ∧ c.toList = vs ++ us ∧ RepL κ cs vs ∧ Ones vs ∧ Ones us
  map : ∀ id es, σ id = some (.map es) → ∃ b c clk, κ.obj id = some b ∧ w.heap[b]? = some (.map c clk) ∧
    c.toList.map (·.key) = es.map (fun e => Value.int .i64 e.1) ∧ RepL κ (es.map (·.2)) (c.toList.map (·.val))
  tip : ∀ t b p, σ t = some .tip → κ.tok t = some (b, p) → κ.base ≤ b ∧ (∃ c e, w.heap[b]? = some (.cells c e (0, 0)) ∧ Ones c.toList) ∧ (∀ o, p ≤ o → κ.cell b o = none) ∧
    (∀ id, κ.obj id ≠ some b) ∧ ∀ t' p', σ t' = some .tip → κ.tok t' = some (b, p') → t' = t
  fin : ∃ N, ∀ n, N ≤ n → σ n = none ∧ κ.obj n = none ∧ κ.tok n = none

/-- Fewer objects are known of. -/
def Sub (σ σ' : AHeap) : Prop := ∀ id o, σ' id = some o → σ id = some o

theorem Sub.live {σ σ' : AHeap} (hs : Sub σ σ') {i : Nat} (h : σ' i ≠ none) : σ i ≠ none := fun e => by
  cases k : σ' i with
  | none => exact h k
  | some o => rw [hs _ _ k] at e; cases e

theorem Inv.sub {κ : Ghost} {σ σ' : AHeap} {w : World} (h : Inv κ σ w) (hs : Sub σ σ') : Inv κ σ' w :=
  { h with
    obj := fun i b e => let ⟨h1, h2, h3⟩ := h.obj i b e; ⟨h1, h2, fun hl => h3 (hs.live hl)⟩
    inj := fun i j b hi hj => h.inj i j b (hs.live hi) (hs.live hj)
    cells := fun id cs e => h.cells id cs (hs _ _ e)
    map := fun id es e => h.map id es (hs _ _ e)
    tip := fun t b p e k => let ⟨h1, h2, h3, h4, h5⟩ := h.tip t b p (hs _ _ e) k; ⟨h1, h2, h3, h4, fun t' p' e' k' => h5 t' p' (hs _ _ e') k'⟩
    fin := let ⟨N, hN⟩ := h.fin; ⟨N, fun n hn => by
      refine ⟨?_, (hN n hn).2⟩
      cases e : σ' n with
      | none => rfl
      | some o => have := hs _ _ e; rw [(hN n hn).1] at this; cases this⟩ }

/-- A name that nothing bears yet. -/
theorem Inv.fresh {κ : Ghost} {σ : AHeap} {w : World} (h : Inv κ σ w) : ∃ n, σ n = none ∧ κ.obj n = none ∧ κ.tok n = none := let ⟨N, hN⟩ := h.fin; ⟨N, hN N (Nat.le_refl _)⟩

theorem Inv.fresh2 {κ : Ghost} {σ : AHeap} {w : World} (h : Inv κ σ w) : ∃ N, ∀ n, N ≤ n → σ n = none ∧ κ.obj n = none ∧ κ.tok n = none := h.fin

theorem Inv.drew {κ : Ghost} {σ : AHeap} {w : World} (h : Inv κ σ w) : Inv κ σ w.drew :=
  ⟨h.below.drew, h.base, h.cell, h.size, h.obj, h.inj, h.cells, h.map, h.tip, h.fin⟩

theorem upd_same (σ : AHeap) (id : Nat) (o : AObj) : upd σ id o id = some o := by simp [upd]
theorem upd_ne (σ : AHeap) {id i : Nat} (o : AObj) (h : i ≠ id) : upd σ id o i = σ i := by simp [upd, h]
theorem del_same (σ : AHeap) (id : Nat) : del σ id id = none := by simp [del]
theorem del_ne (σ : AHeap) {id i : Nat} (h : i ≠ id) : del σ id i = σ i := by simp [del, h]
theorem upd_upd (σ : AHeap) (id : Nat) (o o' : AObj) : upd (upd σ id o) id o' = upd σ id o' := by funext i; simp only [upd]; split <;> rfl
theorem del_upd (σ : AHeap) (id : Nat) (o : AObj) (h : σ id = none) : del (upd σ id o) id = σ := by
  funext i; simp only [upd, del]; split
  · rename_i e; rw [e, h]
  · rfl
theorem upd_get (σ : AHeap) (id : Nat) (o : AObj) (h : σ id = some o) : upd σ id o = σ := by
  funext i; simp only [upd]; split
  · rename_i e; rw [e, h]
  · rfl
theorem upd_comm (σ : AHeap) {i j : Nat} (o o' : AObj) (h : i ≠ j) : upd (upd σ i o) j o' = upd (upd σ j o') i o := by
  funext k; simp only [upd]; split
  · rename_i e; subst e; rw [if_neg (fun e => h e.symm)]
  · rfl
theorem del_upd_comm (σ : AHeap) {i j : Nat} (o : AObj) (h : i ≠ j) : del (upd σ i o) j = upd (del σ j) i o := by
  funext k; simp only [upd, del]; split
  · rename_i e; subst e; rw [if_neg (fun e => h e.symm)]
  · rfl
theorem Sub.refl (σ : AHeap) : Sub σ σ := fun _ _ h => h
theorem Sub.trans {a b c : AHeap} (h : Sub a b) (k : Sub b c) : Sub a c := fun _ _ e => h _ _ (k _ _ e)
theorem Sub.upd_fresh {σ : AHeap} {id : Nat} (o : AObj) (h : σ id = none) : Sub (upd σ id o) σ := fun i o' e => by
  rw [upd_ne]; exact e
  intro e'; subst e'; rw [h] at e; cases e
theorem Sub.upd {σ σ' : AHeap} (h : Sub σ σ') (id : Nat) (o : AObj) : Sub (Am.upd σ id o) (Am.upd σ' id o) := fun i o' e => by
  simp only [Am.upd] at *; split at e
  · rename_i k; rw [if_pos k]; exact e
  · rename_i k; rw [if_neg k]; exact h _ _ e
theorem Sub.del {σ : AHeap} (id : Nat) : Sub σ (Am.del σ id) := fun i o e => by
  simp only [Am.del] at e; split at e
  · cases e
  · exact e
theorem Sub.get {σ σ' : AHeap} (h : Sub σ σ') {id : Nat} {o : AObj} (e : σ' id = some o) : σ id = some o := h _ _ e
end Go.Am

