/-
  The small language that a body is compiled to, what its operations come to at abstract values ('ev'), and the compiler.
-/
import Derived.Test.YtiohpnkfcaahbaaFb
namespace Go.Am
set_option linter.unusedVariables false
set_option linter.unusedSimpArgs false
set_option linter.unusedSectionVars false

/-- A slot's place in the tree of slots. -/
inductive Pth where
  | e | l (p : Pth) | r (p : Pth)

def Pth.num : Pth → Nat
  | .e => 0
  | .l p => 2 * p.num + 1
  | .r p => 2 * p.num + 2

def pthF : Nat → Nat → Pth
  | 0, _ => .e
  | _ + 1, 0 => .e
  | f + 1, n + 1 => bif Nat.beq (n % 2) 0 then .l (pthF f (n / 2)) else .r (pthF f (n / 2))
def pth (n : Nat) : Pth := pthF (n + 1) n

inductive Env where
  | nil | node (a : Env) (x : AVal) (b : Env)

def Env.full : Nat → Env
  | 0 => .nil
  | n + 1 => .node (Env.full n) .top (Env.full n)

def Env.get : Env → Pth → AVal
  | .nil, _ => .top
  | .node _ x _, .e => x
  | .node a _ _, .l p => a.get p
  | .node _ _ b, .r p => b.get p

def Env.set : Env → Pth → AVal → Env
  | .nil, _, _ => .nil
  | .node a _ b, .e, v => .node a v b
  | .node a x b, .l p, v => .node (a.set p v) x b
  | .node a x b, .r p, v => .node a x (b.set p v)

def Env.setK {β : Sort _} : Env → Pth → AVal → (Env → β) → β
  | .nil, _, _, k => k .nil
  | .node a _ b, .e, v, k => k (.node a v b)
  | .node a x b, .l p, v, k => a.setK p v fun a' => k (.node a' x b)
  | .node a x b, .r p, v, k => b.setK p v fun b' => k (.node a x b')

theorem Env.setK_eq {β : Sort _} (k : Env → β) (e : Env) (p : Pth) (v : AVal) : e.setK p v k = k (e.set p v) := by
  induction e generalizing p k with
  | nil => rfl
  | node a x b iha ihb => cases p with
    | e => rfl
    | l p => exact iha _ p
    | r p => exact ihb _ p

theorem Env.get_set_ne (e : Env) {p q : Pth} (v : AVal) (h : q ≠ p) : (e.set p v).get q = e.get q := by
  induction e generalizing p q with
  | nil => rfl
  | node a x b iha ihb =>
    cases p <;> cases q <;> first
      | rfl
      | exact absurd rfl h
      | exact iha (fun e => h (congrArg _ e))
      | exact ihb (fun e => h (congrArg _ e))
theorem Env.get_set (e : Env) (p : Pth) (v : AVal) : (e.set p v).get p = v ∨ (e.set p v).get p = .top := by
  induction e generalizing p with
  | nil => exact .inr rfl
  | node a x b iha ihb => cases p with
    | e => exact .inl rfl
    | l p => exact iha p
    | r p => exact ihb p
theorem Env.set_get (e : Env) (p : Pth) : e.set p (e.get p) = e := by
  induction e generalizing p with
  | nil => rfl
  | node a x b iha ihb => cases p with
    | e => rfl
    | l p => simp only [Env.set, Env.get]; rw [iha p]
    | r p => simp only [Env.set, Env.get]; rw [ihb p]
theorem Env.set_comm (e : Env) {p q : Pth} (u v : AVal) (h : p ≠ q) : (e.set p u).set q v = (e.set q v).set p u := by
  induction e generalizing p q with
  | nil => rfl
  | node a x b iha ihb =>
    cases p <;> cases q <;> first
      | rfl
      | exact absurd rfl h
      | (simp only [Env.set]; rw [iha (fun e => h (congrArg _ e))])
      | (simp only [Env.set]; rw [ihb (fun e => h (congrArg _ e))])

theorem Pth.num_inj : ∀ {p q : Pth}, p.num = q.num → p = q
  | .e, .e, _ => rfl
  | .e, .l _, h => by simp only [Pth.num] at h; omega
  | .e, .r _, h => by simp only [Pth.num] at h; omega
  | .l _, .e, h => by simp only [Pth.num] at h; omega
  | .r _, .e, h => by simp only [Pth.num] at h; omega
  | .l _, .r _, h => by simp only [Pth.num] at h; omega
  | .r _, .l _, h => by simp only [Pth.num] at h; omega
  | .l p, .l q, h => by simp only [Pth.num] at h; rw [Pth.num_inj (p := p) (q := q) (by omega)]
  | .r p, .r q, h => by simp only [Pth.num] at h; rw [Pth.num_inj (p := p) (q := q) (by omega)]

theorem num_pthF : ∀ (f n : Nat), n < f → (pthF f n).num = n
  | 0, n, h => by omega
  | f + 1, 0, _ => rfl
  | f + 1, n + 1, h => by
    have := num_pthF f (n / 2) (by omega)
    simp only [pthF]
    cases hb : Nat.beq (n % 2) 0 with
    | true => have := Nat.eq_of_beq_eq_true hb; simp only [cond_true, Pth.num]; omega
    | false => have := Nat.ne_of_beq_eq_false hb; simp only [cond_false, Pth.num]; omega
theorem num_pth (n : Nat) : (pth n).num = n := num_pthF _ _ (by omega)

/-- An operand. -/
inductive Opd where
  | t (p : Pth) | c (x : AVal)

def Opd.get (env : Env) : Opd → AVal
  | .t p => env.get p
  | .c x => x

def Env.getK : Env → Pth → (AVal → Prop) → Prop
  | .nil, _, k => k .top
  | .node _ x _, .e, k => k x
  | .node a _ _, .l p, k => a.getK p k
  | .node _ _ b, .r p, k => b.getK p k
theorem Env.getK_eq : ∀ (e : Env) (p : Pth) (k : AVal → Prop), e.getK p k = k (e.get p)
  | .nil, _, _ => rfl
  | .node _ _ _, .e, _ => rfl
  | .node a _ _, .l p, k => a.getK_eq p k
  | .node _ _ b, .r p, k => b.getK_eq p k
def Opd.getK (env : Env) (x : Opd) (k : AVal → Prop) : Prop :=
  match x with
  | .t p => env.getK p k
  | .c x => k x
theorem Opd.getK_eq (env : Env) (x : Opd) (k : AVal → Prop) : x.getK env k = k (x.get env) := by
  cases x with
  | t p => exact Env.getK_eq env p k
  | c x => rfl

/-- An operation. -/
inductive IOp where
  | mv (x : Opd)
  | pick (c a b : Opd)
  | bin (tb : Bool) (op : BinOp) (x y : Opd)
  | eqNil (kd : Nat) (neg : Bool) (x : Opd)
  | eqAgg (neg : Bool) (ks : List Bool) (x y : Opd)
  | not (x : Opd)
  | conv (k : IntKind) (x : Opd)
  | b2s (x : Opd)
  | s2b (x : Opd)
  | rowT (s : Nat) (xs : List Opd)
  | mark (x : Opd)
  | new (zero : List AVal)
  | box (n : Nat) (x : Opd)
  | build (zero : List AVal) (parts : List (Nat × Nat × Opd))
  | row (s : Nat) (xs : List Opd)
  | load (agg : Option Nat) (a : Opd)
  | store (n : Nat) (a x : Opd)
  | nilchk (x : Opd)
  | faddr (off : Nat) (x : Opd)
  | field (agg : Option Nat) (off : Nat) (x : Opd)
  | iaddr (s : Nat) (x i : Opd)
  | iaddrA (s n : Nat) (x i : Opd)
  | index (agg : Option Nat) (s n : Nat) (x i : Opd)
  | cut (s : Nat) (x : Opd) (lo hi mx : Option Opd)
  | mk (bytes : Nat) (zero : AVal) (len cap : Opd)
  | mkmap
  | look (zero : AVal) (m k : Opd)
  | mset (m k x : Opd)
  | mdel (m k : Opd)
  | fn (g : FuncId) (first caps : List Opd)
  | ext (x : Opd) (i : Nat)
  | call (g : FuncId) (args : List Opd)
  | callq (g : FuncId) (args : List Opd)
  | callv (f : Opd) (args : List Opd)
  | app (s bytes : Nat) (x y : Opd)
  | appm (s bytes : Nat) (x y : Opd)
  | app0 (s bytes : Nat) (zero : AVal) (x n : Opd)
  | len (str : Bool) (x : Opd)
  | mxmn (mx : Bool) (x y : Opd)

structure IRow where
  dst : Option Pth
  guard : Option (Pth × Bool)
  op : IOp

/-- The rows of a region, in an order; where more than one order counts, each. -/
inductive RT where
  | done
  | one (r : IRow) (t : RT)
  | both (a b : RT)

inductive ICode where
  | skip
  | reg (t : RT)
  | seq (a b : ICode)
  | cond (c : Opd) (a b : ICode)
  | block (id : Nat) (b : ICode)
  | loop (b : ICode)
  | exit (id : Nat)
  | scope (b : ICode)
  | label (l : Nat)
  | goto (l : Nat)
  | ret

/-! What stands still until a lemma says how it goes on. -/
structure ABr (b : Bool) (K : Bool → Prop) : Prop where of ::
  out : K b
theorem ABr_def (b : Bool) (K : Bool → Prop) : ABr b K = (K b) := propext ⟨fun h => h.out, fun h => ⟨h⟩⟩
structure AFit (k : IntKind) (n : Int) (K : Int → Prop) : Prop where of ::
  out : K (k.wrap n)
theorem AFit_def (k : IntKind) (n : Int) (K : Int → Prop) : AFit k n K = (K (k.wrap n)) := propext ⟨fun h => h.out, fun h => ⟨h⟩⟩
structure ADiv (k : IntKind) (a b : Int) (K : Int → Prop) : Prop where of ::
  out : b ≠ 0 ∧ K (k.wrap (a.tdiv b))
theorem ADiv_def (k : IntKind) (a b : Int) (K : Int → Prop) : ADiv k a b K = (b ≠ 0 ∧ K (k.wrap (a.tdiv b))) := propext ⟨fun h => h.out, fun h => ⟨h⟩⟩
structure ARem (a b : Int) (K : Int → Prop) : Prop where of ::
  out : b ≠ 0 ∧ K (a.tmod b)
theorem ARem_def (a b : Int) (K : Int → Prop) : ARem a b K = (b ≠ 0 ∧ K (a.tmod b)) := propext ⟨fun h => h.out, fun h => ⟨h⟩⟩
structure AShl (k : IntKind) (a b : Int) (K : Int → Prop) : Prop where of ::
  out : 0 ≤ b ∧ K (k.wrap (a * 2 ^ (min b.toNat k.bits)))
theorem AShl_def (k : IntKind) (a b : Int) (K : Int → Prop) : AShl k a b K = (0 ≤ b ∧ K (k.wrap (a * 2 ^ (min b.toNat k.bits)))) := propext ⟨fun h => h.out, fun h => ⟨h⟩⟩
structure AShr (k : IntKind) (a b : Int) (K : Int → Prop) : Prop where of ::
  out : 0 ≤ b ∧ K (a.fdiv (2 ^ (min b.toNat k.bits)))
theorem AShr_def (k : IntKind) (a b : Int) (K : Int → Prop) : AShr k a b K = (0 ≤ b ∧ K (a.fdiv (2 ^ (min b.toNat k.bits)))) := propext ⟨fun h => h.out, fun h => ⟨h⟩⟩
def bitsOp (op : BinOp) (k : IntKind) (x y : Int) : Int :=
  let a := BitVec.ofInt k.bits x
  let b := BitVec.ofInt k.bits y
  match op with
  | .and => k.wrap (a &&& b).toNat
  | .or => k.wrap (a ||| b).toNat
  | .xor => k.wrap (a ^^^ b).toNat
  | _ => k.wrap (a &&& ~~~b).toNat
structure ABits (op : BinOp) (k : IntKind) (a b : Int) (K : Int → Prop) : Prop where of ::
  out : K (bitsOp op k a b)
theorem ABits_def (op : BinOp) (k : IntKind) (a b : Int) (K : Int → Prop) : ABits op k a b K = (K (bitsOp op k a b)) := propext ⟨fun h => h.out, fun h => ⟨h⟩⟩
structure AMx (mx : Bool) (a b : Int) (K : Int → Prop) : Prop where of ::
  out : K (if mx then (if b > a then b else a) else (if b < a then b else a))
theorem AMx_def (mx : Bool) (a b : Int) (K : Int → Prop) : AMx mx a b K = (K (if mx then (if b > a then b else a) else (if b < a then b else a))) := propext ⟨fun h => h.out, fun h => ⟨h⟩⟩
/-- An element of a list that is not written out. -/
structure AGet (xs : List AVal) (i : Int) (K : AVal → Prop) : Prop where of ::
  out : ∃ x, 0 ≤ i ∧ xs[i.toNat]? = some x ∧ K x
theorem AGet_def (xs : List AVal) (i : Int) (K : AVal → Prop) : AGet xs i K = (∃ x, 0 ≤ i ∧ xs[i.toNat]? = some x ∧ K x) := propext ⟨fun h => h.out, fun h => ⟨h⟩⟩
/-- A cell, or n of them, out of a list of cells. -/
def cellsAt (cs : List AVal) (off : Nat) (agg : Option Nat) (K : AVal → Prop) : Prop :=
  match agg with
  | none => ∃ x, cs[off]? = some x ∧ K x
  | some n => off + n ≤ cs.length ∧ K (.agg ((cs.drop off).take n))
structure ACell (cs : List AVal) (off : Nat) (agg : Option Nat) (K : AVal → Prop) : Prop where of ::
  out : cellsAt cs off agg K
theorem ACell_def (cs : List AVal) (off : Nat) (agg : Option Nat) (K : AVal → Prop) : ACell cs off agg K = (cellsAt cs off agg K) := propext ⟨fun h => h.out, fun h => ⟨h⟩⟩
structure ALoad (σ : AHeap) (id off : Nat) (agg : Option Nat) (K : AVal → Prop) : Prop where of ::
  out : ∃ cs, σ id = some (.cells cs) ∧ cellsAt cs off agg K
theorem ALoad_def (σ : AHeap) (id off : Nat) (agg : Option Nat) (K : AVal → Prop) : ALoad σ id off agg K = (∃ cs, σ id = some (.cells cs) ∧ cellsAt cs off agg K) := propext ⟨fun h => h.out, fun h => ⟨h⟩⟩
def splice {α : Type} (cs : List α) (off : Nat) (xs : List α) : List α := cs.take off ++ xs ++ cs.drop (off + xs.length)
structure AStore (σ : AHeap) (id off : Nat) (xs : List AVal) (K : AHeap → Prop) : Prop where of ::
  out : ∃ cs, σ id = some (.cells cs) ∧ off + xs.length ≤ cs.length ∧ xs.all AVal.isCell = true ∧ K (upd σ id (.cells (splice cs off xs)))
theorem AStore_def (σ : AHeap) (id off : Nat) (xs : List AVal) (K : AHeap → Prop) : AStore σ id off xs K = (∃ cs, σ id = some (.cells cs) ∧ off + xs.length ≤ cs.length ∧ xs.all AVal.isCell = true ∧ K (upd σ id (.cells (splice cs off xs)))) := propext ⟨fun h => h.out, fun h => ⟨h⟩⟩
structure ANew (σ : AHeap) (xs : List AVal) (K : Nat → AHeap → Prop) : Prop where of ::
  out : xs.all AVal.isCell = true ∧ ∀ id, σ id = none → K id (upd σ id (.cells xs))
theorem ANew_def (σ : AHeap) (xs : List AVal) (K : Nat → AHeap → Prop) : ANew σ xs K = (xs.all AVal.isCell = true ∧ ∀ id, σ id = none → K id (upd σ id (.cells xs))) := propext ⟨fun h => h.out, fun h => ⟨h⟩⟩
/-- A row with the right to append. -/
structure ARowT (σ : AHeap) (s : Nat) (xs : List AVal) (K : AVal → AHeap → Prop) : Prop where of ::
  out : ∀ t, σ t = none → K (.slice s xs (.own t)) (upd σ t .tip)
theorem ARowT_def (σ : AHeap) (s : Nat) (xs : List AVal) (K : AVal → AHeap → Prop) : ARowT σ s xs K = (∀ t, σ t = none → K (.slice s xs (.own t)) (upd σ t .tip)) := propext ⟨fun h => h.out, fun h => ⟨h⟩⟩
/-- The right to append, given up. -/
structure AMark (σ : AHeap) (xs : List AVal) (t : Tok) (K : AHeap → Prop) : Prop where of ::
  out : xs ≠ [] ∧ ∃ t0, t = .own t0 ∧ σ t0 = some .tip ∧ K (del σ t0)
theorem AMark_def (σ : AHeap) (xs : List AVal) (t : Tok) (K : AHeap → Prop) : AMark σ xs t K = (xs ≠ [] ∧ ∃ t0, t = .own t0 ∧ σ t0 = some .tip ∧ K (del σ t0)) := propext ⟨fun h => h.out, fun h => ⟨h⟩⟩
/-- A piece of a slice's list. -/
structure ACut (n : Nat) (lo hi : Int) (K : Nat → Nat → Prop) : Prop where of ::
  out : 0 ≤ lo ∧ lo ≤ hi ∧ hi ≤ n ∧ K lo.toNat hi.toNat
theorem ACut_def (n : Nat) (lo hi : Int) (K : Nat → Nat → Prop) : ACut n lo hi K = (0 ≤ lo ∧ lo ≤ hi ∧ hi ≤ n ∧ K lo.toNat hi.toNat) := propext ⟨fun h => h.out, fun h => ⟨h⟩⟩
structure ANil (xs : List AVal) (K : Bool → Prop) : Prop where of ::
  out : K false ∧ (xs = [] → K true)
theorem ANil_def (xs : List AVal) (K : Bool → Prop) : ANil xs K = (K false ∧ (xs = [] → K true)) := propext ⟨fun h => h.out, fun h => ⟨h⟩⟩
def byteV (b : UInt8) : AVal := .v (.int .u8 b.toNat)
structure AStr (xs : List AVal) (K : ByteArray → Prop) : Prop where of ::
  out : ∃ bs : List UInt8, xs = bs.map byteV ∧ K ⟨bs.toArray⟩
theorem AStr_def (xs : List AVal) (K : ByteArray → Prop) : AStr xs K = (∃ bs : List UInt8, xs = bs.map byteV ∧ K ⟨bs.toArray⟩) := propext ⟨fun h => h.out, fun h => ⟨h⟩⟩
structure AMk (bytes : Nat) (n : Int) (K : Nat → Prop) : Prop where of ::
  out : 0 ≤ n ∧ n < 4611686018427387904 ∧ n * bytes ≤ 281474976710656 ∧ K n.toNat
theorem AMk_def (bytes : Nat) (n : Int) (K : Nat → Prop) : AMk bytes n K = (0 ≤ n ∧ n < 4611686018427387904 ∧ n * bytes ≤ 281474976710656 ∧ K n.toNat) := propext ⟨fun h => h.out, fun h => ⟨h⟩⟩

/-- The right to append: where it stands after the append. -/
inductive AppWay (σ : AHeap) : Tok → AHeap → Prop
  | full : AppWay σ .full σ
  | tip {t} : σ t = some .tip → AppWay σ (.tip t) (del σ t)

/-- An append of a list of elements to a slice's list: the list behind each other, and a right to append again. -/
structure AApp (σ : AHeap) (s bytes : Nat) (xs : List AVal) (t : Tok) (ys : List AVal) (K : AVal → AHeap → Prop) : Prop where of ::
  out : ∃ σ', AppWay σ t σ' ∧ (xs.length + ys.length) * bytes ≤ 140737488355328 ∧ ∀ t', σ t' = none → K (.slice s (xs ++ ys) (.tip t')) (upd σ' t' .tip)
theorem AApp_def (σ : AHeap) (s bytes : Nat) (xs : List AVal) (t : Tok) (ys : List AVal) (K : AVal → AHeap → Prop) : AApp σ s bytes xs t ys K = (∃ σ', AppWay σ t σ' ∧ (xs.length + ys.length) * bytes ≤ 140737488355328 ∧ ∀ t', σ t' = none → K (.slice s (xs ++ ys) (.tip t')) (upd σ' t' .tip)) := propext ⟨fun h => h.out, fun h => ⟨h⟩⟩

/-- Semantics of a call, over the kit's 'Calls'. -/
structure ACalls (P : Program) (f : FuncId) (args : List AVal) (σ : AHeap) (Q : AVal → AHeap → Prop) : Prop where of ::
  out : ∀ κ w cargs, Inv κ σ w → RepL κ args cargs → Calls P f cargs.toArray w fun e w' => ∃ v κ' σ' x, e = .returned v ∧ κ.le κ' ∧ Inv κ' σ' w' ∧ RepV κ' x v ∧ Q x σ'
theorem ACalls_def (P : Program) (f : FuncId) (args : List AVal) (σ : AHeap) (Q : AVal → AHeap → Prop) : ACalls P f args σ Q = (∀ κ w cargs, Inv κ σ w → RepL κ args cargs → Calls P f cargs.toArray w fun e w' => ∃ v κ' σ' x, e = .returned v ∧ κ.le κ' ∧ Inv κ' σ' w' ∧ RepV κ' x v ∧ Q x σ') := propext ⟨fun h => h.out, fun h => ⟨h⟩⟩

/-- The order of two numbers, decided (not to be unfolded). -/
@[irreducible] def ltDec (a b : Int) : Decidable (a < b) := inferInstance
@[irreducible] def leDec (a b : Int) : Decidable (a ≤ b) := inferInstance

def binE (tb : Bool) (op : BinOp) (x y : Value) (K : Value → Prop) : Prop :=
  match x, y with
  | .int k a, .int k' b =>
    match op with
    | .shl => AShl k a b fun n => K (.int k n)
    | .shr => AShr k a b fun n => K (.int k n)
    | op => bif decide (k = k') then (match op with
      | .add => AFit k (a + b) fun n => K (.int k n)
      | .sub => AFit k (a - b) fun n => K (.int k n)
      | .mul => AFit k (a * b) fun n => K (.int k n)
      | .quo => ADiv k a b fun n => K (.int k n)
      | .rem => ARem a b fun n => K (.int k n)
      | .and => ABits .and k a b fun n => K (.int k n)
      | .or => ABits .or k a b fun n => K (.int k n)
      | .xor => ABits .xor k a b fun n => K (.int k n)
      | .andNot => ABits .andNot k a b fun n => K (.int k n)
      | .eql => K (.bool (decide (a = b)))
      | .neq => K (.bool (decide (a ≠ b)))
      | .lss => K (.bool (@decide (a < b) (ltDec a b)))
      | .leq => K (.bool (@decide (a ≤ b) (leDec a b)))
      | .gtr => K (.bool (@decide (b < a) (ltDec b a)))
      | .geq => K (.bool (@decide (b ≤ a) (leDec b a)))
      | _ => False) else False
  | .bool a, .bool b =>
    match tb, op with
    | true, .eql => K (.bool (a == b))
    | true, .neq => K (.bool (!(a == b)))
    | _, _ => False
  | .string a, .string b =>
    match op with
    | .eql => K (.bool (decide (a.data.toList = b.data.toList)))
    | .neq => K (.bool (decide (a.data.toList ≠ b.data.toList)))
    | _ => False
  | _, _ => False

/-- Are two lists of plain cells equal? -/
def eqCells : List Bool → List AVal → List AVal → (Bool → Prop) → Prop
  | [], [], [], K => K true
  | false :: ks, .v (.int k a) :: xs, .v (.int k' b) :: ys, K => bif decide (k = k') then eqCells ks xs ys fun p => K (decide (a = b) && p) else False
  | true :: ks, .v (.bool a) :: xs, .v (.bool b) :: ys, K => eqCells ks xs ys fun p => K ((a == b) && p)
  | _, _, _, _ => False

/-- Lists of operands, looked up one by one. -/
def getLK (env : Env) : List Opd → (List AVal → Prop) → Prop
  | [], k => k []
  | x :: xs, k => x.getK env fun v => getLK env xs fun l => k (v :: l)

/-- Cells put into a list of cells from a place on. -/
def putK : List AVal → Nat → List AVal → (List AVal → Prop) → Prop
  | zs, 0, [], k => k zs
  | _ :: zs, 0, x :: xs, k => putK zs 0 xs fun l => k (x :: l)
  | z :: zs, n + 1, xs, k => putK zs n xs fun l => k (z :: l)
  | [], _, _, _ => False

def fillK (env : Env) : List (Nat × Nat × Opd) → List AVal → (List AVal → Prop) → Prop
  | [], zs, k => k zs
  | (off, n, x) :: rest, zs, k =>
    match x.get env with
    | .agg cs => bif Nat.beq cs.length n then putK zs off cs fun l => fillK env rest l k else False
    | y => bif Nat.beq n 1 && y.isCell then putK zs off [y] fun l => fillK env rest l k else False

def okElem (s : Nat) : AVal → Bool
  | .agg cs => Nat.beq cs.length s && cs.all AVal.isCell
  | x => Nat.beq s 1 && x.isCell

def lgetK : List AVal → Nat → (AVal → Prop) → Prop
  | [], _, _ => False
  | x :: _, 0, k => k x
  | _ :: l, n + 1, k => lgetK l n k

/-- No cells and no map are turned or lost. -/
def AObj.isTip : AObj → Bool
  | .tip => true
  | _ => false
def Ext (σ σ' : AHeap) : Prop := ∀ id o, o.isTip = false → σ id = some o → σ' id = some o

/-- An index that lies in a length. -/
structure AIdx (i : Int) (n : Nat) (K : Nat → Prop) : Prop where of ::
  out : 0 ≤ i ∧ i < n ∧ K i.toNat
theorem AIdx_def (i : Int) (n : Nat) (K : Nat → Prop) : AIdx i n K = (0 ≤ i ∧ i < n ∧ K i.toNat) := propext ⟨fun h => h.out, fun h => ⟨h⟩⟩

structure AAppNew (σ : AHeap) (s bytes : Nat) (xs : List AVal) (t : Tok) (ys : List AVal) (K : AVal → AHeap → Prop) : Prop where of ::
  out : (ys = [] ∧ xs.length * bytes ≤ 140737488355328 ∧ K (.slice s xs t) σ) ∨ (xs = [] ∧ ys ≠ [] ∧ t = .full ∧ ys.length * bytes ≤ 140737488355328 ∧ ys.all (okElem s) = true ∧
    ∀ r, σ r = none → K (.ms r s 0 ys.length) (upd σ r (.cells (ys.flatMap AVal.cells)))) ∨ AApp σ s bytes xs t ys K
theorem AAppNew_def (σ : AHeap) (s bytes : Nat) (xs : List AVal) (t : Tok) (ys : List AVal) (K : AVal → AHeap → Prop) : AAppNew σ s bytes xs t ys K = ((ys = [] ∧ xs.length * bytes ≤ 140737488355328 ∧ K (.slice s xs t) σ) ∨ (xs = [] ∧ ys ≠ [] ∧ t = .full ∧ ys.length * bytes ≤ 140737488355328 ∧ ys.all (okElem s) = true ∧
    ∀ r, σ r = none → K (.ms r s 0 ys.length) (upd σ r (.cells (ys.flatMap AVal.cells)))) ∨ AApp σ s bytes xs t ys K) := propext ⟨fun h => h.out, fun h => ⟨h⟩⟩
structure AAppM (σ : AHeap) (r s off len bytes : Nat) (ys : List AVal) (K : AVal → AHeap → Prop) : Prop where of ::
  out : off = 0 ∧ (len + ys.length) * bytes ≤ 140737488355328 ∧ ys.all (okElem s) = true ∧ ∃ cs, σ r = some (.cells cs) ∧ len * s = cs.length ∧
    ∀ r', σ r' = none → K (.ms r' s 0 (len + ys.length)) (upd (del σ r) r' (.cells (cs ++ ys.flatMap AVal.cells)))
theorem AAppM_def (σ : AHeap) (r s off len bytes : Nat) (ys : List AVal) (K : AVal → AHeap → Prop) : AAppM σ r s off len bytes ys K = (off = 0 ∧ (len + ys.length) * bytes ≤ 140737488355328 ∧ ys.all (okElem s) = true ∧ ∃ cs, σ r = some (.cells cs) ∧ len * s = cs.length ∧
    ∀ r', σ r' = none → K (.ms r' s 0 (len + ys.length)) (upd (del σ r) r' (.cells (cs ++ ys.flatMap AVal.cells)))) := propext ⟨fun h => h.out, fun h => ⟨h⟩⟩
/-- What a view of an object's cells reads as; elements of one cell. -/
structure AView (σ : AHeap) (r off ln : Nat) (K : List AVal → Prop) : Prop where of ::
  out : ∃ cs, σ r = some (.cells cs) ∧ off + ln ≤ cs.length ∧ K ((cs.drop off).take ln)
theorem AView_def (σ : AHeap) (r off ln : Nat) (K : List AVal → Prop) : AView σ r off ln K = (∃ cs, σ r = some (.cells cs) ∧ off + ln ≤ cs.length ∧ K ((cs.drop off).take ln)) := propext ⟨fun h => h.out, fun h => ⟨h⟩⟩
structure ALook (σ : AHeap) (id : Nat) (n : Int) (zero : AVal) (K : AVal → Prop) : Prop where of ::
  out : ∃ es, σ id = some (.map es) ∧ K (((es.find? fun e => e.1 == n).map (·.2)).getD zero)
theorem ALook_def (σ : AHeap) (id : Nat) (n : Int) (zero : AVal) (K : AVal → Prop) : ALook σ id n zero K = (∃ es, σ id = some (.map es) ∧ K (((es.find? fun e => e.1 == n).map (·.2)).getD zero)) := propext ⟨fun h => h.out, fun h => ⟨h⟩⟩
def mapSet (es : List (Int × AVal)) (n : Int) (x : AVal) : List (Int × AVal) :=
  match es with
  | [] => [(n, x)]
  | e :: es => if e.1 == n then (n, x) :: es else e :: mapSet es n x
def mapDel (es : List (Int × AVal)) (n : Int) : List (Int × AVal) := 
  match es with
  | [] => []
  | e :: es => if e.1 == n then es else e :: mapDel es n
structure AMset (σ : AHeap) (id : Nat) (n : Int) (x : AVal) (K : AHeap → Prop) : Prop where of ::
  out : ∃ es, σ id = some (.map es) ∧ x.isCell = true ∧ K (upd σ id (.map (mapSet es n x)))
theorem AMset_def (σ : AHeap) (id : Nat) (n : Int) (x : AVal) (K : AHeap → Prop) : AMset σ id n x K = (∃ es, σ id = some (.map es) ∧ x.isCell = true ∧ K (upd σ id (.map (mapSet es n x)))) := propext ⟨fun h => h.out, fun h => ⟨h⟩⟩
structure AMdel (σ : AHeap) (id : Nat) (n : Int) (K : AHeap → Prop) : Prop where of ::
  out : ∃ es, σ id = some (.map es) ∧ K (upd σ id (.map (mapDel es n)))
theorem AMdel_def (σ : AHeap) (id : Nat) (n : Int) (K : AHeap → Prop) : AMdel σ id n K = (∃ es, σ id = some (.map es) ∧ K (upd σ id (.map (mapDel es n)))) := propext ⟨fun h => h.out, fun h => ⟨h⟩⟩
structure ANewMap (σ : AHeap) (K : Nat → AHeap → Prop) : Prop where of ::
  out : ∀ id, σ id = none → K id (upd σ id (.map []))
theorem ANewMap_def (σ : AHeap) (K : Nat → AHeap → Prop) : ANewMap σ K = (∀ id, σ id = none → K id (upd σ id (.map []))) := propext ⟨fun h => h.out, fun h => ⟨h⟩⟩

def cutTok (lo hi : Option Opd) (t : Tok) : Tok :=
  match lo, hi with
  | none, none => t
  | _, _ => .none

def intOr (env : Env) (x : Option Opd) (d : Int) (K : Int → Prop) : Prop :=
  match x with
  | none => K d
  | some x => match x.get env with
    | .v (.int _ n) => K n
    | _ => False

/-- The elements that an append's second operand stands for. -/
def elemsK (σ : AHeap) (s : Nat) (y : AVal) (K : List AVal → Prop) : Prop :=
  match y with
  | .slice s2 ys _ => bif Nat.beq s s2 then K ys else False
  | .v (.string b) => bif Nat.beq s 1 then K (b.data.toList.map byteV) else False
  | .ms r s2 off ln => bif Nat.beq s s2 && Nat.beq s 1 then AView σ r off ln K else False
  | _ => False

def callB (P : Program) (g : FuncId) : Bool :=
  match P.funcs[g]? with
  | some fn => fn.body.isSome && !(fn.name == "runtime.NumGoroutine")
  | none => false

/-- What an operation comes to. -/
def IOp.ev (P : Program) (env : Env) (σ : AHeap) (op : IOp) (K : AVal → AHeap → Prop) : Prop :=
  match op with
  | .mv x => x.getK env fun v => K v σ
  | .pick c a b => match c.get env with
    | .v (.bool t) => ABr t fun t => match t with
      | true => a.getK env fun v => K v σ
      | false => b.getK env fun v => K v σ
    | _ => False
  | .bin tb op x y => match x.get env, y.get env with
    | .v a, .v b => binE tb op a b fun r => K (.v r) σ
    | _, _ => False
  | .eqNil kd neg x => match kd, x.get env with
    | 0, .slice _ xs _ => ANil xs fun t => K (.v (.bool (t != neg))) σ
    | 0, .ms .. | 1, .ptr .. | 1, .eptr .. | 2, .map .. => K (.v (.bool neg)) σ
    | 1, .v (.pointer none) | 2, .v (.map none) => K (.v (.bool (!neg))) σ
    | _, _ => False
  | .eqAgg neg ks x y => match x.get env, y.get env with
    | .agg xs, .agg ys => eqCells ks xs ys fun t => K (.v (.bool (t != neg))) σ
    | _, _ => False
  | .not x => match x.get env with
    | .v (.bool b) => K (.v (.bool (!b))) σ
    | _ => False
  | .conv k x => match x.get env with
    | .v (.int _ n) => AFit k n fun m => K (.v (.int k m)) σ
    | _ => False
  | .b2s x => match x.get env with
    | .slice s xs _ => bif Nat.beq s 1 then AStr xs fun b => K (.v (.string b)) σ else False
    | _ => False
  | .s2b x => match x.get env with
    | .v (.string b) => K (.slice 1 (b.data.toList.map byteV) .none) σ
    | _ => False
  | .new zero => ANew σ zero fun id σ' => K (.ptr id 0) σ'
  | .box n x => x.getK env fun v => bif Nat.beq v.cells.length n then ANew σ v.cells fun id σ' => K (.ptr id 0) σ' else False
  | .build zero parts => fillK env parts zero fun l => K (.agg l) σ
  | .rowT s xs => getLK env xs fun l => bif l.all (okElem s) then ARowT σ s l K else False
  | .mark x => match x.get env with
    | .slice s xs t => AMark σ xs t fun σ' => K (.slice s xs .none) σ'
    | _ => False
  | .row s xs => getLK env xs fun l => bif l.all (okElem s) then K (.slice s l .full) σ else False
  | .load agg a => match a.get env with
    | .ptr id off => ALoad σ id off agg fun x => K x σ
    | .eptr cs off => ACell cs off agg fun x => K x σ
    | _ => False
  | .store n a x => match a.get env with
    | .ptr id off => x.getK env fun v => bif Nat.beq v.cells.length n then AStore σ id off v.cells fun σ' => K .top σ' else False
    | _ => False
  | .nilchk x => match x.get env with
    | .ptr id off => K (.ptr id off) σ
    | .eptr cs off => K (.eptr cs off) σ
    | _ => False
  | .faddr off x => match x.get env with
    | .ptr id o => K (.ptr id (o + off)) σ
    | .eptr cs o => K (.eptr cs (o + off)) σ
    | _ => False
  | .field agg off x => match x.get env with
    | .agg cs => ACell cs off agg fun y => K y σ
    | _ => False
  | .iaddr s x i => match x.get env, i.get env with
    | .slice s2 xs _, .v (.int _ n) => bif Nat.beq s s2 then AGet xs n fun y => K (.eptr y.cells 0) σ else False
    | .ms r s2 off ln, .v (.int _ n) => bif Nat.beq s s2 then AIdx n ln fun k => K (.ptr r (off + k * s)) σ else False
    | _, _ => False
  | .iaddrA s ln x i => match x.get env, i.get env with
    | .ptr id off, .v (.int _ n) => AIdx n ln fun k => K (.ptr id (off + k * s)) σ
    | .eptr cs off, .v (.int _ n) => AIdx n ln fun k => K (.eptr cs (off + k * s)) σ
    | _, _ => False
  | .index agg s ln x i => match x.get env, i.get env with
    | .agg cs, .v (.int _ n) => AIdx n ln fun k => ACell cs (k * s) agg fun y => K y σ
    | _, _ => False
  | .cut s x lo hi mx => match x.get env with
    | .slice s2 xs t => bif Nat.beq s s2 then
        intOr env lo 0 fun l => intOr env hi xs.length fun h => ACut xs.length l h fun l' h' =>
          match mx with
          | none => K (.slice s ((xs.take h').drop l') (cutTok lo hi t)) σ
          | some _ => intOr env mx 0 fun m => hi.isSome = true ∧ m = h ∧ K (.slice s ((xs.take h').drop l') .full) σ
      else False
    | .ms r s2 off ln => bif Nat.beq s s2 then
        intOr env lo 0 fun l => intOr env hi ln fun h => ACut ln l h fun l' h' =>
          match mx with
          | none => l' < h' ∧ K (.ms r s (off + l' * s) (h' - l')) σ
          | some _ => False
      else False
    | _ => False
  | .mk bytes zero ln cp => match ln.get env, cp.get env with
    | .v (.int _ n), .v (.int _ m) => n = m ∧ AMk bytes n fun k => K (.slice zero.cells.length (List.replicate k zero) .full) σ
    | _, _ => False
  | .mkmap => ANewMap σ fun id σ' => K (.map id) σ'
  | .look zero m k => match m.get env, k.get env with
    | .map id, .v (.int .i64 n) => ALook σ id n zero fun y => K y σ
    | .v (.map none), .v (.int .i64 _) => K zero σ
    | _, _ => False
  | .mset m k x => match m.get env, k.get env with
    | .map id, .v (.int .i64 n) => x.getK env fun v => AMset σ id n v fun σ' => K .top σ'
    | _, _ => False
  | .mdel m k => match m.get env, k.get env with
    | .map id, .v (.int .i64 n) => AMdel σ id n fun σ' => K (.tup []) σ'
    | _, _ => False
  | .fn g first caps => getLK env first fun f => getLK env caps fun c => K (.func g f c) σ
  | .ext x i => match x.get env with
    | .tup vs => lgetK vs i fun y => K y σ
    | _ => False
  | .call g args => getLK env args fun l => ACalls P g l σ K
  | .callq g args => getLK env args fun l => ACalls P g l σ fun v σ' => K v σ' ∧ Ext σ σ'
  | .callv f args => match f.get env with
    | .func g first caps => callB P g = true ∧ getLK env args fun l => ACalls P g (first ++ l ++ caps) σ K
    | _ => False
  | .app s bytes x y => match x.get env with
    | .slice s1 xs t => bif Nat.beq s s1 then elemsK σ s (y.get env) fun ys => AApp σ s bytes xs t ys K else False
    | _ => False
  | .appm s bytes x y => match x.get env with
    | .slice s1 xs t => bif Nat.beq s s1 then elemsK σ s (y.get env) fun ys => AAppNew σ s bytes xs t ys K else False
    | .ms r s1 off ln => bif Nat.beq s s1 then elemsK σ s (y.get env) fun ys => AAppM σ r s off ln bytes ys K else False
    | _ => False
  | .app0 s bytes zero x n => match x.get env, n.get env with
    | .slice s1 xs t, .v (.int _ m) => bif Nat.beq s s1 && okElem s zero then 0 ≤ m ∧ m < 4611686018427387904 ∧ m * bytes ≤ 140737488355328 ∧ (AApp σ s bytes xs t (List.replicate m.toNat zero) K ∨ AAppNew σ s bytes xs t (List.replicate m.toNat zero) K) else False
    | .ms r s1 off ln, .v (.int _ m) => bif Nat.beq s s1 && okElem s zero then 0 ≤ m ∧ m < 4611686018427387904 ∧ m * bytes ≤ 140737488355328 ∧ AAppM σ r s off ln bytes (List.replicate m.toNat zero) K else False
    | _, _ => False
  | .len str x => match str, x.get env with
    | false, .slice _ xs _ => K (.v (.int .i64 xs.length)) σ
    | false, .ms _ _ _ ln => K (.v (.int .i64 ln)) σ
    | true, .v (.string b) => K (.v (.int .i64 b.size)) σ
    | _, _ => False
  | .mxmn mx x y => match x.get env, y.get env with
    | .v (.int k a), .v (.int k' b) => bif decide (k = k') then AMx mx a b fun n => K (.v (.int k n)) σ else False
    | _, _ => False

def setD (env : Env) (d : Option Pth) (v : AVal) (k : Env → Prop) : Prop :=
  match d with
  | none => k env
  | some d => env.setK d v k

def guardK (env : Env) (g : Pth) (want : Bool) (x : AVal) (yes no : Env → Prop) : Prop :=
  match x with
  | .v (.bool b) => ABr b fun b => env.setK g (.v (.bool b)) fun env => match b, want with
    | true, true | false, false => yes env
    | _, _ => no env
  | .tup [] => no env
  | _ => False

/-- A row: its guard first. -/
def evRow (P : Program) (r : IRow) (env : Env) (σ : AHeap) (K : Env → AHeap → Prop) : Prop :=
  match r.guard with
  | none => r.op.ev P env σ fun v σ' => setD env r.dst v fun env' => K env' σ'
  | some (g, want) => guardK env g want (env.get g) (fun env => r.op.ev P env σ fun v σ' => setD env r.dst v fun env' => K env' σ') (fun env => setD env r.dst (.tup []) fun env' => K env' σ)

def evRT (P : Program) : RT → Env → AHeap → (Env → AHeap → Prop) → Prop
  | .done, env, σ, K => K env σ
  | .one r t, env, σ, K => evRow P r env σ fun env' σ' => evRT P t env' σ' K
  | .both a b, env, σ, K => evRT P a env σ K ∧ evRT P b env σ K
end Go.Am

