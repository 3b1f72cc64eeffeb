/-
  The compiler: a body of the model's program as the small language; each row's order in a region that draws it.
-/
import Derived.Test.YtiohpnkfcaahbaaFc
namespace Go.Am
set_option linter.unusedVariables false
set_option linter.unusedSimpArgs false
set_option linter.unusedSectionVars false

/-- Which functions are called as such that turn no object; whether appends turn objects; how many slots there are. -/
structure Cfg where
  q : List FuncId
  m : Bool
  n : Nat
  /-- Slots whose row is marked later. -/
  k : List Tmp

def flatT (P : Program) : Nat → TypeId → List TypeId
  | 0, t => [t]
  | n + 1, t => match P.underlying t with
    | some (.struct fs) => fs.toList.flatMap fun f => flatT P n f.type
    | some (.array m e) => (List.replicate m (flatT P n e)).flatten
    | _ => [t]

def leafA (P : Program) (t : TypeId) (v : Value) : AVal :=
  match v with
  | .slice none 0 0 => match P.underlying t with
    | some (.slice e) => .slice (P.cellsOf e) [] .full
    | _ => .v v
  | _ => .v v

def valEq : Value → Value → Bool
  | .bool a, .bool b => a == b
  | .int k a, .int k' b => decide (k = k') && decide (a = b)
  | .string a, .string b => decide (a.data.toList = b.data.toList)
  | .pointer none, .pointer none => true
  | .map none, .map none => true
  | .nilFunc, .nilFunc => true
  | _, _ => false

def okC : AVal → Value → Bool
  | .v a, b => valEq a b
  | .slice _ [] _, .slice none 0 0 => true
  | _, _ => false

def okL : List AVal → List Value → Bool
  | [], [] => true
  | x :: xs, v :: vs => okC x v && okL xs vs
  | _, _ => false

def cellsT (P : Program) (t : TypeId) (cs : List Value) : Option (List AVal) :=
  let l := List.zipWith (leafA P) (flatT P 8 t) cs
  bif okL l cs then some l else none

def cstT (P : Program) (t : TypeId) (v : Value) : Option AVal :=
  match v with
  | .agg cs => (cellsT P t cs.toList).map .agg
  | v => bif okC (leafA P t v) v then some (leafA P t v) else none

def opT (P : Program) (t : TypeId) : Operand → Option Opd
  | .tmp n => some (.t (pth n))
  | .const v => (cstT P t v).map .c
  | .func f => some (.c (.func f [] []))
  | .global _ => none

def opsT (P : Program) : List TypeId → List Operand → Option (List Opd)
  | [], [] => some []
  | t :: ts, x :: xs => (opT P t x).bind fun y => (opsT P ts xs).map (y :: ·)
  | _, _ => none

/-- Operands that need no type. -/
def opsU (P : Program) : List Operand → Option (List Opd)
  | [] => some []
  | x :: xs => (opT P 0 x).bind fun y => (opsU P xs).map (y :: ·)

def isSA : TypeDesc → Bool
  | .struct _ | .array _ _ => true
  | _ => false

def aggOf (P : Program) (t : TypeId) : Option (Option Nat) :=
  match P.info? t, P.underlying t with
  | some i, some d => some (bif isSA d then some i.size else none)
  | _, _ => none

def zeroT (P : Program) (t : TypeId) : Option (List AVal) :=
  match P.info? t with
  | some i => match i.zero with
    | some z => bif Nat.beq z.cells.size i.size then cellsT P t z.cells.toList else none
    | none => none
  | none => none

def partsT (P : Program) (fs : Array Field) : List (Nat × Operand) → Option (List (Nat × Nat × Opd))
  | [] => some []
  | (i, x) :: rest => match fs[i]? with
    | some f => match P.info? f.type with
      | some fi => (opT P f.type x).bind fun y => (partsT P fs rest).map ((f.offset, fi.size, y) :: ·)
      | none => none
    | none => none

def partsA (P : Program) (e : TypeId) (s : Nat) : List (Nat × Operand) → Option (List (Nat × Nat × Opd))
  | [] => some []
  | (i, x) :: rest => (opT P e x).bind fun y => (partsA P e s rest).map ((i * s, s, y) :: ·)

/-- All parts of a slice's literal, one behind the other. -/
def inTurn : Nat → List (Nat × Operand) → Bool
  | _, [] => true
  | n, (i, _) :: rest => Nat.beq i n && inTurn (n + 1) rest

def optT (P : Program) (t : TypeId) : Option Operand → Option (Option Opd)
  | none => some none
  | some x => (opT P t x).map some

def compCall (P : Program) (C : Cfg) (c : Call) : Option IOp :=
  match c.callee with
  | .value (.func g) => match P.funcs[g]? with
    | some fn => bif callB P g then (opsT P fn.params.toList c.args.toList).map (bif C.q.contains g then .callq g else .call g) else none
    | none => none
  | .value f => (opT P 0 f).bind fun f => (opsU P c.args.toList).map (.callv f)
  | .builtin .len => match c.argTypes[0]?, c.args.toList with
    | some t, [x] => match P.underlying t with
      | some (.slice _) => (opT P t x).map (.len false)
      | some .string => (opT P t x).map (.len true)
      | _ => none
    | _, _ => none
  | .builtin .max => match c.args.toList with
    | [x, y] => (opT P 0 x).bind fun x => (opT P 0 y).map (.mxmn true x)
    | _ => none
  | .builtin .min => match c.args.toList with
    | [x, y] => (opT P 0 x).bind fun x => (opT P 0 y).map (.mxmn false x)
    | _ => none
  | .builtin .append => match c.argTypes.toList, c.args.toList with
    | [t, u], [x, y] => match P.underlying t, P.underlying u with
      | some (.slice e), some ud => match P.info? e, zeroT P e with
        | some i, some zs => match ud with
          | .int _ => match zs, aggOf P e with
            | [z], some none => bif !(Nat.beq i.bytes 0) && Nat.beq i.size 1 then (opT P t x).bind fun x => (opT P u y).map fun y => .app0 1 i.bytes z x y else none
            | _, _ => none
          | .slice _ | .string => bif zs.all AVal.isCell && !(Nat.beq i.size 0) && !(Nat.beq i.bytes 0) then (opT P t x).bind fun x => (opT P u y).map fun y => bif C.m then .appm i.size i.bytes x y else .app i.size i.bytes x y else none
          | _ => none
        | _, _ => none
      | _, _ => none
    | _, _ => none
  | _ => none

def isByte (P : Program) (e : TypeId) : Bool :=
  match P.underlying e with
  | some (.int .u8) => true
  | _ => false
def kept (C : Cfg) : Option Tmp → Bool
  | some t => C.k.contains t
  | none => false
def isConst : Operand → Bool
  | .const _ => true
  | _ => false
theorem isByte_spec {P : Program} {e : TypeId} (h : isByte P e = true) : P.underlying e = some (.int .u8) := by
  unfold isByte at h; split at h
  · assumption
  · cases h

def plainI (P : Program) (t : TypeId) : Bool :=
  match P.underlying t with
  | some (.int _) => true
  | _ => false
theorem plainI_spec {P : Program} {t : TypeId} (h : plainI P t = true) : ∃ k, P.underlying t = some (.int k) := by
  unfold plainI at h; split at h
  · exact ⟨_, by assumption⟩
  · cases h
def plainB (P : Program) (t : TypeId) : Bool :=
  match P.underlying t with
  | some .bool => true
  | _ => false
theorem plainB_spec {P : Program} {t : TypeId} (h : plainB P t = true) : P.underlying t = some .bool := by
  unfold plainB at h; split at h
  · assumption
  · cases h
/-- Fields that are numbers or truths, one behind the other. -/
def flatFs (P : Program) : Nat → List Field → Bool
  | _, [] => true
  | k, f :: fs => !(decide (f.name = "_")) && Nat.beq f.offset k && (plainI P f.type || plainB P f.type) && flatFs P (k + 1) fs
/-- Which fields are truths. -/
def flatKs (P : Program) (fs : List Field) : List Bool := fs.map fun f => plainB P f.type
/-- The parts of a value of a type that may be compared: true for a truth, false for a number. -/
def flatNum (P : Program) (t : TypeId) : Option (List Bool) :=
  match P.underlying t with
  | some (.struct fs) => bif flatFs P 0 fs.toList && !(P.eqGuardType P.depth t) && !(P.stoodInHeld t) then some (flatKs P fs.toList) else none
  | some (.array n e) => match P.info? e with
    | some i => bif plainI P e && Nat.beq i.size 1 && !(P.eqGuardType P.depth t) then some (List.replicate n false) else none
    | none => none
  | _ => none

def comp (P : Program) (C : Cfg) (o : Oper) : Option IOp :=
  match o.op with
  | .move x | .assign x => (opT P o.type x).map .mv
  | .pick c a b => (opT P o.type c).bind fun c => (opT P o.type a).bind fun a => (opT P o.type b).map fun b => .pick c a b
  | .binOp op t x y u => match P.underlying t with
    | some (.int _) | some .string => (opT P t x).bind fun x => (opT P u y).map fun y => .bin false op x y
    | some .bool => (opT P t x).bind fun x => (opT P u y).map fun y => .bin true op x y
    | some (.slice _) => match op, y with
      | .eql, .const (.slice none _ _) => (opT P t x).map (.eqNil 0 false)
      | .neq, .const (.slice none _ _) => (opT P t x).map (.eqNil 0 true)
      | _, _ => none
    | some (.pointer _) => match op, y with
      | .eql, .const (.pointer none) => (opT P t x).map (.eqNil 1 false)
      | .neq, .const (.pointer none) => (opT P t x).map (.eqNil 1 true)
      | _, _ => none
    | some (.map _ _) => match op, y with
      | .eql, .const (.map none) => (opT P t x).map (.eqNil 2 false)
      | .neq, .const (.map none) => (opT P t x).map (.eqNil 2 true)
      | _, _ => none
    | _ => match flatNum P t with
      | some n => match op with
        | .eql => (opT P t x).bind fun x => (opT P u y).map fun y => .eqAgg false n x y
        | .neq => (opT P t x).bind fun x => (opT P u y).map fun y => .eqAgg true n x y
        | _ => none
      | none => none
  | .unOp .not _ x => (opT P o.type x).map .not
  | .convert s d x => match P.underlying s, P.underlying d with
    | some (.int _), some (.int k) => (opT P s x).map (.conv k)
    | some (.slice e), some .string => match P.underlying e with
      | some (.int .u8) => (opT P s x).map .b2s
      | _ => none
    | some (.slice _), some (.slice e) => bif Nat.beq s d && isByte P e then (opT P s x).map .mark else none
    | some .string, some (.slice e) => match P.underlying e with
      | some (.int .u8) => (opT P s x).map .s2b
      | _ => none
    | _, _ => none
  | .alloc t => (zeroT P t).map .new
  | .box t x => match P.info? t with
    | some i => (opT P t x).map (.box i.size)
    | none => none
  | .build t ps => match P.underlying t, zeroT P t with
    | some (.struct fs), some z => bif fs.toList.all (fun f => (P.info? f.type).isSome) then (partsT P fs ps.toList).map (.build z) else none
    | some (.array _ e), some z => match P.info? e with
      | some i => (partsA P e i.size ps.toList).map (.build z)
      | none => none
    | _, _ => none
  | .buildSlice t n ps => match P.underlying t with
    | some (.slice e) => match P.info? e, zeroT P e with
      | some i, some z => bif Nat.beq ps.size n && inTurn 0 ps.toList && Nat.ble (n * i.size) 16777216 && !(Nat.beq i.size 0) then (opsT P (List.replicate n e) (ps.toList.map (·.2))).map (fun xs => bif isByte P e && kept C o.dst then .rowT i.size xs else .row i.size xs) else none
      | _, _ => none
    | _ => none
  | .load t x => (aggOf P t).bind fun g => (opT P o.type x).map (.load g)
  | .store t a x => match P.info? t with
    | some i => (opT P 0 a).bind fun a => (opT P t x).map (.store i.size a)
    | none => none
  | .nilCheck x => (opT P 0 x).map .nilchk
  | .fieldAddr s x f => match P.underlying s with
    | some (.struct fs) => match fs[f]? with
      | some fd => match P.info? fd.type with
        | some i => bif Nat.beq i.size 0 then none else (opT P 0 x).map (.faddr fd.offset)
        | none => none
      | none => none
    | _ => none
  | .field s x f => match P.underlying s with
    | some (.struct fs) => match fs[f]? with
      | some fd => (aggOf P fd.type).bind fun g => (opT P s x).map (.field g fd.offset)
      | none => none
    | _ => none
  | .indexAddr t x i => match P.underlying t with
    | some (.slice e) => match P.info? e with
      | some ei => (opT P t x).bind fun x => (opT P 0 i).map (.iaddr ei.size x)
      | none => none
    | some (.array n e) => match P.info? e with
      | some ei => (opT P 0 x).bind fun x => (opT P 0 i).map (.iaddrA ei.size n x)
      | none => none
    | _ => none
  | .index t x i => match P.underlying t with
    | some (.array n e) => match P.info? e with
      | some ei => (aggOf P e).bind fun g => (opT P t x).bind fun x => (opT P 0 i).map (.index g ei.size n x)
      | none => none
    | _ => none
  | .slice t x lo hi mx => match P.underlying t with
    | some (.slice e) => match P.info? e with
      | some ei => (opT P t x).bind fun x => (optT P 0 lo).bind fun lo => (optT P 0 hi).bind fun hi => (optT P 0 mx).map fun mx => .cut ei.size x lo hi mx
      | none => none
    | _ => none
  | .makeSlice t l c => match P.underlying t with
    | some (.slice e) => match P.info? e, zeroT P e with
      | some i, some zs => match zs, aggOf P e with
        | [z], some none => bif z.isCell then (opT P 0 l).bind fun l => (opT P 0 c).map fun c => .mk i.bytes z l c else none
        | _, _ => none
      | _, _ => none
    | _ => none
  | .makeFunc (.func g) first caps => (opsU P first.toList).bind fun f => (opsU P caps.toList).map fun c => .fn g f c
  | .extract x i => (opT P 0 x).map fun x => .ext x i
  | .call c => compCall P C c
  | _ => none

def compGuard (ops : Array Oper) (o : Oper) : Option (Option (Pth × Bool)) :=
  match o.guard with
  | none => some none
  | some (j, want) => match (ops[j]?).bind (·.dst) with
    | some d => some (some (pth d, want))
    | none => none

def compRow (P : Program) (C : Cfg) (ops : Array Oper) (o : Oper) : Option IRow :=
  bif (match o.dst with
    | none => true
    | some d => Nat.blt d C.n) then (compGuard ops o).bind fun g => (comp P C o).map fun op => ⟨o.dst.map pth, g, op⟩ else none

/-- Of an operation: 0: it hangs on its operands alone; 1: it reads objects; 2: it turns none; 3: it may. -/
def IOp.cls : IOp → Nat
  | .mv _ | .pick .. | .bin .. | .not _ | .conv .. | .nilchk _ | .faddr .. | .field .. | .iaddr .. | .iaddrA .. | .index .. | .cut .. | .fn .. | .ext .. | .len .. | .mxmn .. | .b2s _ | .build .. | .eqAgg .. | .row .. | .mk .. | .s2b _ => 0
  | .load .. | .look .. => 1
  | .new _ | .box .. | .mkmap | .callq .. | .app .. | .eqNil .. | .rowT .. | .mark _ => 2
  | _ => 3

def optL {α : Type} : Option α → List α
  | none => []
  | some x => [x]

/-- An operation's operands. -/
def IOp.opds : IOp → List Opd
  | .mv x | .not x | .conv _ x | .b2s x | .s2b x | .mark x | .box _ x | .load _ x | .nilchk x | .faddr _ x | .field _ _ x | .ext x _ | .len _ x | .eqNil _ _ x => [x]
  | .pick c a b => [c, a, b]
  | .bin _ _ x y | .eqAgg _ _ x y | .store _ x y | .iaddr _ x y | .iaddrA _ _ x y | .index _ _ _ x y | .mk _ _ x y | .app _ _ x y | .appm _ _ x y | .app0 _ _ _ x y | .mxmn _ x y | .look _ x y | .mdel x y => [x, y]
  | .mset x y z => [x, y, z]
  | .new _ | .mkmap => []
  | .build _ ps => ps.map (·.2.2)
  | .row _ xs | .rowT _ xs => xs
  | .cut _ x lo hi mx => x :: (optL lo ++ optL hi ++ optL mx)
  | .fn _ f c => f ++ c
  | .call _ xs | .callq _ xs => xs
  | .callv f xs => f :: xs

def Pth.beq : Pth → Pth → Bool
  | .e, .e => true
  | .l p, .l q | .r p, .r q => Pth.beq p q
  | _, _ => false

def Opd.isAt (p : Pth) : Opd → Bool
  | .t q => Pth.beq p q
  | .c _ => false

def isAtG (p : Pth) : Option (Pth × Bool) → Bool
  | some (q, _) => Pth.beq p q
  | none => false

/-- Does a row look at a slot? -/
def IRow.looks (r : IRow) (p : Pth) : Bool := r.op.opds.any (Opd.isAt p) || isAtG p r.guard

def dstApart (d : Option Pth) (r : IRow) : Bool :=
  match d with
  | none => true
  | some p => !r.looks p

def dstNe : Option Pth → Option Pth → Bool
  | some p, some q => !Pth.beq p q
  | _, _ => true

def apartR (x y : IRow) : Bool := dstApart x.dst y && dstApart y.dst x && dstNe x.dst y.dst

def sel (o : Oper) : Bool := match o.op with | .select .. => true | _ => false

/-- May row i be taken first, of all that are not listed? -/
def firstB (ops : Array Oper) (rows : List IRow) (listed : Array Bool) (i : Nat) : Bool :=
  match rows[i]? with
  | some ri =>
    Nat.ble ri.op.cls 1 && (List.range ops.size).all fun j =>
      match ops[j]?, rows[j]? with
      | some oj, some rj => Nat.beq j i || listed.getD j true || oj.after.any (fun e => Region.binds .any e && Nat.beq e.on i) || (apartR ri rj && (Nat.beq ri.op.cls 0 || Nat.ble rj.op.cls 2))
      | _, _ => false
  | none => false

def bothL : List (Option RT) → Option RT
  | [] => none
  | [x] => x
  | x :: xs => x.bind fun a => (bothL xs).map (.both a)

def lin (ops : Array Oper) (rows : List IRow) : Nat → Array Bool → Option RT
  | 0, listed => bif (Region.ready .any ops listed).isEmpty then some .done else none
  | n + 1, listed =>
    match Region.ready .any ops listed with
    | [] => some .done
    | rs => match rs.find? (firstB ops rows listed) with
      | some i => match rows[i]? with
        | some r => (lin ops rows n (listed.setIfInBounds i true)).map (.one r)
        | none => none
      | none => bothL (rs.map fun i => match rows[i]? with
        | some r => (lin ops rows n (listed.setIfInBounds i true)).map (.one r)
        | none => none)

def rowsRT : List IRow → RT
  | [] => .done
  | r :: rs => .one r (rowsRT rs)

def compRows (P : Program) (C : Cfg) (ops : Array Oper) : List Oper → Option (List IRow)
  | [] => some []
  | o :: os => (compRow P C ops o).bind fun r => (compRows P C ops os).map (r :: ·)

def compC (P : Program) (C : Cfg) : Code → Option ICode
  | .skip => some .skip
  | .region _ ops false => (compRows P C ops ops.toList).map fun rows => .reg (rowsRT rows)
  | .region _ ops true => bif P.follows .mixedOrders then (compRows P C ops ops.toList).bind fun rows => (lin ops rows ops.size (Array.replicate ops.size false)).map .reg else none
  | .seq a b => (compC P C a).bind fun a => (compC P C b).map (.seq a)
  | .cond c a b => (opT P 0 c).bind fun c => (compC P C a).bind fun a => (compC P C b).map (.cond c a)
  | .block id b => (compC P C b).map (.block id)
  | .loop b => (compC P C b).map .loop
  | .exit id => some (.exit id)
  | .scope b => (compC P C b).map .scope
  | .label l => some (.label l)
  | .goto l => some (.goto l)
  | .ret => some .ret
  | _ => none

inductive IRes where
  | tmp (p : Pth)
  | cell (p : Pth) (agg : Option Nat)

structure IFun where
  params : Nat
  res : List IRes
  body : ICode

def compRes (P : Program) : List ResultVar → Option (List IRes)
  | [] => some []
  | .tmp t :: rs => (compRes P rs).map (.tmp (pth t) :: ·)
  | .cell a t :: rs => (aggOf P t).bind fun g => (compRes P rs).map (.cell (pth a) g :: ·)

def compF (P : Program) (C : Cfg) (fn : Func) : Option IFun :=
  match fn.body with
  | some c => (compC P C c).bind fun b => (compRes P fn.results.toList).map fun r => ⟨fn.params.size + fn.nfree, r, b⟩
  | none => none
end Go.Am

