/-
  What a queue does.
-/
import Derived.Test.YtkdbmajkjlnpiaaCbase
import Derived.Test.YtkdbmajkjlnpiaaIrqueue
namespace Go.Proofs.Ytkdbmajkjlnpiaa
set_option linter.unusedVariables false
set_option linter.unusedSimpArgs false
open Go Go.Am

abbrev Txt := Nat × List UInt8 × Tok
abbrev txV (t : Txt) : AVal := .agg [u64v t.1, sl t.2.2 t.2.1]
def strip (t : Txt) : Nat × List UInt8 := (t.1, t.2.1)
theorem get_txs {l : List Txt} {i : Nat} (h : i < l.length) : (l.map txV)[((i : Nat) : Int).toNat]? = some (txV l[i]) := by
  rw [Int.toNat_natCast, List.getElem?_map, List.getElem?_eq_getElem h]; rfl

/-- How many bytes texts are. -/
def tot (ts : List (Nat × List UInt8)) : Nat := (ts.map fun t => t.2.length).sum
theorem tot_nil : tot [] = 0 := rfl
theorem tot_cons (t : Nat × List UInt8) (ts : List (Nat × List UInt8)) : tot (t :: ts) = t.2.length + tot ts := by unfold tot; simp
theorem tot_append (a b : List (Nat × List UInt8)) : tot (a ++ b) = tot a + tot b := by unfold tot; simp

/-- What a queue holds. -/
structure QS where
  room : Int
  ts : List (Nat × List UInt8)
  taken : Nat
  last : Nat
deriving DecidableEq

def qcells (q : QS) (τ : List Txt) (tk : Tok) : List AVal := [i64v q.room, .slice 2 (τ.map txV) tk, i64v q.taken, u64v q.last, i64v ((tot q.ts : Int) - q.taken)]
structure QOk (q : QS) : Prop where
  room1 : 1 ≤ q.room
  room2 : q.room ≤ 20000
  few : q.ts.length ≤ 64
  each : ∀ t ∈ q.ts, 1 ≤ t.2.length ∧ t.2.length ≤ 1000
  begun : match q.ts with
    | [] => q.taken = 0
    | t :: _ => q.taken < t.2.length
  fits : (tot q.ts : Int) - q.taken ≤ q.room
  last : q.last < 1000000
theorem QOk.le {q : QS} (h : QOk q) : (q.taken : Int) ≤ tot q.ts := by
  have := h.begun
  cases e : q.ts with
  | nil => rw [e] at this; rw [this]; exact Int.le_refl _
  | cons t ts =>
    rw [e] at this
    rw [tot_cons]
    have : q.taken < t.2.length := this
    omega
def Qu (σ : AHeap) (id : Nat) (q : QS) (σb : AHeap) : Prop :=
  σb id = none ∧ QOk q ∧ ∃ τ tk, τ.map strip = q.ts ∧ σ = upd σb id (.cells (qcells q τ tk))
theorem Qu.ext {σ σb : AHeap} {id : Nat} {q : QS} (h : Qu σ id q σb) : Ext σb σ := by
  obtain ⟨h1, _, τ, tk, _, rfl⟩ := h
  exact Ext.upd_fresh _ h1
theorem Qu.sub {σ σb : AHeap} {id : Nat} {q : QS} (h : Qu σ id q σb) : Sub σ σb := by
  obtain ⟨h1, _, τ, tk, _, rfl⟩ := h
  exact Sub.upd_fresh _ h1

theorem qNew (room : Int) (σ : AHeap) (h : 1 ≤ room ∧ room ≤ 20000) : ACalls Try.prog i_queue_New [i64v room] σ fun v σ' => ∃ id, v = .tup [.ptr id 0, i64v 0] ∧ Qu σ' id ⟨room, [], 0, 0⟩ σ := by
  refine k_queue_New rfl ?_
  ((conv => whnf); (repeat ((first | with_reducible refine abr_true rfl ?_ | with_reducible refine abr_false rfl ?_ | with_reducible refine abr_yes rfl ?_ | refine abr_yes (by decide) ?_ | refine abr_no (by decide) ?_ | with_reducible refine abr_same_ne ?_); (conv => whnf))))
  (repeat ((first | refine aload (by (repeat (first | with_reducible exact upd_same _ _ _ | assumption | rw [upd_ne _ _ (by first | assumption | (apply Ne.symm; assumption))]))) rfl ?_ | refine afit_i64 (by omega) ?_ | refine arem_nonneg (by omega) (by omega) ?_ | refine adiv_i64 (by omega) (by omega) ?_ | refine abr_yes (by omega) ?_ | refine abr_no (by omega) ?_ | refine amin ?_ | refine amax ?_ | refine afit_u64 (by omega) ?_ | refine afit_u8 (by omega) ?_ | rw [List.length_map]); ((conv => whnf); (repeat ((first | with_reducible refine abr_true rfl ?_ | with_reducible refine abr_false rfl ?_ | with_reducible refine abr_yes rfl ?_ | refine abr_yes (by decide) ?_ | refine abr_no (by decide) ?_ | with_reducible refine abr_same_ne ?_); (conv => whnf))))))
  refine anew rfl fun id hid => ?_
  ((conv => whnf); (repeat ((first | with_reducible refine abr_true rfl ?_ | with_reducible refine abr_false rfl ?_ | with_reducible refine abr_yes rfl ?_ | refine abr_yes (by decide) ?_ | refine abr_no (by decide) ?_ | with_reducible refine abr_same_ne ?_); (conv => whnf))))
  refine aret_same ⟨id, rfl, hid, ⟨h.1, h.2, by simp, by simp, rfl, ?_, Nat.le_of_ble_eq_true rfl⟩, [], .full, rfl, rfl⟩
  show (0 : Int) - 0 ≤ room
  omega
theorem qNewBad (room : Int) (σ : AHeap) (h : room < 1 ∨ room > 20000) : ACalls Try.prog i_queue_New [i64v room] σ fun v σ' => v = .tup [.v (.pointer none), i64v 1] ∧ σ' = σ := by
  refine k_queue_New rfl ?_
  ((conv => whnf); (repeat ((first | with_reducible refine abr_true rfl ?_ | with_reducible refine abr_false rfl ?_ | with_reducible refine abr_yes rfl ?_ | refine abr_yes (by decide) ?_ | refine abr_no (by decide) ?_ | with_reducible refine abr_same_ne ?_); (conv => whnf))))
  by_cases h1 : room < 1
  · (repeat ((first | refine aload (by (repeat (first | with_reducible exact upd_same _ _ _ | assumption | rw [upd_ne _ _ (by first | assumption | (apply Ne.symm; assumption))]))) rfl ?_ | refine afit_i64 (by omega) ?_ | refine arem_nonneg (by omega) (by omega) ?_ | refine adiv_i64 (by omega) (by omega) ?_ | refine abr_yes (by omega) ?_ | refine abr_no (by omega) ?_ | refine amin ?_ | refine amax ?_ | refine afit_u64 (by omega) ?_ | refine afit_u8 (by omega) ?_ | rw [List.length_map]); ((conv => whnf); (repeat ((first | with_reducible refine abr_true rfl ?_ | with_reducible refine abr_false rfl ?_ | with_reducible refine abr_yes rfl ?_ | refine abr_yes (by decide) ?_ | refine abr_no (by decide) ?_ | with_reducible refine abr_same_ne ?_); (conv => whnf))))))
    exact aret_same ⟨rfl, rfl⟩
  · (repeat ((first | refine aload (by (repeat (first | with_reducible exact upd_same _ _ _ | assumption | rw [upd_ne _ _ (by first | assumption | (apply Ne.symm; assumption))]))) rfl ?_ | refine afit_i64 (by omega) ?_ | refine arem_nonneg (by omega) (by omega) ?_ | refine adiv_i64 (by omega) (by omega) ?_ | refine abr_yes (by omega) ?_ | refine abr_no (by omega) ?_ | refine amin ?_ | refine amax ?_ | refine afit_u64 (by omega) ?_ | refine afit_u8 (by omega) ?_ | rw [List.length_map]); ((conv => whnf); (repeat ((first | with_reducible refine abr_true rfl ?_ | with_reducible refine abr_false rfl ?_ | with_reducible refine abr_yes rfl ?_ | refine abr_yes (by decide) ?_ | refine abr_no (by decide) ?_ | with_reducible refine abr_same_ne ?_); (conv => whnf))))))
    exact aret_same ⟨rfl, rfl⟩

theorem qMade (id : Nat) (q : QS) (σ σb : AHeap) (h : Qu σ id q σb) : ACalls Try.prog i_queue_Queue_made [.ptr id 0] σ fun v σ' => v = boolv true ∧ σ' = σ := by
  obtain ⟨hid, hq, τ, tk, hτ, rfl⟩ := h
  have h1 := hq.room1
  refine k_queue_Queue_made rfl ?_
  ((conv => whnf); (repeat ((first | with_reducible refine abr_true rfl ?_ | with_reducible refine abr_false rfl ?_ | with_reducible refine abr_yes rfl ?_ | refine abr_yes (by decide) ?_ | refine abr_no (by decide) ?_ | with_reducible refine abr_same_ne ?_); (conv => whnf))))
  (repeat ((first | refine aload (by (repeat (first | with_reducible exact upd_same _ _ _ | assumption | rw [upd_ne _ _ (by first | assumption | (apply Ne.symm; assumption))]))) rfl ?_ | refine afit_i64 (by omega) ?_ | refine arem_nonneg (by omega) (by omega) ?_ | refine adiv_i64 (by omega) (by omega) ?_ | refine abr_yes (by omega) ?_ | refine abr_no (by omega) ?_ | refine amin ?_ | refine amax ?_ | refine afit_u64 (by omega) ?_ | refine afit_u8 (by omega) ?_ | rw [List.length_map]); ((conv => whnf); (repeat ((first | with_reducible refine abr_true rfl ?_ | with_reducible refine abr_false rfl ?_ | with_reducible refine abr_yes rfl ?_ | refine abr_yes (by decide) ?_ | refine abr_no (by decide) ?_ | with_reducible refine abr_same_ne ?_); (conv => whnf))))))
  exact aret_dec (by omega) (Sub.refl _)
theorem qMadeNil (σ : AHeap) : ACalls Try.prog i_queue_Queue_made [.v (.pointer none)] σ fun v σ' => v = boolv false ∧ σ' = σ := by
  refine k_queue_Queue_made rfl ?_
  ((conv => whnf); (repeat ((first | with_reducible refine abr_true rfl ?_ | with_reducible refine abr_false rfl ?_ | with_reducible refine abr_yes rfl ?_ | refine abr_yes (by decide) ?_ | refine abr_no (by decide) ?_ | with_reducible refine abr_same_ne ?_); (conv => whnf))))
  exact aret_same ⟨rfl, rfl⟩

theorem qBytes (id : Nat) (q : QS) (σ σb : AHeap) (h : Qu σ id q σb) : ACalls Try.prog i_queue_Queue_Bytes [.ptr id 0] σ fun v σ' => v = i64v ((tot q.ts : Int) - q.taken) ∧ σ' = σ := by
  obtain ⟨hid, hq, τ, tk, hτ, rfl⟩ := h
  refine k_queue_Queue_Bytes rfl ?_
  ((conv => whnf); (repeat ((first | with_reducible refine abr_true rfl ?_ | with_reducible refine abr_false rfl ?_ | with_reducible refine abr_yes rfl ?_ | refine abr_yes (by decide) ?_ | refine abr_no (by decide) ?_ | with_reducible refine abr_same_ne ?_); (conv => whnf))))
  (repeat ((first | refine aload (by (repeat (first | with_reducible exact upd_same _ _ _ | assumption | rw [upd_ne _ _ (by first | assumption | (apply Ne.symm; assumption))]))) rfl ?_ | refine afit_i64 (by omega) ?_ | refine arem_nonneg (by omega) (by omega) ?_ | refine adiv_i64 (by omega) (by omega) ?_ | refine abr_yes (by omega) ?_ | refine abr_no (by omega) ?_ | refine amin ?_ | refine amax ?_ | refine afit_u64 (by omega) ?_ | refine afit_u8 (by omega) ?_ | rw [List.length_map]); ((conv => whnf); (repeat ((first | with_reducible refine abr_true rfl ?_ | with_reducible refine abr_false rfl ?_ | with_reducible refine abr_yes rfl ?_ | refine abr_yes (by decide) ?_ | refine abr_no (by decide) ?_ | with_reducible refine abr_same_ne ?_); (conv => whnf))))))
  exact aret_same ⟨rfl, rfl⟩

/-- The first text, and what waits of it. -/
def frontV (q : QS) : Nat × List UInt8 × Bool := match q.ts with
  | [] => (0, [], false)
  | t :: _ => (t.1, t.2.drop q.taken, decide (q.taken > 0))

set_option maxRecDepth 10000 in
theorem qFront (id : Nat) (q : QS) (σ σb : AHeap) (h : Qu σ id q σb) : ACalls Try.prog i_queue_Queue_Front [.ptr id 0] σ fun v σ' => v = .tup [u64v (frontV q).1, sl .none (frontV q).2.1, boolv (frontV q).2.2] ∧ σ' = σ := by
  have hQ := h
  obtain ⟨hid, hq, τ, tk, hτ, rfl⟩ := h
  refine k_queue_Queue_Front rfl ?_
  ((conv => whnf); (repeat ((first | with_reducible refine abr_true rfl ?_ | with_reducible refine abr_false rfl ?_ | with_reducible refine abr_yes rfl ?_ | refine abr_yes (by decide) ?_ | refine abr_no (by decide) ?_ | with_reducible refine abr_same_ne ?_); (conv => whnf))))
  refine acall (qMade id q _ _ hQ) ?_
  rintro _ σ_ ⟨rfl, e_⟩
  obtain rfl := e_.symm
  refine ⟨?_, Ext.refl _⟩
  ((conv => whnf); (repeat ((first | with_reducible refine abr_true rfl ?_ | with_reducible refine abr_false rfl ?_ | with_reducible refine abr_yes rfl ?_ | refine abr_yes (by decide) ?_ | refine abr_no (by decide) ?_ | with_reducible refine abr_same_ne ?_); (conv => whnf))))
  refine aload (upd_same _ _ _) rfl ?_
  ((conv => whnf); (repeat ((first | with_reducible refine abr_true rfl ?_ | with_reducible refine abr_false rfl ?_ | with_reducible refine abr_yes rfl ?_ | refine abr_yes (by decide) ?_ | refine abr_no (by decide) ?_ | with_reducible refine abr_same_ne ?_); (conv => whnf))))
  rw [List.length_map]
  cases τ with
  | nil =>
    have hts : q.ts = [] := hτ.symm
    ((conv => whnf); (repeat ((first | with_reducible refine abr_true rfl ?_ | with_reducible refine abr_false rfl ?_ | with_reducible refine abr_yes rfl ?_ | refine abr_yes (by decide) ?_ | refine abr_no (by decide) ?_ | with_reducible refine abr_same_ne ?_); (conv => whnf))))
    refine aret (VLe.tup (VLe.cons (VLe.refl _) (VLe.cons (VLe.slice _ _ _) fun _ _ h => h))) (Sub.refl _) ⟨?_, rfl⟩
    unfold frontV; rw [hts]; rfl
  | cons t τ =>
    have hts : q.ts = strip t :: τ.map strip := hτ.symm
    have hb := hq.begun
    have he := hq.each (strip t) (by rw [hts]; exact List.mem_cons_self ..)
    rw [hts] at hb
    refine abr_no (by simp; omega) ?_
    ((conv => whnf); (repeat ((first | with_reducible refine abr_true rfl ?_ | with_reducible refine abr_false rfl ?_ | with_reducible refine abr_yes rfl ?_ | refine abr_yes (by decide) ?_ | refine abr_no (by decide) ?_ | with_reducible refine abr_same_ne ?_); (conv => whnf))))
    (repeat ((first | refine aload (by (repeat (first | with_reducible exact upd_same _ _ _ | assumption | rw [upd_ne _ _ (by first | assumption | (apply Ne.symm; assumption))]))) rfl ?_ | refine afit_i64 (by omega) ?_ | refine arem_nonneg (by omega) (by omega) ?_ | refine adiv_i64 (by omega) (by omega) ?_ | refine abr_yes (by omega) ?_ | refine abr_no (by omega) ?_ | refine amin ?_ | refine amax ?_ | refine afit_u64 (by omega) ?_ | refine afit_u8 (by omega) ?_ | rw [List.length_map]); ((conv => whnf); (repeat ((first | with_reducible refine abr_true rfl ?_ | with_reducible refine abr_false rfl ?_ | with_reducible refine abr_yes rfl ?_ | refine abr_yes (by decide) ?_ | refine abr_no (by decide) ?_ | with_reducible refine abr_same_ne ?_); (conv => whnf))))))
    refine aget (x := txV t) (by omega) rfl ?_
    ((conv => whnf); (repeat ((first | with_reducible refine abr_true rfl ?_ | with_reducible refine abr_false rfl ?_ | with_reducible refine abr_yes rfl ?_ | refine abr_yes (by decide) ?_ | refine abr_no (by decide) ?_ | with_reducible refine abr_same_ne ?_); (conv => whnf))))
    refine acell rfl ?_
    ((conv => whnf); (repeat ((first | with_reducible refine abr_true rfl ?_ | with_reducible refine abr_false rfl ?_ | with_reducible refine abr_yes rfl ?_ | refine abr_yes (by decide) ?_ | refine abr_no (by decide) ?_ | with_reducible refine abr_same_ne ?_); (conv => whnf))))
    (repeat ((first | refine aload (by (repeat (first | with_reducible exact upd_same _ _ _ | assumption | rw [upd_ne _ _ (by first | assumption | (apply Ne.symm; assumption))]))) rfl ?_ | refine afit_i64 (by omega) ?_ | refine arem_nonneg (by omega) (by omega) ?_ | refine adiv_i64 (by omega) (by omega) ?_ | refine abr_yes (by omega) ?_ | refine abr_no (by omega) ?_ | refine amin ?_ | refine amax ?_ | refine afit_u64 (by omega) ?_ | refine afit_u8 (by omega) ?_ | rw [List.length_map]); ((conv => whnf); (repeat ((first | with_reducible refine abr_true rfl ?_ | with_reducible refine abr_false rfl ?_ | with_reducible refine abr_yes rfl ?_ | refine abr_yes (by decide) ?_ | refine abr_no (by decide) ?_ | with_reducible refine abr_same_ne ?_); (conv => whnf))))))
    refine aget (x := txV t) (by omega) rfl ?_
    ((conv => whnf); (repeat ((first | with_reducible refine abr_true rfl ?_ | with_reducible refine abr_false rfl ?_ | with_reducible refine abr_yes rfl ?_ | refine abr_yes (by decide) ?_ | refine abr_no (by decide) ?_ | with_reducible refine abr_same_ne ?_); (conv => whnf))))
    refine acell rfl ?_
    ((conv => whnf); (repeat ((first | with_reducible refine abr_true rfl ?_ | with_reducible refine abr_false rfl ?_ | with_reducible refine abr_yes rfl ?_ | refine abr_yes (by decide) ?_ | refine abr_no (by decide) ?_ | with_reducible refine abr_same_ne ?_); (conv => whnf))))
    (repeat ((first | refine aload (by (repeat (first | with_reducible exact upd_same _ _ _ | assumption | rw [upd_ne _ _ (by first | assumption | (apply Ne.symm; assumption))]))) rfl ?_ | refine afit_i64 (by omega) ?_ | refine arem_nonneg (by omega) (by omega) ?_ | refine adiv_i64 (by omega) (by omega) ?_ | refine abr_yes (by omega) ?_ | refine abr_no (by omega) ?_ | refine amin ?_ | refine amax ?_ | refine afit_u64 (by omega) ?_ | refine afit_u8 (by omega) ?_ | rw [List.length_map]); ((conv => whnf); (repeat ((first | with_reducible refine abr_true rfl ?_ | with_reducible refine abr_false rfl ?_ | with_reducible refine abr_yes rfl ?_ | refine abr_yes (by decide) ?_ | refine abr_no (by decide) ?_ | with_reducible refine abr_same_ne ?_); (conv => whnf))))))
    refine acut (by omega) (by have : q.taken < t.2.1.length := hb; omega) (by omega) ?_
    ((conv => whnf); (repeat ((first | with_reducible refine abr_true rfl ?_ | with_reducible refine abr_false rfl ?_ | with_reducible refine abr_yes rfl ?_ | refine abr_yes (by decide) ?_ | refine abr_no (by decide) ?_ | with_reducible refine abr_same_ne ?_); (conv => whnf))))
    (repeat ((first | refine aload (by (repeat (first | with_reducible exact upd_same _ _ _ | assumption | rw [upd_ne _ _ (by first | assumption | (apply Ne.symm; assumption))]))) rfl ?_ | refine afit_i64 (by omega) ?_ | refine arem_nonneg (by omega) (by omega) ?_ | refine adiv_i64 (by omega) (by omega) ?_ | refine abr_yes (by omega) ?_ | refine abr_no (by omega) ?_ | refine amin ?_ | refine amax ?_ | refine afit_u64 (by omega) ?_ | refine afit_u8 (by omega) ?_ | rw [List.length_map]); ((conv => whnf); (repeat ((first | with_reducible refine abr_true rfl ?_ | with_reducible refine abr_false rfl ?_ | with_reducible refine abr_yes rfl ?_ | refine abr_yes (by decide) ?_ | refine abr_no (by decide) ?_ | with_reducible refine abr_same_ne ?_); (conv => whnf))))))
    rw [show ((q.taken : Nat) : Int).toNat = q.taken by omega, show ((t.2.1.length : Nat) : Int).toNat = t.2.1.length by omega, List.take_of_length_le (by simp), ← List.map_drop]
    refine acall (Clone (t.2.1.drop q.taken) _ _ (by have := he.2; unfold strip at this; rw [List.length_drop]; dsimp only at this; omega)) ?_
    rintro v σ' ⟨tk3, ho, rfl⟩
    refine ⟨?_, ho.ext⟩
    ((conv => whnf); (repeat ((first | with_reducible refine abr_true rfl ?_ | with_reducible refine abr_false rfl ?_ | with_reducible refine abr_yes rfl ?_ | refine abr_yes (by decide) ?_ | refine abr_no (by decide) ?_ | with_reducible refine abr_same_ne ?_); (conv => whnf))))
    refine aret (VLe.tup (VLe.cons (VLe.refl _) (VLe.cons (VLe.slice _ _ _) fun _ _ h => h))) ho.sub ⟨?_, rfl⟩
    unfold frontV; rw [hts]
    rw [show @decide ((0 : Int) < ((q.taken : Nat) : Int)) (ltDec 0 _) = decide (q.taken > 0) from dec_congr (by omega)]
    rfl

def pushCode (q : QS) (b : List UInt8) : Int := if b.length = 0 then 1 else if b.length > 1000 then 2 else if q.ts.length ≥ 64 ∨ (b.length : Int) > q.room - ((tot q.ts : Int) - q.taken) then 5 else 0
def pushQ (q : QS) (b : List UInt8) : QS := if pushCode q b = 0 then ⟨q.room, q.ts ++ [(q.last + 1, b)], q.taken, q.last + 1⟩ else q
def pushId (q : QS) (b : List UInt8) : Nat := if pushCode q b = 0 then q.last + 1 else 0

set_option maxRecDepth 20000 in
theorem qPush (id : Nat) (q : QS) (b : List UInt8) (t : Tok) (σ σb : AHeap) (h : Qu σ id q σb) (hlast : q.last < 900000) (hbl : b.length ≤ 140737488351232) :
    ACalls Try.prog i_queue_Queue_Push [.ptr id 0, sl t b] σ fun v σ' => v = .tup [u64v (pushId q b), i64v (pushCode q b)] ∧ Qu σ' id (pushQ q b) σb := by
  have hQ := h
  obtain ⟨hid, hq, τ, tk, hτ, rfl⟩ := h
  have hτl : τ.length = q.ts.length := by rw [← hτ, List.length_map]
  have hle := hq.le
  have r1 := hq.room1
  have r2 := hq.room2
  have r3 := hq.fits
  have bad (c : Int) (hc : pushCode q b = c) (h0 : c ≠ 0) : (AVal.tup [u64v 0, i64v c] = .tup [u64v (pushId q b), i64v (pushCode q b)] ∧ Qu (upd σb id (.cells (qcells q τ tk))) id (pushQ q b) σb) := by
    unfold pushId pushQ
    rw [hc, if_neg h0, if_neg h0]
    exact ⟨rfl, hQ⟩
  refine k_queue_Queue_Push rfl ?_
  ((conv => whnf); (repeat ((first | with_reducible refine abr_true rfl ?_ | with_reducible refine abr_false rfl ?_ | with_reducible refine abr_yes rfl ?_ | refine abr_yes (by decide) ?_ | refine abr_no (by decide) ?_ | with_reducible refine abr_same_ne ?_); (conv => whnf))))
  refine acall (qMade id q _ _ hQ) ?_
  rintro _ σ_ ⟨rfl, e_⟩
  obtain rfl := e_.symm
  refine ⟨?_, Ext.refl _⟩
  ((conv => whnf); (repeat ((first | with_reducible refine abr_true rfl ?_ | with_reducible refine abr_false rfl ?_ | with_reducible refine abr_yes rfl ?_ | refine abr_yes (by decide) ?_ | refine abr_no (by decide) ?_ | with_reducible refine abr_same_ne ?_); (conv => whnf))))
  rw [List.length_map]
  by_cases h0 : b.length = 0
  · (repeat ((first | refine aload (by (repeat (first | with_reducible exact upd_same _ _ _ | assumption | rw [upd_ne _ _ (by first | assumption | (apply Ne.symm; assumption))]))) rfl ?_ | refine afit_i64 (by omega) ?_ | refine arem_nonneg (by omega) (by omega) ?_ | refine adiv_i64 (by omega) (by omega) ?_ | refine abr_yes (by omega) ?_ | refine abr_no (by omega) ?_ | refine amin ?_ | refine amax ?_ | refine afit_u64 (by omega) ?_ | refine afit_u8 (by omega) ?_ | rw [List.length_map]); ((conv => whnf); (repeat ((first | with_reducible refine abr_true rfl ?_ | with_reducible refine abr_false rfl ?_ | with_reducible refine abr_yes rfl ?_ | refine abr_yes (by decide) ?_ | refine abr_no (by decide) ?_ | with_reducible refine abr_same_ne ?_); (conv => whnf))))))
    exact aret_same (bad 1 (by unfold pushCode; rw [if_pos h0]) (by decide))
  · by_cases h1 : b.length > 1000
    · (repeat ((first | refine aload (by (repeat (first | with_reducible exact upd_same _ _ _ | assumption | rw [upd_ne _ _ (by first | assumption | (apply Ne.symm; assumption))]))) rfl ?_ | refine afit_i64 (by omega) ?_ | refine arem_nonneg (by omega) (by omega) ?_ | refine adiv_i64 (by omega) (by omega) ?_ | refine abr_yes (by omega) ?_ | refine abr_no (by omega) ?_ | refine amin ?_ | refine amax ?_ | refine afit_u64 (by omega) ?_ | refine afit_u8 (by omega) ?_ | rw [List.length_map]); ((conv => whnf); (repeat ((first | with_reducible refine abr_true rfl ?_ | with_reducible refine abr_false rfl ?_ | with_reducible refine abr_yes rfl ?_ | refine abr_yes (by decide) ?_ | refine abr_no (by decide) ?_ | with_reducible refine abr_same_ne ?_); (conv => whnf))))))
      exact aret_same (bad 2 (by unfold pushCode; rw [if_neg h0, if_pos h1]) (by decide))
    · (repeat ((first | refine aload (by (repeat (first | with_reducible exact upd_same _ _ _ | assumption | rw [upd_ne _ _ (by first | assumption | (apply Ne.symm; assumption))]))) rfl ?_ | refine afit_i64 (by omega) ?_ | refine arem_nonneg (by omega) (by omega) ?_ | refine adiv_i64 (by omega) (by omega) ?_ | refine abr_yes (by omega) ?_ | refine abr_no (by omega) ?_ | refine amin ?_ | refine amax ?_ | refine afit_u64 (by omega) ?_ | refine afit_u8 (by omega) ?_ | rw [List.length_map]); ((conv => whnf); (repeat ((first | with_reducible refine abr_true rfl ?_ | with_reducible refine abr_false rfl ?_ | with_reducible refine abr_yes rfl ?_ | refine abr_yes (by decide) ?_ | refine abr_no (by decide) ?_ | with_reducible refine abr_same_ne ?_); (conv => whnf))))))
      by_cases h2 : q.ts.length ≥ 64
      · (repeat ((first | refine aload (by (repeat (first | with_reducible exact upd_same _ _ _ | assumption | rw [upd_ne _ _ (by first | assumption | (apply Ne.symm; assumption))]))) rfl ?_ | refine afit_i64 (by omega) ?_ | refine arem_nonneg (by omega) (by omega) ?_ | refine adiv_i64 (by omega) (by omega) ?_ | refine abr_yes (by omega) ?_ | refine abr_no (by omega) ?_ | refine amin ?_ | refine amax ?_ | refine afit_u64 (by omega) ?_ | refine afit_u8 (by omega) ?_ | rw [List.length_map]); ((conv => whnf); (repeat ((first | with_reducible refine abr_true rfl ?_ | with_reducible refine abr_false rfl ?_ | with_reducible refine abr_yes rfl ?_ | refine abr_yes (by decide) ?_ | refine abr_no (by decide) ?_ | with_reducible refine abr_same_ne ?_); (conv => whnf))))))
        exact aret_same (bad 5 (by unfold pushCode; rw [if_neg h0, if_neg h1, if_pos (.inl h2)]) (by decide))
      · (repeat ((first | refine aload (by (repeat (first | with_reducible exact upd_same _ _ _ | assumption | rw [upd_ne _ _ (by first | assumption | (apply Ne.symm; assumption))]))) rfl ?_ | refine afit_i64 (by omega) ?_ | refine arem_nonneg (by omega) (by omega) ?_ | refine adiv_i64 (by omega) (by omega) ?_ | refine abr_yes (by omega) ?_ | refine abr_no (by omega) ?_ | refine amin ?_ | refine amax ?_ | refine afit_u64 (by omega) ?_ | refine afit_u8 (by omega) ?_ | rw [List.length_map]); ((conv => whnf); (repeat ((first | with_reducible refine abr_true rfl ?_ | with_reducible refine abr_false rfl ?_ | with_reducible refine abr_yes rfl ?_ | refine abr_yes (by decide) ?_ | refine abr_no (by decide) ?_ | with_reducible refine abr_same_ne ?_); (conv => whnf))))))
        by_cases h3 : (b.length : Int) > q.room - ((tot q.ts : Int) - q.taken)
        · (repeat ((first | refine aload (by (repeat (first | with_reducible exact upd_same _ _ _ | assumption | rw [upd_ne _ _ (by first | assumption | (apply Ne.symm; assumption))]))) rfl ?_ | refine afit_i64 (by omega) ?_ | refine arem_nonneg (by omega) (by omega) ?_ | refine adiv_i64 (by omega) (by omega) ?_ | refine abr_yes (by omega) ?_ | refine abr_no (by omega) ?_ | refine amin ?_ | refine amax ?_ | refine afit_u64 (by omega) ?_ | refine afit_u8 (by omega) ?_ | rw [List.length_map]); ((conv => whnf); (repeat ((first | with_reducible refine abr_true rfl ?_ | with_reducible refine abr_false rfl ?_ | with_reducible refine abr_yes rfl ?_ | refine abr_yes (by decide) ?_ | refine abr_no (by decide) ?_ | with_reducible refine abr_same_ne ?_); (conv => whnf))))))
          exact aret_same (bad 5 (by unfold pushCode; rw [if_neg h0, if_neg h1, if_pos (.inr h3)]) (by decide))
        · have hc : pushCode q b = 0 := by unfold pushCode; rw [if_neg h0, if_neg h1, if_neg (by omega)]
          (repeat ((first | refine aload (by (repeat (first | with_reducible exact upd_same _ _ _ | assumption | rw [upd_ne _ _ (by first | assumption | (apply Ne.symm; assumption))]))) rfl ?_ | refine afit_i64 (by omega) ?_ | refine arem_nonneg (by omega) (by omega) ?_ | refine adiv_i64 (by omega) (by omega) ?_ | refine abr_yes (by omega) ?_ | refine abr_no (by omega) ?_ | refine amin ?_ | refine amax ?_ | refine afit_u64 (by omega) ?_ | refine afit_u8 (by omega) ?_ | rw [List.length_map]); ((conv => whnf); (repeat ((first | with_reducible refine abr_true rfl ?_ | with_reducible refine abr_false rfl ?_ | with_reducible refine abr_yes rfl ?_ | refine abr_yes (by decide) ?_ | refine abr_no (by decide) ?_ | with_reducible refine abr_same_ne ?_); (conv => whnf))))))
          rw [show ((q.last : Nat) : Int) + 1 = ((q.last + 1 : Nat) : Int) by omega]
          refine astore (xs := [u64v (q.last + 1)]) (l := [i64v q.room, .slice 2 (τ.map txV) tk, i64v q.taken, u64v (q.last + 1), i64v ((tot q.ts : Int) - q.taken)]) (upd_same _ _ _) (Nat.le_of_ble_eq_true rfl) rfl rfl ?_
          rw [upd_upd]
          ((conv => whnf); (repeat ((first | with_reducible refine abr_true rfl ?_ | with_reducible refine abr_false rfl ?_ | with_reducible refine abr_yes rfl ?_ | refine abr_yes (by decide) ?_ | refine abr_no (by decide) ?_ | with_reducible refine abr_same_ne ?_); (conv => whnf))))
          (repeat ((first | refine aload (by (repeat (first | with_reducible exact upd_same _ _ _ | assumption | rw [upd_ne _ _ (by first | assumption | (apply Ne.symm; assumption))]))) rfl ?_ | refine afit_i64 (by omega) ?_ | refine arem_nonneg (by omega) (by omega) ?_ | refine adiv_i64 (by omega) (by omega) ?_ | refine abr_yes (by omega) ?_ | refine abr_no (by omega) ?_ | refine amin ?_ | refine amax ?_ | refine afit_u64 (by omega) ?_ | refine afit_u8 (by omega) ?_ | rw [List.length_map]); ((conv => whnf); (repeat ((first | with_reducible refine abr_true rfl ?_ | with_reducible refine abr_false rfl ?_ | with_reducible refine abr_yes rfl ?_ | refine abr_yes (by decide) ?_ | refine abr_no (by decide) ?_ | with_reducible refine abr_same_ne ?_); (conv => whnf))))))
          refine acut (by omega) (by omega) (by omega) ?_
          ((conv => whnf); (repeat ((first | with_reducible refine abr_true rfl ?_ | with_reducible refine abr_false rfl ?_ | with_reducible refine abr_yes rfl ?_ | refine abr_yes (by decide) ?_ | refine abr_no (by decide) ?_ | with_reducible refine abr_same_ne ?_); (conv => whnf))))
          refine ⟨rfl, rfl, ?_⟩
          rw [show ((τ.length : Nat) : Int).toNat = τ.length by omega, List.take_of_length_le (by simp), show (0 : Int).toNat = 0 from rfl, List.drop_zero]
          ((conv => whnf); (repeat ((first | with_reducible refine abr_true rfl ?_ | with_reducible refine abr_false rfl ?_ | with_reducible refine abr_yes rfl ?_ | refine abr_yes (by decide) ?_ | refine abr_no (by decide) ?_ | with_reducible refine abr_same_ne ?_); (conv => whnf))))
          (repeat ((first | refine aload (by (repeat (first | with_reducible exact upd_same _ _ _ | assumption | rw [upd_ne _ _ (by first | assumption | (apply Ne.symm; assumption))]))) rfl ?_ | refine afit_i64 (by omega) ?_ | refine arem_nonneg (by omega) (by omega) ?_ | refine adiv_i64 (by omega) (by omega) ?_ | refine abr_yes (by omega) ?_ | refine abr_no (by omega) ?_ | refine amin ?_ | refine amax ?_ | refine afit_u64 (by omega) ?_ | refine afit_u8 (by omega) ?_ | rw [List.length_map]); ((conv => whnf); (repeat ((first | with_reducible refine abr_true rfl ?_ | with_reducible refine abr_false rfl ?_ | with_reducible refine abr_yes rfl ?_ | refine abr_yes (by decide) ?_ | refine abr_no (by decide) ?_ | with_reducible refine abr_same_ne ?_); (conv => whnf))))))
          refine acall (Clone b _ _ (by omega)) ?_
          rintro v σ' ⟨tk3, ho, rfl⟩
          refine ⟨?_, ho.ext⟩
          ((conv => whnf); (repeat ((first | with_reducible refine abr_true rfl ?_ | with_reducible refine abr_false rfl ?_ | with_reducible refine abr_yes rfl ?_ | refine abr_yes (by decide) ?_ | refine abr_no (by decide) ?_ | with_reducible refine abr_same_ne ?_); (conv => whnf))))
          refine aapp_full (ys := [AVal.agg [u64v (q.last + 1), sl tk3 b]]) (by rw [List.length_map]; show (τ.length + 1) * 32 ≤ _; omega) fun t2 ht2 => ?_
          have hid1 := ho.same_of (upd_same σb id (.cells [i64v q.room, .slice 2 (τ.map txV) tk, i64v q.taken, u64v (q.last + 1), i64v ((tot q.ts : Int) - q.taken)]))
          have hne : id ≠ t2 := fun e => by subst e; rw [hid1] at ht2; cases ht2
          rw [show τ.map txV ++ [AVal.agg [u64v (q.last + 1), sl tk3 b]] = (τ ++ [(q.last + 1, b, tk3)]).map txV by simp]
          ((conv => whnf); (repeat ((first | with_reducible refine abr_true rfl ?_ | with_reducible refine abr_false rfl ?_ | with_reducible refine abr_yes rfl ?_ | refine abr_yes (by decide) ?_ | refine abr_no (by decide) ?_ | with_reducible refine abr_same_ne ?_); (conv => whnf))))
          refine astore (xs := [.slice 2 ((τ ++ [(q.last + 1, b, tk3)]).map txV) (.tip t2)]) (l := [i64v q.room, .slice 2 ((τ ++ [(q.last + 1, b, tk3)]).map txV) (.tip t2), i64v q.taken, u64v (q.last + 1), i64v ((tot q.ts : Int) - q.taken)]) (by rw [upd_ne _ _ hne]; exact hid1) (Nat.le_of_ble_eq_true rfl) rfl rfl ?_
          ((conv => whnf); (repeat ((first | with_reducible refine abr_true rfl ?_ | with_reducible refine abr_false rfl ?_ | with_reducible refine abr_yes rfl ?_ | refine abr_yes (by decide) ?_ | refine abr_no (by decide) ?_ | with_reducible refine abr_same_ne ?_); (conv => whnf))))
          (repeat ((first | refine aload (by (repeat (first | with_reducible exact upd_same _ _ _ | assumption | rw [upd_ne _ _ (by first | assumption | (apply Ne.symm; assumption))]))) rfl ?_ | refine afit_i64 (by omega) ?_ | refine arem_nonneg (by omega) (by omega) ?_ | refine adiv_i64 (by omega) (by omega) ?_ | refine abr_yes (by omega) ?_ | refine abr_no (by omega) ?_ | refine amin ?_ | refine amax ?_ | refine afit_u64 (by omega) ?_ | refine afit_u8 (by omega) ?_ | rw [List.length_map]); ((conv => whnf); (repeat ((first | with_reducible refine abr_true rfl ?_ | with_reducible refine abr_false rfl ?_ | with_reducible refine abr_yes rfl ?_ | refine abr_yes (by decide) ?_ | refine abr_no (by decide) ?_ | with_reducible refine abr_same_ne ?_); (conv => whnf))))))
          refine astore (xs := [i64v ((tot q.ts : Int) - q.taken + b.length)]) (l := [i64v q.room, .slice 2 ((τ ++ [(q.last + 1, b, tk3)]).map txV) (.tip t2), i64v q.taken, u64v (q.last + 1), i64v ((tot q.ts : Int) - q.taken + b.length)]) (upd_same _ _ _) (Nat.le_of_ble_eq_true rfl) rfl rfl ?_
          rw [upd_upd]
          ((conv => whnf); (repeat ((first | with_reducible refine abr_true rfl ?_ | with_reducible refine abr_false rfl ?_ | with_reducible refine abr_yes rfl ?_ | refine abr_yes (by decide) ?_ | refine abr_no (by decide) ?_ | with_reducible refine abr_same_ne ?_); (conv => whnf))))
          (repeat ((first | refine aload (by (repeat (first | with_reducible exact upd_same _ _ _ | assumption | rw [upd_ne _ _ (by first | assumption | (apply Ne.symm; assumption))]))) rfl ?_ | refine afit_i64 (by omega) ?_ | refine arem_nonneg (by omega) (by omega) ?_ | refine adiv_i64 (by omega) (by omega) ?_ | refine abr_yes (by omega) ?_ | refine abr_no (by omega) ?_ | refine amin ?_ | refine amax ?_ | refine afit_u64 (by omega) ?_ | refine afit_u8 (by omega) ?_ | rw [List.length_map]); ((conv => whnf); (repeat ((first | with_reducible refine abr_true rfl ?_ | with_reducible refine abr_false rfl ?_ | with_reducible refine abr_yes rfl ?_ | refine abr_yes (by decide) ?_ | refine abr_no (by decide) ?_ | with_reducible refine abr_same_ne ?_); (conv => whnf))))))
          have etot : (tot (q.ts ++ [(q.last + 1, b)]) : Int) - q.taken = (tot q.ts : Int) - q.taken + b.length := by
            rw [tot_append, tot_cons, tot_nil]; show ((tot q.ts + (b.length + 0) : Nat) : Int) - _ = _; omega
          have epq : pushQ q b = ⟨q.room, q.ts ++ [(q.last + 1, b)], q.taken, q.last + 1⟩ := if_pos hc
          refine aret (VLe.refl _) (σ' := upd σb id (.cells (qcells (pushQ q b) (τ ++ [(q.last + 1, b, tk3)]) (.tip t2)))) ?_ ⟨by unfold pushId; rw [if_pos hc, hc], hid, ?_, τ ++ [(q.last + 1, b, tk3)], .tip t2, ?_, rfl⟩
          · rw [epq]
            unfold qcells
            dsimp only
            rw [etot]
            exact Sub.upd ((Sub.upd_fresh _ ht2).trans (ho.sub.trans (Sub.upd_fresh _ hid))) _ _
          · rw [epq]
            refine ⟨r1, r2, by dsimp only; rw [List.length_append]; show _ + 1 ≤ 64; omega, ?_, ?_, by dsimp only; rw [etot]; omega, by dsimp only; omega⟩
            · intro t ht
              rcases List.mem_append.1 ht with h | h
              · exact hq.each t h
              · simp at h; subst h; exact ⟨by dsimp only; omega, by dsimp only; omega⟩
            · have hb := hq.begun
              dsimp only
              cases e : q.ts with
              | nil => rw [e] at hb; show q.taken < b.length; have : q.taken = 0 := hb; omega
              | cons t ts => rw [e] at hb; exact hb
          · rw [epq, List.map_append, hτ]; rfl
end Go.Proofs.Ytkdbmajkjlnpiaa

