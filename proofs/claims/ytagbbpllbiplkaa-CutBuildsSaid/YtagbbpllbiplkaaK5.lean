/-
  Texts of this claim, pack 5: Cqrp, Clists, Cqrs, Cqrt, Cqz.
-/
import Derived.Test.YtagbbpllbiplkaaK2
import Derived.Test.YtagbbpllbiplkaaK3
import Derived.Test.YtagbbpllbiplkaaK4
/-
  The document's queue and the queue's own: what ties them; plain.
-/
namespace Go.Proofs.Ytagbbpllbiplkaa
set_option linter.unusedVariables false
set_option linter.unusedSimpArgs false
open Go Go.Am

/-- A text, how much of it was taken, and whether it is gone. -/
abbrev R4 := List UInt8 × Nat × Bool
def live4 : Nat → List R4 → List (Nat × List UInt8)
  | _, [] => []
  | k, x :: R => if x.2.2 = true then live4 (k + 1) R else (k + 1, x.1) :: live4 (k + 1) R
def fst4 : List R4 → Nat
  | [] => 0
  | x :: R => if x.2.2 = true then fst4 R + 1 else 0
def Tk4 (t : Nat) : List R4 → Prop
  | [] => t = 0
  | x :: R => if x.2.2 = true then Tk4 t R else x.2.1 = t ∧ ∀ y ∈ R, y.2.2 = false → y.2.1 = 0
def byt4 : List R4 → Int
  | [] => 0
  | x :: R => if x.2.2 = true then byt4 R else (x.1.length : Int) - x.2.1 + byt4 R
theorem live_gone {k : Nat} {x : R4} {R : List R4} (h : x.2.2 = true) : live4 k (x :: R) = live4 (k + 1) R := if_pos h
theorem live_here {k : Nat} {x : R4} {R : List R4} (h : x.2.2 = false) : live4 k (x :: R) = (k + 1, x.1) :: live4 (k + 1) R := if_neg (by rw [h]; decide)
theorem fst_gone {x : R4} {R : List R4} (h : x.2.2 = true) : fst4 (x :: R) = fst4 R + 1 := if_pos h
theorem fst_here {x : R4} {R : List R4} (h : x.2.2 = false) : fst4 (x :: R) = 0 := if_neg (by rw [h]; decide)
theorem tk_gone {t : Nat} {x : R4} {R : List R4} (h : x.2.2 = true) : Tk4 t (x :: R) = Tk4 t R := if_pos h
theorem tk_here {t : Nat} {x : R4} {R : List R4} (h : x.2.2 = false) : Tk4 t (x :: R) = (x.2.1 = t ∧ ∀ y ∈ R, y.2.2 = false → y.2.1 = 0) := if_neg (by rw [h]; decide)
theorem byt_gone {x : R4} {R : List R4} (h : x.2.2 = true) : byt4 (x :: R) = byt4 R := if_pos h
theorem byt_here {x : R4} {R : List R4} (h : x.2.2 = false) : byt4 (x :: R) = (x.1.length : Int) - x.2.1 + byt4 R := if_neg (by rw [h]; decide)
theorem cases4 (x : R4) : x.2.2 = true ∨ x.2.2 = false := by cases x.2.2 <;> simp
theorem live_snoc (x : R4) : ∀ (R : List R4) (k : Nat), live4 k (R ++ [x]) = live4 k R ++ if x.2.2 = true then [] else [(k + R.length + 1, x.1)]
  | [], k => by
    show live4 k [x] = [] ++ _
    rcases cases4 x with h | h
    · rw [live_gone h, h]; rfl
    · rw [live_here h, h]; rfl
  | y :: R, k => by
    have ih := live_snoc x R (k + 1)
    rw [List.cons_append]
    have e : k + 1 + R.length + 1 = k + (y :: R).length + 1 := by rw [List.length_cons]; omega
    rw [e] at ih
    rcases cases4 y with h | h
    · rw [live_gone h, live_gone h, ih]
    · rw [live_here h, live_here h, ih]; rfl
theorem byt_snoc (x : R4) : ∀ (R : List R4), byt4 (R ++ [x]) = byt4 R + if x.2.2 = true then 0 else (x.1.length : Int) - x.2.1
  | [] => by
    show byt4 [x] = 0 + _
    rcases cases4 x with h | h
    · rw [byt_gone h, h]; rfl
    · rw [byt_here h, h]; show _ + 0 = 0 + (_ : Int); simp
  | y :: R => by
    have ih := byt_snoc x R
    rw [List.cons_append]
    rcases cases4 y with h | h
    · rw [byt_gone h, byt_gone h, ih]
    · rw [byt_here h, byt_here h, ih]; omega
theorem fst_le : ∀ R : List R4, fst4 R ≤ R.length
  | [] => Nat.le_refl _
  | y :: R => by
    have := fst_le R
    rcases cases4 y with h | h
    · rw [fst_gone h]; simpa using this
    · rw [fst_here h]; exact Nat.zero_le _
theorem fst_all : ∀ {R : List R4} {i : Nat}, i < fst4 R → ∀ h : i < R.length, R[i].2.2 = true
  | [], i, h, h2 => by simp at h2
  | y :: R, i, h, h2 => by
    rcases cases4 y with g | g
    · rw [fst_gone g] at h
      cases i with
      | zero => exact g
      | succ i => exact fst_all (R := R) (i := i) (by omega) (by simpa using h2)
    · rw [fst_here g] at h; omega
theorem fst_at : ∀ {R : List R4} (h : fst4 R < R.length), R[fst4 R].2.2 = false
  | [], h => by simp at h
  | y :: R, h => by
    rcases cases4 y with g | g
    · have e := fst_gone (R := R) g
      have : fst4 R < R.length := by rw [e] at h; simpa using h
      have ih := fst_at this
      simp only [e, List.getElem_cons_succ]; exact ih
    · have e := fst_here (R := R) g
      simp only [e, List.getElem_cons_zero]; exact g
theorem fst_is {R : List R4} {i : Nat} (hi : i < R.length) (h1 : ∀ j (h : j < R.length), j < i → R[j].2.2 = true) (h2 : R[i].2.2 = false) : fst4 R = i := by
  have h3 := fst_le R
  rcases Nat.lt_trichotomy (fst4 R) i with h | h | h
  · have := fst_at (R := R) (by omega)
    rw [h1 _ (by omega) h] at this; cases this
  · exact h
  · rw [fst_all h hi] at h2; cases h2
theorem fst_none {R : List R4} (h : ∀ j (h : j < R.length), R[j].2.2 = true) : fst4 R = R.length := by
  have h3 := fst_le R
  rcases Nat.lt_or_ge (fst4 R) R.length with h4 | h4
  · have := fst_at h4; rw [h _ h4] at this; cases this
  · omega
theorem live_none : ∀ {R : List R4} {k : Nat}, fst4 R = R.length → live4 k R = []
  | [], k, _ => rfl
  | y :: R, k, h => by
    rcases cases4 y with g | g
    · rw [fst_gone g] at h
      rw [live_gone g]; exact live_none (by simpa using h)
    · rw [fst_here g] at h; simp at h
/-- What is there, from the first one on. -/
theorem live_fst : ∀ {R : List R4} {k : Nat} (h : fst4 R < R.length), live4 k R = (k + fst4 R + 1, R[fst4 R].1) :: live4 k (R.set (fst4 R) (R[fst4 R].1, R[fst4 R].2.1, true))
  | [], k, h => by simp at h
  | y :: R, k, h => by
    rcases cases4 y with g | g
    · have e := fst_gone (R := R) g
      have h' : fst4 R < R.length := by rw [e] at h; simpa using h
      have ih := live_fst (k := k + 1) h'
      simp only [e, List.getElem_cons_succ, List.set_cons_succ]
      rw [live_gone g, live_gone g]
      rw [ih]
      congr 2; omega
    · have e := fst_here (R := R) g
      simp only [e, List.getElem_cons_zero, List.set_cons_zero]
      rw [live_here g, live_gone rfl]
theorem tk_fst : ∀ {t : Nat} {R : List R4}, Tk4 t R → (∀ h : fst4 R < R.length, R[fst4 R].2.1 = t) ∧ (fst4 R = R.length → t = 0)
  | t, [], h => ⟨fun h => by simp at h, fun _ => h⟩
  | t, y :: R, h => by
    rcases cases4 y with g | g
    · rw [tk_gone g] at h
      have e := fst_gone (R := R) g
      obtain ⟨h1, h2⟩ := tk_fst h
      refine ⟨fun h' => ?_, fun h' => h2 ?_⟩
      · simp only [e, List.getElem_cons_succ]; exact h1 (by rw [e] at h'; simpa using h')
      · rw [e] at h'; simpa using h'
    · rw [tk_here g] at h
      have e := fst_here (R := R) g
      refine ⟨fun h' => by simp only [e, List.getElem_cons_zero]; exact h.1, fun h' => ?_⟩
      rw [e] at h'; simp at h'
theorem byt_zero : ∀ {R : List R4} {k : Nat}, (∀ y ∈ R, y.2.2 = false → y.2.1 = 0) → byt4 R = tot (live4 k R)
  | [], k, _ => rfl
  | y :: R, k, h => by
    have ih := byt_zero (R := R) (k := k + 1) fun z hz => h z (List.mem_cons_of_mem _ hz)
    rcases cases4 y with g | g
    · rw [byt_gone g, live_gone g, ih]
    · rw [byt_here g, live_here g, tot_cons, ih, h y (List.mem_cons_self ..) g]; dsimp only; omega
theorem byt_tk : ∀ {t : Nat} {R : List R4} {k : Nat}, Tk4 t R → byt4 R = (tot (live4 k R) : Int) - t
  | t, [], k, h => by rw [show t = 0 from h]; rfl
  | t, y :: R, k, h => by
    rcases cases4 y with g | g
    · rw [tk_gone g] at h
      rw [byt_gone g, live_gone g]; exact byt_tk h
    · rw [tk_here g] at h
      rw [byt_here g, live_here g, tot_cons, byt_zero (k := k + 1) h.2, h.1]; dsimp only; omega
theorem live_len : ∀ {R : List R4} {k : Nat}, (live4 k R).length ≤ R.length
  | [], _ => Nat.le_refl _
  | y :: R, k => by
    have := live_len (R := R) (k := k + 1)
    rcases cases4 y with g | g
    · rw [live_gone g]; simp; omega
    · rw [live_here g]; simpa using this
/-- Where a number stands. -/
theorem pos_out : ∀ {R : List R4} {k id : Nat}, (∀ (h : k < id) (h2 : id - k - 1 < R.length), R[id - k - 1].2.2 = true) → posN id (live4 k R) = (live4 k R).length
  | [], k, id, h => rfl
  | y :: R, k, id, h => by
    have ih : posN id (live4 (k + 1) R) = (live4 (k + 1) R).length := pos_out fun h1 h2 => by
      have := h (by omega) (by rw [List.length_cons]; omega)
      simp only [show id - k - 1 = (id - (k + 1) - 1) + 1 by omega, List.getElem_cons_succ] at this
      exact this
    rcases cases4 y with g | g
    · rw [live_gone g]; exact ih
    · rw [live_here g]
      show (if k + 1 = id then 0 else posN id (live4 (k + 1) R) + 1) = _
      rw [if_neg, ih]; rfl
      intro e
      subst e
      have := h (by omega) (by simp)
      simp at this
      rw [g] at this; cases this
theorem pos_in : ∀ {R : List R4} {k i : Nat} (h : i < R.length), R[i].2.2 = false → posN (k + i + 1) (live4 k R) < (live4 k R).length ∧
    (∀ t, live4 k (R.set i (R[i].1, t, true)) = (live4 k R).eraseIdx (posN (k + i + 1) (live4 k R))) ∧ (posN (k + i + 1) (live4 k R) = 0 ↔ i = fst4 R)
  | [], k, i, h, _ => by simp at h
  | y :: R, k, 0, h, g => by
    have g : y.2.2 = false := g
    have e0 : posN (k + 0 + 1) (live4 k (y :: R)) = 0 := by rw [live_here g]; exact if_pos rfl
    refine ⟨by rw [e0, live_here g]; simp, fun t => ?_, by rw [e0, fst_here g]⟩
    rw [e0, live_here g, List.set_cons_zero, live_gone rfl]; rfl
  | y :: R, k, i + 1, h, g => by
    obtain ⟨h1, h2, h3⟩ := pos_in (R := R) (k := k + 1) (i := i) (by simpa using h) (by simpa using g)
    rw [show k + 1 + i + 1 = k + (i + 1) + 1 by omega] at h1 h2 h3
    rcases cases4 y with q | q
    · rw [live_gone q]
      refine ⟨h1, fun t => ?_, ?_⟩
      · rw [List.set_cons_succ, live_gone q]; exact h2 t
      · rw [h3, fst_gone q]; omega
    · have e : posN (k + (i + 1) + 1) (live4 k (y :: R)) = posN (k + (i + 1) + 1) (live4 (k + 1) R) + 1 := by
        rw [live_here q]; exact if_neg (by omega)
      rw [e, fst_here q]
      refine ⟨by rw [live_here q]; simpa using h1, fun t => ?_, by omega⟩
      rw [List.set_cons_succ, live_here q, live_here q, List.eraseIdx_cons_succ]
      congr 1; exact h2 t

/-- The document's queue is this one. -/
structure QR (q : QS) (R : List R4) : Prop where
  ts : live4 0 R = q.ts
  last : q.last = R.length
  tk : Tk4 q.taken R
theorem QR.bytes {q : QS} {R : List R4} (h : QR q R) : byt4 R = (tot q.ts : Int) - q.taken := by rw [byt_tk (k := 0) h.tk, h.ts]
theorem tk_snoc {b : List UInt8} : ∀ {t : Nat} {R : List R4}, Tk4 t R → Tk4 t (R ++ [(b, 0, false)])
  | t, [], h => by
    show Tk4 t [(b, 0, false)]
    rw [tk_here rfl]; exact ⟨h.symm, nofun⟩
  | t, y :: R, h => by
    rw [List.cons_append]
    rcases cases4 y with g | g
    · rw [tk_gone g] at h ⊢; exact tk_snoc h
    · rw [tk_here g] at h ⊢
      refine ⟨h.1, fun z hz hf => ?_⟩
      rcases List.mem_append.1 hz with hz | hz
      · exact h.2 z hz hf
      · rw [List.mem_singleton.1 hz]
theorem QR.push {q : QS} {R : List R4} (h : QR q R) {b : List UInt8} (hc : pushCode q b = 0) : QR (pushQ q b) (R ++ [(b, 0, false)]) := by
  have e : pushQ q b = ⟨q.room, q.ts ++ [(q.last + 1, b)], q.taken, q.last + 1⟩ := if_pos hc
  rw [e]
  refine ⟨?_, by rw [List.length_append]; show _ + 1 = _ + 1; rw [h.last], tk_snoc h.tk⟩
  rw [live_snoc, h.ts, h.last, Nat.zero_add]; rfl
theorem QR.front {q : QS} {R : List R4} (h : QR q R) : (fst4 R = R.length → q.ts = []) ∧ ∀ hf : fst4 R < R.length, ∃ ts, q.ts = (fst4 R + 1, R[fst4 R].1) :: ts ∧ q.taken = R[fst4 R].2.1 ∧ ts = live4 0 (R.set (fst4 R) (R[fst4 R].1, R[fst4 R].2.1, true)) := by
  refine ⟨fun e => by rw [← h.ts]; exact live_none e, fun hf => ⟨_, ?_, ((tk_fst h.tk).1 hf).symm, rfl⟩⟩
  rw [← h.ts, live_fst (k := 0) hf, Nat.zero_add]
theorem tk_set0 : ∀ {R : List R4} {i : Nat} {b : List UInt8} {t : Nat}, (∀ y ∈ R, y.2.2 = false → y.2.1 = 0) → ∀ y ∈ R.set i (b, t, true), y.2.2 = false → y.2.1 = 0 := by
  intro R i b t h y hy hf
  rcases List.mem_or_eq_of_mem_set hy with hy | hy
  · exact h y hy hf
  · rw [hy] at hf; cases hf
theorem tk_zero : ∀ {R : List R4}, (∀ y ∈ R, y.2.2 = false → y.2.1 = 0) → Tk4 0 R
  | [], _ => rfl
  | y :: R, h => by
    have ih := tk_zero (R := R) fun z hz => h z (List.mem_cons_of_mem _ hz)
    rcases cases4 y with g | g
    · rw [tk_gone g]; exact ih
    · rw [tk_here g]; exact ⟨h y (List.mem_cons_self ..) g, fun z hz => h z (List.mem_cons_of_mem _ hz)⟩
/-- The first one goes, or a later one does. -/
theorem tk_gofst : ∀ {t : Nat} {R : List R4} {b : List UInt8} {u : Nat}, Tk4 t R → Tk4 0 (R.set (fst4 R) (b, u, true))
  | t, [], b, u, h => rfl
  | t, y :: R, b, u, h => by
    rcases cases4 y with g | g
    · rw [tk_gone g] at h
      rw [fst_gone g, List.set_cons_succ, tk_gone g]; exact tk_gofst h
    · rw [tk_here g] at h
      rw [fst_here g, List.set_cons_zero, tk_gone rfl]; exact tk_zero h.2
theorem tk_go : ∀ {t i : Nat} {R : List R4} {b : List UInt8} {u : Nat}, i ≠ fst4 R → Tk4 t R → Tk4 t (R.set i (b, u, true))
  | t, i, [], b, u, _, h => h
  | t, i, y :: R, b, u, hi, h => by
    rcases cases4 y with g | g
    · rw [tk_gone g] at h
      cases i with
      | zero => rw [List.set_cons_zero, tk_gone rfl]; exact h
      | succ i =>
        rw [fst_gone g] at hi
        rw [List.set_cons_succ, tk_gone g]; exact tk_go (by omega) h
    · rw [tk_here g] at h
      cases i with
      | zero => exact (hi (fst_here g).symm).elim
      | succ i =>
        rw [List.set_cons_succ, tk_here g]; exact ⟨h.1, tk_set0 h.2⟩
theorem tk_more : ∀ {t : Nat} {R : List R4} {b : List UInt8} {u : Nat}, fst4 R < R.length → Tk4 t R → Tk4 u (R.set (fst4 R) (b, u, false))
  | t, [], b, u, hf, h => by simp at hf
  | t, y :: R, b, u, hf, h => by
    rcases cases4 y with g | g
    · rw [tk_gone g] at h
      rw [fst_gone g] at hf ⊢
      rw [List.set_cons_succ, tk_gone g]; exact tk_more (by simpa using hf) h
    · rw [tk_here g] at h
      rw [fst_here g, List.set_cons_zero, tk_here rfl]; exact ⟨rfl, h.2⟩
theorem live_more : ∀ {R : List R4} {k i u : Nat} (h : i < R.length), R[i].2.2 = false → live4 k (R.set i (R[i].1, u, false)) = live4 k R
  | [], k, i, u, h, _ => by simp at h
  | y :: R, k, 0, u, h, g => by
    rw [List.set_cons_zero]
    have g : y.2.2 = false := g
    rw [live_here rfl, live_here g]; rfl
  | y :: R, k, i + 1, u, h, g => by
    have ih := live_more (R := R) (k := k + 1) (i := i) (u := u) (by simpa using h) (by simpa using g)
    rw [List.set_cons_succ]
    rcases cases4 y with q | q
    · rw [live_gone q, live_gone q]; exact ih
    · rw [live_here q, live_here q]; congr 1
def takeR (R : List R4) (n : Int) : List R4 := match R[fst4 R]? with
  | none => R
  | some x => if n < 1 ∨ n > (x.1.length : Int) - x.2.1 then R else R.set (fst4 R) (x.1, x.2.1 + n.toNat, decide (n = (x.1.length : Int) - x.2.1))
theorem QR.take {q : QS} {R : List R4} (h : QR q R) (n : Int) : QR (takeQ q n) (takeR R n) := by
  obtain ⟨f1, f2⟩ := h.front
  rcases Nat.lt_or_ge (fst4 R) R.length with hf | hf
  · obtain ⟨ts, e1, e2, e3⟩ := f2 hf
    have eR : takeR R n = if n < 1 ∨ n > (R[fst4 R].1.length : Int) - R[fst4 R].2.1 then R else R.set (fst4 R) (R[fst4 R].1, R[fst4 R].2.1 + n.toNat, decide (n = (R[fst4 R].1.length : Int) - R[fst4 R].2.1)) := by
      unfold takeR; rw [List.getElem?_eq_getElem hf]
    have ec : takeCode q n = if n < 1 ∨ n > (R[fst4 R].1.length : Int) - R[fst4 R].2.1 then 1 else 0 := by unfold takeCode; rw [e1, e2]
    have eq : takeQ q n = if takeCode q n = 0 then (if n < (R[fst4 R].1.length : Int) - R[fst4 R].2.1 then ⟨q.room, q.ts, q.taken + n.toNat, q.last⟩ else ⟨q.room, ts, 0, q.last⟩) else q := by
      unfold takeQ; rw [e1, e2]
    rw [eR, eq, ec]
    by_cases hb : n < 1 ∨ n > (R[fst4 R].1.length : Int) - R[fst4 R].2.1
    · rw [if_pos hb, if_pos hb, if_neg (by decide)]; exact h
    · rw [if_neg hb, if_neg hb, if_pos rfl]
      have hat := fst_at hf
      by_cases hn : n < (R[fst4 R].1.length : Int) - R[fst4 R].2.1
      · rw [if_pos hn, decide_eq_false (by omega)]
        refine ⟨?_, by rw [List.length_set]; exact h.last, ?_⟩
        · rw [live_more hf hat]; exact h.ts
        · dsimp only; rw [e2]; exact tk_more hf h.tk
      · rw [if_neg hn, decide_eq_true (by omega)]
        refine ⟨?_, by rw [List.length_set]; exact h.last, tk_gofst h.tk⟩
        dsimp only
        rw [e3, (pos_in (k := 0) hf hat).2.1, (pos_in (k := 0) hf hat).2.1]
  · have hf2 : fst4 R = R.length := by have := fst_le R; omega
    have e0 := f1 hf2
    have eR : takeR R n = R := by unfold takeR; rw [List.getElem?_eq_none hf]
    have eq : takeQ q n = q := by unfold takeQ; rw [e0]
    rw [eR, eq]; exact h
/-- What the document says of a text that is let (repeat ((first | refine aload (by (repeat (first | with_reducible exact upd_same _ _ _ | assumption | rw [upd_ne _ _ (by first | assumption | (apply Ne.symm; assumption))]))) rfl ?_ | refine afit_i64 (by omega) ?_ | refine arem_nonneg (by omega) (by omega) ?_ | refine adiv_i64 (by omega) (by omega) ?_ | refine abr_yes (by omega) ?_ | refine abr_no (by omega) ?_ | refine amin ?_ | refine amax ?_ | refine afit_u64 (by omega) ?_ | refine afit_u8 (by omega) ?_ | rw [List.length_map]); ((conv => whnf); (repeat ((first | with_reducible (first | refine zT rfl ?_ | refine zF rfl ?_ | refine zY rfl ?_) | refine zY (by decide) ?_ | refine zN (by decide) ?_ | with_reducible refine zQ ?_); (conv => whnf)))))). -/
def discR (R : List R4) (id : Nat) : Int := if id < 1 ∨ R.length < id then 4 else match R[id - 1]? with
  | none => 4
  | some x => if x.2.2 = true then 4 else if 0 < x.2.1 then 7 else 0
def goneR (R : List R4) (i : Nat) : List R4 := match R[i]? with
  | none => R
  | some x => R.set i (x.1, x.2.1, true)
theorem tk_at : ∀ {t i : Nat} {R : List R4}, Tk4 t R → ∀ h : i < R.length, R[i].2.2 = false → R[i].2.1 = if i = fst4 R then t else 0
  | t, i, [], _, h, _ => by simp at h
  | t, i, y :: R, hk, h, hf => by
    rcases cases4 y with g | g
    · rw [tk_gone g] at hk
      cases i with
      | zero => rw [show (y :: R)[0].2.2 = y.2.2 from rfl, g] at hf; cases hf
      | succ i =>
        have := tk_at hk (by simpa using h) (by simpa using hf)
        rw [fst_gone g]
        simp only [List.getElem_cons_succ, Nat.add_right_cancel_iff]
        exact this
    · rw [tk_here g] at hk
      rw [fst_here g]
      cases i with
      | zero => exact hk.1
      | succ i =>
        rw [if_neg (by omega)]
        exact hk.2 _ (List.getElem_mem _) (by simpa using hf)
theorem QR.disc {q : QS} {R : List R4} (h : QR q R) (id : Nat) : discCode q id = discR R id ∧ QR (discQ q id) (if discR R id = 0 then goneR R (id - 1) else R) := by
  by_cases hr : id < 1 ∨ R.length < id
  · have e1 : discR R id = 4 := if_pos hr
    have e2 : posN id q.ts = q.ts.length := by rw [← h.ts]; exact pos_out fun g1 g2 => by omega
    have e3 : discCode q id = 4 := if_pos e2
    have e4 : discQ q id = q := if_neg (by rw [e3]; decide)
    rw [e1, e3, e4, if_neg (by decide)]; exact ⟨rfl, h⟩
  · have hi : id - 1 < R.length := by omega
    have eR : discR R id = if R[id - 1].2.2 = true then 4 else if 0 < R[id - 1].2.1 then 7 else 0 := by
      unfold discR; rw [if_neg hr, List.getElem?_eq_getElem hi]
    rcases cases4 R[id - 1] with g | g
    · have e2 : posN id q.ts = q.ts.length := by rw [← h.ts]; exact pos_out fun g1 g2 => by simpa using g
      have e3 : discCode q id = 4 := if_pos e2
      have e4 : discQ q id = q := if_neg (by rw [e3]; decide)
      rw [eR, if_pos g, e3, e4, if_neg (by decide)]; exact ⟨rfl, h⟩
    · obtain ⟨p1, p2, p3⟩ := pos_in (k := 0) hi g
      rw [show 0 + (id - 1) + 1 = id by omega, h.ts] at p1 p2 p3
      have ht := tk_at h.tk hi g
      have eG : goneR R (id - 1) = R.set (id - 1) (R[id - 1].1, R[id - 1].2.1, true) := by unfold goneR; rw [List.getElem?_eq_getElem hi]
      rw [eR, if_neg (by rw [g]; decide)]
      by_cases hb : 0 < R[id - 1].2.1
      · have hfirst : id - 1 = fst4 R := by
          refine Decidable.byContradiction fun hn => ?_
          rw [ht, if_neg hn] at hb; omega
        rw [if_pos hb]
        rw [ht, if_pos hfirst] at hb
        have e3 : discCode q id = 7 := by unfold discCode; rw [if_neg (by omega), if_pos ⟨p3.2 hfirst, hb⟩]
        have e4 : discQ q id = q := if_neg (by rw [e3]; decide)
        rw [e3, e4, if_neg (by decide)]; exact ⟨rfl, h⟩
      · rw [if_neg hb, if_pos rfl, eG]
        have e3 : discCode q id = 0 := by
          unfold discCode
          rw [if_neg (by omega), if_neg]
          rintro ⟨a, b⟩
          rw [p3] at a
          rw [ht, if_pos a] at hb; omega
        have e4 : discQ q id = ⟨q.room, q.ts.eraseIdx (posN id q.ts), q.taken, q.last⟩ := if_pos e3
        rw [e3, e4]
        refine ⟨rfl, p2 _, by rw [List.length_set]; exact h.last, ?_⟩
        dsimp only
        by_cases hfirst : id - 1 = fst4 R
        · rw [ht, if_pos hfirst] at hb
          have hz := tk_gofst (b := R[id - 1].1) (u := R[id - 1].2.1) h.tk
          rw [← hfirst] at hz
          rw [show q.taken = 0 by omega]; exact hz
        · exact tk_go hfirst h.tk
def clearR (R : List R4) : List R4 := R.map fun x => (x.1, x.2.1, true)
theorem live_clear : ∀ {R : List R4} {k : Nat}, live4 k (clearR R) = []
  | [], _ => rfl
  | y :: R, k => by show live4 k ((y.1, y.2.1, true) :: clearR R) = []; rw [live_gone rfl]; exact live_clear
theorem QR.clear {q : QS} {R : List R4} (h : QR q R) : QR ⟨q.room, [], 0, q.last⟩ (clearR R) := by
  refine ⟨live_clear, by unfold clearR; rw [List.length_map]; exact h.last, tk_zero fun y hy hf => ?_⟩
  obtain ⟨z, _, rfl⟩ := List.mem_map.1 hy; cases hf
end Go.Proofs.Ytagbbpllbiplkaa
/-
  Lists of byte strings.
-/
namespace Go.Proofs.Ytagbbpllbiplkaa
set_option linter.unusedVariables false
open Go Go.Am

abbrev lists (t : Tok) (l : List (List UInt8)) : AVal := .slice 1 (l.map (sl .none)) t
abbrev u16n (n : Nat) : AVal := .v (.int .u16 n)
theorem get_lists {l : List (List UInt8)} {i : Nat} (h : i < l.length) : (l.map (sl .none))[((i : Nat) : Int).toNat]? = some (sl .none l[i]) := by
  rw [Int.toNat_natCast, List.getElem?_map, List.getElem?_eq_getElem h]; rfl
theorem get_u16n {l : List Nat} {i : Nat} (h : i < l.length) : (l.map u16n)[((i : Nat) : Int).toNat]? = some (u16n l[i]) := by
  rw [Int.toNat_natCast, List.getElem?_map, List.getElem?_eq_getElem h]; rfl

/-- How many bytes all are. -/
def total (l : List (List UInt8)) : Nat := l.flatten.length
theorem total_nil : total [] = 0 := rfl
theorem total_cons (a : List UInt8) (l : List (List UInt8)) : total (a :: l) = a.length + total l := by unfold total; simp
theorem total_append (a b : List (List UInt8)) : total (a ++ b) = total a + total b := by unfold total; simp
theorem total_take_succ (l : List (List UInt8)) (i : Nat) (h : i < l.length) : total (l.take (i + 1)) = total (l.take i) + l[i].length := by
  rw [List.take_add_one, List.getElem?_eq_getElem h, total_append]; unfold total; simp
theorem total_take_le (l : List (List UInt8)) (i : Nat) : total (l.take i) ≤ total l := by
  have := total_append (l.take i) (l.drop i)
  rw [List.take_append_drop] at this
  omega
theorem total_get {l : List (List UInt8)} {i : Nat} (h : i < l.length) : l[i].length ≤ total l := by
  have h1 := total_take_succ l i h
  have h2 := total_take_le l (i + 1)
  omega
end Go.Proofs.Ytagbbpllbiplkaa
/-
  The document's queue: what its functions tell.
-/
namespace Go.Proofs.Ytagbbpllbiplkaa
set_option linter.unusedVariables false
set_option linter.unusedSimpArgs false
open Go Go.Am

theorem VLe.tup_sl2 {x : AVal} {s : Nat} {xs : List AVal} {t : Tok} {ys : List AVal} : VLe (.tup (x :: .slice s xs t :: ys)) (.tup (x :: .slice s xs .none :: ys)) := VLe.tup (VLe.cons (VLe.refl _) (VLe.cons (VLe.slice _ _ _) fun _ _ h => h))
abbrev TkB := Tok × List UInt8
abbrev slT (x : TkB) : AVal := sl x.1 x.2
abbrev tkv (x : R4) : AVal := i64v x.2.1
abbrev gnv (x : R4) : AVal := boolv x.2.2
abbrev z4 (room : Int) : List AVal := [i64v room, .slice 1 [] .full, .slice 1 [] .full, .slice 1 [] .full]
abbrev qc4 (room : Int) (ls : List TkB) (tl : Tok) (r1 r2 n : Nat) : List AVal := [i64v room, .slice 1 (ls.map slT) tl, .ms r1 1 0 n, .ms r2 1 0 n]
/-- What the document's queue is in memory. -/
inductive RQ (room : Int) : List R4 → List AVal → List HE → Prop
  | nil : RQ room [] (z4 room) []
  | row (R : List R4) (ls : List TkB) (tl : Tok) (r1 r2 : Nat) : R ≠ [] → ls.map (·.2) = R.map (·.1) →
      RQ room R (qc4 room ls tl r1 r2 R.length) [.t tl, .o r1 (.cells (R.map tkv)), .o r2 (.cells (R.map gnv))]
inductive RF (σ : AHeap) (room : Int) : List R4 → List AVal → Prop
  | nil : RF σ room [] (z4 room)
  | row (R : List R4) (ls : List TkB) (tl : Tok) (r1 r2 : Nat) : R ≠ [] → ls.map (·.2) = R.map (·.1) → σ r1 = some (.cells (R.map tkv)) → σ r2 = some (.cells (R.map gnv)) → RF σ room R (qc4 room ls tl r1 r2 R.length)
theorem RQ.rf {σb σ : AHeap} {room : Int} {R : List R4} {cs : List AVal} {E F : List HE} {x : HE} (h : RQ room R cs E) (H : Hp σb (x :: (E ++ F)) σ) : RF σ room R cs := by
  cases h with
  | nil => exact .nil
  | row R ls tl r1 r2 h1 h2 => exact .row R ls tl r1 r2 h1 h2 (H.ok (.o r1 (.cells (R.map tkv))) (by simp)) (H.ok (.o r2 (.cells (R.map gnv))) (by simp))
theorem tk_cell {R : List R4} {i : Nat} (h : i < R.length) : (R.map tkv)[0 + ((i : Nat) : Int).toNat * 1]? = some (i64v R[i].2.1) := by
  rw [Int.toNat_natCast, Nat.mul_one, Nat.zero_add, List.getElem?_map, List.getElem?_eq_getElem h]; rfl
theorem gn_cell {R : List R4} {i : Nat} {b : Bool} (h : i < R.length) (e : R[i].2.2 = b) : (R.map gnv)[0 + ((i : Nat) : Int).toNat * 1]? = some (boolv b) := by
  rw [Int.toNat_natCast, Nat.mul_one, Nat.zero_add, List.getElem?_map, List.getElem?_eq_getElem h, ← e]; rfl
theorem ls_get {R : List R4} {ls : List TkB} (e : ls.map (·.2) = R.map (·.1)) {i : Nat} (h : i < R.length) : ∃ t, (ls.map slT)[((i : Nat) : Int).toNat]? = some (sl t R[i].1) := by
  have hl : ls.length = R.length := by rw [← List.length_map (f := fun x : TkB => x.2), e, List.length_map]
  have h2 : i < ls.length := by omega
  have e2 : (ls.map (·.2))[i]? = (R.map (·.1))[i]? := by rw [e]
  rw [List.getElem?_map, List.getElem?_map, List.getElem?_eq_getElem h2, List.getElem?_eq_getElem h] at e2
  refine ⟨ls[i].1, ?_⟩
  rw [Int.toNat_natCast, List.getElem?_map, List.getElem?_eq_getElem h2]
  simp at e2
  show some (sl ls[i].1 ls[i].2) = _
  rw [e2]
theorem ls_len {R : List R4} {ls : List TkB} (e : ls.map (·.2) = R.map (·.1)) : ls.length = R.length := by rw [← List.length_map (f := fun x : TkB => x.2), e, List.length_map]
theorem take4 {R : List R4} {i : Nat} (h : i < R.length) : R.take (i + 1) = R.take i ++ [R[i]] := by rw [List.take_add_one, List.getElem?_eq_getElem h]; rfl
theorem take4_len {R : List R4} {i : Nat} (h : i ≤ R.length) : (R.take i).length = i := by rw [List.length_take]; omega
section
variable {σ : AHeap} {ix : Nat} {room : Int} {R : List R4} {cs : List AVal}
theorem rIDs04 (b1 : σ ix = some (.cells cs)) (hf : RF σ room R cs) (hR : R.length ≤ 1000000) : ACalls Try.prog i_bowlineref04_Queue_IDs [.ptr ix 0] σ fun v σ' => v = u64s .none (idsL (live4 0 R)) ∧ σ' = σ := by
  refine k_bowlineref04_Queue_IDs rfl ?_
  have H := Hp.nil σ
  ((conv => whnf); (repeat ((first | with_reducible (first | refine zT rfl ?_ | refine zF rfl ?_ | refine zY rfl ?_) | refine zY (by decide) ?_ | refine zN (by decide) ?_ | with_reducible refine zQ ?_); (conv => whnf))))
  cases hf with
  | nil =>
    refine aloop (α := Unit) (fun _ => [(s3, .slice 1 [] .full), (s4, i64v 0)]) (fun _ => σ) (fun _ => True) (fun _ => 0) () trivial (Sub.refl _) ?_ ?_
    · ((conv => whnf); (repeat ((first | with_reducible (first | refine zT rfl ?_ | refine zF rfl ?_ | refine zY rfl ?_) | refine zY (by decide) ?_ | refine zN (by decide) ?_ | with_reducible refine zQ ?_); (conv => whnf))))
      (repeat' first | with_reducible exact EnvLe.refl _ | (refine EnvLe.node ?_ (by first | exact Or.inl rfl | exact Or.inr (Or.inl rfl) | exact Or.inr (Or.inr ⟨nofun, VLe.slice _ _ _⟩)) ?_))
    rintro _ _
    ((conv => whnf); (repeat ((first | with_reducible (first | refine zT rfl ?_ | refine zF rfl ?_ | refine zY rfl ?_) | refine zY (by decide) ?_ | refine zN (by decide) ?_ | with_reducible refine zQ ?_); (conv => whnf))))
    (repeat ((first | refine zI (by omega) ?_ | refine zE (by omega) (by omega) ?_ | refine zD (by omega) (by omega) ?_ | refine zY (by omega) ?_ | refine zN (by omega) ?_ | refine amin ?_ | refine amax ?_ | refine zU (by omega) ?_ | refine z8 (by omega) ?_ | refine zX (by omega) (by omega) ?_ | refine zR rfl ?_ | refine acellA ?_ | refine zB H b1 rfl ?_ | refine zC H b1 ?_ | refine zB H b2 rfl ?_ | refine zC H b2 ?_ | refine zB H b3 rfl ?_ | refine zC H b3 ?_ | refine zB H b4 rfl ?_ | refine zC H b4 ?_ | (apply zL H; (· repeat first | exact .h | apply AtK.t); (· rfl)) | (apply zA H; (· repeat first | exact .h | apply AtK.t)) | (apply zS H; (· repeat first | exact .h | apply AtK.t); (· rfl); (conv => whnf); clear H; intro τ H) | rw [List.length_map]); ((conv => whnf); (repeat ((first | with_reducible (first | refine zT rfl ?_ | refine zF rfl ?_ | refine zY rfl ?_) | refine zY (by decide) ?_ | refine zN (by decide) ?_ | with_reducible refine zQ ?_); (conv => whnf))))))
    exact aret (VLe.slice _ _ _) (Sub.refl _) ⟨rfl, rfl⟩
  | row R ls tl r1 r2 h1 h2 b2 b3 =>
    have hl := ls_len h2
    refine aloop (α := Nat × Tok × AHeap) (fun y => [(s3, u64s y.2.1 (idsL (live4 0 (R.take y.1)))), (s4, i64v y.1)]) (fun y => y.2.2) (fun y => y.1 ≤ R.length ∧ Hp σ [.t y.2.1] y.2.2) (fun y => R.length - y.1) (0, .full, σ) ⟨Nat.zero_le _, H.cons_full⟩ (Sub.refl _) ?_ ?_
    · ((conv => whnf); (repeat ((first | with_reducible (first | refine zT rfl ?_ | refine zF rfl ?_ | refine zY rfl ?_) | refine zY (by decide) ?_ | refine zN (by decide) ?_ | with_reducible refine zQ ?_); (conv => whnf))))
      (repeat' first | with_reducible exact EnvLe.refl _ | (refine EnvLe.node ?_ (by first | exact Or.inl rfl | exact Or.inr (Or.inl rfl) | exact Or.inr (Or.inr ⟨nofun, VLe.slice _ _ _⟩)) ?_))
    clear H
    rintro ⟨i, tk, τ⟩ ⟨hi, H⟩
    dsimp only at hi H ⊢
    ((conv => whnf); (repeat ((first | with_reducible (first | refine zT rfl ?_ | refine zF rfl ?_ | refine zY rfl ?_) | refine zY (by decide) ?_ | refine zN (by decide) ?_ | with_reducible refine zQ ?_); (conv => whnf))))
    (repeat ((first | refine zI (by omega) ?_ | refine zE (by omega) (by omega) ?_ | refine zD (by omega) (by omega) ?_ | refine zY (by omega) ?_ | refine zN (by omega) ?_ | refine amin ?_ | refine amax ?_ | refine zU (by omega) ?_ | refine z8 (by omega) ?_ | refine zX (by omega) (by omega) ?_ | refine zR rfl ?_ | refine acellA ?_ | refine zB H b1 rfl ?_ | refine zC H b1 ?_ | refine zB H b2 rfl ?_ | refine zC H b2 ?_ | refine zB H b3 rfl ?_ | refine zC H b3 ?_ | refine zB H b4 rfl ?_ | refine zC H b4 ?_ | (apply zL H; (· repeat first | exact .h | apply AtK.t); (· rfl)) | (apply zA H; (· repeat first | exact .h | apply AtK.t)) | (apply zS H; (· repeat first | exact .h | apply AtK.t); (· rfl); (conv => whnf); clear H; intro τ H) | rw [List.length_map]); ((conv => whnf); (repeat ((first | with_reducible (first | refine zT rfl ?_ | refine zF rfl ?_ | refine zY rfl ?_) | refine zY (by decide) ?_ | refine zN (by decide) ?_ | with_reducible refine zQ ?_); (conv => whnf))))))
    by_cases h : i < R.length
    · refine abr_yes (by omega) ?_
      ((conv => whnf); (repeat ((first | with_reducible (first | refine zT rfl ?_ | refine zF rfl ?_ | refine zY rfl ?_) | refine zY (by decide) ?_ | refine zN (by decide) ?_ | with_reducible refine zQ ?_); (conv => whnf))))
      (repeat ((first | refine zI (by omega) ?_ | refine zE (by omega) (by omega) ?_ | refine zD (by omega) (by omega) ?_ | refine zY (by omega) ?_ | refine zN (by omega) ?_ | refine amin ?_ | refine amax ?_ | refine zU (by omega) ?_ | refine z8 (by omega) ?_ | refine zX (by omega) (by omega) ?_ | refine zR rfl ?_ | refine acellA ?_ | refine zB H b1 rfl ?_ | refine zC H b1 ?_ | refine zB H b2 rfl ?_ | refine zC H b2 ?_ | refine zB H b3 rfl ?_ | refine zC H b3 ?_ | refine zB H b4 rfl ?_ | refine zC H b4 ?_ | (apply zL H; (· repeat first | exact .h | apply AtK.t); (· rfl)) | (apply zA H; (· repeat first | exact .h | apply AtK.t)) | (apply zS H; (· repeat first | exact .h | apply AtK.t); (· rfl); (conv => whnf); clear H; intro τ H) | rw [List.length_map]); ((conv => whnf); (repeat ((first | with_reducible (first | refine zT rfl ?_ | refine zF rfl ?_ | refine zY rfl ?_) | refine zY (by decide) ?_ | refine zN (by decide) ?_ | with_reducible refine zQ ?_); (conv => whnf))))))
      rcases cases4 R[i] with g | g
      · refine aload (H.sub _ _ b3) (gn_cell h g) ?_
        ((conv => whnf); (repeat ((first | with_reducible (first | refine zT rfl ?_ | refine zF rfl ?_ | refine zY rfl ?_) | refine zY (by decide) ?_ | refine zN (by decide) ?_ | with_reducible refine zQ ?_); (conv => whnf))))
        (repeat ((first | refine zI (by omega) ?_ | refine zE (by omega) (by omega) ?_ | refine zD (by omega) (by omega) ?_ | refine zY (by omega) ?_ | refine zN (by omega) ?_ | refine amin ?_ | refine amax ?_ | refine zU (by omega) ?_ | refine z8 (by omega) ?_ | refine zX (by omega) (by omega) ?_ | refine zR rfl ?_ | refine acellA ?_ | refine zB H b1 rfl ?_ | refine zC H b1 ?_ | refine zB H b2 rfl ?_ | refine zC H b2 ?_ | refine zB H b3 rfl ?_ | refine zC H b3 ?_ | refine zB H b4 rfl ?_ | refine zC H b4 ?_ | (apply zL H; (· repeat first | exact .h | apply AtK.t); (· rfl)) | (apply zA H; (· repeat first | exact .h | apply AtK.t)) | (apply zS H; (· repeat first | exact .h | apply AtK.t); (· rfl); (conv => whnf); clear H; intro τ H) | rw [List.length_map]); ((conv => whnf); (repeat ((first | with_reducible (first | refine zT rfl ?_ | refine zF rfl ?_ | refine zY rfl ?_) | refine zY (by decide) ?_ | refine zN (by decide) ?_ | with_reducible refine zQ ?_); (conv => whnf))))))
        refine ⟨(i + 1, tk, τ), ⟨h, H⟩, by dsimp only; omega, Sub.refl _, ?_⟩
        dsimp only
        rw [take4 h, live_snoc, g, if_pos rfl, List.append_nil]
        ((conv => whnf); (repeat ((first | with_reducible (first | refine zT rfl ?_ | refine zF rfl ?_ | refine zY rfl ?_) | refine zY (by decide) ?_ | refine zN (by decide) ?_ | with_reducible refine zQ ?_); (conv => whnf))))
        (repeat' first | with_reducible exact EnvLe.refl _ | (refine EnvLe.node ?_ (by first | exact Or.inl rfl | exact Or.inr (Or.inl rfl) | exact Or.inr (Or.inr ⟨nofun, VLe.slice _ _ _⟩)) ?_))
      · refine aload (H.sub _ _ b3) (gn_cell h g) ?_
        ((conv => whnf); (repeat ((first | with_reducible (first | refine zT rfl ?_ | refine zF rfl ?_ | refine zY rfl ?_) | refine zY (by decide) ?_ | refine zN (by decide) ?_ | with_reducible refine zQ ?_); (conv => whnf))))
        (repeat ((first | refine zI (by omega) ?_ | refine zE (by omega) (by omega) ?_ | refine zD (by omega) (by omega) ?_ | refine zY (by omega) ?_ | refine zN (by omega) ?_ | refine amin ?_ | refine amax ?_ | refine zU (by omega) ?_ | refine z8 (by omega) ?_ | refine zX (by omega) (by omega) ?_ | refine zR rfl ?_ | refine acellA ?_ | refine zB H b1 rfl ?_ | refine zC H b1 ?_ | refine zB H b2 rfl ?_ | refine zC H b2 ?_ | refine zB H b3 rfl ?_ | refine zC H b3 ?_ | refine zB H b4 rfl ?_ | refine zC H b4 ?_ | (apply zL H; (· repeat first | exact .h | apply AtK.t); (· rfl)) | (apply zA H; (· repeat first | exact .h | apply AtK.t)) | (apply zS H; (· repeat first | exact .h | apply AtK.t); (· rfl); (conv => whnf); clear H; intro τ H) | rw [List.length_map]); ((conv => whnf); (repeat ((first | with_reducible (first | refine zT rfl ?_ | refine zF rfl ?_ | refine zY rfl ?_) | refine zY (by decide) ?_ | refine zN (by decide) ?_ | with_reducible refine zQ ?_); (conv => whnf))))))
        have hll := live_len (R := R.take i) (k := 0)
        rw [take4_len hi] at hll
        apply zP H
        · (repeat first | exact .h | apply AtK.t)
        · exact (by unfold idsL; rw [List.length_map, List.length_map]; show (_ + 1) * 8 ≤ _; omega)
        intro tk2
        (conv => whnf)
        clear H
        intro τ H
        ((conv => whnf); (repeat ((first | with_reducible (first | refine zT rfl ?_ | refine zF rfl ?_ | refine zY rfl ?_) | refine zY (by decide) ?_ | refine zN (by decide) ?_ | with_reducible refine zQ ?_); (conv => whnf))))
        (repeat ((first | refine zI (by omega) ?_ | refine zE (by omega) (by omega) ?_ | refine zD (by omega) (by omega) ?_ | refine zY (by omega) ?_ | refine zN (by omega) ?_ | refine amin ?_ | refine amax ?_ | refine zU (by omega) ?_ | refine z8 (by omega) ?_ | refine zX (by omega) (by omega) ?_ | refine zR rfl ?_ | refine acellA ?_ | refine zB H b1 rfl ?_ | refine zC H b1 ?_ | refine zB H b2 rfl ?_ | refine zC H b2 ?_ | refine zB H b3 rfl ?_ | refine zC H b3 ?_ | refine zB H b4 rfl ?_ | refine zC H b4 ?_ | (apply zL H; (· repeat first | exact .h | apply AtK.t); (· rfl)) | (apply zA H; (· repeat first | exact .h | apply AtK.t)) | (apply zS H; (· repeat first | exact .h | apply AtK.t); (· rfl); (conv => whnf); clear H; intro τ H) | rw [List.length_map]); ((conv => whnf); (repeat ((first | with_reducible (first | refine zT rfl ?_ | refine zF rfl ?_ | refine zY rfl ?_) | refine zY (by decide) ?_ | refine zN (by decide) ?_ | with_reducible refine zQ ?_); (conv => whnf))))))
        refine ⟨(i + 1, tk2, τ), ⟨h, H⟩, by dsimp only; omega, Sub.refl _, ?_⟩
        dsimp only
        rw [take4 h, live_snoc, g, take4_len hi, show 0 + i + 1 = i + 1 by omega]
        have e : u64s tk2 (idsL (live4 0 (R.take i) ++ if false = true then [] else [(i + 1, R[i].1)])) = .slice 1 ((idsL (live4 0 (R.take i))).map u64v ++ [.v (.int .u64 ((i : Int) + 1))]) tk2 := by
          rw [if_neg (by decide)]; unfold idsL u64s; rw [List.map_append, List.map_append]; rfl
        rw [e]
        ((conv => whnf); (repeat ((first | with_reducible (first | refine zT rfl ?_ | refine zF rfl ?_ | refine zY rfl ?_) | refine zY (by decide) ?_ | refine zN (by decide) ?_ | with_reducible refine zQ ?_); (conv => whnf))))
        (repeat' first | with_reducible exact EnvLe.refl _ | (refine EnvLe.node ?_ (by first | exact Or.inl rfl | exact Or.inr (Or.inl rfl) | exact Or.inr (Or.inr ⟨nofun, VLe.slice _ _ _⟩)) ?_))
    · refine abr_no (by omega) ?_
      rw [List.take_of_length_le (by omega)]
      ((conv => whnf); (repeat ((first | with_reducible (first | refine zT rfl ?_ | refine zF rfl ?_ | refine zY rfl ?_) | refine zY (by decide) ?_ | refine zN (by decide) ?_ | with_reducible refine zQ ?_); (conv => whnf))))
      exact aret (VLe.slice _ _ _) H.sub ⟨rfl, rfl⟩
theorem rBytes04 (b1 : σ ix = some (.cells cs)) (hf : RF σ room R cs) (hR : R.length ≤ 1000000) (hs : ∀ x ∈ R, x.1.length ≤ 1000 ∧ x.2.1 ≤ x.1.length) : ACalls Try.prog i_bowlineref04_Queue_Bytes [.ptr ix 0] σ fun v σ' => v = i64v (byt4 R) ∧ σ' = σ := by
  refine k_bowlineref04_Queue_Bytes rfl ?_
  have H := Hp.nil σ
  ((conv => whnf); (repeat ((first | with_reducible (first | refine zT rfl ?_ | refine zF rfl ?_ | refine zY rfl ?_) | refine zY (by decide) ?_ | refine zN (by decide) ?_ | with_reducible refine zQ ?_); (conv => whnf))))
  cases hf with
  | nil =>
    refine aloop (α := Unit) (fun _ => [(s3, i64v 0), (s4, i64v 0)]) (fun _ => σ) (fun _ => True) (fun _ => 0) () trivial (Sub.refl _) ?_ ?_
    · ((conv => whnf); (repeat ((first | with_reducible (first | refine zT rfl ?_ | refine zF rfl ?_ | refine zY rfl ?_) | refine zY (by decide) ?_ | refine zN (by decide) ?_ | with_reducible refine zQ ?_); (conv => whnf))))
      (repeat' first | with_reducible exact EnvLe.refl _ | (refine EnvLe.node ?_ (by first | exact Or.inl rfl | exact Or.inr (Or.inl rfl) | exact Or.inr (Or.inr ⟨nofun, VLe.slice _ _ _⟩)) ?_))
    rintro _ _
    ((conv => whnf); (repeat ((first | with_reducible (first | refine zT rfl ?_ | refine zF rfl ?_ | refine zY rfl ?_) | refine zY (by decide) ?_ | refine zN (by decide) ?_ | with_reducible refine zQ ?_); (conv => whnf))))
    (repeat ((first | refine zI (by omega) ?_ | refine zE (by omega) (by omega) ?_ | refine zD (by omega) (by omega) ?_ | refine zY (by omega) ?_ | refine zN (by omega) ?_ | refine amin ?_ | refine amax ?_ | refine zU (by omega) ?_ | refine z8 (by omega) ?_ | refine zX (by omega) (by omega) ?_ | refine zR rfl ?_ | refine acellA ?_ | refine zB H b1 rfl ?_ | refine zC H b1 ?_ | refine zB H b2 rfl ?_ | refine zC H b2 ?_ | refine zB H b3 rfl ?_ | refine zC H b3 ?_ | refine zB H b4 rfl ?_ | refine zC H b4 ?_ | (apply zL H; (· repeat first | exact .h | apply AtK.t); (· rfl)) | (apply zA H; (· repeat first | exact .h | apply AtK.t)) | (apply zS H; (· repeat first | exact .h | apply AtK.t); (· rfl); (conv => whnf); clear H; intro τ H) | rw [List.length_map]); ((conv => whnf); (repeat ((first | with_reducible (first | refine zT rfl ?_ | refine zF rfl ?_ | refine zY rfl ?_) | refine zY (by decide) ?_ | refine zN (by decide) ?_ | with_reducible refine zQ ?_); (conv => whnf))))))
    exact aret_same ⟨rfl, rfl⟩
  | row R ls tl r1 r2 h1 h2 b2 b3 =>
    have hl := ls_len h2
    refine aloop (α := Nat) (fun i => [(s3, i64v (byt4 (R.take i))), (s4, i64v i)]) (fun _ => σ) (fun i => i ≤ R.length ∧ 0 ≤ byt4 (R.take i) ∧ byt4 (R.take i) ≤ 1000 * i) (fun i => R.length - i) 0 ⟨Nat.zero_le _, Int.le_refl _, Int.le_refl _⟩ (Sub.refl _) ?_ ?_
    · ((conv => whnf); (repeat ((first | with_reducible (first | refine zT rfl ?_ | refine zF rfl ?_ | refine zY rfl ?_) | refine zY (by decide) ?_ | refine zN (by decide) ?_ | with_reducible refine zQ ?_); (conv => whnf))))
      (repeat' first | with_reducible exact EnvLe.refl _ | (refine EnvLe.node ?_ (by first | exact Or.inl rfl | exact Or.inr (Or.inl rfl) | exact Or.inr (Or.inr ⟨nofun, VLe.slice _ _ _⟩)) ?_))
    rintro i ⟨hi, hb1, hb2⟩
    ((conv => whnf); (repeat ((first | with_reducible (first | refine zT rfl ?_ | refine zF rfl ?_ | refine zY rfl ?_) | refine zY (by decide) ?_ | refine zN (by decide) ?_ | with_reducible refine zQ ?_); (conv => whnf))))
    (repeat ((first | refine zI (by omega) ?_ | refine zE (by omega) (by omega) ?_ | refine zD (by omega) (by omega) ?_ | refine zY (by omega) ?_ | refine zN (by omega) ?_ | refine amin ?_ | refine amax ?_ | refine zU (by omega) ?_ | refine z8 (by omega) ?_ | refine zX (by omega) (by omega) ?_ | refine zR rfl ?_ | refine acellA ?_ | refine zB H b1 rfl ?_ | refine zC H b1 ?_ | refine zB H b2 rfl ?_ | refine zC H b2 ?_ | refine zB H b3 rfl ?_ | refine zC H b3 ?_ | refine zB H b4 rfl ?_ | refine zC H b4 ?_ | (apply zL H; (· repeat first | exact .h | apply AtK.t); (· rfl)) | (apply zA H; (· repeat first | exact .h | apply AtK.t)) | (apply zS H; (· repeat first | exact .h | apply AtK.t); (· rfl); (conv => whnf); clear H; intro τ H) | rw [List.length_map]); ((conv => whnf); (repeat ((first | with_reducible (first | refine zT rfl ?_ | refine zF rfl ?_ | refine zY rfl ?_) | refine zY (by decide) ?_ | refine zN (by decide) ?_ | with_reducible refine zQ ?_); (conv => whnf))))))
    by_cases h : i < R.length
    · have hx := hs _ (List.getElem_mem h)
      refine abr_yes (by omega) ?_
      ((conv => whnf); (repeat ((first | with_reducible (first | refine zT rfl ?_ | refine zF rfl ?_ | refine zY rfl ?_) | refine zY (by decide) ?_ | refine zN (by decide) ?_ | with_reducible refine zQ ?_); (conv => whnf))))
      (repeat ((first | refine zI (by omega) ?_ | refine zE (by omega) (by omega) ?_ | refine zD (by omega) (by omega) ?_ | refine zY (by omega) ?_ | refine zN (by omega) ?_ | refine amin ?_ | refine amax ?_ | refine zU (by omega) ?_ | refine z8 (by omega) ?_ | refine zX (by omega) (by omega) ?_ | refine zR rfl ?_ | refine acellA ?_ | refine zB H b1 rfl ?_ | refine zC H b1 ?_ | refine zB H b2 rfl ?_ | refine zC H b2 ?_ | refine zB H b3 rfl ?_ | refine zC H b3 ?_ | refine zB H b4 rfl ?_ | refine zC H b4 ?_ | (apply zL H; (· repeat first | exact .h | apply AtK.t); (· rfl)) | (apply zA H; (· repeat first | exact .h | apply AtK.t)) | (apply zS H; (· repeat first | exact .h | apply AtK.t); (· rfl); (conv => whnf); clear H; intro τ H) | rw [List.length_map]); ((conv => whnf); (repeat ((first | with_reducible (first | refine zT rfl ?_ | refine zF rfl ?_ | refine zY rfl ?_) | refine zY (by decide) ?_ | refine zN (by decide) ?_ | with_reducible refine zQ ?_); (conv => whnf))))))
      rcases cases4 R[i] with g | g
      · refine aload b3 (gn_cell h g) ?_
        ((conv => whnf); (repeat ((first | with_reducible (first | refine zT rfl ?_ | refine zF rfl ?_ | refine zY rfl ?_) | refine zY (by decide) ?_ | refine zN (by decide) ?_ | with_reducible refine zQ ?_); (conv => whnf))))
        (repeat ((first | refine zI (by omega) ?_ | refine zE (by omega) (by omega) ?_ | refine zD (by omega) (by omega) ?_ | refine zY (by omega) ?_ | refine zN (by omega) ?_ | refine amin ?_ | refine amax ?_ | refine zU (by omega) ?_ | refine z8 (by omega) ?_ | refine zX (by omega) (by omega) ?_ | refine zR rfl ?_ | refine acellA ?_ | refine zB H b1 rfl ?_ | refine zC H b1 ?_ | refine zB H b2 rfl ?_ | refine zC H b2 ?_ | refine zB H b3 rfl ?_ | refine zC H b3 ?_ | refine zB H b4 rfl ?_ | refine zC H b4 ?_ | (apply zL H; (· repeat first | exact .h | apply AtK.t); (· rfl)) | (apply zA H; (· repeat first | exact .h | apply AtK.t)) | (apply zS H; (· repeat first | exact .h | apply AtK.t); (· rfl); (conv => whnf); clear H; intro τ H) | rw [List.length_map]); ((conv => whnf); (repeat ((first | with_reducible (first | refine zT rfl ?_ | refine zF rfl ?_ | refine zY rfl ?_) | refine zY (by decide) ?_ | refine zN (by decide) ?_ | with_reducible refine zQ ?_); (conv => whnf))))))
        refine ⟨i + 1, ?_, by omega, Sub.refl _, ?_⟩
        · rw [take4 h, byt_snoc, g, if_pos rfl]; omega
        rw [take4 h, byt_snoc, g, if_pos rfl, Int.add_zero]
        ((conv => whnf); (repeat ((first | with_reducible (first | refine zT rfl ?_ | refine zF rfl ?_ | refine zY rfl ?_) | refine zY (by decide) ?_ | refine zN (by decide) ?_ | with_reducible refine zQ ?_); (conv => whnf))))
        (repeat' first | with_reducible exact EnvLe.refl _ | (refine EnvLe.node ?_ (by first | exact Or.inl rfl | exact Or.inr (Or.inl rfl) | exact Or.inr (Or.inr ⟨nofun, VLe.slice _ _ _⟩)) ?_))
      · refine aload b3 (gn_cell h g) ?_
        ((conv => whnf); (repeat ((first | with_reducible (first | refine zT rfl ?_ | refine zF rfl ?_ | refine zY rfl ?_) | refine zY (by decide) ?_ | refine zN (by decide) ?_ | with_reducible refine zQ ?_); (conv => whnf))))
        (repeat ((first | refine zI (by omega) ?_ | refine zE (by omega) (by omega) ?_ | refine zD (by omega) (by omega) ?_ | refine zY (by omega) ?_ | refine zN (by omega) ?_ | refine amin ?_ | refine amax ?_ | refine zU (by omega) ?_ | refine z8 (by omega) ?_ | refine zX (by omega) (by omega) ?_ | refine zR rfl ?_ | refine acellA ?_ | refine zB H b1 rfl ?_ | refine zC H b1 ?_ | refine zB H b2 rfl ?_ | refine zC H b2 ?_ | refine zB H b3 rfl ?_ | refine zC H b3 ?_ | refine zB H b4 rfl ?_ | refine zC H b4 ?_ | (apply zL H; (· repeat first | exact .h | apply AtK.t); (· rfl)) | (apply zA H; (· repeat first | exact .h | apply AtK.t)) | (apply zS H; (· repeat first | exact .h | apply AtK.t); (· rfl); (conv => whnf); clear H; intro τ H) | rw [List.length_map]); ((conv => whnf); (repeat ((first | with_reducible (first | refine zT rfl ?_ | refine zF rfl ?_ | refine zY rfl ?_) | refine zY (by decide) ?_ | refine zN (by decide) ?_ | with_reducible refine zQ ?_); (conv => whnf))))))
        obtain ⟨t, ht⟩ := ls_get h2 h
        refine aget (by omega) ht ?_
        ((conv => whnf); (repeat ((first | with_reducible (first | refine zT rfl ?_ | refine zF rfl ?_ | refine zY rfl ?_) | refine zY (by decide) ?_ | refine zN (by decide) ?_ | with_reducible refine zQ ?_); (conv => whnf))))
        (repeat ((first | refine zI (by omega) ?_ | refine zE (by omega) (by omega) ?_ | refine zD (by omega) (by omega) ?_ | refine zY (by omega) ?_ | refine zN (by omega) ?_ | refine amin ?_ | refine amax ?_ | refine zU (by omega) ?_ | refine z8 (by omega) ?_ | refine zX (by omega) (by omega) ?_ | refine zR rfl ?_ | refine acellA ?_ | refine zB H b1 rfl ?_ | refine zC H b1 ?_ | refine zB H b2 rfl ?_ | refine zC H b2 ?_ | refine zB H b3 rfl ?_ | refine zC H b3 ?_ | refine zB H b4 rfl ?_ | refine zC H b4 ?_ | (apply zL H; (· repeat first | exact .h | apply AtK.t); (· rfl)) | (apply zA H; (· repeat first | exact .h | apply AtK.t)) | (apply zS H; (· repeat first | exact .h | apply AtK.t); (· rfl); (conv => whnf); clear H; intro τ H) | rw [List.length_map]); ((conv => whnf); (repeat ((first | with_reducible (first | refine zT rfl ?_ | refine zF rfl ?_ | refine zY rfl ?_) | refine zY (by decide) ?_ | refine zN (by decide) ?_ | with_reducible refine zQ ?_); (conv => whnf))))))
        refine aload b2 (tk_cell h) ?_
        ((conv => whnf); (repeat ((first | with_reducible (first | refine zT rfl ?_ | refine zF rfl ?_ | refine zY rfl ?_) | refine zY (by decide) ?_ | refine zN (by decide) ?_ | with_reducible refine zQ ?_); (conv => whnf))))
        (repeat ((first | refine zI (by omega) ?_ | refine zE (by omega) (by omega) ?_ | refine zD (by omega) (by omega) ?_ | refine zY (by omega) ?_ | refine zN (by omega) ?_ | refine amin ?_ | refine amax ?_ | refine zU (by omega) ?_ | refine z8 (by omega) ?_ | refine zX (by omega) (by omega) ?_ | refine zR rfl ?_ | refine acellA ?_ | refine zB H b1 rfl ?_ | refine zC H b1 ?_ | refine zB H b2 rfl ?_ | refine zC H b2 ?_ | refine zB H b3 rfl ?_ | refine zC H b3 ?_ | refine zB H b4 rfl ?_ | refine zC H b4 ?_ | (apply zL H; (· repeat first | exact .h | apply AtK.t); (· rfl)) | (apply zA H; (· repeat first | exact .h | apply AtK.t)) | (apply zS H; (· repeat first | exact .h | apply AtK.t); (· rfl); (conv => whnf); clear H; intro τ H) | rw [List.length_map]); ((conv => whnf); (repeat ((first | with_reducible (first | refine zT rfl ?_ | refine zF rfl ?_ | refine zY rfl ?_) | refine zY (by decide) ?_ | refine zN (by decide) ?_ | with_reducible refine zQ ?_); (conv => whnf))))))
        refine ⟨i + 1, ?_, by omega, Sub.refl _, ?_⟩
        · rw [take4 h, byt_snoc, g, if_neg (by decide)]; omega
        rw [take4 h, byt_snoc, g, if_neg (by decide), ← Int.add_sub_assoc]
        ((conv => whnf); (repeat ((first | with_reducible (first | refine zT rfl ?_ | refine zF rfl ?_ | refine zY rfl ?_) | refine zY (by decide) ?_ | refine zN (by decide) ?_ | with_reducible refine zQ ?_); (conv => whnf))))
        (repeat' first | with_reducible exact EnvLe.refl _ | (refine EnvLe.node ?_ (by first | exact Or.inl rfl | exact Or.inr (Or.inl rfl) | exact Or.inr (Or.inr ⟨nofun, VLe.slice _ _ _⟩)) ?_))
    · refine abr_no (by omega) ?_
      rw [List.take_of_length_le (by omega)]
      ((conv => whnf); (repeat ((first | with_reducible (first | refine zT rfl ?_ | refine zF rfl ?_ | refine zY rfl ?_) | refine zY (by decide) ?_ | refine zN (by decide) ?_ | with_reducible refine zQ ?_); (conv => whnf))))
      exact aret_same ⟨rfl, rfl⟩
def firstI (R : List R4) : Int := if fst4 R < R.length then fst4 R else -1
theorem rFirst04 (b1 : σ ix = some (.cells cs)) (hf : RF σ room R cs) (hR : R.length ≤ 1000000) : ACalls Try.prog i_bowlineref04_Queue_first [.ptr ix 0] σ fun v σ' => v = i64v (firstI R) ∧ σ' = σ := by
  refine k_bowlineref04_Queue_first rfl ?_
  have H := Hp.nil σ
  ((conv => whnf); (repeat ((first | with_reducible (first | refine zT rfl ?_ | refine zF rfl ?_ | refine zY rfl ?_) | refine zY (by decide) ?_ | refine zN (by decide) ?_ | with_reducible refine zQ ?_); (conv => whnf))))
  cases hf with
  | nil =>
    refine aloop (α := Unit) (fun _ => [(s3, i64v 0)]) (fun _ => σ) (fun _ => True) (fun _ => 0) () trivial (Sub.refl _) ?_ ?_
    · ((conv => whnf); (repeat ((first | with_reducible (first | refine zT rfl ?_ | refine zF rfl ?_ | refine zY rfl ?_) | refine zY (by decide) ?_ | refine zN (by decide) ?_ | with_reducible refine zQ ?_); (conv => whnf))))
      (repeat' first | with_reducible exact EnvLe.refl _ | (refine EnvLe.node ?_ (by first | exact Or.inl rfl | exact Or.inr (Or.inl rfl) | exact Or.inr (Or.inr ⟨nofun, VLe.slice _ _ _⟩)) ?_))
    rintro _ _
    ((conv => whnf); (repeat ((first | with_reducible (first | refine zT rfl ?_ | refine zF rfl ?_ | refine zY rfl ?_) | refine zY (by decide) ?_ | refine zN (by decide) ?_ | with_reducible refine zQ ?_); (conv => whnf))))
    (repeat ((first | refine zI (by omega) ?_ | refine zE (by omega) (by omega) ?_ | refine zD (by omega) (by omega) ?_ | refine zY (by omega) ?_ | refine zN (by omega) ?_ | refine amin ?_ | refine amax ?_ | refine zU (by omega) ?_ | refine z8 (by omega) ?_ | refine zX (by omega) (by omega) ?_ | refine zR rfl ?_ | refine acellA ?_ | refine zB H b1 rfl ?_ | refine zC H b1 ?_ | refine zB H b2 rfl ?_ | refine zC H b2 ?_ | refine zB H b3 rfl ?_ | refine zC H b3 ?_ | refine zB H b4 rfl ?_ | refine zC H b4 ?_ | (apply zL H; (· repeat first | exact .h | apply AtK.t); (· rfl)) | (apply zA H; (· repeat first | exact .h | apply AtK.t)) | (apply zS H; (· repeat first | exact .h | apply AtK.t); (· rfl); (conv => whnf); clear H; intro τ H) | rw [List.length_map]); ((conv => whnf); (repeat ((first | with_reducible (first | refine zT rfl ?_ | refine zF rfl ?_ | refine zY rfl ?_) | refine zY (by decide) ?_ | refine zN (by decide) ?_ | with_reducible refine zQ ?_); (conv => whnf))))))
    exact aret_same ⟨rfl, rfl⟩
  | row R ls tl r1 r2 h1 h2 b2 b3 =>
    have hl := ls_len h2
    refine aloop (α := Nat) (fun i => [(s3, i64v i)]) (fun _ => σ) (fun i => i ≤ R.length ∧ ∀ j (h : j < R.length), j < i → R[j].2.2 = true) (fun i => R.length - i) 0 ⟨Nat.zero_le _, fun j _ h => by omega⟩ (Sub.refl _) ?_ ?_
    · ((conv => whnf); (repeat ((first | with_reducible (first | refine zT rfl ?_ | refine zF rfl ?_ | refine zY rfl ?_) | refine zY (by decide) ?_ | refine zN (by decide) ?_ | with_reducible refine zQ ?_); (conv => whnf))))
      (repeat' first | with_reducible exact EnvLe.refl _ | (refine EnvLe.node ?_ (by first | exact Or.inl rfl | exact Or.inr (Or.inl rfl) | exact Or.inr (Or.inr ⟨nofun, VLe.slice _ _ _⟩)) ?_))
    rintro i ⟨hi, hall⟩
    ((conv => whnf); (repeat ((first | with_reducible (first | refine zT rfl ?_ | refine zF rfl ?_ | refine zY rfl ?_) | refine zY (by decide) ?_ | refine zN (by decide) ?_ | with_reducible refine zQ ?_); (conv => whnf))))
    (repeat ((first | refine zI (by omega) ?_ | refine zE (by omega) (by omega) ?_ | refine zD (by omega) (by omega) ?_ | refine zY (by omega) ?_ | refine zN (by omega) ?_ | refine amin ?_ | refine amax ?_ | refine zU (by omega) ?_ | refine z8 (by omega) ?_ | refine zX (by omega) (by omega) ?_ | refine zR rfl ?_ | refine acellA ?_ | refine zB H b1 rfl ?_ | refine zC H b1 ?_ | refine zB H b2 rfl ?_ | refine zC H b2 ?_ | refine zB H b3 rfl ?_ | refine zC H b3 ?_ | refine zB H b4 rfl ?_ | refine zC H b4 ?_ | (apply zL H; (· repeat first | exact .h | apply AtK.t); (· rfl)) | (apply zA H; (· repeat first | exact .h | apply AtK.t)) | (apply zS H; (· repeat first | exact .h | apply AtK.t); (· rfl); (conv => whnf); clear H; intro τ H) | rw [List.length_map]); ((conv => whnf); (repeat ((first | with_reducible (first | refine zT rfl ?_ | refine zF rfl ?_ | refine zY rfl ?_) | refine zY (by decide) ?_ | refine zN (by decide) ?_ | with_reducible refine zQ ?_); (conv => whnf))))))
    by_cases h : i < R.length
    · refine abr_yes (by omega) ?_
      ((conv => whnf); (repeat ((first | with_reducible (first | refine zT rfl ?_ | refine zF rfl ?_ | refine zY rfl ?_) | refine zY (by decide) ?_ | refine zN (by decide) ?_ | with_reducible refine zQ ?_); (conv => whnf))))
      (repeat ((first | refine zI (by omega) ?_ | refine zE (by omega) (by omega) ?_ | refine zD (by omega) (by omega) ?_ | refine zY (by omega) ?_ | refine zN (by omega) ?_ | refine amin ?_ | refine amax ?_ | refine zU (by omega) ?_ | refine z8 (by omega) ?_ | refine zX (by omega) (by omega) ?_ | refine zR rfl ?_ | refine acellA ?_ | refine zB H b1 rfl ?_ | refine zC H b1 ?_ | refine zB H b2 rfl ?_ | refine zC H b2 ?_ | refine zB H b3 rfl ?_ | refine zC H b3 ?_ | refine zB H b4 rfl ?_ | refine zC H b4 ?_ | (apply zL H; (· repeat first | exact .h | apply AtK.t); (· rfl)) | (apply zA H; (· repeat first | exact .h | apply AtK.t)) | (apply zS H; (· repeat first | exact .h | apply AtK.t); (· rfl); (conv => whnf); clear H; intro τ H) | rw [List.length_map]); ((conv => whnf); (repeat ((first | with_reducible (first | refine zT rfl ?_ | refine zF rfl ?_ | refine zY rfl ?_) | refine zY (by decide) ?_ | refine zN (by decide) ?_ | with_reducible refine zQ ?_); (conv => whnf))))))
      rcases cases4 R[i] with g | g
      · refine aload b3 (gn_cell h g) ?_
        ((conv => whnf); (repeat ((first | with_reducible (first | refine zT rfl ?_ | refine zF rfl ?_ | refine zY rfl ?_) | refine zY (by decide) ?_ | refine zN (by decide) ?_ | with_reducible refine zQ ?_); (conv => whnf))))
        (repeat ((first | refine zI (by omega) ?_ | refine zE (by omega) (by omega) ?_ | refine zD (by omega) (by omega) ?_ | refine zY (by omega) ?_ | refine zN (by omega) ?_ | refine amin ?_ | refine amax ?_ | refine zU (by omega) ?_ | refine z8 (by omega) ?_ | refine zX (by omega) (by omega) ?_ | refine zR rfl ?_ | refine acellA ?_ | refine zB H b1 rfl ?_ | refine zC H b1 ?_ | refine zB H b2 rfl ?_ | refine zC H b2 ?_ | refine zB H b3 rfl ?_ | refine zC H b3 ?_ | refine zB H b4 rfl ?_ | refine zC H b4 ?_ | (apply zL H; (· repeat first | exact .h | apply AtK.t); (· rfl)) | (apply zA H; (· repeat first | exact .h | apply AtK.t)) | (apply zS H; (· repeat first | exact .h | apply AtK.t); (· rfl); (conv => whnf); clear H; intro τ H) | rw [List.length_map]); ((conv => whnf); (repeat ((first | with_reducible (first | refine zT rfl ?_ | refine zF rfl ?_ | refine zY rfl ?_) | refine zY (by decide) ?_ | refine zN (by decide) ?_ | with_reducible refine zQ ?_); (conv => whnf))))))
        refine ⟨i + 1, ⟨h, fun j hj hji => ?_⟩, by omega, Sub.refl _, ?_⟩
        · by_cases e : j = i
          · subst e; exact g
          · exact hall j hj (by omega)
        ((conv => whnf); (repeat ((first | with_reducible (first | refine zT rfl ?_ | refine zF rfl ?_ | refine zY rfl ?_) | refine zY (by decide) ?_ | refine zN (by decide) ?_ | with_reducible refine zQ ?_); (conv => whnf))))
        (repeat' first | with_reducible exact EnvLe.refl _ | (refine EnvLe.node ?_ (by first | exact Or.inl rfl | exact Or.inr (Or.inl rfl) | exact Or.inr (Or.inr ⟨nofun, VLe.slice _ _ _⟩)) ?_))
      · refine aload b3 (gn_cell h g) ?_
        ((conv => whnf); (repeat ((first | with_reducible (first | refine zT rfl ?_ | refine zF rfl ?_ | refine zY rfl ?_) | refine zY (by decide) ?_ | refine zN (by decide) ?_ | with_reducible refine zQ ?_); (conv => whnf))))
        have e := fst_is h hall g
        exact aret_same ⟨by unfold firstI; rw [e, if_pos h], rfl⟩
    · refine abr_no (by omega) ?_
      ((conv => whnf); (repeat ((first | with_reducible (first | refine zT rfl ?_ | refine zF rfl ?_ | refine zY rfl ?_) | refine zY (by decide) ?_ | refine zN (by decide) ?_ | with_reducible refine zQ ?_); (conv => whnf))))
      have e : fst4 R = R.length := fst_none fun j hj => hall j hj (by omega)
      exact aret_same ⟨by unfold firstI; rw [e, if_neg (Nat.lt_irrefl _)], rfl⟩
theorem rFront04 (b1 : σ ix = some (.cells cs)) (hf : RF σ room R cs) (hR : R.length ≤ 1000000) {q : QS} (hq : QR q R) (ok : QOk q) : ACalls Try.prog i_bowlineref04_Queue_Front [.ptr ix 0] σ fun v σ' => v = .tup [u64v (frontV q).1, sl .none (frontV q).2.1, boolv (frontV q).2.2] ∧ σ' = σ := by
  obtain ⟨f1, f2⟩ := hq.front
  refine k_bowlineref04_Queue_Front rfl ?_
  have H := Hp.nil σ
  ((conv => whnf); (repeat ((first | with_reducible (first | refine zT rfl ?_ | refine zF rfl ?_ | refine zY rfl ?_) | refine zY (by decide) ?_ | refine zN (by decide) ?_ | with_reducible refine zQ ?_); (conv => whnf))))
  refine acall (rFirst04 b1 hf hR) ?_
  rintro _ σ_ ⟨rfl, e_⟩
  obtain rfl := e_.symm
  refine ⟨?_, Ext.refl _⟩
  ((conv => whnf); (repeat ((first | with_reducible (first | refine zT rfl ?_ | refine zF rfl ?_ | refine zY rfl ?_) | refine zY (by decide) ?_ | refine zN (by decide) ?_ | with_reducible refine zQ ?_); (conv => whnf))))
  by_cases hl : fst4 R < R.length
  case neg =>
    have e0 : fst4 R = R.length := by have := fst_le R; omega
    rw [show firstI R = -1 from if_neg hl]
    ((conv => whnf); (repeat ((first | with_reducible (first | refine zT rfl ?_ | refine zF rfl ?_ | refine zY rfl ?_) | refine zY (by decide) ?_ | refine zN (by decide) ?_ | with_reducible refine zQ ?_); (conv => whnf))))
    refine aret VLe.tup_sl2 (Sub.refl _) ⟨?_, rfl⟩
    unfold frontV; rw [f1 e0]; rfl
  obtain ⟨ts, e1, e2, e3⟩ := f2 hl
  rw [show firstI R = ((fst4 R : Nat) : Int) from if_pos hl]
  have hb := ok.begun
  have hea := ok.each _ (by rw [e1]; exact List.mem_cons_self ..)
  rw [e1, e2] at hb
  dsimp only at hb hea
  generalize hk : fst4 R = k at *
  ((conv => whnf); (repeat ((first | with_reducible (first | refine zT rfl ?_ | refine zF rfl ?_ | refine zY rfl ?_) | refine zY (by decide) ?_ | refine zN (by decide) ?_ | with_reducible refine zQ ?_); (conv => whnf))))
  (repeat ((first | refine zI (by omega) ?_ | refine zE (by omega) (by omega) ?_ | refine zD (by omega) (by omega) ?_ | refine zY (by omega) ?_ | refine zN (by omega) ?_ | refine amin ?_ | refine amax ?_ | refine zU (by omega) ?_ | refine z8 (by omega) ?_ | refine zX (by omega) (by omega) ?_ | refine zR rfl ?_ | refine acellA ?_ | refine zB H b1 rfl ?_ | refine zC H b1 ?_ | refine zB H b2 rfl ?_ | refine zC H b2 ?_ | refine zB H b3 rfl ?_ | refine zC H b3 ?_ | refine zB H b4 rfl ?_ | refine zC H b4 ?_ | (apply zL H; (· repeat first | exact .h | apply AtK.t); (· rfl)) | (apply zA H; (· repeat first | exact .h | apply AtK.t)) | (apply zS H; (· repeat first | exact .h | apply AtK.t); (· rfl); (conv => whnf); clear H; intro τ H) | rw [List.length_map]); ((conv => whnf); (repeat ((first | with_reducible (first | refine zT rfl ?_ | refine zF rfl ?_ | refine zY rfl ?_) | refine zY (by decide) ?_ | refine zN (by decide) ?_ | with_reducible refine zQ ?_); (conv => whnf))))))
  cases hf with
  | nil => simp at hl
  | row R ls tl r1 r2 h1 h2 b2 b3 =>
    obtain ⟨t, ht⟩ := ls_get h2 hl
    ((conv => whnf); (repeat ((first | with_reducible (first | refine zT rfl ?_ | refine zF rfl ?_ | refine zY rfl ?_) | refine zY (by decide) ?_ | refine zN (by decide) ?_ | with_reducible refine zQ ?_); (conv => whnf))))
    (repeat ((first | refine zI (by omega) ?_ | refine zE (by omega) (by omega) ?_ | refine zD (by omega) (by omega) ?_ | refine zY (by omega) ?_ | refine zN (by omega) ?_ | refine amin ?_ | refine amax ?_ | refine zU (by omega) ?_ | refine z8 (by omega) ?_ | refine zX (by omega) (by omega) ?_ | refine zR rfl ?_ | refine acellA ?_ | refine zB H b1 rfl ?_ | refine zC H b1 ?_ | refine zB H b2 rfl ?_ | refine zC H b2 ?_ | refine zB H b3 rfl ?_ | refine zC H b3 ?_ | refine zB H b4 rfl ?_ | refine zC H b4 ?_ | (apply zL H; (· repeat first | exact .h | apply AtK.t); (· rfl)) | (apply zA H; (· repeat first | exact .h | apply AtK.t)) | (apply zS H; (· repeat first | exact .h | apply AtK.t); (· rfl); (conv => whnf); clear H; intro τ H) | rw [List.length_map]); ((conv => whnf); (repeat ((first | with_reducible (first | refine zT rfl ?_ | refine zF rfl ?_ | refine zY rfl ?_) | refine zY (by decide) ?_ | refine zN (by decide) ?_ | with_reducible refine zQ ?_); (conv => whnf))))))
    refine aget (by omega) ht ?_
    ((conv => whnf); (repeat ((first | with_reducible (first | refine zT rfl ?_ | refine zF rfl ?_ | refine zY rfl ?_) | refine zY (by decide) ?_ | refine zN (by decide) ?_ | with_reducible refine zQ ?_); (conv => whnf))))
    (repeat ((first | refine zI (by omega) ?_ | refine zE (by omega) (by omega) ?_ | refine zD (by omega) (by omega) ?_ | refine zY (by omega) ?_ | refine zN (by omega) ?_ | refine amin ?_ | refine amax ?_ | refine zU (by omega) ?_ | refine z8 (by omega) ?_ | refine zX (by omega) (by omega) ?_ | refine zR rfl ?_ | refine acellA ?_ | refine zB H b1 rfl ?_ | refine zC H b1 ?_ | refine zB H b2 rfl ?_ | refine zC H b2 ?_ | refine zB H b3 rfl ?_ | refine zC H b3 ?_ | refine zB H b4 rfl ?_ | refine zC H b4 ?_ | (apply zL H; (· repeat first | exact .h | apply AtK.t); (· rfl)) | (apply zA H; (· repeat first | exact .h | apply AtK.t)) | (apply zS H; (· repeat first | exact .h | apply AtK.t); (· rfl); (conv => whnf); clear H; intro τ H) | rw [List.length_map]); ((conv => whnf); (repeat ((first | with_reducible (first | refine zT rfl ?_ | refine zF rfl ?_ | refine zY rfl ?_) | refine zY (by decide) ?_ | refine zN (by decide) ?_ | with_reducible refine zQ ?_); (conv => whnf))))))
    refine aload b2 (tk_cell hl) ?_
    ((conv => whnf); (repeat ((first | with_reducible (first | refine zT rfl ?_ | refine zF rfl ?_ | refine zY rfl ?_) | refine zY (by decide) ?_ | refine zN (by decide) ?_ | with_reducible refine zQ ?_); (conv => whnf))))
    refine acut (by omega) (by rw [List.length_map]; omega) (by omega) ?_
    ((conv => whnf); (repeat ((first | with_reducible (first | refine zT rfl ?_ | refine zF rfl ?_ | refine zY rfl ?_) | refine zY (by decide) ?_ | refine zN (by decide) ?_ | with_reducible refine zQ ?_); (conv => whnf))))
    (repeat ((first | refine zI (by omega) ?_ | refine zE (by omega) (by omega) ?_ | refine zD (by omega) (by omega) ?_ | refine zY (by omega) ?_ | refine zN (by omega) ?_ | refine amin ?_ | refine amax ?_ | refine zU (by omega) ?_ | refine z8 (by omega) ?_ | refine zX (by omega) (by omega) ?_ | refine zR rfl ?_ | refine acellA ?_ | refine zB H b1 rfl ?_ | refine zC H b1 ?_ | refine zB H b2 rfl ?_ | refine zC H b2 ?_ | refine zB H b3 rfl ?_ | refine zC H b3 ?_ | refine zB H b4 rfl ?_ | refine zC H b4 ?_ | (apply zL H; (· repeat first | exact .h | apply AtK.t); (· rfl)) | (apply zA H; (· repeat first | exact .h | apply AtK.t)) | (apply zS H; (· repeat first | exact .h | apply AtK.t); (· rfl); (conv => whnf); clear H; intro τ H) | rw [List.length_map]); ((conv => whnf); (repeat ((first | with_reducible (first | refine zT rfl ?_ | refine zF rfl ?_ | refine zY rfl ?_) | refine zY (by decide) ?_ | refine zN (by decide) ?_ | with_reducible refine zQ ?_); (conv => whnf))))))
    refine aload b2 (tk_cell hl) ?_
    ((conv => whnf); (repeat ((first | with_reducible (first | refine zT rfl ?_ | refine zF rfl ?_ | refine zY rfl ?_) | refine zY (by decide) ?_ | refine zN (by decide) ?_ | with_reducible refine zQ ?_); (conv => whnf))))
    rw [Int.toNat_natCast, Int.toNat_natCast, List.take_of_length_le (l := R[k].1.map byteV) (by rw [List.length_map]; exact Nat.le_refl _), ← List.map_drop]
    refine aret VLe.tup_sl2 (Sub.refl _) ⟨?_, rfl⟩
    unfold frontV; rw [e1, e2]
    rw [show @decide ((0 : Int) < ((R[k].2.1 : Nat) : Int)) (ltDec 0 _) = decide (R[k].2.1 > 0) from dec_congr (by omega)]
    rfl
end
end Go.Proofs.Ytagbbpllbiplkaa
/-
  The document's queue: what its functions change.
-/
namespace Go.Proofs.Ytagbbpllbiplkaa
set_option linter.unusedVariables false
set_option linter.unusedSimpArgs false
open Go Go.Am

section ops
variable {σb σ : AHeap} {L : List HE}
theorem zM (H : Hp σb L σ) {k r s len bytes : Nat} {ys cs : List AVal} {K : AVal → AHeap → Prop} (hk : AtK L k (.o r (.cells cs))) (hc : len * s = cs.length) (hl : (len + ys.length) * bytes ≤ 140737488355328) (ho : ys.all (okElem s) = true)
    (h : ∀ r', setLK L k (.o r' (.cells (cs ++ ys.flatMap AVal.cells))) fun L' => ∀ σ', Hp σb L' σ' → K (.ms r' s 0 (len + ys.length)) σ') : AAppM σ r s 0 len bytes ys K := happm H hk.get hc hl ho h
theorem row_set (H : Hp σb L σ) {xs : List AVal} {k r q : Nat} {y : AVal} {K : AHeap → Prop} (hk : AtK L k (.o r (.cells xs))) (h : q < xs.length) (hy : y.isCell = true)
    (hK : setLK L k (.o r (.cells (xs.set q y))) fun L' => ∀ τ', Hp σb L' τ' → K τ') : AStore σ r (0 + ((q : Nat) : Int).toNat * 1) [y] K := by
  rw [Int.toNat_natCast, Nat.mul_one, Nat.zero_add]
  refine astore (H.get hk.get) (by show q + 1 ≤ _; omega) (by show (y.isCell && true) = true; rw [hy]; rfl) (l := xs.set q y) ?_ ((setLK_spec hK).2 _ (H.set hk.get _))
  unfold splice
  rw [List.set_eq_take_append_cons_drop, if_pos h, List.append_assoc]; rfl
end ops
theorem tk_set {R : List R4} {i : Nat} {x : R4} : (R.set i x).map tkv = (R.map tkv).set i (tkv x) := List.map_set ..
theorem gn_set {R : List R4} {i : Nat} {x : R4} : (R.set i x).map gnv = (R.map gnv).set i (gnv x) := List.map_set ..
theorem set_id {α : Type} {l : List α} {i : Nat} {x : α} (h : i < l.length) (e : l[i] = x) : l.set i x = l := by rw [← e]; exact List.set_getElem_self h
theorem fst_set {R : List R4} {i : Nat} (h : i < R.length) {t : Nat} {g : Bool} : (R.set i (R[i].1, t, g)).map (·.1) = R.map (·.1) := by
  rw [List.map_set]; exact set_id (by rw [List.length_map]; exact h) (by simp)
theorem tk_keep {R : List R4} {i : Nat} (h : i < R.length) {b : List UInt8} {g : Bool} : (R.set i (b, R[i].2.1, g)).map tkv = R.map tkv := by
  rw [List.map_set]; exact set_id (by rw [List.length_map]; exact h) (by simp)
theorem gn_keep {R : List R4} {i : Nat} (h : i < R.length) {b : List UInt8} {t : Nat} : (R.set i (b, t, R[i].2.2)).map gnv = R.map gnv := by
  rw [List.map_set]; exact set_id (by rw [List.length_map]; exact h) (by simp)
section
variable {σb σ : AHeap} {ix : Nat} {room : Int} {R : List R4} {cs : List AVal} {E F : List HE} {q : QS}
def pushR (q : QS) (R : List R4) (b : List UInt8) : List R4 := if pushCode q b = 0 then R ++ [(b, 0, false)] else R
/-- What is so of texts that wait. -/
def Sm4 (R : List R4) : Prop := ∀ x ∈ R, x.1.length ≤ 1000 ∧ x.2.1 ≤ x.1.length
theorem Hp.front0 {σb σ : AHeap} {L : List HE} (H : Hp σb L σ) {k : Nat} {e : HE} (hk : AtK L k e) : Hp σb (e :: L.eraseIdx k) σ := H.front hk.get
theorem push_nil {b : List UInt8} {r1 r2 : Nat} {tb tl : Tok} (H : Hp σb (.o r2 (.cells [boolv false]) :: .o r1 (.cells [i64v 0]) :: .t tl :: .t tb :: .o ix (.cells [i64v room, .slice 1 ([] ++ [.slice 1 ([] ++ b.map byteV) tb]) tl, .ms r1 1 0 1, .ms r2 1 0 1]) :: ([] ++ F)) σ) :
    ∃ cs' E', RQ room ([] ++ [(b, 0, false)]) cs' E' ∧ Hp σb (.o ix (.cells cs') :: (E' ++ F)) σ := by
  refine ⟨_, _, .row [(b, 0, false)] [(tb, b)] tl r1 r2 (by simp) rfl, ?_⟩
  have H1 := (H.front (k := 3) rfl).tail
  have H2 := H1.front (k := 1) rfl
  have H3 := H2.front (k := 2) rfl
  exact H3.front (k := 3) rfl
theorem push_row {R : List R4} {ls : List TkB} {b : List UInt8} {r1 r2 : Nat} {tb tl : Tok} (h5 : ls.map (·.2) = R.map (·.1)) (H : Hp σb (.t tb :: .o ix (.cells [i64v room, .slice 1 (ls.map slT ++ [.slice 1 ([] ++ b.map byteV) tb]) tl, .ms r1 1 0 (R.length + 1), .ms r2 1 0 (R.length + 1)]) ::
      .t tl :: .o r1 (.cells (R.map tkv ++ [i64v 0])) :: .o r2 (.cells (R.map gnv ++ [boolv false])) :: ([] ++ F)) σ) :
    ∃ cs' E', RQ room (R ++ [(b, 0, false)]) cs' E' ∧ Hp σb (.o ix (.cells cs') :: (E' ++ F)) σ := by
  refine ⟨_, _, .row (R ++ [(b, 0, false)]) (ls ++ [(tb, b)]) tl r1 r2 (by simp) (by rw [List.map_append, List.map_append, h5]; rfl), ?_⟩
  have H1 := H.tail
  unfold qc4
  rw [List.map_append, List.map_append, List.length_append, List.map_append]
  exact H1
set_option maxRecDepth 20000 in
set_option maxHeartbeats 2000000 in
theorem rPush04 (h : RQ room R cs E) (H : Hp σb (.o ix (.cells cs) :: (E ++ F)) σ) (hq : QR q R) (ok : QOk q) (hroom : q.room = room) (hR : R.length ≤ 1000) (hs : Sm4 R) (b : List UInt8) (t : Tok) (hbl : b.length ≤ 140737488351232) :
    ACalls Try.prog i_bowlineref04_Queue_Push [.ptr ix 0, sl t b] σ fun v σ' => v = .tup [u64v (pushId q b), i64v (pushCode q b)] ∧ ∃ cs' E', RQ room (pushR q R b) cs' E' ∧ Hp σb (.o ix (.cells cs') :: (E' ++ F)) σ' := by
  have b1 := H.get (k := 0) rfl
  have hf := h.rf H
  have hr1 := ok.room1
  have hr2 := ok.room2
  have hle := ok.le
  have hfit := ok.fits
  have few := ok.few
  have hbt := hq.bytes
  have hlast := hq.last
  have hid : (idsL (live4 0 R)).length = q.ts.length := by rw [hq.ts]; unfold idsL; rw [List.length_map]
  have bad (c : Int) (hc : pushCode q b = c) (h0 : c ≠ 0) : (AVal.tup [u64v 0, i64v c] = .tup [u64v (pushId q b), i64v (pushCode q b)] ∧ ∃ cs' E', RQ room (pushR q R b) cs' E' ∧ Hp σb (.o ix (.cells cs') :: (E' ++ F)) σ) := by
    unfold pushId pushR
    rw [hc, if_neg h0, if_neg h0]
    exact ⟨rfl, cs, E, h, H⟩
  refine km_bowlineref04_Queue_Push rfl ?_
  ((conv => whnf); (repeat ((first | with_reducible (first | refine zT rfl ?_ | refine zF rfl ?_ | refine zY rfl ?_) | refine zY (by decide) ?_ | refine zN (by decide) ?_ | with_reducible refine zQ ?_); (conv => whnf))))
  by_cases h0 : b.length = 0
  · (repeat ((first | refine zI (by omega) ?_ | refine zE (by omega) (by omega) ?_ | refine zD (by omega) (by omega) ?_ | refine zY (by omega) ?_ | refine zN (by omega) ?_ | refine amin ?_ | refine amax ?_ | refine zU (by omega) ?_ | refine z8 (by omega) ?_ | refine zX (by omega) (by omega) ?_ | refine zR rfl ?_ | refine acellA ?_ | refine zB H b1 rfl ?_ | refine zC H b1 ?_ | refine zB H b2 rfl ?_ | refine zC H b2 ?_ | refine zB H b3 rfl ?_ | refine zC H b3 ?_ | refine zB H b4 rfl ?_ | refine zC H b4 ?_ | (apply zL H; (· repeat first | exact .h | apply AtK.t); (· rfl)) | (apply zA H; (· repeat first | exact .h | apply AtK.t)) | (apply zS H; (· repeat first | exact .h | apply AtK.t); (· rfl); (conv => whnf); clear H; intro τ H) | rw [List.length_map]); ((conv => whnf); (repeat ((first | with_reducible (first | refine zT rfl ?_ | refine zF rfl ?_ | refine zY rfl ?_) | refine zY (by decide) ?_ | refine zN (by decide) ?_ | with_reducible refine zQ ?_); (conv => whnf))))))
    exact aret (VLe.refl _) (Sub.refl _) (bad 1 (by unfold pushCode; rw [if_pos h0]) (by decide))
  by_cases h1 : b.length > 1000
  · (repeat ((first | refine zI (by omega) ?_ | refine zE (by omega) (by omega) ?_ | refine zD (by omega) (by omega) ?_ | refine zY (by omega) ?_ | refine zN (by omega) ?_ | refine amin ?_ | refine amax ?_ | refine zU (by omega) ?_ | refine z8 (by omega) ?_ | refine zX (by omega) (by omega) ?_ | refine zR rfl ?_ | refine acellA ?_ | refine zB H b1 rfl ?_ | refine zC H b1 ?_ | refine zB H b2 rfl ?_ | refine zC H b2 ?_ | refine zB H b3 rfl ?_ | refine zC H b3 ?_ | refine zB H b4 rfl ?_ | refine zC H b4 ?_ | (apply zL H; (· repeat first | exact .h | apply AtK.t); (· rfl)) | (apply zA H; (· repeat first | exact .h | apply AtK.t)) | (apply zS H; (· repeat first | exact .h | apply AtK.t); (· rfl); (conv => whnf); clear H; intro τ H) | rw [List.length_map]); ((conv => whnf); (repeat ((first | with_reducible (first | refine zT rfl ?_ | refine zF rfl ?_ | refine zY rfl ?_) | refine zY (by decide) ?_ | refine zN (by decide) ?_ | with_reducible refine zQ ?_); (conv => whnf))))))
    exact aret (VLe.refl _) (Sub.refl _) (bad 2 (by unfold pushCode; rw [if_neg h0, if_pos h1]) (by decide))
  (repeat ((first | refine zI (by omega) ?_ | refine zE (by omega) (by omega) ?_ | refine zD (by omega) (by omega) ?_ | refine zY (by omega) ?_ | refine zN (by omega) ?_ | refine amin ?_ | refine amax ?_ | refine zU (by omega) ?_ | refine z8 (by omega) ?_ | refine zX (by omega) (by omega) ?_ | refine zR rfl ?_ | refine acellA ?_ | refine zB H b1 rfl ?_ | refine zC H b1 ?_ | refine zB H b2 rfl ?_ | refine zC H b2 ?_ | refine zB H b3 rfl ?_ | refine zC H b3 ?_ | refine zB H b4 rfl ?_ | refine zC H b4 ?_ | (apply zL H; (· repeat first | exact .h | apply AtK.t); (· rfl)) | (apply zA H; (· repeat first | exact .h | apply AtK.t)) | (apply zS H; (· repeat first | exact .h | apply AtK.t); (· rfl); (conv => whnf); clear H; intro τ H) | rw [List.length_map]); ((conv => whnf); (repeat ((first | with_reducible (first | refine zT rfl ?_ | refine zF rfl ?_ | refine zY rfl ?_) | refine zY (by decide) ?_ | refine zN (by decide) ?_ | with_reducible refine zQ ?_); (conv => whnf))))))
  refine acall (rIDs04 b1 hf (by omega)) ?_
  rintro _ σ_ ⟨rfl, e_⟩
  obtain rfl := e_.symm
  refine ⟨?_, Ext.refl _⟩
  ((conv => whnf); (repeat ((first | with_reducible (first | refine zT rfl ?_ | refine zF rfl ?_ | refine zY rfl ?_) | refine zY (by decide) ?_ | refine zN (by decide) ?_ | with_reducible refine zQ ?_); (conv => whnf))))
  rw [List.length_map, hid]
  by_cases h2 : q.ts.length ≥ 64
  · refine abr_yes (by omega) ?_
    ((conv => whnf); (repeat ((first | with_reducible (first | refine zT rfl ?_ | refine zF rfl ?_ | refine zY rfl ?_) | refine zY (by decide) ?_ | refine zN (by decide) ?_ | with_reducible refine zQ ?_); (conv => whnf))))
    (repeat ((first | refine zI (by omega) ?_ | refine zE (by omega) (by omega) ?_ | refine zD (by omega) (by omega) ?_ | refine zY (by omega) ?_ | refine zN (by omega) ?_ | refine amin ?_ | refine amax ?_ | refine zU (by omega) ?_ | refine z8 (by omega) ?_ | refine zX (by omega) (by omega) ?_ | refine zR rfl ?_ | refine acellA ?_ | refine zB H b1 rfl ?_ | refine zC H b1 ?_ | refine zB H b2 rfl ?_ | refine zC H b2 ?_ | refine zB H b3 rfl ?_ | refine zC H b3 ?_ | refine zB H b4 rfl ?_ | refine zC H b4 ?_ | (apply zL H; (· repeat first | exact .h | apply AtK.t); (· rfl)) | (apply zA H; (· repeat first | exact .h | apply AtK.t)) | (apply zS H; (· repeat first | exact .h | apply AtK.t); (· rfl); (conv => whnf); clear H; intro τ H) | rw [List.length_map]); ((conv => whnf); (repeat ((first | with_reducible (first | refine zT rfl ?_ | refine zF rfl ?_ | refine zY rfl ?_) | refine zY (by decide) ?_ | refine zN (by decide) ?_ | with_reducible refine zQ ?_); (conv => whnf))))))
    exact aret (VLe.refl _) (Sub.refl _) (bad 5 (by unfold pushCode; rw [if_neg h0, if_neg h1, if_pos (.inl h2)]) (by decide))
  refine abr_no (by omega) ?_
  ((conv => whnf); (repeat ((first | with_reducible (first | refine zT rfl ?_ | refine zF rfl ?_ | refine zY rfl ?_) | refine zY (by decide) ?_ | refine zN (by decide) ?_ | with_reducible refine zQ ?_); (conv => whnf))))
  have hc0 : cs[0]? = some (i64v room) := by cases h <;> rfl
  refine aload b1 hc0 ?_
  ((conv => whnf); (repeat ((first | with_reducible (first | refine zT rfl ?_ | refine zF rfl ?_ | refine zY rfl ?_) | refine zY (by decide) ?_ | refine zN (by decide) ?_ | with_reducible refine zQ ?_); (conv => whnf))))
  refine acall (rBytes04 b1 hf (by omega) hs) ?_
  rintro _ σ_ ⟨rfl, e_⟩
  obtain rfl := e_.symm
  refine ⟨?_, Ext.refl _⟩
  ((conv => whnf); (repeat ((first | with_reducible (first | refine zT rfl ?_ | refine zF rfl ?_ | refine zY rfl ?_) | refine zY (by decide) ?_ | refine zN (by decide) ?_ | with_reducible refine zQ ?_); (conv => whnf))))
  rw [hbt]
  (repeat ((first | refine zI (by omega) ?_ | refine zE (by omega) (by omega) ?_ | refine zD (by omega) (by omega) ?_ | refine zY (by omega) ?_ | refine zN (by omega) ?_ | refine amin ?_ | refine amax ?_ | refine zU (by omega) ?_ | refine z8 (by omega) ?_ | refine zX (by omega) (by omega) ?_ | refine zR rfl ?_ | refine acellA ?_ | refine zB H b1 rfl ?_ | refine zC H b1 ?_ | refine zB H b2 rfl ?_ | refine zC H b2 ?_ | refine zB H b3 rfl ?_ | refine zC H b3 ?_ | refine zB H b4 rfl ?_ | refine zC H b4 ?_ | (apply zL H; (· repeat first | exact .h | apply AtK.t); (· rfl)) | (apply zA H; (· repeat first | exact .h | apply AtK.t)) | (apply zS H; (· repeat first | exact .h | apply AtK.t); (· rfl); (conv => whnf); clear H; intro τ H) | rw [List.length_map]); ((conv => whnf); (repeat ((first | with_reducible (first | refine zT rfl ?_ | refine zF rfl ?_ | refine zY rfl ?_) | refine zY (by decide) ?_ | refine zN (by decide) ?_ | with_reducible refine zQ ?_); (conv => whnf))))))
  by_cases h3 : (b.length : Int) > q.room - ((tot q.ts : Int) - q.taken)
  · refine abr_yes (by omega) ?_
    ((conv => whnf); (repeat ((first | with_reducible (first | refine zT rfl ?_ | refine zF rfl ?_ | refine zY rfl ?_) | refine zY (by decide) ?_ | refine zN (by decide) ?_ | with_reducible refine zQ ?_); (conv => whnf))))
    (repeat ((first | refine zI (by omega) ?_ | refine zE (by omega) (by omega) ?_ | refine zD (by omega) (by omega) ?_ | refine zY (by omega) ?_ | refine zN (by omega) ?_ | refine amin ?_ | refine amax ?_ | refine zU (by omega) ?_ | refine z8 (by omega) ?_ | refine zX (by omega) (by omega) ?_ | refine zR rfl ?_ | refine acellA ?_ | refine zB H b1 rfl ?_ | refine zC H b1 ?_ | refine zB H b2 rfl ?_ | refine zC H b2 ?_ | refine zB H b3 rfl ?_ | refine zC H b3 ?_ | refine zB H b4 rfl ?_ | refine zC H b4 ?_ | (apply zL H; (· repeat first | exact .h | apply AtK.t); (· rfl)) | (apply zA H; (· repeat first | exact .h | apply AtK.t)) | (apply zS H; (· repeat first | exact .h | apply AtK.t); (· rfl); (conv => whnf); clear H; intro τ H) | rw [List.length_map]); ((conv => whnf); (repeat ((first | with_reducible (first | refine zT rfl ?_ | refine zF rfl ?_ | refine zY rfl ?_) | refine zY (by decide) ?_ | refine zN (by decide) ?_ | with_reducible refine zQ ?_); (conv => whnf))))))
    exact aret (VLe.refl _) (Sub.refl _) (bad 5 (by unfold pushCode; rw [if_neg h0, if_neg h1, if_pos (.inr h3)]) (by decide))
  have hc : pushCode q b = 0 := by unfold pushCode; rw [if_neg h0, if_neg h1, if_neg (by omega)]
  have eR : pushR q R b = R ++ [(b, 0, false)] := if_pos hc
  have ei : pushId q b = R.length + 1 := by unfold pushId; rw [if_pos hc, hlast]
  refine abr_no (by omega) ?_
  ((conv => whnf); (repeat ((first | with_reducible (first | refine zT rfl ?_ | refine zF rfl ?_ | refine zY rfl ?_) | refine zY (by decide) ?_ | refine zN (by decide) ?_ | with_reducible refine zQ ?_); (conv => whnf))))
  (repeat ((first | refine zI (by omega) ?_ | refine zE (by omega) (by omega) ?_ | refine zD (by omega) (by omega) ?_ | refine zY (by omega) ?_ | refine zN (by omega) ?_ | refine amin ?_ | refine amax ?_ | refine zU (by omega) ?_ | refine z8 (by omega) ?_ | refine zX (by omega) (by omega) ?_ | refine zR rfl ?_ | refine acellA ?_ | refine zB H b1 rfl ?_ | refine zC H b1 ?_ | refine zB H b2 rfl ?_ | refine zC H b2 ?_ | refine zB H b3 rfl ?_ | refine zC H b3 ?_ | refine zB H b4 rfl ?_ | refine zC H b4 ?_ | (apply zL H; (· repeat first | exact .h | apply AtK.t); (· rfl)) | (apply zA H; (· repeat first | exact .h | apply AtK.t)) | (apply zS H; (· repeat first | exact .h | apply AtK.t); (· rfl); (conv => whnf); clear H; intro τ H) | rw [List.length_map]); ((conv => whnf); (repeat ((first | with_reducible (first | refine zT rfl ?_ | refine zF rfl ?_ | refine zY rfl ?_) | refine zY (by decide) ?_ | refine zN (by decide) ?_ | with_reducible refine zQ ?_); (conv => whnf))))))
  rw [hc, ei, eR]
  clear bad hc0 b1 hf
  have hul : R.length + 1 < 18446744073709551616 := by omega
  cases h with
  | nil =>
    (repeat ((first | refine zI (by omega) ?_ | refine zE (by omega) (by omega) ?_ | refine zD (by omega) (by omega) ?_ | refine zY (by omega) ?_ | refine zN (by omega) ?_ | refine amin ?_ | refine amax ?_ | refine zU (by omega) ?_ | refine z8 (by omega) ?_ | refine zX (by omega) (by omega) ?_ | refine zR rfl ?_ | refine acellA ?_ | refine zB H b1 rfl ?_ | refine zC H b1 ?_ | refine zB H b2 rfl ?_ | refine zC H b2 ?_ | refine zB H b3 rfl ?_ | refine zC H b3 ?_ | refine zB H b4 rfl ?_ | refine zC H b4 ?_ | (apply zL H; (· repeat first | exact .h | apply AtK.t); (· rfl)) | (apply zA H; (· repeat first | exact .h | apply AtK.t)) | (apply zS H; (· repeat first | exact .h | apply AtK.t); (· rfl); (conv => whnf); clear H; intro τ H) | rw [List.length_map]); ((conv => whnf); (repeat ((first | with_reducible (first | refine zT rfl ?_ | refine zF rfl ?_ | refine zY rfl ?_) | refine zY (by decide) ?_ | refine zN (by decide) ?_ | with_reducible refine zQ ?_); (conv => whnf))))))
    repeat' (first
      | (apply And.intro <;> (((conv => whnf); (repeat ((first | with_reducible (first | refine zT rfl ?_ | refine zF rfl ?_ | refine zY rfl ?_) | refine zY (by decide) ?_ | refine zN (by decide) ?_ | with_reducible refine zQ ?_); (conv => whnf)))); (repeat ((first | refine zI (by omega) ?_ | refine zE (by omega) (by omega) ?_ | refine zD (by omega) (by omega) ?_ | refine zY (by omega) ?_ | refine zN (by omega) ?_ | refine amin ?_ | refine amax ?_ | refine zU (by omega) ?_ | refine z8 (by omega) ?_ | refine zX (by omega) (by omega) ?_ | refine zR rfl ?_ | refine acellA ?_ | refine zB H b1 rfl ?_ | refine zC H b1 ?_ | refine zB H b2 rfl ?_ | refine zC H b2 ?_ | refine zB H b3 rfl ?_ | refine zC H b3 ?_ | refine zB H b4 rfl ?_ | refine zC H b4 ?_ | (apply zL H; (· repeat first | exact .h | apply AtK.t); (· rfl)) | (apply zA H; (· repeat first | exact .h | apply AtK.t)) | (apply zS H; (· repeat first | exact .h | apply AtK.t); (· rfl); (conv => whnf); clear H; intro τ H) | rw [List.length_map]); ((conv => whnf); (repeat ((first | with_reducible (first | refine zT rfl ?_ | refine zF rfl ?_ | refine zY rfl ?_) | refine zY (by decide) ?_ | refine zN (by decide) ?_ | with_reducible refine zQ ?_); (conv => whnf))))))))
      | (refine happF H (by simp only [List.length_map, List.length_nil, List.length_cons]; omega) ?_; clear H; intro tk_ τ H; ((conv => whnf); (repeat ((first | with_reducible (first | refine zT rfl ?_ | refine zF rfl ?_ | refine zY rfl ?_) | refine zY (by decide) ?_ | refine zN (by decide) ?_ | with_reducible refine zQ ?_); (conv => whnf)))); (repeat ((first | refine zI (by omega) ?_ | refine zE (by omega) (by omega) ?_ | refine zD (by omega) (by omega) ?_ | refine zY (by omega) ?_ | refine zN (by omega) ?_ | refine amin ?_ | refine amax ?_ | refine zU (by omega) ?_ | refine z8 (by omega) ?_ | refine zX (by omega) (by omega) ?_ | refine zR rfl ?_ | refine acellA ?_ | refine zB H b1 rfl ?_ | refine zC H b1 ?_ | refine zB H b2 rfl ?_ | refine zC H b2 ?_ | refine zB H b3 rfl ?_ | refine zC H b3 ?_ | refine zB H b4 rfl ?_ | refine zC H b4 ?_ | (apply zL H; (· repeat first | exact .h | apply AtK.t); (· rfl)) | (apply zA H; (· repeat first | exact .h | apply AtK.t)) | (apply zS H; (· repeat first | exact .h | apply AtK.t); (· rfl); (conv => whnf); clear H; intro τ H) | rw [List.length_map]); ((conv => whnf); (repeat ((first | with_reducible (first | refine zT rfl ?_ | refine zF rfl ?_ | refine zY rfl ?_) | refine zY (by decide) ?_ | refine zN (by decide) ?_ | with_reducible refine zQ ?_); (conv => whnf)))))))
      | (refine happnew H (by simp) (by simp) rfl ?_; clear H; intro r τ H; ((conv => whnf); (repeat ((first | with_reducible (first | refine zT rfl ?_ | refine zF rfl ?_ | refine zY rfl ?_) | refine zY (by decide) ?_ | refine zN (by decide) ?_ | with_reducible refine zQ ?_); (conv => whnf)))); (repeat ((first | refine zI (by omega) ?_ | refine zE (by omega) (by omega) ?_ | refine zD (by omega) (by omega) ?_ | refine zY (by omega) ?_ | refine zN (by omega) ?_ | refine amin ?_ | refine amax ?_ | refine zU (by omega) ?_ | refine z8 (by omega) ?_ | refine zX (by omega) (by omega) ?_ | refine zR rfl ?_ | refine acellA ?_ | refine zB H b1 rfl ?_ | refine zC H b1 ?_ | refine zB H b2 rfl ?_ | refine zC H b2 ?_ | refine zB H b3 rfl ?_ | refine zC H b3 ?_ | refine zB H b4 rfl ?_ | refine zC H b4 ?_ | (apply zL H; (· repeat first | exact .h | apply AtK.t); (· rfl)) | (apply zA H; (· repeat first | exact .h | apply AtK.t)) | (apply zS H; (· repeat first | exact .h | apply AtK.t); (· rfl); (conv => whnf); clear H; intro τ H) | rw [List.length_map]); ((conv => whnf); (repeat ((first | with_reducible (first | refine zT rfl ?_ | refine zF rfl ?_ | refine zY rfl ?_) | refine zY (by decide) ?_ | refine zN (by decide) ?_ | with_reducible refine zQ ?_); (conv => whnf)))))))
      | (refine zU (by simp only [List.length_append, List.length_nil, List.length_cons]; omega) ?_; ((conv => whnf); (repeat ((first | with_reducible (first | refine zT rfl ?_ | refine zF rfl ?_ | refine zY rfl ?_) | refine zY (by decide) ?_ | refine zN (by decide) ?_ | with_reducible refine zQ ?_); (conv => whnf)))); (repeat ((first | refine zI (by omega) ?_ | refine zE (by omega) (by omega) ?_ | refine zD (by omega) (by omega) ?_ | refine zY (by omega) ?_ | refine zN (by omega) ?_ | refine amin ?_ | refine amax ?_ | refine zU (by omega) ?_ | refine z8 (by omega) ?_ | refine zX (by omega) (by omega) ?_ | refine zR rfl ?_ | refine acellA ?_ | refine zB H b1 rfl ?_ | refine zC H b1 ?_ | refine zB H b2 rfl ?_ | refine zC H b2 ?_ | refine zB H b3 rfl ?_ | refine zC H b3 ?_ | refine zB H b4 rfl ?_ | refine zC H b4 ?_ | (apply zL H; (· repeat first | exact .h | apply AtK.t); (· rfl)) | (apply zA H; (· repeat first | exact .h | apply AtK.t)) | (apply zS H; (· repeat first | exact .h | apply AtK.t); (· rfl); (conv => whnf); clear H; intro τ H) | rw [List.length_map]); ((conv => whnf); (repeat ((first | with_reducible (first | refine zT rfl ?_ | refine zF rfl ?_ | refine zY rfl ?_) | refine zY (by decide) ?_ | refine zN (by decide) ?_ | with_reducible refine zQ ?_); (conv => whnf))))))))
    all_goals exact aret (VLe.refl _) (Sub.refl _) ⟨rfl, push_nil H⟩
  | row R ls tl r1 r2 h4 h5 =>
    have hl := ls_len h5
    (repeat ((first | refine zI (by omega) ?_ | refine zE (by omega) (by omega) ?_ | refine zD (by omega) (by omega) ?_ | refine zY (by omega) ?_ | refine zN (by omega) ?_ | refine amin ?_ | refine amax ?_ | refine zU (by omega) ?_ | refine z8 (by omega) ?_ | refine zX (by omega) (by omega) ?_ | refine zR rfl ?_ | refine acellA ?_ | refine zB H b1 rfl ?_ | refine zC H b1 ?_ | refine zB H b2 rfl ?_ | refine zC H b2 ?_ | refine zB H b3 rfl ?_ | refine zC H b3 ?_ | refine zB H b4 rfl ?_ | refine zC H b4 ?_ | (apply zL H; (· repeat first | exact .h | apply AtK.t); (· rfl)) | (apply zA H; (· repeat first | exact .h | apply AtK.t)) | (apply zS H; (· repeat first | exact .h | apply AtK.t); (· rfl); (conv => whnf); clear H; intro τ H) | rw [List.length_map]); ((conv => whnf); (repeat ((first | with_reducible (first | refine zT rfl ?_ | refine zF rfl ?_ | refine zY rfl ?_) | refine zY (by decide) ?_ | refine zN (by decide) ?_ | with_reducible refine zQ ?_); (conv => whnf))))))
    repeat' (first
      | (apply And.intro <;> (((conv => whnf); (repeat ((first | with_reducible (first | refine zT rfl ?_ | refine zF rfl ?_ | refine zY rfl ?_) | refine zY (by decide) ?_ | refine zN (by decide) ?_ | with_reducible refine zQ ?_); (conv => whnf)))); (repeat ((first | refine zI (by omega) ?_ | refine zE (by omega) (by omega) ?_ | refine zD (by omega) (by omega) ?_ | refine zY (by omega) ?_ | refine zN (by omega) ?_ | refine amin ?_ | refine amax ?_ | refine zU (by omega) ?_ | refine z8 (by omega) ?_ | refine zX (by omega) (by omega) ?_ | refine zR rfl ?_ | refine acellA ?_ | refine zB H b1 rfl ?_ | refine zC H b1 ?_ | refine zB H b2 rfl ?_ | refine zC H b2 ?_ | refine zB H b3 rfl ?_ | refine zC H b3 ?_ | refine zB H b4 rfl ?_ | refine zC H b4 ?_ | (apply zL H; (· repeat first | exact .h | apply AtK.t); (· rfl)) | (apply zA H; (· repeat first | exact .h | apply AtK.t)) | (apply zS H; (· repeat first | exact .h | apply AtK.t); (· rfl); (conv => whnf); clear H; intro τ H) | rw [List.length_map]); ((conv => whnf); (repeat ((first | with_reducible (first | refine zT rfl ?_ | refine zF rfl ?_ | refine zY rfl ?_) | refine zY (by decide) ?_ | refine zN (by decide) ?_ | with_reducible refine zQ ?_); (conv => whnf))))))))
      | (refine happF H (by simp only [List.length_map, List.length_nil, List.length_cons]; omega) ?_; clear H; intro tk_ τ H; ((conv => whnf); (repeat ((first | with_reducible (first | refine zT rfl ?_ | refine zF rfl ?_ | refine zY rfl ?_) | refine zY (by decide) ?_ | refine zN (by decide) ?_ | with_reducible refine zQ ?_); (conv => whnf)))); (repeat ((first | refine zI (by omega) ?_ | refine zE (by omega) (by omega) ?_ | refine zD (by omega) (by omega) ?_ | refine zY (by omega) ?_ | refine zN (by omega) ?_ | refine amin ?_ | refine amax ?_ | refine zU (by omega) ?_ | refine z8 (by omega) ?_ | refine zX (by omega) (by omega) ?_ | refine zR rfl ?_ | refine acellA ?_ | refine zB H b1 rfl ?_ | refine zC H b1 ?_ | refine zB H b2 rfl ?_ | refine zC H b2 ?_ | refine zB H b3 rfl ?_ | refine zC H b3 ?_ | refine zB H b4 rfl ?_ | refine zC H b4 ?_ | (apply zL H; (· repeat first | exact .h | apply AtK.t); (· rfl)) | (apply zA H; (· repeat first | exact .h | apply AtK.t)) | (apply zS H; (· repeat first | exact .h | apply AtK.t); (· rfl); (conv => whnf); clear H; intro τ H) | rw [List.length_map]); ((conv => whnf); (repeat ((first | with_reducible (first | refine zT rfl ?_ | refine zF rfl ?_ | refine zY rfl ?_) | refine zY (by decide) ?_ | refine zN (by decide) ?_ | with_reducible refine zQ ?_); (conv => whnf)))))))
      | (apply zP H; (· repeat first | exact .h | apply AtK.t); (· simp only [List.length_map, List.length_nil, List.length_cons]; omega); intro tk2; (conv => whnf); clear H; intro τ H; ((conv => whnf); (repeat ((first | with_reducible (first | refine zT rfl ?_ | refine zF rfl ?_ | refine zY rfl ?_) | refine zY (by decide) ?_ | refine zN (by decide) ?_ | with_reducible refine zQ ?_); (conv => whnf)))); (repeat ((first | refine zI (by omega) ?_ | refine zE (by omega) (by omega) ?_ | refine zD (by omega) (by omega) ?_ | refine zY (by omega) ?_ | refine zN (by omega) ?_ | refine amin ?_ | refine amax ?_ | refine zU (by omega) ?_ | refine z8 (by omega) ?_ | refine zX (by omega) (by omega) ?_ | refine zR rfl ?_ | refine acellA ?_ | refine zB H b1 rfl ?_ | refine zC H b1 ?_ | refine zB H b2 rfl ?_ | refine zC H b2 ?_ | refine zB H b3 rfl ?_ | refine zC H b3 ?_ | refine zB H b4 rfl ?_ | refine zC H b4 ?_ | (apply zL H; (· repeat first | exact .h | apply AtK.t); (· rfl)) | (apply zA H; (· repeat first | exact .h | apply AtK.t)) | (apply zS H; (· repeat first | exact .h | apply AtK.t); (· rfl); (conv => whnf); clear H; intro τ H) | rw [List.length_map]); ((conv => whnf); (repeat ((first | with_reducible (first | refine zT rfl ?_ | refine zF rfl ?_ | refine zY rfl ?_) | refine zY (by decide) ?_ | refine zN (by decide) ?_ | with_reducible refine zQ ?_); (conv => whnf)))))))
      | (apply zM H; (· repeat first | exact .h | apply AtK.t); (· simp only [List.length_map]; omega); (· simp only [List.length_map, List.length_nil, List.length_cons]; omega); (· rfl); intro r; (conv => whnf); clear H; intro τ H; ((conv => whnf); (repeat ((first | with_reducible (first | refine zT rfl ?_ | refine zF rfl ?_ | refine zY rfl ?_) | refine zY (by decide) ?_ | refine zN (by decide) ?_ | with_reducible refine zQ ?_); (conv => whnf)))); (repeat ((first | refine zI (by omega) ?_ | refine zE (by omega) (by omega) ?_ | refine zD (by omega) (by omega) ?_ | refine zY (by omega) ?_ | refine zN (by omega) ?_ | refine amin ?_ | refine amax ?_ | refine zU (by omega) ?_ | refine z8 (by omega) ?_ | refine zX (by omega) (by omega) ?_ | refine zR rfl ?_ | refine acellA ?_ | refine zB H b1 rfl ?_ | refine zC H b1 ?_ | refine zB H b2 rfl ?_ | refine zC H b2 ?_ | refine zB H b3 rfl ?_ | refine zC H b3 ?_ | refine zB H b4 rfl ?_ | refine zC H b4 ?_ | (apply zL H; (· repeat first | exact .h | apply AtK.t); (· rfl)) | (apply zA H; (· repeat first | exact .h | apply AtK.t)) | (apply zS H; (· repeat first | exact .h | apply AtK.t); (· rfl); (conv => whnf); clear H; intro τ H) | rw [List.length_map]); ((conv => whnf); (repeat ((first | with_reducible (first | refine zT rfl ?_ | refine zF rfl ?_ | refine zY rfl ?_) | refine zY (by decide) ?_ | refine zN (by decide) ?_ | with_reducible refine zQ ?_); (conv => whnf)))))))
      | (refine zU (by simp only [List.length_append, List.length_map, List.length_nil, List.length_cons]; omega) ?_; ((conv => whnf); (repeat ((first | with_reducible (first | refine zT rfl ?_ | refine zF rfl ?_ | refine zY rfl ?_) | refine zY (by decide) ?_ | refine zN (by decide) ?_ | with_reducible refine zQ ?_); (conv => whnf)))); (repeat ((first | refine zI (by omega) ?_ | refine zE (by omega) (by omega) ?_ | refine zD (by omega) (by omega) ?_ | refine zY (by omega) ?_ | refine zN (by omega) ?_ | refine amin ?_ | refine amax ?_ | refine zU (by omega) ?_ | refine z8 (by omega) ?_ | refine zX (by omega) (by omega) ?_ | refine zR rfl ?_ | refine acellA ?_ | refine zB H b1 rfl ?_ | refine zC H b1 ?_ | refine zB H b2 rfl ?_ | refine zC H b2 ?_ | refine zB H b3 rfl ?_ | refine zC H b3 ?_ | refine zB H b4 rfl ?_ | refine zC H b4 ?_ | (apply zL H; (· repeat first | exact .h | apply AtK.t); (· rfl)) | (apply zA H; (· repeat first | exact .h | apply AtK.t)) | (apply zS H; (· repeat first | exact .h | apply AtK.t); (· rfl); (conv => whnf); clear H; intro τ H) | rw [List.length_map]); ((conv => whnf); (repeat ((first | with_reducible (first | refine zT rfl ?_ | refine zF rfl ?_ | refine zY rfl ?_) | refine zY (by decide) ?_ | refine zN (by decide) ?_ | with_reducible refine zQ ?_); (conv => whnf))))))))
    all_goals
      refine aret (VLe.refl _) (Sub.refl _) ⟨?_, push_row h5 H⟩
      rw [List.length_append, List.length_map, hl]; rfl
set_option maxRecDepth 20000 in
set_option maxHeartbeats 1000000 in
theorem rTake04 (h : RQ room R cs E) (H : Hp σb (.o ix (.cells cs) :: (E ++ F)) σ) (hq : QR q R) (ok : QOk q) (hR : R.length ≤ 1000) (hs : Sm4 R) (n : Int) :
    ACalls Try.prog i_bowlineref04_Queue_Take [.ptr ix 0, i64v n] σ fun v σ' => v = .tup [sl .none (takeB q n), boolv (takeAll q n), i64v (takeCode q n)] ∧ ∃ cs' E', RQ room (takeR R n) cs' E' ∧ Hp σb (.o ix (.cells cs') :: (E' ++ F)) σ' := by
  obtain ⟨f1, f2⟩ := hq.front
  have b1 := H.get (k := 0) rfl
  have hf := h.rf H
  refine k_bowlineref04_Queue_Take rfl ?_
  ((conv => whnf); (repeat ((first | with_reducible (first | refine zT rfl ?_ | refine zF rfl ?_ | refine zY rfl ?_) | refine zY (by decide) ?_ | refine zN (by decide) ?_ | with_reducible refine zQ ?_); (conv => whnf))))
  refine acall (rFirst04 b1 hf (by omega)) ?_
  rintro _ σ_ ⟨rfl, e_⟩
  obtain rfl := e_.symm
  refine ⟨?_, Ext.refl _⟩
  ((conv => whnf); (repeat ((first | with_reducible (first | refine zT rfl ?_ | refine zF rfl ?_ | refine zY rfl ?_) | refine zY (by decide) ?_ | refine zN (by decide) ?_ | with_reducible refine zQ ?_); (conv => whnf))))
  by_cases hl : fst4 R < R.length
  case neg =>
    have e0 : fst4 R = R.length := by have := fst_le R; omega
    have ht : takeR R n = R := by unfold takeR; rw [e0, List.getElem?_eq_none (Nat.le_refl _)]
    rw [show firstI R = -1 from if_neg hl, ht]
    ((conv => whnf); (repeat ((first | with_reducible (first | refine zT rfl ?_ | refine zF rfl ?_ | refine zY rfl ?_) | refine zY (by decide) ?_ | refine zN (by decide) ?_ | with_reducible refine zQ ?_); (conv => whnf))))
    refine aret VLe.tup_sl (Sub.refl _) ⟨?_, cs, E, h, H⟩
    unfold takeB takeAll takeCode; rw [f1 e0]; rfl
  obtain ⟨ts, e1, e2, e3⟩ := f2 hl
  rw [show firstI R = ((fst4 R : Nat) : Int) from if_pos hl]
  have hb := ok.begun
  have hea := ok.each _ (by rw [e1]; exact List.mem_cons_self ..)
  have ec : takeCode q n = if n < 1 ∨ n > (R[fst4 R].1.length : Int) - R[fst4 R].2.1 then 1 else 0 := by unfold takeCode; rw [e1, e2]
  have eB : takeB q n = if takeCode q n = 0 then (R[fst4 R].1.drop R[fst4 R].2.1).take n.toNat else [] := by unfold takeB; rw [e1, e2]
  have eA : takeAll q n = if takeCode q n = 0 then decide (n = (R[fst4 R].1.length : Int) - R[fst4 R].2.1) else false := by unfold takeAll; rw [e1, e2]
  have eR : takeR R n = if n < 1 ∨ n > (R[fst4 R].1.length : Int) - R[fst4 R].2.1 then R else R.set (fst4 R) (R[fst4 R].1, R[fst4 R].2.1 + n.toNat, decide (n = (R[fst4 R].1.length : Int) - R[fst4 R].2.1)) := by
    unfold takeR; rw [List.getElem?_eq_getElem hl]
  rw [eB, eA, ec, eR]
  rw [e1, e2] at hb
  dsimp only at hb hea
  generalize fst4 R = k at *
  ((conv => whnf); (repeat ((first | with_reducible (first | refine zT rfl ?_ | refine zF rfl ?_ | refine zY rfl ?_) | refine zY (by decide) ?_ | refine zN (by decide) ?_ | with_reducible refine zQ ?_); (conv => whnf))))
  cases h with
  | nil => simp at hl
  | row R ls tl r1 r2 h1 h2 =>
    clear hf
    have b2 := H.get (k := 2) rfl
    have b3 := H.get (k := 3) rfl
    obtain ⟨t, ht⟩ := ls_get h2 hl
    have hlt : k < (R.map tkv).length := by rw [List.length_map]; exact hl
    have hlg : k < (R.map gnv).length := by rw [List.length_map]; exact hl
    (repeat ((first | refine zI (by omega) ?_ | refine zE (by omega) (by omega) ?_ | refine zD (by omega) (by omega) ?_ | refine zY (by omega) ?_ | refine zN (by omega) ?_ | refine amin ?_ | refine amax ?_ | refine zU (by omega) ?_ | refine z8 (by omega) ?_ | refine zX (by omega) (by omega) ?_ | refine zR rfl ?_ | refine acellA ?_ | refine zB H b1 rfl ?_ | refine zC H b1 ?_ | refine zB H b2 rfl ?_ | refine zC H b2 ?_ | refine zB H b3 rfl ?_ | refine zC H b3 ?_ | refine zB H b4 rfl ?_ | refine zC H b4 ?_ | (apply zL H; (· repeat first | exact .h | apply AtK.t); (· rfl)) | (apply zA H; (· repeat first | exact .h | apply AtK.t)) | (apply zS H; (· repeat first | exact .h | apply AtK.t); (· rfl); (conv => whnf); clear H; intro τ H) | rw [List.length_map]); ((conv => whnf); (repeat ((first | with_reducible (first | refine zT rfl ?_ | refine zF rfl ?_ | refine zY rfl ?_) | refine zY (by decide) ?_ | refine zN (by decide) ?_ | with_reducible refine zQ ?_); (conv => whnf))))))
    refine aget (by omega) ht ?_
    ((conv => whnf); (repeat ((first | with_reducible (first | refine zT rfl ?_ | refine zF rfl ?_ | refine zY rfl ?_) | refine zY (by decide) ?_ | refine zN (by decide) ?_ | with_reducible refine zQ ?_); (conv => whnf))))
    (repeat ((first | refine zI (by omega) ?_ | refine zE (by omega) (by omega) ?_ | refine zD (by omega) (by omega) ?_ | refine zY (by omega) ?_ | refine zN (by omega) ?_ | refine amin ?_ | refine amax ?_ | refine zU (by omega) ?_ | refine z8 (by omega) ?_ | refine zX (by omega) (by omega) ?_ | refine zR rfl ?_ | refine acellA ?_ | refine zB H b1 rfl ?_ | refine zC H b1 ?_ | refine zB H b2 rfl ?_ | refine zC H b2 ?_ | refine zB H b3 rfl ?_ | refine zC H b3 ?_ | refine zB H b4 rfl ?_ | refine zC H b4 ?_ | (apply zL H; (· repeat first | exact .h | apply AtK.t); (· rfl)) | (apply zA H; (· repeat first | exact .h | apply AtK.t)) | (apply zS H; (· repeat first | exact .h | apply AtK.t); (· rfl); (conv => whnf); clear H; intro τ H) | rw [List.length_map]); ((conv => whnf); (repeat ((first | with_reducible (first | refine zT rfl ?_ | refine zF rfl ?_ | refine zY rfl ?_) | refine zY (by decide) ?_ | refine zN (by decide) ?_ | with_reducible refine zQ ?_); (conv => whnf))))))
    refine aload b2 (tk_cell hl) ?_
    ((conv => whnf); (repeat ((first | with_reducible (first | refine zT rfl ?_ | refine zF rfl ?_ | refine zY rfl ?_) | refine zY (by decide) ?_ | refine zN (by decide) ?_ | with_reducible refine zQ ?_); (conv => whnf))))
    (repeat ((first | refine zI (by omega) ?_ | refine zE (by omega) (by omega) ?_ | refine zD (by omega) (by omega) ?_ | refine zY (by omega) ?_ | refine zN (by omega) ?_ | refine amin ?_ | refine amax ?_ | refine zU (by omega) ?_ | refine z8 (by omega) ?_ | refine zX (by omega) (by omega) ?_ | refine zR rfl ?_ | refine acellA ?_ | refine zB H b1 rfl ?_ | refine zC H b1 ?_ | refine zB H b2 rfl ?_ | refine zC H b2 ?_ | refine zB H b3 rfl ?_ | refine zC H b3 ?_ | refine zB H b4 rfl ?_ | refine zC H b4 ?_ | (apply zL H; (· repeat first | exact .h | apply AtK.t); (· rfl)) | (apply zA H; (· repeat first | exact .h | apply AtK.t)) | (apply zS H; (· repeat first | exact .h | apply AtK.t); (· rfl); (conv => whnf); clear H; intro τ H) | rw [List.length_map]); ((conv => whnf); (repeat ((first | with_reducible (first | refine zT rfl ?_ | refine zF rfl ?_ | refine zY rfl ?_) | refine zY (by decide) ?_ | refine zN (by decide) ?_ | with_reducible refine zQ ?_); (conv => whnf))))))
    have bad (hc : n < 1 ∨ n > (R[k].1.length : Int) - R[k].2.1) : ∀ p : Bool, AVal.tup [sl .none [], boolv false, i64v 1] = .tup [sl .none (if (if n < 1 ∨ n > (R[k].1.length : Int) - R[k].2.1 then (1 : Int) else 0) = 0 then (R[k].1.drop R[k].2.1).take n.toNat else []), boolv (if (if n < 1 ∨ n > (R[k].1.length : Int) - R[k].2.1 then (1 : Int) else 0) = 0 then decide (n = (R[k].1.length : Int) - R[k].2.1) else false), i64v (if n < 1 ∨ n > (R[k].1.length : Int) - R[k].2.1 then 1 else 0)] ∧
        ∃ cs' E', RQ room (if n < 1 ∨ n > (R[k].1.length : Int) - R[k].2.1 then R else R.set k (R[k].1, R[k].2.1 + n.toNat, decide (n = (R[k].1.length : Int) - R[k].2.1))) cs' E' ∧ Hp σb (.o ix (.cells cs') :: (E' ++ F)) σ := fun _ => by
      rw [if_pos hc, if_pos hc]
      exact ⟨rfl, _, _, .row R ls tl r1 r2 h1 h2, H⟩
    by_cases c1 : n < 1
    · (repeat ((first | refine zI (by omega) ?_ | refine zE (by omega) (by omega) ?_ | refine zD (by omega) (by omega) ?_ | refine zY (by omega) ?_ | refine zN (by omega) ?_ | refine amin ?_ | refine amax ?_ | refine zU (by omega) ?_ | refine z8 (by omega) ?_ | refine zX (by omega) (by omega) ?_ | refine zR rfl ?_ | refine acellA ?_ | refine zB H b1 rfl ?_ | refine zC H b1 ?_ | refine zB H b2 rfl ?_ | refine zC H b2 ?_ | refine zB H b3 rfl ?_ | refine zC H b3 ?_ | refine zB H b4 rfl ?_ | refine zC H b4 ?_ | (apply zL H; (· repeat first | exact .h | apply AtK.t); (· rfl)) | (apply zA H; (· repeat first | exact .h | apply AtK.t)) | (apply zS H; (· repeat first | exact .h | apply AtK.t); (· rfl); (conv => whnf); clear H; intro τ H) | rw [List.length_map]); ((conv => whnf); (repeat ((first | with_reducible (first | refine zT rfl ?_ | refine zF rfl ?_ | refine zY rfl ?_) | refine zY (by decide) ?_ | refine zN (by decide) ?_ | with_reducible refine zQ ?_); (conv => whnf))))))
      exact aret VLe.tup_sl (Sub.refl _) (bad (.inl c1) true)
    (repeat ((first | refine zI (by omega) ?_ | refine zE (by omega) (by omega) ?_ | refine zD (by omega) (by omega) ?_ | refine zY (by omega) ?_ | refine zN (by omega) ?_ | refine amin ?_ | refine amax ?_ | refine zU (by omega) ?_ | refine z8 (by omega) ?_ | refine zX (by omega) (by omega) ?_ | refine zR rfl ?_ | refine acellA ?_ | refine zB H b1 rfl ?_ | refine zC H b1 ?_ | refine zB H b2 rfl ?_ | refine zC H b2 ?_ | refine zB H b3 rfl ?_ | refine zC H b3 ?_ | refine zB H b4 rfl ?_ | refine zC H b4 ?_ | (apply zL H; (· repeat first | exact .h | apply AtK.t); (· rfl)) | (apply zA H; (· repeat first | exact .h | apply AtK.t)) | (apply zS H; (· repeat first | exact .h | apply AtK.t); (· rfl); (conv => whnf); clear H; intro τ H) | rw [List.length_map]); ((conv => whnf); (repeat ((first | with_reducible (first | refine zT rfl ?_ | refine zF rfl ?_ | refine zY rfl ?_) | refine zY (by decide) ?_ | refine zN (by decide) ?_ | with_reducible refine zQ ?_); (conv => whnf))))))
    by_cases c2 : n > (R[k].1.length : Int) - R[k].2.1
    · (repeat ((first | refine zI (by omega) ?_ | refine zE (by omega) (by omega) ?_ | refine zD (by omega) (by omega) ?_ | refine zY (by omega) ?_ | refine zN (by omega) ?_ | refine amin ?_ | refine amax ?_ | refine zU (by omega) ?_ | refine z8 (by omega) ?_ | refine zX (by omega) (by omega) ?_ | refine zR rfl ?_ | refine acellA ?_ | refine zB H b1 rfl ?_ | refine zC H b1 ?_ | refine zB H b2 rfl ?_ | refine zC H b2 ?_ | refine zB H b3 rfl ?_ | refine zC H b3 ?_ | refine zB H b4 rfl ?_ | refine zC H b4 ?_ | (apply zL H; (· repeat first | exact .h | apply AtK.t); (· rfl)) | (apply zA H; (· repeat first | exact .h | apply AtK.t)) | (apply zS H; (· repeat first | exact .h | apply AtK.t); (· rfl); (conv => whnf); clear H; intro τ H) | rw [List.length_map]); ((conv => whnf); (repeat ((first | with_reducible (first | refine zT rfl ?_ | refine zF rfl ?_ | refine zY rfl ?_) | refine zY (by decide) ?_ | refine zN (by decide) ?_ | with_reducible refine zQ ?_); (conv => whnf))))))
      exact aret VLe.tup_sl (Sub.refl _) (bad (.inr c2) true)
    have hc : ¬ (n < 1 ∨ n > (R[k].1.length : Int) - R[k].2.1) := by omega
    clear bad
    rw [if_neg hc, if_neg hc, if_pos rfl, if_pos rfl]
    (repeat ((first | refine zI (by omega) ?_ | refine zE (by omega) (by omega) ?_ | refine zD (by omega) (by omega) ?_ | refine zY (by omega) ?_ | refine zN (by omega) ?_ | refine amin ?_ | refine amax ?_ | refine zU (by omega) ?_ | refine z8 (by omega) ?_ | refine zX (by omega) (by omega) ?_ | refine zR rfl ?_ | refine acellA ?_ | refine zB H b1 rfl ?_ | refine zC H b1 ?_ | refine zB H b2 rfl ?_ | refine zC H b2 ?_ | refine zB H b3 rfl ?_ | refine zC H b3 ?_ | refine zB H b4 rfl ?_ | refine zC H b4 ?_ | (apply zL H; (· repeat first | exact .h | apply AtK.t); (· rfl)) | (apply zA H; (· repeat first | exact .h | apply AtK.t)) | (apply zS H; (· repeat first | exact .h | apply AtK.t); (· rfl); (conv => whnf); clear H; intro τ H) | rw [List.length_map]); ((conv => whnf); (repeat ((first | with_reducible (first | refine zT rfl ?_ | refine zF rfl ?_ | refine zY rfl ?_) | refine zY (by decide) ?_ | refine zN (by decide) ?_ | with_reducible refine zQ ?_); (conv => whnf))))))
    refine aget (by omega) ht ?_
    ((conv => whnf); (repeat ((first | with_reducible (first | refine zT rfl ?_ | refine zF rfl ?_ | refine zY rfl ?_) | refine zY (by decide) ?_ | refine zN (by decide) ?_ | with_reducible refine zQ ?_); (conv => whnf))))
    (repeat ((first | refine zI (by omega) ?_ | refine zE (by omega) (by omega) ?_ | refine zD (by omega) (by omega) ?_ | refine zY (by omega) ?_ | refine zN (by omega) ?_ | refine amin ?_ | refine amax ?_ | refine zU (by omega) ?_ | refine z8 (by omega) ?_ | refine zX (by omega) (by omega) ?_ | refine zR rfl ?_ | refine acellA ?_ | refine zB H b1 rfl ?_ | refine zC H b1 ?_ | refine zB H b2 rfl ?_ | refine zC H b2 ?_ | refine zB H b3 rfl ?_ | refine zC H b3 ?_ | refine zB H b4 rfl ?_ | refine zC H b4 ?_ | (apply zL H; (· repeat first | exact .h | apply AtK.t); (· rfl)) | (apply zA H; (· repeat first | exact .h | apply AtK.t)) | (apply zS H; (· repeat first | exact .h | apply AtK.t); (· rfl); (conv => whnf); clear H; intro τ H) | rw [List.length_map]); ((conv => whnf); (repeat ((first | with_reducible (first | refine zT rfl ?_ | refine zF rfl ?_ | refine zY rfl ?_) | refine zY (by decide) ?_ | refine zN (by decide) ?_ | with_reducible refine zQ ?_); (conv => whnf))))))
    refine aload b2 (tk_cell hl) ?_
    ((conv => whnf); (repeat ((first | with_reducible (first | refine zT rfl ?_ | refine zF rfl ?_ | refine zY rfl ?_) | refine zY (by decide) ?_ | refine zN (by decide) ?_ | with_reducible refine zQ ?_); (conv => whnf))))
    (repeat ((first | refine zI (by omega) ?_ | refine zE (by omega) (by omega) ?_ | refine zD (by omega) (by omega) ?_ | refine zY (by omega) ?_ | refine zN (by omega) ?_ | refine amin ?_ | refine amax ?_ | refine zU (by omega) ?_ | refine z8 (by omega) ?_ | refine zX (by omega) (by omega) ?_ | refine zR rfl ?_ | refine acellA ?_ | refine zB H b1 rfl ?_ | refine zC H b1 ?_ | refine zB H b2 rfl ?_ | refine zC H b2 ?_ | refine zB H b3 rfl ?_ | refine zC H b3 ?_ | refine zB H b4 rfl ?_ | refine zC H b4 ?_ | (apply zL H; (· repeat first | exact .h | apply AtK.t); (· rfl)) | (apply zA H; (· repeat first | exact .h | apply AtK.t)) | (apply zS H; (· repeat first | exact .h | apply AtK.t); (· rfl); (conv => whnf); clear H; intro τ H) | rw [List.length_map]); ((conv => whnf); (repeat ((first | with_reducible (first | refine zT rfl ?_ | refine zF rfl ?_ | refine zY rfl ?_) | refine zY (by decide) ?_ | refine zN (by decide) ?_ | with_reducible refine zQ ?_); (conv => whnf))))))
    refine aload b2 (tk_cell hl) ?_
    ((conv => whnf); (repeat ((first | with_reducible (first | refine zT rfl ?_ | refine zF rfl ?_ | refine zY rfl ?_) | refine zY (by decide) ?_ | refine zN (by decide) ?_ | with_reducible refine zQ ?_); (conv => whnf))))
    (repeat ((first | refine zI (by omega) ?_ | refine zE (by omega) (by omega) ?_ | refine zD (by omega) (by omega) ?_ | refine zY (by omega) ?_ | refine zN (by omega) ?_ | refine amin ?_ | refine amax ?_ | refine zU (by omega) ?_ | refine z8 (by omega) ?_ | refine zX (by omega) (by omega) ?_ | refine zR rfl ?_ | refine acellA ?_ | refine zB H b1 rfl ?_ | refine zC H b1 ?_ | refine zB H b2 rfl ?_ | refine zC H b2 ?_ | refine zB H b3 rfl ?_ | refine zC H b3 ?_ | refine zB H b4 rfl ?_ | refine zC H b4 ?_ | (apply zL H; (· repeat first | exact .h | apply AtK.t); (· rfl)) | (apply zA H; (· repeat first | exact .h | apply AtK.t)) | (apply zS H; (· repeat first | exact .h | apply AtK.t); (· rfl); (conv => whnf); clear H; intro τ H) | rw [List.length_map]); ((conv => whnf); (repeat ((first | with_reducible (first | refine zT rfl ?_ | refine zF rfl ?_ | refine zY rfl ?_) | refine zY (by decide) ?_ | refine zN (by decide) ?_ | with_reducible refine zQ ?_); (conv => whnf))))))
    refine acut (by omega) (by omega) (by omega) ?_
    ((conv => whnf); (repeat ((first | with_reducible (first | refine zT rfl ?_ | refine zF rfl ?_ | refine zY rfl ?_) | refine zY (by decide) ?_ | refine zN (by decide) ?_ | with_reducible refine zQ ?_); (conv => whnf))))
    (repeat ((first | refine zI (by omega) ?_ | refine zE (by omega) (by omega) ?_ | refine zD (by omega) (by omega) ?_ | refine zY (by omega) ?_ | refine zN (by omega) ?_ | refine amin ?_ | refine amax ?_ | refine zU (by omega) ?_ | refine z8 (by omega) ?_ | refine zX (by omega) (by omega) ?_ | refine zR rfl ?_ | refine acellA ?_ | refine zB H b1 rfl ?_ | refine zC H b1 ?_ | refine zB H b2 rfl ?_ | refine zC H b2 ?_ | refine zB H b3 rfl ?_ | refine zC H b3 ?_ | refine zB H b4 rfl ?_ | refine zC H b4 ?_ | (apply zL H; (· repeat first | exact .h | apply AtK.t); (· rfl)) | (apply zA H; (· repeat first | exact .h | apply AtK.t)) | (apply zS H; (· repeat first | exact .h | apply AtK.t); (· rfl); (conv => whnf); clear H; intro τ H) | rw [List.length_map]); ((conv => whnf); (repeat ((first | with_reducible (first | refine zT rfl ?_ | refine zF rfl ?_ | refine zY rfl ?_) | refine zY (by decide) ?_ | refine zN (by decide) ?_ | with_reducible refine zQ ?_); (conv => whnf))))))
    refine aload b2 (tk_cell hl) ?_
    ((conv => whnf); (repeat ((first | with_reducible (first | refine zT rfl ?_ | refine zF rfl ?_ | refine zY rfl ?_) | refine zY (by decide) ?_ | refine zN (by decide) ?_ | with_reducible refine zQ ?_); (conv => whnf))))
    (repeat ((first | refine zI (by omega) ?_ | refine zE (by omega) (by omega) ?_ | refine zD (by omega) (by omega) ?_ | refine zY (by omega) ?_ | refine zN (by omega) ?_ | refine amin ?_ | refine amax ?_ | refine zU (by omega) ?_ | refine z8 (by omega) ?_ | refine zX (by omega) (by omega) ?_ | refine zR rfl ?_ | refine acellA ?_ | refine zB H b1 rfl ?_ | refine zC H b1 ?_ | refine zB H b2 rfl ?_ | refine zC H b2 ?_ | refine zB H b3 rfl ?_ | refine zC H b3 ?_ | refine zB H b4 rfl ?_ | refine zC H b4 ?_ | (apply zL H; (· repeat first | exact .h | apply AtK.t); (· rfl)) | (apply zA H; (· repeat first | exact .h | apply AtK.t)) | (apply zS H; (· repeat first | exact .h | apply AtK.t); (· rfl); (conv => whnf); clear H; intro τ H) | rw [List.length_map]); ((conv => whnf); (repeat ((first | with_reducible (first | refine zT rfl ?_ | refine zF rfl ?_ | refine zY rfl ?_) | refine zY (by decide) ?_ | refine zN (by decide) ?_ | with_reducible refine zQ ?_); (conv => whnf))))))
    refine row_set H (k := 2) (.t (.t .h)) hlt rfl ?_
    (conv => whnf)
    clear H b1 b2 b3
    intro τ H
    ((conv => whnf); (repeat ((first | with_reducible (first | refine zT rfl ?_ | refine zF rfl ?_ | refine zY rfl ?_) | refine zY (by decide) ?_ | refine zN (by decide) ?_ | with_reducible refine zQ ?_); (conv => whnf))))
    (repeat ((first | refine zI (by omega) ?_ | refine zE (by omega) (by omega) ?_ | refine zD (by omega) (by omega) ?_ | refine zY (by omega) ?_ | refine zN (by omega) ?_ | refine amin ?_ | refine amax ?_ | refine zU (by omega) ?_ | refine z8 (by omega) ?_ | refine zX (by omega) (by omega) ?_ | refine zR rfl ?_ | refine acellA ?_ | refine zB H b1 rfl ?_ | refine zC H b1 ?_ | refine zB H b2 rfl ?_ | refine zC H b2 ?_ | refine zB H b3 rfl ?_ | refine zC H b3 ?_ | refine zB H b4 rfl ?_ | refine zC H b4 ?_ | (apply zL H; (· repeat first | exact .h | apply AtK.t); (· rfl)) | (apply zA H; (· repeat first | exact .h | apply AtK.t)) | (apply zS H; (· repeat first | exact .h | apply AtK.t); (· rfl); (conv => whnf); clear H; intro τ H) | rw [List.length_map]); ((conv => whnf); (repeat ((first | with_reducible (first | refine zT rfl ?_ | refine zF rfl ?_ | refine zY rfl ?_) | refine zY (by decide) ?_ | refine zN (by decide) ?_ | with_reducible refine zQ ?_); (conv => whnf))))))
    refine row_set H (k := 3) (.t (.t (.t .h))) hlg rfl ?_
    (conv => whnf)
    clear H
    intro τ H
    ((conv => whnf); (repeat ((first | with_reducible (first | refine zT rfl ?_ | refine zF rfl ?_ | refine zY rfl ?_) | refine zY (by decide) ?_ | refine zN (by decide) ?_ | with_reducible refine zQ ?_); (conv => whnf))))
    (repeat ((first | refine zI (by omega) ?_ | refine zE (by omega) (by omega) ?_ | refine zD (by omega) (by omega) ?_ | refine zY (by omega) ?_ | refine zN (by omega) ?_ | refine amin ?_ | refine amax ?_ | refine zU (by omega) ?_ | refine z8 (by omega) ?_ | refine zX (by omega) (by omega) ?_ | refine zR rfl ?_ | refine acellA ?_ | refine zB H b1 rfl ?_ | refine zC H b1 ?_ | refine zB H b2 rfl ?_ | refine zC H b2 ?_ | refine zB H b3 rfl ?_ | refine zC H b3 ?_ | refine zB H b4 rfl ?_ | refine zC H b4 ?_ | (apply zL H; (· repeat first | exact .h | apply AtK.t); (· rfl)) | (apply zA H; (· repeat first | exact .h | apply AtK.t)) | (apply zS H; (· repeat first | exact .h | apply AtK.t); (· rfl); (conv => whnf); clear H; intro τ H) | rw [List.length_map]); ((conv => whnf); (repeat ((first | with_reducible (first | refine zT rfl ?_ | refine zF rfl ?_ | refine zY rfl ?_) | refine zY (by decide) ?_ | refine zN (by decide) ?_ | with_reducible refine zQ ?_); (conv => whnf))))))
    refine aret VLe.tup_sl (Sub.refl _) ⟨?_, _, _, .row (R.set k (R[k].1, R[k].2.1 + n.toNat, decide (n = (R[k].1.length : Int) - R[k].2.1))) ls tl r1 r2 ?_ ?_, ?_⟩
    · rw [show List.drop ((R[k].2.1 : Nat) : Int).toNat (List.take (((R[k].2.1 : Nat) : Int) + n).toNat (R[k].1.map byteV)) = ((R[k].1.drop R[k].2.1).take n.toNat).map byteV by
        rw [Int.toNat_natCast, show (((R[k].2.1 : Nat) : Int) + n).toNat = R[k].2.1 + n.toNat by omega, List.map_take, List.map_drop, List.take_drop]]
    · intro e; rw [← List.length_eq_zero_iff, List.length_set] at e; omega
    · rw [fst_set hl]; exact h2
    · rw [tk_set, gn_set, List.length_set]
      unfold tkv gnv
      dsimp only
      rw [show ((R[k].2.1 + n.toNat : Nat) : Int) = (R[k].2.1 : Int) + n by omega]
      exact H
theorem gone_at {R : List R4} {i : Nat} (h : i < R.length) : goneR R i = R.set i (R[i].1, R[i].2.1, true) := by unfold goneR; rw [List.getElem?_eq_getElem h]
set_option maxRecDepth 20000 in
theorem rDisc04 (h : RQ room R cs E) (H : Hp σb (.o ix (.cells cs) :: (E ++ F)) σ) (hR : R.length ≤ 1000) (id : Nat) (hid : id < 18446744073709551616) :
    ACalls Try.prog i_bowlineref04_Queue_Discard [.ptr ix 0, u64v id] σ fun v σ' => v = i64v (discR R id) ∧ ∃ cs' E', RQ room (if discR R id = 0 then goneR R (id - 1) else R) cs' E' ∧ Hp σb (.o ix (.cells cs') :: (E' ++ F)) σ' := by
  have b1 := H.get (k := 0) rfl
  refine k_bowlineref04_Queue_Discard rfl ?_
  ((conv => whnf); (repeat ((first | with_reducible (first | refine zT rfl ?_ | refine zF rfl ?_ | refine zY rfl ?_) | refine zY (by decide) ?_ | refine zN (by decide) ?_ | with_reducible refine zQ ?_); (conv => whnf))))
  by_cases c1 : id < 1
  · have e : discR R id = 4 := if_pos (.inl c1)
    rw [e, if_neg (by decide)]
    (repeat ((first | refine zI (by omega) ?_ | refine zE (by omega) (by omega) ?_ | refine zD (by omega) (by omega) ?_ | refine zY (by omega) ?_ | refine zN (by omega) ?_ | refine amin ?_ | refine amax ?_ | refine zU (by omega) ?_ | refine z8 (by omega) ?_ | refine zX (by omega) (by omega) ?_ | refine zR rfl ?_ | refine acellA ?_ | refine zB H b1 rfl ?_ | refine zC H b1 ?_ | refine zB H b2 rfl ?_ | refine zC H b2 ?_ | refine zB H b3 rfl ?_ | refine zC H b3 ?_ | refine zB H b4 rfl ?_ | refine zC H b4 ?_ | (apply zL H; (· repeat first | exact .h | apply AtK.t); (· rfl)) | (apply zA H; (· repeat first | exact .h | apply AtK.t)) | (apply zS H; (· repeat first | exact .h | apply AtK.t); (· rfl); (conv => whnf); clear H; intro τ H) | rw [List.length_map]); ((conv => whnf); (repeat ((first | with_reducible (first | refine zT rfl ?_ | refine zF rfl ?_ | refine zY rfl ?_) | refine zY (by decide) ?_ | refine zN (by decide) ?_ | with_reducible refine zQ ?_); (conv => whnf))))))
    exact aret (VLe.refl _) (Sub.refl _) ⟨rfl, cs, E, h, H⟩
  by_cases c2 : R.length < id
  · have e : discR R id = 4 := if_pos (.inr c2)
    rw [e, if_neg (by decide)]
    cases h with
    | nil =>
      (repeat ((first | refine zI (by omega) ?_ | refine zE (by omega) (by omega) ?_ | refine zD (by omega) (by omega) ?_ | refine zY (by omega) ?_ | refine zN (by omega) ?_ | refine amin ?_ | refine amax ?_ | refine zU (by omega) ?_ | refine z8 (by omega) ?_ | refine zX (by omega) (by omega) ?_ | refine zR rfl ?_ | refine acellA ?_ | refine zB H b1 rfl ?_ | refine zC H b1 ?_ | refine zB H b2 rfl ?_ | refine zC H b2 ?_ | refine zB H b3 rfl ?_ | refine zC H b3 ?_ | refine zB H b4 rfl ?_ | refine zC H b4 ?_ | (apply zL H; (· repeat first | exact .h | apply AtK.t); (· rfl)) | (apply zA H; (· repeat first | exact .h | apply AtK.t)) | (apply zS H; (· repeat first | exact .h | apply AtK.t); (· rfl); (conv => whnf); clear H; intro τ H) | rw [List.length_map]); ((conv => whnf); (repeat ((first | with_reducible (first | refine zT rfl ?_ | refine zF rfl ?_ | refine zY rfl ?_) | refine zY (by decide) ?_ | refine zN (by decide) ?_ | with_reducible refine zQ ?_); (conv => whnf))))))
      exact aret (VLe.refl _) (Sub.refl _) ⟨rfl, _, _, .nil, H⟩
    | row R ls tl r1 r2 h1 h2 =>
      have hl := ls_len h2
      (repeat ((first | refine zI (by omega) ?_ | refine zE (by omega) (by omega) ?_ | refine zD (by omega) (by omega) ?_ | refine zY (by omega) ?_ | refine zN (by omega) ?_ | refine amin ?_ | refine amax ?_ | refine zU (by omega) ?_ | refine z8 (by omega) ?_ | refine zX (by omega) (by omega) ?_ | refine zR rfl ?_ | refine acellA ?_ | refine zB H b1 rfl ?_ | refine zC H b1 ?_ | refine zB H b2 rfl ?_ | refine zC H b2 ?_ | refine zB H b3 rfl ?_ | refine zC H b3 ?_ | refine zB H b4 rfl ?_ | refine zC H b4 ?_ | (apply zL H; (· repeat first | exact .h | apply AtK.t); (· rfl)) | (apply zA H; (· repeat first | exact .h | apply AtK.t)) | (apply zS H; (· repeat first | exact .h | apply AtK.t); (· rfl); (conv => whnf); clear H; intro τ H) | rw [List.length_map]); ((conv => whnf); (repeat ((first | with_reducible (first | refine zT rfl ?_ | refine zF rfl ?_ | refine zY rfl ?_) | refine zY (by decide) ?_ | refine zN (by decide) ?_ | with_reducible refine zQ ?_); (conv => whnf))))))
      exact aret (VLe.refl _) (Sub.refl _) ⟨rfl, _, _, .row R ls tl r1 r2 h1 h2, H⟩
  have hi : id - 1 < R.length := by omega
  have eR : discR R id = if R[id - 1].2.2 = true then 4 else if 0 < R[id - 1].2.1 then 7 else 0 := by
    unfold discR; rw [if_neg (by omega), List.getElem?_eq_getElem hi]
  cases h with
  | nil => simp at hi
  | row R ls tl r1 r2 h1 h2 =>
    have hl := ls_len h2
    have b2 := H.get (k := 2) rfl
    have b3 := H.get (k := 3) rfl
    have hlg : id - 1 < (R.map gnv).length := by rw [List.length_map]; exact hi
    (repeat ((first | refine zI (by omega) ?_ | refine zE (by omega) (by omega) ?_ | refine zD (by omega) (by omega) ?_ | refine zY (by omega) ?_ | refine zN (by omega) ?_ | refine amin ?_ | refine amax ?_ | refine zU (by omega) ?_ | refine z8 (by omega) ?_ | refine zX (by omega) (by omega) ?_ | refine zR rfl ?_ | refine acellA ?_ | refine zB H b1 rfl ?_ | refine zC H b1 ?_ | refine zB H b2 rfl ?_ | refine zC H b2 ?_ | refine zB H b3 rfl ?_ | refine zC H b3 ?_ | refine zB H b4 rfl ?_ | refine zC H b4 ?_ | (apply zL H; (· repeat first | exact .h | apply AtK.t); (· rfl)) | (apply zA H; (· repeat first | exact .h | apply AtK.t)) | (apply zS H; (· repeat first | exact .h | apply AtK.t); (· rfl); (conv => whnf); clear H; intro τ H) | rw [List.length_map]); ((conv => whnf); (repeat ((first | with_reducible (first | refine zT rfl ?_ | refine zF rfl ?_ | refine zY rfl ?_) | refine zY (by decide) ?_ | refine zN (by decide) ?_ | with_reducible refine zQ ?_); (conv => whnf))))))
    rw [show ((id : Nat) : Int) - 1 = ((id - 1 : Nat) : Int) by omega]
    (repeat ((first | refine zI (by omega) ?_ | refine zE (by omega) (by omega) ?_ | refine zD (by omega) (by omega) ?_ | refine zY (by omega) ?_ | refine zN (by omega) ?_ | refine amin ?_ | refine amax ?_ | refine zU (by omega) ?_ | refine z8 (by omega) ?_ | refine zX (by omega) (by omega) ?_ | refine zR rfl ?_ | refine acellA ?_ | refine zB H b1 rfl ?_ | refine zC H b1 ?_ | refine zB H b2 rfl ?_ | refine zC H b2 ?_ | refine zB H b3 rfl ?_ | refine zC H b3 ?_ | refine zB H b4 rfl ?_ | refine zC H b4 ?_ | (apply zL H; (· repeat first | exact .h | apply AtK.t); (· rfl)) | (apply zA H; (· repeat first | exact .h | apply AtK.t)) | (apply zS H; (· repeat first | exact .h | apply AtK.t); (· rfl); (conv => whnf); clear H; intro τ H) | rw [List.length_map]); ((conv => whnf); (repeat ((first | with_reducible (first | refine zT rfl ?_ | refine zF rfl ?_ | refine zY rfl ?_) | refine zY (by decide) ?_ | refine zN (by decide) ?_ | with_reducible refine zQ ?_); (conv => whnf))))))
    rcases cases4 R[id - 1] with g | g
    · refine aload b3 (gn_cell hi g) ?_
      rw [eR, if_pos g, if_neg (by decide)]
      ((conv => whnf); (repeat ((first | with_reducible (first | refine zT rfl ?_ | refine zF rfl ?_ | refine zY rfl ?_) | refine zY (by decide) ?_ | refine zN (by decide) ?_ | with_reducible refine zQ ?_); (conv => whnf))))
      exact aret (VLe.refl _) (Sub.refl _) ⟨rfl, _, _, .row R ls tl r1 r2 h1 h2, H⟩
    refine aload b3 (gn_cell hi g) ?_
    rw [eR, if_neg (by rw [g]; decide)]
    ((conv => whnf); (repeat ((first | with_reducible (first | refine zT rfl ?_ | refine zF rfl ?_ | refine zY rfl ?_) | refine zY (by decide) ?_ | refine zN (by decide) ?_ | with_reducible refine zQ ?_); (conv => whnf))))
    (repeat ((first | refine zI (by omega) ?_ | refine zE (by omega) (by omega) ?_ | refine zD (by omega) (by omega) ?_ | refine zY (by omega) ?_ | refine zN (by omega) ?_ | refine amin ?_ | refine amax ?_ | refine zU (by omega) ?_ | refine z8 (by omega) ?_ | refine zX (by omega) (by omega) ?_ | refine zR rfl ?_ | refine acellA ?_ | refine zB H b1 rfl ?_ | refine zC H b1 ?_ | refine zB H b2 rfl ?_ | refine zC H b2 ?_ | refine zB H b3 rfl ?_ | refine zC H b3 ?_ | refine zB H b4 rfl ?_ | refine zC H b4 ?_ | (apply zL H; (· repeat first | exact .h | apply AtK.t); (· rfl)) | (apply zA H; (· repeat first | exact .h | apply AtK.t)) | (apply zS H; (· repeat first | exact .h | apply AtK.t); (· rfl); (conv => whnf); clear H; intro τ H) | rw [List.length_map]); ((conv => whnf); (repeat ((first | with_reducible (first | refine zT rfl ?_ | refine zF rfl ?_ | refine zY rfl ?_) | refine zY (by decide) ?_ | refine zN (by decide) ?_ | with_reducible refine zQ ?_); (conv => whnf))))))
    rw [show ((id : Nat) : Int) - 1 = ((id - 1 : Nat) : Int) by omega]
    (repeat ((first | refine zI (by omega) ?_ | refine zE (by omega) (by omega) ?_ | refine zD (by omega) (by omega) ?_ | refine zY (by omega) ?_ | refine zN (by omega) ?_ | refine amin ?_ | refine amax ?_ | refine zU (by omega) ?_ | refine z8 (by omega) ?_ | refine zX (by omega) (by omega) ?_ | refine zR rfl ?_ | refine acellA ?_ | refine zB H b1 rfl ?_ | refine zC H b1 ?_ | refine zB H b2 rfl ?_ | refine zC H b2 ?_ | refine zB H b3 rfl ?_ | refine zC H b3 ?_ | refine zB H b4 rfl ?_ | refine zC H b4 ?_ | (apply zL H; (· repeat first | exact .h | apply AtK.t); (· rfl)) | (apply zA H; (· repeat first | exact .h | apply AtK.t)) | (apply zS H; (· repeat first | exact .h | apply AtK.t); (· rfl); (conv => whnf); clear H; intro τ H) | rw [List.length_map]); ((conv => whnf); (repeat ((first | with_reducible (first | refine zT rfl ?_ | refine zF rfl ?_ | refine zY rfl ?_) | refine zY (by decide) ?_ | refine zN (by decide) ?_ | with_reducible refine zQ ?_); (conv => whnf))))))
    refine aload b2 (tk_cell hi) ?_
    by_cases c3 : 0 < R[id - 1].2.1
    · rw [if_pos c3, if_neg (by decide)]
      ((conv => whnf); (repeat ((first | with_reducible (first | refine zT rfl ?_ | refine zF rfl ?_ | refine zY rfl ?_) | refine zY (by decide) ?_ | refine zN (by decide) ?_ | with_reducible refine zQ ?_); (conv => whnf))))
      (repeat ((first | refine zI (by omega) ?_ | refine zE (by omega) (by omega) ?_ | refine zD (by omega) (by omega) ?_ | refine zY (by omega) ?_ | refine zN (by omega) ?_ | refine amin ?_ | refine amax ?_ | refine zU (by omega) ?_ | refine z8 (by omega) ?_ | refine zX (by omega) (by omega) ?_ | refine zR rfl ?_ | refine acellA ?_ | refine zB H b1 rfl ?_ | refine zC H b1 ?_ | refine zB H b2 rfl ?_ | refine zC H b2 ?_ | refine zB H b3 rfl ?_ | refine zC H b3 ?_ | refine zB H b4 rfl ?_ | refine zC H b4 ?_ | (apply zL H; (· repeat first | exact .h | apply AtK.t); (· rfl)) | (apply zA H; (· repeat first | exact .h | apply AtK.t)) | (apply zS H; (· repeat first | exact .h | apply AtK.t); (· rfl); (conv => whnf); clear H; intro τ H) | rw [List.length_map]); ((conv => whnf); (repeat ((first | with_reducible (first | refine zT rfl ?_ | refine zF rfl ?_ | refine zY rfl ?_) | refine zY (by decide) ?_ | refine zN (by decide) ?_ | with_reducible refine zQ ?_); (conv => whnf))))))
      exact aret (VLe.refl _) (Sub.refl _) ⟨rfl, _, _, .row R ls tl r1 r2 h1 h2, H⟩
    rw [if_neg c3, if_pos rfl, gone_at hi]
    ((conv => whnf); (repeat ((first | with_reducible (first | refine zT rfl ?_ | refine zF rfl ?_ | refine zY rfl ?_) | refine zY (by decide) ?_ | refine zN (by decide) ?_ | with_reducible refine zQ ?_); (conv => whnf))))
    (repeat ((first | refine zI (by omega) ?_ | refine zE (by omega) (by omega) ?_ | refine zD (by omega) (by omega) ?_ | refine zY (by omega) ?_ | refine zN (by omega) ?_ | refine amin ?_ | refine amax ?_ | refine zU (by omega) ?_ | refine z8 (by omega) ?_ | refine zX (by omega) (by omega) ?_ | refine zR rfl ?_ | refine acellA ?_ | refine zB H b1 rfl ?_ | refine zC H b1 ?_ | refine zB H b2 rfl ?_ | refine zC H b2 ?_ | refine zB H b3 rfl ?_ | refine zC H b3 ?_ | refine zB H b4 rfl ?_ | refine zC H b4 ?_ | (apply zL H; (· repeat first | exact .h | apply AtK.t); (· rfl)) | (apply zA H; (· repeat first | exact .h | apply AtK.t)) | (apply zS H; (· repeat first | exact .h | apply AtK.t); (· rfl); (conv => whnf); clear H; intro τ H) | rw [List.length_map]); ((conv => whnf); (repeat ((first | with_reducible (first | refine zT rfl ?_ | refine zF rfl ?_ | refine zY rfl ?_) | refine zY (by decide) ?_ | refine zN (by decide) ?_ | with_reducible refine zQ ?_); (conv => whnf))))))
    rw [show ((id : Nat) : Int) - 1 = ((id - 1 : Nat) : Int) by omega]
    (repeat ((first | refine zI (by omega) ?_ | refine zE (by omega) (by omega) ?_ | refine zD (by omega) (by omega) ?_ | refine zY (by omega) ?_ | refine zN (by omega) ?_ | refine amin ?_ | refine amax ?_ | refine zU (by omega) ?_ | refine z8 (by omega) ?_ | refine zX (by omega) (by omega) ?_ | refine zR rfl ?_ | refine acellA ?_ | refine zB H b1 rfl ?_ | refine zC H b1 ?_ | refine zB H b2 rfl ?_ | refine zC H b2 ?_ | refine zB H b3 rfl ?_ | refine zC H b3 ?_ | refine zB H b4 rfl ?_ | refine zC H b4 ?_ | (apply zL H; (· repeat first | exact .h | apply AtK.t); (· rfl)) | (apply zA H; (· repeat first | exact .h | apply AtK.t)) | (apply zS H; (· repeat first | exact .h | apply AtK.t); (· rfl); (conv => whnf); clear H; intro τ H) | rw [List.length_map]); ((conv => whnf); (repeat ((first | with_reducible (first | refine zT rfl ?_ | refine zF rfl ?_ | refine zY rfl ?_) | refine zY (by decide) ?_ | refine zN (by decide) ?_ | with_reducible refine zQ ?_); (conv => whnf))))))
    refine row_set H (k := 3) (.t (.t (.t .h))) hlg rfl ?_
    (conv => whnf)
    clear H b1 b2 b3
    intro τ H
    ((conv => whnf); (repeat ((first | with_reducible (first | refine zT rfl ?_ | refine zF rfl ?_ | refine zY rfl ?_) | refine zY (by decide) ?_ | refine zN (by decide) ?_ | with_reducible refine zQ ?_); (conv => whnf))))
    (repeat ((first | refine zI (by omega) ?_ | refine zE (by omega) (by omega) ?_ | refine zD (by omega) (by omega) ?_ | refine zY (by omega) ?_ | refine zN (by omega) ?_ | refine amin ?_ | refine amax ?_ | refine zU (by omega) ?_ | refine z8 (by omega) ?_ | refine zX (by omega) (by omega) ?_ | refine zR rfl ?_ | refine acellA ?_ | refine zB H b1 rfl ?_ | refine zC H b1 ?_ | refine zB H b2 rfl ?_ | refine zC H b2 ?_ | refine zB H b3 rfl ?_ | refine zC H b3 ?_ | refine zB H b4 rfl ?_ | refine zC H b4 ?_ | (apply zL H; (· repeat first | exact .h | apply AtK.t); (· rfl)) | (apply zA H; (· repeat first | exact .h | apply AtK.t)) | (apply zS H; (· repeat first | exact .h | apply AtK.t); (· rfl); (conv => whnf); clear H; intro τ H) | rw [List.length_map]); ((conv => whnf); (repeat ((first | with_reducible (first | refine zT rfl ?_ | refine zF rfl ?_ | refine zY rfl ?_) | refine zY (by decide) ?_ | refine zN (by decide) ?_ | with_reducible refine zQ ?_); (conv => whnf))))))
    refine aret (VLe.refl _) (Sub.refl _) ⟨rfl, _, _, .row (R.set (id - 1) (R[id - 1].1, R[id - 1].2.1, true)) ls tl r1 r2 ?_ ?_, ?_⟩
    · intro e; rw [← List.length_eq_zero_iff, List.length_set] at e; omega
    · rw [fst_set hi]; exact h2
    · rw [tk_keep hi, gn_set, List.length_set]
      exact H
def goneTo (R : List R4) (i : Nat) : List R4 := clearR (R.take i) ++ R.drop i
theorem goneTo_zero (R : List R4) : goneTo R 0 = R := rfl
theorem goneTo_all (R : List R4) : goneTo R R.length = clearR R := by unfold goneTo; rw [List.take_length, List.drop_length, List.append_nil]
theorem goneTo_len (R : List R4) {i : Nat} (h : i ≤ R.length) : (goneTo R i).length = R.length := by unfold goneTo clearR; rw [List.length_append, List.length_map, List.length_take, List.length_drop]; omega
theorem goneTo_succ {R : List R4} {i : Nat} (h : i < R.length) : goneTo R (i + 1) = (goneTo R i).set i (R[i].1, R[i].2.1, true) := by
  unfold goneTo
  rw [List.set_append_right _ _ (by unfold clearR; rw [List.length_map, List.length_take]; omega), List.drop_eq_getElem_cons h, take4 h]
  have e : i - (clearR (R.take i)).length = 0 := by unfold clearR; rw [List.length_map, List.length_take]; omega
  rw [e, List.set_cons_zero]
  unfold clearR
  rw [List.map_append, List.append_assoc]; rfl
theorem goneTo_tk (R : List R4) (i : Nat) : (goneTo R i).map tkv = R.map tkv := by
  unfold goneTo clearR
  rw [List.map_append, List.map_map]
  show (R.take i).map tkv ++ _ = _
  rw [← List.map_append, List.take_append_drop]
theorem clear_fst (R : List R4) : (clearR R).map (·.1) = R.map (·.1) := by unfold clearR; rw [List.map_map]; rfl
set_option maxRecDepth 20000 in
theorem rClear04 (h : RQ room R cs E) (H : Hp σb (.o ix (.cells cs) :: (E ++ F)) σ) (hR : R.length ≤ 1000) :
    ACalls Try.prog i_bowlineref04_Queue_Clear [.ptr ix 0] σ fun v σ' => v = u64s .none (idsL (live4 0 R)) ∧ ∃ cs' E', RQ room (clearR R) cs' E' ∧ Hp σb (.o ix (.cells cs') :: (E' ++ F)) σ' := by
  have b1 := H.get (k := 0) rfl
  have hf := h.rf H
  refine k_bowlineref04_Queue_Clear rfl ?_
  ((conv => whnf); (repeat ((first | with_reducible (first | refine zT rfl ?_ | refine zF rfl ?_ | refine zY rfl ?_) | refine zY (by decide) ?_ | refine zN (by decide) ?_ | with_reducible refine zQ ?_); (conv => whnf))))
  refine acall (rIDs04 b1 hf (by omega)) ?_
  rintro _ σ_ ⟨rfl, e_⟩
  obtain rfl := e_.symm
  refine ⟨?_, Ext.refl _⟩
  ((conv => whnf); (repeat ((first | with_reducible (first | refine zT rfl ?_ | refine zF rfl ?_ | refine zY rfl ?_) | refine zY (by decide) ?_ | refine zN (by decide) ?_ | with_reducible refine zQ ?_); (conv => whnf))))
  cases h with
  | nil =>
    refine aloop (α := Unit) (fun _ => [(s3, u64s .none (idsL (live4 0 []))), (s4, i64v 0)]) (fun _ => σ) (fun _ => True) (fun _ => 0) () trivial (Sub.refl _) ?_ ?_
    · ((conv => whnf); (repeat ((first | with_reducible (first | refine zT rfl ?_ | refine zF rfl ?_ | refine zY rfl ?_) | refine zY (by decide) ?_ | refine zN (by decide) ?_ | with_reducible refine zQ ?_); (conv => whnf))))
      (repeat' first | with_reducible exact EnvLe.refl _ | (refine EnvLe.node ?_ (by first | exact Or.inl rfl | exact Or.inr (Or.inl rfl) | exact Or.inr (Or.inr ⟨nofun, VLe.slice _ _ _⟩)) ?_))
    rintro _ _
    ((conv => whnf); (repeat ((first | with_reducible (first | refine zT rfl ?_ | refine zF rfl ?_ | refine zY rfl ?_) | refine zY (by decide) ?_ | refine zN (by decide) ?_ | with_reducible refine zQ ?_); (conv => whnf))))
    (repeat ((first | refine zI (by omega) ?_ | refine zE (by omega) (by omega) ?_ | refine zD (by omega) (by omega) ?_ | refine zY (by omega) ?_ | refine zN (by omega) ?_ | refine amin ?_ | refine amax ?_ | refine zU (by omega) ?_ | refine z8 (by omega) ?_ | refine zX (by omega) (by omega) ?_ | refine zR rfl ?_ | refine acellA ?_ | refine zB H b1 rfl ?_ | refine zC H b1 ?_ | refine zB H b2 rfl ?_ | refine zC H b2 ?_ | refine zB H b3 rfl ?_ | refine zC H b3 ?_ | refine zB H b4 rfl ?_ | refine zC H b4 ?_ | (apply zL H; (· repeat first | exact .h | apply AtK.t); (· rfl)) | (apply zA H; (· repeat first | exact .h | apply AtK.t)) | (apply zS H; (· repeat first | exact .h | apply AtK.t); (· rfl); (conv => whnf); clear H; intro τ H) | rw [List.length_map]); ((conv => whnf); (repeat ((first | with_reducible (first | refine zT rfl ?_ | refine zF rfl ?_ | refine zY rfl ?_) | refine zY (by decide) ?_ | refine zN (by decide) ?_ | with_reducible refine zQ ?_); (conv => whnf))))))
    exact aret (VLe.refl _) (Sub.refl _) ⟨rfl, _, _, .nil, H⟩
  | row R ls tl r1 r2 h1 h2 =>
    have hl := ls_len h2
    refine aloop (α := Nat × AHeap) (fun y => [(s3, u64s .none (idsL (live4 0 R))), (s4, i64v y.1)]) (fun y => y.2) (fun y => y.1 ≤ R.length ∧ Hp σb (.o ix (.cells (qc4 room ls tl r1 r2 R.length)) :: .t tl :: .o r1 (.cells (R.map tkv)) :: .o r2 (.cells ((goneTo R y.1).map gnv)) :: F) y.2) (fun y => R.length - y.1) (0, σ) ⟨Nat.zero_le _, H⟩ (Sub.refl _) ?_ ?_
    · ((conv => whnf); (repeat ((first | with_reducible (first | refine zT rfl ?_ | refine zF rfl ?_ | refine zY rfl ?_) | refine zY (by decide) ?_ | refine zN (by decide) ?_ | with_reducible refine zQ ?_); (conv => whnf))))
      (repeat' first | with_reducible exact EnvLe.refl _ | (refine EnvLe.node ?_ (by first | exact Or.inl rfl | exact Or.inr (Or.inl rfl) | exact Or.inr (Or.inr ⟨nofun, VLe.slice _ _ _⟩)) ?_))
    clear H b1 hf
    rintro ⟨i, τ⟩ ⟨hi, H⟩
    dsimp only at hi H ⊢
    ((conv => whnf); (repeat ((first | with_reducible (first | refine zT rfl ?_ | refine zF rfl ?_ | refine zY rfl ?_) | refine zY (by decide) ?_ | refine zN (by decide) ?_ | with_reducible refine zQ ?_); (conv => whnf))))
    (repeat ((first | refine zI (by omega) ?_ | refine zE (by omega) (by omega) ?_ | refine zD (by omega) (by omega) ?_ | refine zY (by omega) ?_ | refine zN (by omega) ?_ | refine amin ?_ | refine amax ?_ | refine zU (by omega) ?_ | refine z8 (by omega) ?_ | refine zX (by omega) (by omega) ?_ | refine zR rfl ?_ | refine acellA ?_ | refine zB H b1 rfl ?_ | refine zC H b1 ?_ | refine zB H b2 rfl ?_ | refine zC H b2 ?_ | refine zB H b3 rfl ?_ | refine zC H b3 ?_ | refine zB H b4 rfl ?_ | refine zC H b4 ?_ | (apply zL H; (· repeat first | exact .h | apply AtK.t); (· rfl)) | (apply zA H; (· repeat first | exact .h | apply AtK.t)) | (apply zS H; (· repeat first | exact .h | apply AtK.t); (· rfl); (conv => whnf); clear H; intro τ H) | rw [List.length_map]); ((conv => whnf); (repeat ((first | with_reducible (first | refine zT rfl ?_ | refine zF rfl ?_ | refine zY rfl ?_) | refine zY (by decide) ?_ | refine zN (by decide) ?_ | with_reducible refine zQ ?_); (conv => whnf))))))
    by_cases hlt : i < R.length
    · (repeat ((first | refine zI (by omega) ?_ | refine zE (by omega) (by omega) ?_ | refine zD (by omega) (by omega) ?_ | refine zY (by omega) ?_ | refine zN (by omega) ?_ | refine amin ?_ | refine amax ?_ | refine zU (by omega) ?_ | refine z8 (by omega) ?_ | refine zX (by omega) (by omega) ?_ | refine zR rfl ?_ | refine acellA ?_ | refine zB H b1 rfl ?_ | refine zC H b1 ?_ | refine zB H b2 rfl ?_ | refine zC H b2 ?_ | refine zB H b3 rfl ?_ | refine zC H b3 ?_ | refine zB H b4 rfl ?_ | refine zC H b4 ?_ | (apply zL H; (· repeat first | exact .h | apply AtK.t); (· rfl)) | (apply zA H; (· repeat first | exact .h | apply AtK.t)) | (apply zS H; (· repeat first | exact .h | apply AtK.t); (· rfl); (conv => whnf); clear H; intro τ H) | rw [List.length_map]); ((conv => whnf); (repeat ((first | with_reducible (first | refine zT rfl ?_ | refine zF rfl ?_ | refine zY rfl ?_) | refine zY (by decide) ?_ | refine zN (by decide) ?_ | with_reducible refine zQ ?_); (conv => whnf))))))
      refine row_set H (k := 3) (.t (.t (.t .h))) (by rw [List.length_map, goneTo_len R hi]; exact hlt) rfl ?_
      (conv => whnf)
      clear H
      intro τ H
      ((conv => whnf); (repeat ((first | with_reducible (first | refine zT rfl ?_ | refine zF rfl ?_ | refine zY rfl ?_) | refine zY (by decide) ?_ | refine zN (by decide) ?_ | with_reducible refine zQ ?_); (conv => whnf))))
      (repeat ((first | refine zI (by omega) ?_ | refine zE (by omega) (by omega) ?_ | refine zD (by omega) (by omega) ?_ | refine zY (by omega) ?_ | refine zN (by omega) ?_ | refine amin ?_ | refine amax ?_ | refine zU (by omega) ?_ | refine z8 (by omega) ?_ | refine zX (by omega) (by omega) ?_ | refine zR rfl ?_ | refine acellA ?_ | refine zB H b1 rfl ?_ | refine zC H b1 ?_ | refine zB H b2 rfl ?_ | refine zC H b2 ?_ | refine zB H b3 rfl ?_ | refine zC H b3 ?_ | refine zB H b4 rfl ?_ | refine zC H b4 ?_ | (apply zL H; (· repeat first | exact .h | apply AtK.t); (· rfl)) | (apply zA H; (· repeat first | exact .h | apply AtK.t)) | (apply zS H; (· repeat first | exact .h | apply AtK.t); (· rfl); (conv => whnf); clear H; intro τ H) | rw [List.length_map]); ((conv => whnf); (repeat ((first | with_reducible (first | refine zT rfl ?_ | refine zF rfl ?_ | refine zY rfl ?_) | refine zY (by decide) ?_ | refine zN (by decide) ?_ | with_reducible refine zQ ?_); (conv => whnf))))))
      refine ⟨(i + 1, τ), ⟨hlt, ?_⟩, by dsimp only; omega, Sub.refl _, ?_⟩
      · dsimp only
        rw [goneTo_succ hlt, gn_set]
        exact H
      ((conv => whnf); (repeat ((first | with_reducible (first | refine zT rfl ?_ | refine zF rfl ?_ | refine zY rfl ?_) | refine zY (by decide) ?_ | refine zN (by decide) ?_ | with_reducible refine zQ ?_); (conv => whnf))))
      (repeat' first | with_reducible exact EnvLe.refl _ | (refine EnvLe.node ?_ (by first | exact Or.inl rfl | exact Or.inr (Or.inl rfl) | exact Or.inr (Or.inr ⟨nofun, VLe.slice _ _ _⟩)) ?_))
    · (repeat ((first | refine zI (by omega) ?_ | refine zE (by omega) (by omega) ?_ | refine zD (by omega) (by omega) ?_ | refine zY (by omega) ?_ | refine zN (by omega) ?_ | refine amin ?_ | refine amax ?_ | refine zU (by omega) ?_ | refine z8 (by omega) ?_ | refine zX (by omega) (by omega) ?_ | refine zR rfl ?_ | refine acellA ?_ | refine zB H b1 rfl ?_ | refine zC H b1 ?_ | refine zB H b2 rfl ?_ | refine zC H b2 ?_ | refine zB H b3 rfl ?_ | refine zC H b3 ?_ | refine zB H b4 rfl ?_ | refine zC H b4 ?_ | (apply zL H; (· repeat first | exact .h | apply AtK.t); (· rfl)) | (apply zA H; (· repeat first | exact .h | apply AtK.t)) | (apply zS H; (· repeat first | exact .h | apply AtK.t); (· rfl); (conv => whnf); clear H; intro τ H) | rw [List.length_map]); ((conv => whnf); (repeat ((first | with_reducible (first | refine zT rfl ?_ | refine zF rfl ?_ | refine zY rfl ?_) | refine zY (by decide) ?_ | refine zN (by decide) ?_ | with_reducible refine zQ ?_); (conv => whnf))))))
      obtain rfl : i = R.length := by omega
      rw [goneTo_all] at H
      have ht := goneTo_tk R R.length
      rw [goneTo_all] at ht
      refine aret (VLe.refl _) (Sub.refl _) ⟨rfl, _, _, .row (clearR R) ls tl r1 r2 ?_ (by rw [clear_fst]; exact h2), ?_⟩
      · intro e; rw [← List.length_eq_zero_iff] at e; unfold clearR at e; rw [List.length_map] at e; exact h1 (List.length_eq_zero_iff.1 e)
      · rw [ht, show (clearR R).length = R.length by unfold clearR; rw [List.length_map]]
        exact H
end
end Go.Proofs.Ytagbbpllbiplkaa
/-
  A queue that no call made.
-/
namespace Go.Proofs.Ytagbbpllbiplkaa
set_option linter.unusedVariables false
set_option linter.unusedSimpArgs false
open Go Go.Am

abbrev zq : List AVal := [i64v 0, .slice 2 [] .full, i64v 0, u64v 0, i64v 0]
section
variable {σ : AHeap} {iq : Nat}
theorem qMadeZ (b1 : σ iq = some (.cells zq)) : ACalls Try.prog i_queue_Queue_made [.ptr iq 0] σ fun v σ' => v = boolv false ∧ σ' = σ := by
  refine k_queue_Queue_made rfl ?_
  have H := Hp.nil σ
  ((conv => whnf); (repeat ((first | with_reducible (first | refine zT rfl ?_ | refine zF rfl ?_ | refine zY rfl ?_) | refine zY (by decide) ?_ | refine zN (by decide) ?_ | with_reducible refine zQ ?_); (conv => whnf))))
  (repeat ((first | refine zI (by omega) ?_ | refine zE (by omega) (by omega) ?_ | refine zD (by omega) (by omega) ?_ | refine zY (by omega) ?_ | refine zN (by omega) ?_ | refine amin ?_ | refine amax ?_ | refine zU (by omega) ?_ | refine z8 (by omega) ?_ | refine zX (by omega) (by omega) ?_ | refine zR rfl ?_ | refine acellA ?_ | refine zB H b1 rfl ?_ | refine zC H b1 ?_ | refine zB H b2 rfl ?_ | refine zC H b2 ?_ | refine zB H b3 rfl ?_ | refine zC H b3 ?_ | refine zB H b4 rfl ?_ | refine zC H b4 ?_ | (apply zL H; (· repeat first | exact .h | apply AtK.t); (· rfl)) | (apply zA H; (· repeat first | exact .h | apply AtK.t)) | (apply zS H; (· repeat first | exact .h | apply AtK.t); (· rfl); (conv => whnf); clear H; intro τ H) | rw [List.length_map]); ((conv => whnf); (repeat ((first | with_reducible (first | refine zT rfl ?_ | refine zF rfl ?_ | refine zY rfl ?_) | refine zY (by decide) ?_ | refine zN (by decide) ?_ | with_reducible refine zQ ?_); (conv => whnf))))))
  exact aret_same ⟨(congrArg boolv (dec_congr (q := False) ⟨fun h => absurd h (by decide), False.elim⟩)).trans rfl, rfl⟩
theorem qTakeZ (b1 : σ iq = some (.cells zq)) (n : Int) : ACalls Try.prog i_queue_Queue_Take [.ptr iq 0, i64v n] σ fun v σ' => v = .tup [sl .none [], boolv false, i64v 6] ∧ σ' = σ := by
  refine k_queue_Queue_Take rfl ?_
  ((conv => whnf); (repeat ((first | with_reducible (first | refine zT rfl ?_ | refine zF rfl ?_ | refine zY rfl ?_) | refine zY (by decide) ?_ | refine zN (by decide) ?_ | with_reducible refine zQ ?_); (conv => whnf))))
  refine acall (qMadeZ b1) ?_
  rintro _ σ_ ⟨rfl, e_⟩
  obtain rfl := e_.symm
  refine ⟨?_, Ext.refl _⟩
  ((conv => whnf); (repeat ((first | with_reducible (first | refine zT rfl ?_ | refine zF rfl ?_ | refine zY rfl ?_) | refine zY (by decide) ?_ | refine zN (by decide) ?_ | with_reducible refine zQ ?_); (conv => whnf))))
  exact aret VLe.tup_sl (Sub.refl _) ⟨rfl, rfl⟩
theorem qDiscardZ (b1 : σ iq = some (.cells zq)) (id : Nat) : ACalls Try.prog i_queue_Queue_Discard [.ptr iq 0, u64v id] σ fun v σ' => v = i64v 6 ∧ σ' = σ := by
  refine k_queue_Queue_Discard rfl ?_
  ((conv => whnf); (repeat ((first | with_reducible (first | refine zT rfl ?_ | refine zF rfl ?_ | refine zY rfl ?_) | refine zY (by decide) ?_ | refine zN (by decide) ?_ | with_reducible refine zQ ?_); (conv => whnf))))
  refine ascope' (α := Unit) (fun _ => []) (fun _ => σ) (fun _ => 0) (fun _ => False) (fun _ => 0) ?_ ?_
  · ((conv => whnf); (repeat ((first | with_reducible (first | refine zT rfl ?_ | refine zF rfl ?_ | refine zY rfl ?_) | refine zY (by decide) ?_ | refine zN (by decide) ?_ | with_reducible refine zQ ?_); (conv => whnf))))
    intro hlab
    ((conv => whnf); (repeat ((first | with_reducible (first | refine zT rfl ?_ | refine zF rfl ?_ | refine zY rfl ?_) | refine zY (by decide) ?_ | refine zN (by decide) ?_ | with_reducible refine zQ ?_); (conv => whnf))))
    refine acall (qMadeZ b1) ?_
    rintro _ σ_ ⟨rfl, e_⟩
    obtain rfl := e_.symm
    refine ⟨?_, Ext.refl _⟩
    ((conv => whnf); (repeat ((first | with_reducible (first | refine zT rfl ?_ | refine zF rfl ?_ | refine zY rfl ?_) | refine zY (by decide) ?_ | refine zN (by decide) ?_ | with_reducible refine zQ ?_); (conv => whnf))))
    exact aret_same ⟨rfl, rfl⟩
  · intro _ h; exact h.elim
theorem qIDsZ (b1 : σ iq = some (.cells zq)) : ACalls Try.prog i_queue_Queue_IDs [.ptr iq 0] σ fun v σ' => v = .slice 1 [] .none ∧ σ' = σ := by
  refine k_queue_Queue_IDs rfl ?_
  have H := Hp.nil σ
  ((conv => whnf); (repeat ((first | with_reducible (first | refine zT rfl ?_ | refine zF rfl ?_ | refine zY rfl ?_) | refine zY (by decide) ?_ | refine zN (by decide) ?_ | with_reducible refine zQ ?_); (conv => whnf))))
  (repeat ((first | refine zI (by omega) ?_ | refine zE (by omega) (by omega) ?_ | refine zD (by omega) (by omega) ?_ | refine zY (by omega) ?_ | refine zN (by omega) ?_ | refine amin ?_ | refine amax ?_ | refine zU (by omega) ?_ | refine z8 (by omega) ?_ | refine zX (by omega) (by omega) ?_ | refine zR rfl ?_ | refine acellA ?_ | refine zB H b1 rfl ?_ | refine zC H b1 ?_ | refine zB H b2 rfl ?_ | refine zC H b2 ?_ | refine zB H b3 rfl ?_ | refine zC H b3 ?_ | refine zB H b4 rfl ?_ | refine zC H b4 ?_ | (apply zL H; (· repeat first | exact .h | apply AtK.t); (· rfl)) | (apply zA H; (· repeat first | exact .h | apply AtK.t)) | (apply zS H; (· repeat first | exact .h | apply AtK.t); (· rfl); (conv => whnf); clear H; intro τ H) | rw [List.length_map]); ((conv => whnf); (repeat ((first | with_reducible (first | refine zT rfl ?_ | refine zF rfl ?_ | refine zY rfl ?_) | refine zY (by decide) ?_ | refine zN (by decide) ?_ | with_reducible refine zQ ?_); (conv => whnf))))))
  refine aloop (α := Unit) (fun y => [(s13, i64v 0), (s3, .slice 1 [] .full)]) (fun y => σ) (fun y => True) (fun y => 0) () trivial (Sub.refl _) ?_ ?_
  · ((conv => whnf); (repeat ((first | with_reducible (first | refine zT rfl ?_ | refine zF rfl ?_ | refine zY rfl ?_) | refine zY (by decide) ?_ | refine zN (by decide) ?_ | with_reducible refine zQ ?_); (conv => whnf))))
    (repeat' first | with_reducible exact EnvLe.refl _ | (refine EnvLe.node ?_ (by first | exact Or.inl rfl | exact Or.inr (Or.inl rfl) | exact Or.inr (Or.inr ⟨nofun, VLe.slice _ _ _⟩)) ?_))
  rintro _ _
  ((conv => whnf); (repeat ((first | with_reducible (first | refine zT rfl ?_ | refine zF rfl ?_ | refine zY rfl ?_) | refine zY (by decide) ?_ | refine zN (by decide) ?_ | with_reducible refine zQ ?_); (conv => whnf))))
  (repeat ((first | refine zI (by omega) ?_ | refine zE (by omega) (by omega) ?_ | refine zD (by omega) (by omega) ?_ | refine zY (by omega) ?_ | refine zN (by omega) ?_ | refine amin ?_ | refine amax ?_ | refine zU (by omega) ?_ | refine z8 (by omega) ?_ | refine zX (by omega) (by omega) ?_ | refine zR rfl ?_ | refine acellA ?_ | refine zB H b1 rfl ?_ | refine zC H b1 ?_ | refine zB H b2 rfl ?_ | refine zC H b2 ?_ | refine zB H b3 rfl ?_ | refine zC H b3 ?_ | refine zB H b4 rfl ?_ | refine zC H b4 ?_ | (apply zL H; (· repeat first | exact .h | apply AtK.t); (· rfl)) | (apply zA H; (· repeat first | exact .h | apply AtK.t)) | (apply zS H; (· repeat first | exact .h | apply AtK.t); (· rfl); (conv => whnf); clear H; intro τ H) | rw [List.length_map]); ((conv => whnf); (repeat ((first | with_reducible (first | refine zT rfl ?_ | refine zF rfl ?_ | refine zY rfl ?_) | refine zY (by decide) ?_ | refine zN (by decide) ?_ | with_reducible refine zQ ?_); (conv => whnf))))))
  exact aret (VLe.slice _ _ _) (Sub.refl _) ⟨rfl, rfl⟩
theorem qClearZ (b1 : σ iq = some (.cells zq)) : ACalls Try.prog i_queue_Queue_Clear [.ptr iq 0] σ fun v σ' => v = .slice 1 [] .none ∧ σ' = σ := by
  refine k_queue_Queue_Clear rfl ?_
  ((conv => whnf); (repeat ((first | with_reducible (first | refine zT rfl ?_ | refine zF rfl ?_ | refine zY rfl ?_) | refine zY (by decide) ?_ | refine zN (by decide) ?_ | with_reducible refine zQ ?_); (conv => whnf))))
  refine acall (qIDsZ b1) ?_
  rintro _ σ_ ⟨rfl, e_⟩
  obtain rfl := e_.symm
  refine ⟨?_, Ext.refl _⟩
  ((conv => whnf); (repeat ((first | with_reducible (first | refine zT rfl ?_ | refine zF rfl ?_ | refine zY rfl ?_) | refine zY (by decide) ?_ | refine zN (by decide) ?_ | with_reducible refine zQ ?_); (conv => whnf))))
  refine acall (qMadeZ b1) ?_
  rintro _ σ_ ⟨rfl, e_⟩
  obtain rfl := e_.symm
  refine ⟨?_, Ext.refl _⟩
  ((conv => whnf); (repeat ((first | with_reducible (first | refine zT rfl ?_ | refine zF rfl ?_ | refine zY rfl ?_) | refine zY (by decide) ?_ | refine zN (by decide) ?_ | with_reducible refine zQ ?_); (conv => whnf))))
  exact aret_same ⟨rfl, rfl⟩
theorem qBytesZ (b1 : σ iq = some (.cells zq)) : ACalls Try.prog i_queue_Queue_Bytes [.ptr iq 0] σ fun v σ' => v = i64v 0 ∧ σ' = σ := by
  refine k_queue_Queue_Bytes rfl ?_
  have H := Hp.nil σ
  ((conv => whnf); (repeat ((first | with_reducible (first | refine zT rfl ?_ | refine zF rfl ?_ | refine zY rfl ?_) | refine zY (by decide) ?_ | refine zN (by decide) ?_ | with_reducible refine zQ ?_); (conv => whnf))))
  (repeat ((first | refine zI (by omega) ?_ | refine zE (by omega) (by omega) ?_ | refine zD (by omega) (by omega) ?_ | refine zY (by omega) ?_ | refine zN (by omega) ?_ | refine amin ?_ | refine amax ?_ | refine zU (by omega) ?_ | refine z8 (by omega) ?_ | refine zX (by omega) (by omega) ?_ | refine zR rfl ?_ | refine acellA ?_ | refine zB H b1 rfl ?_ | refine zC H b1 ?_ | refine zB H b2 rfl ?_ | refine zC H b2 ?_ | refine zB H b3 rfl ?_ | refine zC H b3 ?_ | refine zB H b4 rfl ?_ | refine zC H b4 ?_ | (apply zL H; (· repeat first | exact .h | apply AtK.t); (· rfl)) | (apply zA H; (· repeat first | exact .h | apply AtK.t)) | (apply zS H; (· repeat first | exact .h | apply AtK.t); (· rfl); (conv => whnf); clear H; intro τ H) | rw [List.length_map]); ((conv => whnf); (repeat ((first | with_reducible (first | refine zT rfl ?_ | refine zF rfl ?_ | refine zY rfl ?_) | refine zY (by decide) ?_ | refine zN (by decide) ?_ | with_reducible refine zQ ?_); (conv => whnf))))))
  exact aret_same ⟨rfl, rfl⟩
end
end Go.Proofs.Ytagbbpllbiplkaa
