/-
  Texts of this claim, pack 7: Crxs, Crow, Cref03, Cref03b, Clawspa, Clawspb, Clawspc, Clawspd, Cref03c, Crel03, Csamef, Crefsz, Camdb, Cdra, Cdrb, Cdrc.
-/
import Derived.Test.YtgobbmdbkmjlnaaK3
import Derived.Test.YtgobbmdbkmjlnaaK5
import Derived.Test.YtgobbmdbkmjlnaaK6
/-
  What came in parts: bytes that are filled in, and edges; plain.
-/
namespace Go.Proofs.Ytgobbmdbkmjlnaa
set_option linter.unusedVariables false
set_option linter.unusedSimpArgs false
set_option maxRecDepth 20000
open Go Go.Am

section
variable {q : Pk}
/-- Bytes that are filled in. -/
theorem fillN_get {l : List Sp} {f : Nat} {d D : List UInt8} : ∀ {k j : Nat}, k ≤ d.length → f + d.length ≤ D.length → (fillN l f d D k)[j]? = if f ≤ j ∧ j < f + k ∧ hasS ((j : Int), (j : Int) + 1) l = false then d[j - f]? else D[j]?
  | 0, j, _, _ => by
    rw [if_neg (by omega)]; rfl
  | k + 1, j, hk, hD => by
    have ih := fillN_get (l := l) (f := f) (d := d) (D := D) (k := k) (j := j) (by omega) hD
    have hlen := fillN_len l f d D k
    have e : fillN l f d D (k + 1) = if hasS ((f : Int) + (k : Int), (f : Int) + (k : Int) + 1) l = true then fillN l f d D k else (fillN l f d D k).set (f + k) (d[k]?.getD 0) := rfl
    rw [e]
    by_cases hj : j = f + k
    · subst hj
      rw [show (((f + k : Nat)) : Int) = (f : Int) + (k : Int) by omega] at ih ⊢
      rw [if_neg (by omega)] at ih
      by_cases hh : hasS ((f : Int) + (k : Int), (f : Int) + (k : Int) + 1) l = true
      · rw [if_pos hh, if_neg (by rw [hh]; simp)]; exact ih
      · have hh' : hasS ((f : Int) + (k : Int), (f : Int) + (k : Int) + 1) l = false := by simpa using hh
        rw [if_neg hh, if_pos ⟨by omega, by omega, hh'⟩, List.getElem?_set_self (by omega), show f + k - f = k by omega, List.getElem?_eq_getElem (by omega)]; rfl
    · have same : (if hasS ((f : Int) + (k : Int), (f : Int) + (k : Int) + 1) l = true then fillN l f d D k else (fillN l f d D k).set (f + k) (d[k]?.getD 0))[j]? = (fillN l f d D k)[j]? := by
        split
        · rfl
        · rw [List.getElem?_set_ne (fun e => hj e.symm)]
      rw [same, ih]
      by_cases hc : f ≤ j ∧ j < f + k ∧ hasS ((j : Int), (j : Int) + 1) l = false
      · rw [if_pos hc, if_pos ⟨hc.1, by omega, hc.2.2⟩]
      · rw [if_neg hc, if_neg (fun g => hc ⟨g.1, by omega, g.2.2⟩)]
theorem hasE_note1 {em : List (Int × AVal)} {k : Int} : hasE (note1 q em) k = (hasE em k || decide (q.off ≠ 0 ∧ bitsOp .and .i64 q.fi 2 = 0 ∧ k = q.off)) := by
  unfold note1
  by_cases h0 : q.off = 0
  · rw [if_pos h0]; simp [h0]
  · rw [if_neg h0]
    by_cases hb : bitsOp .and .i64 q.fi 2 = 0
    · rw [if_pos hb, hasE_set]; simp [h0, hb, Bool.or_comm]
    · rw [if_neg hb]; simp [hb]
theorem hasE_noteN {em : List (Int × AVal)} {k : Int} : ∀ m, hasE (noteN q em m) k = true ↔ hasE em k = true ∨ ∃ i, 0 < i ∧ i < m ∧ k = q.off + (total (q.fs.take i) : Int)
  | 0 => ⟨.inl, fun h => h.elim id fun ⟨i, _, h, _⟩ => absurd h (by omega)⟩
  | m + 1 => by
    have e : noteN q em (m + 1) = if m > 0 then mapSet (noteN q em m) (q.off + (total (q.fs.take m) : Int)) trueV else noteN q em m := rfl
    have ih := hasE_noteN (em := em) (k := k) m
    have ext : (∃ i, 0 < i ∧ i < m + 1 ∧ k = q.off + (total (q.fs.take i) : Int)) ↔ (∃ i, 0 < i ∧ i < m ∧ k = q.off + (total (q.fs.take i) : Int)) ∨ (m > 0 ∧ k = q.off + (total (q.fs.take m) : Int)) := by
      constructor
      · rintro ⟨i, h1, h2, h3⟩
        by_cases hi : i = m
        · subst hi; exact .inr ⟨h1, h3⟩
        · exact .inl ⟨i, h1, by omega, h3⟩
      · rintro (⟨i, h1, h2, h3⟩ | ⟨h1, h2⟩)
        · exact ⟨i, h1, by omega, h3⟩
        · exact ⟨m, h1, by omega, h2⟩
    rw [e, ext]
    by_cases hm : m > 0
    · rw [if_pos hm, hasE_set, Bool.or_eq_true, decide_eq_true_iff, ih]
      constructor
      · rintro (h | h | h)
        · exact .inr (.inr ⟨hm, h⟩)
        · exact .inl h
        · exact .inr (.inl h)
      · rintro (h | h | h)
        · exact .inr (.inl h)
        · exact .inr (.inr h)
        · exact .inl h.2
    · rw [if_neg hm, ih]
      constructor
      · rintro (h | h)
        · exact .inl h
        · exact .inr (.inl h)
      · rintro (h | h | h)
        · exact .inl h
        · exact .inr h
        · exact absurd h.1 hm
theorem hasE_noteM {ends : Bool} {em : List (Int × AVal)} {k : Int} : hasE (noteM q ends em) k = true ↔ hasE em k = true ∨ (q.off ≠ 0 ∧ bitsOp .and .i64 q.fi 2 = 0 ∧ k = q.off) ∨ (∃ i, 0 < i ∧ i < q.fs.length ∧ k = q.off + (total (q.fs.take i) : Int)) ∨ (ends = false ∧ bitsOp .and .i64 q.fi 1 = 0 ∧ k = q.off + (total q.fs : Int)) := by
  have hN : hasE (noteN q (note1 q em) q.fs.length) k = true ↔ hasE em k = true ∨ (q.off ≠ 0 ∧ bitsOp .and .i64 q.fi 2 = 0 ∧ k = q.off) ∨ (∃ i, 0 < i ∧ i < q.fs.length ∧ k = q.off + (total (q.fs.take i) : Int)) := by
    rw [hasE_noteN, hasE_note1, Bool.or_eq_true, decide_eq_true_iff, or_assoc]
  unfold noteM
  cases ends
  · rw [if_neg (by simp)]
    by_cases hb : bitsOp .and .i64 q.fi 1 = 0
    · rw [if_pos hb, hasE_set, Bool.or_eq_true, decide_eq_true_iff, hN]
      constructor
      · rintro (h | h | h | h)
        · exact .inr (.inr (.inr ⟨rfl, hb, h⟩))
        · exact .inl h
        · exact .inr (.inl h)
        · exact .inr (.inr (.inl h))
      · rintro (h | h | h | h)
        · exact .inr (.inl h)
        · exact .inr (.inr (.inl h))
        · exact .inr (.inr (.inr h))
        · exact .inl h.2.2
    · rw [if_neg hb, hN]
      constructor
      · rintro (h | h | h)
        · exact .inl h
        · exact .inr (.inl h)
        · exact .inr (.inr (.inl h))
      · rintro (h | h | h | h)
        · exact .inl h
        · exact .inr (.inl h)
        · exact .inr (.inr h)
        · exact absurd h.2.1 hb
  · rw [if_pos rfl, hN]
    constructor
    · rintro (h | h | h)
      · exact .inl h
      · exact .inr (.inl h)
      · exact .inr (.inr (.inl h))
    · rintro (h | h | h | h)
      · exact .inl h
      · exact .inr (.inl h)
      · exact .inr (.inr h)
      · cases h.1
end
def fiV (A B : Bool) : Int := (if A = true then 2 else 0) + (if B = true then 1 else 0)
theorem fi_or2 : ∀ A B w : Bool, bitsOp .or .i64 (fiV A B) (if w = true then 2 else 0) = fiV (A || w) B := by decide +kernel
theorem fi_or1 : ∀ A B w : Bool, bitsOp .or .i64 (fiV A B) (if w = true then 1 else 0) = fiV A (B || w) := by decide +kernel
end Go.Proofs.Ytgobbmdbkmjlnaa
/-
  Rows that are stored into: of truths; of spans.
-/
namespace Go.Proofs.Ytgobbmdbkmjlnaa
set_option linter.unusedVariables false
set_option linter.unusedSimpArgs false
open Go Go.Am

def bitT (l : List Bool) (i : Nat) : Bool := (l[i]?).getD false
theorem bitT_get {l : List Bool} {i : Nat} (h : i < l.length) : bitT l i = l[i] := by unfold bitT; rw [List.getElem?_eq_getElem h]; rfl
theorem bitT_no {l : List Bool} {i : Nat} (h : l.length ≤ i) : bitT l i = false := by unfold bitT; rw [List.getElem?_eq_none h]; rfl
/-- A row of truths that is stored into, or none yet. -/
inductive RT2 : AVal → List Bool → List HE → Prop
  | nil : RT2 (.slice 1 [] .full) [] []
  | row (r : Nat) (xs : List Bool) : xs ≠ [] → RT2 (.ms r 1 0 xs.length) xs [.o r (.cells (xs.map boolv))]
def TOk (σ : AHeap) (v : AVal) (L : List Bool) : Prop := (v = .slice 1 [] .full ∧ L = []) ∨ ∃ r, v = .ms r 1 0 L.length ∧ σ r = some (.cells (L.map boolv)) ∧ L ≠ []
theorem RT2.dv {σb σ : AHeap} {v : AVal} {L : List Bool} {E F G : List HE} (h : RT2 v L E) (H : Hp σb (F ++ (E ++ G)) σ) : TOk σ v L := by
  cases h with
  | nil => exact .inl ⟨rfl, rfl⟩
  | row r xs hx => exact .inr ⟨r, rfl, H.ok (.o r (.cells (L.map boolv))) (by simp), hx⟩
theorem RT2.isCell {v : AVal} {L : List Bool} {E : List HE} (h : RT2 v L E) : v.isCell = true := by cases h <;> rfl
theorem TOk.isCell {σ : AHeap} {v : AVal} {L : List Bool} (h : TOk σ v L) : v.isCell = true := by
  rcases h with ⟨rfl, _⟩ | ⟨r, rfl, _⟩ <;> rfl
theorem truths_get {L : List Bool} {i : Nat} (h : i < L.length) : (L.map boolv)[0 + ((i : Nat) : Int).toNat * 1]? = some (boolv (bitT L i)) := by
  rw [Int.toNat_natCast, Nat.mul_one, Nat.zero_add, List.getElem?_map, List.getElem?_eq_getElem h, bitT_get h]; rfl
theorem truth_snoc (xs : List Bool) (b : Bool) : xs.map boolv ++ [boolv b].flatMap AVal.cells = (xs ++ [b]).map boolv := by rw [List.map_append]; rfl
theorem truths_ok (l : List Bool) : (l.map boolv).all (okElem 1) = true := by
  rw [List.all_eq_true]; intro x hx; obtain ⟨b, _, rfl⟩ := List.mem_map.1 hx; rfl
section
variable {σb : AHeap}
/-- A row of truths, one more. -/
theorem rt_app {v : AVal} {xs : List Bool} {E G : List HE} {τ : AHeap} (h : RT2 v xs E) (H : Hp σb (E ++ G) τ) (hl : xs.length ≤ 1000000000) (b : Bool) {K : AVal → AHeap → Prop}
    (hK : ∀ v' E' τ', RT2 v' (xs ++ [b]) E' → Hp σb (E' ++ G) τ' → K v' τ') :
    (∀ s t, v = .slice 1 s t → AAppNew τ 1 1 s t [boolv b] K) ∧ (∀ r ln, v = .ms r 1 0 ln → AAppM τ r 1 0 ln 1 [boolv b] K) := by
  cases h with
  | nil =>
    refine ⟨fun s t e => ?_, fun r ln e => (by cases e)⟩
    cases e
    refine happnew H (by simp) (by simp) rfl fun r τ' H' => hK _ _ τ' (.row r [b] (by simp)) H'
  | row r _ hx =>
    refine ⟨fun s t e => (by cases e), fun r' ln e => ?_⟩
    cases e
    refine happm H (k := 0) rfl (by simp) (by simp only [List.length_singleton]; omega) rfl fun r2 τ' H' => ?_
    rw [truth_snoc] at H'
    have := hK _ _ τ' (.row r2 (xs ++ [b]) (by simp)) H'
    rw [List.length_append] at this
    exact this
end
/-- A row of spans that is stored into, or none yet. -/
abbrev spC (l : List Sp) : List AVal := (l.map spV).flatMap AVal.cells
inductive RS2 : AVal → List Sp → List HE → Prop
  | nil : RS2 (.slice 2 [] .full) [] []
  | row (r : Nat) (l : List Sp) : l ≠ [] → RS2 (.ms r 2 0 l.length) l [.o r (.cells (spC l))]
theorem spC_len (l : List Sp) : (spC l).length = l.length * 2 := by
  induction l with
  | nil => rfl
  | cons x l ih =>
    show (AVal.cells (spV x) ++ spC l).length = _
    rw [List.length_append, ih, List.length_cons]; show 2 + _ = _; omega
theorem spC_append (a b : List Sp) : spC (a ++ b) = spC a ++ spC b := by unfold spC; rw [List.map_append, List.flatMap_append]
theorem spC_get {l : List Sp} {i : Nat} (h : i < l.length) : (spC l)[i * 2]? = some (i64v l[i].1) ∧ (spC l)[i * 2 + 1]? = some (i64v l[i].2) := by
  induction l generalizing i with
  | nil => simp at h
  | cons x l ih =>
    have e : spC (x :: l) = i64v x.1 :: i64v x.2 :: spC l := rfl
    rw [e]
    cases i with
    | zero => exact ⟨rfl, rfl⟩
    | succ i =>
      have := ih (i := i) (by simpa using h)
      rw [show (i + 1) * 2 = i * 2 + 2 by omega]
      simpa using this
theorem spC_last (r : List Sp) (z : Sp) (n : Int) : splice (spC (r ++ [z])) (r.length * 2 + 1) [i64v n] = spC (r ++ [(z.1, n)]) := by
  rw [spC_append, spC_append, ← spC_len r]
  unfold splice
  have e1 : (spC r ++ spC [z]).take ((spC r).length + 1) = spC r ++ [i64v z.1] := by
    rw [List.take_append, List.take_of_length_le (by omega), Nat.add_sub_cancel_left]; rfl
  have e2 : (spC r ++ spC [z]).drop ((spC r).length + 1 + [i64v n].length) = [] := by
    refine List.drop_eq_nil_of_le ?_
    rw [List.length_append]; exact Nat.le_refl _
  rw [e1, e2, List.append_nil, List.append_assoc]; rfl
end Go.Proofs.Ytgobbmdbkmjlnaa
/-
  The document's sets of places: what their functions tell.
-/
namespace Go.Proofs.Ytgobbmdbkmjlnaa
set_option linter.unusedVariables false
set_option linter.unusedSimpArgs false
open Go Go.Am

theorem cnt_ext {g : Nat → Bool} {m : Nat} : ∀ d : Nat, (∀ j, m ≤ j → j < m + d → g j = false) → (List.range (m + d)).countP g = (List.range m).countP g
  | 0, _ => rfl
  | d + 1, h => by
    rw [show m + (d + 1) = (m + d) + 1 by omega, List.range_succ, List.countP_append, cnt_ext d fun j a b => h j a (by omega), List.countP_cons, h (m + d) (by omega) (by omega)]; rfl
theorem cnt_same {g : Nat → Bool} {m n : Nat} (h : ∀ j, min m n ≤ j → j < max m n → g j = false) : (List.range m).countP g = (List.range n).countP g := by
  rcases Nat.le_total m n with q | q
  · have := cnt_ext (g := g) (m := m) (n - m) fun j a b => h j (by omega) (by omega)
    rw [show m + (n - m) = n by omega] at this; exact this.symm
  · have := cnt_ext (g := g) (m := n) (m - n) fun j a b => h j (by omega) (by omega)
    rw [show n + (m - n) = m by omega] at this; exact this
def cntG (L : List Bool) (a : Int) (j : Nat) : Bool := decide (a ≤ (j : Int)) && bitT L j
def cntT (L : List Bool) (x : Sp) : Nat := (List.range x.2.toNat).countP (cntG L x.1)
section
variable {σ : AHeap} {v : AVal} {L : List Bool}
set_option maxRecDepth 20000 in
theorem rCount03 (hd : TOk σ v L) (x : Sp) (hL : L.length ≤ 100000) (h0 : 0 ≤ x.1) (h1 : x.1 ≤ 100000) (h2 : x.2 ≤ 100000) : ACalls Try.prog i_bowlineref03_Set_Count [.agg [v], spV x] σ fun w σ' => w = i64v (cntT L x) ∧ σ' = σ := by
  obtain ⟨a, b⟩ := x
  dsimp only at h0 h1 h2
  obtain ⟨a, rfl⟩ := Int.eq_ofNat_of_zero_le h0
  have hvc := hd.isCell
  refine k_bowlineref03_Set_Count rfl ?_
  have H := Hp.nil σ
  (refine wX ?_)
  refine hnew H (by simp [AVal.cells, hvc]) ?_
  clear H
  intro is τ H
  replace H : Hp σ [.o is (.cells [v])] τ := H
  (refine wX ?_)
  refine hnew H rfl ?_
  clear H
  intro ix τ H
  (refine wX ?_)
  (repeat ((first | refine zI (by omega) ?_ | refine zE (by omega) (by omega) ?_ | refine zD (by omega) (by omega) ?_ | refine zY (by omega) ?_ | refine zN (by omega) ?_ | refine amin ?_ | refine amax ?_ | refine zU (by omega) ?_ | refine z8 (by omega) ?_ | refine zX (by omega) (by omega) ?_ | refine zR rfl ?_ | refine acellA ?_ | refine zB H b1 rfl ?_ | refine zC H b1 ?_ | (apply zL H; (· repeat first | exact .h | apply AtK.t); (· rfl)) | (apply zA H; (· repeat first | exact .h | apply AtK.t)) | (apply zS H; (· repeat first | exact .h | apply AtK.t); (· rfl); (conv => whnf); clear H; intro τ H) | rw [List.length_map]); (refine wX ?_)))
  replace H : Hp σ [.o ix (.cells [i64v a, i64v b]), .o is (.cells [v])] τ := H
  refine aloop (α := Nat) (fun i => [(s6, i64v i), (s5, i64v (((List.range i).countP (cntG L a) : Nat) : Int))]) (fun _ => τ) (fun i => a ≤ i ∧ i ≤ 100000 ∧ (i = a ∨ (i : Int) ≤ b)) (fun i => 100000 - i) a ⟨Nat.le_refl _, by omega, .inl rfl⟩ (Sub.refl _) ?_ ?_
  · rw [show (List.range a).countP (cntG L a) = 0 from (cnt_same (n := 0) fun j q1 q2 => by unfold cntG; rw [decide_eq_false (by omega)]; rfl).trans rfl]
    (refine wX ?_)
    (repeat' first | with_reducible exact EnvLe.refl _ | (refine EnvLe.node ?_ (by first | exact Or.inl rfl | exact Or.inr (Or.inl rfl) | exact Or.inr (Or.inr ⟨nofun, VLe.slice _ _ _⟩)) ?_))
  rintro i ⟨hi, hi2, hi3⟩
  have hcl := List.countP_le_length (p := cntG L a) (l := List.range i)
  rw [List.length_range] at hcl
  have hcs : (List.range (i + 1)).countP (cntG L a) = (List.range i).countP (cntG L a) + if bitT L i = true then 1 else 0 := by
    rw [List.range_succ, List.countP_append, List.countP_cons, List.countP_nil]; unfold cntG; rw [decide_eq_true (show (a : Int) ≤ (i : Int) by omega)]; simp
  have hend : ¬ ((i : Int) < b ∧ i < L.length) → ((List.range i).countP (cntG L a)) = cntT L (a, b) := fun h => by
    unfold cntT
    refine cnt_same fun j q1 q2 => ?_
    unfold cntG
    dsimp only at q1 q2
    by_cases q3 : i < L.length
    · have q5 : b ≤ i := by omega
      rw [decide_eq_false (by omega)]; rfl
    · by_cases q4 : (j : Int) < i
      · rw [decide_eq_false (by omega)]; rfl
      · rw [bitT_no (by omega), Bool.and_false]
  generalize hc : ((List.range i).countP (cntG L a)) = c at *
  (refine wX ?_)
  (repeat ((first | refine zI (by omega) ?_ | refine zE (by omega) (by omega) ?_ | refine zD (by omega) (by omega) ?_ | refine zY (by omega) ?_ | refine zN (by omega) ?_ | refine amin ?_ | refine amax ?_ | refine zU (by omega) ?_ | refine z8 (by omega) ?_ | refine zX (by omega) (by omega) ?_ | refine zR rfl ?_ | refine acellA ?_ | refine zB H b1 rfl ?_ | refine zC H b1 ?_ | (apply zL H; (· repeat first | exact .h | apply AtK.t); (· rfl)) | (apply zA H; (· repeat first | exact .h | apply AtK.t)) | (apply zS H; (· repeat first | exact .h | apply AtK.t); (· rfl); (conv => whnf); clear H; intro τ H) | rw [List.length_map]); (refine wX ?_)))
  by_cases hb : (i : Int) < b
  · rcases hd with ⟨rfl, rfl⟩ | ⟨r, rfl, b1, hne⟩
    · (repeat ((first | refine zI (by omega) ?_ | refine zE (by omega) (by omega) ?_ | refine zD (by omega) (by omega) ?_ | refine zY (by omega) ?_ | refine zN (by omega) ?_ | refine amin ?_ | refine amax ?_ | refine zU (by omega) ?_ | refine z8 (by omega) ?_ | refine zX (by omega) (by omega) ?_ | refine zR rfl ?_ | refine acellA ?_ | refine zB H b1 rfl ?_ | refine zC H b1 ?_ | (apply zL H; (· repeat first | exact .h | apply AtK.t); (· rfl)) | (apply zA H; (· repeat first | exact .h | apply AtK.t)) | (apply zS H; (· repeat first | exact .h | apply AtK.t); (· rfl); (conv => whnf); clear H; intro τ H) | rw [List.length_map]); (refine wX ?_)))
      rw [show (([] : List AVal).length : Int) = 0 from rfl]
      (refine wX ?_)
      (repeat ((first | refine zI (by omega) ?_ | refine zE (by omega) (by omega) ?_ | refine zD (by omega) (by omega) ?_ | refine zY (by omega) ?_ | refine zN (by omega) ?_ | refine amin ?_ | refine amax ?_ | refine zU (by omega) ?_ | refine z8 (by omega) ?_ | refine zX (by omega) (by omega) ?_ | refine zR rfl ?_ | refine acellA ?_ | refine zB H b1 rfl ?_ | refine zC H b1 ?_ | (apply zL H; (· repeat first | exact .h | apply AtK.t); (· rfl)) | (apply zA H; (· repeat first | exact .h | apply AtK.t)) | (apply zS H; (· repeat first | exact .h | apply AtK.t); (· rfl); (conv => whnf); clear H; intro τ H) | rw [List.length_map]); (refine wX ?_)))
      exact aret (VLe.refl _) H.sub ⟨by rw [hend (by simp)], rfl⟩
    · (repeat ((first | refine zI (by omega) ?_ | refine zE (by omega) (by omega) ?_ | refine zD (by omega) (by omega) ?_ | refine zY (by omega) ?_ | refine zN (by omega) ?_ | refine amin ?_ | refine amax ?_ | refine zU (by omega) ?_ | refine z8 (by omega) ?_ | refine zX (by omega) (by omega) ?_ | refine zR rfl ?_ | refine acellA ?_ | refine zB H b1 rfl ?_ | refine zC H b1 ?_ | (apply zL H; (· repeat first | exact .h | apply AtK.t); (· rfl)) | (apply zA H; (· repeat first | exact .h | apply AtK.t)) | (apply zS H; (· repeat first | exact .h | apply AtK.t); (· rfl); (conv => whnf); clear H; intro τ H) | rw [List.length_map]); (refine wX ?_)))
      by_cases h : i < L.length
      · (repeat ((first | refine zI (by omega) ?_ | refine zE (by omega) (by omega) ?_ | refine zD (by omega) (by omega) ?_ | refine zY (by omega) ?_ | refine zN (by omega) ?_ | refine amin ?_ | refine amax ?_ | refine zU (by omega) ?_ | refine z8 (by omega) ?_ | refine zX (by omega) (by omega) ?_ | refine zR rfl ?_ | refine acellA ?_ | refine zB H b1 rfl ?_ | refine zC H b1 ?_ | (apply zL H; (· repeat first | exact .h | apply AtK.t); (· rfl)) | (apply zA H; (· repeat first | exact .h | apply AtK.t)) | (apply zS H; (· repeat first | exact .h | apply AtK.t); (· rfl); (conv => whnf); clear H; intro τ H) | rw [List.length_map]); (refine wX ?_)))
        refine zB H b1 (truths_get h) ?_
        cases hbt : bitT L i
        · rw [hbt] at hcs
          (refine wX ?_)
          (repeat ((first | refine zI (by omega) ?_ | refine zE (by omega) (by omega) ?_ | refine zD (by omega) (by omega) ?_ | refine zY (by omega) ?_ | refine zN (by omega) ?_ | refine amin ?_ | refine amax ?_ | refine zU (by omega) ?_ | refine z8 (by omega) ?_ | refine zX (by omega) (by omega) ?_ | refine zR rfl ?_ | refine acellA ?_ | refine zB H b1 rfl ?_ | refine zC H b1 ?_ | (apply zL H; (· repeat first | exact .h | apply AtK.t); (· rfl)) | (apply zA H; (· repeat first | exact .h | apply AtK.t)) | (apply zS H; (· repeat first | exact .h | apply AtK.t); (· rfl); (conv => whnf); clear H; intro τ H) | rw [List.length_map]); (refine wX ?_)))
          refine ⟨i + 1, ⟨by omega, by omega, .inr (by omega)⟩, by omega, Sub.refl _, ?_⟩
          rw [hcs]
          (refine wX ?_)
          (repeat' first | with_reducible exact EnvLe.refl _ | (refine EnvLe.node ?_ (by first | exact Or.inl rfl | exact Or.inr (Or.inl rfl) | exact Or.inr (Or.inr ⟨nofun, VLe.slice _ _ _⟩)) ?_))
        · rw [hbt] at hcs
          (refine wX ?_)
          (repeat ((first | refine zI (by omega) ?_ | refine zE (by omega) (by omega) ?_ | refine zD (by omega) (by omega) ?_ | refine zY (by omega) ?_ | refine zN (by omega) ?_ | refine amin ?_ | refine amax ?_ | refine zU (by omega) ?_ | refine z8 (by omega) ?_ | refine zX (by omega) (by omega) ?_ | refine zR rfl ?_ | refine acellA ?_ | refine zB H b1 rfl ?_ | refine zC H b1 ?_ | (apply zL H; (· repeat first | exact .h | apply AtK.t); (· rfl)) | (apply zA H; (· repeat first | exact .h | apply AtK.t)) | (apply zS H; (· repeat first | exact .h | apply AtK.t); (· rfl); (conv => whnf); clear H; intro τ H) | rw [List.length_map]); (refine wX ?_)))
          refine ⟨i + 1, ⟨by omega, by omega, .inr (by omega)⟩, by omega, Sub.refl _, ?_⟩
          rw [hcs]
          (refine wX ?_)
          (repeat' first | with_reducible exact EnvLe.refl _ | (refine EnvLe.node ?_ (by first | exact Or.inl rfl | exact Or.inr (Or.inl rfl) | exact Or.inr (Or.inr ⟨nofun, VLe.slice _ _ _⟩)) ?_))
      · (repeat ((first | refine zI (by omega) ?_ | refine zE (by omega) (by omega) ?_ | refine zD (by omega) (by omega) ?_ | refine zY (by omega) ?_ | refine zN (by omega) ?_ | refine amin ?_ | refine amax ?_ | refine zU (by omega) ?_ | refine z8 (by omega) ?_ | refine zX (by omega) (by omega) ?_ | refine zR rfl ?_ | refine acellA ?_ | refine zB H b1 rfl ?_ | refine zC H b1 ?_ | (apply zL H; (· repeat first | exact .h | apply AtK.t); (· rfl)) | (apply zA H; (· repeat first | exact .h | apply AtK.t)) | (apply zS H; (· repeat first | exact .h | apply AtK.t); (· rfl); (conv => whnf); clear H; intro τ H) | rw [List.length_map]); (refine wX ?_)))
        exact aret (VLe.refl _) H.sub ⟨by rw [hend (fun q => h q.2)], rfl⟩
  · (repeat ((first | refine zI (by omega) ?_ | refine zE (by omega) (by omega) ?_ | refine zD (by omega) (by omega) ?_ | refine zY (by omega) ?_ | refine zN (by omega) ?_ | refine amin ?_ | refine amax ?_ | refine zU (by omega) ?_ | refine z8 (by omega) ?_ | refine zX (by omega) (by omega) ?_ | refine zR rfl ?_ | refine acellA ?_ | refine zB H b1 rfl ?_ | refine zC H b1 ?_ | (apply zL H; (· repeat first | exact .h | apply AtK.t); (· rfl)) | (apply zA H; (· repeat first | exact .h | apply AtK.t)) | (apply zS H; (· repeat first | exact .h | apply AtK.t); (· rfl); (conv => whnf); clear H; intro τ H) | rw [List.length_map]); (refine wX ?_)))
    exact aret (VLe.refl _) H.sub ⟨by rw [hend (fun q => hb q.1)], rfl⟩
theorem RS2.row' (r : Nat) (l : List Sp) {n : Nat} (h : l ≠ []) (e : l.length = n) : RS2 (.ms r 2 0 n) l [.o r (.cells (spC l))] := by subst e; exact .row r l h
theorem spC_snoc (R : List Sp) (a b : Int) : spC R ++ [AVal.agg [i64v a, i64v b]].flatMap AVal.cells = spC (R ++ [(a, b)]) := by rw [spC_append]; rfl
def runT (L : List Bool) (is : Bool) (to : Nat) : List Sp := runsL (fun i => bitT L i == is) to
theorem runsL_len (f : Nat → Bool) : ∀ n, (runsL f n).length ≤ n
  | 0 => Nat.le_refl _
  | n + 1 => by
    have := runsL_len f n
    unfold runsL
    split
    · rcases snoc_cases (runsL f n) with h | ⟨r, z, h⟩
      · rw [h]; exact Nat.succ_le_succ (Nat.zero_le _)
      · rw [h] at this ⊢
        rw [addEnd_snoc]
        rw [List.length_append] at this
        split <;> simp at this ⊢ <;> omega
    · omega
set_option maxRecDepth 20000 in
set_option maxHeartbeats 4000000 in
theorem rRuns03 (hd : TOk σ v L) (is : Bool) (to : Nat) (hL : L.length ≤ 100000) (ht : to ≤ 65536) : ACalls Try.prog i_bowlineref03_Set_runs [.agg [v], boolv is, i64v to] σ fun w σ' => ∃ E, RS2 w (runT L is to) E ∧ Hp σ E σ' := by
  have hvc := hd.isCell
  refine km_bowlineref03_Set_runs rfl ?_
  have H := Hp.nil σ
  (refine wX ?_)
  refine hnew H (by simp [AVal.cells, hvc]) ?_
  clear H
  intro ix τ H
  replace H : Hp σ [.o ix (.cells [v])] τ := H
  (refine wX ?_)
  (repeat ((first | refine zI (by omega) ?_ | refine zE (by omega) (by omega) ?_ | refine zD (by omega) (by omega) ?_ | refine zY (by omega) ?_ | refine zN (by omega) ?_ | refine amin ?_ | refine amax ?_ | refine zU (by omega) ?_ | refine z8 (by omega) ?_ | refine zX (by omega) (by omega) ?_ | refine zR rfl ?_ | refine acellA ?_ | refine zB H b1 rfl ?_ | refine zC H b1 ?_ | (apply zL H; (· repeat first | exact .h | apply AtK.t); (· rfl)) | (apply zA H; (· repeat first | exact .h | apply AtK.t)) | (apply zS H; (· repeat first | exact .h | apply AtK.t); (· rfl); (conv => whnf); clear H; intro τ H) | rw [List.length_map]); (refine wX ?_)))
  unfold runT
  refine aloop (α := Nat × AVal × List HE × AHeap) (fun y => [(s8, i64v y.1), (s7, y.2.1)]) (fun y => y.2.2.2) (fun y => y.1 ≤ to ∧ RS2 y.2.1 (runsL (fun i => bitT L i == is) y.1) y.2.2.1 ∧ Hp σ (y.2.2.1 ++ [.o ix (.cells [v])]) y.2.2.2) (fun y => to - y.1)
    (0, .slice 2 [] .full, [], τ) ⟨Nat.zero_le _, .nil, H⟩ (Sub.refl _) ?_ ?_
  · (refine wX ?_)
    (repeat' first | with_reducible exact EnvLe.refl _ | (refine EnvLe.node ?_ (by first | exact Or.inl rfl | exact Or.inr (Or.inl rfl) | exact Or.inr (Or.inr ⟨nofun, VLe.slice _ _ _⟩)) ?_))
  clear H
  rintro ⟨i, w, E, τ⟩ ⟨hi, hw, H⟩
  dsimp only at hi hw H ⊢
  (refine wX ?_)
  by_cases h : i < to
  · have hlen := runsL_len (fun i => bitT L i == is) i
    have hstep : runsL (fun i => bitT L i == is) (i + 1) = if (bitT L i == is) = true then addEnd (runsL (fun i => bitT L i == is) i) i else runsL (fun i => bitT L i == is) i := rfl
    obtain ⟨bt, hbt⟩ : ∃ bt, bitT L i = bt := ⟨_, rfl⟩
    rw [hbt] at hstep
    generalize runsL (fun i => bitT L i == is) i = R at *
    (repeat ((first | refine zI (by omega) ?_ | refine zE (by omega) (by omega) ?_ | refine zD (by omega) (by omega) ?_ | refine zY (by omega) ?_ | refine zN (by omega) ?_ | refine amin ?_ | refine amax ?_ | refine zU (by omega) ?_ | refine z8 (by omega) ?_ | refine zX (by omega) (by omega) ?_ | refine zR rfl ?_ | refine acellA ?_ | refine zB H b1 rfl ?_ | refine zC H b1 ?_ | (apply zL H; (· repeat first | exact .h | apply AtK.t); (· rfl)) | (apply zA H; (· repeat first | exact .h | apply AtK.t)) | (apply zS H; (· repeat first | exact .h | apply AtK.t); (· rfl); (conv => whnf); clear H; intro τ H) | rw [List.length_map]); (refine wX ?_)))
    have hix : τ ix = some (.cells [v]) := H.ok (.o ix (.cells [v])) (by simp)
    refine aload hix rfl ?_
    rcases hd with ⟨rfl, hLn⟩ | ⟨r0, rfl, b1, hne⟩
    rotate_left
    by_cases hl : i < L.length
    rotate_left
    · have hbf : bt = false := by rw [← hbt]; exact bitT_no (by omega)
      subst hbf
      (refine wX ?_)
      (repeat ((first | refine zI (by omega) ?_ | refine zE (by omega) (by omega) ?_ | refine zD (by omega) (by omega) ?_ | refine zY (by omega) ?_ | refine zN (by omega) ?_ | refine amin ?_ | refine amax ?_ | refine zU (by omega) ?_ | refine z8 (by omega) ?_ | refine zX (by omega) (by omega) ?_ | refine zR rfl ?_ | refine acellA ?_ | refine zB H b1 rfl ?_ | refine zC H b1 ?_ | (apply zL H; (· repeat first | exact .h | apply AtK.t); (· rfl)) | (apply zA H; (· repeat first | exact .h | apply AtK.t)) | (apply zS H; (· repeat first | exact .h | apply AtK.t); (· rfl); (conv => whnf); clear H; intro τ H) | rw [List.length_map]); (refine wX ?_)))
      cases is
      · skip
        rw [if_pos (by decide)] at hstep
        (refine wX ?_)
        cases hw with
        | nil =>
          (refine wX ?_)
          (repeat ((first | refine zI (by omega) ?_ | refine zE (by omega) (by omega) ?_ | refine zD (by omega) (by omega) ?_ | refine zY (by omega) ?_ | refine zN (by omega) ?_ | refine amin ?_ | refine amax ?_ | refine zU (by omega) ?_ | refine z8 (by omega) ?_ | refine zX (by omega) (by omega) ?_ | refine zR rfl ?_ | refine acellA ?_ | refine zB H b1 rfl ?_ | refine zC H b1 ?_ | (apply zL H; (· repeat first | exact .h | apply AtK.t); (· rfl)) | (apply zA H; (· repeat first | exact .h | apply AtK.t)) | (apply zS H; (· repeat first | exact .h | apply AtK.t); (· rfl); (conv => whnf); clear H; intro τ H) | rw [List.length_map]); (refine wX ?_)))
          rw [show (([] : List AVal).length : Int) = 0 from rfl]
          (refine wX ?_)
          (repeat ((first | refine zI (by omega) ?_ | refine zE (by omega) (by omega) ?_ | refine zD (by omega) (by omega) ?_ | refine zY (by omega) ?_ | refine zN (by omega) ?_ | refine amin ?_ | refine amax ?_ | refine zU (by omega) ?_ | refine z8 (by omega) ?_ | refine zX (by omega) (by omega) ?_ | refine zR rfl ?_ | refine acellA ?_ | refine zB H b1 rfl ?_ | refine zC H b1 ?_ | (apply zL H; (· repeat first | exact .h | apply AtK.t); (· rfl)) | (apply zA H; (· repeat first | exact .h | apply AtK.t)) | (apply zS H; (· repeat first | exact .h | apply AtK.t); (· rfl); (conv => whnf); clear H; intro τ H) | rw [List.length_map]); (refine wX ?_)))
          refine happnew H (List.cons_ne_nil _ _) (show 1 * 16 ≤ 140737488355328 by decide) rfl fun r2 τ2 H2 => ?_
          clear H
          have H := H2
          clear H2
          (refine wX ?_)
          (repeat ((first | refine zI (by omega) ?_ | refine zE (by omega) (by omega) ?_ | refine zD (by omega) (by omega) ?_ | refine zY (by omega) ?_ | refine zN (by omega) ?_ | refine amin ?_ | refine amax ?_ | refine zU (by omega) ?_ | refine z8 (by omega) ?_ | refine zX (by omega) (by omega) ?_ | refine zR rfl ?_ | refine acellA ?_ | refine zB H b1 rfl ?_ | refine zC H b1 ?_ | (apply zL H; (· repeat first | exact .h | apply AtK.t); (· rfl)) | (apply zA H; (· repeat first | exact .h | apply AtK.t)) | (apply zS H; (· repeat first | exact .h | apply AtK.t); (· rfl); (conv => whnf); clear H; intro τ H) | rw [List.length_map]); (refine wX ?_)))
          refine ⟨(i + 1, .ms r2 2 0 1, [.o r2 (.cells (spC [((i : Int), (i : Int) + 1)]))], τ2), ⟨h, by dsimp only; rw [hstep]; exact .row r2 [((i : Int), (i : Int) + 1)] (by simp), H⟩, by dsimp only; omega, Sub.refl _, ?_⟩
          (refine wX ?_)
          (repeat' first | with_reducible exact EnvLe.refl _ | (refine EnvLe.node ?_ (by first | exact Or.inl rfl | exact Or.inr (Or.inl rfl) | exact Or.inr (Or.inr ⟨nofun, VLe.slice _ _ _⟩)) ?_))
        | row r _ hne2 =>
          rcases snoc_cases R with hR | ⟨R0, z, rfl⟩
          · exact (hne2 hR).elim
          rw [List.length_append, List.length_singleton] at hlen
          rw [addEnd_snoc] at hstep
          have hg := (spC_get (l := R0 ++ [z]) (i := R0.length) (by simp)).2
          rw [show (R0 ++ [z])[R0.length]'(by simp) = z by simp] at hg
          rw [show (R0 ++ [z]).length = R0.length + 1 by simp] at *
          (repeat ((first | refine zI (by omega) ?_ | refine zE (by omega) (by omega) ?_ | refine zD (by omega) (by omega) ?_ | refine zY (by omega) ?_ | refine zN (by omega) ?_ | refine amin ?_ | refine amax ?_ | refine zU (by omega) ?_ | refine z8 (by omega) ?_ | refine zX (by omega) (by omega) ?_ | refine zR rfl ?_ | refine acellA ?_ | refine zB H b1 rfl ?_ | refine zC H b1 ?_ | (apply zL H; (· repeat first | exact .h | apply AtK.t); (· rfl)) | (apply zA H; (· repeat first | exact .h | apply AtK.t)) | (apply zS H; (· repeat first | exact .h | apply AtK.t); (· rfl); (conv => whnf); clear H; intro τ H) | rw [List.length_map]); (refine wX ?_)))
          rw [show 0 + (((R0.length + 1 : Nat) : Int) - 1).toNat * 2 + 1 = R0.length * 2 + 1 by omega]
          refine aload (H.get (k := 0) rfl) hg ?_
          (refine wX ?_)
          by_cases hz : z.2 = (i : Int)
          · rw [if_pos hz] at hstep
            (repeat ((first | refine zI (by omega) ?_ | refine zE (by omega) (by omega) ?_ | refine zD (by omega) (by omega) ?_ | refine zY (by omega) ?_ | refine zN (by omega) ?_ | refine amin ?_ | refine amax ?_ | refine zU (by omega) ?_ | refine z8 (by omega) ?_ | refine zX (by omega) (by omega) ?_ | refine zR rfl ?_ | refine acellA ?_ | refine zB H b1 rfl ?_ | refine zC H b1 ?_ | (apply zL H; (· repeat first | exact .h | apply AtK.t); (· rfl)) | (apply zA H; (· repeat first | exact .h | apply AtK.t)) | (apply zS H; (· repeat first | exact .h | apply AtK.t); (· rfl); (conv => whnf); clear H; intro τ H) | rw [List.length_map]); (refine wX ?_)))
            rw [show 0 + (((R0.length + 1 : Nat) : Int) - 1).toNat * 2 + 1 = R0.length * 2 + 1 by omega]
            refine astore (H.get (k := 0) rfl) (by rw [spC_len, List.length_append]; show R0.length * 2 + 1 + 1 ≤ (R0.length + 1) * 2; omega) rfl (spC_last R0 z _) ?_
            replace H := H.set (k := 0) rfl (.cells (spC (R0 ++ [(z.1, (i : Int) + 1)])))
            generalize upd τ r _ = υ at *
            (refine wX ?_)
            (repeat ((first | refine zI (by omega) ?_ | refine zE (by omega) (by omega) ?_ | refine zD (by omega) (by omega) ?_ | refine zY (by omega) ?_ | refine zN (by omega) ?_ | refine amin ?_ | refine amax ?_ | refine zU (by omega) ?_ | refine z8 (by omega) ?_ | refine zX (by omega) (by omega) ?_ | refine zR rfl ?_ | refine acellA ?_ | refine zB H b1 rfl ?_ | refine zC H b1 ?_ | (apply zL H; (· repeat first | exact .h | apply AtK.t); (· rfl)) | (apply zA H; (· repeat first | exact .h | apply AtK.t)) | (apply zS H; (· repeat first | exact .h | apply AtK.t); (· rfl); (conv => whnf); clear H; intro τ H) | rw [List.length_map]); (refine wX ?_)))
            refine ⟨(i + 1, .ms r 2 0 (R0.length + 1), [.o r (.cells (spC (R0 ++ [(z.1, (i : Int) + 1)])))], υ), ⟨h, by dsimp only; rw [hstep]; exact RS2.row' r _ (by simp) (by simp), H⟩, by dsimp only; omega, Sub.refl _, ?_⟩
            (refine wX ?_)
            (repeat' first | with_reducible exact EnvLe.refl _ | (refine EnvLe.node ?_ (by first | exact Or.inl rfl | exact Or.inr (Or.inl rfl) | exact Or.inr (Or.inr ⟨nofun, VLe.slice _ _ _⟩)) ?_))
          · rw [if_neg hz] at hstep
            (repeat ((first | refine zI (by omega) ?_ | refine zE (by omega) (by omega) ?_ | refine zD (by omega) (by omega) ?_ | refine zY (by omega) ?_ | refine zN (by omega) ?_ | refine amin ?_ | refine amax ?_ | refine zU (by omega) ?_ | refine z8 (by omega) ?_ | refine zX (by omega) (by omega) ?_ | refine zR rfl ?_ | refine acellA ?_ | refine zB H b1 rfl ?_ | refine zC H b1 ?_ | (apply zL H; (· repeat first | exact .h | apply AtK.t); (· rfl)) | (apply zA H; (· repeat first | exact .h | apply AtK.t)) | (apply zS H; (· repeat first | exact .h | apply AtK.t); (· rfl); (conv => whnf); clear H; intro τ H) | rw [List.length_map]); (refine wX ?_)))
            refine happm H (k := 0) rfl (by rw [spC_len, List.length_append]; simp) (by simp only [List.length_singleton]; omega) rfl fun r2 τ2 H2 => ?_
            clear H
            have H := H2
            rw [spC_snoc (R0 ++ [z]) i ((i : Int) + 1)] at H
            clear H2
            (refine wX ?_)
            (repeat ((first | refine zI (by omega) ?_ | refine zE (by omega) (by omega) ?_ | refine zD (by omega) (by omega) ?_ | refine zY (by omega) ?_ | refine zN (by omega) ?_ | refine amin ?_ | refine amax ?_ | refine zU (by omega) ?_ | refine z8 (by omega) ?_ | refine zX (by omega) (by omega) ?_ | refine zR rfl ?_ | refine acellA ?_ | refine zB H b1 rfl ?_ | refine zC H b1 ?_ | (apply zL H; (· repeat first | exact .h | apply AtK.t); (· rfl)) | (apply zA H; (· repeat first | exact .h | apply AtK.t)) | (apply zS H; (· repeat first | exact .h | apply AtK.t); (· rfl); (conv => whnf); clear H; intro τ H) | rw [List.length_map]); (refine wX ?_)))
            refine ⟨(i + 1, .ms r2 2 0 (R0.length + 1 + 1), [.o r2 (.cells (spC ((R0 ++ [z]) ++ [((i : Int), (i : Int) + 1)])))], τ2), ⟨h, by dsimp only; rw [hstep]; exact RS2.row' r2 _ (by simp) (by simp), H⟩, by dsimp only; omega, Sub.refl _, ?_⟩
            (refine wX ?_)
            (repeat' first | with_reducible exact EnvLe.refl _ | (refine EnvLe.node ?_ (by first | exact Or.inl rfl | exact Or.inr (Or.inl rfl) | exact Or.inr (Or.inr ⟨nofun, VLe.slice _ _ _⟩)) ?_))
      · skip
        (refine wX ?_)
        (repeat ((first | refine zI (by omega) ?_ | refine zE (by omega) (by omega) ?_ | refine zD (by omega) (by omega) ?_ | refine zY (by omega) ?_ | refine zN (by omega) ?_ | refine amin ?_ | refine amax ?_ | refine zU (by omega) ?_ | refine z8 (by omega) ?_ | refine zX (by omega) (by omega) ?_ | refine zR rfl ?_ | refine acellA ?_ | refine zB H b1 rfl ?_ | refine zC H b1 ?_ | (apply zL H; (· repeat first | exact .h | apply AtK.t); (· rfl)) | (apply zA H; (· repeat first | exact .h | apply AtK.t)) | (apply zS H; (· repeat first | exact .h | apply AtK.t); (· rfl); (conv => whnf); clear H; intro τ H) | rw [List.length_map]); (refine wX ?_)))
        refine ⟨(i + 1, w, E, τ), ⟨h, by dsimp only; rw [hstep, if_neg (by decide)]; exact hw, H⟩, by dsimp only; omega, Sub.refl _, ?_⟩
        (refine wX ?_)
        (repeat' first | with_reducible exact EnvLe.refl _ | (refine EnvLe.node ?_ (by first | exact Or.inl rfl | exact Or.inr (Or.inl rfl) | exact Or.inr (Or.inr ⟨nofun, VLe.slice _ _ _⟩)) ?_))
    · have hbf : bt = false := by rw [← hbt, hLn]; rfl
      subst hbf
      (refine wX ?_)
      (repeat ((first | refine zI (by omega) ?_ | refine zE (by omega) (by omega) ?_ | refine zD (by omega) (by omega) ?_ | refine zY (by omega) ?_ | refine zN (by omega) ?_ | refine amin ?_ | refine amax ?_ | refine zU (by omega) ?_ | refine z8 (by omega) ?_ | refine zX (by omega) (by omega) ?_ | refine zR rfl ?_ | refine acellA ?_ | refine zB H b1 rfl ?_ | refine zC H b1 ?_ | (apply zL H; (· repeat first | exact .h | apply AtK.t); (· rfl)) | (apply zA H; (· repeat first | exact .h | apply AtK.t)) | (apply zS H; (· repeat first | exact .h | apply AtK.t); (· rfl); (conv => whnf); clear H; intro τ H) | rw [List.length_map]); (refine wX ?_)))
      rw [show (([] : List AVal).length : Int) = 0 from rfl]
      (refine wX ?_)
      (repeat ((first | refine zI (by omega) ?_ | refine zE (by omega) (by omega) ?_ | refine zD (by omega) (by omega) ?_ | refine zY (by omega) ?_ | refine zN (by omega) ?_ | refine amin ?_ | refine amax ?_ | refine zU (by omega) ?_ | refine z8 (by omega) ?_ | refine zX (by omega) (by omega) ?_ | refine zR rfl ?_ | refine acellA ?_ | refine zB H b1 rfl ?_ | refine zC H b1 ?_ | (apply zL H; (· repeat first | exact .h | apply AtK.t); (· rfl)) | (apply zA H; (· repeat first | exact .h | apply AtK.t)) | (apply zS H; (· repeat first | exact .h | apply AtK.t); (· rfl); (conv => whnf); clear H; intro τ H) | rw [List.length_map]); (refine wX ?_)))
      cases is
      · skip
        rw [if_pos (by decide)] at hstep
        (refine wX ?_)
        cases hw with
        | nil =>
          (refine wX ?_)
          (repeat ((first | refine zI (by omega) ?_ | refine zE (by omega) (by omega) ?_ | refine zD (by omega) (by omega) ?_ | refine zY (by omega) ?_ | refine zN (by omega) ?_ | refine amin ?_ | refine amax ?_ | refine zU (by omega) ?_ | refine z8 (by omega) ?_ | refine zX (by omega) (by omega) ?_ | refine zR rfl ?_ | refine acellA ?_ | refine zB H b1 rfl ?_ | refine zC H b1 ?_ | (apply zL H; (· repeat first | exact .h | apply AtK.t); (· rfl)) | (apply zA H; (· repeat first | exact .h | apply AtK.t)) | (apply zS H; (· repeat first | exact .h | apply AtK.t); (· rfl); (conv => whnf); clear H; intro τ H) | rw [List.length_map]); (refine wX ?_)))
          rw [show (([] : List AVal).length : Int) = 0 from rfl]
          (refine wX ?_)
          (repeat ((first | refine zI (by omega) ?_ | refine zE (by omega) (by omega) ?_ | refine zD (by omega) (by omega) ?_ | refine zY (by omega) ?_ | refine zN (by omega) ?_ | refine amin ?_ | refine amax ?_ | refine zU (by omega) ?_ | refine z8 (by omega) ?_ | refine zX (by omega) (by omega) ?_ | refine zR rfl ?_ | refine acellA ?_ | refine zB H b1 rfl ?_ | refine zC H b1 ?_ | (apply zL H; (· repeat first | exact .h | apply AtK.t); (· rfl)) | (apply zA H; (· repeat first | exact .h | apply AtK.t)) | (apply zS H; (· repeat first | exact .h | apply AtK.t); (· rfl); (conv => whnf); clear H; intro τ H) | rw [List.length_map]); (refine wX ?_)))
          refine happnew H (List.cons_ne_nil _ _) (show 1 * 16 ≤ 140737488355328 by decide) rfl fun r2 τ2 H2 => ?_
          clear H
          have H := H2
          clear H2
          (refine wX ?_)
          (repeat ((first | refine zI (by omega) ?_ | refine zE (by omega) (by omega) ?_ | refine zD (by omega) (by omega) ?_ | refine zY (by omega) ?_ | refine zN (by omega) ?_ | refine amin ?_ | refine amax ?_ | refine zU (by omega) ?_ | refine z8 (by omega) ?_ | refine zX (by omega) (by omega) ?_ | refine zR rfl ?_ | refine acellA ?_ | refine zB H b1 rfl ?_ | refine zC H b1 ?_ | (apply zL H; (· repeat first | exact .h | apply AtK.t); (· rfl)) | (apply zA H; (· repeat first | exact .h | apply AtK.t)) | (apply zS H; (· repeat first | exact .h | apply AtK.t); (· rfl); (conv => whnf); clear H; intro τ H) | rw [List.length_map]); (refine wX ?_)))
          refine ⟨(i + 1, .ms r2 2 0 1, [.o r2 (.cells (spC [((i : Int), (i : Int) + 1)]))], τ2), ⟨h, by dsimp only; rw [hstep]; exact .row r2 [((i : Int), (i : Int) + 1)] (by simp), H⟩, by dsimp only; omega, Sub.refl _, ?_⟩
          (refine wX ?_)
          (repeat' first | with_reducible exact EnvLe.refl _ | (refine EnvLe.node ?_ (by first | exact Or.inl rfl | exact Or.inr (Or.inl rfl) | exact Or.inr (Or.inr ⟨nofun, VLe.slice _ _ _⟩)) ?_))
        | row r _ hne2 =>
          rcases snoc_cases R with hR | ⟨R0, z, rfl⟩
          · exact (hne2 hR).elim
          rw [List.length_append, List.length_singleton] at hlen
          rw [addEnd_snoc] at hstep
          have hg := (spC_get (l := R0 ++ [z]) (i := R0.length) (by simp)).2
          rw [show (R0 ++ [z])[R0.length]'(by simp) = z by simp] at hg
          rw [show (R0 ++ [z]).length = R0.length + 1 by simp] at *
          (repeat ((first | refine zI (by omega) ?_ | refine zE (by omega) (by omega) ?_ | refine zD (by omega) (by omega) ?_ | refine zY (by omega) ?_ | refine zN (by omega) ?_ | refine amin ?_ | refine amax ?_ | refine zU (by omega) ?_ | refine z8 (by omega) ?_ | refine zX (by omega) (by omega) ?_ | refine zR rfl ?_ | refine acellA ?_ | refine zB H b1 rfl ?_ | refine zC H b1 ?_ | (apply zL H; (· repeat first | exact .h | apply AtK.t); (· rfl)) | (apply zA H; (· repeat first | exact .h | apply AtK.t)) | (apply zS H; (· repeat first | exact .h | apply AtK.t); (· rfl); (conv => whnf); clear H; intro τ H) | rw [List.length_map]); (refine wX ?_)))
          rw [show 0 + (((R0.length + 1 : Nat) : Int) - 1).toNat * 2 + 1 = R0.length * 2 + 1 by omega]
          refine aload (H.get (k := 0) rfl) hg ?_
          (refine wX ?_)
          by_cases hz : z.2 = (i : Int)
          · rw [if_pos hz] at hstep
            (repeat ((first | refine zI (by omega) ?_ | refine zE (by omega) (by omega) ?_ | refine zD (by omega) (by omega) ?_ | refine zY (by omega) ?_ | refine zN (by omega) ?_ | refine amin ?_ | refine amax ?_ | refine zU (by omega) ?_ | refine z8 (by omega) ?_ | refine zX (by omega) (by omega) ?_ | refine zR rfl ?_ | refine acellA ?_ | refine zB H b1 rfl ?_ | refine zC H b1 ?_ | (apply zL H; (· repeat first | exact .h | apply AtK.t); (· rfl)) | (apply zA H; (· repeat first | exact .h | apply AtK.t)) | (apply zS H; (· repeat first | exact .h | apply AtK.t); (· rfl); (conv => whnf); clear H; intro τ H) | rw [List.length_map]); (refine wX ?_)))
            rw [show 0 + (((R0.length + 1 : Nat) : Int) - 1).toNat * 2 + 1 = R0.length * 2 + 1 by omega]
            refine astore (H.get (k := 0) rfl) (by rw [spC_len, List.length_append]; show R0.length * 2 + 1 + 1 ≤ (R0.length + 1) * 2; omega) rfl (spC_last R0 z _) ?_
            replace H := H.set (k := 0) rfl (.cells (spC (R0 ++ [(z.1, (i : Int) + 1)])))
            generalize upd τ r _ = υ at *
            (refine wX ?_)
            (repeat ((first | refine zI (by omega) ?_ | refine zE (by omega) (by omega) ?_ | refine zD (by omega) (by omega) ?_ | refine zY (by omega) ?_ | refine zN (by omega) ?_ | refine amin ?_ | refine amax ?_ | refine zU (by omega) ?_ | refine z8 (by omega) ?_ | refine zX (by omega) (by omega) ?_ | refine zR rfl ?_ | refine acellA ?_ | refine zB H b1 rfl ?_ | refine zC H b1 ?_ | (apply zL H; (· repeat first | exact .h | apply AtK.t); (· rfl)) | (apply zA H; (· repeat first | exact .h | apply AtK.t)) | (apply zS H; (· repeat first | exact .h | apply AtK.t); (· rfl); (conv => whnf); clear H; intro τ H) | rw [List.length_map]); (refine wX ?_)))
            refine ⟨(i + 1, .ms r 2 0 (R0.length + 1), [.o r (.cells (spC (R0 ++ [(z.1, (i : Int) + 1)])))], υ), ⟨h, by dsimp only; rw [hstep]; exact RS2.row' r _ (by simp) (by simp), H⟩, by dsimp only; omega, Sub.refl _, ?_⟩
            (refine wX ?_)
            (repeat' first | with_reducible exact EnvLe.refl _ | (refine EnvLe.node ?_ (by first | exact Or.inl rfl | exact Or.inr (Or.inl rfl) | exact Or.inr (Or.inr ⟨nofun, VLe.slice _ _ _⟩)) ?_))
          · rw [if_neg hz] at hstep
            (repeat ((first | refine zI (by omega) ?_ | refine zE (by omega) (by omega) ?_ | refine zD (by omega) (by omega) ?_ | refine zY (by omega) ?_ | refine zN (by omega) ?_ | refine amin ?_ | refine amax ?_ | refine zU (by omega) ?_ | refine z8 (by omega) ?_ | refine zX (by omega) (by omega) ?_ | refine zR rfl ?_ | refine acellA ?_ | refine zB H b1 rfl ?_ | refine zC H b1 ?_ | (apply zL H; (· repeat first | exact .h | apply AtK.t); (· rfl)) | (apply zA H; (· repeat first | exact .h | apply AtK.t)) | (apply zS H; (· repeat first | exact .h | apply AtK.t); (· rfl); (conv => whnf); clear H; intro τ H) | rw [List.length_map]); (refine wX ?_)))
            refine happm H (k := 0) rfl (by rw [spC_len, List.length_append]; simp) (by simp only [List.length_singleton]; omega) rfl fun r2 τ2 H2 => ?_
            clear H
            have H := H2
            rw [spC_snoc (R0 ++ [z]) i ((i : Int) + 1)] at H
            clear H2
            (refine wX ?_)
            (repeat ((first | refine zI (by omega) ?_ | refine zE (by omega) (by omega) ?_ | refine zD (by omega) (by omega) ?_ | refine zY (by omega) ?_ | refine zN (by omega) ?_ | refine amin ?_ | refine amax ?_ | refine zU (by omega) ?_ | refine z8 (by omega) ?_ | refine zX (by omega) (by omega) ?_ | refine zR rfl ?_ | refine acellA ?_ | refine zB H b1 rfl ?_ | refine zC H b1 ?_ | (apply zL H; (· repeat first | exact .h | apply AtK.t); (· rfl)) | (apply zA H; (· repeat first | exact .h | apply AtK.t)) | (apply zS H; (· repeat first | exact .h | apply AtK.t); (· rfl); (conv => whnf); clear H; intro τ H) | rw [List.length_map]); (refine wX ?_)))
            refine ⟨(i + 1, .ms r2 2 0 (R0.length + 1 + 1), [.o r2 (.cells (spC ((R0 ++ [z]) ++ [((i : Int), (i : Int) + 1)])))], τ2), ⟨h, by dsimp only; rw [hstep]; exact RS2.row' r2 _ (by simp) (by simp), H⟩, by dsimp only; omega, Sub.refl _, ?_⟩
            (refine wX ?_)
            (repeat' first | with_reducible exact EnvLe.refl _ | (refine EnvLe.node ?_ (by first | exact Or.inl rfl | exact Or.inr (Or.inl rfl) | exact Or.inr (Or.inr ⟨nofun, VLe.slice _ _ _⟩)) ?_))
      · skip
        (refine wX ?_)
        (repeat ((first | refine zI (by omega) ?_ | refine zE (by omega) (by omega) ?_ | refine zD (by omega) (by omega) ?_ | refine zY (by omega) ?_ | refine zN (by omega) ?_ | refine amin ?_ | refine amax ?_ | refine zU (by omega) ?_ | refine z8 (by omega) ?_ | refine zX (by omega) (by omega) ?_ | refine zR rfl ?_ | refine acellA ?_ | refine zB H b1 rfl ?_ | refine zC H b1 ?_ | (apply zL H; (· repeat first | exact .h | apply AtK.t); (· rfl)) | (apply zA H; (· repeat first | exact .h | apply AtK.t)) | (apply zS H; (· repeat first | exact .h | apply AtK.t); (· rfl); (conv => whnf); clear H; intro τ H) | rw [List.length_map]); (refine wX ?_)))
        refine ⟨(i + 1, w, E, τ), ⟨h, by dsimp only; rw [hstep, if_neg (by decide)]; exact hw, H⟩, by dsimp only; omega, Sub.refl _, ?_⟩
        (refine wX ?_)
        (repeat' first | with_reducible exact EnvLe.refl _ | (refine EnvLe.node ?_ (by first | exact Or.inl rfl | exact Or.inr (Or.inl rfl) | exact Or.inr (Or.inr ⟨nofun, VLe.slice _ _ _⟩)) ?_))
    · (refine wX ?_)
      (repeat ((first | refine zI (by omega) ?_ | refine zE (by omega) (by omega) ?_ | refine zD (by omega) (by omega) ?_ | refine zY (by omega) ?_ | refine zN (by omega) ?_ | refine amin ?_ | refine amax ?_ | refine zU (by omega) ?_ | refine z8 (by omega) ?_ | refine zX (by omega) (by omega) ?_ | refine zR rfl ?_ | refine acellA ?_ | refine zB H b1 rfl ?_ | refine zC H b1 ?_ | (apply zL H; (· repeat first | exact .h | apply AtK.t); (· rfl)) | (apply zA H; (· repeat first | exact .h | apply AtK.t)) | (apply zS H; (· repeat first | exact .h | apply AtK.t); (· rfl); (conv => whnf); clear H; intro τ H) | rw [List.length_map]); (refine wX ?_)))
      refine aload hix rfl ?_
      (refine wX ?_)
      (repeat ((first | refine zI (by omega) ?_ | refine zE (by omega) (by omega) ?_ | refine zD (by omega) (by omega) ?_ | refine zY (by omega) ?_ | refine zN (by omega) ?_ | refine amin ?_ | refine amax ?_ | refine zU (by omega) ?_ | refine z8 (by omega) ?_ | refine zX (by omega) (by omega) ?_ | refine zR rfl ?_ | refine acellA ?_ | refine zB H b1 rfl ?_ | refine zC H b1 ?_ | (apply zL H; (· repeat first | exact .h | apply AtK.t); (· rfl)) | (apply zA H; (· repeat first | exact .h | apply AtK.t)) | (apply zS H; (· repeat first | exact .h | apply AtK.t); (· rfl); (conv => whnf); clear H; intro τ H) | rw [List.length_map]); (refine wX ?_)))
      refine zB H b1 (truths_get hl) ?_
      rw [hbt]
      (refine wX ?_)
      cases bt
      · skip
        cases is
        · skip
          rw [if_pos (by decide)] at hstep
          (refine wX ?_)
          cases hw with
          | nil =>
            (refine wX ?_)
            (repeat ((first | refine zI (by omega) ?_ | refine zE (by omega) (by omega) ?_ | refine zD (by omega) (by omega) ?_ | refine zY (by omega) ?_ | refine zN (by omega) ?_ | refine amin ?_ | refine amax ?_ | refine zU (by omega) ?_ | refine z8 (by omega) ?_ | refine zX (by omega) (by omega) ?_ | refine zR rfl ?_ | refine acellA ?_ | refine zB H b1 rfl ?_ | refine zC H b1 ?_ | (apply zL H; (· repeat first | exact .h | apply AtK.t); (· rfl)) | (apply zA H; (· repeat first | exact .h | apply AtK.t)) | (apply zS H; (· repeat first | exact .h | apply AtK.t); (· rfl); (conv => whnf); clear H; intro τ H) | rw [List.length_map]); (refine wX ?_)))
            rw [show (([] : List AVal).length : Int) = 0 from rfl]
            (refine wX ?_)
            (repeat ((first | refine zI (by omega) ?_ | refine zE (by omega) (by omega) ?_ | refine zD (by omega) (by omega) ?_ | refine zY (by omega) ?_ | refine zN (by omega) ?_ | refine amin ?_ | refine amax ?_ | refine zU (by omega) ?_ | refine z8 (by omega) ?_ | refine zX (by omega) (by omega) ?_ | refine zR rfl ?_ | refine acellA ?_ | refine zB H b1 rfl ?_ | refine zC H b1 ?_ | (apply zL H; (· repeat first | exact .h | apply AtK.t); (· rfl)) | (apply zA H; (· repeat first | exact .h | apply AtK.t)) | (apply zS H; (· repeat first | exact .h | apply AtK.t); (· rfl); (conv => whnf); clear H; intro τ H) | rw [List.length_map]); (refine wX ?_)))
            refine happnew H (List.cons_ne_nil _ _) (show 1 * 16 ≤ 140737488355328 by decide) rfl fun r2 τ2 H2 => ?_
            clear H
            have H := H2
            clear H2
            (refine wX ?_)
            (repeat ((first | refine zI (by omega) ?_ | refine zE (by omega) (by omega) ?_ | refine zD (by omega) (by omega) ?_ | refine zY (by omega) ?_ | refine zN (by omega) ?_ | refine amin ?_ | refine amax ?_ | refine zU (by omega) ?_ | refine z8 (by omega) ?_ | refine zX (by omega) (by omega) ?_ | refine zR rfl ?_ | refine acellA ?_ | refine zB H b1 rfl ?_ | refine zC H b1 ?_ | (apply zL H; (· repeat first | exact .h | apply AtK.t); (· rfl)) | (apply zA H; (· repeat first | exact .h | apply AtK.t)) | (apply zS H; (· repeat first | exact .h | apply AtK.t); (· rfl); (conv => whnf); clear H; intro τ H) | rw [List.length_map]); (refine wX ?_)))
            refine ⟨(i + 1, .ms r2 2 0 1, [.o r2 (.cells (spC [((i : Int), (i : Int) + 1)]))], τ2), ⟨h, by dsimp only; rw [hstep]; exact .row r2 [((i : Int), (i : Int) + 1)] (by simp), H⟩, by dsimp only; omega, Sub.refl _, ?_⟩
            (refine wX ?_)
            (repeat' first | with_reducible exact EnvLe.refl _ | (refine EnvLe.node ?_ (by first | exact Or.inl rfl | exact Or.inr (Or.inl rfl) | exact Or.inr (Or.inr ⟨nofun, VLe.slice _ _ _⟩)) ?_))
          | row r _ hne2 =>
            rcases snoc_cases R with hR | ⟨R0, z, rfl⟩
            · exact (hne2 hR).elim
            rw [List.length_append, List.length_singleton] at hlen
            rw [addEnd_snoc] at hstep
            have hg := (spC_get (l := R0 ++ [z]) (i := R0.length) (by simp)).2
            rw [show (R0 ++ [z])[R0.length]'(by simp) = z by simp] at hg
            rw [show (R0 ++ [z]).length = R0.length + 1 by simp] at *
            (repeat ((first | refine zI (by omega) ?_ | refine zE (by omega) (by omega) ?_ | refine zD (by omega) (by omega) ?_ | refine zY (by omega) ?_ | refine zN (by omega) ?_ | refine amin ?_ | refine amax ?_ | refine zU (by omega) ?_ | refine z8 (by omega) ?_ | refine zX (by omega) (by omega) ?_ | refine zR rfl ?_ | refine acellA ?_ | refine zB H b1 rfl ?_ | refine zC H b1 ?_ | (apply zL H; (· repeat first | exact .h | apply AtK.t); (· rfl)) | (apply zA H; (· repeat first | exact .h | apply AtK.t)) | (apply zS H; (· repeat first | exact .h | apply AtK.t); (· rfl); (conv => whnf); clear H; intro τ H) | rw [List.length_map]); (refine wX ?_)))
            rw [show 0 + (((R0.length + 1 : Nat) : Int) - 1).toNat * 2 + 1 = R0.length * 2 + 1 by omega]
            refine aload (H.get (k := 0) rfl) hg ?_
            (refine wX ?_)
            by_cases hz : z.2 = (i : Int)
            · rw [if_pos hz] at hstep
              (repeat ((first | refine zI (by omega) ?_ | refine zE (by omega) (by omega) ?_ | refine zD (by omega) (by omega) ?_ | refine zY (by omega) ?_ | refine zN (by omega) ?_ | refine amin ?_ | refine amax ?_ | refine zU (by omega) ?_ | refine z8 (by omega) ?_ | refine zX (by omega) (by omega) ?_ | refine zR rfl ?_ | refine acellA ?_ | refine zB H b1 rfl ?_ | refine zC H b1 ?_ | (apply zL H; (· repeat first | exact .h | apply AtK.t); (· rfl)) | (apply zA H; (· repeat first | exact .h | apply AtK.t)) | (apply zS H; (· repeat first | exact .h | apply AtK.t); (· rfl); (conv => whnf); clear H; intro τ H) | rw [List.length_map]); (refine wX ?_)))
              rw [show 0 + (((R0.length + 1 : Nat) : Int) - 1).toNat * 2 + 1 = R0.length * 2 + 1 by omega]
              refine astore (H.get (k := 0) rfl) (by rw [spC_len, List.length_append]; show R0.length * 2 + 1 + 1 ≤ (R0.length + 1) * 2; omega) rfl (spC_last R0 z _) ?_
              replace H := H.set (k := 0) rfl (.cells (spC (R0 ++ [(z.1, (i : Int) + 1)])))
              generalize upd τ r _ = υ at *
              (refine wX ?_)
              (repeat ((first | refine zI (by omega) ?_ | refine zE (by omega) (by omega) ?_ | refine zD (by omega) (by omega) ?_ | refine zY (by omega) ?_ | refine zN (by omega) ?_ | refine amin ?_ | refine amax ?_ | refine zU (by omega) ?_ | refine z8 (by omega) ?_ | refine zX (by omega) (by omega) ?_ | refine zR rfl ?_ | refine acellA ?_ | refine zB H b1 rfl ?_ | refine zC H b1 ?_ | (apply zL H; (· repeat first | exact .h | apply AtK.t); (· rfl)) | (apply zA H; (· repeat first | exact .h | apply AtK.t)) | (apply zS H; (· repeat first | exact .h | apply AtK.t); (· rfl); (conv => whnf); clear H; intro τ H) | rw [List.length_map]); (refine wX ?_)))
              refine ⟨(i + 1, .ms r 2 0 (R0.length + 1), [.o r (.cells (spC (R0 ++ [(z.1, (i : Int) + 1)])))], υ), ⟨h, by dsimp only; rw [hstep]; exact RS2.row' r _ (by simp) (by simp), H⟩, by dsimp only; omega, Sub.refl _, ?_⟩
              (refine wX ?_)
              (repeat' first | with_reducible exact EnvLe.refl _ | (refine EnvLe.node ?_ (by first | exact Or.inl rfl | exact Or.inr (Or.inl rfl) | exact Or.inr (Or.inr ⟨nofun, VLe.slice _ _ _⟩)) ?_))
            · rw [if_neg hz] at hstep
              (repeat ((first | refine zI (by omega) ?_ | refine zE (by omega) (by omega) ?_ | refine zD (by omega) (by omega) ?_ | refine zY (by omega) ?_ | refine zN (by omega) ?_ | refine amin ?_ | refine amax ?_ | refine zU (by omega) ?_ | refine z8 (by omega) ?_ | refine zX (by omega) (by omega) ?_ | refine zR rfl ?_ | refine acellA ?_ | refine zB H b1 rfl ?_ | refine zC H b1 ?_ | (apply zL H; (· repeat first | exact .h | apply AtK.t); (· rfl)) | (apply zA H; (· repeat first | exact .h | apply AtK.t)) | (apply zS H; (· repeat first | exact .h | apply AtK.t); (· rfl); (conv => whnf); clear H; intro τ H) | rw [List.length_map]); (refine wX ?_)))
              refine happm H (k := 0) rfl (by rw [spC_len, List.length_append]; simp) (by simp only [List.length_singleton]; omega) rfl fun r2 τ2 H2 => ?_
              clear H
              have H := H2
              rw [spC_snoc (R0 ++ [z]) i ((i : Int) + 1)] at H
              clear H2
              (refine wX ?_)
              (repeat ((first | refine zI (by omega) ?_ | refine zE (by omega) (by omega) ?_ | refine zD (by omega) (by omega) ?_ | refine zY (by omega) ?_ | refine zN (by omega) ?_ | refine amin ?_ | refine amax ?_ | refine zU (by omega) ?_ | refine z8 (by omega) ?_ | refine zX (by omega) (by omega) ?_ | refine zR rfl ?_ | refine acellA ?_ | refine zB H b1 rfl ?_ | refine zC H b1 ?_ | (apply zL H; (· repeat first | exact .h | apply AtK.t); (· rfl)) | (apply zA H; (· repeat first | exact .h | apply AtK.t)) | (apply zS H; (· repeat first | exact .h | apply AtK.t); (· rfl); (conv => whnf); clear H; intro τ H) | rw [List.length_map]); (refine wX ?_)))
              refine ⟨(i + 1, .ms r2 2 0 (R0.length + 1 + 1), [.o r2 (.cells (spC ((R0 ++ [z]) ++ [((i : Int), (i : Int) + 1)])))], τ2), ⟨h, by dsimp only; rw [hstep]; exact RS2.row' r2 _ (by simp) (by simp), H⟩, by dsimp only; omega, Sub.refl _, ?_⟩
              (refine wX ?_)
              (repeat' first | with_reducible exact EnvLe.refl _ | (refine EnvLe.node ?_ (by first | exact Or.inl rfl | exact Or.inr (Or.inl rfl) | exact Or.inr (Or.inr ⟨nofun, VLe.slice _ _ _⟩)) ?_))
        · skip
          (refine wX ?_)
          (repeat ((first | refine zI (by omega) ?_ | refine zE (by omega) (by omega) ?_ | refine zD (by omega) (by omega) ?_ | refine zY (by omega) ?_ | refine zN (by omega) ?_ | refine amin ?_ | refine amax ?_ | refine zU (by omega) ?_ | refine z8 (by omega) ?_ | refine zX (by omega) (by omega) ?_ | refine zR rfl ?_ | refine acellA ?_ | refine zB H b1 rfl ?_ | refine zC H b1 ?_ | (apply zL H; (· repeat first | exact .h | apply AtK.t); (· rfl)) | (apply zA H; (· repeat first | exact .h | apply AtK.t)) | (apply zS H; (· repeat first | exact .h | apply AtK.t); (· rfl); (conv => whnf); clear H; intro τ H) | rw [List.length_map]); (refine wX ?_)))
          refine ⟨(i + 1, w, E, τ), ⟨h, by dsimp only; rw [hstep, if_neg (by decide)]; exact hw, H⟩, by dsimp only; omega, Sub.refl _, ?_⟩
          (refine wX ?_)
          (repeat' first | with_reducible exact EnvLe.refl _ | (refine EnvLe.node ?_ (by first | exact Or.inl rfl | exact Or.inr (Or.inl rfl) | exact Or.inr (Or.inr ⟨nofun, VLe.slice _ _ _⟩)) ?_))
      · skip
        cases is
        · skip
          (refine wX ?_)
          (repeat ((first | refine zI (by omega) ?_ | refine zE (by omega) (by omega) ?_ | refine zD (by omega) (by omega) ?_ | refine zY (by omega) ?_ | refine zN (by omega) ?_ | refine amin ?_ | refine amax ?_ | refine zU (by omega) ?_ | refine z8 (by omega) ?_ | refine zX (by omega) (by omega) ?_ | refine zR rfl ?_ | refine acellA ?_ | refine zB H b1 rfl ?_ | refine zC H b1 ?_ | (apply zL H; (· repeat first | exact .h | apply AtK.t); (· rfl)) | (apply zA H; (· repeat first | exact .h | apply AtK.t)) | (apply zS H; (· repeat first | exact .h | apply AtK.t); (· rfl); (conv => whnf); clear H; intro τ H) | rw [List.length_map]); (refine wX ?_)))
          refine ⟨(i + 1, w, E, τ), ⟨h, by dsimp only; rw [hstep, if_neg (by decide)]; exact hw, H⟩, by dsimp only; omega, Sub.refl _, ?_⟩
          (refine wX ?_)
          (repeat' first | with_reducible exact EnvLe.refl _ | (refine EnvLe.node ?_ (by first | exact Or.inl rfl | exact Or.inr (Or.inl rfl) | exact Or.inr (Or.inr ⟨nofun, VLe.slice _ _ _⟩)) ?_))
        · skip
          rw [if_pos (by decide)] at hstep
          (refine wX ?_)
          cases hw with
          | nil =>
            (refine wX ?_)
            (repeat ((first | refine zI (by omega) ?_ | refine zE (by omega) (by omega) ?_ | refine zD (by omega) (by omega) ?_ | refine zY (by omega) ?_ | refine zN (by omega) ?_ | refine amin ?_ | refine amax ?_ | refine zU (by omega) ?_ | refine z8 (by omega) ?_ | refine zX (by omega) (by omega) ?_ | refine zR rfl ?_ | refine acellA ?_ | refine zB H b1 rfl ?_ | refine zC H b1 ?_ | (apply zL H; (· repeat first | exact .h | apply AtK.t); (· rfl)) | (apply zA H; (· repeat first | exact .h | apply AtK.t)) | (apply zS H; (· repeat first | exact .h | apply AtK.t); (· rfl); (conv => whnf); clear H; intro τ H) | rw [List.length_map]); (refine wX ?_)))
            rw [show (([] : List AVal).length : Int) = 0 from rfl]
            (refine wX ?_)
            (repeat ((first | refine zI (by omega) ?_ | refine zE (by omega) (by omega) ?_ | refine zD (by omega) (by omega) ?_ | refine zY (by omega) ?_ | refine zN (by omega) ?_ | refine amin ?_ | refine amax ?_ | refine zU (by omega) ?_ | refine z8 (by omega) ?_ | refine zX (by omega) (by omega) ?_ | refine zR rfl ?_ | refine acellA ?_ | refine zB H b1 rfl ?_ | refine zC H b1 ?_ | (apply zL H; (· repeat first | exact .h | apply AtK.t); (· rfl)) | (apply zA H; (· repeat first | exact .h | apply AtK.t)) | (apply zS H; (· repeat first | exact .h | apply AtK.t); (· rfl); (conv => whnf); clear H; intro τ H) | rw [List.length_map]); (refine wX ?_)))
            refine happnew H (List.cons_ne_nil _ _) (show 1 * 16 ≤ 140737488355328 by decide) rfl fun r2 τ2 H2 => ?_
            clear H
            have H := H2
            clear H2
            (refine wX ?_)
            (repeat ((first | refine zI (by omega) ?_ | refine zE (by omega) (by omega) ?_ | refine zD (by omega) (by omega) ?_ | refine zY (by omega) ?_ | refine zN (by omega) ?_ | refine amin ?_ | refine amax ?_ | refine zU (by omega) ?_ | refine z8 (by omega) ?_ | refine zX (by omega) (by omega) ?_ | refine zR rfl ?_ | refine acellA ?_ | refine zB H b1 rfl ?_ | refine zC H b1 ?_ | (apply zL H; (· repeat first | exact .h | apply AtK.t); (· rfl)) | (apply zA H; (· repeat first | exact .h | apply AtK.t)) | (apply zS H; (· repeat first | exact .h | apply AtK.t); (· rfl); (conv => whnf); clear H; intro τ H) | rw [List.length_map]); (refine wX ?_)))
            refine ⟨(i + 1, .ms r2 2 0 1, [.o r2 (.cells (spC [((i : Int), (i : Int) + 1)]))], τ2), ⟨h, by dsimp only; rw [hstep]; exact .row r2 [((i : Int), (i : Int) + 1)] (by simp), H⟩, by dsimp only; omega, Sub.refl _, ?_⟩
            (refine wX ?_)
            (repeat' first | with_reducible exact EnvLe.refl _ | (refine EnvLe.node ?_ (by first | exact Or.inl rfl | exact Or.inr (Or.inl rfl) | exact Or.inr (Or.inr ⟨nofun, VLe.slice _ _ _⟩)) ?_))
          | row r _ hne2 =>
            rcases snoc_cases R with hR | ⟨R0, z, rfl⟩
            · exact (hne2 hR).elim
            rw [List.length_append, List.length_singleton] at hlen
            rw [addEnd_snoc] at hstep
            have hg := (spC_get (l := R0 ++ [z]) (i := R0.length) (by simp)).2
            rw [show (R0 ++ [z])[R0.length]'(by simp) = z by simp] at hg
            rw [show (R0 ++ [z]).length = R0.length + 1 by simp] at *
            (repeat ((first | refine zI (by omega) ?_ | refine zE (by omega) (by omega) ?_ | refine zD (by omega) (by omega) ?_ | refine zY (by omega) ?_ | refine zN (by omega) ?_ | refine amin ?_ | refine amax ?_ | refine zU (by omega) ?_ | refine z8 (by omega) ?_ | refine zX (by omega) (by omega) ?_ | refine zR rfl ?_ | refine acellA ?_ | refine zB H b1 rfl ?_ | refine zC H b1 ?_ | (apply zL H; (· repeat first | exact .h | apply AtK.t); (· rfl)) | (apply zA H; (· repeat first | exact .h | apply AtK.t)) | (apply zS H; (· repeat first | exact .h | apply AtK.t); (· rfl); (conv => whnf); clear H; intro τ H) | rw [List.length_map]); (refine wX ?_)))
            rw [show 0 + (((R0.length + 1 : Nat) : Int) - 1).toNat * 2 + 1 = R0.length * 2 + 1 by omega]
            refine aload (H.get (k := 0) rfl) hg ?_
            (refine wX ?_)
            by_cases hz : z.2 = (i : Int)
            · rw [if_pos hz] at hstep
              (repeat ((first | refine zI (by omega) ?_ | refine zE (by omega) (by omega) ?_ | refine zD (by omega) (by omega) ?_ | refine zY (by omega) ?_ | refine zN (by omega) ?_ | refine amin ?_ | refine amax ?_ | refine zU (by omega) ?_ | refine z8 (by omega) ?_ | refine zX (by omega) (by omega) ?_ | refine zR rfl ?_ | refine acellA ?_ | refine zB H b1 rfl ?_ | refine zC H b1 ?_ | (apply zL H; (· repeat first | exact .h | apply AtK.t); (· rfl)) | (apply zA H; (· repeat first | exact .h | apply AtK.t)) | (apply zS H; (· repeat first | exact .h | apply AtK.t); (· rfl); (conv => whnf); clear H; intro τ H) | rw [List.length_map]); (refine wX ?_)))
              rw [show 0 + (((R0.length + 1 : Nat) : Int) - 1).toNat * 2 + 1 = R0.length * 2 + 1 by omega]
              refine astore (H.get (k := 0) rfl) (by rw [spC_len, List.length_append]; show R0.length * 2 + 1 + 1 ≤ (R0.length + 1) * 2; omega) rfl (spC_last R0 z _) ?_
              replace H := H.set (k := 0) rfl (.cells (spC (R0 ++ [(z.1, (i : Int) + 1)])))
              generalize upd τ r _ = υ at *
              (refine wX ?_)
              (repeat ((first | refine zI (by omega) ?_ | refine zE (by omega) (by omega) ?_ | refine zD (by omega) (by omega) ?_ | refine zY (by omega) ?_ | refine zN (by omega) ?_ | refine amin ?_ | refine amax ?_ | refine zU (by omega) ?_ | refine z8 (by omega) ?_ | refine zX (by omega) (by omega) ?_ | refine zR rfl ?_ | refine acellA ?_ | refine zB H b1 rfl ?_ | refine zC H b1 ?_ | (apply zL H; (· repeat first | exact .h | apply AtK.t); (· rfl)) | (apply zA H; (· repeat first | exact .h | apply AtK.t)) | (apply zS H; (· repeat first | exact .h | apply AtK.t); (· rfl); (conv => whnf); clear H; intro τ H) | rw [List.length_map]); (refine wX ?_)))
              refine ⟨(i + 1, .ms r 2 0 (R0.length + 1), [.o r (.cells (spC (R0 ++ [(z.1, (i : Int) + 1)])))], υ), ⟨h, by dsimp only; rw [hstep]; exact RS2.row' r _ (by simp) (by simp), H⟩, by dsimp only; omega, Sub.refl _, ?_⟩
              (refine wX ?_)
              (repeat' first | with_reducible exact EnvLe.refl _ | (refine EnvLe.node ?_ (by first | exact Or.inl rfl | exact Or.inr (Or.inl rfl) | exact Or.inr (Or.inr ⟨nofun, VLe.slice _ _ _⟩)) ?_))
            · rw [if_neg hz] at hstep
              (repeat ((first | refine zI (by omega) ?_ | refine zE (by omega) (by omega) ?_ | refine zD (by omega) (by omega) ?_ | refine zY (by omega) ?_ | refine zN (by omega) ?_ | refine amin ?_ | refine amax ?_ | refine zU (by omega) ?_ | refine z8 (by omega) ?_ | refine zX (by omega) (by omega) ?_ | refine zR rfl ?_ | refine acellA ?_ | refine zB H b1 rfl ?_ | refine zC H b1 ?_ | (apply zL H; (· repeat first | exact .h | apply AtK.t); (· rfl)) | (apply zA H; (· repeat first | exact .h | apply AtK.t)) | (apply zS H; (· repeat first | exact .h | apply AtK.t); (· rfl); (conv => whnf); clear H; intro τ H) | rw [List.length_map]); (refine wX ?_)))
              refine happm H (k := 0) rfl (by rw [spC_len, List.length_append]; simp) (by simp only [List.length_singleton]; omega) rfl fun r2 τ2 H2 => ?_
              clear H
              have H := H2
              rw [spC_snoc (R0 ++ [z]) i ((i : Int) + 1)] at H
              clear H2
              (refine wX ?_)
              (repeat ((first | refine zI (by omega) ?_ | refine zE (by omega) (by omega) ?_ | refine zD (by omega) (by omega) ?_ | refine zY (by omega) ?_ | refine zN (by omega) ?_ | refine amin ?_ | refine amax ?_ | refine zU (by omega) ?_ | refine z8 (by omega) ?_ | refine zX (by omega) (by omega) ?_ | refine zR rfl ?_ | refine acellA ?_ | refine zB H b1 rfl ?_ | refine zC H b1 ?_ | (apply zL H; (· repeat first | exact .h | apply AtK.t); (· rfl)) | (apply zA H; (· repeat first | exact .h | apply AtK.t)) | (apply zS H; (· repeat first | exact .h | apply AtK.t); (· rfl); (conv => whnf); clear H; intro τ H) | rw [List.length_map]); (refine wX ?_)))
              refine ⟨(i + 1, .ms r2 2 0 (R0.length + 1 + 1), [.o r2 (.cells (spC ((R0 ++ [z]) ++ [((i : Int), (i : Int) + 1)])))], τ2), ⟨h, by dsimp only; rw [hstep]; exact RS2.row' r2 _ (by simp) (by simp), H⟩, by dsimp only; omega, Sub.refl _, ?_⟩
              (refine wX ?_)
              (repeat' first | with_reducible exact EnvLe.refl _ | (refine EnvLe.node ?_ (by first | exact Or.inl rfl | exact Or.inr (Or.inl rfl) | exact Or.inr (Or.inr ⟨nofun, VLe.slice _ _ _⟩)) ?_))
  · have hit : i = to := by omega
    subst hit
    (repeat ((first | refine zI (by omega) ?_ | refine zE (by omega) (by omega) ?_ | refine zD (by omega) (by omega) ?_ | refine zY (by omega) ?_ | refine zN (by omega) ?_ | refine amin ?_ | refine amax ?_ | refine zU (by omega) ?_ | refine z8 (by omega) ?_ | refine zX (by omega) (by omega) ?_ | refine zR rfl ?_ | refine acellA ?_ | refine zB H b1 rfl ?_ | refine zC H b1 ?_ | (apply zL H; (· repeat first | exact .h | apply AtK.t); (· rfl)) | (apply zA H; (· repeat first | exact .h | apply AtK.t)) | (apply zS H; (· repeat first | exact .h | apply AtK.t); (· rfl); (conv => whnf); clear H; intro τ H) | rw [List.length_map]); (refine wX ?_)))
    exact aret (VLe.refl _) (Sub.refl _) ⟨E, hw, H.left⟩
end
end Go.Proofs.Ytgobbmdbkmjlnaa
/-
  The document's sets of places: what their functions change.
-/
namespace Go.Proofs.Ytgobbmdbkmjlnaa
set_option linter.unusedVariables false
set_option linter.unusedSimpArgs false
open Go Go.Am

/-- A span's places changed. -/
structure Withs (L L' : List Bool) (x : Sp) (is : Bool) : Prop where
  len : L'.length = max L.length x.2.toNat
  bit : ∀ i : Nat, bitT L' i = if x.1 ≤ (i : Int) ∧ (i : Int) < x.2 then is else bitT L i
section
variable {σ : AHeap} {v : AVal} {L : List Bool}
end
theorem rSpans03 {σ : AHeap} {v : AVal} {L : List Bool} (hd : TOk σ v L) (hL : L.length ≤ 65536) : ACalls Try.prog i_bowlineref03_Set_Spans [.agg [v]] σ fun w σ' => ∃ E, RS2 w (runT L true L.length) E ∧ Hp σ E σ' := by
  have hvc := hd.isCell
  refine k_bowlineref03_Set_Spans rfl ?_
  have H := Hp.nil σ
  (refine wX ?_)
  refine hnew H (by simp [AVal.cells, hvc]) ?_
  clear H
  intro js τ H
  replace H : Hp σ [.o js (.cells [v])] τ := H
  (refine wX ?_)
  (repeat ((first | refine zI (by omega) ?_ | refine zE (by omega) (by omega) ?_ | refine zD (by omega) (by omega) ?_ | refine zY (by omega) ?_ | refine zN (by omega) ?_ | refine amin ?_ | refine amax ?_ | refine zU (by omega) ?_ | refine z8 (by omega) ?_ | refine zX (by omega) (by omega) ?_ | refine zR rfl ?_ | refine acellA ?_ | refine zB H b1 rfl ?_ | refine zC H b1 ?_ | (apply zL H; (· repeat first | exact .h | apply AtK.t); (· rfl)) | (apply zA H; (· repeat first | exact .h | apply AtK.t)) | (apply zS H; (· repeat first | exact .h | apply AtK.t); (· rfl); (conv => whnf); clear H; intro τ H) | rw [List.length_map]); (refine wX ?_)))
  have hd2 : TOk τ v L := by
    rcases hd with h | ⟨r, h1, h2, h3⟩
    · exact .inl h
    · exact .inr ⟨r, h1, H.ext _ _ rfl h2, h3⟩
  have hlen : ∀ {K : AVal → AHeap → Prop} {env : Env} {d : Pth}, True := trivial
  clear hlen
  have hcall := rRuns03 hd2 true L.length (by omega) hL
  rcases hd with ⟨rfl, rfl⟩ | ⟨r, rfl, b1, hne⟩
  · (refine wX ?_)
    (repeat ((first | refine zI (by omega) ?_ | refine zE (by omega) (by omega) ?_ | refine zD (by omega) (by omega) ?_ | refine zY (by omega) ?_ | refine zN (by omega) ?_ | refine amin ?_ | refine amax ?_ | refine zU (by omega) ?_ | refine z8 (by omega) ?_ | refine zX (by omega) (by omega) ?_ | refine zR rfl ?_ | refine acellA ?_ | refine zB H b1 rfl ?_ | refine zC H b1 ?_ | (apply zL H; (· repeat first | exact .h | apply AtK.t); (· rfl)) | (apply zA H; (· repeat first | exact .h | apply AtK.t)) | (apply zS H; (· repeat first | exact .h | apply AtK.t); (· rfl); (conv => whnf); clear H; intro τ H) | rw [List.length_map]); (refine wX ?_)))
    refine acall hcall ?_
    rintro _ υ ⟨E, hE, N⟩
    refine ⟨?_, N.ext⟩
    (refine wX ?_)
    exact aret (VLe.refl _) (Sub.refl _) ⟨E, hE, (H.join N).left⟩
  · (refine wX ?_)
    (repeat ((first | refine zI (by omega) ?_ | refine zE (by omega) (by omega) ?_ | refine zD (by omega) (by omega) ?_ | refine zY (by omega) ?_ | refine zN (by omega) ?_ | refine amin ?_ | refine amax ?_ | refine zU (by omega) ?_ | refine z8 (by omega) ?_ | refine zX (by omega) (by omega) ?_ | refine zR rfl ?_ | refine acellA ?_ | refine zB H b1 rfl ?_ | refine zC H b1 ?_ | (apply zL H; (· repeat first | exact .h | apply AtK.t); (· rfl)) | (apply zA H; (· repeat first | exact .h | apply AtK.t)) | (apply zS H; (· repeat first | exact .h | apply AtK.t); (· rfl); (conv => whnf); clear H; intro τ H) | rw [List.length_map]); (refine wX ?_)))
    refine acall hcall ?_
    rintro _ υ ⟨E, hE, N⟩
    refine ⟨?_, N.ext⟩
    (refine wX ?_)
    exact aret (VLe.refl _) (Sub.refl _) ⟨E, hE, (H.join N).left⟩
theorem rGaps03 {σ : AHeap} {v : AVal} {L : List Bool} (hd : TOk σ v L) (hL : L.length ≤ 65536) (to : Int) : ACalls Try.prog i_bowlineref03_Set_Gaps [.agg [v], i64v to] σ fun w σ' => ∃ E, RS2 w (if 1 ≤ to ∧ to ≤ 65536 then runT L false to.toNat else []) E ∧ Hp σ E σ' := by
  have hvc := hd.isCell
  refine k_bowlineref03_Set_Gaps rfl ?_
  have H := Hp.nil σ
  (refine wX ?_)
  refine hnew H (by simp [AVal.cells, hvc]) ?_
  clear H
  intro js τ H
  replace H : Hp σ [.o js (.cells [v])] τ := H
  (refine wX ?_)
  by_cases h1 : to < 1
  · rw [if_neg (by omega)]
    (repeat ((first | refine zI (by omega) ?_ | refine zE (by omega) (by omega) ?_ | refine zD (by omega) (by omega) ?_ | refine zY (by omega) ?_ | refine zN (by omega) ?_ | refine amin ?_ | refine amax ?_ | refine zU (by omega) ?_ | refine z8 (by omega) ?_ | refine zX (by omega) (by omega) ?_ | refine zR rfl ?_ | refine acellA ?_ | (apply zL H; (· repeat first | exact .h | apply AtK.t); (· rfl)) | (apply zA H; (· repeat first | exact .h | apply AtK.t)) | (apply zS H; (· repeat first | exact .h | apply AtK.t); (· rfl); (conv => whnf); clear H; intro τ H) | rw [List.length_map]); (refine wX ?_)))
    exact aret (VLe.refl _) H.sub ⟨[], .nil, Hp.nil σ⟩
  by_cases h2 : to > 65536
  · rw [if_neg (by omega)]
    (repeat ((first | refine zI (by omega) ?_ | refine zE (by omega) (by omega) ?_ | refine zD (by omega) (by omega) ?_ | refine zY (by omega) ?_ | refine zN (by omega) ?_ | refine amin ?_ | refine amax ?_ | refine zU (by omega) ?_ | refine z8 (by omega) ?_ | refine zX (by omega) (by omega) ?_ | refine zR rfl ?_ | refine acellA ?_ | (apply zL H; (· repeat first | exact .h | apply AtK.t); (· rfl)) | (apply zA H; (· repeat first | exact .h | apply AtK.t)) | (apply zS H; (· repeat first | exact .h | apply AtK.t); (· rfl); (conv => whnf); clear H; intro τ H) | rw [List.length_map]); (refine wX ?_)))
    exact aret (VLe.refl _) H.sub ⟨[], .nil, Hp.nil σ⟩
  rw [if_pos (by omega)]
  obtain ⟨n, rfl⟩ := Int.eq_ofNat_of_zero_le (show 0 ≤ to by omega)
  (repeat ((first | refine zI (by omega) ?_ | refine zE (by omega) (by omega) ?_ | refine zD (by omega) (by omega) ?_ | refine zY (by omega) ?_ | refine zN (by omega) ?_ | refine amin ?_ | refine amax ?_ | refine zU (by omega) ?_ | refine z8 (by omega) ?_ | refine zX (by omega) (by omega) ?_ | refine zR rfl ?_ | refine acellA ?_ | (apply zL H; (· repeat first | exact .h | apply AtK.t); (· rfl)) | (apply zA H; (· repeat first | exact .h | apply AtK.t)) | (apply zS H; (· repeat first | exact .h | apply AtK.t); (· rfl); (conv => whnf); clear H; intro τ H) | rw [List.length_map]); (refine wX ?_)))
  have hd2 : TOk τ v L := by
    rcases hd with h | ⟨r, h1, h2, h3⟩
    · exact .inl h
    · exact .inr ⟨r, h1, H.ext _ _ rfl h2, h3⟩
  refine acall (rRuns03 hd2 false n (by omega) (by omega)) ?_
  rintro _ υ ⟨E, hE, N⟩
  refine ⟨?_, N.ext⟩
  (refine wX ?_)
  exact aret (VLe.refl _) (Sub.refl _) ⟨E, hE, (H.join N).left⟩
theorem dtK2 : ∀ {cs : List AVal} {off : Nat} {x y : AVal} {K : List AVal → Prop}, cs[off]? = some x → cs[off + 1]? = some y → K [x, y] → dtK cs off 2 K
  | [], _, _, _, _, h, _, _ => by simp at h
  | c :: cs, off + 1, x, y, K, h1, h2, h => dtK2 (cs := cs) (by simpa using h1) (by simpa using h2) h
  | c :: [], 0, x, y, K, h1, h2, h => by simp at h2
  | c :: d :: cs, 0, x, y, K, h1, h2, h => by
    have e1 : c = x := by simpa using h1
    have e2 : d = y := by simpa using h2
    subst e1 e2
    cases cs <;> exact h
/-- Equal rows? -/
theorem rSame03 {σ : AHeap} {w : AVal} {a b : List Sp} {t : Tok} {E : List HE} {σb : AHeap} (hw : RS2 w b E) (H : Hp σb E σ) (ha : a.length ≤ 100000) : ACalls Try.prog i_bowlineref03_Same [spL t a, w] σ fun v σ' => v = boolv (decide (a = b)) ∧ σ' = σ := by
  refine k_bowlineref03_Same rfl ?_
  cases hw with
  | nil =>
    (refine wX ?_)
    rw [show (([] : List AVal).length : Int) = 0 from rfl]
    cases a with
    | nil =>
      (repeat ((first | refine zI (by omega) ?_ | refine zE (by omega) (by omega) ?_ | refine zD (by omega) (by omega) ?_ | refine zY (by omega) ?_ | refine zN (by omega) ?_ | refine amin ?_ | refine amax ?_ | refine zU (by omega) ?_ | refine z8 (by omega) ?_ | refine zX (by omega) (by omega) ?_ | refine zR rfl ?_ | refine acellA ?_ | refine zB H b1 rfl ?_ | refine zC H b1 ?_ | (apply zL H; (· repeat first | exact .h | apply AtK.t); (· rfl)) | (apply zA H; (· repeat first | exact .h | apply AtK.t)) | (apply zS H; (· repeat first | exact .h | apply AtK.t); (· rfl); (conv => whnf); clear H; intro τ H) | rw [List.length_map]); (refine wX ?_)))
      refine aloop (α := Nat) (fun i => [(s5, i64v i)]) (fun _ => σ) (fun i => i = 0) (fun i => 0) 0 rfl (Sub.refl _) ?_ ?_
      · (refine wX ?_)
        (repeat' first | with_reducible exact EnvLe.refl _ | (refine EnvLe.node ?_ (by first | exact Or.inl rfl | exact Or.inr (Or.inl rfl) | exact Or.inr (Or.inr ⟨nofun, VLe.slice _ _ _⟩)) ?_))
      rintro i rfl
      (refine wX ?_)
      exact aret_same ⟨rfl, rfl⟩
    | cons x a =>
      refine abr_yes (by simp; omega) ?_
      (refine wX ?_)
      exact aret_same ⟨rfl, rfl⟩
  | row r _ hne =>
    have b1 : σ r = some (.cells (spC b)) := H.get (k := 0) rfl
    (refine wX ?_)
    rw [List.length_map]
    by_cases hl : a.length = b.length
    · (repeat ((first | refine zI (by omega) ?_ | refine zE (by omega) (by omega) ?_ | refine zD (by omega) (by omega) ?_ | refine zY (by omega) ?_ | refine zN (by omega) ?_ | refine amin ?_ | refine amax ?_ | refine zU (by omega) ?_ | refine z8 (by omega) ?_ | refine zX (by omega) (by omega) ?_ | refine zR rfl ?_ | refine acellA ?_ | refine zB H b1 rfl ?_ | refine zC H b1 ?_ | (apply zL H; (· repeat first | exact .h | apply AtK.t); (· rfl)) | (apply zA H; (· repeat first | exact .h | apply AtK.t)) | (apply zS H; (· repeat first | exact .h | apply AtK.t); (· rfl); (conv => whnf); clear H; intro τ H) | rw [List.length_map]); (refine wX ?_)))
      refine aloop (α := Nat) (fun i => [(s5, i64v i)]) (fun _ => σ) (fun i => i ≤ a.length ∧ a.take i = b.take i) (fun i => a.length - i) 0 ⟨Nat.zero_le _, rfl⟩ (Sub.refl _) ?_ ?_
      · (refine wX ?_)
        (repeat' first | with_reducible exact EnvLe.refl _ | (refine EnvLe.node ?_ (by first | exact Or.inl rfl | exact Or.inr (Or.inl rfl) | exact Or.inr (Or.inr ⟨nofun, VLe.slice _ _ _⟩)) ?_))
      rintro i ⟨hi, he⟩
      (refine wX ?_)
      rw [List.length_map]
      by_cases h : i < a.length
      · have hb : i < b.length := by omega
        (repeat ((first | refine zI (by omega) ?_ | refine zE (by omega) (by omega) ?_ | refine zD (by omega) (by omega) ?_ | refine zY (by omega) ?_ | refine zN (by omega) ?_ | refine amin ?_ | refine amax ?_ | refine zU (by omega) ?_ | refine z8 (by omega) ?_ | refine zX (by omega) (by omega) ?_ | refine zR rfl ?_ | refine acellA ?_ | refine zB H b1 rfl ?_ | refine zC H b1 ?_ | (apply zL H; (· repeat first | exact .h | apply AtK.t); (· rfl)) | (apply zA H; (· repeat first | exact .h | apply AtK.t)) | (apply zS H; (· repeat first | exact .h | apply AtK.t); (· rfl); (conv => whnf); clear H; intro τ H) | rw [List.length_map]); (refine wX ?_)))
        refine aget (by omega) (get_sp h) ?_
        (refine wX ?_)
        (repeat ((first | refine zI (by omega) ?_ | refine zE (by omega) (by omega) ?_ | refine zD (by omega) (by omega) ?_ | refine zY (by omega) ?_ | refine zN (by omega) ?_ | refine amin ?_ | refine amax ?_ | refine zU (by omega) ?_ | refine z8 (by omega) ?_ | refine zX (by omega) (by omega) ?_ | refine zR rfl ?_ | refine acellA ?_ | refine zB H b1 rfl ?_ | refine zC H b1 ?_ | (apply zL H; (· repeat first | exact .h | apply AtK.t); (· rfl)) | (apply zA H; (· repeat first | exact .h | apply AtK.t)) | (apply zS H; (· repeat first | exact .h | apply AtK.t); (· rfl); (conv => whnf); clear H; intro τ H) | rw [List.length_map]); (refine wX ?_)))
        have hg := spC_get hb
        rw [show 0 + ((i : Nat) : Int).toNat * 2 = i * 2 by omega]
        refine dtK2 hg.1 hg.2 ?_
        (refine wX ?_)
        by_cases hq : a[i] = b[i]
        · rw [hq]
          refine abr_false (by simp) ?_
          (refine wX ?_)
          (repeat ((first | refine zI (by omega) ?_ | refine zE (by omega) (by omega) ?_ | refine zD (by omega) (by omega) ?_ | refine zY (by omega) ?_ | refine zN (by omega) ?_ | refine amin ?_ | refine amax ?_ | refine zU (by omega) ?_ | refine z8 (by omega) ?_ | refine zX (by omega) (by omega) ?_ | refine zR rfl ?_ | refine acellA ?_ | refine zB H b1 rfl ?_ | refine zC H b1 ?_ | (apply zL H; (· repeat first | exact .h | apply AtK.t); (· rfl)) | (apply zA H; (· repeat first | exact .h | apply AtK.t)) | (apply zS H; (· repeat first | exact .h | apply AtK.t); (· rfl); (conv => whnf); clear H; intro τ H) | rw [List.length_map]); (refine wX ?_)))
          refine ⟨i + 1, ⟨h, by rw [List.take_add_one, List.take_add_one, List.getElem?_eq_getElem h, List.getElem?_eq_getElem hb, he, hq]⟩, by omega, Sub.refl _, ?_⟩
          (refine wX ?_)
          (repeat' first | with_reducible exact EnvLe.refl _ | (refine EnvLe.node ?_ (by first | exact Or.inl rfl | exact Or.inr (Or.inl rfl) | exact Or.inr (Or.inr ⟨nofun, VLe.slice _ _ _⟩)) ?_))
        · have hq2 : ¬ (a[i].1 = b[i].1 ∧ a[i].2 = b[i].2) := fun e => hq (Prod.ext e.1 e.2)
          refine abr_true (by simp; exact Decidable.not_and_iff_or_not.1 hq2) ?_
          (refine wX ?_)
          exact aret_same ⟨congrArg boolv (decide_eq_false (fun e => hq (by subst e; rfl))).symm, rfl⟩
      · (repeat ((first | refine zI (by omega) ?_ | refine zE (by omega) (by omega) ?_ | refine zD (by omega) (by omega) ?_ | refine zY (by omega) ?_ | refine zN (by omega) ?_ | refine amin ?_ | refine amax ?_ | refine zU (by omega) ?_ | refine z8 (by omega) ?_ | refine zX (by omega) (by omega) ?_ | refine zR rfl ?_ | refine acellA ?_ | refine zB H b1 rfl ?_ | refine zC H b1 ?_ | (apply zL H; (· repeat first | exact .h | apply AtK.t); (· rfl)) | (apply zA H; (· repeat first | exact .h | apply AtK.t)) | (apply zS H; (· repeat first | exact .h | apply AtK.t); (· rfl); (conv => whnf); clear H; intro τ H) | rw [List.length_map]); (refine wX ?_)))
        rw [List.take_of_length_le (by omega), List.take_of_length_le (by omega)] at he
        exact aret_same ⟨congrArg boolv (decide_eq_true he).symm, rfl⟩
    · refine abr_yes (by omega) ?_
      (refine wX ?_)
      exact aret_same ⟨congrArg boolv (decide_eq_false (fun e => hl (by rw [e]))).symm, rfl⟩
theorem lAs {σ : AHeap} {l : List Sp} (t : Tok) (hl : l.length ≤ 100000) : ACalls Try.prog i_bowlinelaw03_As [spL t l] σ fun v σ' => v = spL .none l ∧ σ' = σ := by
  refine k_bowlinelaw03_As rfl ?_
  have H := Hp.nil σ
  (refine wX ?_)
  refine aloop (α := Nat × Tok × AHeap) (fun y => [(s4, i64v y.1), (s3, spL y.2.1 (l.take y.1))]) (fun y => y.2.2) (fun y => y.1 ≤ l.length ∧ Hp σ [.t y.2.1] y.2.2) (fun y => l.length - y.1) (0, .full, σ) ⟨Nat.zero_le _, H.cons_full⟩ (Sub.refl _) ?_ ?_
  · (refine wX ?_)
    (repeat' first | with_reducible exact EnvLe.refl _ | (refine EnvLe.node ?_ (by first | exact Or.inl rfl | exact Or.inr (Or.inl rfl) | exact Or.inr (Or.inr ⟨nofun, VLe.slice _ _ _⟩)) ?_))
  clear H
  rintro ⟨i, tk, τ⟩ ⟨hi, H⟩
  dsimp only at hi H ⊢
  (refine wX ?_)
  by_cases h : i < l.length
  · (repeat ((first | refine zI (by omega) ?_ | refine zE (by omega) (by omega) ?_ | refine zD (by omega) (by omega) ?_ | refine zY (by omega) ?_ | refine zN (by omega) ?_ | refine amin ?_ | refine amax ?_ | refine zU (by omega) ?_ | refine z8 (by omega) ?_ | refine zX (by omega) (by omega) ?_ | refine zR rfl ?_ | refine acellA ?_ | (apply zL H; (· repeat first | exact .h | apply AtK.t); (· rfl)) | (apply zA H; (· repeat first | exact .h | apply AtK.t)) | (apply zS H; (· repeat first | exact .h | apply AtK.t); (· rfl); (conv => whnf); clear H; intro τ H) | rw [List.length_map]); (refine wX ?_)))
    refine aget (by omega) (get_sp h) ?_
    (refine wX ?_)
    (repeat ((first | refine zI (by omega) ?_ | refine zE (by omega) (by omega) ?_ | refine zD (by omega) (by omega) ?_ | refine zY (by omega) ?_ | refine zN (by omega) ?_ | refine amin ?_ | refine amax ?_ | refine zU (by omega) ?_ | refine z8 (by omega) ?_ | refine zX (by omega) (by omega) ?_ | refine zR rfl ?_ | refine acellA ?_ | (apply zL H; (· repeat first | exact .h | apply AtK.t); (· rfl)) | (apply zA H; (· repeat first | exact .h | apply AtK.t)) | (apply zS H; (· repeat first | exact .h | apply AtK.t); (· rfl); (conv => whnf); clear H; intro τ H) | rw [List.length_map]); (refine wX ?_)))
    refine aget (by omega) (get_sp h) ?_
    (refine wX ?_)
    (repeat ((first | refine zI (by omega) ?_ | refine zE (by omega) (by omega) ?_ | refine zD (by omega) (by omega) ?_ | refine zY (by omega) ?_ | refine zN (by omega) ?_ | refine amin ?_ | refine amax ?_ | refine zU (by omega) ?_ | refine z8 (by omega) ?_ | refine zX (by omega) (by omega) ?_ | refine zR rfl ?_ | refine acellA ?_ | (apply zL H; (· repeat first | exact .h | apply AtK.t); (· rfl)) | (apply zA H; (· repeat first | exact .h | apply AtK.t)) | (apply zS H; (· repeat first | exact .h | apply AtK.t); (· rfl); (conv => whnf); clear H; intro τ H) | rw [List.length_map]); (refine wX ?_)))
    apply zP H
    · (repeat first | exact .h | apply AtK.t)
    · exact (by rw [List.length_map, List.length_take]; show (_ + 1) * 16 ≤ _; omega)
    intro tk2
    (conv => whnf)
    clear H
    intro τ H
    (refine wX ?_)
    rw [show [AVal.agg [i64v l[i].1, i64v l[i].2]] = [spV l[i]] from rfl, sp_snoc]
    (repeat ((first | refine zI (by omega) ?_ | refine zE (by omega) (by omega) ?_ | refine zD (by omega) (by omega) ?_ | refine zY (by omega) ?_ | refine zN (by omega) ?_ | refine amin ?_ | refine amax ?_ | refine zU (by omega) ?_ | refine z8 (by omega) ?_ | refine zX (by omega) (by omega) ?_ | refine zR rfl ?_ | refine acellA ?_ | (apply zL H; (· repeat first | exact .h | apply AtK.t); (· rfl)) | (apply zA H; (· repeat first | exact .h | apply AtK.t)) | (apply zS H; (· repeat first | exact .h | apply AtK.t); (· rfl); (conv => whnf); clear H; intro τ H) | rw [List.length_map]); (refine wX ?_)))
    refine ⟨(i + 1, tk2, τ), ⟨h, H⟩, by dsimp only; omega, Sub.refl _, ?_⟩
    dsimp only
    rw [List.take_add_one, List.getElem?_eq_getElem h]
    (refine wX ?_)
    (repeat' first | with_reducible exact EnvLe.refl _ | (refine EnvLe.node ?_ (by first | exact Or.inl rfl | exact Or.inr (Or.inl rfl) | exact Or.inr (Or.inr ⟨nofun, VLe.slice _ _ _⟩)) ?_))
  · rw [List.take_of_length_le (by omega)]
    (repeat ((first | refine zI (by omega) ?_ | refine zE (by omega) (by omega) ?_ | refine zD (by omega) (by omega) ?_ | refine zY (by omega) ?_ | refine zN (by omega) ?_ | refine amin ?_ | refine amax ?_ | refine zU (by omega) ?_ | refine z8 (by omega) ?_ | refine zX (by omega) (by omega) ?_ | refine zR rfl ?_ | refine acellA ?_ | (apply zL H; (· repeat first | exact .h | apply AtK.t); (· rfl)) | (apply zA H; (· repeat first | exact .h | apply AtK.t)) | (apply zS H; (· repeat first | exact .h | apply AtK.t); (· rfl); (conv => whnf); clear H; intro τ H) | rw [List.length_map]); (refine wX ?_)))
    exact aret (VLe.slice _ _ _) H.sub ⟨rfl, rfl⟩
end Go.Proofs.Ytgobbmdbkmjlnaa
/-
  The statements of spans: what lives; in whatever order spans are put in.
-/
namespace Go.Proofs.Ytgobbmdbkmjlnaa
set_option linter.unusedVariables false
set_option linter.unusedSimpArgs false
open Go Go.Am

end Go.Proofs.Ytgobbmdbkmjlnaa
/-
  The statements of spans: what was put in is there; what was taken out is not.
-/
namespace Go.Proofs.Ytgobbmdbkmjlnaa
set_option linter.unusedVariables false
set_option linter.unusedSimpArgs false
open Go Go.Am

theorem countP_split {f g : Nat → Bool} : ∀ {l : List Nat}, (∀ i ∈ l, g i = true → f i = true) → l.countP f = l.countP (fun i => f i && !g i) + l.countP g
  | [], _ => rfl
  | x :: l, h => by
    have ih := countP_split (f := f) (g := g) (l := l) fun i hi => h i (List.mem_cons_of_mem _ hi)
    have hx := h x (List.mem_cons_self ..)
    rw [List.countP_cons, List.countP_cons, List.countP_cons, ih]
    cases hg : g x <;> cases hf : f x
    · simp
    · simp; omega
    · rw [hg, hf] at hx; exact absurd (hx rfl) (by decide)
    · simp; omega
theorem countP_mid {a b : Nat} (h : a ≤ b) : ∀ {n : Nat}, (List.range n).countP (fun i => decide (a ≤ i ∧ i < b)) = min n b - min n a
  | 0 => by simp
  | n + 1 => by
    rw [List.range_succ, List.countP_append, countP_mid h, List.countP_cons, List.countP_nil]
    by_cases c : a ≤ n ∧ n < b
    · rw [decide_eq_true c]; simp; omega
    · rw [decide_eq_false c]; simp; omega
def hasBs (l : List Sp) (p : Int) : Bool := l.any fun y => decide (y.1 ≤ p ∧ p < y.2)
theorem hasBs_iff {l : List Sp} {p : Int} : hasBs l p = true ↔ hasP l p := by
  unfold hasBs hasP
  rw [List.any_eq_true]
  exact ⟨fun ⟨y, hy, h⟩ => ⟨y, hy, of_decide_eq_true h⟩, fun ⟨y, hy, h⟩ => ⟨y, hy, decide_eq_true h⟩⟩
theorem SOk.bound {l : List Sp} (h : SOk l) {p : Int} (k : hasP l p) : 0 ≤ p ∧ p < 65536 := by
  obtain ⟨y, hy, q⟩ := k
  have := h.mem y hy
  omega
theorem SOk.cnt {l : List Sp} (h : SOk l) {n : Nat} (hn : n = 65536) : cntL l = ((List.range n).countP (fun i : Nat => hasBs l i) : Int) := by
  refine cnt_runs (by omega) h.n fun p => ?_
  constructor
  · intro k
    have := h.bound k
    exact ⟨this.1, by omega, by rw [Int.toNat_of_nonneg this.1]; exact hasBs_iff.2 k⟩
  · rintro ⟨h1, h2, h3⟩
    rw [Int.toNat_of_nonneg h1] at h3
    exact hasBs_iff.1 h3
end Go.Proofs.Ytgobbmdbkmjlnaa
/-
  The statements of spans: what is there and the gaps are all places, each once.
-/
namespace Go.Proofs.Ytgobbmdbkmjlnaa
set_option linter.unusedVariables false
set_option linter.unusedSimpArgs false
open Go Go.Am

def inL (to : Int) : List Sp → Int
  | [] => 0
  | y :: l => (if y.1 < to then min y.2 to - y.1 else 0) + inL to l
theorem gaps_all {to : Int} : ∀ {l : List Sp} {k : Int}, Nrm (k - 1) l → cntL (gapsL to k l) + inL to l = if k < to then to - k else 0
  | [], k, _ => by
    unfold gapsL inL
    split
    · show (to - k + 0) + 0 = _; omega
    · rfl
  | y :: l, k, ⟨g1, g2, g3, g4⟩ => by
    have ih := gaps_all (to := to) (l := l) (k := y.2) (g4.weak (by omega))
    unfold gapsL inL
    split at ih <;> rename_i c1
    · by_cases c2 : y.1 > k ∧ k < to
      · rw [if_pos c2, if_pos (by omega), if_pos (by omega)]
        show (min y.1 to - k + cntL (gapsL to y.2 l)) + _ = _
        omega
      · rw [if_neg c2, if_pos (by omega), if_pos (by omega)]
        show cntL (gapsL to y.2 l) + _ = _
        omega
    · by_cases c2 : y.1 > k ∧ k < to
      · rw [if_pos c2, if_pos c2.2]
        show (min y.1 to - k + cntL (gapsL to y.2 l)) + _ = _
        split <;> omega
      · rw [if_neg c2]
        show cntL (gapsL to y.2 l) + _ = _
        split <;> split <;> omega
end Go.Proofs.Ytgobbmdbkmjlnaa
/-
  The statements of spans: what is there and the gaps, told by the statement.
-/
namespace Go.Proofs.Ytgobbmdbkmjlnaa
set_option linter.unusedVariables false
set_option linter.unusedSimpArgs false
open Go Go.Am

def insV (to : Int) (l : List Sp) : Int := if 1 ≤ to ∧ to ≤ 65536 then inL to l else 0
theorem SOk.part {l : List Sp} (h : SOk l) (i : Nat) : SOk (l.take i) := ⟨Nrm.init (m := l.drop i) (by rw [List.take_append_drop]; exact h.n), by have := h.k; rw [List.length_take]; omega⟩
theorem SOk.gaps {l : List Sp} (h : SOk l) {to : Int} (ht : 1 ≤ to ∧ to ≤ 65536) : (gapsV to l).length ≤ 2049 ∧ Nrm (-1) (gapsV to l) ∧ (∀ y ∈ gapsV to l, spRight y = true ∧ y.2 ≤ to ∧ tchS y l = false) ∧ cntL (gapsV to l) + insV to l = to := by
  unfold gapsV insV
  rw [if_pos ht, if_pos ht]
  obtain ⟨h1, h2⟩ := gapsL_spec (to := to) ht.2 (k := 0) (l := l) h.n
  refine ⟨by have := gapsL_len (to := to) (l := l) (k := 0); have := h.k; omega, h1, fun y hy => ?_, ?_⟩
  · have q := h1.mem hy
    have q2 := ((h2 (y.2 - 1)).1 ⟨y, hy, by omega, by omega⟩).2.1
    refine ⟨spRight_iff.2 (by omega), by omega, ?_⟩
    rw [Bool.eq_false_iff]
    intro k
    obtain ⟨_, p, a, b, c⟩ := (tchS_iff h).1 k
    exact ((h2 p).1 ⟨y, hy, a, b⟩).2.2 c
  · rw [gaps_all h.n, if_pos (by omega)]; omega
end Go.Proofs.Ytgobbmdbkmjlnaa
/-
  The document's sets of places against sets of spans.
-/
namespace Go.Proofs.Ytgobbmdbkmjlnaa
set_option linter.unusedVariables false
set_option linter.unusedSimpArgs false
open Go Go.Am

theorem Hp.dropmid {σb σ : AHeap} {A B C : List HE} (H : Hp σb (A ++ (B ++ C)) σ) : Hp σb (A ++ C) σ := by
  have h1 : Hp σb ((A ++ C) ++ B) σ := H.perm (by
    rw [List.append_assoc]
    exact List.Perm.append_left A List.perm_append_comm)
  exact h1.left
theorem Hp.right {σb τ : AHeap} {L M : List HE} (H : Hp σb (L ++ M) τ) : Hp σb M τ := (H.comm L M).left
theorem RT2.dvt {σb σ : AHeap} {v : AVal} {L : List Bool} {E F : List HE} (h : RT2 v L E) (H : Hp σb (F ++ E) σ) : TOk σ v L := h.dv (F := F) (G := []) (by rw [List.append_nil]; exact H)
theorem TOk.up {σ τ : AHeap} {v : AVal} {L : List Bool} (h : TOk σ v L) (e : Ext σ τ) : TOk τ v L := by
  rcases h with h | ⟨r, h1, h2, h3⟩
  · exact .inl h
  · exact .inr ⟨r, h1, e _ _ rfl h2, h3⟩
/-- What comes of a change. -/
inductive Chg (v : AVal) (L : List Bool) (x : Sp) (is : Bool) : Int → AVal → List Bool → List HE → Prop
  | arg : spRight x = false → Chg v L x is 1 v L []
  | full (M : List Bool) : spRight x = true → Withs L M x is → 2048 < (runT M true M.length).length → Chg v L x is 5 v L []
  | ok (M : List Bool) (v' : AVal) (E : List HE) : spRight x = true → Withs L M x is → (runT M true M.length).length ≤ 2048 → RT2 v' M E → Chg v L x is 0 v' M E
theorem RS2.len {w : AVal} {l : List Sp} {E : List HE} (h : RS2 w l E) : (∃ t, w = .slice 2 [] t ∧ l.length = 0) ∨ ∃ r, w = .ms r 2 0 l.length := by
  cases h with
  | nil => exact .inl ⟨_, rfl, rfl⟩
  | row r l hl => exact .inr ⟨r, rfl⟩
end Go.Proofs.Ytgobbmdbkmjlnaa
/-
  The statements of spans: a set tells what the document says.
-/
namespace Go.Proofs.Ytgobbmdbkmjlnaa
set_option linter.unusedVariables false
set_option linter.unusedSimpArgs false
open Go Go.Am

structure Rel (l : List Sp) (L : List Bool) : Prop where
  len : L.length ≤ 65536
  has : ∀ p : Int, hasP l p ↔ 0 ≤ p ∧ bitT L p.toNat = true
theorem bitT_lt {L : List Bool} {i : Nat} (h : bitT L i = true) : i < L.length := by
  rcases Nat.lt_or_ge i L.length with q | q
  · exact q
  · rw [bitT_no q] at h; cases h
theorem rel_run {m : List Sp} {M : List Bool} (h : Nrm (-1) m) (k : Rel m M) : runT M true M.length = m := by
  refine runs_eq k.len h fun p => ?_
  rw [k.has p]
  constructor
  · rintro ⟨a, b⟩
    exact ⟨a, by have := bitT_lt b; omega, by rw [b]; rfl⟩
  · rintro ⟨a, b, c⟩
    exact ⟨a, by simpa using c⟩
theorem rel_gap {m : List Sp} {M : List Bool} (h : SOk m) (k : Rel m M) (to : Int) : gapsV to m = if 1 ≤ to ∧ to ≤ 65536 then runT M false to.toNat else [] := by
  unfold gapsV
  by_cases ht : 1 ≤ to ∧ to ≤ 65536
  · rw [if_pos ht, if_pos ht]
    obtain ⟨h1, h2⟩ := gapsL_spec (to := to) ht.2 (k := 0) (l := m) h.n
    refine (runs_eq (by omega) h1 fun p => ?_).symm
    rw [h2 p, k.has p]
    constructor
    · rintro ⟨a, b, c⟩
      refine ⟨a, by omega, ?_⟩
      cases hb : bitT M p.toNat
      · rfl
      · exact (c ⟨a, hb⟩).elim
    · rintro ⟨a, b, c⟩
      refine ⟨a, by omega, fun q => ?_⟩
      rw [q.2] at c; cases c
  · rw [if_neg ht, if_neg ht]
theorem rel_cnt {m : List Sp} {M : List Bool} (h : SOk m) (k : Rel m M) : ((cntT M (0, (M.length : Int)) : Nat) : Int) = cntL m := by
  rw [cnt_runs (f := bitT M) k.len h.n fun p => by
    rw [k.has p]
    exact ⟨fun ⟨a, b⟩ => ⟨a, by have := bitT_lt b; omega, b⟩, fun ⟨a, _, b⟩ => ⟨a, b⟩⟩]
  unfold cntT
  dsimp only
  rw [Int.toNat_natCast]
  congr 2
theorem rel_split {m : List Sp} {M : List Bool} {x : Sp} (hr : spRight x = true) : (x.2.toNat - x.1.toNat) = (List.range x.2.toNat).countP (fun i => decide (x.1.toNat ≤ i ∧ i < x.2.toNat) && !cntG M x.1 i) + cntT M x := by
  have hx := spRight_iff.1 hr
  have e := countP_split (f := fun i => decide (x.1.toNat ≤ i ∧ i < x.2.toNat)) (g := cntG M x.1) (l := List.range x.2.toNat) fun i hi hg => by
    unfold cntG at hg
    rw [Bool.and_eq_true] at hg
    have := of_decide_eq_true hg.1
    have := List.mem_range.1 hi
    exact decide_eq_true ⟨by omega, this⟩
  rw [countP_mid (by omega)] at e
  unfold cntT
  omega
theorem rel_all {m : List Sp} {M : List Bool} (h : SOk m) (k : Rel m M) {x : Sp} (hr : spRight x = true) : hasS x m = decide (((cntT M x : Nat) : Int) = x.2 - x.1) := by
  have hx := spRight_iff.1 hr
  have e := rel_split (m := m) (M := M) hr
  rw [Bool.eq_iff_iff, hasS_iff h, decide_eq_true_iff]
  have hz : ((cntT M x : Nat) : Int) = x.2 - x.1 ↔ (List.range x.2.toNat).countP (fun i => decide (x.1.toNat ≤ i ∧ i < x.2.toNat) && !cntG M x.1 i) = 0 := by omega
  rw [hz, List.countP_eq_zero]
  constructor
  · rintro ⟨_, q⟩ i hi
    have hi := List.mem_range.1 hi
    by_cases c : x.1.toNat ≤ i
    · have := ((k.has i).1 (q i (by omega) (by omega))).2
      rw [Int.toNat_natCast] at this
      unfold cntG
      rw [this, decide_eq_true (show x.1 ≤ (i : Int) by omega)]; simp
    · rw [decide_eq_false (fun h => c h.1)]; simp
  · intro q
    refine ⟨hr, fun p a b => ?_⟩
    have := q p.toNat (List.mem_range.2 (by omega))
    rw [decide_eq_true (show x.1.toNat ≤ p.toNat ∧ p.toNat < x.2.toNat by omega)] at this
    refine (k.has p).2 ⟨by omega, ?_⟩
    unfold cntG at this
    cases hb : bitT M p.toNat
    · rw [hb] at this; simp at this
    · rfl
theorem with_len {L M : List Bool} {x : Sp} {is : Bool} (hr : spRight x = true) (hL : L.length ≤ 65536) (hw : Withs L M x is) : M.length ≤ 65536 := by
  have := spRight_iff.1 hr
  have := hw.len
  omega
theorem rel_add {l : List Sp} {L M : List Bool} {x : Sp} (h : SOk l) (k : Rel l L) (hr : spRight x = true) (hw : Withs L M x true) : Nrm (-1) (addL x false l) ∧ Rel (addL x false l) M := by
  have hx := spRight_iff.1 hr
  obtain ⟨h1, h2⟩ := addL_spec h.n (x := x) (by omega) hx.2.1 hx.2.2
  refine ⟨h1, with_len hr k.len hw, fun p => ?_⟩
  rw [h2 p, k.has p]
  constructor
  · rintro (⟨a, b⟩ | ⟨a, b⟩)
    · refine ⟨a, ?_⟩
      rw [hw.bit]; split
      · rfl
      · exact b
    · exact ⟨by omega, by rw [hw.bit, if_pos (by omega)]⟩
  · rintro ⟨a, b⟩
    rw [hw.bit] at b
    split at b
    · exact .inr (by omega)
    · exact .inl ⟨a, b⟩
end Go.Proofs.Ytgobbmdbkmjlnaa
/-
  Equal fields.
-/
namespace Go.Proofs.Ytgobbmdbkmjlnaa
set_option linter.unusedVariables false
set_option linter.unusedSimpArgs false
open Go Go.Am

set_option maxRecDepth 10000 in
theorem refSameF (a b : List (List UInt8)) (t u : Tok) (σ : AHeap) (hl : a.length ≤ 140737488355320) : ACalls Try.prog i_bowlineref09_SameFields [lists t a, lists u b] σ fun v σ' => v = boolv (decide (a = b)) ∧ σ' = σ := by
  refine k_bowlineref09_SameFields rfl ?_
  (refine wX ?_)
  rw [List.length_map, List.length_map]
  by_cases h : a.length = b.length
  · (repeat ((first | refine aload (by (repeat (first | with_reducible exact upd_same _ _ _ | assumption | rw [upd_ne _ _ (by first | assumption | (apply Ne.symm; assumption))]))) rfl ?_ | refine afit_i64 (by omega) ?_ | refine arem_nonneg (by omega) (by omega) ?_ | refine adiv_i64 (by omega) (by omega) ?_ | refine abr_yes (by omega) ?_ | refine abr_no (by omega) ?_ | refine amin ?_ | refine amax ?_ | refine afit_u64 (by omega) ?_ | refine afit_u8 (by omega) ?_ | rw [List.length_map]); (refine wX ?_)))
    refine aloop (α := Nat) (fun i => [(s5, i64v i)]) (fun _ => σ) (fun i => i ≤ a.length ∧ a.take i = b.take i) (fun i => a.length - i) 0 ⟨Nat.zero_le _, rfl⟩ (Sub.refl _) ?_ ?_
    · (refine wX ?_)
      (repeat' first | with_reducible exact EnvLe.refl _ | (refine EnvLe.node ?_ (by first | exact Or.inl rfl | exact Or.inr (Or.inl rfl) | exact Or.inr (Or.inr ⟨nofun, VLe.slice _ _ _⟩)) ?_))
    rintro i ⟨hi, he⟩
    by_cases h1 : i < a.length
    · have h2 : i < b.length := by omega
      (refine wX ?_)
      (repeat ((first | refine aload (by (repeat (first | with_reducible exact upd_same _ _ _ | assumption | rw [upd_ne _ _ (by first | assumption | (apply Ne.symm; assumption))]))) rfl ?_ | refine afit_i64 (by omega) ?_ | refine arem_nonneg (by omega) (by omega) ?_ | refine adiv_i64 (by omega) (by omega) ?_ | refine abr_yes (by omega) ?_ | refine abr_no (by omega) ?_ | refine amin ?_ | refine amax ?_ | refine afit_u64 (by omega) ?_ | refine afit_u8 (by omega) ?_ | rw [List.length_map]); (refine wX ?_)))
      refine aget (by omega) (get_lists h1) ?_
      (refine wX ?_)
      refine acell rfl ?_
      (refine wX ?_)
      refine astr rfl ?_
      (refine wX ?_)
      refine aget (by omega) (get_lists h2) ?_
      (refine wX ?_)
      refine acell rfl ?_
      (refine wX ?_)
      refine astr rfl ?_
      (refine wX ?_)
      by_cases h4 : a[i] = b[i]
      · refine abr_no (fun h => h (by rw [h4])) ?_
        (refine wX ?_)
        (repeat ((first | refine aload (by (repeat (first | with_reducible exact upd_same _ _ _ | assumption | rw [upd_ne _ _ (by first | assumption | (apply Ne.symm; assumption))]))) rfl ?_ | refine afit_i64 (by omega) ?_ | refine arem_nonneg (by omega) (by omega) ?_ | refine adiv_i64 (by omega) (by omega) ?_ | refine abr_yes (by omega) ?_ | refine abr_no (by omega) ?_ | refine amin ?_ | refine amax ?_ | refine afit_u64 (by omega) ?_ | refine afit_u8 (by omega) ?_ | rw [List.length_map]); (refine wX ?_)))
        refine ⟨i + 1, ⟨h1, ?_⟩, by omega, Sub.refl _, ?_⟩
        · rw [List.take_add_one, List.take_add_one, he, List.getElem?_eq_getElem h1, List.getElem?_eq_getElem h2, h4]
        · (refine wX ?_)
          (repeat' first | with_reducible exact EnvLe.refl _ | (refine EnvLe.node ?_ (by first | exact Or.inl rfl | exact Or.inr (Or.inl rfl) | exact Or.inr (Or.inr ⟨nofun, VLe.slice _ _ _⟩)) ?_))
      · refine abr_yes (fun h => h4 (by simpa using h)) ?_
        (refine wX ?_)
        exact aret_same ⟨congrArg boolv (decide_eq_false fun e => h4 (by subst e; rfl)).symm, rfl⟩
    · rw [List.take_of_length_le (by omega), List.take_of_length_le (by omega)] at he
      (refine wX ?_)
      (repeat ((first | refine aload (by (repeat (first | with_reducible exact upd_same _ _ _ | assumption | rw [upd_ne _ _ (by first | assumption | (apply Ne.symm; assumption))]))) rfl ?_ | refine afit_i64 (by omega) ?_ | refine arem_nonneg (by omega) (by omega) ?_ | refine adiv_i64 (by omega) (by omega) ?_ | refine abr_yes (by omega) ?_ | refine abr_no (by omega) ?_ | refine amin ?_ | refine amax ?_ | refine afit_u64 (by omega) ?_ | refine afit_u8 (by omega) ?_ | rw [List.length_map]); (refine wX ?_)))
      exact aret_same ⟨congrArg boolv (decide_eq_true he).symm, rfl⟩
  · refine abr_yes (by omega) ?_
    (refine wX ?_)
    exact aret_same ⟨congrArg boolv (decide_eq_false fun e => h (by rw [e])).symm, rfl⟩

end Go.Proofs.Ytgobbmdbkmjlnaa
/-
  The document's lengths: how many bytes they have.
-/
namespace Go.Proofs.Ytgobbmdbkmjlnaa
set_option linter.unusedVariables false
set_option linter.unusedSimpArgs false
open Go Go.Am

end Go.Proofs.Ytgobbmdbkmjlnaa
/-
  Packets that are acknowledged: their data, and which are equal; the document's sizes.
-/
namespace Go.Proofs.Ytgobbmdbkmjlnaa
set_option linter.unusedVariables false
set_option linter.unusedSimpArgs false
open Go Go.Am

set_option maxRecDepth 20000 in
theorem rData10 (p : Pk) (σ : AHeap) (hn : p.fs.length ≤ 1000) (ht : total p.fs ≤ 1000000) : ACalls Try.prog i_bowlineref10_Data [amV p] σ fun v σ' => v = sl .none p.fs.flatten ∧ σ' = σ := by
  refine k_bowlineref10_Data rfl ?_
  have H := Hp.nil σ
  (refine wX ?_)
  refine hnew H rfl ?_
  clear H
  intro id τ H
  (refine wX ?_)
  have b1 : True := trivial
  refine aloop (α := Nat × Tok × AHeap) (fun y => [(s3, sl y.2.1 (p.fs.take y.1).flatten), (s4, i64v y.1)]) (fun y => y.2.2) (fun y => y.1 ≤ p.fs.length ∧ Hp σ [.t y.2.1, .o id (.cells (amV p).cells)] y.2.2) (fun y => p.fs.length - y.1) (0, .full, τ) ⟨Nat.zero_le _, H.cons_full⟩ (Sub.refl _) ?_ ?_
  · (refine wX ?_)
    (repeat' first | with_reducible exact EnvLe.refl _ | (refine EnvLe.node ?_ (by first | exact Or.inl rfl | exact Or.inr (Or.inl rfl) | exact Or.inr (Or.inr ⟨nofun, VLe.slice _ _ _⟩)) ?_))
  clear H
  rintro ⟨i, tk, τ⟩ ⟨hi, H⟩
  dsimp only at hi H ⊢
  (refine wX ?_)
  (repeat ((first | refine zI (by omega) ?_ | refine zE (by omega) (by omega) ?_ | refine zD (by omega) (by omega) ?_ | refine zY (by omega) ?_ | refine zN (by omega) ?_ | refine amin ?_ | refine amax ?_ | refine zU (by omega) ?_ | refine z8 (by omega) ?_ | refine zX (by omega) (by omega) ?_ | refine zR rfl ?_ | refine acellA ?_ | refine zB H b1 rfl ?_ | refine zC H b1 ?_ | (apply zL H; (· repeat first | exact .h | apply AtK.t); (· rfl)) | (apply zA H; (· repeat first | exact .h | apply AtK.t)) | (apply zS H; (· repeat first | exact .h | apply AtK.t); (· rfl); (conv => whnf); clear H; intro τ H) | rw [List.length_map]); (refine wX ?_)))
  have htt := total_take_le p.fs i
  by_cases h : i < p.fs.length
  · have hts := total_take_succ p.fs i h
    have htl := total_take_le p.fs (i + 1)
    (repeat ((first | refine zI (by omega) ?_ | refine zE (by omega) (by omega) ?_ | refine zD (by omega) (by omega) ?_ | refine zY (by omega) ?_ | refine zN (by omega) ?_ | refine amin ?_ | refine amax ?_ | refine zU (by omega) ?_ | refine z8 (by omega) ?_ | refine zX (by omega) (by omega) ?_ | refine zR rfl ?_ | refine acellA ?_ | refine zB H b1 rfl ?_ | refine zC H b1 ?_ | (apply zL H; (· repeat first | exact .h | apply AtK.t); (· rfl)) | (apply zA H; (· repeat first | exact .h | apply AtK.t)) | (apply zS H; (· repeat first | exact .h | apply AtK.t); (· rfl); (conv => whnf); clear H; intro τ H) | rw [List.length_map]); (refine wX ?_)))
    refine aget (by omega) (get_lists h) ?_
    (refine wX ?_)
    (repeat ((first | refine zI (by omega) ?_ | refine zE (by omega) (by omega) ?_ | refine zD (by omega) (by omega) ?_ | refine zY (by omega) ?_ | refine zN (by omega) ?_ | refine amin ?_ | refine amax ?_ | refine zU (by omega) ?_ | refine z8 (by omega) ?_ | refine zX (by omega) (by omega) ?_ | refine zR rfl ?_ | refine acellA ?_ | refine zB H b1 rfl ?_ | refine zC H b1 ?_ | (apply zL H; (· repeat first | exact .h | apply AtK.t); (· rfl)) | (apply zA H; (· repeat first | exact .h | apply AtK.t)) | (apply zS H; (· repeat first | exact .h | apply AtK.t); (· rfl); (conv => whnf); clear H; intro τ H) | rw [List.length_map]); (refine wX ?_)))
    apply zP H
    · (repeat first | exact .h | apply AtK.t)
    · exact (by rw [List.length_map, List.length_map]; show (total (p.fs.take i) + _) * 1 ≤ _; omega)
    intro tk2
    (conv => whnf)
    clear H
    intro τ H
    (refine wX ?_)
    rw [← List.map_append]
    (repeat ((first | refine zI (by omega) ?_ | refine zE (by omega) (by omega) ?_ | refine zD (by omega) (by omega) ?_ | refine zY (by omega) ?_ | refine zN (by omega) ?_ | refine amin ?_ | refine amax ?_ | refine zU (by omega) ?_ | refine z8 (by omega) ?_ | refine zX (by omega) (by omega) ?_ | refine zR rfl ?_ | refine acellA ?_ | refine zB H b1 rfl ?_ | refine zC H b1 ?_ | (apply zL H; (· repeat first | exact .h | apply AtK.t); (· rfl)) | (apply zA H; (· repeat first | exact .h | apply AtK.t)) | (apply zS H; (· repeat first | exact .h | apply AtK.t); (· rfl); (conv => whnf); clear H; intro τ H) | rw [List.length_map]); (refine wX ?_)))
    refine ⟨(i + 1, tk2, τ), ⟨h, H⟩, by dsimp only; omega, Sub.refl _, ?_⟩
    dsimp only
    rw [List.take_add_one, List.getElem?_eq_getElem h, List.flatten_append, show (some p.fs[i]).toList.flatten = p.fs[i] by simp]
    (refine wX ?_)
    (repeat' first | with_reducible exact EnvLe.refl _ | (refine EnvLe.node ?_ (by first | exact Or.inl rfl | exact Or.inr (Or.inl rfl) | exact Or.inr (Or.inr ⟨nofun, VLe.slice _ _ _⟩)) ?_))
  · rw [List.take_of_length_le (by omega)]
    (repeat ((first | refine zI (by omega) ?_ | refine zE (by omega) (by omega) ?_ | refine zD (by omega) (by omega) ?_ | refine zY (by omega) ?_ | refine zN (by omega) ?_ | refine amin ?_ | refine amax ?_ | refine zU (by omega) ?_ | refine z8 (by omega) ?_ | refine zX (by omega) (by omega) ?_ | refine zR rfl ?_ | refine acellA ?_ | refine zB H b1 rfl ?_ | refine zC H b1 ?_ | (apply zL H; (· repeat first | exact .h | apply AtK.t); (· rfl)) | (apply zA H; (· repeat first | exact .h | apply AtK.t)) | (apply zS H; (· repeat first | exact .h | apply AtK.t); (· rfl); (conv => whnf); clear H; intro τ H) | rw [List.length_map]); (refine wX ?_)))
    exact aret (VLe.slice _ _ _) H.sub ⟨rfl, rfl⟩
end Go.Proofs.Ytgobbmdbkmjlnaa
/-
  What came in parts, the document's: pieces, and what reads them.
-/
namespace Go.Proofs.Ytgobbmdbkmjlnaa
set_option linter.unusedVariables false
set_option linter.unusedSimpArgs false
set_option maxRecDepth 20000
open Go Go.Am

theorem RT2.cells1 {v : AVal} {L : List Bool} {E : List HE} (h : RT2 v L E) : v.cells = [v] := by cases h <;> rfl
/-- A piece: its number, its bytes (-1: none there), its end (-1: unknown), its edges, and its FI's two bits. -/
structure DP where
  sn : Int
  B : List Int
  e : Int
  G : List Bool
  wi : Bool
  cu : Bool
abbrev bls (t : Tok) (l : List Bool) : AVal := .slice 1 (l.map boolv) t
def dpC (t : Tok) (d : DP) : List AVal := [i64v d.sn, ints t d.B, i64v d.e, bls t d.G, boolv d.wi, boolv d.cu]
def dpV (t : Tok) (d : DP) : AVal := .agg (dpC t d)
theorem get_dp {t : Tok} {l : List DP} {i : Nat} (h : i < l.length) : (l.map (dpV t))[((i : Nat) : Int).toNat]? = some (dpV t l[i]) := by
  rw [Int.toNat_natCast, List.getElem?_map, List.getElem?_eq_getElem h]; rfl
theorem get_intsD {l : List Int} {i : Nat} (h : i < l.length) : (l.map i64v)[((i : Nat) : Int).toNat]? = some (i64v l[i]) := by
  rw [Int.toNat_natCast, List.getElem?_map, List.getElem?_eq_getElem h]; rfl
theorem get_boolsD {l : List Bool} {i : Nat} (h : i < l.length) : (l.map boolv)[((i : Nat) : Int).toNat]? = some (boolv (bitT l i)) := by
  rw [Int.toNat_natCast, List.getElem?_map, List.getElem?_eq_getElem h]; unfold bitT; rw [List.getElem?_eq_getElem h]; rfl
def thereL (B : List Int) : List Bool := B.map fun z => decide (0 ≤ z)
theorem thereL_len (B : List Int) : (thereL B).length = B.length := List.length_map _
theorem thereL_bit {B : List Int} {i : Nat} (h : i < B.length) : bitT (thereL B) i = decide (0 ≤ B[i]) := by
  unfold bitT thereL
  rw [List.getElem?_map, List.getElem?_eq_getElem h]; rfl
def topT (L : List Bool) : Nat → Nat
  | 0 => 0
  | k + 1 => if bitT L k = true then k + 1 else topT L k
theorem topT_le (L : List Bool) : ∀ k, topT L k ≤ k
  | 0 => Nat.le_refl _
  | k + 1 => by
    unfold topT
    split
    · exact Nat.le_refl _
    · exact Nat.le_succ_of_le (topT_le L k)
def findE (l : List DP) (sn : Int) : Int := match l.findIdx? fun d => d.sn == sn with
  | none => -1
  | some i => (i : Int)
theorem findE_at {l : List DP} {sn : Int} {i : Nat} (h : i < l.length) (h1 : l[i].sn = sn) (h2 : ∀ j, (hj : j < i) → l[j].sn ≠ sn) : findE l sn = i := by
  have : l.findIdx? (fun d => d.sn == sn) = some i := by
    rw [List.findIdx?_eq_some_iff_getElem]
    exact ⟨h, by simp [h1], fun j hj => by simp [h2 j hj]⟩
  unfold findE; rw [this]
theorem findE_no {l : List DP} {sn : Int} (h : ∀ d ∈ l, d.sn ≠ sn) : findE l sn = -1 := by
  have : l.findIdx? (fun d => d.sn == sn) = none := by
    rw [List.findIdx?_eq_none_iff]
    intro d hd; simp [h d hd]
  unfold findE; rw [this]
theorem findE_spec (l : List DP) (sn : Int) : (findE l sn = -1 ∧ ∀ d ∈ l, d.sn ≠ sn) ∨ ∃ A d B, l = A ++ d :: B ∧ findE l sn = A.length ∧ d.sn = sn ∧ ∀ x ∈ A, x.sn ≠ sn := by
  induction l with
  | nil => exact .inl ⟨rfl, nofun⟩
  | cons d l ih =>
    by_cases h : d.sn = sn
    · exact .inr ⟨[], d, l, rfl, findE_at (i := 0) (by simp) h (fun j hj => absurd hj (Nat.not_lt_zero _)), h, nofun⟩
    · rcases ih with ⟨h1, h2⟩ | ⟨A, x, B, rfl, h1, h2, h3⟩
      · refine .inl ⟨findE_no fun y hy => ?_, fun y hy => ?_⟩ <;>
        · rcases List.mem_cons.1 hy with rfl | hy
          · exact h
          · exact h2 y hy
      · have hA : ∀ y ∈ d :: A, y.sn ≠ sn := fun y hy => by
          rcases List.mem_cons.1 hy with rfl | hy
          · exact h
          · exact h3 y hy
        refine .inr ⟨d :: A, x, B, rfl, findE_at (i := (d :: A).length) (by simp) ?_ (fun j hj => ?_), h2, hA⟩
        · show ((d :: A) ++ x :: B)[(d :: A).length].sn = sn
          rw [List.getElem_append_right (Nat.le_refl _)]
          simpa using h2
        · have e : ((d :: A) ++ x :: B)[j]'(by simp only [List.length_append]; omega) = (d :: A)[j] := List.getElem_append_left hj
          show (((d :: A) ++ x :: B)[j]'(by simp only [List.length_append]; omega)).sn ≠ sn
          rw [e]
          exact hA _ (List.getElem_mem hj)
abbrev dbC (tk : Tok) (l : List DP) : List AVal := [.slice 6 (l.map (dpV .none)) tk]
section
variable {σ : AHeap} {ix : Nat} {tk : Tok} {l : List DP}
theorem eFind (b1 : σ ix = some (.cells (dbC tk l))) (hl : l.length ≤ 100000) (sn : Int) : ACalls Try.prog i_bowlineref24_Buffer_Find [.ptr ix 0, i64v sn] σ fun v σ' => v = i64v (findE l sn) ∧ σ' = σ := by
  refine k_bowlineref24_Buffer_Find rfl ?_
  have H := Hp.nil σ
  (refine wX ?_)
  refine aloop (α := Nat) (fun i => [(s5, i64v i)]) (fun _ => σ) (fun i => i ≤ l.length ∧ ∀ j, (hj : j < l.length) → j < i → l[j].sn ≠ sn) (fun i => l.length - i) 0 ⟨Nat.zero_le _, fun j hj h => absurd h (Nat.not_lt_zero _)⟩ (Sub.refl _) ?_ ?_
  · (refine wX ?_)
    (repeat' first | with_reducible exact EnvLe.refl _ | (refine EnvLe.node ?_ (by first | exact Or.inl rfl | exact Or.inr (Or.inl rfl) | exact Or.inr (Or.inr ⟨nofun, VLe.slice _ _ _⟩)) ?_))
  rintro i ⟨hi, hno⟩
  (refine wX ?_)
  (repeat ((first | refine zI (by omega) ?_ | refine zE (by omega) (by omega) ?_ | refine zD (by omega) (by omega) ?_ | refine zY (by omega) ?_ | refine zN (by omega) ?_ | refine amin ?_ | refine amax ?_ | refine zU (by omega) ?_ | refine z8 (by omega) ?_ | refine zX (by omega) (by omega) ?_ | refine zR rfl ?_ | refine acellA ?_ | refine zB H b1 rfl ?_ | refine zC H b1 ?_ | (apply zL H; (· repeat first | exact .h | apply AtK.t); (· rfl)) | (apply zA H; (· repeat first | exact .h | apply AtK.t)) | (apply zS H; (· repeat first | exact .h | apply AtK.t); (· rfl); (conv => whnf); clear H; intro τ H) | rw [List.length_map]); (refine wX ?_)))
  by_cases h : i < l.length
  · (repeat ((first | refine zI (by omega) ?_ | refine zE (by omega) (by omega) ?_ | refine zD (by omega) (by omega) ?_ | refine zY (by omega) ?_ | refine zN (by omega) ?_ | refine amin ?_ | refine amax ?_ | refine zU (by omega) ?_ | refine z8 (by omega) ?_ | refine zX (by omega) (by omega) ?_ | refine zR rfl ?_ | refine acellA ?_ | refine zB H b1 rfl ?_ | refine zC H b1 ?_ | (apply zL H; (· repeat first | exact .h | apply AtK.t); (· rfl)) | (apply zA H; (· repeat first | exact .h | apply AtK.t)) | (apply zS H; (· repeat first | exact .h | apply AtK.t); (· rfl); (conv => whnf); clear H; intro τ H) | rw [List.length_map]); (refine wX ?_)))
    refine aget (by omega) (get_dp h) ?_
    (refine wX ?_)
    refine acell rfl ?_
    (refine wX ?_)
    by_cases hs : l[i].sn = sn
    · (repeat ((first | refine zI (by omega) ?_ | refine zE (by omega) (by omega) ?_ | refine zD (by omega) (by omega) ?_ | refine zY (by omega) ?_ | refine zN (by omega) ?_ | refine amin ?_ | refine amax ?_ | refine zU (by omega) ?_ | refine z8 (by omega) ?_ | refine zX (by omega) (by omega) ?_ | refine zR rfl ?_ | refine acellA ?_ | refine zB H b1 rfl ?_ | refine zC H b1 ?_ | (apply zL H; (· repeat first | exact .h | apply AtK.t); (· rfl)) | (apply zA H; (· repeat first | exact .h | apply AtK.t)) | (apply zS H; (· repeat first | exact .h | apply AtK.t); (· rfl); (conv => whnf); clear H; intro τ H) | rw [List.length_map]); (refine wX ?_)))
      exact aret (VLe.refl _) (Sub.refl _) ⟨by rw [findE_at h hs fun j hj => hno j (by omega) hj], rfl⟩
    · (repeat ((first | refine zI (by omega) ?_ | refine zE (by omega) (by omega) ?_ | refine zD (by omega) (by omega) ?_ | refine zY (by omega) ?_ | refine zN (by omega) ?_ | refine amin ?_ | refine amax ?_ | refine zU (by omega) ?_ | refine z8 (by omega) ?_ | refine zX (by omega) (by omega) ?_ | refine zR rfl ?_ | refine acellA ?_ | refine zB H b1 rfl ?_ | refine zC H b1 ?_ | (apply zL H; (· repeat first | exact .h | apply AtK.t); (· rfl)) | (apply zA H; (· repeat first | exact .h | apply AtK.t)) | (apply zS H; (· repeat first | exact .h | apply AtK.t); (· rfl); (conv => whnf); clear H; intro τ H) | rw [List.length_map]); (refine wX ?_)))
      refine ⟨i + 1, ⟨by omega, fun j hj hji => ?_⟩, by omega, Sub.refl _, ?_⟩
      · by_cases e : j = i
        · subst e; exact hs
        · exact hno j hj (by omega)
      (refine wX ?_)
      (repeat' first | with_reducible exact EnvLe.refl _ | (refine EnvLe.node ?_ (by first | exact Or.inl rfl | exact Or.inr (Or.inl rfl) | exact Or.inr (Or.inr ⟨nofun, VLe.slice _ _ _⟩)) ?_))
  · (repeat ((first | refine zI (by omega) ?_ | refine zE (by omega) (by omega) ?_ | refine zD (by omega) (by omega) ?_ | refine zY (by omega) ?_ | refine zN (by omega) ?_ | refine amin ?_ | refine amax ?_ | refine zU (by omega) ?_ | refine z8 (by omega) ?_ | refine zX (by omega) (by omega) ?_ | refine zR rfl ?_ | refine acellA ?_ | refine zB H b1 rfl ?_ | refine zC H b1 ?_ | (apply zL H; (· repeat first | exact .h | apply AtK.t); (· rfl)) | (apply zA H; (· repeat first | exact .h | apply AtK.t)) | (apply zS H; (· repeat first | exact .h | apply AtK.t); (· rfl); (conv => whnf); clear H; intro τ H) | rw [List.length_map]); (refine wX ?_)))
    exact aret (VLe.refl _) (Sub.refl _) ⟨by rw [findE_no fun d hd => by
      obtain ⟨j, hj, rfl⟩ := List.getElem_of_mem hd
      exact hno j hj (by omega)], rfl⟩
theorem eTop (t : Tok) (d : DP) (σ : AHeap) (hl : d.B.length ≤ 100000) : ACalls Try.prog i_bowlineref24_top [dpV t d] σ fun v σ' => v = i64v (topT (thereL d.B) d.B.length) ∧ σ' = σ := by
  refine k_bowlineref24_top rfl ?_
  have H := Hp.nil σ
  (refine wX ?_)
  refine hnew H rfl ?_
  clear H
  intro i1 τ H
  (refine wX ?_)
  refine aloop (α := Nat) (fun i => [(s3, i64v (topT (thereL d.B) i)), (s4, i64v i)]) (fun _ => τ) (fun i => i ≤ d.B.length) (fun i => d.B.length - i) 0 (Nat.zero_le _) (Sub.refl _) ?_ ?_
  · (refine wX ?_)
    (repeat' first | with_reducible exact EnvLe.refl _ | (refine EnvLe.node ?_ (by first | exact Or.inl rfl | exact Or.inr (Or.inl rfl) | exact Or.inr (Or.inr ⟨nofun, VLe.slice _ _ _⟩)) ?_))
  intro i hi
  (refine wX ?_)
  (repeat ((first | refine zI (by omega) ?_ | refine zE (by omega) (by omega) ?_ | refine zD (by omega) (by omega) ?_ | refine zY (by omega) ?_ | refine zN (by omega) ?_ | refine amin ?_ | refine amax ?_ | refine zU (by omega) ?_ | refine z8 (by omega) ?_ | refine zX (by omega) (by omega) ?_ | refine zR rfl ?_ | refine acellA ?_ | (apply zL H; (· repeat first | exact .h | apply AtK.t); (· rfl)) | (apply zA H; (· repeat first | exact .h | apply AtK.t)) | (apply zS H; (· repeat first | exact .h | apply AtK.t); (· rfl); (conv => whnf); clear H; intro τ H) | rw [List.length_map]); (refine wX ?_)))
  by_cases h : i < d.B.length
  · have e : topT (thereL d.B) (i + 1) = if 0 ≤ d.B[i] then i + 1 else topT (thereL d.B) i := by
      show (if bitT (thereL d.B) i = true then _ else _) = _
      rw [thereL_bit h]
      by_cases h2 : 0 ≤ d.B[i]
      · rw [decide_eq_true h2, if_pos h2, if_pos rfl]
      · rw [decide_eq_false h2, if_neg h2, if_neg (by simp)]
    (repeat ((first | refine zI (by omega) ?_ | refine zE (by omega) (by omega) ?_ | refine zD (by omega) (by omega) ?_ | refine zY (by omega) ?_ | refine zN (by omega) ?_ | refine amin ?_ | refine amax ?_ | refine zU (by omega) ?_ | refine z8 (by omega) ?_ | refine zX (by omega) (by omega) ?_ | refine zR rfl ?_ | refine acellA ?_ | (apply zL H; (· repeat first | exact .h | apply AtK.t); (· rfl)) | (apply zA H; (· repeat first | exact .h | apply AtK.t)) | (apply zS H; (· repeat first | exact .h | apply AtK.t); (· rfl); (conv => whnf); clear H; intro τ H) | rw [List.length_map]); (refine wX ?_)))
    refine aget (by omega) (get_intsD h) ?_
    (refine wX ?_)
    refine acell rfl ?_
    (refine wX ?_)
    by_cases h2 : 0 ≤ d.B[i]
    · rw [if_pos h2] at e
      (repeat ((first | refine zI (by omega) ?_ | refine zE (by omega) (by omega) ?_ | refine zD (by omega) (by omega) ?_ | refine zY (by omega) ?_ | refine zN (by omega) ?_ | refine amin ?_ | refine amax ?_ | refine zU (by omega) ?_ | refine z8 (by omega) ?_ | refine zX (by omega) (by omega) ?_ | refine zR rfl ?_ | refine acellA ?_ | (apply zL H; (· repeat first | exact .h | apply AtK.t); (· rfl)) | (apply zA H; (· repeat first | exact .h | apply AtK.t)) | (apply zS H; (· repeat first | exact .h | apply AtK.t); (· rfl); (conv => whnf); clear H; intro τ H) | rw [List.length_map]); (refine wX ?_)))
      refine ⟨i + 1, h, by omega, Sub.refl _, ?_⟩
      rw [e, show ((i + 1 : Nat) : Int) = (i : Int) + 1 by omega]
      (refine wX ?_)
      (repeat' first | with_reducible exact EnvLe.refl _ | (refine EnvLe.node ?_ (by first | exact Or.inl rfl | exact Or.inr (Or.inl rfl) | exact Or.inr (Or.inr ⟨nofun, VLe.slice _ _ _⟩)) ?_))
    · rw [if_neg h2] at e
      (repeat ((first | refine zI (by omega) ?_ | refine zE (by omega) (by omega) ?_ | refine zD (by omega) (by omega) ?_ | refine zY (by omega) ?_ | refine zN (by omega) ?_ | refine amin ?_ | refine amax ?_ | refine zU (by omega) ?_ | refine z8 (by omega) ?_ | refine zX (by omega) (by omega) ?_ | refine zR rfl ?_ | refine acellA ?_ | (apply zL H; (· repeat first | exact .h | apply AtK.t); (· rfl)) | (apply zA H; (· repeat first | exact .h | apply AtK.t)) | (apply zS H; (· repeat first | exact .h | apply AtK.t); (· rfl); (conv => whnf); clear H; intro τ H) | rw [List.length_map]); (refine wX ?_)))
      refine ⟨i + 1, h, by omega, Sub.refl _, ?_⟩
      rw [e]
      (refine wX ?_)
      (repeat' first | with_reducible exact EnvLe.refl _ | (refine EnvLe.node ?_ (by first | exact Or.inl rfl | exact Or.inr (Or.inl rfl) | exact Or.inr (Or.inr ⟨nofun, VLe.slice _ _ _⟩)) ?_))
  · obtain rfl : i = d.B.length := by omega
    (repeat ((first | refine zI (by omega) ?_ | refine zE (by omega) (by omega) ?_ | refine zD (by omega) (by omega) ?_ | refine zY (by omega) ?_ | refine zN (by omega) ?_ | refine amin ?_ | refine amax ?_ | refine zU (by omega) ?_ | refine z8 (by omega) ?_ | refine zX (by omega) (by omega) ?_ | refine zR rfl ?_ | refine acellA ?_ | (apply zL H; (· repeat first | exact .h | apply AtK.t); (· rfl)) | (apply zA H; (· repeat first | exact .h | apply AtK.t)) | (apply zS H; (· repeat first | exact .h | apply AtK.t); (· rfl); (conv => whnf); clear H; intro τ H) | rw [List.length_map]); (refine wX ?_)))
    exact aret (VLe.refl _) H.sub ⟨rfl, rfl⟩
theorem ePlaces (t : Tok) (d : DP) (σ : AHeap) (hl : d.B.length ≤ 100000) : ACalls Try.prog i_bowlineref24_places [dpV t d] σ fun v σ' => ∃ w E, v = .agg [w] ∧ RT2 w (thereL d.B) E ∧ Hp σ E σ' := by
  refine km_bowlineref24_places rfl ?_
  have H := Hp.nil σ
  (refine wX ?_)
  refine hnew H rfl ?_
  clear H
  intro i1 τ H
  (refine wX ?_)
  refine hnew H rfl ?_
  clear H
  intro i2 τ H
  (refine wX ?_)
  refine hnew H rfl ?_
  clear H
  intro i3 τ H
  (refine wX ?_)
  (repeat ((first | refine zI (by omega) ?_ | refine zE (by omega) (by omega) ?_ | refine zD (by omega) (by omega) ?_ | refine zY (by omega) ?_ | refine zN (by omega) ?_ | refine amin ?_ | refine amax ?_ | refine zU (by omega) ?_ | refine z8 (by omega) ?_ | refine zX (by omega) (by omega) ?_ | refine zR rfl ?_ | refine acellA ?_ | (apply zL H; (· repeat first | exact .h | apply AtK.t); (· rfl)) | (apply zA H; (· repeat first | exact .h | apply AtK.t)) | (apply zS H; (· repeat first | exact .h | apply AtK.t); (· rfl); (conv => whnf); clear H; intro τ H) | rw [List.length_map]); (refine wX ?_)))
  refine aloop (α := Nat × AVal × List HE × AHeap) (fun y => [(s4, i64v y.1)]) (fun y => y.2.2.2) (fun y => y.1 ≤ d.B.length ∧ RT2 y.2.1 ((thereL d.B).take y.1) y.2.2.1 ∧ Hp σ (.o i3 (.cells [y.2.1]) :: .o i2 (.cells [.slice 1 [] .full]) :: .o i1 (.cells (dpC t d)) :: y.2.2.1) y.2.2.2) (fun y => d.B.length - y.1)
    (0, .slice 1 [] .full, [], τ) ⟨Nat.zero_le _, .nil, H⟩ (Sub.refl _) ?_ ?_
  · (refine wX ?_)
    (repeat' first | with_reducible exact EnvLe.refl _ | (refine EnvLe.node ?_ (by first | exact Or.inl rfl | exact Or.inr (Or.inl rfl) | exact Or.inr (Or.inr ⟨nofun, VLe.slice _ _ _⟩)) ?_))
  clear H
  rintro ⟨i, v, E, τ⟩ ⟨hi, hv, H⟩
  dsimp only at hi hv H ⊢
  (refine wX ?_)
  (repeat ((first | refine zI (by omega) ?_ | refine zE (by omega) (by omega) ?_ | refine zD (by omega) (by omega) ?_ | refine zY (by omega) ?_ | refine zN (by omega) ?_ | refine amin ?_ | refine amax ?_ | refine zU (by omega) ?_ | refine z8 (by omega) ?_ | refine zX (by omega) (by omega) ?_ | refine zR rfl ?_ | refine acellA ?_ | (apply zL H; (· repeat first | exact .h | apply AtK.t); (· rfl)) | (apply zA H; (· repeat first | exact .h | apply AtK.t)) | (apply zS H; (· repeat first | exact .h | apply AtK.t); (· rfl); (conv => whnf); clear H; intro τ H) | rw [List.length_map]); (refine wX ?_)))
  by_cases h : i < d.B.length
  · have e : (thereL d.B).take (i + 1) = (thereL d.B).take i ++ [decide (0 ≤ d.B[i])] := by
      have h2 : i < (thereL d.B).length := by rw [thereL_len]; exact h
      have h3 : (thereL d.B)[i] = decide (0 ≤ d.B[i]) := List.getElem_map _
      rw [List.take_add_one, List.getElem?_eq_getElem h2, h3]; rfl
    (repeat ((first | refine zI (by omega) ?_ | refine zE (by omega) (by omega) ?_ | refine zD (by omega) (by omega) ?_ | refine zY (by omega) ?_ | refine zN (by omega) ?_ | refine amin ?_ | refine amax ?_ | refine zU (by omega) ?_ | refine z8 (by omega) ?_ | refine zX (by omega) (by omega) ?_ | refine zR rfl ?_ | refine acellA ?_ | (apply zL H; (· repeat first | exact .h | apply AtK.t); (· rfl)) | (apply zA H; (· repeat first | exact .h | apply AtK.t)) | (apply zS H; (· repeat first | exact .h | apply AtK.t); (· rfl); (conv => whnf); clear H; intro τ H) | rw [List.length_map]); (refine wX ?_)))
    refine aget (by omega) (get_intsD h) ?_
    (refine wX ?_)
    refine acell rfl ?_
    (refine wX ?_)
    rw [show @decide (0 ≤ d.B[i]) (leDec 0 d.B[i]) = decide (0 ≤ d.B[i]) from dec_congr Iff.rfl]
    have hlen : ((thereL d.B).take i).length ≤ 1000000000 := by rw [List.length_take, thereL_len]; omega
    generalize (thereL d.B).take i = xs at *
    have K := Hp.comm [.o i3 (.cells [v]), .o i2 (.cells [.slice 1 [] .full]), .o i1 (.cells (dpC t d))] E H
    cases hv with
    | nil =>
      (refine wX ?_)
      refine (rt_app .nil (E := []) K hlen (decide (0 ≤ d.B[i])) ?_).1 _ _ rfl
      clear H K
      intro v2 E2 τ hv2 H
      replace H : Hp σ (.o i3 (.cells [.slice 1 [] .full]) :: .o i2 (.cells [.slice 1 [] .full]) :: .o i1 (.cells (dpC t d)) :: E2) τ := Hp.comm E2 [_, _, _] H
      (refine wX ?_)
      rw [hv2.cells1]
      (refine wX ?_)
      refine zS H (k := 0) .h (by show (v2.isCell && true) = true; rw [hv2.isCell]; rfl) ?_
      (conv => whnf)
      clear H
      intro τ H
      (refine wX ?_)
      (repeat ((first | refine zI (by omega) ?_ | refine zE (by omega) (by omega) ?_ | refine zD (by omega) (by omega) ?_ | refine zY (by omega) ?_ | refine zN (by omega) ?_ | refine amin ?_ | refine amax ?_ | refine zU (by omega) ?_ | refine z8 (by omega) ?_ | refine zX (by omega) (by omega) ?_ | refine zR rfl ?_ | refine acellA ?_ | (apply zL H; (· repeat first | exact .h | apply AtK.t); (· rfl)) | (apply zA H; (· repeat first | exact .h | apply AtK.t)) | (apply zS H; (· repeat first | exact .h | apply AtK.t); (· rfl); (conv => whnf); clear H; intro τ H) | rw [List.length_map]); (refine wX ?_)))
      refine ⟨(i + 1, v2, E2, τ), ⟨h, by rw [e]; exact hv2, H⟩, by dsimp only; omega, Sub.refl _, ?_⟩
      (refine wX ?_)
      (repeat' first | with_reducible exact EnvLe.refl _ | (refine EnvLe.node ?_ (by first | exact Or.inl rfl | exact Or.inr (Or.inl rfl) | exact Or.inr (Or.inr ⟨nofun, VLe.slice _ _ _⟩)) ?_))
    | row r _ hne =>
      (refine wX ?_)
      refine (rt_app (.row r xs hne) (E := [.o r (.cells (xs.map boolv))]) K hlen (decide (0 ≤ d.B[i])) ?_).2 _ _ rfl
      clear H K
      intro v2 E2 τ hv2 H
      replace H : Hp σ (.o i3 (.cells [.ms r 1 0 xs.length]) :: .o i2 (.cells [.slice 1 [] .full]) :: .o i1 (.cells (dpC t d)) :: E2) τ := Hp.comm E2 [_, _, _] H
      (refine wX ?_)
      rw [hv2.cells1]
      (refine wX ?_)
      refine zS H (k := 0) .h (by show (v2.isCell && true) = true; rw [hv2.isCell]; rfl) ?_
      (conv => whnf)
      clear H
      intro τ H
      (refine wX ?_)
      (repeat ((first | refine zI (by omega) ?_ | refine zE (by omega) (by omega) ?_ | refine zD (by omega) (by omega) ?_ | refine zY (by omega) ?_ | refine zN (by omega) ?_ | refine amin ?_ | refine amax ?_ | refine zU (by omega) ?_ | refine z8 (by omega) ?_ | refine zX (by omega) (by omega) ?_ | refine zR rfl ?_ | refine acellA ?_ | (apply zL H; (· repeat first | exact .h | apply AtK.t); (· rfl)) | (apply zA H; (· repeat first | exact .h | apply AtK.t)) | (apply zS H; (· repeat first | exact .h | apply AtK.t); (· rfl); (conv => whnf); clear H; intro τ H) | rw [List.length_map]); (refine wX ?_)))
      refine ⟨(i + 1, v2, E2, τ), ⟨h, by rw [e]; exact hv2, H⟩, by dsimp only; omega, Sub.refl _, ?_⟩
      (refine wX ?_)
      (repeat' first | with_reducible exact EnvLe.refl _ | (refine EnvLe.node ?_ (by first | exact Or.inl rfl | exact Or.inr (Or.inl rfl) | exact Or.inr (Or.inr ⟨nofun, VLe.slice _ _ _⟩)) ?_))
  · rw [List.take_of_length_le (by rw [thereL_len]; omega)] at hv
    (repeat ((first | refine zI (by omega) ?_ | refine zE (by omega) (by omega) ?_ | refine zD (by omega) (by omega) ?_ | refine zY (by omega) ?_ | refine zN (by omega) ?_ | refine amin ?_ | refine amax ?_ | refine zU (by omega) ?_ | refine z8 (by omega) ?_ | refine zX (by omega) (by omega) ?_ | refine zR rfl ?_ | refine acellA ?_ | (apply zL H; (· repeat first | exact .h | apply AtK.t); (· rfl)) | (apply zA H; (· repeat first | exact .h | apply AtK.t)) | (apply zS H; (· repeat first | exact .h | apply AtK.t); (· rfl); (conv => whnf); clear H; intro τ H) | rw [List.length_map]); (refine wX ?_)))
    refine zS H (k := 1) (.t .h) (by show (v.isCell && true) = true; rw [hv.isCell]; rfl) ?_
    (conv => whnf)
    clear H
    intro τ H
    (refine wX ?_)
    (repeat ((first | refine zI (by omega) ?_ | refine zE (by omega) (by omega) ?_ | refine zD (by omega) (by omega) ?_ | refine zY (by omega) ?_ | refine zN (by omega) ?_ | refine amin ?_ | refine amax ?_ | refine zU (by omega) ?_ | refine z8 (by omega) ?_ | refine zX (by omega) (by omega) ?_ | refine zR rfl ?_ | refine acellA ?_ | (apply zL H; (· repeat first | exact .h | apply AtK.t); (· rfl)) | (apply zA H; (· repeat first | exact .h | apply AtK.t)) | (apply zS H; (· repeat first | exact .h | apply AtK.t); (· rfl); (conv => whnf); clear H; intro τ H) | rw [List.length_map]); (refine wX ?_)))
    exact aret (VLe.refl _) (Sub.refl _) ⟨v, E, rfl, hv, H.tail.tail.tail⟩
def wholeD (d : DP) : Bool := decide (0 ≤ d.e) && decide (((cntT (thereL d.B) (0, d.e) : Nat) : Int) = d.e)
theorem eWholeD (t : Tok) (d : DP) (σ : AHeap) (hl : d.B.length ≤ 65536) (he : d.e ≤ 100000) : ACalls Try.prog i_bowlineref24_Whole [dpV t d] σ fun v σ' => v = boolv (wholeD d) ∧ σ' = σ := by
  refine k_bowlineref24_Whole rfl ?_
  have H := Hp.nil σ
  (refine wX ?_)
  refine hnew H rfl ?_
  clear H
  intro i1 τ H
  (refine wX ?_)
  (repeat ((first | refine zI (by omega) ?_ | refine zE (by omega) (by omega) ?_ | refine zD (by omega) (by omega) ?_ | refine zY (by omega) ?_ | refine zN (by omega) ?_ | refine amin ?_ | refine amax ?_ | refine zU (by omega) ?_ | refine z8 (by omega) ?_ | refine zX (by omega) (by omega) ?_ | refine zR rfl ?_ | refine acellA ?_ | (apply zL H; (· repeat first | exact .h | apply AtK.t); (· rfl)) | (apply zA H; (· repeat first | exact .h | apply AtK.t)) | (apply zS H; (· repeat first | exact .h | apply AtK.t); (· rfl); (conv => whnf); clear H; intro τ H) | rw [List.length_map]); (refine wX ?_)))
  unfold wholeD
  by_cases h : d.e < 0
  · (repeat ((first | refine zI (by omega) ?_ | refine zE (by omega) (by omega) ?_ | refine zD (by omega) (by omega) ?_ | refine zY (by omega) ?_ | refine zN (by omega) ?_ | refine amin ?_ | refine amax ?_ | refine zU (by omega) ?_ | refine z8 (by omega) ?_ | refine zX (by omega) (by omega) ?_ | refine zR rfl ?_ | refine acellA ?_ | (apply zL H; (· repeat first | exact .h | apply AtK.t); (· rfl)) | (apply zA H; (· repeat first | exact .h | apply AtK.t)) | (apply zS H; (· repeat first | exact .h | apply AtK.t); (· rfl); (conv => whnf); clear H; intro τ H) | rw [List.length_map]); (refine wX ?_)))
    exact aret (VLe.refl _) H.sub ⟨by rw [decide_eq_false (by omega : ¬ 0 ≤ d.e)]; rfl, rfl⟩
  (repeat ((first | refine zI (by omega) ?_ | refine zE (by omega) (by omega) ?_ | refine zD (by omega) (by omega) ?_ | refine zY (by omega) ?_ | refine zN (by omega) ?_ | refine amin ?_ | refine amax ?_ | refine zU (by omega) ?_ | refine z8 (by omega) ?_ | refine zX (by omega) (by omega) ?_ | refine zR rfl ?_ | refine acellA ?_ | (apply zL H; (· repeat first | exact .h | apply AtK.t); (· rfl)) | (apply zA H; (· repeat first | exact .h | apply AtK.t)) | (apply zS H; (· repeat first | exact .h | apply AtK.t); (· rfl); (conv => whnf); clear H; intro τ H) | rw [List.length_map]); (refine wX ?_)))
  refine acall (ePlaces t d τ (by omega)) ?_
  rintro _ τ2 ⟨w, E, rfl, hw, N⟩
  refine ⟨?_, N.ext⟩
  (refine wX ?_)
  refine acall (rCount03 (hw.dvt (F := []) N) (0, d.e) (by rw [thereL_len]; omega) (Int.le_refl 0) (by dsimp only; omega) (by dsimp only; omega)) ?_
  rintro _ σ_ ⟨rfl, e_⟩
  obtain rfl := e_.symm
  refine ⟨?_, Ext.refl _⟩
  (refine wX ?_)
  exact aret (VLe.refl _) (Sub.trans N.sub H.sub) ⟨by rw [decide_eq_true (by omega : 0 ≤ d.e)]; rfl, rfl⟩
end
end Go.Proofs.Ytgobbmdbkmjlnaa
/-
  What came in parts, the document's: what is missing, which packets may come, how many bytes are there.
-/
namespace Go.Proofs.Ytgobbmdbkmjlnaa
set_option linter.unusedVariables false
set_option linter.unusedSimpArgs false
set_option maxRecDepth 20000
open Go Go.Am

def gapsT (L : List Bool) (to : Int) : List Sp := if 1 ≤ to ∧ to ≤ 65536 then runT L false to.toNat else []
def missO (d : DP) : List Sp := if 0 ≤ d.e then gapsT (thereL d.B) d.e else gapsT (thereL d.B) (topT (thereL d.B) d.B.length : Int) ++ [((topT (thereL d.B) d.B.length : Int), 0)]
def missE (l : List DP) (sn : Int) : List Sp := match l.find? fun d => d.sn == sn with
  | none => []
  | some d => missO d
theorem RS2.cells1 {v : AVal} {L : List Sp} {E : List HE} (h : RS2 v L E) : v.cells = [v] := by cases h <;> rfl
/-- A row of spans, one more. -/
theorem rs_app {σb : AHeap} {v : AVal} {xs : List Sp} {E G : List HE} {τ : AHeap} (h : RS2 v xs E) (H : Hp σb (E ++ G) τ) (hl : xs.length ≤ 1000000000) (x : Sp) {K : AVal → AHeap → Prop}
    (hK : ∀ v' E' τ', RS2 v' (xs ++ [x]) E' → Hp σb (E' ++ G) τ' → K v' τ') :
    (∀ s t, v = .slice 2 s t → AAppNew τ 2 16 s t [spV x] K) ∧ (∀ r ln, v = .ms r 2 0 ln → AAppM τ r 2 0 ln 16 [spV x] K) := by
  cases h with
  | nil =>
    refine ⟨fun s t e => ?_, fun r ln e => (by cases e)⟩
    cases e
    refine happnew H (by simp) (by simp) rfl fun r τ' H' => hK _ _ τ' (.row r [x] (by simp)) H'
  | row r _ hx =>
    refine ⟨fun s t e => (by cases e), fun r' ln e => ?_⟩
    cases e
    refine happm H (k := 0) rfl (spC_len xs).symm (by simp only [List.length_singleton]; omega) rfl fun r2 τ' H' => ?_
    rw [show spC xs ++ [spV x].flatMap AVal.cells = spC (xs ++ [x]) from by rw [spC_append]; rfl] at H'
    have := hK _ _ τ' (.row r2 (xs ++ [x]) (by simp)) H'
    rw [List.length_append] at this
    exact this
theorem gapsT_len {L : List Bool} {to : Int} : (gapsT L to).length ≤ 65536 := by
  unfold gapsT
  split
  · exact Nat.le_trans (runsL_len _ _) (by omega)
  · exact Nat.zero_le _
section
variable {σ : AHeap} {ix : Nat} {tk : Tok} {l : List DP}
theorem find_at (l : List DP) (sn : Int) : (findE l sn = -1 ∧ l.find? (fun d => d.sn == sn) = none) ∨ ∃ (i : Nat) (h : i < l.length), findE l sn = i ∧ l.find? (fun d => d.sn == sn) = some l[i] := by
  rcases findE_spec l sn with ⟨h1, h2⟩ | ⟨A, d, B, hl, h1, h2, h3⟩
  · exact .inl ⟨h1, List.find?_eq_none.2 fun x hx => by simp [h2 x hx]⟩
  · subst hl
    refine .inr ⟨A.length, by rw [List.length_append, List.length_cons]; omega, h1, ?_⟩
    rw [List.find?_append, List.find?_eq_none.2 fun x hx => by simp [h3 x hx]]
    rw [List.getElem_append_right (Nat.le_refl _)]
    simp [h2]
set_option maxHeartbeats 2000000 in
theorem eMissing (b1 : σ ix = some (.cells (dbC tk l))) (hl : l.length ≤ 100000) (hd : ∀ d ∈ l, d.B.length ≤ 65536 ∧ d.e ≤ 100000) (sn : Int) : ACalls Try.prog i_bowlineref24_Buffer_Missing [.ptr ix 0, i64v sn] σ fun v σ' => ∃ E, RS2 v (missE l sn) E ∧ Hp σ E σ' := by
  refine km_bowlineref24_Buffer_Missing rfl ?_
  have H := Hp.nil σ
  (refine wX ?_)
  refine acall (eFind b1 hl sn) ?_
  rintro _ σ_ ⟨rfl, e_⟩
  obtain rfl := e_.symm
  refine ⟨?_, Ext.refl _⟩
  (refine wX ?_)
  unfold missE
  rcases find_at l sn with ⟨h1, h2⟩ | ⟨i, hi, h1, h2⟩
  · rw [h1, h2]
    (refine wX ?_)
    (repeat ((first | refine zI (by omega) ?_ | refine zE (by omega) (by omega) ?_ | refine zD (by omega) (by omega) ?_ | refine zY (by omega) ?_ | refine zN (by omega) ?_ | refine amin ?_ | refine amax ?_ | refine zU (by omega) ?_ | refine z8 (by omega) ?_ | refine zX (by omega) (by omega) ?_ | refine zR rfl ?_ | refine acellA ?_ | refine zB H b1 rfl ?_ | refine zC H b1 ?_ | (apply zL H; (· repeat first | exact .h | apply AtK.t); (· rfl)) | (apply zA H; (· repeat first | exact .h | apply AtK.t)) | (apply zS H; (· repeat first | exact .h | apply AtK.t); (· rfl); (conv => whnf); clear H; intro τ H) | rw [List.length_map]); (refine wX ?_)))
    exact aret (VLe.refl _) (Sub.refl _) ⟨[], .nil, H⟩
  rw [h1, h2]
  obtain ⟨d, hdd⟩ : ∃ d, d = l[i] := ⟨_, rfl⟩
  obtain ⟨g1, g2⟩ := hd d (hdd ▸ List.getElem_mem hi)
  have htop := topT_le (thereL d.B) d.B.length
  (refine wX ?_)
  (repeat ((first | refine zI (by omega) ?_ | refine zE (by omega) (by omega) ?_ | refine zD (by omega) (by omega) ?_ | refine zY (by omega) ?_ | refine zN (by omega) ?_ | refine amin ?_ | refine amax ?_ | refine zU (by omega) ?_ | refine z8 (by omega) ?_ | refine zX (by omega) (by omega) ?_ | refine zR rfl ?_ | refine acellA ?_ | refine zB H b1 rfl ?_ | refine zC H b1 ?_ | (apply zL H; (· repeat first | exact .h | apply AtK.t); (· rfl)) | (apply zA H; (· repeat first | exact .h | apply AtK.t)) | (apply zS H; (· repeat first | exact .h | apply AtK.t); (· rfl); (conv => whnf); clear H; intro τ H) | rw [List.length_map]); (refine wX ?_)))
  refine aget (by omega) (get_dp hi) ?_
  rw [← hdd]
  (refine wX ?_)
  (repeat ((first | refine zI (by omega) ?_ | refine zE (by omega) (by omega) ?_ | refine zD (by omega) (by omega) ?_ | refine zY (by omega) ?_ | refine zN (by omega) ?_ | refine amin ?_ | refine amax ?_ | refine zU (by omega) ?_ | refine z8 (by omega) ?_ | refine zX (by omega) (by omega) ?_ | refine zR rfl ?_ | refine acellA ?_ | refine zB H b1 rfl ?_ | refine zC H b1 ?_ | (apply zL H; (· repeat first | exact .h | apply AtK.t); (· rfl)) | (apply zA H; (· repeat first | exact .h | apply AtK.t)) | (apply zS H; (· repeat first | exact .h | apply AtK.t); (· rfl); (conv => whnf); clear H; intro τ H) | rw [List.length_map]); (refine wX ?_)))
  refine hnew H rfl ?_
  clear H
  intro i6 τ H
  (refine wX ?_)
  (repeat ((first | refine zI (by omega) ?_ | refine zE (by omega) (by omega) ?_ | refine zD (by omega) (by omega) ?_ | refine zY (by omega) ?_ | refine zN (by omega) ?_ | refine amin ?_ | refine amax ?_ | refine zU (by omega) ?_ | refine z8 (by omega) ?_ | refine zX (by omega) (by omega) ?_ | refine zR rfl ?_ | refine acellA ?_ | refine zB H b1 rfl ?_ | refine zC H b1 ?_ | (apply zL H; (· repeat first | exact .h | apply AtK.t); (· rfl)) | (apply zA H; (· repeat first | exact .h | apply AtK.t)) | (apply zS H; (· repeat first | exact .h | apply AtK.t); (· rfl); (conv => whnf); clear H; intro τ H) | rw [List.length_map]); (refine wX ?_)))
  dsimp only
  unfold missO
  by_cases he : 0 ≤ d.e
  · rw [if_pos he]
    (repeat ((first | refine zI (by omega) ?_ | refine zE (by omega) (by omega) ?_ | refine zD (by omega) (by omega) ?_ | refine zY (by omega) ?_ | refine zN (by omega) ?_ | refine amin ?_ | refine amax ?_ | refine zU (by omega) ?_ | refine z8 (by omega) ?_ | refine zX (by omega) (by omega) ?_ | refine zR rfl ?_ | refine acellA ?_ | refine zB H b1 rfl ?_ | refine zC H b1 ?_ | (apply zL H; (· repeat first | exact .h | apply AtK.t); (· rfl)) | (apply zA H; (· repeat first | exact .h | apply AtK.t)) | (apply zS H; (· repeat first | exact .h | apply AtK.t); (· rfl); (conv => whnf); clear H; intro τ H) | rw [List.length_map]); (refine wX ?_)))
    refine acall (ePlaces .none d τ (by omega)) ?_
    rintro _ τ2 ⟨w, E, rfl, hw, N⟩
    refine ⟨?_, N.ext⟩
    (refine wX ?_)
    refine acall (rGaps03 (hw.dvt (F := []) N) (by rw [thereL_len]; omega) d.e) ?_
    rintro _ τ3 ⟨E3, hE, N3⟩
    refine ⟨?_, N3.ext⟩
    (refine wX ?_)
    exact aret (VLe.refl _) (Sub.refl _) ⟨E3, hE, ((H.join N).join N3).left⟩
  · rw [if_neg he]
    (repeat ((first | refine zI (by omega) ?_ | refine zE (by omega) (by omega) ?_ | refine zD (by omega) (by omega) ?_ | refine zY (by omega) ?_ | refine zN (by omega) ?_ | refine amin ?_ | refine amax ?_ | refine zU (by omega) ?_ | refine z8 (by omega) ?_ | refine zX (by omega) (by omega) ?_ | refine zR rfl ?_ | refine acellA ?_ | refine zB H b1 rfl ?_ | refine zC H b1 ?_ | (apply zL H; (· repeat first | exact .h | apply AtK.t); (· rfl)) | (apply zA H; (· repeat first | exact .h | apply AtK.t)) | (apply zS H; (· repeat first | exact .h | apply AtK.t); (· rfl); (conv => whnf); clear H; intro τ H) | rw [List.length_map]); (refine wX ?_)))
    refine acall (ePlaces .none d τ (by omega)) ?_
    rintro _ τ2 ⟨w, E, rfl, hw, N⟩
    refine ⟨?_, N.ext⟩
    (refine wX ?_)
    refine acall (eTop .none d τ2 (by omega)) ?_
    rintro _ σ_ ⟨rfl, e_⟩
    obtain rfl := e_.symm
    refine ⟨?_, Ext.refl _⟩
    (refine wX ?_)
    refine acall (rGaps03 (hw.dvt (F := []) N) (by rw [thereL_len]; omega) (topT (thereL d.B) d.B.length : Int)) ?_
    rintro _ τ3 ⟨E3, hE, N3⟩
    refine ⟨?_, N3.ext⟩
    (refine wX ?_)
    refine acall (eTop .none d τ3 (by omega)) ?_
    rintro _ σ_ ⟨rfl, e_⟩
    obtain rfl := e_.symm
    refine ⟨?_, Ext.refl _⟩
    (refine wX ?_)
    have K0 := ((H.join N).join N3)
    have hE : RS2 _ (gapsT (thereL d.B) (topT (thereL d.B) d.B.length : Int)) E3 := hE
    have hgl := gapsT_len (L := thereL d.B) (to := (topT (thereL d.B) d.B.length : Int))
    generalize gapsT (thereL d.B) (topT (thereL d.B) d.B.length : Int) = xs at *
    cases hE with
    | nil =>
      (refine wX ?_)
      refine (rs_app .nil (E := []) K0 (by omega) ((topT (thereL d.B) d.B.length : Int), 0) ?_).1 _ _ rfl
      intro v2 E2 τ4 hv2 H4
      (refine wX ?_)
      exact aret (VLe.refl _) (Sub.refl _) ⟨E2, hv2, H4.left⟩
    | row r _ hne =>
      (refine wX ?_)
      refine (rs_app (.row r xs hne) K0 (by omega) ((topT (thereL d.B) d.B.length : Int), 0) ?_).2 _ _ rfl
      intro v2 E2 τ4 hv2 H4
      (refine wX ?_)
      exact aret (VLe.refl _) (Sub.refl _) ⟨E2, hv2, H4.left⟩
def bytesD (l : List DP) : Int := (l.map fun d => ((cntT (thereL d.B) (0, (d.B.length : Int)) : Nat) : Int)).sum
theorem bytesD_take {l : List DP} {i : Nat} (h : i < l.length) : bytesD (l.take (i + 1)) = bytesD (l.take i) + ((cntT (thereL l[i].B) (0, (l[i].B.length : Int)) : Nat) : Int) := by
  unfold bytesD
  rw [List.take_add_one, List.getElem?_eq_getElem h, Option.toList_some, List.map_append, List.sum_append]; simp
theorem cntT_le {L : List Bool} {n : Nat} : cntT L (0, (n : Int)) ≤ n := by
  unfold cntT
  refine Nat.le_trans List.countP_le_length ?_
  rw [List.length_range]; simp
theorem eBytes (b1 : σ ix = some (.cells (dbC tk l))) (hl : l.length ≤ 100000) (hd : ∀ d ∈ l, d.B.length ≤ 65536) : ACalls Try.prog i_bowlineref24_Buffer_Bytes [.ptr ix 0] σ fun v σ' => v = i64v (bytesD l) ∧ σ' = σ := by
  refine k_bowlineref24_Buffer_Bytes rfl ?_
  have H := Hp.nil σ
  (refine wX ?_)
  refine aloop (α := Nat × AHeap) (fun y => [(s3, i64v (bytesD (l.take y.1))), (s4, i64v y.1)]) (fun y => y.2) (fun y => y.1 ≤ l.length ∧ Hp σ [] y.2 ∧ 0 ≤ bytesD (l.take y.1) ∧ bytesD (l.take y.1) ≤ 65536 * (y.1 : Int)) (fun y => l.length - y.1)
    (0, σ) ⟨Nat.zero_le _, H, (by show (0 : Int) ≤ 0; omega), (by show (0 : Int) ≤ 65536 * ((0 : Nat) : Int); omega)⟩ (Sub.refl _) ?_ ?_
  · (refine wX ?_)
    (repeat' first | with_reducible exact EnvLe.refl _ | (refine EnvLe.node ?_ (by first | exact Or.inl rfl | exact Or.inr (Or.inl rfl) | exact Or.inr (Or.inr ⟨nofun, VLe.slice _ _ _⟩)) ?_))
  clear H
  rintro ⟨i, τ⟩ ⟨hi, H, g1, g2⟩
  dsimp only at hi H g1 g2 ⊢
  (refine wX ?_)
  (repeat ((first | refine zI (by omega) ?_ | refine zE (by omega) (by omega) ?_ | refine zD (by omega) (by omega) ?_ | refine zY (by omega) ?_ | refine zN (by omega) ?_ | refine amin ?_ | refine amax ?_ | refine zU (by omega) ?_ | refine z8 (by omega) ?_ | refine zX (by omega) (by omega) ?_ | refine zR rfl ?_ | refine acellA ?_ | refine zB H b1 rfl ?_ | refine zC H b1 ?_ | (apply zL H; (· repeat first | exact .h | apply AtK.t); (· rfl)) | (apply zA H; (· repeat first | exact .h | apply AtK.t)) | (apply zS H; (· repeat first | exact .h | apply AtK.t); (· rfl); (conv => whnf); clear H; intro τ H) | rw [List.length_map]); (refine wX ?_)))
  by_cases h : i < l.length
  · (repeat ((first | refine zI (by omega) ?_ | refine zE (by omega) (by omega) ?_ | refine zD (by omega) (by omega) ?_ | refine zY (by omega) ?_ | refine zN (by omega) ?_ | refine amin ?_ | refine amax ?_ | refine zU (by omega) ?_ | refine z8 (by omega) ?_ | refine zX (by omega) (by omega) ?_ | refine zR rfl ?_ | refine acellA ?_ | refine zB H b1 rfl ?_ | refine zC H b1 ?_ | (apply zL H; (· repeat first | exact .h | apply AtK.t); (· rfl)) | (apply zA H; (· repeat first | exact .h | apply AtK.t)) | (apply zS H; (· repeat first | exact .h | apply AtK.t); (· rfl); (conv => whnf); clear H; intro τ H) | rw [List.length_map]); (refine wX ?_)))
    have hget := get_dp (t := .none) h
    have e := bytesD_take h
    have hdl := hd _ (List.getElem_mem h)
    refine aget (by omega) hget ?_
    generalize l[i] = d at *
    have hc := cntT_le (L := thereL d.B) (n := d.B.length)
    (refine wX ?_)
    (repeat ((first | refine zI (by omega) ?_ | refine zE (by omega) (by omega) ?_ | refine zD (by omega) (by omega) ?_ | refine zY (by omega) ?_ | refine zN (by omega) ?_ | refine amin ?_ | refine amax ?_ | refine zU (by omega) ?_ | refine z8 (by omega) ?_ | refine zX (by omega) (by omega) ?_ | refine zR rfl ?_ | refine acellA ?_ | refine zB H b1 rfl ?_ | refine zC H b1 ?_ | (apply zL H; (· repeat first | exact .h | apply AtK.t); (· rfl)) | (apply zA H; (· repeat first | exact .h | apply AtK.t)) | (apply zS H; (· repeat first | exact .h | apply AtK.t); (· rfl); (conv => whnf); clear H; intro τ H) | rw [List.length_map]); (refine wX ?_)))
    refine aget (by omega) hget ?_
    (refine wX ?_)
    (repeat ((first | refine zI (by omega) ?_ | refine zE (by omega) (by omega) ?_ | refine zD (by omega) (by omega) ?_ | refine zY (by omega) ?_ | refine zN (by omega) ?_ | refine amin ?_ | refine amax ?_ | refine zU (by omega) ?_ | refine z8 (by omega) ?_ | refine zX (by omega) (by omega) ?_ | refine zR rfl ?_ | refine acellA ?_ | refine zB H b1 rfl ?_ | refine zC H b1 ?_ | (apply zL H; (· repeat first | exact .h | apply AtK.t); (· rfl)) | (apply zA H; (· repeat first | exact .h | apply AtK.t)) | (apply zS H; (· repeat first | exact .h | apply AtK.t); (· rfl); (conv => whnf); clear H; intro τ H) | rw [List.length_map]); (refine wX ?_)))
    refine acall (ePlaces .none d τ (by omega)) ?_
    rintro _ τ2 ⟨w, E, rfl, hw, N⟩
    refine ⟨?_, N.ext⟩
    (refine wX ?_)
    refine acall (rCount03 (hw.dvt (F := []) N) (0, (d.B.length : Int)) (by rw [thereL_len]; omega) (Int.le_refl 0) (by dsimp only; omega) (by dsimp only; omega)) ?_
    rintro _ σ_ ⟨rfl, e_⟩
    obtain rfl := e_.symm
    refine ⟨?_, Ext.refl _⟩
    (refine wX ?_)
    (repeat ((first | refine zI (by omega) ?_ | refine zE (by omega) (by omega) ?_ | refine zD (by omega) (by omega) ?_ | refine zY (by omega) ?_ | refine zN (by omega) ?_ | refine amin ?_ | refine amax ?_ | refine zU (by omega) ?_ | refine z8 (by omega) ?_ | refine zX (by omega) (by omega) ?_ | refine zR rfl ?_ | refine acellA ?_ | refine zB H b1 rfl ?_ | refine zC H b1 ?_ | (apply zL H; (· repeat first | exact .h | apply AtK.t); (· rfl)) | (apply zA H; (· repeat first | exact .h | apply AtK.t)) | (apply zS H; (· repeat first | exact .h | apply AtK.t); (· rfl); (conv => whnf); clear H; intro τ H) | rw [List.length_map]); (refine wX ?_)))
    refine ⟨(i + 1, τ2), ⟨h, (H.join N).left (L := []), ?_, ?_⟩, by dsimp only; omega, Sub.refl _, ?_⟩
    · dsimp only; omega
    · dsimp only; omega
    rw [e]
    (refine wX ?_)
    (repeat' first | with_reducible exact EnvLe.refl _ | (refine EnvLe.node ?_ (by first | exact Or.inl rfl | exact Or.inr (Or.inl rfl) | exact Or.inr (Or.inr ⟨nofun, VLe.slice _ _ _⟩)) ?_))
  · obtain rfl : i = l.length := by omega
    rw [List.take_length]
    (repeat ((first | refine zI (by omega) ?_ | refine zE (by omega) (by omega) ?_ | refine zD (by omega) (by omega) ?_ | refine zY (by omega) ?_ | refine zN (by omega) ?_ | refine amin ?_ | refine amax ?_ | refine zU (by omega) ?_ | refine z8 (by omega) ?_ | refine zX (by omega) (by omega) ?_ | refine zR rfl ?_ | refine acellA ?_ | refine zB H b1 rfl ?_ | refine zC H b1 ?_ | (apply zL H; (· repeat first | exact .h | apply AtK.t); (· rfl)) | (apply zA H; (· repeat first | exact .h | apply AtK.t)) | (apply zS H; (· repeat first | exact .h | apply AtK.t); (· rfl); (conv => whnf); clear H; intro τ H) | rw [List.length_map]); (refine wX ?_)))
    exact aret (VLe.refl _) H.sub ⟨rfl, rfl⟩
end
end Go.Proofs.Ytgobbmdbkmjlnaa
/-
  What came in parts, the document's: which packets may come.
-/
namespace Go.Proofs.Ytgobbmdbkmjlnaa
set_option linter.unusedVariables false
set_option linter.unusedSimpArgs false
set_option maxRecDepth 20000
open Go Go.Am

def badB (p : Pk) : Prop := p.fs.length < 1 ∨ p.fs.length > 24 ∨ p.fi < 0 ∨ p.fi > 3 ∨ p.off < 0 ∨ p.off > 4000 ∨ (p.part = false ∧ p.off ≠ 0)
theorem right_bad {p : Pk} (h : badB p) : rightB p = false := by
  unfold rightB
  rcases h with h | h | h | h | h | h | h
  · simp [h]
  · simp [h]
  · simp [h]
  · simp [h]
  · rw [decide_eq_false (by omega : ¬ 0 ≤ p.off)]; simp
  · rw [decide_eq_false (by omega : ¬ p.off ≤ 4000)]; simp
  · rw [h.1, decide_eq_false h.2]; simp
theorem right_hollow {p : Pk} (h : hollowB p.fs = true) : rightB p = false := by
  unfold rightB; rw [h]; simp
theorem right_good {p : Pk} (h : ¬ badB p) (h2 : hollowB p.fs = false) : rightB p = decide ((total p.fs : Int) ≤ 4000 - p.off) := by
  unfold badB at h
  simp only [not_or] at h
  obtain ⟨a1, a2, a3, a4, a5, a6, a7⟩ := h
  unfold rightB
  rw [h2, decide_eq_false a1, decide_eq_false a2, decide_eq_false a3, decide_eq_false a4, decide_eq_true (by omega : 0 ≤ p.off), decide_eq_true (by omega : p.off ≤ 4000)]
  have : (p.part || decide (p.off = 0)) = true := by
    cases hp : p.part
    · by_cases h0 : p.off = 0
      · simp [h0]
      · exact absurd ⟨hp, h0⟩ a7
    · rfl
  rw [this]; simp
theorem eRight (p : Pk) (σ : AHeap) (hl : p.fs.length ≤ 1000) (ht : total p.fs ≤ 1000000) : ACalls Try.prog i_bowlineref24_right [amV p] σ fun v σ' => v = boolv (rightB p) ∧ σ' = σ := by
  refine k_bowlineref24_right rfl ?_
  have H := Hp.nil σ
  (refine wX ?_)
  refine hnew H rfl ?_
  clear H
  intro i1 τ H
  (refine wX ?_)
  (repeat ((first | refine zI (by omega) ?_ | refine zE (by omega) (by omega) ?_ | refine zD (by omega) (by omega) ?_ | refine zY (by omega) ?_ | refine zN (by omega) ?_ | refine amin ?_ | refine amax ?_ | refine zU (by omega) ?_ | refine z8 (by omega) ?_ | refine zX (by omega) (by omega) ?_ | refine zR rfl ?_ | refine acellA ?_ | (apply zL H; (· repeat first | exact .h | apply AtK.t); (· rfl)) | (apply zA H; (· repeat first | exact .h | apply AtK.t)) | (apply zS H; (· repeat first | exact .h | apply AtK.t); (· rfl); (conv => whnf); clear H; intro τ H) | rw [List.length_map]); (refine wX ?_)))
  by_cases c1 : p.fs.length < 1
  · (repeat ((first | refine zI (by omega) ?_ | refine zE (by omega) (by omega) ?_ | refine zD (by omega) (by omega) ?_ | refine zY (by omega) ?_ | refine zN (by omega) ?_ | refine amin ?_ | refine amax ?_ | refine zU (by omega) ?_ | refine z8 (by omega) ?_ | refine zX (by omega) (by omega) ?_ | refine zR rfl ?_ | refine acellA ?_ | (apply zL H; (· repeat first | exact .h | apply AtK.t); (· rfl)) | (apply zA H; (· repeat first | exact .h | apply AtK.t)) | (apply zS H; (· repeat first | exact .h | apply AtK.t); (· rfl); (conv => whnf); clear H; intro τ H) | rw [List.length_map]); (refine wX ?_)))
    exact aret (VLe.refl _) H.sub ⟨by rw [right_bad (.inl c1)], rfl⟩
  (repeat ((first | refine zI (by omega) ?_ | refine zE (by omega) (by omega) ?_ | refine zD (by omega) (by omega) ?_ | refine zY (by omega) ?_ | refine zN (by omega) ?_ | refine amin ?_ | refine amax ?_ | refine zU (by omega) ?_ | refine z8 (by omega) ?_ | refine zX (by omega) (by omega) ?_ | refine zR rfl ?_ | refine acellA ?_ | (apply zL H; (· repeat first | exact .h | apply AtK.t); (· rfl)) | (apply zA H; (· repeat first | exact .h | apply AtK.t)) | (apply zS H; (· repeat first | exact .h | apply AtK.t); (· rfl); (conv => whnf); clear H; intro τ H) | rw [List.length_map]); (refine wX ?_)))
  by_cases c2 : p.fs.length > 24
  · (repeat ((first | refine zI (by omega) ?_ | refine zE (by omega) (by omega) ?_ | refine zD (by omega) (by omega) ?_ | refine zY (by omega) ?_ | refine zN (by omega) ?_ | refine amin ?_ | refine amax ?_ | refine zU (by omega) ?_ | refine z8 (by omega) ?_ | refine zX (by omega) (by omega) ?_ | refine zR rfl ?_ | refine acellA ?_ | (apply zL H; (· repeat first | exact .h | apply AtK.t); (· rfl)) | (apply zA H; (· repeat first | exact .h | apply AtK.t)) | (apply zS H; (· repeat first | exact .h | apply AtK.t); (· rfl); (conv => whnf); clear H; intro τ H) | rw [List.length_map]); (refine wX ?_)))
    exact aret (VLe.refl _) H.sub ⟨by rw [right_bad (.inr (.inl c2))], rfl⟩
  (repeat ((first | refine zI (by omega) ?_ | refine zE (by omega) (by omega) ?_ | refine zD (by omega) (by omega) ?_ | refine zY (by omega) ?_ | refine zN (by omega) ?_ | refine amin ?_ | refine amax ?_ | refine zU (by omega) ?_ | refine z8 (by omega) ?_ | refine zX (by omega) (by omega) ?_ | refine zR rfl ?_ | refine acellA ?_ | (apply zL H; (· repeat first | exact .h | apply AtK.t); (· rfl)) | (apply zA H; (· repeat first | exact .h | apply AtK.t)) | (apply zS H; (· repeat first | exact .h | apply AtK.t); (· rfl); (conv => whnf); clear H; intro τ H) | rw [List.length_map]); (refine wX ?_)))
  by_cases c3 : p.fi < 0
  · (repeat ((first | refine zI (by omega) ?_ | refine zE (by omega) (by omega) ?_ | refine zD (by omega) (by omega) ?_ | refine zY (by omega) ?_ | refine zN (by omega) ?_ | refine amin ?_ | refine amax ?_ | refine zU (by omega) ?_ | refine z8 (by omega) ?_ | refine zX (by omega) (by omega) ?_ | refine zR rfl ?_ | refine acellA ?_ | (apply zL H; (· repeat first | exact .h | apply AtK.t); (· rfl)) | (apply zA H; (· repeat first | exact .h | apply AtK.t)) | (apply zS H; (· repeat first | exact .h | apply AtK.t); (· rfl); (conv => whnf); clear H; intro τ H) | rw [List.length_map]); (refine wX ?_)))
    exact aret (VLe.refl _) H.sub ⟨by rw [right_bad (.inr (.inr (.inl c3)))], rfl⟩
  (repeat ((first | refine zI (by omega) ?_ | refine zE (by omega) (by omega) ?_ | refine zD (by omega) (by omega) ?_ | refine zY (by omega) ?_ | refine zN (by omega) ?_ | refine amin ?_ | refine amax ?_ | refine zU (by omega) ?_ | refine z8 (by omega) ?_ | refine zX (by omega) (by omega) ?_ | refine zR rfl ?_ | refine acellA ?_ | (apply zL H; (· repeat first | exact .h | apply AtK.t); (· rfl)) | (apply zA H; (· repeat first | exact .h | apply AtK.t)) | (apply zS H; (· repeat first | exact .h | apply AtK.t); (· rfl); (conv => whnf); clear H; intro τ H) | rw [List.length_map]); (refine wX ?_)))
  by_cases c4 : p.fi > 3
  · (repeat ((first | refine zI (by omega) ?_ | refine zE (by omega) (by omega) ?_ | refine zD (by omega) (by omega) ?_ | refine zY (by omega) ?_ | refine zN (by omega) ?_ | refine amin ?_ | refine amax ?_ | refine zU (by omega) ?_ | refine z8 (by omega) ?_ | refine zX (by omega) (by omega) ?_ | refine zR rfl ?_ | refine acellA ?_ | (apply zL H; (· repeat first | exact .h | apply AtK.t); (· rfl)) | (apply zA H; (· repeat first | exact .h | apply AtK.t)) | (apply zS H; (· repeat first | exact .h | apply AtK.t); (· rfl); (conv => whnf); clear H; intro τ H) | rw [List.length_map]); (refine wX ?_)))
    exact aret (VLe.refl _) H.sub ⟨by rw [right_bad (.inr (.inr (.inr (.inl c4))))], rfl⟩
  (repeat ((first | refine zI (by omega) ?_ | refine zE (by omega) (by omega) ?_ | refine zD (by omega) (by omega) ?_ | refine zY (by omega) ?_ | refine zN (by omega) ?_ | refine amin ?_ | refine amax ?_ | refine zU (by omega) ?_ | refine z8 (by omega) ?_ | refine zX (by omega) (by omega) ?_ | refine zR rfl ?_ | refine acellA ?_ | (apply zL H; (· repeat first | exact .h | apply AtK.t); (· rfl)) | (apply zA H; (· repeat first | exact .h | apply AtK.t)) | (apply zS H; (· repeat first | exact .h | apply AtK.t); (· rfl); (conv => whnf); clear H; intro τ H) | rw [List.length_map]); (refine wX ?_)))
  by_cases c5 : p.off < 0
  · (repeat ((first | refine zI (by omega) ?_ | refine zE (by omega) (by omega) ?_ | refine zD (by omega) (by omega) ?_ | refine zY (by omega) ?_ | refine zN (by omega) ?_ | refine amin ?_ | refine amax ?_ | refine zU (by omega) ?_ | refine z8 (by omega) ?_ | refine zX (by omega) (by omega) ?_ | refine zR rfl ?_ | refine acellA ?_ | (apply zL H; (· repeat first | exact .h | apply AtK.t); (· rfl)) | (apply zA H; (· repeat first | exact .h | apply AtK.t)) | (apply zS H; (· repeat first | exact .h | apply AtK.t); (· rfl); (conv => whnf); clear H; intro τ H) | rw [List.length_map]); (refine wX ?_)))
    exact aret (VLe.refl _) H.sub ⟨by rw [right_bad (.inr (.inr (.inr (.inr (.inl c5)))))], rfl⟩
  (repeat ((first | refine zI (by omega) ?_ | refine zE (by omega) (by omega) ?_ | refine zD (by omega) (by omega) ?_ | refine zY (by omega) ?_ | refine zN (by omega) ?_ | refine amin ?_ | refine amax ?_ | refine zU (by omega) ?_ | refine z8 (by omega) ?_ | refine zX (by omega) (by omega) ?_ | refine zR rfl ?_ | refine acellA ?_ | (apply zL H; (· repeat first | exact .h | apply AtK.t); (· rfl)) | (apply zA H; (· repeat first | exact .h | apply AtK.t)) | (apply zS H; (· repeat first | exact .h | apply AtK.t); (· rfl); (conv => whnf); clear H; intro τ H) | rw [List.length_map]); (refine wX ?_)))
  by_cases c6 : p.off > 4000
  · (repeat ((first | refine zI (by omega) ?_ | refine zE (by omega) (by omega) ?_ | refine zD (by omega) (by omega) ?_ | refine zY (by omega) ?_ | refine zN (by omega) ?_ | refine amin ?_ | refine amax ?_ | refine zU (by omega) ?_ | refine z8 (by omega) ?_ | refine zX (by omega) (by omega) ?_ | refine zR rfl ?_ | refine acellA ?_ | (apply zL H; (· repeat first | exact .h | apply AtK.t); (· rfl)) | (apply zA H; (· repeat first | exact .h | apply AtK.t)) | (apply zS H; (· repeat first | exact .h | apply AtK.t); (· rfl); (conv => whnf); clear H; intro τ H) | rw [List.length_map]); (refine wX ?_)))
    exact aret (VLe.refl _) H.sub ⟨by rw [right_bad (.inr (.inr (.inr (.inr (.inr (.inl c6))))))], rfl⟩
  (repeat ((first | refine zI (by omega) ?_ | refine zE (by omega) (by omega) ?_ | refine zD (by omega) (by omega) ?_ | refine zY (by omega) ?_ | refine zN (by omega) ?_ | refine amin ?_ | refine amax ?_ | refine zU (by omega) ?_ | refine z8 (by omega) ?_ | refine zX (by omega) (by omega) ?_ | refine zR rfl ?_ | refine acellA ?_ | (apply zL H; (· repeat first | exact .h | apply AtK.t); (· rfl)) | (apply zA H; (· repeat first | exact .h | apply AtK.t)) | (apply zS H; (· repeat first | exact .h | apply AtK.t); (· rfl); (conv => whnf); clear H; intro τ H) | rw [List.length_map]); (refine wX ?_)))
  apply via_loop (fun b Q => ¬ badB p → setsK (Env.full 9) [(s1, .ptr i1 0), (s3, i64v 0)] fun e => ALoop Try.prog c65 b e τ Q)
  case f =>
    intro hK
    rcases (show p.part = false ∨ p.part = true by cases p.part <;> simp) with hp | hp
    · rw [hp]
      (refine wX ?_)
      (repeat ((first | refine zI (by omega) ?_ | refine zE (by omega) (by omega) ?_ | refine zD (by omega) (by omega) ?_ | refine zY (by omega) ?_ | refine zN (by omega) ?_ | refine amin ?_ | refine amax ?_ | refine zU (by omega) ?_ | refine z8 (by omega) ?_ | refine zX (by omega) (by omega) ?_ | refine zR rfl ?_ | refine acellA ?_ | (apply zL H; (· repeat first | exact .h | apply AtK.t); (· rfl)) | (apply zA H; (· repeat first | exact .h | apply AtK.t)) | (apply zS H; (· repeat first | exact .h | apply AtK.t); (· rfl); (conv => whnf); clear H; intro τ H) | rw [List.length_map]); (refine wX ?_)))
      by_cases c7 : p.off = 0
      case neg =>
        (repeat ((first | refine zI (by omega) ?_ | refine zE (by omega) (by omega) ?_ | refine zD (by omega) (by omega) ?_ | refine zY (by omega) ?_ | refine zN (by omega) ?_ | refine amin ?_ | refine amax ?_ | refine zU (by omega) ?_ | refine z8 (by omega) ?_ | refine zX (by omega) (by omega) ?_ | refine zR rfl ?_ | refine acellA ?_ | (apply zL H; (· repeat first | exact .h | apply AtK.t); (· rfl)) | (apply zA H; (· repeat first | exact .h | apply AtK.t)) | (apply zS H; (· repeat first | exact .h | apply AtK.t); (· rfl); (conv => whnf); clear H; intro τ H) | rw [List.length_map]); (refine wX ?_)))
        exact aret (VLe.refl _) H.sub ⟨by rw [right_bad (.inr (.inr (.inr (.inr (.inr (.inr ⟨hp, c7⟩))))))], rfl⟩
      (repeat ((first | refine zI (by omega) ?_ | refine zE (by omega) (by omega) ?_ | refine zD (by omega) (by omega) ?_ | refine zY (by omega) ?_ | refine zN (by omega) ?_ | refine amin ?_ | refine amax ?_ | refine zU (by omega) ?_ | refine z8 (by omega) ?_ | refine zX (by omega) (by omega) ?_ | refine zR rfl ?_ | refine acellA ?_ | (apply zL H; (· repeat first | exact .h | apply AtK.t); (· rfl)) | (apply zA H; (· repeat first | exact .h | apply AtK.t)) | (apply zS H; (· repeat first | exact .h | apply AtK.t); (· rfl); (conv => whnf); clear H; intro τ H) | rw [List.length_map]); (refine wX ?_)))
      refine aloop_from ?_ (hK () (by unfold badB; rintro (h | h | h | h | h | h | h) <;> first | contradiction | exact h.2 c7))
      (repeat' first | with_reducible exact EnvLe.refl _ | (refine EnvLe.node ?_ (by first | exact Or.inl rfl | exact Or.inr (Or.inl rfl) | exact Or.inr (Or.inr ⟨nofun, VLe.slice _ _ _⟩)) ?_))
    · rw [hp]
      (refine wX ?_)
      (repeat ((first | refine zI (by omega) ?_ | refine zE (by omega) (by omega) ?_ | refine zD (by omega) (by omega) ?_ | refine zY (by omega) ?_ | refine zN (by omega) ?_ | refine amin ?_ | refine amax ?_ | refine zU (by omega) ?_ | refine z8 (by omega) ?_ | refine zX (by omega) (by omega) ?_ | refine zR rfl ?_ | refine acellA ?_ | (apply zL H; (· repeat first | exact .h | apply AtK.t); (· rfl)) | (apply zA H; (· repeat first | exact .h | apply AtK.t)) | (apply zS H; (· repeat first | exact .h | apply AtK.t); (· rfl); (conv => whnf); clear H; intro τ H) | rw [List.length_map]); (refine wX ?_)))
      refine aloop_from ?_ (hK () (by unfold badB; rintro (h | h | h | h | h | h | h) <;> first | contradiction | (rw [hp] at h; cases h.1)))
      (repeat' first | with_reducible exact EnvLe.refl _ | (refine EnvLe.node ?_ (by first | exact Or.inl rfl | exact Or.inr (Or.inl rfl) | exact Or.inr (Or.inr ⟨nofun, VLe.slice _ _ _⟩)) ?_))
  intro hb
  (conv => whnf)
  refine aloop (α := Nat) (fun i => [(s3, i64v i)]) (fun _ => τ) (fun i => i ≤ p.fs.length ∧ hollowB (p.fs.take i) = false) (fun i => p.fs.length - i) 0 ⟨Nat.zero_le _, rfl⟩ (Sub.refl _) ?_ ?_
  · (refine wX ?_)
    (repeat' first | with_reducible exact EnvLe.refl _ | (refine EnvLe.node ?_ (by first | exact Or.inl rfl | exact Or.inr (Or.inl rfl) | exact Or.inr (Or.inr ⟨nofun, VLe.slice _ _ _⟩)) ?_))
  rintro i ⟨hi, hw⟩
  (refine wX ?_)
  (repeat ((first | refine zI (by omega) ?_ | refine zE (by omega) (by omega) ?_ | refine zD (by omega) (by omega) ?_ | refine zY (by omega) ?_ | refine zN (by omega) ?_ | refine amin ?_ | refine amax ?_ | refine zU (by omega) ?_ | refine z8 (by omega) ?_ | refine zX (by omega) (by omega) ?_ | refine zR rfl ?_ | refine acellA ?_ | (apply zL H; (· repeat first | exact .h | apply AtK.t); (· rfl)) | (apply zA H; (· repeat first | exact .h | apply AtK.t)) | (apply zS H; (· repeat first | exact .h | apply AtK.t); (· rfl); (conv => whnf); clear H; intro τ H) | rw [List.length_map]); (refine wX ?_)))
  by_cases h : i < p.fs.length
  · have e : hollowB (p.fs.take (i + 1)) = decide (p.fs[i] = []) := by unfold hollowB at hw ⊢; rw [List.take_add_one, List.getElem?_eq_getElem h, List.any_append, hw]; simp
    (repeat ((first | refine zI (by omega) ?_ | refine zE (by omega) (by omega) ?_ | refine zD (by omega) (by omega) ?_ | refine zY (by omega) ?_ | refine zN (by omega) ?_ | refine amin ?_ | refine amax ?_ | refine zU (by omega) ?_ | refine z8 (by omega) ?_ | refine zX (by omega) (by omega) ?_ | refine zR rfl ?_ | refine acellA ?_ | (apply zL H; (· repeat first | exact .h | apply AtK.t); (· rfl)) | (apply zA H; (· repeat first | exact .h | apply AtK.t)) | (apply zS H; (· repeat first | exact .h | apply AtK.t); (· rfl); (conv => whnf); clear H; intro τ H) | rw [List.length_map]); (refine wX ?_)))
    refine aget (by omega) (get_lists h) ?_
    (refine wX ?_)
    (repeat ((first | refine zI (by omega) ?_ | refine zE (by omega) (by omega) ?_ | refine zD (by omega) (by omega) ?_ | refine zY (by omega) ?_ | refine zN (by omega) ?_ | refine amin ?_ | refine amax ?_ | refine zU (by omega) ?_ | refine z8 (by omega) ?_ | refine zX (by omega) (by omega) ?_ | refine zR rfl ?_ | refine acellA ?_ | (apply zL H; (· repeat first | exact .h | apply AtK.t); (· rfl)) | (apply zA H; (· repeat first | exact .h | apply AtK.t)) | (apply zS H; (· repeat first | exact .h | apply AtK.t); (· rfl); (conv => whnf); clear H; intro τ H) | rw [List.length_map]); (refine wX ?_)))
    by_cases hc : p.fs[i] = []
    · have hc2 : p.fs[i].length = 0 := by rw [hc]; rfl
      (repeat ((first | refine zI (by omega) ?_ | refine zE (by omega) (by omega) ?_ | refine zD (by omega) (by omega) ?_ | refine zY (by omega) ?_ | refine zN (by omega) ?_ | refine amin ?_ | refine amax ?_ | refine zU (by omega) ?_ | refine z8 (by omega) ?_ | refine zX (by omega) (by omega) ?_ | refine zR rfl ?_ | refine acellA ?_ | (apply zL H; (· repeat first | exact .h | apply AtK.t); (· rfl)) | (apply zA H; (· repeat first | exact .h | apply AtK.t)) | (apply zS H; (· repeat first | exact .h | apply AtK.t); (· rfl); (conv => whnf); clear H; intro τ H) | rw [List.length_map]); (refine wX ?_)))
      exact aret (VLe.refl _) H.sub ⟨by rw [right_hollow (List.any_eq_true.2 ⟨p.fs[i], List.getElem_mem h, decide_eq_true hc⟩)], rfl⟩
    · have hc2 : p.fs[i].length ≠ 0 := by simpa using hc
      (repeat ((first | refine zI (by omega) ?_ | refine zE (by omega) (by omega) ?_ | refine zD (by omega) (by omega) ?_ | refine zY (by omega) ?_ | refine zN (by omega) ?_ | refine amin ?_ | refine amax ?_ | refine zU (by omega) ?_ | refine z8 (by omega) ?_ | refine zX (by omega) (by omega) ?_ | refine zR rfl ?_ | refine acellA ?_ | (apply zL H; (· repeat first | exact .h | apply AtK.t); (· rfl)) | (apply zA H; (· repeat first | exact .h | apply AtK.t)) | (apply zS H; (· repeat first | exact .h | apply AtK.t); (· rfl); (conv => whnf); clear H; intro τ H) | rw [List.length_map]); (refine wX ?_)))
      refine ⟨i + 1, ⟨h, by rw [e, decide_eq_false hc]⟩, by omega, Sub.refl _, ?_⟩
      (refine wX ?_)
      (repeat' first | with_reducible exact EnvLe.refl _ | (refine EnvLe.node ?_ (by first | exact Or.inl rfl | exact Or.inr (Or.inl rfl) | exact Or.inr (Or.inr ⟨nofun, VLe.slice _ _ _⟩)) ?_))
  · rw [List.take_of_length_le (by omega)] at hw
    rw [right_good hb hw]
    (repeat ((first | refine zI (by omega) ?_ | refine zE (by omega) (by omega) ?_ | refine zD (by omega) (by omega) ?_ | refine zY (by omega) ?_ | refine zN (by omega) ?_ | refine amin ?_ | refine amax ?_ | refine zU (by omega) ?_ | refine z8 (by omega) ?_ | refine zX (by omega) (by omega) ?_ | refine zR rfl ?_ | refine acellA ?_ | (apply zL H; (· repeat first | exact .h | apply AtK.t); (· rfl)) | (apply zA H; (· repeat first | exact .h | apply AtK.t)) | (apply zS H; (· repeat first | exact .h | apply AtK.t); (· rfl); (conv => whnf); clear H; intro τ H) | rw [List.length_map]); (refine wX ?_)))
    refine acall (rData10 p τ (by omega) ht) ?_
    rintro _ σ_ ⟨rfl, e_⟩
    obtain rfl := e_.symm
    refine ⟨?_, Ext.refl _⟩
    (refine wX ?_)
    rw [List.length_map, show p.fs.flatten.length = total p.fs from rfl]
    (repeat ((first | refine zI (by omega) ?_ | refine zE (by omega) (by omega) ?_ | refine zD (by omega) (by omega) ?_ | refine zY (by omega) ?_ | refine zN (by omega) ?_ | refine amin ?_ | refine amax ?_ | refine zU (by omega) ?_ | refine z8 (by omega) ?_ | refine zX (by omega) (by omega) ?_ | refine zR rfl ?_ | refine acellA ?_ | (apply zL H; (· repeat first | exact .h | apply AtK.t); (· rfl)) | (apply zA H; (· repeat first | exact .h | apply AtK.t)) | (apply zS H; (· repeat first | exact .h | apply AtK.t); (· rfl); (conv => whnf); clear H; intro τ H) | rw [List.length_map]); (refine wX ?_)))
    exact aret (VLe.refl _) H.sub ⟨congrArg boolv (dec_congr (by omega)), rfl⟩
end Go.Proofs.Ytgobbmdbkmjlnaa
