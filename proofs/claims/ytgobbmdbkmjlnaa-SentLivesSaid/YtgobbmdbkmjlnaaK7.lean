/-
  Texts of this claim, pack 7: Crow, Cref03, Cref03b, Clawspa, Clawspb, Clawspc, Clawspd, Cref03c, Crel03, Csamef, Crefsz.
-/
import Derived.Test.YtgobbmdbkmjlnaaK3
import Derived.Test.YtgobbmdbkmjlnaaK5
import Derived.Test.YtgobbmdbkmjlnaaK6
/-
  Rows that are stored into: of truths; of spans.
-/
namespace Go.Proofs.Ytgobbmdbkmjlnaa
set_option linter.unusedVariables false
set_option linter.unusedSimpArgs false
open Go Go.Am

def bitT (l : List Bool) (i : Nat) : Bool := (l[i]?).getD false
theorem bitT_get {l : List Bool} {i : Nat} (h : i < l.length) : bitT l i = l[i] := by unfold bitT; rw [List.getElem?_eq_getElem h]; rfl
theorem bitT_no {l : List Bool} {i : Nat} (h : l.length ≤ i) : bitT l i = false := by unfold bitT; rw [List.getElem?_eq_none h]; rfl
theorem bitT_set {l : List Bool} {p i : Nat} {b : Bool} (h : p < l.length) : bitT (l.set p b) i = if i = p then b else bitT l i := by
  unfold bitT
  rw [List.getElem?_set]
  by_cases e : p = i
  · subst e; rw [if_pos rfl, if_pos h, if_pos rfl]; rfl
  · rw [if_neg e, if_neg (fun h => e h.symm)]
theorem bitT_snoc {l : List Bool} {i : Nat} : bitT (l ++ [false]) i = bitT l i := by
  unfold bitT
  by_cases h : i < l.length
  · rw [List.getElem?_append_left h]
  · rw [List.getElem?_append_right (by omega), List.getElem?_eq_none (l := l) (by omega)]
    cases i - l.length <;> rfl
/-- A row of truths that is stored into, or none yet. -/
inductive RT2 : AVal → List Bool → List HE → Prop
  | nil : RT2 (.slice 1 [] .full) [] []
  | row (r : Nat) (xs : List Bool) : xs ≠ [] → RT2 (.ms r 1 0 xs.length) xs [.o r (.cells (xs.map boolv))]
def TOk (σ : AHeap) (v : AVal) (L : List Bool) : Prop := (v = .slice 1 [] .full ∧ L = []) ∨ ∃ r, v = .ms r 1 0 L.length ∧ σ r = some (.cells (L.map boolv)) ∧ L ≠ []
theorem RT2.dv {σb σ : AHeap} {v : AVal} {L : List Bool} {E F G : List HE} (h : RT2 v L E) (H : Hp σb (F ++ (E ++ G)) σ) : TOk σ v L := by
  cases h with
  | nil => exact .inl ⟨rfl, rfl⟩
  | row r xs hx => exact .inr ⟨r, rfl, H.ok (.o r (.cells (L.map boolv))) (by simp), hx⟩
theorem RT2.isCell {v : AVal} {L : List Bool} {E : List HE} (h : RT2 v L E) : v.isCell = true := by cases h <;> rfl
theorem TOk.isCell {σ : AHeap} {v : AVal} {L : List Bool} (h : TOk σ v L) : v.isCell = true := by
  rcases h with ⟨rfl, _⟩ | ⟨r, rfl, _⟩ <;> rfl
theorem truths_get {L : List Bool} {i : Nat} (h : i < L.length) : (L.map boolv)[0 + ((i : Nat) : Int).toNat * 1]? = some (boolv (bitT L i)) := by
  rw [Int.toNat_natCast, Nat.mul_one, Nat.zero_add, List.getElem?_map, List.getElem?_eq_getElem h, bitT_get h]; rfl
theorem splice_truths {l : List Bool} {p : Nat} {b : Bool} (h : p < l.length) : splice (l.map boolv) p [boolv b] = (l.set p b).map boolv := by
  unfold splice
  rw [List.set_eq_take_append_cons_drop, if_pos h, List.map_append, List.map_cons, List.map_take, List.map_drop, List.append_assoc]; rfl
theorem truth_snoc (xs : List Bool) (b : Bool) : xs.map boolv ++ [boolv b].flatMap AVal.cells = (xs ++ [b]).map boolv := by rw [List.map_append]; rfl
theorem truths_flat (l : List Bool) : (l.map boolv).flatMap AVal.cells = l.map boolv := by
  induction l with
  | nil => rfl
  | cons b l ih => rw [List.map_cons, List.flatMap_cons, ih]; rfl
theorem truths_ok (l : List Bool) : (l.map boolv).all (okElem 1) = true := by
  rw [List.all_eq_true]; intro x hx; obtain ⟨b, _, rfl⟩ := List.mem_map.1 hx; rfl
section
variable {σb : AHeap}
theorem rt_set {xs : List Bool} {r q : Nat} {G : List HE} {τ : AHeap} (H : Hp σb (.o r (.cells (xs.map boolv)) :: G) τ) (h : q < xs.length) (b : Bool) {K : AHeap → Prop} (hK : ∀ τ', Hp σb (.o r (.cells ((xs.set q b).map boolv)) :: G) τ' → K τ') :
    AStore τ r (0 + ((q : Nat) : Int).toNat * 1) [boolv b] K := by
  rw [Int.toNat_natCast, Nat.mul_one, Nat.zero_add]
  exact astore (H.get (k := 0) rfl) (by rw [List.length_map]; exact h) rfl (splice_truths h) (hK _ (H.set (k := 0) rfl _))
/-- A row of truths, one more. -/
theorem rt_app {v : AVal} {xs : List Bool} {E G : List HE} {τ : AHeap} (h : RT2 v xs E) (H : Hp σb (E ++ G) τ) (hl : xs.length ≤ 1000000000) (b : Bool) {K : AVal → AHeap → Prop}
    (hK : ∀ v' E' τ', RT2 v' (xs ++ [b]) E' → Hp σb (E' ++ G) τ' → K v' τ') :
    (∀ s t, v = .slice 1 s t → AAppNew τ 1 1 s t [boolv b] K) ∧ (∀ r ln, v = .ms r 1 0 ln → AAppM τ r 1 0 ln 1 [boolv b] K) := by
  cases h with
  | nil =>
    refine ⟨fun s t e => ?_, fun r ln e => (by cases e)⟩
    cases e
    refine happnew H (by simp) (by simp) rfl fun r τ' H' => hK _ _ τ' (.row r [b] (by simp)) H'
  | row r _ hx =>
    refine ⟨fun s t e => (by cases e), fun r' ln e => ?_⟩
    cases e
    refine happm H (k := 0) rfl (by simp) (by simp only [List.length_singleton]; omega) rfl fun r2 τ' H' => ?_
    rw [truth_snoc] at H'
    have := hK _ _ τ' (.row r2 (xs ++ [b]) (by simp)) H'
    rw [List.length_append] at this
    exact this
end
/-- A row of spans that is stored into, or none yet. -/
abbrev spC (l : List Sp) : List AVal := (l.map spV).flatMap AVal.cells
inductive RS2 : AVal → List Sp → List HE → Prop
  | nil : RS2 (.slice 2 [] .full) [] []
  | row (r : Nat) (l : List Sp) : l ≠ [] → RS2 (.ms r 2 0 l.length) l [.o r (.cells (spC l))]
theorem spC_len (l : List Sp) : (spC l).length = l.length * 2 := by
  induction l with
  | nil => rfl
  | cons x l ih =>
    show (AVal.cells (spV x) ++ spC l).length = _
    rw [List.length_append, ih, List.length_cons]; show 2 + _ = _; omega
theorem spC_append (a b : List Sp) : spC (a ++ b) = spC a ++ spC b := by unfold spC; rw [List.map_append, List.flatMap_append]
theorem spC_get {l : List Sp} {i : Nat} (h : i < l.length) : (spC l)[i * 2]? = some (i64v l[i].1) ∧ (spC l)[i * 2 + 1]? = some (i64v l[i].2) := by
  induction l generalizing i with
  | nil => simp at h
  | cons x l ih =>
    have e : spC (x :: l) = i64v x.1 :: i64v x.2 :: spC l := rfl
    rw [e]
    cases i with
    | zero => exact ⟨rfl, rfl⟩
    | succ i =>
      have := ih (i := i) (by simpa using h)
      rw [show (i + 1) * 2 = i * 2 + 2 by omega]
      simpa using this
theorem spC_last (r : List Sp) (z : Sp) (n : Int) : splice (spC (r ++ [z])) (r.length * 2 + 1) [i64v n] = spC (r ++ [(z.1, n)]) := by
  rw [spC_append, spC_append, ← spC_len r]
  unfold splice
  have e1 : (spC r ++ spC [z]).take ((spC r).length + 1) = spC r ++ [i64v z.1] := by
    rw [List.take_append, List.take_of_length_le (by omega), Nat.add_sub_cancel_left]; rfl
  have e2 : (spC r ++ spC [z]).drop ((spC r).length + 1 + [i64v n].length) = [] := by
    refine List.drop_eq_nil_of_le ?_
    rw [List.length_append]; exact Nat.le_refl _
  rw [e1, e2, List.append_nil, List.append_assoc]; rfl
end Go.Proofs.Ytgobbmdbkmjlnaa
/-
  The document's sets of places: what their functions tell.
-/
namespace Go.Proofs.Ytgobbmdbkmjlnaa
set_option linter.unusedVariables false
set_option linter.unusedSimpArgs false
open Go Go.Am

theorem cnt_ext {g : Nat → Bool} {m : Nat} : ∀ d : Nat, (∀ j, m ≤ j → j < m + d → g j = false) → (List.range (m + d)).countP g = (List.range m).countP g
  | 0, _ => rfl
  | d + 1, h => by
    rw [show m + (d + 1) = (m + d) + 1 by omega, List.range_succ, List.countP_append, cnt_ext d fun j a b => h j a (by omega), List.countP_cons, h (m + d) (by omega) (by omega)]; rfl
theorem cnt_same {g : Nat → Bool} {m n : Nat} (h : ∀ j, min m n ≤ j → j < max m n → g j = false) : (List.range m).countP g = (List.range n).countP g := by
  rcases Nat.le_total m n with q | q
  · have := cnt_ext (g := g) (m := m) (n - m) fun j a b => h j (by omega) (by omega)
    rw [show m + (n - m) = n by omega] at this; exact this.symm
  · have := cnt_ext (g := g) (m := n) (m - n) fun j a b => h j (by omega) (by omega)
    rw [show n + (m - n) = m by omega] at this; exact this
theorem rRight03 (x : Sp) (σ : AHeap) : ACalls Try.prog i_bowlineref03_Right [spV x] σ fun v σ' => v = boolv (spRight x) ∧ σ' = σ := by
  obtain ⟨a, b⟩ := x
  refine k_bowlineref03_Right rfl ?_
  have H := Hp.nil σ
  (refine wX ?_)
  refine hnew H rfl ?_
  clear H
  intro i τ H
  (refine wX ?_)
  (repeat ((first | refine zI (by omega) ?_ | refine zE (by omega) (by omega) ?_ | refine zD (by omega) (by omega) ?_ | refine zY (by omega) ?_ | refine zN (by omega) ?_ | refine amin ?_ | refine amax ?_ | refine zU (by omega) ?_ | refine z8 (by omega) ?_ | refine zX (by omega) (by omega) ?_ | refine zR rfl ?_ | refine acellA ?_ | (apply zL H; (· repeat first | exact .h | apply AtK.t); (· rfl)) | (apply zA H; (· repeat first | exact .h | apply AtK.t)) | (apply zS H; (· repeat first | exact .h | apply AtK.t); (· rfl); (conv => whnf); clear H; intro τ H) | rw [List.length_map]); (refine wX ?_)))
  by_cases h1 : 0 ≤ a
  · by_cases h2 : a < b
    · (repeat ((first | refine zI (by omega) ?_ | refine zE (by omega) (by omega) ?_ | refine zD (by omega) (by omega) ?_ | refine zY (by omega) ?_ | refine zN (by omega) ?_ | refine amin ?_ | refine amax ?_ | refine zU (by omega) ?_ | refine z8 (by omega) ?_ | refine zX (by omega) (by omega) ?_ | refine zR rfl ?_ | refine acellA ?_ | (apply zL H; (· repeat first | exact .h | apply AtK.t); (· rfl)) | (apply zA H; (· repeat first | exact .h | apply AtK.t)) | (apply zS H; (· repeat first | exact .h | apply AtK.t); (· rfl); (conv => whnf); clear H; intro τ H) | rw [List.length_map]); (refine wX ?_)))
      exact aret (VLe.refl _) H.sub ⟨congrArg boolv (dec_congr (by dsimp only; omega)), rfl⟩
    · (repeat ((first | refine zI (by omega) ?_ | refine zE (by omega) (by omega) ?_ | refine zD (by omega) (by omega) ?_ | refine zY (by omega) ?_ | refine zN (by omega) ?_ | refine amin ?_ | refine amax ?_ | refine zU (by omega) ?_ | refine z8 (by omega) ?_ | refine zX (by omega) (by omega) ?_ | refine zR rfl ?_ | refine acellA ?_ | (apply zL H; (· repeat first | exact .h | apply AtK.t); (· rfl)) | (apply zA H; (· repeat first | exact .h | apply AtK.t)) | (apply zS H; (· repeat first | exact .h | apply AtK.t); (· rfl); (conv => whnf); clear H; intro τ H) | rw [List.length_map]); (refine wX ?_)))
      exact aret (VLe.refl _) H.sub ⟨congrArg boolv (decide_eq_false (by dsimp only; omega)).symm, rfl⟩
  · (repeat ((first | refine zI (by omega) ?_ | refine zE (by omega) (by omega) ?_ | refine zD (by omega) (by omega) ?_ | refine zY (by omega) ?_ | refine zN (by omega) ?_ | refine amin ?_ | refine amax ?_ | refine zU (by omega) ?_ | refine z8 (by omega) ?_ | refine zX (by omega) (by omega) ?_ | refine zR rfl ?_ | refine acellA ?_ | (apply zL H; (· repeat first | exact .h | apply AtK.t); (· rfl)) | (apply zA H; (· repeat first | exact .h | apply AtK.t)) | (apply zS H; (· repeat first | exact .h | apply AtK.t); (· rfl); (conv => whnf); clear H; intro τ H) | rw [List.length_map]); (refine wX ?_)))
    exact aret (VLe.refl _) H.sub ⟨congrArg boolv (decide_eq_false (by dsimp only; omega)).symm, rfl⟩
def cntG (L : List Bool) (a : Int) (j : Nat) : Bool := decide (a ≤ (j : Int)) && bitT L j
def cntT (L : List Bool) (x : Sp) : Nat := (List.range x.2.toNat).countP (cntG L x.1)
section
variable {σ : AHeap} {v : AVal} {L : List Bool}
set_option maxRecDepth 20000 in
theorem rCount03 (hd : TOk σ v L) (x : Sp) (hL : L.length ≤ 100000) (h0 : 0 ≤ x.1) (h1 : x.1 ≤ 100000) (h2 : x.2 ≤ 100000) : ACalls Try.prog i_bowlineref03_Set_Count [.agg [v], spV x] σ fun w σ' => w = i64v (cntT L x) ∧ σ' = σ := by
  obtain ⟨a, b⟩ := x
  dsimp only at h0 h1 h2
  obtain ⟨a, rfl⟩ := Int.eq_ofNat_of_zero_le h0
  have hvc := hd.isCell
  refine k_bowlineref03_Set_Count rfl ?_
  have H := Hp.nil σ
  (refine wX ?_)
  refine hnew H (by simp [AVal.cells, hvc]) ?_
  clear H
  intro is τ H
  replace H : Hp σ [.o is (.cells [v])] τ := H
  (refine wX ?_)
  refine hnew H rfl ?_
  clear H
  intro ix τ H
  (refine wX ?_)
  (repeat ((first | refine zI (by omega) ?_ | refine zE (by omega) (by omega) ?_ | refine zD (by omega) (by omega) ?_ | refine zY (by omega) ?_ | refine zN (by omega) ?_ | refine amin ?_ | refine amax ?_ | refine zU (by omega) ?_ | refine z8 (by omega) ?_ | refine zX (by omega) (by omega) ?_ | refine zR rfl ?_ | refine acellA ?_ | refine zB H b1 rfl ?_ | refine zC H b1 ?_ | (apply zL H; (· repeat first | exact .h | apply AtK.t); (· rfl)) | (apply zA H; (· repeat first | exact .h | apply AtK.t)) | (apply zS H; (· repeat first | exact .h | apply AtK.t); (· rfl); (conv => whnf); clear H; intro τ H) | rw [List.length_map]); (refine wX ?_)))
  replace H : Hp σ [.o ix (.cells [i64v a, i64v b]), .o is (.cells [v])] τ := H
  refine aloop (α := Nat) (fun i => [(s6, i64v i), (s5, i64v (((List.range i).countP (cntG L a) : Nat) : Int))]) (fun _ => τ) (fun i => a ≤ i ∧ i ≤ 100000 ∧ (i = a ∨ (i : Int) ≤ b)) (fun i => 100000 - i) a ⟨Nat.le_refl _, by omega, .inl rfl⟩ (Sub.refl _) ?_ ?_
  · rw [show (List.range a).countP (cntG L a) = 0 from (cnt_same (n := 0) fun j q1 q2 => by unfold cntG; rw [decide_eq_false (by omega)]; rfl).trans rfl]
    (refine wX ?_)
    (repeat' first | with_reducible exact EnvLe.refl _ | (refine EnvLe.node ?_ (by first | exact Or.inl rfl | exact Or.inr (Or.inl rfl) | exact Or.inr (Or.inr ⟨nofun, VLe.slice _ _ _⟩)) ?_))
  rintro i ⟨hi, hi2, hi3⟩
  have hcl := List.countP_le_length (p := cntG L a) (l := List.range i)
  rw [List.length_range] at hcl
  have hcs : (List.range (i + 1)).countP (cntG L a) = (List.range i).countP (cntG L a) + if bitT L i = true then 1 else 0 := by
    rw [List.range_succ, List.countP_append, List.countP_cons, List.countP_nil]; unfold cntG; rw [decide_eq_true (show (a : Int) ≤ (i : Int) by omega)]; simp
  have hend : ¬ ((i : Int) < b ∧ i < L.length) → ((List.range i).countP (cntG L a)) = cntT L (a, b) := fun h => by
    unfold cntT
    refine cnt_same fun j q1 q2 => ?_
    unfold cntG
    dsimp only at q1 q2
    by_cases q3 : i < L.length
    · have q5 : b ≤ i := by omega
      rw [decide_eq_false (by omega)]; rfl
    · by_cases q4 : (j : Int) < i
      · rw [decide_eq_false (by omega)]; rfl
      · rw [bitT_no (by omega), Bool.and_false]
  generalize hc : ((List.range i).countP (cntG L a)) = c at *
  (refine wX ?_)
  (repeat ((first | refine zI (by omega) ?_ | refine zE (by omega) (by omega) ?_ | refine zD (by omega) (by omega) ?_ | refine zY (by omega) ?_ | refine zN (by omega) ?_ | refine amin ?_ | refine amax ?_ | refine zU (by omega) ?_ | refine z8 (by omega) ?_ | refine zX (by omega) (by omega) ?_ | refine zR rfl ?_ | refine acellA ?_ | refine zB H b1 rfl ?_ | refine zC H b1 ?_ | (apply zL H; (· repeat first | exact .h | apply AtK.t); (· rfl)) | (apply zA H; (· repeat first | exact .h | apply AtK.t)) | (apply zS H; (· repeat first | exact .h | apply AtK.t); (· rfl); (conv => whnf); clear H; intro τ H) | rw [List.length_map]); (refine wX ?_)))
  by_cases hb : (i : Int) < b
  · rcases hd with ⟨rfl, rfl⟩ | ⟨r, rfl, b1, hne⟩
    · (repeat ((first | refine zI (by omega) ?_ | refine zE (by omega) (by omega) ?_ | refine zD (by omega) (by omega) ?_ | refine zY (by omega) ?_ | refine zN (by omega) ?_ | refine amin ?_ | refine amax ?_ | refine zU (by omega) ?_ | refine z8 (by omega) ?_ | refine zX (by omega) (by omega) ?_ | refine zR rfl ?_ | refine acellA ?_ | refine zB H b1 rfl ?_ | refine zC H b1 ?_ | (apply zL H; (· repeat first | exact .h | apply AtK.t); (· rfl)) | (apply zA H; (· repeat first | exact .h | apply AtK.t)) | (apply zS H; (· repeat first | exact .h | apply AtK.t); (· rfl); (conv => whnf); clear H; intro τ H) | rw [List.length_map]); (refine wX ?_)))
      rw [show (([] : List AVal).length : Int) = 0 from rfl]
      (refine wX ?_)
      (repeat ((first | refine zI (by omega) ?_ | refine zE (by omega) (by omega) ?_ | refine zD (by omega) (by omega) ?_ | refine zY (by omega) ?_ | refine zN (by omega) ?_ | refine amin ?_ | refine amax ?_ | refine zU (by omega) ?_ | refine z8 (by omega) ?_ | refine zX (by omega) (by omega) ?_ | refine zR rfl ?_ | refine acellA ?_ | refine zB H b1 rfl ?_ | refine zC H b1 ?_ | (apply zL H; (· repeat first | exact .h | apply AtK.t); (· rfl)) | (apply zA H; (· repeat first | exact .h | apply AtK.t)) | (apply zS H; (· repeat first | exact .h | apply AtK.t); (· rfl); (conv => whnf); clear H; intro τ H) | rw [List.length_map]); (refine wX ?_)))
      exact aret (VLe.refl _) H.sub ⟨by rw [hend (by simp)], rfl⟩
    · (repeat ((first | refine zI (by omega) ?_ | refine zE (by omega) (by omega) ?_ | refine zD (by omega) (by omega) ?_ | refine zY (by omega) ?_ | refine zN (by omega) ?_ | refine amin ?_ | refine amax ?_ | refine zU (by omega) ?_ | refine z8 (by omega) ?_ | refine zX (by omega) (by omega) ?_ | refine zR rfl ?_ | refine acellA ?_ | refine zB H b1 rfl ?_ | refine zC H b1 ?_ | (apply zL H; (· repeat first | exact .h | apply AtK.t); (· rfl)) | (apply zA H; (· repeat first | exact .h | apply AtK.t)) | (apply zS H; (· repeat first | exact .h | apply AtK.t); (· rfl); (conv => whnf); clear H; intro τ H) | rw [List.length_map]); (refine wX ?_)))
      by_cases h : i < L.length
      · (repeat ((first | refine zI (by omega) ?_ | refine zE (by omega) (by omega) ?_ | refine zD (by omega) (by omega) ?_ | refine zY (by omega) ?_ | refine zN (by omega) ?_ | refine amin ?_ | refine amax ?_ | refine zU (by omega) ?_ | refine z8 (by omega) ?_ | refine zX (by omega) (by omega) ?_ | refine zR rfl ?_ | refine acellA ?_ | refine zB H b1 rfl ?_ | refine zC H b1 ?_ | (apply zL H; (· repeat first | exact .h | apply AtK.t); (· rfl)) | (apply zA H; (· repeat first | exact .h | apply AtK.t)) | (apply zS H; (· repeat first | exact .h | apply AtK.t); (· rfl); (conv => whnf); clear H; intro τ H) | rw [List.length_map]); (refine wX ?_)))
        refine zB H b1 (truths_get h) ?_
        cases hbt : bitT L i
        · rw [hbt] at hcs
          (refine wX ?_)
          (repeat ((first | refine zI (by omega) ?_ | refine zE (by omega) (by omega) ?_ | refine zD (by omega) (by omega) ?_ | refine zY (by omega) ?_ | refine zN (by omega) ?_ | refine amin ?_ | refine amax ?_ | refine zU (by omega) ?_ | refine z8 (by omega) ?_ | refine zX (by omega) (by omega) ?_ | refine zR rfl ?_ | refine acellA ?_ | refine zB H b1 rfl ?_ | refine zC H b1 ?_ | (apply zL H; (· repeat first | exact .h | apply AtK.t); (· rfl)) | (apply zA H; (· repeat first | exact .h | apply AtK.t)) | (apply zS H; (· repeat first | exact .h | apply AtK.t); (· rfl); (conv => whnf); clear H; intro τ H) | rw [List.length_map]); (refine wX ?_)))
          refine ⟨i + 1, ⟨by omega, by omega, .inr (by omega)⟩, by omega, Sub.refl _, ?_⟩
          rw [hcs]
          (refine wX ?_)
          (repeat' first | with_reducible exact EnvLe.refl _ | (refine EnvLe.node ?_ (by first | exact Or.inl rfl | exact Or.inr (Or.inl rfl) | exact Or.inr (Or.inr ⟨nofun, VLe.slice _ _ _⟩)) ?_))
        · rw [hbt] at hcs
          (refine wX ?_)
          (repeat ((first | refine zI (by omega) ?_ | refine zE (by omega) (by omega) ?_ | refine zD (by omega) (by omega) ?_ | refine zY (by omega) ?_ | refine zN (by omega) ?_ | refine amin ?_ | refine amax ?_ | refine zU (by omega) ?_ | refine z8 (by omega) ?_ | refine zX (by omega) (by omega) ?_ | refine zR rfl ?_ | refine acellA ?_ | refine zB H b1 rfl ?_ | refine zC H b1 ?_ | (apply zL H; (· repeat first | exact .h | apply AtK.t); (· rfl)) | (apply zA H; (· repeat first | exact .h | apply AtK.t)) | (apply zS H; (· repeat first | exact .h | apply AtK.t); (· rfl); (conv => whnf); clear H; intro τ H) | rw [List.length_map]); (refine wX ?_)))
          refine ⟨i + 1, ⟨by omega, by omega, .inr (by omega)⟩, by omega, Sub.refl _, ?_⟩
          rw [hcs]
          (refine wX ?_)
          (repeat' first | with_reducible exact EnvLe.refl _ | (refine EnvLe.node ?_ (by first | exact Or.inl rfl | exact Or.inr (Or.inl rfl) | exact Or.inr (Or.inr ⟨nofun, VLe.slice _ _ _⟩)) ?_))
      · (repeat ((first | refine zI (by omega) ?_ | refine zE (by omega) (by omega) ?_ | refine zD (by omega) (by omega) ?_ | refine zY (by omega) ?_ | refine zN (by omega) ?_ | refine amin ?_ | refine amax ?_ | refine zU (by omega) ?_ | refine z8 (by omega) ?_ | refine zX (by omega) (by omega) ?_ | refine zR rfl ?_ | refine acellA ?_ | refine zB H b1 rfl ?_ | refine zC H b1 ?_ | (apply zL H; (· repeat first | exact .h | apply AtK.t); (· rfl)) | (apply zA H; (· repeat first | exact .h | apply AtK.t)) | (apply zS H; (· repeat first | exact .h | apply AtK.t); (· rfl); (conv => whnf); clear H; intro τ H) | rw [List.length_map]); (refine wX ?_)))
        exact aret (VLe.refl _) H.sub ⟨by rw [hend (fun q => h q.2)], rfl⟩
  · (repeat ((first | refine zI (by omega) ?_ | refine zE (by omega) (by omega) ?_ | refine zD (by omega) (by omega) ?_ | refine zY (by omega) ?_ | refine zN (by omega) ?_ | refine amin ?_ | refine amax ?_ | refine zU (by omega) ?_ | refine z8 (by omega) ?_ | refine zX (by omega) (by omega) ?_ | refine zR rfl ?_ | refine acellA ?_ | refine zB H b1 rfl ?_ | refine zC H b1 ?_ | (apply zL H; (· repeat first | exact .h | apply AtK.t); (· rfl)) | (apply zA H; (· repeat first | exact .h | apply AtK.t)) | (apply zS H; (· repeat first | exact .h | apply AtK.t); (· rfl); (conv => whnf); clear H; intro τ H) | rw [List.length_map]); (refine wX ?_)))
    exact aret (VLe.refl _) H.sub ⟨by rw [hend (fun q => hb q.1)], rfl⟩
theorem RS2.row' (r : Nat) (l : List Sp) {n : Nat} (h : l ≠ []) (e : l.length = n) : RS2 (.ms r 2 0 n) l [.o r (.cells (spC l))] := by subst e; exact .row r l h
theorem spC_snoc (R : List Sp) (a b : Int) : spC R ++ [AVal.agg [i64v a, i64v b]].flatMap AVal.cells = spC (R ++ [(a, b)]) := by rw [spC_append]; rfl
def runT (L : List Bool) (is : Bool) (to : Nat) : List Sp := runsL (fun i => bitT L i == is) to
theorem runsL_len (f : Nat → Bool) : ∀ n, (runsL f n).length ≤ n
  | 0 => Nat.le_refl _
  | n + 1 => by
    have := runsL_len f n
    unfold runsL
    split
    · rcases snoc_cases (runsL f n) with h | ⟨r, z, h⟩
      · rw [h]; exact Nat.succ_le_succ (Nat.zero_le _)
      · rw [h] at this ⊢
        rw [addEnd_snoc]
        rw [List.length_append] at this
        split <;> simp at this ⊢ <;> omega
    · omega
set_option maxRecDepth 20000 in
set_option maxHeartbeats 4000000 in
theorem rRuns03 (hd : TOk σ v L) (is : Bool) (to : Nat) (hL : L.length ≤ 100000) (ht : to ≤ 65536) : ACalls Try.prog i_bowlineref03_Set_runs [.agg [v], boolv is, i64v to] σ fun w σ' => ∃ E, RS2 w (runT L is to) E ∧ Hp σ E σ' := by
  have hvc := hd.isCell
  refine km_bowlineref03_Set_runs rfl ?_
  have H := Hp.nil σ
  (refine wX ?_)
  refine hnew H (by simp [AVal.cells, hvc]) ?_
  clear H
  intro ix τ H
  replace H : Hp σ [.o ix (.cells [v])] τ := H
  (refine wX ?_)
  (repeat ((first | refine zI (by omega) ?_ | refine zE (by omega) (by omega) ?_ | refine zD (by omega) (by omega) ?_ | refine zY (by omega) ?_ | refine zN (by omega) ?_ | refine amin ?_ | refine amax ?_ | refine zU (by omega) ?_ | refine z8 (by omega) ?_ | refine zX (by omega) (by omega) ?_ | refine zR rfl ?_ | refine acellA ?_ | refine zB H b1 rfl ?_ | refine zC H b1 ?_ | (apply zL H; (· repeat first | exact .h | apply AtK.t); (· rfl)) | (apply zA H; (· repeat first | exact .h | apply AtK.t)) | (apply zS H; (· repeat first | exact .h | apply AtK.t); (· rfl); (conv => whnf); clear H; intro τ H) | rw [List.length_map]); (refine wX ?_)))
  unfold runT
  refine aloop (α := Nat × AVal × List HE × AHeap) (fun y => [(s8, i64v y.1), (s7, y.2.1)]) (fun y => y.2.2.2) (fun y => y.1 ≤ to ∧ RS2 y.2.1 (runsL (fun i => bitT L i == is) y.1) y.2.2.1 ∧ Hp σ (y.2.2.1 ++ [.o ix (.cells [v])]) y.2.2.2) (fun y => to - y.1)
    (0, .slice 2 [] .full, [], τ) ⟨Nat.zero_le _, .nil, H⟩ (Sub.refl _) ?_ ?_
  · (refine wX ?_)
    (repeat' first | with_reducible exact EnvLe.refl _ | (refine EnvLe.node ?_ (by first | exact Or.inl rfl | exact Or.inr (Or.inl rfl) | exact Or.inr (Or.inr ⟨nofun, VLe.slice _ _ _⟩)) ?_))
  clear H
  rintro ⟨i, w, E, τ⟩ ⟨hi, hw, H⟩
  dsimp only at hi hw H ⊢
  (refine wX ?_)
  by_cases h : i < to
  · have hlen := runsL_len (fun i => bitT L i == is) i
    have hstep : runsL (fun i => bitT L i == is) (i + 1) = if (bitT L i == is) = true then addEnd (runsL (fun i => bitT L i == is) i) i else runsL (fun i => bitT L i == is) i := rfl
    obtain ⟨bt, hbt⟩ : ∃ bt, bitT L i = bt := ⟨_, rfl⟩
    rw [hbt] at hstep
    generalize runsL (fun i => bitT L i == is) i = R at *
    (repeat ((first | refine zI (by omega) ?_ | refine zE (by omega) (by omega) ?_ | refine zD (by omega) (by omega) ?_ | refine zY (by omega) ?_ | refine zN (by omega) ?_ | refine amin ?_ | refine amax ?_ | refine zU (by omega) ?_ | refine z8 (by omega) ?_ | refine zX (by omega) (by omega) ?_ | refine zR rfl ?_ | refine acellA ?_ | refine zB H b1 rfl ?_ | refine zC H b1 ?_ | (apply zL H; (· repeat first | exact .h | apply AtK.t); (· rfl)) | (apply zA H; (· repeat first | exact .h | apply AtK.t)) | (apply zS H; (· repeat first | exact .h | apply AtK.t); (· rfl); (conv => whnf); clear H; intro τ H) | rw [List.length_map]); (refine wX ?_)))
    have hix : τ ix = some (.cells [v]) := H.ok (.o ix (.cells [v])) (by simp)
    refine aload hix rfl ?_
    rcases hd with ⟨rfl, hLn⟩ | ⟨r0, rfl, b1, hne⟩
    rotate_left
    by_cases hl : i < L.length
    rotate_left
    · have hbf : bt = false := by rw [← hbt]; exact bitT_no (by omega)
      subst hbf
      (refine wX ?_)
      (repeat ((first | refine zI (by omega) ?_ | refine zE (by omega) (by omega) ?_ | refine zD (by omega) (by omega) ?_ | refine zY (by omega) ?_ | refine zN (by omega) ?_ | refine amin ?_ | refine amax ?_ | refine zU (by omega) ?_ | refine z8 (by omega) ?_ | refine zX (by omega) (by omega) ?_ | refine zR rfl ?_ | refine acellA ?_ | refine zB H b1 rfl ?_ | refine zC H b1 ?_ | (apply zL H; (· repeat first | exact .h | apply AtK.t); (· rfl)) | (apply zA H; (· repeat first | exact .h | apply AtK.t)) | (apply zS H; (· repeat first | exact .h | apply AtK.t); (· rfl); (conv => whnf); clear H; intro τ H) | rw [List.length_map]); (refine wX ?_)))
      cases is
      · skip
        rw [if_pos (by decide)] at hstep
        (refine wX ?_)
        cases hw with
        | nil =>
          (refine wX ?_)
          (repeat ((first | refine zI (by omega) ?_ | refine zE (by omega) (by omega) ?_ | refine zD (by omega) (by omega) ?_ | refine zY (by omega) ?_ | refine zN (by omega) ?_ | refine amin ?_ | refine amax ?_ | refine zU (by omega) ?_ | refine z8 (by omega) ?_ | refine zX (by omega) (by omega) ?_ | refine zR rfl ?_ | refine acellA ?_ | refine zB H b1 rfl ?_ | refine zC H b1 ?_ | (apply zL H; (· repeat first | exact .h | apply AtK.t); (· rfl)) | (apply zA H; (· repeat first | exact .h | apply AtK.t)) | (apply zS H; (· repeat first | exact .h | apply AtK.t); (· rfl); (conv => whnf); clear H; intro τ H) | rw [List.length_map]); (refine wX ?_)))
          rw [show (([] : List AVal).length : Int) = 0 from rfl]
          (refine wX ?_)
          (repeat ((first | refine zI (by omega) ?_ | refine zE (by omega) (by omega) ?_ | refine zD (by omega) (by omega) ?_ | refine zY (by omega) ?_ | refine zN (by omega) ?_ | refine amin ?_ | refine amax ?_ | refine zU (by omega) ?_ | refine z8 (by omega) ?_ | refine zX (by omega) (by omega) ?_ | refine zR rfl ?_ | refine acellA ?_ | refine zB H b1 rfl ?_ | refine zC H b1 ?_ | (apply zL H; (· repeat first | exact .h | apply AtK.t); (· rfl)) | (apply zA H; (· repeat first | exact .h | apply AtK.t)) | (apply zS H; (· repeat first | exact .h | apply AtK.t); (· rfl); (conv => whnf); clear H; intro τ H) | rw [List.length_map]); (refine wX ?_)))
          refine happnew H (List.cons_ne_nil _ _) (show 1 * 16 ≤ 140737488355328 by decide) rfl fun r2 τ2 H2 => ?_
          clear H
          have H := H2
          clear H2
          (refine wX ?_)
          (repeat ((first | refine zI (by omega) ?_ | refine zE (by omega) (by omega) ?_ | refine zD (by omega) (by omega) ?_ | refine zY (by omega) ?_ | refine zN (by omega) ?_ | refine amin ?_ | refine amax ?_ | refine zU (by omega) ?_ | refine z8 (by omega) ?_ | refine zX (by omega) (by omega) ?_ | refine zR rfl ?_ | refine acellA ?_ | refine zB H b1 rfl ?_ | refine zC H b1 ?_ | (apply zL H; (· repeat first | exact .h | apply AtK.t); (· rfl)) | (apply zA H; (· repeat first | exact .h | apply AtK.t)) | (apply zS H; (· repeat first | exact .h | apply AtK.t); (· rfl); (conv => whnf); clear H; intro τ H) | rw [List.length_map]); (refine wX ?_)))
          refine ⟨(i + 1, .ms r2 2 0 1, [.o r2 (.cells (spC [((i : Int), (i : Int) + 1)]))], τ2), ⟨h, by dsimp only; rw [hstep]; exact .row r2 [((i : Int), (i : Int) + 1)] (by simp), H⟩, by dsimp only; omega, Sub.refl _, ?_⟩
          (refine wX ?_)
          (repeat' first | with_reducible exact EnvLe.refl _ | (refine EnvLe.node ?_ (by first | exact Or.inl rfl | exact Or.inr (Or.inl rfl) | exact Or.inr (Or.inr ⟨nofun, VLe.slice _ _ _⟩)) ?_))
        | row r _ hne2 =>
          rcases snoc_cases R with hR | ⟨R0, z, rfl⟩
          · exact (hne2 hR).elim
          rw [List.length_append, List.length_singleton] at hlen
          rw [addEnd_snoc] at hstep
          have hg := (spC_get (l := R0 ++ [z]) (i := R0.length) (by simp)).2
          rw [show (R0 ++ [z])[R0.length]'(by simp) = z by simp] at hg
          rw [show (R0 ++ [z]).length = R0.length + 1 by simp] at *
          (repeat ((first | refine zI (by omega) ?_ | refine zE (by omega) (by omega) ?_ | refine zD (by omega) (by omega) ?_ | refine zY (by omega) ?_ | refine zN (by omega) ?_ | refine amin ?_ | refine amax ?_ | refine zU (by omega) ?_ | refine z8 (by omega) ?_ | refine zX (by omega) (by omega) ?_ | refine zR rfl ?_ | refine acellA ?_ | refine zB H b1 rfl ?_ | refine zC H b1 ?_ | (apply zL H; (· repeat first | exact .h | apply AtK.t); (· rfl)) | (apply zA H; (· repeat first | exact .h | apply AtK.t)) | (apply zS H; (· repeat first | exact .h | apply AtK.t); (· rfl); (conv => whnf); clear H; intro τ H) | rw [List.length_map]); (refine wX ?_)))
          rw [show 0 + (((R0.length + 1 : Nat) : Int) - 1).toNat * 2 + 1 = R0.length * 2 + 1 by omega]
          refine aload (H.get (k := 0) rfl) hg ?_
          (refine wX ?_)
          by_cases hz : z.2 = (i : Int)
          · rw [if_pos hz] at hstep
            (repeat ((first | refine zI (by omega) ?_ | refine zE (by omega) (by omega) ?_ | refine zD (by omega) (by omega) ?_ | refine zY (by omega) ?_ | refine zN (by omega) ?_ | refine amin ?_ | refine amax ?_ | refine zU (by omega) ?_ | refine z8 (by omega) ?_ | refine zX (by omega) (by omega) ?_ | refine zR rfl ?_ | refine acellA ?_ | refine zB H b1 rfl ?_ | refine zC H b1 ?_ | (apply zL H; (· repeat first | exact .h | apply AtK.t); (· rfl)) | (apply zA H; (· repeat first | exact .h | apply AtK.t)) | (apply zS H; (· repeat first | exact .h | apply AtK.t); (· rfl); (conv => whnf); clear H; intro τ H) | rw [List.length_map]); (refine wX ?_)))
            rw [show 0 + (((R0.length + 1 : Nat) : Int) - 1).toNat * 2 + 1 = R0.length * 2 + 1 by omega]
            refine astore (H.get (k := 0) rfl) (by rw [spC_len, List.length_append]; show R0.length * 2 + 1 + 1 ≤ (R0.length + 1) * 2; omega) rfl (spC_last R0 z _) ?_
            replace H := H.set (k := 0) rfl (.cells (spC (R0 ++ [(z.1, (i : Int) + 1)])))
            generalize upd τ r _ = υ at *
            (refine wX ?_)
            (repeat ((first | refine zI (by omega) ?_ | refine zE (by omega) (by omega) ?_ | refine zD (by omega) (by omega) ?_ | refine zY (by omega) ?_ | refine zN (by omega) ?_ | refine amin ?_ | refine amax ?_ | refine zU (by omega) ?_ | refine z8 (by omega) ?_ | refine zX (by omega) (by omega) ?_ | refine zR rfl ?_ | refine acellA ?_ | refine zB H b1 rfl ?_ | refine zC H b1 ?_ | (apply zL H; (· repeat first | exact .h | apply AtK.t); (· rfl)) | (apply zA H; (· repeat first | exact .h | apply AtK.t)) | (apply zS H; (· repeat first | exact .h | apply AtK.t); (· rfl); (conv => whnf); clear H; intro τ H) | rw [List.length_map]); (refine wX ?_)))
            refine ⟨(i + 1, .ms r 2 0 (R0.length + 1), [.o r (.cells (spC (R0 ++ [(z.1, (i : Int) + 1)])))], υ), ⟨h, by dsimp only; rw [hstep]; exact RS2.row' r _ (by simp) (by simp), H⟩, by dsimp only; omega, Sub.refl _, ?_⟩
            (refine wX ?_)
            (repeat' first | with_reducible exact EnvLe.refl _ | (refine EnvLe.node ?_ (by first | exact Or.inl rfl | exact Or.inr (Or.inl rfl) | exact Or.inr (Or.inr ⟨nofun, VLe.slice _ _ _⟩)) ?_))
          · rw [if_neg hz] at hstep
            (repeat ((first | refine zI (by omega) ?_ | refine zE (by omega) (by omega) ?_ | refine zD (by omega) (by omega) ?_ | refine zY (by omega) ?_ | refine zN (by omega) ?_ | refine amin ?_ | refine amax ?_ | refine zU (by omega) ?_ | refine z8 (by omega) ?_ | refine zX (by omega) (by omega) ?_ | refine zR rfl ?_ | refine acellA ?_ | refine zB H b1 rfl ?_ | refine zC H b1 ?_ | (apply zL H; (· repeat first | exact .h | apply AtK.t); (· rfl)) | (apply zA H; (· repeat first | exact .h | apply AtK.t)) | (apply zS H; (· repeat first | exact .h | apply AtK.t); (· rfl); (conv => whnf); clear H; intro τ H) | rw [List.length_map]); (refine wX ?_)))
            refine happm H (k := 0) rfl (by rw [spC_len, List.length_append]; simp) (by simp only [List.length_singleton]; omega) rfl fun r2 τ2 H2 => ?_
            clear H
            have H := H2
            rw [spC_snoc (R0 ++ [z]) i ((i : Int) + 1)] at H
            clear H2
            (refine wX ?_)
            (repeat ((first | refine zI (by omega) ?_ | refine zE (by omega) (by omega) ?_ | refine zD (by omega) (by omega) ?_ | refine zY (by omega) ?_ | refine zN (by omega) ?_ | refine amin ?_ | refine amax ?_ | refine zU (by omega) ?_ | refine z8 (by omega) ?_ | refine zX (by omega) (by omega) ?_ | refine zR rfl ?_ | refine acellA ?_ | refine zB H b1 rfl ?_ | refine zC H b1 ?_ | (apply zL H; (· repeat first | exact .h | apply AtK.t); (· rfl)) | (apply zA H; (· repeat first | exact .h | apply AtK.t)) | (apply zS H; (· repeat first | exact .h | apply AtK.t); (· rfl); (conv => whnf); clear H; intro τ H) | rw [List.length_map]); (refine wX ?_)))
            refine ⟨(i + 1, .ms r2 2 0 (R0.length + 1 + 1), [.o r2 (.cells (spC ((R0 ++ [z]) ++ [((i : Int), (i : Int) + 1)])))], τ2), ⟨h, by dsimp only; rw [hstep]; exact RS2.row' r2 _ (by simp) (by simp), H⟩, by dsimp only; omega, Sub.refl _, ?_⟩
            (refine wX ?_)
            (repeat' first | with_reducible exact EnvLe.refl _ | (refine EnvLe.node ?_ (by first | exact Or.inl rfl | exact Or.inr (Or.inl rfl) | exact Or.inr (Or.inr ⟨nofun, VLe.slice _ _ _⟩)) ?_))
      · skip
        (refine wX ?_)
        (repeat ((first | refine zI (by omega) ?_ | refine zE (by omega) (by omega) ?_ | refine zD (by omega) (by omega) ?_ | refine zY (by omega) ?_ | refine zN (by omega) ?_ | refine amin ?_ | refine amax ?_ | refine zU (by omega) ?_ | refine z8 (by omega) ?_ | refine zX (by omega) (by omega) ?_ | refine zR rfl ?_ | refine acellA ?_ | refine zB H b1 rfl ?_ | refine zC H b1 ?_ | (apply zL H; (· repeat first | exact .h | apply AtK.t); (· rfl)) | (apply zA H; (· repeat first | exact .h | apply AtK.t)) | (apply zS H; (· repeat first | exact .h | apply AtK.t); (· rfl); (conv => whnf); clear H; intro τ H) | rw [List.length_map]); (refine wX ?_)))
        refine ⟨(i + 1, w, E, τ), ⟨h, by dsimp only; rw [hstep, if_neg (by decide)]; exact hw, H⟩, by dsimp only; omega, Sub.refl _, ?_⟩
        (refine wX ?_)
        (repeat' first | with_reducible exact EnvLe.refl _ | (refine EnvLe.node ?_ (by first | exact Or.inl rfl | exact Or.inr (Or.inl rfl) | exact Or.inr (Or.inr ⟨nofun, VLe.slice _ _ _⟩)) ?_))
    · have hbf : bt = false := by rw [← hbt, hLn]; rfl
      subst hbf
      (refine wX ?_)
      (repeat ((first | refine zI (by omega) ?_ | refine zE (by omega) (by omega) ?_ | refine zD (by omega) (by omega) ?_ | refine zY (by omega) ?_ | refine zN (by omega) ?_ | refine amin ?_ | refine amax ?_ | refine zU (by omega) ?_ | refine z8 (by omega) ?_ | refine zX (by omega) (by omega) ?_ | refine zR rfl ?_ | refine acellA ?_ | refine zB H b1 rfl ?_ | refine zC H b1 ?_ | (apply zL H; (· repeat first | exact .h | apply AtK.t); (· rfl)) | (apply zA H; (· repeat first | exact .h | apply AtK.t)) | (apply zS H; (· repeat first | exact .h | apply AtK.t); (· rfl); (conv => whnf); clear H; intro τ H) | rw [List.length_map]); (refine wX ?_)))
      rw [show (([] : List AVal).length : Int) = 0 from rfl]
      (refine wX ?_)
      (repeat ((first | refine zI (by omega) ?_ | refine zE (by omega) (by omega) ?_ | refine zD (by omega) (by omega) ?_ | refine zY (by omega) ?_ | refine zN (by omega) ?_ | refine amin ?_ | refine amax ?_ | refine zU (by omega) ?_ | refine z8 (by omega) ?_ | refine zX (by omega) (by omega) ?_ | refine zR rfl ?_ | refine acellA ?_ | refine zB H b1 rfl ?_ | refine zC H b1 ?_ | (apply zL H; (· repeat first | exact .h | apply AtK.t); (· rfl)) | (apply zA H; (· repeat first | exact .h | apply AtK.t)) | (apply zS H; (· repeat first | exact .h | apply AtK.t); (· rfl); (conv => whnf); clear H; intro τ H) | rw [List.length_map]); (refine wX ?_)))
      cases is
      · skip
        rw [if_pos (by decide)] at hstep
        (refine wX ?_)
        cases hw with
        | nil =>
          (refine wX ?_)
          (repeat ((first | refine zI (by omega) ?_ | refine zE (by omega) (by omega) ?_ | refine zD (by omega) (by omega) ?_ | refine zY (by omega) ?_ | refine zN (by omega) ?_ | refine amin ?_ | refine amax ?_ | refine zU (by omega) ?_ | refine z8 (by omega) ?_ | refine zX (by omega) (by omega) ?_ | refine zR rfl ?_ | refine acellA ?_ | refine zB H b1 rfl ?_ | refine zC H b1 ?_ | (apply zL H; (· repeat first | exact .h | apply AtK.t); (· rfl)) | (apply zA H; (· repeat first | exact .h | apply AtK.t)) | (apply zS H; (· repeat first | exact .h | apply AtK.t); (· rfl); (conv => whnf); clear H; intro τ H) | rw [List.length_map]); (refine wX ?_)))
          rw [show (([] : List AVal).length : Int) = 0 from rfl]
          (refine wX ?_)
          (repeat ((first | refine zI (by omega) ?_ | refine zE (by omega) (by omega) ?_ | refine zD (by omega) (by omega) ?_ | refine zY (by omega) ?_ | refine zN (by omega) ?_ | refine amin ?_ | refine amax ?_ | refine zU (by omega) ?_ | refine z8 (by omega) ?_ | refine zX (by omega) (by omega) ?_ | refine zR rfl ?_ | refine acellA ?_ | refine zB H b1 rfl ?_ | refine zC H b1 ?_ | (apply zL H; (· repeat first | exact .h | apply AtK.t); (· rfl)) | (apply zA H; (· repeat first | exact .h | apply AtK.t)) | (apply zS H; (· repeat first | exact .h | apply AtK.t); (· rfl); (conv => whnf); clear H; intro τ H) | rw [List.length_map]); (refine wX ?_)))
          refine happnew H (List.cons_ne_nil _ _) (show 1 * 16 ≤ 140737488355328 by decide) rfl fun r2 τ2 H2 => ?_
          clear H
          have H := H2
          clear H2
          (refine wX ?_)
          (repeat ((first | refine zI (by omega) ?_ | refine zE (by omega) (by omega) ?_ | refine zD (by omega) (by omega) ?_ | refine zY (by omega) ?_ | refine zN (by omega) ?_ | refine amin ?_ | refine amax ?_ | refine zU (by omega) ?_ | refine z8 (by omega) ?_ | refine zX (by omega) (by omega) ?_ | refine zR rfl ?_ | refine acellA ?_ | refine zB H b1 rfl ?_ | refine zC H b1 ?_ | (apply zL H; (· repeat first | exact .h | apply AtK.t); (· rfl)) | (apply zA H; (· repeat first | exact .h | apply AtK.t)) | (apply zS H; (· repeat first | exact .h | apply AtK.t); (· rfl); (conv => whnf); clear H; intro τ H) | rw [List.length_map]); (refine wX ?_)))
          refine ⟨(i + 1, .ms r2 2 0 1, [.o r2 (.cells (spC [((i : Int), (i : Int) + 1)]))], τ2), ⟨h, by dsimp only; rw [hstep]; exact .row r2 [((i : Int), (i : Int) + 1)] (by simp), H⟩, by dsimp only; omega, Sub.refl _, ?_⟩
          (refine wX ?_)
          (repeat' first | with_reducible exact EnvLe.refl _ | (refine EnvLe.node ?_ (by first | exact Or.inl rfl | exact Or.inr (Or.inl rfl) | exact Or.inr (Or.inr ⟨nofun, VLe.slice _ _ _⟩)) ?_))
        | row r _ hne2 =>
          rcases snoc_cases R with hR | ⟨R0, z, rfl⟩
          · exact (hne2 hR).elim
          rw [List.length_append, List.length_singleton] at hlen
          rw [addEnd_snoc] at hstep
          have hg := (spC_get (l := R0 ++ [z]) (i := R0.length) (by simp)).2
          rw [show (R0 ++ [z])[R0.length]'(by simp) = z by simp] at hg
          rw [show (R0 ++ [z]).length = R0.length + 1 by simp] at *
          (repeat ((first | refine zI (by omega) ?_ | refine zE (by omega) (by omega) ?_ | refine zD (by omega) (by omega) ?_ | refine zY (by omega) ?_ | refine zN (by omega) ?_ | refine amin ?_ | refine amax ?_ | refine zU (by omega) ?_ | refine z8 (by omega) ?_ | refine zX (by omega) (by omega) ?_ | refine zR rfl ?_ | refine acellA ?_ | refine zB H b1 rfl ?_ | refine zC H b1 ?_ | (apply zL H; (· repeat first | exact .h | apply AtK.t); (· rfl)) | (apply zA H; (· repeat first | exact .h | apply AtK.t)) | (apply zS H; (· repeat first | exact .h | apply AtK.t); (· rfl); (conv => whnf); clear H; intro τ H) | rw [List.length_map]); (refine wX ?_)))
          rw [show 0 + (((R0.length + 1 : Nat) : Int) - 1).toNat * 2 + 1 = R0.length * 2 + 1 by omega]
          refine aload (H.get (k := 0) rfl) hg ?_
          (refine wX ?_)
          by_cases hz : z.2 = (i : Int)
          · rw [if_pos hz] at hstep
            (repeat ((first | refine zI (by omega) ?_ | refine zE (by omega) (by omega) ?_ | refine zD (by omega) (by omega) ?_ | refine zY (by omega) ?_ | refine zN (by omega) ?_ | refine amin ?_ | refine amax ?_ | refine zU (by omega) ?_ | refine z8 (by omega) ?_ | refine zX (by omega) (by omega) ?_ | refine zR rfl ?_ | refine acellA ?_ | refine zB H b1 rfl ?_ | refine zC H b1 ?_ | (apply zL H; (· repeat first | exact .h | apply AtK.t); (· rfl)) | (apply zA H; (· repeat first | exact .h | apply AtK.t)) | (apply zS H; (· repeat first | exact .h | apply AtK.t); (· rfl); (conv => whnf); clear H; intro τ H) | rw [List.length_map]); (refine wX ?_)))
            rw [show 0 + (((R0.length + 1 : Nat) : Int) - 1).toNat * 2 + 1 = R0.length * 2 + 1 by omega]
            refine astore (H.get (k := 0) rfl) (by rw [spC_len, List.length_append]; show R0.length * 2 + 1 + 1 ≤ (R0.length + 1) * 2; omega) rfl (spC_last R0 z _) ?_
            replace H := H.set (k := 0) rfl (.cells (spC (R0 ++ [(z.1, (i : Int) + 1)])))
            generalize upd τ r _ = υ at *
            (refine wX ?_)
            (repeat ((first | refine zI (by omega) ?_ | refine zE (by omega) (by omega) ?_ | refine zD (by omega) (by omega) ?_ | refine zY (by omega) ?_ | refine zN (by omega) ?_ | refine amin ?_ | refine amax ?_ | refine zU (by omega) ?_ | refine z8 (by omega) ?_ | refine zX (by omega) (by omega) ?_ | refine zR rfl ?_ | refine acellA ?_ | refine zB H b1 rfl ?_ | refine zC H b1 ?_ | (apply zL H; (· repeat first | exact .h | apply AtK.t); (· rfl)) | (apply zA H; (· repeat first | exact .h | apply AtK.t)) | (apply zS H; (· repeat first | exact .h | apply AtK.t); (· rfl); (conv => whnf); clear H; intro τ H) | rw [List.length_map]); (refine wX ?_)))
            refine ⟨(i + 1, .ms r 2 0 (R0.length + 1), [.o r (.cells (spC (R0 ++ [(z.1, (i : Int) + 1)])))], υ), ⟨h, by dsimp only; rw [hstep]; exact RS2.row' r _ (by simp) (by simp), H⟩, by dsimp only; omega, Sub.refl _, ?_⟩
            (refine wX ?_)
            (repeat' first | with_reducible exact EnvLe.refl _ | (refine EnvLe.node ?_ (by first | exact Or.inl rfl | exact Or.inr (Or.inl rfl) | exact Or.inr (Or.inr ⟨nofun, VLe.slice _ _ _⟩)) ?_))
          · rw [if_neg hz] at hstep
            (repeat ((first | refine zI (by omega) ?_ | refine zE (by omega) (by omega) ?_ | refine zD (by omega) (by omega) ?_ | refine zY (by omega) ?_ | refine zN (by omega) ?_ | refine amin ?_ | refine amax ?_ | refine zU (by omega) ?_ | refine z8 (by omega) ?_ | refine zX (by omega) (by omega) ?_ | refine zR rfl ?_ | refine acellA ?_ | refine zB H b1 rfl ?_ | refine zC H b1 ?_ | (apply zL H; (· repeat first | exact .h | apply AtK.t); (· rfl)) | (apply zA H; (· repeat first | exact .h | apply AtK.t)) | (apply zS H; (· repeat first | exact .h | apply AtK.t); (· rfl); (conv => whnf); clear H; intro τ H) | rw [List.length_map]); (refine wX ?_)))
            refine happm H (k := 0) rfl (by rw [spC_len, List.length_append]; simp) (by simp only [List.length_singleton]; omega) rfl fun r2 τ2 H2 => ?_
            clear H
            have H := H2
            rw [spC_snoc (R0 ++ [z]) i ((i : Int) + 1)] at H
            clear H2
            (refine wX ?_)
            (repeat ((first | refine zI (by omega) ?_ | refine zE (by omega) (by omega) ?_ | refine zD (by omega) (by omega) ?_ | refine zY (by omega) ?_ | refine zN (by omega) ?_ | refine amin ?_ | refine amax ?_ | refine zU (by omega) ?_ | refine z8 (by omega) ?_ | refine zX (by omega) (by omega) ?_ | refine zR rfl ?_ | refine acellA ?_ | refine zB H b1 rfl ?_ | refine zC H b1 ?_ | (apply zL H; (· repeat first | exact .h | apply AtK.t); (· rfl)) | (apply zA H; (· repeat first | exact .h | apply AtK.t)) | (apply zS H; (· repeat first | exact .h | apply AtK.t); (· rfl); (conv => whnf); clear H; intro τ H) | rw [List.length_map]); (refine wX ?_)))
            refine ⟨(i + 1, .ms r2 2 0 (R0.length + 1 + 1), [.o r2 (.cells (spC ((R0 ++ [z]) ++ [((i : Int), (i : Int) + 1)])))], τ2), ⟨h, by dsimp only; rw [hstep]; exact RS2.row' r2 _ (by simp) (by simp), H⟩, by dsimp only; omega, Sub.refl _, ?_⟩
            (refine wX ?_)
            (repeat' first | with_reducible exact EnvLe.refl _ | (refine EnvLe.node ?_ (by first | exact Or.inl rfl | exact Or.inr (Or.inl rfl) | exact Or.inr (Or.inr ⟨nofun, VLe.slice _ _ _⟩)) ?_))
      · skip
        (refine wX ?_)
        (repeat ((first | refine zI (by omega) ?_ | refine zE (by omega) (by omega) ?_ | refine zD (by omega) (by omega) ?_ | refine zY (by omega) ?_ | refine zN (by omega) ?_ | refine amin ?_ | refine amax ?_ | refine zU (by omega) ?_ | refine z8 (by omega) ?_ | refine zX (by omega) (by omega) ?_ | refine zR rfl ?_ | refine acellA ?_ | refine zB H b1 rfl ?_ | refine zC H b1 ?_ | (apply zL H; (· repeat first | exact .h | apply AtK.t); (· rfl)) | (apply zA H; (· repeat first | exact .h | apply AtK.t)) | (apply zS H; (· repeat first | exact .h | apply AtK.t); (· rfl); (conv => whnf); clear H; intro τ H) | rw [List.length_map]); (refine wX ?_)))
        refine ⟨(i + 1, w, E, τ), ⟨h, by dsimp only; rw [hstep, if_neg (by decide)]; exact hw, H⟩, by dsimp only; omega, Sub.refl _, ?_⟩
        (refine wX ?_)
        (repeat' first | with_reducible exact EnvLe.refl _ | (refine EnvLe.node ?_ (by first | exact Or.inl rfl | exact Or.inr (Or.inl rfl) | exact Or.inr (Or.inr ⟨nofun, VLe.slice _ _ _⟩)) ?_))
    · (refine wX ?_)
      (repeat ((first | refine zI (by omega) ?_ | refine zE (by omega) (by omega) ?_ | refine zD (by omega) (by omega) ?_ | refine zY (by omega) ?_ | refine zN (by omega) ?_ | refine amin ?_ | refine amax ?_ | refine zU (by omega) ?_ | refine z8 (by omega) ?_ | refine zX (by omega) (by omega) ?_ | refine zR rfl ?_ | refine acellA ?_ | refine zB H b1 rfl ?_ | refine zC H b1 ?_ | (apply zL H; (· repeat first | exact .h | apply AtK.t); (· rfl)) | (apply zA H; (· repeat first | exact .h | apply AtK.t)) | (apply zS H; (· repeat first | exact .h | apply AtK.t); (· rfl); (conv => whnf); clear H; intro τ H) | rw [List.length_map]); (refine wX ?_)))
      refine aload hix rfl ?_
      (refine wX ?_)
      (repeat ((first | refine zI (by omega) ?_ | refine zE (by omega) (by omega) ?_ | refine zD (by omega) (by omega) ?_ | refine zY (by omega) ?_ | refine zN (by omega) ?_ | refine amin ?_ | refine amax ?_ | refine zU (by omega) ?_ | refine z8 (by omega) ?_ | refine zX (by omega) (by omega) ?_ | refine zR rfl ?_ | refine acellA ?_ | refine zB H b1 rfl ?_ | refine zC H b1 ?_ | (apply zL H; (· repeat first | exact .h | apply AtK.t); (· rfl)) | (apply zA H; (· repeat first | exact .h | apply AtK.t)) | (apply zS H; (· repeat first | exact .h | apply AtK.t); (· rfl); (conv => whnf); clear H; intro τ H) | rw [List.length_map]); (refine wX ?_)))
      refine zB H b1 (truths_get hl) ?_
      rw [hbt]
      (refine wX ?_)
      cases bt
      · skip
        cases is
        · skip
          rw [if_pos (by decide)] at hstep
          (refine wX ?_)
          cases hw with
          | nil =>
            (refine wX ?_)
            (repeat ((first | refine zI (by omega) ?_ | refine zE (by omega) (by omega) ?_ | refine zD (by omega) (by omega) ?_ | refine zY (by omega) ?_ | refine zN (by omega) ?_ | refine amin ?_ | refine amax ?_ | refine zU (by omega) ?_ | refine z8 (by omega) ?_ | refine zX (by omega) (by omega) ?_ | refine zR rfl ?_ | refine acellA ?_ | refine zB H b1 rfl ?_ | refine zC H b1 ?_ | (apply zL H; (· repeat first | exact .h | apply AtK.t); (· rfl)) | (apply zA H; (· repeat first | exact .h | apply AtK.t)) | (apply zS H; (· repeat first | exact .h | apply AtK.t); (· rfl); (conv => whnf); clear H; intro τ H) | rw [List.length_map]); (refine wX ?_)))
            rw [show (([] : List AVal).length : Int) = 0 from rfl]
            (refine wX ?_)
            (repeat ((first | refine zI (by omega) ?_ | refine zE (by omega) (by omega) ?_ | refine zD (by omega) (by omega) ?_ | refine zY (by omega) ?_ | refine zN (by omega) ?_ | refine amin ?_ | refine amax ?_ | refine zU (by omega) ?_ | refine z8 (by omega) ?_ | refine zX (by omega) (by omega) ?_ | refine zR rfl ?_ | refine acellA ?_ | refine zB H b1 rfl ?_ | refine zC H b1 ?_ | (apply zL H; (· repeat first | exact .h | apply AtK.t); (· rfl)) | (apply zA H; (· repeat first | exact .h | apply AtK.t)) | (apply zS H; (· repeat first | exact .h | apply AtK.t); (· rfl); (conv => whnf); clear H; intro τ H) | rw [List.length_map]); (refine wX ?_)))
            refine happnew H (List.cons_ne_nil _ _) (show 1 * 16 ≤ 140737488355328 by decide) rfl fun r2 τ2 H2 => ?_
            clear H
            have H := H2
            clear H2
            (refine wX ?_)
            (repeat ((first | refine zI (by omega) ?_ | refine zE (by omega) (by omega) ?_ | refine zD (by omega) (by omega) ?_ | refine zY (by omega) ?_ | refine zN (by omega) ?_ | refine amin ?_ | refine amax ?_ | refine zU (by omega) ?_ | refine z8 (by omega) ?_ | refine zX (by omega) (by omega) ?_ | refine zR rfl ?_ | refine acellA ?_ | refine zB H b1 rfl ?_ | refine zC H b1 ?_ | (apply zL H; (· repeat first | exact .h | apply AtK.t); (· rfl)) | (apply zA H; (· repeat first | exact .h | apply AtK.t)) | (apply zS H; (· repeat first | exact .h | apply AtK.t); (· rfl); (conv => whnf); clear H; intro τ H) | rw [List.length_map]); (refine wX ?_)))
            refine ⟨(i + 1, .ms r2 2 0 1, [.o r2 (.cells (spC [((i : Int), (i : Int) + 1)]))], τ2), ⟨h, by dsimp only; rw [hstep]; exact .row r2 [((i : Int), (i : Int) + 1)] (by simp), H⟩, by dsimp only; omega, Sub.refl _, ?_⟩
            (refine wX ?_)
            (repeat' first | with_reducible exact EnvLe.refl _ | (refine EnvLe.node ?_ (by first | exact Or.inl rfl | exact Or.inr (Or.inl rfl) | exact Or.inr (Or.inr ⟨nofun, VLe.slice _ _ _⟩)) ?_))
          | row r _ hne2 =>
            rcases snoc_cases R with hR | ⟨R0, z, rfl⟩
            · exact (hne2 hR).elim
            rw [List.length_append, List.length_singleton] at hlen
            rw [addEnd_snoc] at hstep
            have hg := (spC_get (l := R0 ++ [z]) (i := R0.length) (by simp)).2
            rw [show (R0 ++ [z])[R0.length]'(by simp) = z by simp] at hg
            rw [show (R0 ++ [z]).length = R0.length + 1 by simp] at *
            (repeat ((first | refine zI (by omega) ?_ | refine zE (by omega) (by omega) ?_ | refine zD (by omega) (by omega) ?_ | refine zY (by omega) ?_ | refine zN (by omega) ?_ | refine amin ?_ | refine amax ?_ | refine zU (by omega) ?_ | refine z8 (by omega) ?_ | refine zX (by omega) (by omega) ?_ | refine zR rfl ?_ | refine acellA ?_ | refine zB H b1 rfl ?_ | refine zC H b1 ?_ | (apply zL H; (· repeat first | exact .h | apply AtK.t); (· rfl)) | (apply zA H; (· repeat first | exact .h | apply AtK.t)) | (apply zS H; (· repeat first | exact .h | apply AtK.t); (· rfl); (conv => whnf); clear H; intro τ H) | rw [List.length_map]); (refine wX ?_)))
            rw [show 0 + (((R0.length + 1 : Nat) : Int) - 1).toNat * 2 + 1 = R0.length * 2 + 1 by omega]
            refine aload (H.get (k := 0) rfl) hg ?_
            (refine wX ?_)
            by_cases hz : z.2 = (i : Int)
            · rw [if_pos hz] at hstep
              (repeat ((first | refine zI (by omega) ?_ | refine zE (by omega) (by omega) ?_ | refine zD (by omega) (by omega) ?_ | refine zY (by omega) ?_ | refine zN (by omega) ?_ | refine amin ?_ | refine amax ?_ | refine zU (by omega) ?_ | refine z8 (by omega) ?_ | refine zX (by omega) (by omega) ?_ | refine zR rfl ?_ | refine acellA ?_ | refine zB H b1 rfl ?_ | refine zC H b1 ?_ | (apply zL H; (· repeat first | exact .h | apply AtK.t); (· rfl)) | (apply zA H; (· repeat first | exact .h | apply AtK.t)) | (apply zS H; (· repeat first | exact .h | apply AtK.t); (· rfl); (conv => whnf); clear H; intro τ H) | rw [List.length_map]); (refine wX ?_)))
              rw [show 0 + (((R0.length + 1 : Nat) : Int) - 1).toNat * 2 + 1 = R0.length * 2 + 1 by omega]
              refine astore (H.get (k := 0) rfl) (by rw [spC_len, List.length_append]; show R0.length * 2 + 1 + 1 ≤ (R0.length + 1) * 2; omega) rfl (spC_last R0 z _) ?_
              replace H := H.set (k := 0) rfl (.cells (spC (R0 ++ [(z.1, (i : Int) + 1)])))
              generalize upd τ r _ = υ at *
              (refine wX ?_)
              (repeat ((first | refine zI (by omega) ?_ | refine zE (by omega) (by omega) ?_ | refine zD (by omega) (by omega) ?_ | refine zY (by omega) ?_ | refine zN (by omega) ?_ | refine amin ?_ | refine amax ?_ | refine zU (by omega) ?_ | refine z8 (by omega) ?_ | refine zX (by omega) (by omega) ?_ | refine zR rfl ?_ | refine acellA ?_ | refine zB H b1 rfl ?_ | refine zC H b1 ?_ | (apply zL H; (· repeat first | exact .h | apply AtK.t); (· rfl)) | (apply zA H; (· repeat first | exact .h | apply AtK.t)) | (apply zS H; (· repeat first | exact .h | apply AtK.t); (· rfl); (conv => whnf); clear H; intro τ H) | rw [List.length_map]); (refine wX ?_)))
              refine ⟨(i + 1, .ms r 2 0 (R0.length + 1), [.o r (.cells (spC (R0 ++ [(z.1, (i : Int) + 1)])))], υ), ⟨h, by dsimp only; rw [hstep]; exact RS2.row' r _ (by simp) (by simp), H⟩, by dsimp only; omega, Sub.refl _, ?_⟩
              (refine wX ?_)
              (repeat' first | with_reducible exact EnvLe.refl _ | (refine EnvLe.node ?_ (by first | exact Or.inl rfl | exact Or.inr (Or.inl rfl) | exact Or.inr (Or.inr ⟨nofun, VLe.slice _ _ _⟩)) ?_))
            · rw [if_neg hz] at hstep
              (repeat ((first | refine zI (by omega) ?_ | refine zE (by omega) (by omega) ?_ | refine zD (by omega) (by omega) ?_ | refine zY (by omega) ?_ | refine zN (by omega) ?_ | refine amin ?_ | refine amax ?_ | refine zU (by omega) ?_ | refine z8 (by omega) ?_ | refine zX (by omega) (by omega) ?_ | refine zR rfl ?_ | refine acellA ?_ | refine zB H b1 rfl ?_ | refine zC H b1 ?_ | (apply zL H; (· repeat first | exact .h | apply AtK.t); (· rfl)) | (apply zA H; (· repeat first | exact .h | apply AtK.t)) | (apply zS H; (· repeat first | exact .h | apply AtK.t); (· rfl); (conv => whnf); clear H; intro τ H) | rw [List.length_map]); (refine wX ?_)))
              refine happm H (k := 0) rfl (by rw [spC_len, List.length_append]; simp) (by simp only [List.length_singleton]; omega) rfl fun r2 τ2 H2 => ?_
              clear H
              have H := H2
              rw [spC_snoc (R0 ++ [z]) i ((i : Int) + 1)] at H
              clear H2
              (refine wX ?_)
              (repeat ((first | refine zI (by omega) ?_ | refine zE (by omega) (by omega) ?_ | refine zD (by omega) (by omega) ?_ | refine zY (by omega) ?_ | refine zN (by omega) ?_ | refine amin ?_ | refine amax ?_ | refine zU (by omega) ?_ | refine z8 (by omega) ?_ | refine zX (by omega) (by omega) ?_ | refine zR rfl ?_ | refine acellA ?_ | refine zB H b1 rfl ?_ | refine zC H b1 ?_ | (apply zL H; (· repeat first | exact .h | apply AtK.t); (· rfl)) | (apply zA H; (· repeat first | exact .h | apply AtK.t)) | (apply zS H; (· repeat first | exact .h | apply AtK.t); (· rfl); (conv => whnf); clear H; intro τ H) | rw [List.length_map]); (refine wX ?_)))
              refine ⟨(i + 1, .ms r2 2 0 (R0.length + 1 + 1), [.o r2 (.cells (spC ((R0 ++ [z]) ++ [((i : Int), (i : Int) + 1)])))], τ2), ⟨h, by dsimp only; rw [hstep]; exact RS2.row' r2 _ (by simp) (by simp), H⟩, by dsimp only; omega, Sub.refl _, ?_⟩
              (refine wX ?_)
              (repeat' first | with_reducible exact EnvLe.refl _ | (refine EnvLe.node ?_ (by first | exact Or.inl rfl | exact Or.inr (Or.inl rfl) | exact Or.inr (Or.inr ⟨nofun, VLe.slice _ _ _⟩)) ?_))
        · skip
          (refine wX ?_)
          (repeat ((first | refine zI (by omega) ?_ | refine zE (by omega) (by omega) ?_ | refine zD (by omega) (by omega) ?_ | refine zY (by omega) ?_ | refine zN (by omega) ?_ | refine amin ?_ | refine amax ?_ | refine zU (by omega) ?_ | refine z8 (by omega) ?_ | refine zX (by omega) (by omega) ?_ | refine zR rfl ?_ | refine acellA ?_ | refine zB H b1 rfl ?_ | refine zC H b1 ?_ | (apply zL H; (· repeat first | exact .h | apply AtK.t); (· rfl)) | (apply zA H; (· repeat first | exact .h | apply AtK.t)) | (apply zS H; (· repeat first | exact .h | apply AtK.t); (· rfl); (conv => whnf); clear H; intro τ H) | rw [List.length_map]); (refine wX ?_)))
          refine ⟨(i + 1, w, E, τ), ⟨h, by dsimp only; rw [hstep, if_neg (by decide)]; exact hw, H⟩, by dsimp only; omega, Sub.refl _, ?_⟩
          (refine wX ?_)
          (repeat' first | with_reducible exact EnvLe.refl _ | (refine EnvLe.node ?_ (by first | exact Or.inl rfl | exact Or.inr (Or.inl rfl) | exact Or.inr (Or.inr ⟨nofun, VLe.slice _ _ _⟩)) ?_))
      · skip
        cases is
        · skip
          (refine wX ?_)
          (repeat ((first | refine zI (by omega) ?_ | refine zE (by omega) (by omega) ?_ | refine zD (by omega) (by omega) ?_ | refine zY (by omega) ?_ | refine zN (by omega) ?_ | refine amin ?_ | refine amax ?_ | refine zU (by omega) ?_ | refine z8 (by omega) ?_ | refine zX (by omega) (by omega) ?_ | refine zR rfl ?_ | refine acellA ?_ | refine zB H b1 rfl ?_ | refine zC H b1 ?_ | (apply zL H; (· repeat first | exact .h | apply AtK.t); (· rfl)) | (apply zA H; (· repeat first | exact .h | apply AtK.t)) | (apply zS H; (· repeat first | exact .h | apply AtK.t); (· rfl); (conv => whnf); clear H; intro τ H) | rw [List.length_map]); (refine wX ?_)))
          refine ⟨(i + 1, w, E, τ), ⟨h, by dsimp only; rw [hstep, if_neg (by decide)]; exact hw, H⟩, by dsimp only; omega, Sub.refl _, ?_⟩
          (refine wX ?_)
          (repeat' first | with_reducible exact EnvLe.refl _ | (refine EnvLe.node ?_ (by first | exact Or.inl rfl | exact Or.inr (Or.inl rfl) | exact Or.inr (Or.inr ⟨nofun, VLe.slice _ _ _⟩)) ?_))
        · skip
          rw [if_pos (by decide)] at hstep
          (refine wX ?_)
          cases hw with
          | nil =>
            (refine wX ?_)
            (repeat ((first | refine zI (by omega) ?_ | refine zE (by omega) (by omega) ?_ | refine zD (by omega) (by omega) ?_ | refine zY (by omega) ?_ | refine zN (by omega) ?_ | refine amin ?_ | refine amax ?_ | refine zU (by omega) ?_ | refine z8 (by omega) ?_ | refine zX (by omega) (by omega) ?_ | refine zR rfl ?_ | refine acellA ?_ | refine zB H b1 rfl ?_ | refine zC H b1 ?_ | (apply zL H; (· repeat first | exact .h | apply AtK.t); (· rfl)) | (apply zA H; (· repeat first | exact .h | apply AtK.t)) | (apply zS H; (· repeat first | exact .h | apply AtK.t); (· rfl); (conv => whnf); clear H; intro τ H) | rw [List.length_map]); (refine wX ?_)))
            rw [show (([] : List AVal).length : Int) = 0 from rfl]
            (refine wX ?_)
            (repeat ((first | refine zI (by omega) ?_ | refine zE (by omega) (by omega) ?_ | refine zD (by omega) (by omega) ?_ | refine zY (by omega) ?_ | refine zN (by omega) ?_ | refine amin ?_ | refine amax ?_ | refine zU (by omega) ?_ | refine z8 (by omega) ?_ | refine zX (by omega) (by omega) ?_ | refine zR rfl ?_ | refine acellA ?_ | refine zB H b1 rfl ?_ | refine zC H b1 ?_ | (apply zL H; (· repeat first | exact .h | apply AtK.t); (· rfl)) | (apply zA H; (· repeat first | exact .h | apply AtK.t)) | (apply zS H; (· repeat first | exact .h | apply AtK.t); (· rfl); (conv => whnf); clear H; intro τ H) | rw [List.length_map]); (refine wX ?_)))
            refine happnew H (List.cons_ne_nil _ _) (show 1 * 16 ≤ 140737488355328 by decide) rfl fun r2 τ2 H2 => ?_
            clear H
            have H := H2
            clear H2
            (refine wX ?_)
            (repeat ((first | refine zI (by omega) ?_ | refine zE (by omega) (by omega) ?_ | refine zD (by omega) (by omega) ?_ | refine zY (by omega) ?_ | refine zN (by omega) ?_ | refine amin ?_ | refine amax ?_ | refine zU (by omega) ?_ | refine z8 (by omega) ?_ | refine zX (by omega) (by omega) ?_ | refine zR rfl ?_ | refine acellA ?_ | refine zB H b1 rfl ?_ | refine zC H b1 ?_ | (apply zL H; (· repeat first | exact .h | apply AtK.t); (· rfl)) | (apply zA H; (· repeat first | exact .h | apply AtK.t)) | (apply zS H; (· repeat first | exact .h | apply AtK.t); (· rfl); (conv => whnf); clear H; intro τ H) | rw [List.length_map]); (refine wX ?_)))
            refine ⟨(i + 1, .ms r2 2 0 1, [.o r2 (.cells (spC [((i : Int), (i : Int) + 1)]))], τ2), ⟨h, by dsimp only; rw [hstep]; exact .row r2 [((i : Int), (i : Int) + 1)] (by simp), H⟩, by dsimp only; omega, Sub.refl _, ?_⟩
            (refine wX ?_)
            (repeat' first | with_reducible exact EnvLe.refl _ | (refine EnvLe.node ?_ (by first | exact Or.inl rfl | exact Or.inr (Or.inl rfl) | exact Or.inr (Or.inr ⟨nofun, VLe.slice _ _ _⟩)) ?_))
          | row r _ hne2 =>
            rcases snoc_cases R with hR | ⟨R0, z, rfl⟩
            · exact (hne2 hR).elim
            rw [List.length_append, List.length_singleton] at hlen
            rw [addEnd_snoc] at hstep
            have hg := (spC_get (l := R0 ++ [z]) (i := R0.length) (by simp)).2
            rw [show (R0 ++ [z])[R0.length]'(by simp) = z by simp] at hg
            rw [show (R0 ++ [z]).length = R0.length + 1 by simp] at *
            (repeat ((first | refine zI (by omega) ?_ | refine zE (by omega) (by omega) ?_ | refine zD (by omega) (by omega) ?_ | refine zY (by omega) ?_ | refine zN (by omega) ?_ | refine amin ?_ | refine amax ?_ | refine zU (by omega) ?_ | refine z8 (by omega) ?_ | refine zX (by omega) (by omega) ?_ | refine zR rfl ?_ | refine acellA ?_ | refine zB H b1 rfl ?_ | refine zC H b1 ?_ | (apply zL H; (· repeat first | exact .h | apply AtK.t); (· rfl)) | (apply zA H; (· repeat first | exact .h | apply AtK.t)) | (apply zS H; (· repeat first | exact .h | apply AtK.t); (· rfl); (conv => whnf); clear H; intro τ H) | rw [List.length_map]); (refine wX ?_)))
            rw [show 0 + (((R0.length + 1 : Nat) : Int) - 1).toNat * 2 + 1 = R0.length * 2 + 1 by omega]
            refine aload (H.get (k := 0) rfl) hg ?_
            (refine wX ?_)
            by_cases hz : z.2 = (i : Int)
            · rw [if_pos hz] at hstep
              (repeat ((first | refine zI (by omega) ?_ | refine zE (by omega) (by omega) ?_ | refine zD (by omega) (by omega) ?_ | refine zY (by omega) ?_ | refine zN (by omega) ?_ | refine amin ?_ | refine amax ?_ | refine zU (by omega) ?_ | refine z8 (by omega) ?_ | refine zX (by omega) (by omega) ?_ | refine zR rfl ?_ | refine acellA ?_ | refine zB H b1 rfl ?_ | refine zC H b1 ?_ | (apply zL H; (· repeat first | exact .h | apply AtK.t); (· rfl)) | (apply zA H; (· repeat first | exact .h | apply AtK.t)) | (apply zS H; (· repeat first | exact .h | apply AtK.t); (· rfl); (conv => whnf); clear H; intro τ H) | rw [List.length_map]); (refine wX ?_)))
              rw [show 0 + (((R0.length + 1 : Nat) : Int) - 1).toNat * 2 + 1 = R0.length * 2 + 1 by omega]
              refine astore (H.get (k := 0) rfl) (by rw [spC_len, List.length_append]; show R0.length * 2 + 1 + 1 ≤ (R0.length + 1) * 2; omega) rfl (spC_last R0 z _) ?_
              replace H := H.set (k := 0) rfl (.cells (spC (R0 ++ [(z.1, (i : Int) + 1)])))
              generalize upd τ r _ = υ at *
              (refine wX ?_)
              (repeat ((first | refine zI (by omega) ?_ | refine zE (by omega) (by omega) ?_ | refine zD (by omega) (by omega) ?_ | refine zY (by omega) ?_ | refine zN (by omega) ?_ | refine amin ?_ | refine amax ?_ | refine zU (by omega) ?_ | refine z8 (by omega) ?_ | refine zX (by omega) (by omega) ?_ | refine zR rfl ?_ | refine acellA ?_ | refine zB H b1 rfl ?_ | refine zC H b1 ?_ | (apply zL H; (· repeat first | exact .h | apply AtK.t); (· rfl)) | (apply zA H; (· repeat first | exact .h | apply AtK.t)) | (apply zS H; (· repeat first | exact .h | apply AtK.t); (· rfl); (conv => whnf); clear H; intro τ H) | rw [List.length_map]); (refine wX ?_)))
              refine ⟨(i + 1, .ms r 2 0 (R0.length + 1), [.o r (.cells (spC (R0 ++ [(z.1, (i : Int) + 1)])))], υ), ⟨h, by dsimp only; rw [hstep]; exact RS2.row' r _ (by simp) (by simp), H⟩, by dsimp only; omega, Sub.refl _, ?_⟩
              (refine wX ?_)
              (repeat' first | with_reducible exact EnvLe.refl _ | (refine EnvLe.node ?_ (by first | exact Or.inl rfl | exact Or.inr (Or.inl rfl) | exact Or.inr (Or.inr ⟨nofun, VLe.slice _ _ _⟩)) ?_))
            · rw [if_neg hz] at hstep
              (repeat ((first | refine zI (by omega) ?_ | refine zE (by omega) (by omega) ?_ | refine zD (by omega) (by omega) ?_ | refine zY (by omega) ?_ | refine zN (by omega) ?_ | refine amin ?_ | refine amax ?_ | refine zU (by omega) ?_ | refine z8 (by omega) ?_ | refine zX (by omega) (by omega) ?_ | refine zR rfl ?_ | refine acellA ?_ | refine zB H b1 rfl ?_ | refine zC H b1 ?_ | (apply zL H; (· repeat first | exact .h | apply AtK.t); (· rfl)) | (apply zA H; (· repeat first | exact .h | apply AtK.t)) | (apply zS H; (· repeat first | exact .h | apply AtK.t); (· rfl); (conv => whnf); clear H; intro τ H) | rw [List.length_map]); (refine wX ?_)))
              refine happm H (k := 0) rfl (by rw [spC_len, List.length_append]; simp) (by simp only [List.length_singleton]; omega) rfl fun r2 τ2 H2 => ?_
              clear H
              have H := H2
              rw [spC_snoc (R0 ++ [z]) i ((i : Int) + 1)] at H
              clear H2
              (refine wX ?_)
              (repeat ((first | refine zI (by omega) ?_ | refine zE (by omega) (by omega) ?_ | refine zD (by omega) (by omega) ?_ | refine zY (by omega) ?_ | refine zN (by omega) ?_ | refine amin ?_ | refine amax ?_ | refine zU (by omega) ?_ | refine z8 (by omega) ?_ | refine zX (by omega) (by omega) ?_ | refine zR rfl ?_ | refine acellA ?_ | refine zB H b1 rfl ?_ | refine zC H b1 ?_ | (apply zL H; (· repeat first | exact .h | apply AtK.t); (· rfl)) | (apply zA H; (· repeat first | exact .h | apply AtK.t)) | (apply zS H; (· repeat first | exact .h | apply AtK.t); (· rfl); (conv => whnf); clear H; intro τ H) | rw [List.length_map]); (refine wX ?_)))
              refine ⟨(i + 1, .ms r2 2 0 (R0.length + 1 + 1), [.o r2 (.cells (spC ((R0 ++ [z]) ++ [((i : Int), (i : Int) + 1)])))], τ2), ⟨h, by dsimp only; rw [hstep]; exact RS2.row' r2 _ (by simp) (by simp), H⟩, by dsimp only; omega, Sub.refl _, ?_⟩
              (refine wX ?_)
              (repeat' first | with_reducible exact EnvLe.refl _ | (refine EnvLe.node ?_ (by first | exact Or.inl rfl | exact Or.inr (Or.inl rfl) | exact Or.inr (Or.inr ⟨nofun, VLe.slice _ _ _⟩)) ?_))
  · have hit : i = to := by omega
    subst hit
    (repeat ((first | refine zI (by omega) ?_ | refine zE (by omega) (by omega) ?_ | refine zD (by omega) (by omega) ?_ | refine zY (by omega) ?_ | refine zN (by omega) ?_ | refine amin ?_ | refine amax ?_ | refine zU (by omega) ?_ | refine z8 (by omega) ?_ | refine zX (by omega) (by omega) ?_ | refine zR rfl ?_ | refine acellA ?_ | refine zB H b1 rfl ?_ | refine zC H b1 ?_ | (apply zL H; (· repeat first | exact .h | apply AtK.t); (· rfl)) | (apply zA H; (· repeat first | exact .h | apply AtK.t)) | (apply zS H; (· repeat first | exact .h | apply AtK.t); (· rfl); (conv => whnf); clear H; intro τ H) | rw [List.length_map]); (refine wX ?_)))
    exact aret (VLe.refl _) (Sub.refl _) ⟨E, hw, H.left⟩
end
end Go.Proofs.Ytgobbmdbkmjlnaa
/-
  The document's sets of places: what their functions change.
-/
namespace Go.Proofs.Ytgobbmdbkmjlnaa
set_option linter.unusedVariables false
set_option linter.unusedSimpArgs false
open Go Go.Am

/-- A span's places changed. -/
structure Withs (L L' : List Bool) (x : Sp) (is : Bool) : Prop where
  len : L'.length = max L.length x.2.toNat
  bit : ∀ i : Nat, bitT L' i = if x.1 ≤ (i : Int) ∧ (i : Int) < x.2 then is else bitT L i
section
variable {σ : AHeap} {v : AVal} {L : List Bool}
set_option maxRecDepth 20000 in
set_option maxHeartbeats 4000000 in
theorem rWith03 (hd : TOk σ v L) (x : Sp) (is : Bool) (hL : L.length ≤ 100000) (hx : 0 ≤ x.1 ∧ x.1 < x.2 ∧ x.2 ≤ 65536) : ACalls Try.prog i_bowlineref03_Set_with [.agg [v], spV x, boolv is] σ fun w σ' => ∃ v' L' E, w = .agg [v'] ∧ RT2 v' L' E ∧ Withs L L' x is ∧ Hp σ E σ' := by
  obtain ⟨a, b⟩ := x
  dsimp only at hx
  obtain ⟨a, rfl⟩ := Int.eq_ofNat_of_zero_le hx.1
  obtain ⟨b, rfl⟩ := Int.eq_ofNat_of_zero_le (show 0 ≤ b by omega)
  have hvc := hd.isCell
  refine km_bowlineref03_Set_with rfl ?_
  have H := Hp.nil σ
  (refine wX ?_)
  refine hnew H (by simp [AVal.cells, hvc]) ?_
  clear H
  intro js τ H
  replace H : Hp σ [.o js (.cells [v])] τ := H
  (refine wX ?_)
  refine hnew H rfl ?_
  clear H
  intro jx τ H
  (refine wX ?_)
  refine hnew H rfl ?_
  clear H
  intro jo τ H
  (refine wX ?_)
  replace H : Hp σ [.o jo (.cells [.slice 1 [] .full]), .o jx (.cells [i64v a, i64v b]), .o js (.cells [v])] τ := H
  (repeat ((first | refine zI (by omega) ?_ | refine zE (by omega) (by omega) ?_ | refine zD (by omega) (by omega) ?_ | refine zY (by omega) ?_ | refine zN (by omega) ?_ | refine amin ?_ | refine amax ?_ | refine zU (by omega) ?_ | refine z8 (by omega) ?_ | refine zX (by omega) (by omega) ?_ | refine zR rfl ?_ | refine acellA ?_ | refine zB H b1 rfl ?_ | refine zC H b1 ?_ | (apply zL H; (· repeat first | exact .h | apply AtK.t); (· rfl)) | (apply zA H; (· repeat first | exact .h | apply AtK.t)) | (apply zS H; (· repeat first | exact .h | apply AtK.t); (· rfl); (conv => whnf); clear H; intro τ H) | rw [List.length_map]); (refine wX ?_)))
  rcases hd with ⟨rfl, hLn⟩ | ⟨r0, rfl, b1, hne0⟩
  · (refine wX ?_)
    refine aappnew_none (by simp) ?_
    (refine wX ?_)
    (repeat ((first | refine zI (by omega) ?_ | refine zE (by omega) (by omega) ?_ | refine zD (by omega) (by omega) ?_ | refine zY (by omega) ?_ | refine zN (by omega) ?_ | refine amin ?_ | refine amax ?_ | refine zU (by omega) ?_ | refine z8 (by omega) ?_ | refine zX (by omega) (by omega) ?_ | refine zR rfl ?_ | refine acellA ?_ | refine zB H b1 rfl ?_ | refine zC H b1 ?_ | (apply zL H; (· repeat first | exact .h | apply AtK.t); (· rfl)) | (apply zA H; (· repeat first | exact .h | apply AtK.t)) | (apply zS H; (· repeat first | exact .h | apply AtK.t); (· rfl); (conv => whnf); clear H; intro τ H) | rw [List.length_map]); (refine wX ?_)))
    refine aloop (α := AVal × List Bool × List HE × AHeap) (fun y => [(s7, y.1)]) (fun y => y.2.2.2) (fun y => RT2 y.1 y.2.1 y.2.2.1 ∧ L.length ≤ y.2.1.length ∧ y.2.1.length ≤ max L.length b ∧ (∀ i, bitT y.2.1 i = bitT L i) ∧ Hp σ (y.2.2.1 ++ [.o jo (.cells [.slice 1 [] .full]), .o jx (.cells [i64v a, i64v b]), .o js (.cells [AVal.slice 1 [] .full])]) y.2.2.2) (fun y => b - y.2.1.length) (.slice 1 [] .full, [], [], τ) ⟨.nil, by rw [hLn]; exact Nat.le_refl _, by simp, fun i => by rw [hLn], H⟩ (Sub.refl _) ?_ ?_
    · (refine wX ?_)
      (repeat' first | with_reducible exact EnvLe.refl _ | (refine EnvLe.node ?_ (by first | exact Or.inl rfl | exact Or.inr (Or.inl rfl) | exact Or.inr (Or.inr ⟨nofun, VLe.slice _ _ _⟩)) ?_))
    clear H
    rintro ⟨w, xs, E, τ⟩ ⟨hw, n0, n1, hb, H⟩
    dsimp only at hw n0 n1 hb H ⊢
    cases hw with
    | nil =>
      have hl0 : L.length = 0 := Nat.le_zero.1 n0
      replace H : Hp σ [.o jo (.cells [.slice 1 [] .full]), .o jx (.cells [i64v a, i64v b]), .o js (.cells [AVal.slice 1 [] .full])] τ := H
      (refine wX ?_)
      (repeat ((first | refine zI (by omega) ?_ | refine zE (by omega) (by omega) ?_ | refine zD (by omega) (by omega) ?_ | refine zY (by omega) ?_ | refine zN (by omega) ?_ | refine amin ?_ | refine amax ?_ | refine zU (by omega) ?_ | refine z8 (by omega) ?_ | refine zX (by omega) (by omega) ?_ | refine zR rfl ?_ | refine acellA ?_ | refine zB H b1 rfl ?_ | refine zC H b1 ?_ | (apply zL H; (· repeat first | exact .h | apply AtK.t); (· rfl)) | (apply zA H; (· repeat first | exact .h | apply AtK.t)) | (apply zS H; (· repeat first | exact .h | apply AtK.t); (· rfl); (conv => whnf); clear H; intro τ H) | rw [List.length_map]); (refine wX ?_)))
      rw [show (([] : List AVal).length : Int) = 0 from rfl]
      (refine wX ?_)
      (repeat ((first | refine zI (by omega) ?_ | refine zE (by omega) (by omega) ?_ | refine zD (by omega) (by omega) ?_ | refine zY (by omega) ?_ | refine zN (by omega) ?_ | refine amin ?_ | refine amax ?_ | refine zU (by omega) ?_ | refine z8 (by omega) ?_ | refine zX (by omega) (by omega) ?_ | refine zR rfl ?_ | refine acellA ?_ | refine zB H b1 rfl ?_ | refine zC H b1 ?_ | (apply zL H; (· repeat first | exact .h | apply AtK.t); (· rfl)) | (apply zA H; (· repeat first | exact .h | apply AtK.t)) | (apply zS H; (· repeat first | exact .h | apply AtK.t); (· rfl); (conv => whnf); clear H; intro τ H) | rw [List.length_map]); (refine wX ?_)))
      refine (rt_app .nil (E := []) H (by simp) false ?_).1 _ _ rfl
      intro w2 E2 τ2 hw2 H2
      (refine wX ?_)
      refine ⟨(w2, [] ++ [false], E2, τ2), ⟨hw2, by show L.length ≤ 1; omega, by show 1 ≤ max L.length b; omega, fun i => by dsimp only; rw [bitT_snoc]; exact hb i, H2⟩, by show b - 1 < b - 0; omega, Sub.refl _, ?_⟩
      (refine wX ?_)
      (repeat' first | with_reducible exact EnvLe.refl _ | (refine EnvLe.node ?_ (by first | exact Or.inl rfl | exact Or.inr (Or.inl rfl) | exact Or.inr (Or.inr ⟨nofun, VLe.slice _ _ _⟩)) ?_))
    | row r _ hne =>
      replace H : Hp σ (.o r (.cells (xs.map boolv)) :: [.o jo (.cells [.slice 1 [] .full]), .o jx (.cells [i64v a, i64v b]), .o js (.cells [AVal.slice 1 [] .full])]) τ := H
      (refine wX ?_)
      (repeat ((first | refine zI (by omega) ?_ | refine zE (by omega) (by omega) ?_ | refine zD (by omega) (by omega) ?_ | refine zY (by omega) ?_ | refine zN (by omega) ?_ | refine amin ?_ | refine amax ?_ | refine zU (by omega) ?_ | refine z8 (by omega) ?_ | refine zX (by omega) (by omega) ?_ | refine zR rfl ?_ | refine acellA ?_ | refine zB H b1 rfl ?_ | refine zC H b1 ?_ | (apply zL H; (· repeat first | exact .h | apply AtK.t); (· rfl)) | (apply zA H; (· repeat first | exact .h | apply AtK.t)) | (apply zS H; (· repeat first | exact .h | apply AtK.t); (· rfl); (conv => whnf); clear H; intro τ H) | rw [List.length_map]); (refine wX ?_)))
      by_cases hlt : xs.length < b
      · (repeat ((first | refine zI (by omega) ?_ | refine zE (by omega) (by omega) ?_ | refine zD (by omega) (by omega) ?_ | refine zY (by omega) ?_ | refine zN (by omega) ?_ | refine amin ?_ | refine amax ?_ | refine zU (by omega) ?_ | refine z8 (by omega) ?_ | refine zX (by omega) (by omega) ?_ | refine zR rfl ?_ | refine acellA ?_ | refine zB H b1 rfl ?_ | refine zC H b1 ?_ | (apply zL H; (· repeat first | exact .h | apply AtK.t); (· rfl)) | (apply zA H; (· repeat first | exact .h | apply AtK.t)) | (apply zS H; (· repeat first | exact .h | apply AtK.t); (· rfl); (conv => whnf); clear H; intro τ H) | rw [List.length_map]); (refine wX ?_)))
        refine (rt_app (.row r xs hne) (E := [.o r (.cells (xs.map boolv))]) H (by omega) false ?_).2 _ _ rfl
        intro w2 E2 τ2 hw2 H2
        (refine wX ?_)
        refine ⟨(w2, xs ++ [false], E2, τ2), ⟨hw2, by dsimp only; rw [List.length_append]; omega, by dsimp only; rw [List.length_append, List.length_singleton]; omega, fun i => by dsimp only; rw [bitT_snoc]; exact hb i, H2⟩, by dsimp only; rw [List.length_append, List.length_singleton]; omega, Sub.refl _, ?_⟩
        (refine wX ?_)
        (repeat' first | with_reducible exact EnvLe.refl _ | (refine EnvLe.node ?_ (by first | exact Or.inl rfl | exact Or.inr (Or.inl rfl) | exact Or.inr (Or.inr ⟨nofun, VLe.slice _ _ _⟩)) ?_))
      · have hn : xs.length = max L.length b := by omega
        (repeat ((first | refine zI (by omega) ?_ | refine zE (by omega) (by omega) ?_ | refine zD (by omega) (by omega) ?_ | refine zY (by omega) ?_ | refine zN (by omega) ?_ | refine amin ?_ | refine amax ?_ | refine zU (by omega) ?_ | refine z8 (by omega) ?_ | refine zX (by omega) (by omega) ?_ | refine zR rfl ?_ | refine acellA ?_ | refine zB H b1 rfl ?_ | refine zC H b1 ?_ | (apply zL H; (· repeat first | exact .h | apply AtK.t); (· rfl)) | (apply zA H; (· repeat first | exact .h | apply AtK.t)) | (apply zS H; (· repeat first | exact .h | apply AtK.t); (· rfl); (conv => whnf); clear H; intro τ H) | rw [List.length_map]); (refine wX ?_)))
        refine aloop (α := Nat × List Bool × AHeap) (fun y => [(s8, i64v y.1)]) (fun y => y.2.2) (fun y => a ≤ y.1 ∧ y.1 ≤ b ∧ y.2.1.length = xs.length ∧ (∀ j : Nat, bitT y.2.1 j = if a ≤ j ∧ j < y.1 then is else bitT L j) ∧ Hp σ (.o r (.cells (y.2.1.map boolv)) :: [.o jo (.cells [.slice 1 [] .full]), .o jx (.cells [i64v a, i64v b]), .o js (.cells [AVal.slice 1 [] .full])]) y.2.2) (fun y => b - y.1)
          (a, xs, τ) ⟨Nat.le_refl _, by dsimp only; omega, rfl, fun j => by dsimp only; rw [if_neg (by omega)]; exact hb j, H⟩ (Sub.refl _) ?_ ?_
        · (refine wX ?_)
          (repeat' first | with_reducible exact EnvLe.refl _ | (refine EnvLe.node ?_ (by first | exact Or.inl rfl | exact Or.inr (Or.inl rfl) | exact Or.inr (Or.inr ⟨nofun, VLe.slice _ _ _⟩)) ?_))
        clear H
        rintro ⟨i, ys, τ⟩ ⟨hi0, hi1, hyl, hy, H⟩
        dsimp only at hi0 hi1 hyl hy H ⊢
        (refine wX ?_)
        (repeat ((first | refine zI (by omega) ?_ | refine zE (by omega) (by omega) ?_ | refine zD (by omega) (by omega) ?_ | refine zY (by omega) ?_ | refine zN (by omega) ?_ | refine amin ?_ | refine amax ?_ | refine zU (by omega) ?_ | refine z8 (by omega) ?_ | refine zX (by omega) (by omega) ?_ | refine zR rfl ?_ | refine acellA ?_ | refine zB H b1 rfl ?_ | refine zC H b1 ?_ | (apply zL H; (· repeat first | exact .h | apply AtK.t); (· rfl)) | (apply zA H; (· repeat first | exact .h | apply AtK.t)) | (apply zS H; (· repeat first | exact .h | apply AtK.t); (· rfl); (conv => whnf); clear H; intro τ H) | rw [List.length_map]); (refine wX ?_)))
        by_cases hib : i < b
        · (repeat ((first | refine zI (by omega) ?_ | refine zE (by omega) (by omega) ?_ | refine zD (by omega) (by omega) ?_ | refine zY (by omega) ?_ | refine zN (by omega) ?_ | refine amin ?_ | refine amax ?_ | refine zU (by omega) ?_ | refine z8 (by omega) ?_ | refine zX (by omega) (by omega) ?_ | refine zR rfl ?_ | refine acellA ?_ | refine zB H b1 rfl ?_ | refine zC H b1 ?_ | (apply zL H; (· repeat first | exact .h | apply AtK.t); (· rfl)) | (apply zA H; (· repeat first | exact .h | apply AtK.t)) | (apply zS H; (· repeat first | exact .h | apply AtK.t); (· rfl); (conv => whnf); clear H; intro τ H) | rw [List.length_map]); (refine wX ?_)))
          refine rt_set H (q := i) (by omega) is fun τ2 H2 => ?_
          clear H
          have H := H2
          clear H2
          (refine wX ?_)
          (repeat ((first | refine zI (by omega) ?_ | refine zE (by omega) (by omega) ?_ | refine zD (by omega) (by omega) ?_ | refine zY (by omega) ?_ | refine zN (by omega) ?_ | refine amin ?_ | refine amax ?_ | refine zU (by omega) ?_ | refine z8 (by omega) ?_ | refine zX (by omega) (by omega) ?_ | refine zR rfl ?_ | refine acellA ?_ | refine zB H b1 rfl ?_ | refine zC H b1 ?_ | (apply zL H; (· repeat first | exact .h | apply AtK.t); (· rfl)) | (apply zA H; (· repeat first | exact .h | apply AtK.t)) | (apply zS H; (· repeat first | exact .h | apply AtK.t); (· rfl); (conv => whnf); clear H; intro τ H) | rw [List.length_map]); (refine wX ?_)))
          refine ⟨(i + 1, ys.set i is, τ2), ⟨by dsimp only; omega, by dsimp only; omega, by dsimp only; rw [List.length_set]; exact hyl, fun j => ?_, H⟩, by dsimp only; omega, Sub.refl _, ?_⟩
          · dsimp only
            rw [bitT_set (by omega), hy j]
            by_cases e : j = i
            · rw [if_pos e, if_pos (by omega)]
            · rw [if_neg e]
              by_cases c : a ≤ j ∧ j < i
              · rw [if_pos c, if_pos (by omega)]
              · rw [if_neg c, if_neg (by omega)]
          · (refine wX ?_)
            (repeat' first | with_reducible exact EnvLe.refl _ | (refine EnvLe.node ?_ (by first | exact Or.inl rfl | exact Or.inr (Or.inl rfl) | exact Or.inr (Or.inr ⟨nofun, VLe.slice _ _ _⟩)) ?_))
        · (repeat ((first | refine zI (by omega) ?_ | refine zE (by omega) (by omega) ?_ | refine zD (by omega) (by omega) ?_ | refine zY (by omega) ?_ | refine zN (by omega) ?_ | refine amin ?_ | refine amax ?_ | refine zU (by omega) ?_ | refine z8 (by omega) ?_ | refine zX (by omega) (by omega) ?_ | refine zR rfl ?_ | refine acellA ?_ | refine zB H b1 rfl ?_ | refine zC H b1 ?_ | (apply zL H; (· repeat first | exact .h | apply AtK.t); (· rfl)) | (apply zA H; (· repeat first | exact .h | apply AtK.t)) | (apply zS H; (· repeat first | exact .h | apply AtK.t); (· rfl); (conv => whnf); clear H; intro τ H) | rw [List.length_map]); (refine wX ?_)))
          have hres : RT2 (.ms r 1 0 xs.length) ys [.o r (.cells (ys.map boolv))] := by
            rw [← hyl]; exact .row r ys (fun h => by rw [h] at hyl; simp at hyl; omega)
          exact aret (VLe.refl _) (Sub.refl _) ⟨_, ys, _, rfl, hres, ⟨by rw [hyl, hn]; simp, fun j => by
            rw [hy j]
            by_cases c : a ≤ j ∧ j < i
            · rw [if_pos c, if_pos (by dsimp only; omega)]
            · rw [if_neg c, if_neg (by dsimp only; omega)]⟩, H.left (L := [_])⟩
  · (refine wX ?_)
    rw [AView_def]
    refine ⟨L.map boolv, H.ext _ _ rfl b1, by simp, ?_⟩
    rw [List.drop_zero, List.take_of_length_le (by simp)]
    refine happnew H (fun h => hne0 (List.map_eq_nil_iff.1 h)) (by rw [List.length_map]; omega) (truths_ok L) fun r1 τ1 H1 => ?_
    clear H
    have H := H1
    clear H1
    rw [truths_flat] at H
    rw [List.length_map]
    (refine wX ?_)
    (repeat ((first | refine zI (by omega) ?_ | refine zE (by omega) (by omega) ?_ | refine zD (by omega) (by omega) ?_ | refine zY (by omega) ?_ | refine zN (by omega) ?_ | refine amin ?_ | refine amax ?_ | refine zU (by omega) ?_ | refine z8 (by omega) ?_ | refine zX (by omega) (by omega) ?_ | refine zR rfl ?_ | refine acellA ?_ | refine zB H b1 rfl ?_ | refine zC H b1 ?_ | (apply zL H; (· repeat first | exact .h | apply AtK.t); (· rfl)) | (apply zA H; (· repeat first | exact .h | apply AtK.t)) | (apply zS H; (· repeat first | exact .h | apply AtK.t); (· rfl); (conv => whnf); clear H; intro τ H) | rw [List.length_map]); (refine wX ?_)))
    refine aloop (α := AVal × List Bool × List HE × AHeap) (fun y => [(s7, y.1)]) (fun y => y.2.2.2) (fun y => RT2 y.1 y.2.1 y.2.2.1 ∧ L.length ≤ y.2.1.length ∧ y.2.1.length ≤ max L.length b ∧ (∀ i, bitT y.2.1 i = bitT L i) ∧ Hp σ (y.2.2.1 ++ [.o jo (.cells [.slice 1 [] .full]), .o jx (.cells [i64v a, i64v b]), .o js (.cells [.ms r0 1 0 L.length])]) y.2.2.2) (fun y => b - y.2.1.length) (.ms r1 1 0 L.length, L, [.o r1 (.cells (L.map boolv))], τ1) ⟨.row r1 L hne0, Nat.le_refl _, Nat.le_max_left _ _, fun i => rfl, H⟩ (Sub.refl _) ?_ ?_
    · (refine wX ?_)
      (repeat' first | with_reducible exact EnvLe.refl _ | (refine EnvLe.node ?_ (by first | exact Or.inl rfl | exact Or.inr (Or.inl rfl) | exact Or.inr (Or.inr ⟨nofun, VLe.slice _ _ _⟩)) ?_))
    clear H
    rintro ⟨w, xs, E, τ⟩ ⟨hw, n0, n1, hb, H⟩
    dsimp only at hw n0 n1 hb H ⊢
    cases hw with
    | nil =>
      have hl0 : L.length = 0 := Nat.le_zero.1 n0
      replace H : Hp σ [.o jo (.cells [.slice 1 [] .full]), .o jx (.cells [i64v a, i64v b]), .o js (.cells [.ms r0 1 0 L.length])] τ := H
      (refine wX ?_)
      (repeat ((first | refine zI (by omega) ?_ | refine zE (by omega) (by omega) ?_ | refine zD (by omega) (by omega) ?_ | refine zY (by omega) ?_ | refine zN (by omega) ?_ | refine amin ?_ | refine amax ?_ | refine zU (by omega) ?_ | refine z8 (by omega) ?_ | refine zX (by omega) (by omega) ?_ | refine zR rfl ?_ | refine acellA ?_ | refine zB H b1 rfl ?_ | refine zC H b1 ?_ | (apply zL H; (· repeat first | exact .h | apply AtK.t); (· rfl)) | (apply zA H; (· repeat first | exact .h | apply AtK.t)) | (apply zS H; (· repeat first | exact .h | apply AtK.t); (· rfl); (conv => whnf); clear H; intro τ H) | rw [List.length_map]); (refine wX ?_)))
      rw [show (([] : List AVal).length : Int) = 0 from rfl]
      (refine wX ?_)
      (repeat ((first | refine zI (by omega) ?_ | refine zE (by omega) (by omega) ?_ | refine zD (by omega) (by omega) ?_ | refine zY (by omega) ?_ | refine zN (by omega) ?_ | refine amin ?_ | refine amax ?_ | refine zU (by omega) ?_ | refine z8 (by omega) ?_ | refine zX (by omega) (by omega) ?_ | refine zR rfl ?_ | refine acellA ?_ | refine zB H b1 rfl ?_ | refine zC H b1 ?_ | (apply zL H; (· repeat first | exact .h | apply AtK.t); (· rfl)) | (apply zA H; (· repeat first | exact .h | apply AtK.t)) | (apply zS H; (· repeat first | exact .h | apply AtK.t); (· rfl); (conv => whnf); clear H; intro τ H) | rw [List.length_map]); (refine wX ?_)))
      refine (rt_app .nil (E := []) H (by simp) false ?_).1 _ _ rfl
      intro w2 E2 τ2 hw2 H2
      (refine wX ?_)
      refine ⟨(w2, [] ++ [false], E2, τ2), ⟨hw2, by show L.length ≤ 1; omega, by show 1 ≤ max L.length b; omega, fun i => by dsimp only; rw [bitT_snoc]; exact hb i, H2⟩, by show b - 1 < b - 0; omega, Sub.refl _, ?_⟩
      (refine wX ?_)
      (repeat' first | with_reducible exact EnvLe.refl _ | (refine EnvLe.node ?_ (by first | exact Or.inl rfl | exact Or.inr (Or.inl rfl) | exact Or.inr (Or.inr ⟨nofun, VLe.slice _ _ _⟩)) ?_))
    | row r _ hne =>
      replace H : Hp σ (.o r (.cells (xs.map boolv)) :: [.o jo (.cells [.slice 1 [] .full]), .o jx (.cells [i64v a, i64v b]), .o js (.cells [.ms r0 1 0 L.length])]) τ := H
      (refine wX ?_)
      (repeat ((first | refine zI (by omega) ?_ | refine zE (by omega) (by omega) ?_ | refine zD (by omega) (by omega) ?_ | refine zY (by omega) ?_ | refine zN (by omega) ?_ | refine amin ?_ | refine amax ?_ | refine zU (by omega) ?_ | refine z8 (by omega) ?_ | refine zX (by omega) (by omega) ?_ | refine zR rfl ?_ | refine acellA ?_ | refine zB H b1 rfl ?_ | refine zC H b1 ?_ | (apply zL H; (· repeat first | exact .h | apply AtK.t); (· rfl)) | (apply zA H; (· repeat first | exact .h | apply AtK.t)) | (apply zS H; (· repeat first | exact .h | apply AtK.t); (· rfl); (conv => whnf); clear H; intro τ H) | rw [List.length_map]); (refine wX ?_)))
      by_cases hlt : xs.length < b
      · (repeat ((first | refine zI (by omega) ?_ | refine zE (by omega) (by omega) ?_ | refine zD (by omega) (by omega) ?_ | refine zY (by omega) ?_ | refine zN (by omega) ?_ | refine amin ?_ | refine amax ?_ | refine zU (by omega) ?_ | refine z8 (by omega) ?_ | refine zX (by omega) (by omega) ?_ | refine zR rfl ?_ | refine acellA ?_ | refine zB H b1 rfl ?_ | refine zC H b1 ?_ | (apply zL H; (· repeat first | exact .h | apply AtK.t); (· rfl)) | (apply zA H; (· repeat first | exact .h | apply AtK.t)) | (apply zS H; (· repeat first | exact .h | apply AtK.t); (· rfl); (conv => whnf); clear H; intro τ H) | rw [List.length_map]); (refine wX ?_)))
        refine (rt_app (.row r xs hne) (E := [.o r (.cells (xs.map boolv))]) H (by omega) false ?_).2 _ _ rfl
        intro w2 E2 τ2 hw2 H2
        (refine wX ?_)
        refine ⟨(w2, xs ++ [false], E2, τ2), ⟨hw2, by dsimp only; rw [List.length_append]; omega, by dsimp only; rw [List.length_append, List.length_singleton]; omega, fun i => by dsimp only; rw [bitT_snoc]; exact hb i, H2⟩, by dsimp only; rw [List.length_append, List.length_singleton]; omega, Sub.refl _, ?_⟩
        (refine wX ?_)
        (repeat' first | with_reducible exact EnvLe.refl _ | (refine EnvLe.node ?_ (by first | exact Or.inl rfl | exact Or.inr (Or.inl rfl) | exact Or.inr (Or.inr ⟨nofun, VLe.slice _ _ _⟩)) ?_))
      · have hn : xs.length = max L.length b := by omega
        (repeat ((first | refine zI (by omega) ?_ | refine zE (by omega) (by omega) ?_ | refine zD (by omega) (by omega) ?_ | refine zY (by omega) ?_ | refine zN (by omega) ?_ | refine amin ?_ | refine amax ?_ | refine zU (by omega) ?_ | refine z8 (by omega) ?_ | refine zX (by omega) (by omega) ?_ | refine zR rfl ?_ | refine acellA ?_ | refine zB H b1 rfl ?_ | refine zC H b1 ?_ | (apply zL H; (· repeat first | exact .h | apply AtK.t); (· rfl)) | (apply zA H; (· repeat first | exact .h | apply AtK.t)) | (apply zS H; (· repeat first | exact .h | apply AtK.t); (· rfl); (conv => whnf); clear H; intro τ H) | rw [List.length_map]); (refine wX ?_)))
        refine aloop (α := Nat × List Bool × AHeap) (fun y => [(s8, i64v y.1)]) (fun y => y.2.2) (fun y => a ≤ y.1 ∧ y.1 ≤ b ∧ y.2.1.length = xs.length ∧ (∀ j : Nat, bitT y.2.1 j = if a ≤ j ∧ j < y.1 then is else bitT L j) ∧ Hp σ (.o r (.cells (y.2.1.map boolv)) :: [.o jo (.cells [.slice 1 [] .full]), .o jx (.cells [i64v a, i64v b]), .o js (.cells [.ms r0 1 0 L.length])]) y.2.2) (fun y => b - y.1)
          (a, xs, τ) ⟨Nat.le_refl _, by dsimp only; omega, rfl, fun j => by dsimp only; rw [if_neg (by omega)]; exact hb j, H⟩ (Sub.refl _) ?_ ?_
        · (refine wX ?_)
          (repeat' first | with_reducible exact EnvLe.refl _ | (refine EnvLe.node ?_ (by first | exact Or.inl rfl | exact Or.inr (Or.inl rfl) | exact Or.inr (Or.inr ⟨nofun, VLe.slice _ _ _⟩)) ?_))
        clear H
        rintro ⟨i, ys, τ⟩ ⟨hi0, hi1, hyl, hy, H⟩
        dsimp only at hi0 hi1 hyl hy H ⊢
        (refine wX ?_)
        (repeat ((first | refine zI (by omega) ?_ | refine zE (by omega) (by omega) ?_ | refine zD (by omega) (by omega) ?_ | refine zY (by omega) ?_ | refine zN (by omega) ?_ | refine amin ?_ | refine amax ?_ | refine zU (by omega) ?_ | refine z8 (by omega) ?_ | refine zX (by omega) (by omega) ?_ | refine zR rfl ?_ | refine acellA ?_ | refine zB H b1 rfl ?_ | refine zC H b1 ?_ | (apply zL H; (· repeat first | exact .h | apply AtK.t); (· rfl)) | (apply zA H; (· repeat first | exact .h | apply AtK.t)) | (apply zS H; (· repeat first | exact .h | apply AtK.t); (· rfl); (conv => whnf); clear H; intro τ H) | rw [List.length_map]); (refine wX ?_)))
        by_cases hib : i < b
        · (repeat ((first | refine zI (by omega) ?_ | refine zE (by omega) (by omega) ?_ | refine zD (by omega) (by omega) ?_ | refine zY (by omega) ?_ | refine zN (by omega) ?_ | refine amin ?_ | refine amax ?_ | refine zU (by omega) ?_ | refine z8 (by omega) ?_ | refine zX (by omega) (by omega) ?_ | refine zR rfl ?_ | refine acellA ?_ | refine zB H b1 rfl ?_ | refine zC H b1 ?_ | (apply zL H; (· repeat first | exact .h | apply AtK.t); (· rfl)) | (apply zA H; (· repeat first | exact .h | apply AtK.t)) | (apply zS H; (· repeat first | exact .h | apply AtK.t); (· rfl); (conv => whnf); clear H; intro τ H) | rw [List.length_map]); (refine wX ?_)))
          refine rt_set H (q := i) (by omega) is fun τ2 H2 => ?_
          clear H
          have H := H2
          clear H2
          (refine wX ?_)
          (repeat ((first | refine zI (by omega) ?_ | refine zE (by omega) (by omega) ?_ | refine zD (by omega) (by omega) ?_ | refine zY (by omega) ?_ | refine zN (by omega) ?_ | refine amin ?_ | refine amax ?_ | refine zU (by omega) ?_ | refine z8 (by omega) ?_ | refine zX (by omega) (by omega) ?_ | refine zR rfl ?_ | refine acellA ?_ | refine zB H b1 rfl ?_ | refine zC H b1 ?_ | (apply zL H; (· repeat first | exact .h | apply AtK.t); (· rfl)) | (apply zA H; (· repeat first | exact .h | apply AtK.t)) | (apply zS H; (· repeat first | exact .h | apply AtK.t); (· rfl); (conv => whnf); clear H; intro τ H) | rw [List.length_map]); (refine wX ?_)))
          refine ⟨(i + 1, ys.set i is, τ2), ⟨by dsimp only; omega, by dsimp only; omega, by dsimp only; rw [List.length_set]; exact hyl, fun j => ?_, H⟩, by dsimp only; omega, Sub.refl _, ?_⟩
          · dsimp only
            rw [bitT_set (by omega), hy j]
            by_cases e : j = i
            · rw [if_pos e, if_pos (by omega)]
            · rw [if_neg e]
              by_cases c : a ≤ j ∧ j < i
              · rw [if_pos c, if_pos (by omega)]
              · rw [if_neg c, if_neg (by omega)]
          · (refine wX ?_)
            (repeat' first | with_reducible exact EnvLe.refl _ | (refine EnvLe.node ?_ (by first | exact Or.inl rfl | exact Or.inr (Or.inl rfl) | exact Or.inr (Or.inr ⟨nofun, VLe.slice _ _ _⟩)) ?_))
        · (repeat ((first | refine zI (by omega) ?_ | refine zE (by omega) (by omega) ?_ | refine zD (by omega) (by omega) ?_ | refine zY (by omega) ?_ | refine zN (by omega) ?_ | refine amin ?_ | refine amax ?_ | refine zU (by omega) ?_ | refine z8 (by omega) ?_ | refine zX (by omega) (by omega) ?_ | refine zR rfl ?_ | refine acellA ?_ | refine zB H b1 rfl ?_ | refine zC H b1 ?_ | (apply zL H; (· repeat first | exact .h | apply AtK.t); (· rfl)) | (apply zA H; (· repeat first | exact .h | apply AtK.t)) | (apply zS H; (· repeat first | exact .h | apply AtK.t); (· rfl); (conv => whnf); clear H; intro τ H) | rw [List.length_map]); (refine wX ?_)))
          have hres : RT2 (.ms r 1 0 xs.length) ys [.o r (.cells (ys.map boolv))] := by
            rw [← hyl]; exact .row r ys (fun h => by rw [h] at hyl; simp at hyl; omega)
          exact aret (VLe.refl _) (Sub.refl _) ⟨_, ys, _, rfl, hres, ⟨by rw [hyl, hn]; simp, fun j => by
            rw [hy j]
            by_cases c : a ≤ j ∧ j < i
            · rw [if_pos c, if_pos (by dsimp only; omega)]
            · rw [if_neg c, if_neg (by dsimp only; omega)]⟩, H.left (L := [_])⟩
end
theorem rSpans03 {σ : AHeap} {v : AVal} {L : List Bool} (hd : TOk σ v L) (hL : L.length ≤ 65536) : ACalls Try.prog i_bowlineref03_Set_Spans [.agg [v]] σ fun w σ' => ∃ E, RS2 w (runT L true L.length) E ∧ Hp σ E σ' := by
  have hvc := hd.isCell
  refine k_bowlineref03_Set_Spans rfl ?_
  have H := Hp.nil σ
  (refine wX ?_)
  refine hnew H (by simp [AVal.cells, hvc]) ?_
  clear H
  intro js τ H
  replace H : Hp σ [.o js (.cells [v])] τ := H
  (refine wX ?_)
  (repeat ((first | refine zI (by omega) ?_ | refine zE (by omega) (by omega) ?_ | refine zD (by omega) (by omega) ?_ | refine zY (by omega) ?_ | refine zN (by omega) ?_ | refine amin ?_ | refine amax ?_ | refine zU (by omega) ?_ | refine z8 (by omega) ?_ | refine zX (by omega) (by omega) ?_ | refine zR rfl ?_ | refine acellA ?_ | refine zB H b1 rfl ?_ | refine zC H b1 ?_ | (apply zL H; (· repeat first | exact .h | apply AtK.t); (· rfl)) | (apply zA H; (· repeat first | exact .h | apply AtK.t)) | (apply zS H; (· repeat first | exact .h | apply AtK.t); (· rfl); (conv => whnf); clear H; intro τ H) | rw [List.length_map]); (refine wX ?_)))
  have hd2 : TOk τ v L := by
    rcases hd with h | ⟨r, h1, h2, h3⟩
    · exact .inl h
    · exact .inr ⟨r, h1, H.ext _ _ rfl h2, h3⟩
  have hlen : ∀ {K : AVal → AHeap → Prop} {env : Env} {d : Pth}, True := trivial
  clear hlen
  have hcall := rRuns03 hd2 true L.length (by omega) hL
  rcases hd with ⟨rfl, rfl⟩ | ⟨r, rfl, b1, hne⟩
  · (refine wX ?_)
    (repeat ((first | refine zI (by omega) ?_ | refine zE (by omega) (by omega) ?_ | refine zD (by omega) (by omega) ?_ | refine zY (by omega) ?_ | refine zN (by omega) ?_ | refine amin ?_ | refine amax ?_ | refine zU (by omega) ?_ | refine z8 (by omega) ?_ | refine zX (by omega) (by omega) ?_ | refine zR rfl ?_ | refine acellA ?_ | refine zB H b1 rfl ?_ | refine zC H b1 ?_ | (apply zL H; (· repeat first | exact .h | apply AtK.t); (· rfl)) | (apply zA H; (· repeat first | exact .h | apply AtK.t)) | (apply zS H; (· repeat first | exact .h | apply AtK.t); (· rfl); (conv => whnf); clear H; intro τ H) | rw [List.length_map]); (refine wX ?_)))
    refine acall hcall ?_
    rintro _ υ ⟨E, hE, N⟩
    refine ⟨?_, N.ext⟩
    (refine wX ?_)
    exact aret (VLe.refl _) (Sub.refl _) ⟨E, hE, (H.join N).left⟩
  · (refine wX ?_)
    (repeat ((first | refine zI (by omega) ?_ | refine zE (by omega) (by omega) ?_ | refine zD (by omega) (by omega) ?_ | refine zY (by omega) ?_ | refine zN (by omega) ?_ | refine amin ?_ | refine amax ?_ | refine zU (by omega) ?_ | refine z8 (by omega) ?_ | refine zX (by omega) (by omega) ?_ | refine zR rfl ?_ | refine acellA ?_ | refine zB H b1 rfl ?_ | refine zC H b1 ?_ | (apply zL H; (· repeat first | exact .h | apply AtK.t); (· rfl)) | (apply zA H; (· repeat first | exact .h | apply AtK.t)) | (apply zS H; (· repeat first | exact .h | apply AtK.t); (· rfl); (conv => whnf); clear H; intro τ H) | rw [List.length_map]); (refine wX ?_)))
    refine acall hcall ?_
    rintro _ υ ⟨E, hE, N⟩
    refine ⟨?_, N.ext⟩
    (refine wX ?_)
    exact aret (VLe.refl _) (Sub.refl _) ⟨E, hE, (H.join N).left⟩
theorem dtK2 : ∀ {cs : List AVal} {off : Nat} {x y : AVal} {K : List AVal → Prop}, cs[off]? = some x → cs[off + 1]? = some y → K [x, y] → dtK cs off 2 K
  | [], _, _, _, _, h, _, _ => by simp at h
  | c :: cs, off + 1, x, y, K, h1, h2, h => dtK2 (cs := cs) (by simpa using h1) (by simpa using h2) h
  | c :: [], 0, x, y, K, h1, h2, h => by simp at h2
  | c :: d :: cs, 0, x, y, K, h1, h2, h => by
    have e1 : c = x := by simpa using h1
    have e2 : d = y := by simpa using h2
    subst e1 e2
    cases cs <;> exact h
/-- Equal rows? -/
theorem rSame03 {σ : AHeap} {w : AVal} {a b : List Sp} {t : Tok} {E : List HE} {σb : AHeap} (hw : RS2 w b E) (H : Hp σb E σ) (ha : a.length ≤ 100000) : ACalls Try.prog i_bowlineref03_Same [spL t a, w] σ fun v σ' => v = boolv (decide (a = b)) ∧ σ' = σ := by
  refine k_bowlineref03_Same rfl ?_
  cases hw with
  | nil =>
    (refine wX ?_)
    rw [show (([] : List AVal).length : Int) = 0 from rfl]
    cases a with
    | nil =>
      (repeat ((first | refine zI (by omega) ?_ | refine zE (by omega) (by omega) ?_ | refine zD (by omega) (by omega) ?_ | refine zY (by omega) ?_ | refine zN (by omega) ?_ | refine amin ?_ | refine amax ?_ | refine zU (by omega) ?_ | refine z8 (by omega) ?_ | refine zX (by omega) (by omega) ?_ | refine zR rfl ?_ | refine acellA ?_ | refine zB H b1 rfl ?_ | refine zC H b1 ?_ | (apply zL H; (· repeat first | exact .h | apply AtK.t); (· rfl)) | (apply zA H; (· repeat first | exact .h | apply AtK.t)) | (apply zS H; (· repeat first | exact .h | apply AtK.t); (· rfl); (conv => whnf); clear H; intro τ H) | rw [List.length_map]); (refine wX ?_)))
      refine aloop (α := Nat) (fun i => [(s5, i64v i)]) (fun _ => σ) (fun i => i = 0) (fun i => 0) 0 rfl (Sub.refl _) ?_ ?_
      · (refine wX ?_)
        (repeat' first | with_reducible exact EnvLe.refl _ | (refine EnvLe.node ?_ (by first | exact Or.inl rfl | exact Or.inr (Or.inl rfl) | exact Or.inr (Or.inr ⟨nofun, VLe.slice _ _ _⟩)) ?_))
      rintro i rfl
      (refine wX ?_)
      exact aret_same ⟨rfl, rfl⟩
    | cons x a =>
      refine abr_yes (by simp; omega) ?_
      (refine wX ?_)
      exact aret_same ⟨rfl, rfl⟩
  | row r _ hne =>
    have b1 : σ r = some (.cells (spC b)) := H.get (k := 0) rfl
    (refine wX ?_)
    rw [List.length_map]
    by_cases hl : a.length = b.length
    · (repeat ((first | refine zI (by omega) ?_ | refine zE (by omega) (by omega) ?_ | refine zD (by omega) (by omega) ?_ | refine zY (by omega) ?_ | refine zN (by omega) ?_ | refine amin ?_ | refine amax ?_ | refine zU (by omega) ?_ | refine z8 (by omega) ?_ | refine zX (by omega) (by omega) ?_ | refine zR rfl ?_ | refine acellA ?_ | refine zB H b1 rfl ?_ | refine zC H b1 ?_ | (apply zL H; (· repeat first | exact .h | apply AtK.t); (· rfl)) | (apply zA H; (· repeat first | exact .h | apply AtK.t)) | (apply zS H; (· repeat first | exact .h | apply AtK.t); (· rfl); (conv => whnf); clear H; intro τ H) | rw [List.length_map]); (refine wX ?_)))
      refine aloop (α := Nat) (fun i => [(s5, i64v i)]) (fun _ => σ) (fun i => i ≤ a.length ∧ a.take i = b.take i) (fun i => a.length - i) 0 ⟨Nat.zero_le _, rfl⟩ (Sub.refl _) ?_ ?_
      · (refine wX ?_)
        (repeat' first | with_reducible exact EnvLe.refl _ | (refine EnvLe.node ?_ (by first | exact Or.inl rfl | exact Or.inr (Or.inl rfl) | exact Or.inr (Or.inr ⟨nofun, VLe.slice _ _ _⟩)) ?_))
      rintro i ⟨hi, he⟩
      (refine wX ?_)
      rw [List.length_map]
      by_cases h : i < a.length
      · have hb : i < b.length := by omega
        (repeat ((first | refine zI (by omega) ?_ | refine zE (by omega) (by omega) ?_ | refine zD (by omega) (by omega) ?_ | refine zY (by omega) ?_ | refine zN (by omega) ?_ | refine amin ?_ | refine amax ?_ | refine zU (by omega) ?_ | refine z8 (by omega) ?_ | refine zX (by omega) (by omega) ?_ | refine zR rfl ?_ | refine acellA ?_ | refine zB H b1 rfl ?_ | refine zC H b1 ?_ | (apply zL H; (· repeat first | exact .h | apply AtK.t); (· rfl)) | (apply zA H; (· repeat first | exact .h | apply AtK.t)) | (apply zS H; (· repeat first | exact .h | apply AtK.t); (· rfl); (conv => whnf); clear H; intro τ H) | rw [List.length_map]); (refine wX ?_)))
        refine aget (by omega) (get_sp h) ?_
        (refine wX ?_)
        (repeat ((first | refine zI (by omega) ?_ | refine zE (by omega) (by omega) ?_ | refine zD (by omega) (by omega) ?_ | refine zY (by omega) ?_ | refine zN (by omega) ?_ | refine amin ?_ | refine amax ?_ | refine zU (by omega) ?_ | refine z8 (by omega) ?_ | refine zX (by omega) (by omega) ?_ | refine zR rfl ?_ | refine acellA ?_ | refine zB H b1 rfl ?_ | refine zC H b1 ?_ | (apply zL H; (· repeat first | exact .h | apply AtK.t); (· rfl)) | (apply zA H; (· repeat first | exact .h | apply AtK.t)) | (apply zS H; (· repeat first | exact .h | apply AtK.t); (· rfl); (conv => whnf); clear H; intro τ H) | rw [List.length_map]); (refine wX ?_)))
        have hg := spC_get hb
        rw [show 0 + ((i : Nat) : Int).toNat * 2 = i * 2 by omega]
        refine dtK2 hg.1 hg.2 ?_
        (refine wX ?_)
        by_cases hq : a[i] = b[i]
        · rw [hq]
          refine abr_false (by simp) ?_
          (refine wX ?_)
          (repeat ((first | refine zI (by omega) ?_ | refine zE (by omega) (by omega) ?_ | refine zD (by omega) (by omega) ?_ | refine zY (by omega) ?_ | refine zN (by omega) ?_ | refine amin ?_ | refine amax ?_ | refine zU (by omega) ?_ | refine z8 (by omega) ?_ | refine zX (by omega) (by omega) ?_ | refine zR rfl ?_ | refine acellA ?_ | refine zB H b1 rfl ?_ | refine zC H b1 ?_ | (apply zL H; (· repeat first | exact .h | apply AtK.t); (· rfl)) | (apply zA H; (· repeat first | exact .h | apply AtK.t)) | (apply zS H; (· repeat first | exact .h | apply AtK.t); (· rfl); (conv => whnf); clear H; intro τ H) | rw [List.length_map]); (refine wX ?_)))
          refine ⟨i + 1, ⟨h, by rw [List.take_add_one, List.take_add_one, List.getElem?_eq_getElem h, List.getElem?_eq_getElem hb, he, hq]⟩, by omega, Sub.refl _, ?_⟩
          (refine wX ?_)
          (repeat' first | with_reducible exact EnvLe.refl _ | (refine EnvLe.node ?_ (by first | exact Or.inl rfl | exact Or.inr (Or.inl rfl) | exact Or.inr (Or.inr ⟨nofun, VLe.slice _ _ _⟩)) ?_))
        · have hq2 : ¬ (a[i].1 = b[i].1 ∧ a[i].2 = b[i].2) := fun e => hq (Prod.ext e.1 e.2)
          refine abr_true (by simp; exact Decidable.not_and_iff_or_not.1 hq2) ?_
          (refine wX ?_)
          exact aret_same ⟨congrArg boolv (decide_eq_false (fun e => hq (by subst e; rfl))).symm, rfl⟩
      · (repeat ((first | refine zI (by omega) ?_ | refine zE (by omega) (by omega) ?_ | refine zD (by omega) (by omega) ?_ | refine zY (by omega) ?_ | refine zN (by omega) ?_ | refine amin ?_ | refine amax ?_ | refine zU (by omega) ?_ | refine z8 (by omega) ?_ | refine zX (by omega) (by omega) ?_ | refine zR rfl ?_ | refine acellA ?_ | refine zB H b1 rfl ?_ | refine zC H b1 ?_ | (apply zL H; (· repeat first | exact .h | apply AtK.t); (· rfl)) | (apply zA H; (· repeat first | exact .h | apply AtK.t)) | (apply zS H; (· repeat first | exact .h | apply AtK.t); (· rfl); (conv => whnf); clear H; intro τ H) | rw [List.length_map]); (refine wX ?_)))
        rw [List.take_of_length_le (by omega), List.take_of_length_le (by omega)] at he
        exact aret_same ⟨congrArg boolv (decide_eq_true he).symm, rfl⟩
    · refine abr_yes (by omega) ?_
      (refine wX ?_)
      exact aret_same ⟨congrArg boolv (decide_eq_false (fun e => hl (by rw [e]))).symm, rfl⟩
theorem lAs {σ : AHeap} {l : List Sp} (t : Tok) (hl : l.length ≤ 100000) : ACalls Try.prog i_bowlinelaw03_As [spL t l] σ fun v σ' => v = spL .none l ∧ σ' = σ := by
  refine k_bowlinelaw03_As rfl ?_
  have H := Hp.nil σ
  (refine wX ?_)
  refine aloop (α := Nat × Tok × AHeap) (fun y => [(s4, i64v y.1), (s3, spL y.2.1 (l.take y.1))]) (fun y => y.2.2) (fun y => y.1 ≤ l.length ∧ Hp σ [.t y.2.1] y.2.2) (fun y => l.length - y.1) (0, .full, σ) ⟨Nat.zero_le _, H.cons_full⟩ (Sub.refl _) ?_ ?_
  · (refine wX ?_)
    (repeat' first | with_reducible exact EnvLe.refl _ | (refine EnvLe.node ?_ (by first | exact Or.inl rfl | exact Or.inr (Or.inl rfl) | exact Or.inr (Or.inr ⟨nofun, VLe.slice _ _ _⟩)) ?_))
  clear H
  rintro ⟨i, tk, τ⟩ ⟨hi, H⟩
  dsimp only at hi H ⊢
  (refine wX ?_)
  by_cases h : i < l.length
  · (repeat ((first | refine zI (by omega) ?_ | refine zE (by omega) (by omega) ?_ | refine zD (by omega) (by omega) ?_ | refine zY (by omega) ?_ | refine zN (by omega) ?_ | refine amin ?_ | refine amax ?_ | refine zU (by omega) ?_ | refine z8 (by omega) ?_ | refine zX (by omega) (by omega) ?_ | refine zR rfl ?_ | refine acellA ?_ | (apply zL H; (· repeat first | exact .h | apply AtK.t); (· rfl)) | (apply zA H; (· repeat first | exact .h | apply AtK.t)) | (apply zS H; (· repeat first | exact .h | apply AtK.t); (· rfl); (conv => whnf); clear H; intro τ H) | rw [List.length_map]); (refine wX ?_)))
    refine aget (by omega) (get_sp h) ?_
    (refine wX ?_)
    (repeat ((first | refine zI (by omega) ?_ | refine zE (by omega) (by omega) ?_ | refine zD (by omega) (by omega) ?_ | refine zY (by omega) ?_ | refine zN (by omega) ?_ | refine amin ?_ | refine amax ?_ | refine zU (by omega) ?_ | refine z8 (by omega) ?_ | refine zX (by omega) (by omega) ?_ | refine zR rfl ?_ | refine acellA ?_ | (apply zL H; (· repeat first | exact .h | apply AtK.t); (· rfl)) | (apply zA H; (· repeat first | exact .h | apply AtK.t)) | (apply zS H; (· repeat first | exact .h | apply AtK.t); (· rfl); (conv => whnf); clear H; intro τ H) | rw [List.length_map]); (refine wX ?_)))
    refine aget (by omega) (get_sp h) ?_
    (refine wX ?_)
    (repeat ((first | refine zI (by omega) ?_ | refine zE (by omega) (by omega) ?_ | refine zD (by omega) (by omega) ?_ | refine zY (by omega) ?_ | refine zN (by omega) ?_ | refine amin ?_ | refine amax ?_ | refine zU (by omega) ?_ | refine z8 (by omega) ?_ | refine zX (by omega) (by omega) ?_ | refine zR rfl ?_ | refine acellA ?_ | (apply zL H; (· repeat first | exact .h | apply AtK.t); (· rfl)) | (apply zA H; (· repeat first | exact .h | apply AtK.t)) | (apply zS H; (· repeat first | exact .h | apply AtK.t); (· rfl); (conv => whnf); clear H; intro τ H) | rw [List.length_map]); (refine wX ?_)))
    apply zP H
    · (repeat first | exact .h | apply AtK.t)
    · exact (by rw [List.length_map, List.length_take]; show (_ + 1) * 16 ≤ _; omega)
    intro tk2
    (conv => whnf)
    clear H
    intro τ H
    (refine wX ?_)
    rw [show [AVal.agg [i64v l[i].1, i64v l[i].2]] = [spV l[i]] from rfl, sp_snoc]
    (repeat ((first | refine zI (by omega) ?_ | refine zE (by omega) (by omega) ?_ | refine zD (by omega) (by omega) ?_ | refine zY (by omega) ?_ | refine zN (by omega) ?_ | refine amin ?_ | refine amax ?_ | refine zU (by omega) ?_ | refine z8 (by omega) ?_ | refine zX (by omega) (by omega) ?_ | refine zR rfl ?_ | refine acellA ?_ | (apply zL H; (· repeat first | exact .h | apply AtK.t); (· rfl)) | (apply zA H; (· repeat first | exact .h | apply AtK.t)) | (apply zS H; (· repeat first | exact .h | apply AtK.t); (· rfl); (conv => whnf); clear H; intro τ H) | rw [List.length_map]); (refine wX ?_)))
    refine ⟨(i + 1, tk2, τ), ⟨h, H⟩, by dsimp only; omega, Sub.refl _, ?_⟩
    dsimp only
    rw [List.take_add_one, List.getElem?_eq_getElem h]
    (refine wX ?_)
    (repeat' first | with_reducible exact EnvLe.refl _ | (refine EnvLe.node ?_ (by first | exact Or.inl rfl | exact Or.inr (Or.inl rfl) | exact Or.inr (Or.inr ⟨nofun, VLe.slice _ _ _⟩)) ?_))
  · rw [List.take_of_length_le (by omega)]
    (repeat ((first | refine zI (by omega) ?_ | refine zE (by omega) (by omega) ?_ | refine zD (by omega) (by omega) ?_ | refine zY (by omega) ?_ | refine zN (by omega) ?_ | refine amin ?_ | refine amax ?_ | refine zU (by omega) ?_ | refine z8 (by omega) ?_ | refine zX (by omega) (by omega) ?_ | refine zR rfl ?_ | refine acellA ?_ | (apply zL H; (· repeat first | exact .h | apply AtK.t); (· rfl)) | (apply zA H; (· repeat first | exact .h | apply AtK.t)) | (apply zS H; (· repeat first | exact .h | apply AtK.t); (· rfl); (conv => whnf); clear H; intro τ H) | rw [List.length_map]); (refine wX ?_)))
    exact aret (VLe.slice _ _ _) H.sub ⟨rfl, rfl⟩
end Go.Proofs.Ytgobbmdbkmjlnaa
/-
  The statements of spans: what lives; in whatever order spans are put in.
-/
namespace Go.Proofs.Ytgobbmdbkmjlnaa
set_option linter.unusedVariables false
set_option linter.unusedSimpArgs false
open Go Go.Am

end Go.Proofs.Ytgobbmdbkmjlnaa
/-
  The statements of spans: what was put in is there; what was taken out is not.
-/
namespace Go.Proofs.Ytgobbmdbkmjlnaa
set_option linter.unusedVariables false
set_option linter.unusedSimpArgs false
open Go Go.Am

theorem countP_split {f g : Nat → Bool} : ∀ {l : List Nat}, (∀ i ∈ l, g i = true → f i = true) → l.countP f = l.countP (fun i => f i && !g i) + l.countP g
  | [], _ => rfl
  | x :: l, h => by
    have ih := countP_split (f := f) (g := g) (l := l) fun i hi => h i (List.mem_cons_of_mem _ hi)
    have hx := h x (List.mem_cons_self ..)
    rw [List.countP_cons, List.countP_cons, List.countP_cons, ih]
    cases hg : g x <;> cases hf : f x
    · simp
    · simp; omega
    · rw [hg, hf] at hx; exact absurd (hx rfl) (by decide)
    · simp; omega
theorem countP_mid {a b : Nat} (h : a ≤ b) : ∀ {n : Nat}, (List.range n).countP (fun i => decide (a ≤ i ∧ i < b)) = min n b - min n a
  | 0 => by simp
  | n + 1 => by
    rw [List.range_succ, List.countP_append, countP_mid h, List.countP_cons, List.countP_nil]
    by_cases c : a ≤ n ∧ n < b
    · rw [decide_eq_true c]; simp; omega
    · rw [decide_eq_false c]; simp; omega
def hasBs (l : List Sp) (p : Int) : Bool := l.any fun y => decide (y.1 ≤ p ∧ p < y.2)
theorem hasBs_iff {l : List Sp} {p : Int} : hasBs l p = true ↔ hasP l p := by
  unfold hasBs hasP
  rw [List.any_eq_true]
  exact ⟨fun ⟨y, hy, h⟩ => ⟨y, hy, of_decide_eq_true h⟩, fun ⟨y, hy, h⟩ => ⟨y, hy, decide_eq_true h⟩⟩
theorem SOk.bound {l : List Sp} (h : SOk l) {p : Int} (k : hasP l p) : 0 ≤ p ∧ p < 65536 := by
  obtain ⟨y, hy, q⟩ := k
  have := h.mem y hy
  omega
theorem SOk.cnt {l : List Sp} (h : SOk l) {n : Nat} (hn : n = 65536) : cntL l = ((List.range n).countP (fun i : Nat => hasBs l i) : Int) := by
  refine cnt_runs (by omega) h.n fun p => ?_
  constructor
  · intro k
    have := h.bound k
    exact ⟨this.1, by omega, by rw [Int.toNat_of_nonneg this.1]; exact hasBs_iff.2 k⟩
  · rintro ⟨h1, h2, h3⟩
    rw [Int.toNat_of_nonneg h1] at h3
    exact hasBs_iff.1 h3
theorem SOk.cnt_le {l : List Sp} (h : SOk l) : 0 ≤ cntL l ∧ cntL l ≤ 65536 := by
  obtain ⟨n, hn⟩ : ∃ n : Nat, n = 65536 := ⟨_, rfl⟩
  have := h.cnt hn
  have := List.countP_le_length (p := fun i : Nat => hasBs l i) (l := List.range n)
  rw [List.length_range] at this
  omega
end Go.Proofs.Ytgobbmdbkmjlnaa
/-
  The statements of spans: what is there and the gaps are all places, each once.
-/
namespace Go.Proofs.Ytgobbmdbkmjlnaa
set_option linter.unusedVariables false
set_option linter.unusedSimpArgs false
open Go Go.Am

def inL (to : Int) : List Sp → Int
  | [] => 0
  | y :: l => (if y.1 < to then min y.2 to - y.1 else 0) + inL to l
theorem gaps_all {to : Int} : ∀ {l : List Sp} {k : Int}, Nrm (k - 1) l → cntL (gapsL to k l) + inL to l = if k < to then to - k else 0
  | [], k, _ => by
    unfold gapsL inL
    split
    · show (to - k + 0) + 0 = _; omega
    · rfl
  | y :: l, k, ⟨g1, g2, g3, g4⟩ => by
    have ih := gaps_all (to := to) (l := l) (k := y.2) (g4.weak (by omega))
    unfold gapsL inL
    split at ih <;> rename_i c1
    · by_cases c2 : y.1 > k ∧ k < to
      · rw [if_pos c2, if_pos (by omega), if_pos (by omega)]
        show (min y.1 to - k + cntL (gapsL to y.2 l)) + _ = _
        omega
      · rw [if_neg c2, if_pos (by omega), if_pos (by omega)]
        show cntL (gapsL to y.2 l) + _ = _
        omega
    · by_cases c2 : y.1 > k ∧ k < to
      · rw [if_pos c2, if_pos c2.2]
        show (min y.1 to - k + cntL (gapsL to y.2 l)) + _ = _
        split <;> omega
      · rw [if_neg c2]
        show cntL (gapsL to y.2 l) + _ = _
        split <;> split <;> omega
end Go.Proofs.Ytgobbmdbkmjlnaa
/-
  The statements of spans: what is there and the gaps, told by the statement.
-/
namespace Go.Proofs.Ytgobbmdbkmjlnaa
set_option linter.unusedVariables false
set_option linter.unusedSimpArgs false
open Go Go.Am

def insV (to : Int) (l : List Sp) : Int := if 1 ≤ to ∧ to ≤ 65536 then inL to l else 0
theorem SOk.part {l : List Sp} (h : SOk l) (i : Nat) : SOk (l.take i) := ⟨Nrm.init (m := l.drop i) (by rw [List.take_append_drop]; exact h.n), by have := h.k; rw [List.length_take]; omega⟩
theorem SOk.gaps {l : List Sp} (h : SOk l) {to : Int} (ht : 1 ≤ to ∧ to ≤ 65536) : (gapsV to l).length ≤ 2049 ∧ Nrm (-1) (gapsV to l) ∧ (∀ y ∈ gapsV to l, spRight y = true ∧ y.2 ≤ to ∧ tchS y l = false) ∧ cntL (gapsV to l) + insV to l = to := by
  unfold gapsV insV
  rw [if_pos ht, if_pos ht]
  obtain ⟨h1, h2⟩ := gapsL_spec (to := to) ht.2 (k := 0) (l := l) h.n
  refine ⟨by have := gapsL_len (to := to) (l := l) (k := 0); have := h.k; omega, h1, fun y hy => ?_, ?_⟩
  · have q := h1.mem hy
    have q2 := ((h2 (y.2 - 1)).1 ⟨y, hy, by omega, by omega⟩).2.1
    refine ⟨spRight_iff.2 (by omega), by omega, ?_⟩
    rw [Bool.eq_false_iff]
    intro k
    obtain ⟨_, p, a, b, c⟩ := (tchS_iff h).1 k
    exact ((h2 p).1 ⟨y, hy, a, b⟩).2.2 c
  · rw [gaps_all h.n, if_pos (by omega)]; omega
end Go.Proofs.Ytgobbmdbkmjlnaa
/-
  The document's sets of places against sets of spans.
-/
namespace Go.Proofs.Ytgobbmdbkmjlnaa
set_option linter.unusedVariables false
set_option linter.unusedSimpArgs false
open Go Go.Am

theorem Hp.dropmid {σb σ : AHeap} {A B C : List HE} (H : Hp σb (A ++ (B ++ C)) σ) : Hp σb (A ++ C) σ := by
  have h1 : Hp σb ((A ++ C) ++ B) σ := H.perm (by
    rw [List.append_assoc]
    exact List.Perm.append_left A List.perm_append_comm)
  exact h1.left
theorem Hp.right {σb τ : AHeap} {L M : List HE} (H : Hp σb (L ++ M) τ) : Hp σb M τ := (H.comm L M).left
theorem RT2.dvt {σb σ : AHeap} {v : AVal} {L : List Bool} {E F : List HE} (h : RT2 v L E) (H : Hp σb (F ++ E) σ) : TOk σ v L := h.dv (F := F) (G := []) (by rw [List.append_nil]; exact H)
theorem TOk.up {σ τ : AHeap} {v : AVal} {L : List Bool} (h : TOk σ v L) (e : Ext σ τ) : TOk τ v L := by
  rcases h with h | ⟨r, h1, h2, h3⟩
  · exact .inl h
  · exact .inr ⟨r, h1, e _ _ rfl h2, h3⟩
/-- What comes of a change. -/
inductive Chg (v : AVal) (L : List Bool) (x : Sp) (is : Bool) : Int → AVal → List Bool → List HE → Prop
  | arg : spRight x = false → Chg v L x is 1 v L []
  | full (M : List Bool) : spRight x = true → Withs L M x is → 2048 < (runT M true M.length).length → Chg v L x is 5 v L []
  | ok (M : List Bool) (v' : AVal) (E : List HE) : spRight x = true → Withs L M x is → (runT M true M.length).length ≤ 2048 → RT2 v' M E → Chg v L x is 0 v' M E
theorem RS2.len {w : AVal} {l : List Sp} {E : List HE} (h : RS2 w l E) : (∃ t, w = .slice 2 [] t ∧ l.length = 0) ∨ ∃ r, w = .ms r 2 0 l.length := by
  cases h with
  | nil => exact .inl ⟨_, rfl, rfl⟩
  | row r l hl => exact .inr ⟨r, rfl⟩
theorem rChange03 {σ : AHeap} {v : AVal} {L : List Bool} (hd : TOk σ v L) (x : Sp) (is : Bool) (hL : L.length ≤ 65536) : ACalls Try.prog i_bowlineref03_Set_Change [.agg [v], spV x, boolv is] σ fun w σ' => ∃ c v' L' E, w = .tup [.agg [v'], i64v c] ∧ Chg v L x is c v' L' E ∧ Hp σ E σ' := by
  obtain ⟨a, b⟩ := x
  have hvc := hd.isCell
  refine k_bowlineref03_Set_Change rfl ?_
  have H := Hp.nil σ
  (refine wX ?_)
  refine hnew H (by simp [AVal.cells, hvc]) ?_
  clear H
  intro js τ H
  replace H : Hp σ [.o js (.cells [v])] τ := H
  (refine wX ?_)
  refine hnew H rfl ?_
  clear H
  intro jx τ H
  (refine wX ?_)
  refine hnew H rfl ?_
  clear H
  intro jo τ H
  (refine wX ?_)
  replace H : Hp σ [.o jo (.cells [.slice 1 [] .full]), .o jx (.cells [i64v a, i64v b]), .o js (.cells [v])] τ := H
  (repeat ((first | refine zI (by omega) ?_ | refine zE (by omega) (by omega) ?_ | refine zD (by omega) (by omega) ?_ | refine zY (by omega) ?_ | refine zN (by omega) ?_ | refine amin ?_ | refine amax ?_ | refine zU (by omega) ?_ | refine z8 (by omega) ?_ | refine zX (by omega) (by omega) ?_ | refine zR rfl ?_ | refine acellA ?_ | (apply zL H; (· repeat first | exact .h | apply AtK.t); (· rfl)) | (apply zA H; (· repeat first | exact .h | apply AtK.t)) | (apply zS H; (· repeat first | exact .h | apply AtK.t); (· rfl); (conv => whnf); clear H; intro τ H) | rw [List.length_map]); (refine wX ?_)))
  refine acall (rRight03 (a, b) τ) ?_
  rintro _ σ_ ⟨rfl, e_⟩
  obtain rfl := e_.symm
  refine ⟨?_, Ext.refl _⟩
  (refine wX ?_)
  cases hr : spRight (a, b)
  · (refine wX ?_)
    (repeat ((first | refine zI (by omega) ?_ | refine zE (by omega) (by omega) ?_ | refine zD (by omega) (by omega) ?_ | refine zY (by omega) ?_ | refine zN (by omega) ?_ | refine amin ?_ | refine amax ?_ | refine zU (by omega) ?_ | refine z8 (by omega) ?_ | refine zX (by omega) (by omega) ?_ | refine zR rfl ?_ | refine acellA ?_ | (apply zL H; (· repeat first | exact .h | apply AtK.t); (· rfl)) | (apply zA H; (· repeat first | exact .h | apply AtK.t)) | (apply zS H; (· repeat first | exact .h | apply AtK.t); (· rfl); (conv => whnf); clear H; intro τ H) | rw [List.length_map]); (refine wX ?_)))
    refine zS H (k := 0) .h (by simp [AVal.cells, hvc]) ?_
    (conv => whnf)
    clear H
    intro τ H
    (refine wX ?_)
    (repeat ((first | refine zI (by omega) ?_ | refine zE (by omega) (by omega) ?_ | refine zD (by omega) (by omega) ?_ | refine zY (by omega) ?_ | refine zN (by omega) ?_ | refine amin ?_ | refine amax ?_ | refine zU (by omega) ?_ | refine z8 (by omega) ?_ | refine zX (by omega) (by omega) ?_ | refine zR rfl ?_ | refine acellA ?_ | (apply zL H; (· repeat first | exact .h | apply AtK.t); (· rfl)) | (apply zA H; (· repeat first | exact .h | apply AtK.t)) | (apply zS H; (· repeat first | exact .h | apply AtK.t); (· rfl); (conv => whnf); clear H; intro τ H) | rw [List.length_map]); (refine wX ?_)))
    exact aret (VLe.refl _) H.sub ⟨1, v, L, [], rfl, .arg hr, Hp.nil σ⟩
  · (refine wX ?_)
    (repeat ((first | refine zI (by omega) ?_ | refine zE (by omega) (by omega) ?_ | refine zD (by omega) (by omega) ?_ | refine zY (by omega) ?_ | refine zN (by omega) ?_ | refine amin ?_ | refine amax ?_ | refine zU (by omega) ?_ | refine z8 (by omega) ?_ | refine zX (by omega) (by omega) ?_ | refine zR rfl ?_ | refine acellA ?_ | (apply zL H; (· repeat first | exact .h | apply AtK.t); (· rfl)) | (apply zA H; (· repeat first | exact .h | apply AtK.t)) | (apply zS H; (· repeat first | exact .h | apply AtK.t); (· rfl); (conv => whnf); clear H; intro τ H) | rw [List.length_map]); (refine wX ?_)))
    have hr2 := spRight_iff.1 hr
    refine acall (rWith03 (hd.up H.ext) (a, b) is (by omega) hr2) ?_
    rintro _ υ ⟨v', M, E, rfl, hv', hw, N⟩
    refine ⟨?_, N.ext⟩
    have H2 := (H.join N).comm
    clear H
    have hM : M.length ≤ 65536 := by have := hw.len; dsimp only at this hr2; omega
    have hvc' := hv'.isCell
    (refine wX ?_)
    refine hnew H2 rfl ?_
    clear H2
    intro jt τ2 H
    replace H : Hp σ (.o jt (.cells [.slice 1 [] .full]) :: .o jo (.cells [.slice 1 [] .full]) :: .o jx (.cells [i64v a, i64v b]) :: .o js (.cells [v]) :: E) τ2 := H
    (refine wX ?_)
    refine zS H (k := 0) .h (by simp [AVal.cells, hvc']) ?_
    (conv => whnf)
    clear H
    intro τ3 H
    replace H : Hp σ (.o jt (.cells [v']) :: .o jo (.cells [.slice 1 [] .full]) :: .o jx (.cells [i64v a, i64v b]) :: .o js (.cells [v]) :: E) τ3 := H
    (refine wX ?_)
    (repeat ((first | refine zI (by omega) ?_ | refine zE (by omega) (by omega) ?_ | refine zD (by omega) (by omega) ?_ | refine zY (by omega) ?_ | refine zN (by omega) ?_ | refine amin ?_ | refine amax ?_ | refine zU (by omega) ?_ | refine z8 (by omega) ?_ | refine zX (by omega) (by omega) ?_ | refine zR rfl ?_ | refine acellA ?_ | (apply zL H; (· repeat first | exact .h | apply AtK.t); (· rfl)) | (apply zA H; (· repeat first | exact .h | apply AtK.t)) | (apply zS H; (· repeat first | exact .h | apply AtK.t); (· rfl); (conv => whnf); clear H; intro τ H) | rw [List.length_map]); (refine wX ?_)))
    refine acall (rSpans03 (hv'.dvt (F := [.o jt (.cells [v']), .o jo (.cells [.slice 1 [] .full]), .o jx (.cells [i64v a, i64v b]), .o js (.cells [v])]) H) hM) ?_
    rintro _ ω ⟨E2, hE2, N2⟩
    refine ⟨?_, N2.ext⟩
    replace H : Hp σ (.o jt (.cells [v']) :: .o jo (.cells [.slice 1 [] .full]) :: .o jx (.cells [i64v a, i64v b]) :: .o js (.cells [v]) :: E) ω := (H.join N2).right
    clear N2
    have fin : ∀ {c : Int} {w : AVal} {M2 : List Bool} {E' : List HE} {υ : AHeap}, Chg v L (a, b) is c w M2 E' → Hp σ E' υ → ∃ c' v' L' E, AVal.tup [.agg [w], i64v c] = .tup [.agg [v'], i64v c'] ∧ Chg v L (a, b) is c' v' L' E ∧ Hp σ E υ := fun h1 h2 => ⟨_, _, _, _, rfl, h1, h2⟩
    by_cases hc : 2048 < (runT M true M.length).length
    · rcases hE2.len with ⟨t, rfl, h0⟩ | ⟨r, rfl⟩
      · omega
      · (refine wX ?_)
        (repeat ((first | refine zI (by omega) ?_ | refine zE (by omega) (by omega) ?_ | refine zD (by omega) (by omega) ?_ | refine zY (by omega) ?_ | refine zN (by omega) ?_ | refine amin ?_ | refine amax ?_ | refine zU (by omega) ?_ | refine z8 (by omega) ?_ | refine zX (by omega) (by omega) ?_ | refine zR rfl ?_ | refine acellA ?_ | (apply zL H; (· repeat first | exact .h | apply AtK.t); (· rfl)) | (apply zA H; (· repeat first | exact .h | apply AtK.t)) | (apply zS H; (· repeat first | exact .h | apply AtK.t); (· rfl); (conv => whnf); clear H; intro τ H) | rw [List.length_map]); (refine wX ?_)))
        refine zS H (k := 1) (.t .h) (by simp [AVal.cells, hvc]) ?_
        (conv => whnf)
        clear H
        intro τ H
        (refine wX ?_)
        (repeat ((first | refine zI (by omega) ?_ | refine zE (by omega) (by omega) ?_ | refine zD (by omega) (by omega) ?_ | refine zY (by omega) ?_ | refine zN (by omega) ?_ | refine amin ?_ | refine amax ?_ | refine zU (by omega) ?_ | refine z8 (by omega) ?_ | refine zX (by omega) (by omega) ?_ | refine zR rfl ?_ | refine acellA ?_ | (apply zL H; (· repeat first | exact .h | apply AtK.t); (· rfl)) | (apply zA H; (· repeat first | exact .h | apply AtK.t)) | (apply zS H; (· repeat first | exact .h | apply AtK.t); (· rfl); (conv => whnf); clear H; intro τ H) | rw [List.length_map]); (refine wX ?_)))
        exact aret (VLe.refl _) H.sub (fin (.full M hr hw hc) (Hp.nil σ))
    · rcases hE2.len with ⟨t, rfl, h0⟩ | ⟨r, rfl⟩
      all_goals
        (refine wX ?_)
        (repeat ((first | refine zI (by omega) ?_ | refine zE (by omega) (by omega) ?_ | refine zD (by omega) (by omega) ?_ | refine zY (by omega) ?_ | refine zN (by omega) ?_ | refine amin ?_ | refine amax ?_ | refine zU (by omega) ?_ | refine z8 (by omega) ?_ | refine zX (by omega) (by omega) ?_ | refine zR rfl ?_ | refine acellA ?_ | (apply zL H; (· repeat first | exact .h | apply AtK.t); (· rfl)) | (apply zA H; (· repeat first | exact .h | apply AtK.t)) | (apply zS H; (· repeat first | exact .h | apply AtK.t); (· rfl); (conv => whnf); clear H; intro τ H) | rw [List.length_map]); (refine wX ?_)))
        try
          rw [show (([] : List AVal).length : Int) = 0 from rfl]
          (refine wX ?_)
          (repeat ((first | refine zI (by omega) ?_ | refine zE (by omega) (by omega) ?_ | refine zD (by omega) (by omega) ?_ | refine zY (by omega) ?_ | refine zN (by omega) ?_ | refine amin ?_ | refine amax ?_ | refine zU (by omega) ?_ | refine z8 (by omega) ?_ | refine zX (by omega) (by omega) ?_ | refine zR rfl ?_ | refine acellA ?_ | (apply zL H; (· repeat first | exact .h | apply AtK.t); (· rfl)) | (apply zA H; (· repeat first | exact .h | apply AtK.t)) | (apply zS H; (· repeat first | exact .h | apply AtK.t); (· rfl); (conv => whnf); clear H; intro τ H) | rw [List.length_map]); (refine wX ?_)))
        refine zS H (k := 1) (.t .h) (by simp [AVal.cells, hvc']) ?_
        (conv => whnf)
        clear H
        intro τ H
        (refine wX ?_)
        (repeat ((first | refine zI (by omega) ?_ | refine zE (by omega) (by omega) ?_ | refine zD (by omega) (by omega) ?_ | refine zY (by omega) ?_ | refine zN (by omega) ?_ | refine amin ?_ | refine amax ?_ | refine zU (by omega) ?_ | refine z8 (by omega) ?_ | refine zX (by omega) (by omega) ?_ | refine zR rfl ?_ | refine acellA ?_ | (apply zL H; (· repeat first | exact .h | apply AtK.t); (· rfl)) | (apply zA H; (· repeat first | exact .h | apply AtK.t)) | (apply zS H; (· repeat first | exact .h | apply AtK.t); (· rfl); (conv => whnf); clear H; intro τ H) | rw [List.length_map]); (refine wX ?_)))
        exact aret (VLe.refl _) (Sub.refl _) (fin (.ok M v' E hr hw (by omega) hv') H.tail.tail.tail.tail)
end Go.Proofs.Ytgobbmdbkmjlnaa
/-
  The statements of spans: a set tells what the document says.
-/
namespace Go.Proofs.Ytgobbmdbkmjlnaa
set_option linter.unusedVariables false
set_option linter.unusedSimpArgs false
open Go Go.Am

structure Rel (l : List Sp) (L : List Bool) : Prop where
  len : L.length ≤ 65536
  has : ∀ p : Int, hasP l p ↔ 0 ≤ p ∧ bitT L p.toNat = true
theorem bitT_lt {L : List Bool} {i : Nat} (h : bitT L i = true) : i < L.length := by
  rcases Nat.lt_or_ge i L.length with q | q
  · exact q
  · rw [bitT_no q] at h; cases h
theorem rel_run {m : List Sp} {M : List Bool} (h : Nrm (-1) m) (k : Rel m M) : runT M true M.length = m := by
  refine runs_eq k.len h fun p => ?_
  rw [k.has p]
  constructor
  · rintro ⟨a, b⟩
    exact ⟨a, by have := bitT_lt b; omega, by rw [b]; rfl⟩
  · rintro ⟨a, b, c⟩
    exact ⟨a, by simpa using c⟩
theorem rel_cnt {m : List Sp} {M : List Bool} (h : SOk m) (k : Rel m M) : ((cntT M (0, (M.length : Int)) : Nat) : Int) = cntL m := by
  rw [cnt_runs (f := bitT M) k.len h.n fun p => by
    rw [k.has p]
    exact ⟨fun ⟨a, b⟩ => ⟨a, by have := bitT_lt b; omega, b⟩, fun ⟨a, _, b⟩ => ⟨a, b⟩⟩]
  unfold cntT
  dsimp only
  rw [Int.toNat_natCast]
  congr 2
theorem rel_split {m : List Sp} {M : List Bool} {x : Sp} (hr : spRight x = true) : (x.2.toNat - x.1.toNat) = (List.range x.2.toNat).countP (fun i => decide (x.1.toNat ≤ i ∧ i < x.2.toNat) && !cntG M x.1 i) + cntT M x := by
  have hx := spRight_iff.1 hr
  have e := countP_split (f := fun i => decide (x.1.toNat ≤ i ∧ i < x.2.toNat)) (g := cntG M x.1) (l := List.range x.2.toNat) fun i hi hg => by
    unfold cntG at hg
    rw [Bool.and_eq_true] at hg
    have := of_decide_eq_true hg.1
    have := List.mem_range.1 hi
    exact decide_eq_true ⟨by omega, this⟩
  rw [countP_mid (by omega)] at e
  unfold cntT
  omega
theorem rel_all {m : List Sp} {M : List Bool} (h : SOk m) (k : Rel m M) {x : Sp} (hr : spRight x = true) : hasS x m = decide (((cntT M x : Nat) : Int) = x.2 - x.1) := by
  have hx := spRight_iff.1 hr
  have e := rel_split (m := m) (M := M) hr
  rw [Bool.eq_iff_iff, hasS_iff h, decide_eq_true_iff]
  have hz : ((cntT M x : Nat) : Int) = x.2 - x.1 ↔ (List.range x.2.toNat).countP (fun i => decide (x.1.toNat ≤ i ∧ i < x.2.toNat) && !cntG M x.1 i) = 0 := by omega
  rw [hz, List.countP_eq_zero]
  constructor
  · rintro ⟨_, q⟩ i hi
    have hi := List.mem_range.1 hi
    by_cases c : x.1.toNat ≤ i
    · have := ((k.has i).1 (q i (by omega) (by omega))).2
      rw [Int.toNat_natCast] at this
      unfold cntG
      rw [this, decide_eq_true (show x.1 ≤ (i : Int) by omega)]; simp
    · rw [decide_eq_false (fun h => c h.1)]; simp
  · intro q
    refine ⟨hr, fun p a b => ?_⟩
    have := q p.toNat (List.mem_range.2 (by omega))
    rw [decide_eq_true (show x.1.toNat ≤ p.toNat ∧ p.toNat < x.2.toNat by omega)] at this
    refine (k.has p).2 ⟨by omega, ?_⟩
    unfold cntG at this
    cases hb : bitT M p.toNat
    · rw [hb] at this; simp at this
    · rfl
theorem with_len {L M : List Bool} {x : Sp} {is : Bool} (hr : spRight x = true) (hL : L.length ≤ 65536) (hw : Withs L M x is) : M.length ≤ 65536 := by
  have := spRight_iff.1 hr
  have := hw.len
  omega
theorem rel_add {l : List Sp} {L M : List Bool} {x : Sp} (h : SOk l) (k : Rel l L) (hr : spRight x = true) (hw : Withs L M x true) : Nrm (-1) (addL x false l) ∧ Rel (addL x false l) M := by
  have hx := spRight_iff.1 hr
  obtain ⟨h1, h2⟩ := addL_spec h.n (x := x) (by omega) hx.2.1 hx.2.2
  refine ⟨h1, with_len hr k.len hw, fun p => ?_⟩
  rw [h2 p, k.has p]
  constructor
  · rintro (⟨a, b⟩ | ⟨a, b⟩)
    · refine ⟨a, ?_⟩
      rw [hw.bit]; split
      · rfl
      · exact b
    · exact ⟨by omega, by rw [hw.bit, if_pos (by omega)]⟩
  · rintro ⟨a, b⟩
    rw [hw.bit] at b
    split at b
    · exact .inr (by omega)
    · exact .inl ⟨a, b⟩
theorem rel_tak {l : List Sp} {L M : List Bool} {x : Sp} (h : SOk l) (k : Rel l L) (hr : spRight x = true) (hw : Withs L M x false) : Nrm (-1) (takeL x l) ∧ Rel (takeL x l) M := by
  have hx := spRight_iff.1 hr
  obtain ⟨h1, h2⟩ := takeL_spec h.n (x := x) hx.2.1
  refine ⟨h1, with_len hr k.len hw, fun p => ?_⟩
  rw [h2 p, k.has p]
  constructor
  · rintro ⟨⟨a, b⟩, c⟩
    refine ⟨a, ?_⟩
    rw [hw.bit, if_neg (fun q => c (by omega))]
    exact b
  · rintro ⟨a, b⟩
    rw [hw.bit] at b
    split at b
    · cases b
    · exact ⟨⟨a, b⟩, fun q => by omega⟩
theorem chg_add {v v' : AVal} {l : List Sp} {L L' : List Bool} {E' : List HE} {x : Sp} {c : Int} (h : SOk l) (k : Rel l L) (hc : Chg v L x true c v' L' E') : c = addC x l ∧ Rel (addS x l) L' ∧ ((E' = [] ∧ v' = v ∧ L' = L) ∨ RT2 v' L' E') := by
  cases hc with
  | arg hr =>
    have e : addC x l = 1 := by unfold addC; rw [hr]; rfl
    exact ⟨e.symm, by rw [add_no (by omega)]; exact k, .inl ⟨rfl, rfl, rfl⟩⟩
  | full M hr hw hM =>
    obtain ⟨h1, h2⟩ := rel_add h k hr hw
    rw [rel_run h1 h2] at hM
    have e : addC x l = 5 := by unfold addC; rw [if_pos hr]; unfold spCode; rw [if_pos hM]
    exact ⟨e.symm, by rw [add_no (by omega)]; exact k, .inl ⟨rfl, rfl, rfl⟩⟩
  | ok M _ _ hr hw hM hv =>
    obtain ⟨h1, h2⟩ := rel_add h k hr hw
    rw [rel_run h1 h2] at hM
    have e : addC x l = 0 := by unfold addC; rw [if_pos hr]; unfold spCode; rw [if_neg (by omega)]
    exact ⟨e.symm, by rw [(addC_zero e).2.2]; exact h2, .inr hv⟩
theorem chg_tak {v v' : AVal} {l : List Sp} {L L' : List Bool} {E' : List HE} {x : Sp} {c : Int} (h : SOk l) (k : Rel l L) (hc : Chg v L x false c v' L' E') : c = takC x l ∧ Rel (takS x l) L' ∧ ((E' = [] ∧ v' = v ∧ L' = L) ∨ RT2 v' L' E') := by
  cases hc with
  | arg hr =>
    have e : takC x l = 1 := by unfold takC; rw [hr]; rfl
    exact ⟨e.symm, by rw [tak_no (by omega)]; exact k, .inl ⟨rfl, rfl, rfl⟩⟩
  | full M hr hw hM =>
    obtain ⟨h1, h2⟩ := rel_tak h k hr hw
    rw [rel_run h1 h2] at hM
    have e : takC x l = 5 := by unfold takC; rw [if_pos hr]; unfold spCode; rw [if_pos hM]
    exact ⟨e.symm, by rw [tak_no (by omega)]; exact k, .inl ⟨rfl, rfl, rfl⟩⟩
  | ok M _ _ hr hw hM hv =>
    obtain ⟨h1, h2⟩ := rel_tak h k hr hw
    rw [rel_run h1 h2] at hM
    have e : takC x l = 0 := by unfold takC; rw [if_pos hr]; unfold spCode; rw [if_neg (by omega)]
    exact ⟨e.symm, by rw [(takC_zero e).2.2]; exact h2, .inr hv⟩
end Go.Proofs.Ytgobbmdbkmjlnaa
/-
  Equal fields.
-/
namespace Go.Proofs.Ytgobbmdbkmjlnaa
set_option linter.unusedVariables false
set_option linter.unusedSimpArgs false
open Go Go.Am

set_option maxRecDepth 10000 in
theorem refSameF (a b : List (List UInt8)) (t u : Tok) (σ : AHeap) (hl : a.length ≤ 140737488355320) : ACalls Try.prog i_bowlineref09_SameFields [lists t a, lists u b] σ fun v σ' => v = boolv (decide (a = b)) ∧ σ' = σ := by
  refine k_bowlineref09_SameFields rfl ?_
  (refine wX ?_)
  rw [List.length_map, List.length_map]
  by_cases h : a.length = b.length
  · (repeat ((first | refine aload (by (repeat (first | with_reducible exact upd_same _ _ _ | assumption | rw [upd_ne _ _ (by first | assumption | (apply Ne.symm; assumption))]))) rfl ?_ | refine afit_i64 (by omega) ?_ | refine arem_nonneg (by omega) (by omega) ?_ | refine adiv_i64 (by omega) (by omega) ?_ | refine abr_yes (by omega) ?_ | refine abr_no (by omega) ?_ | refine amin ?_ | refine amax ?_ | refine afit_u64 (by omega) ?_ | refine afit_u8 (by omega) ?_ | rw [List.length_map]); (refine wX ?_)))
    refine aloop (α := Nat) (fun i => [(s5, i64v i)]) (fun _ => σ) (fun i => i ≤ a.length ∧ a.take i = b.take i) (fun i => a.length - i) 0 ⟨Nat.zero_le _, rfl⟩ (Sub.refl _) ?_ ?_
    · (refine wX ?_)
      (repeat' first | with_reducible exact EnvLe.refl _ | (refine EnvLe.node ?_ (by first | exact Or.inl rfl | exact Or.inr (Or.inl rfl) | exact Or.inr (Or.inr ⟨nofun, VLe.slice _ _ _⟩)) ?_))
    rintro i ⟨hi, he⟩
    by_cases h1 : i < a.length
    · have h2 : i < b.length := by omega
      (refine wX ?_)
      (repeat ((first | refine aload (by (repeat (first | with_reducible exact upd_same _ _ _ | assumption | rw [upd_ne _ _ (by first | assumption | (apply Ne.symm; assumption))]))) rfl ?_ | refine afit_i64 (by omega) ?_ | refine arem_nonneg (by omega) (by omega) ?_ | refine adiv_i64 (by omega) (by omega) ?_ | refine abr_yes (by omega) ?_ | refine abr_no (by omega) ?_ | refine amin ?_ | refine amax ?_ | refine afit_u64 (by omega) ?_ | refine afit_u8 (by omega) ?_ | rw [List.length_map]); (refine wX ?_)))
      refine aget (by omega) (get_lists h1) ?_
      (refine wX ?_)
      refine acell rfl ?_
      (refine wX ?_)
      refine astr rfl ?_
      (refine wX ?_)
      refine aget (by omega) (get_lists h2) ?_
      (refine wX ?_)
      refine acell rfl ?_
      (refine wX ?_)
      refine astr rfl ?_
      (refine wX ?_)
      by_cases h4 : a[i] = b[i]
      · refine abr_no (fun h => h (by rw [h4])) ?_
        (refine wX ?_)
        (repeat ((first | refine aload (by (repeat (first | with_reducible exact upd_same _ _ _ | assumption | rw [upd_ne _ _ (by first | assumption | (apply Ne.symm; assumption))]))) rfl ?_ | refine afit_i64 (by omega) ?_ | refine arem_nonneg (by omega) (by omega) ?_ | refine adiv_i64 (by omega) (by omega) ?_ | refine abr_yes (by omega) ?_ | refine abr_no (by omega) ?_ | refine amin ?_ | refine amax ?_ | refine afit_u64 (by omega) ?_ | refine afit_u8 (by omega) ?_ | rw [List.length_map]); (refine wX ?_)))
        refine ⟨i + 1, ⟨h1, ?_⟩, by omega, Sub.refl _, ?_⟩
        · rw [List.take_add_one, List.take_add_one, he, List.getElem?_eq_getElem h1, List.getElem?_eq_getElem h2, h4]
        · (refine wX ?_)
          (repeat' first | with_reducible exact EnvLe.refl _ | (refine EnvLe.node ?_ (by first | exact Or.inl rfl | exact Or.inr (Or.inl rfl) | exact Or.inr (Or.inr ⟨nofun, VLe.slice _ _ _⟩)) ?_))
      · refine abr_yes (fun h => h4 (by simpa using h)) ?_
        (refine wX ?_)
        exact aret_same ⟨congrArg boolv (decide_eq_false fun e => h4 (by subst e; rfl)).symm, rfl⟩
    · rw [List.take_of_length_le (by omega), List.take_of_length_le (by omega)] at he
      (refine wX ?_)
      (repeat ((first | refine aload (by (repeat (first | with_reducible exact upd_same _ _ _ | assumption | rw [upd_ne _ _ (by first | assumption | (apply Ne.symm; assumption))]))) rfl ?_ | refine afit_i64 (by omega) ?_ | refine arem_nonneg (by omega) (by omega) ?_ | refine adiv_i64 (by omega) (by omega) ?_ | refine abr_yes (by omega) ?_ | refine abr_no (by omega) ?_ | refine amin ?_ | refine amax ?_ | refine afit_u64 (by omega) ?_ | refine afit_u8 (by omega) ?_ | rw [List.length_map]); (refine wX ?_)))
      exact aret_same ⟨congrArg boolv (decide_eq_true he).symm, rfl⟩
  · refine abr_yes (by omega) ?_
    (refine wX ?_)
    exact aret_same ⟨congrArg boolv (decide_eq_false fun e => h (by rw [e])).symm, rfl⟩

end Go.Proofs.Ytgobbmdbkmjlnaa
/-
  The document's lengths: how many bytes they have.
-/
namespace Go.Proofs.Ytgobbmdbkmjlnaa
set_option linter.unusedVariables false
set_option linter.unusedSimpArgs false
open Go Go.Am

theorem refSz (n w : Int) (σ : AHeap) : ACalls Try.prog i_bowlineref08_Size [i64v n, i64v w] σ fun v σ' => v = i64v (sizeV n w) ∧ σ' = σ := by
  refine k_bowlineref08_Size rfl ?_
  by_cases hw : w = 11 ∨ w = 15
  · by_cases h1 : n < 1
    · have e : sizeV n w = 0 := by unfold sizeV; rw [if_pos (.inr (.inl h1))]
      rcases hw with rfl | rfl
      all_goals
        (refine wX ?_)
        (repeat ((first | refine aload (by (repeat (first | with_reducible exact upd_same _ _ _ | assumption | rw [upd_ne _ _ (by first | assumption | (apply Ne.symm; assumption))]))) rfl ?_ | refine afit_i64 (by omega) ?_ | refine arem_nonneg (by omega) (by omega) ?_ | refine adiv_i64 (by omega) (by omega) ?_ | refine abr_yes (by omega) ?_ | refine abr_no (by omega) ?_ | refine amin ?_ | refine amax ?_ | refine afit_u64 (by omega) ?_ | refine afit_u8 (by omega) ?_ | rw [List.length_map]); (refine wX ?_)))
        exact aret_same ⟨by rw [e], rfl⟩
    · by_cases h2 : n > 23
      · have e : sizeV n w = 0 := by unfold sizeV; rw [if_pos (.inr (.inr h2))]
        rcases hw with rfl | rfl
        all_goals
          (refine wX ?_)
          (repeat ((first | refine aload (by (repeat (first | with_reducible exact upd_same _ _ _ | assumption | rw [upd_ne _ _ (by first | assumption | (apply Ne.symm; assumption))]))) rfl ?_ | refine afit_i64 (by omega) ?_ | refine arem_nonneg (by omega) (by omega) ?_ | refine adiv_i64 (by omega) (by omega) ?_ | refine abr_yes (by omega) ?_ | refine abr_no (by omega) ?_ | refine amin ?_ | refine amax ?_ | refine afit_u64 (by omega) ?_ | refine afit_u8 (by omega) ?_ | rw [List.length_map]); (refine wX ?_)))
          exact aret_same ⟨by rw [e], rfl⟩
      · have e : sizeV n w = (n * (w + 1) + 7) / 8 := by
          unfold sizeV; rw [if_neg]; rw [widthOk_iff.2 hw]
          rintro (h | h | h)
          · cases h
          · exact h1 h
          · exact h2 h
        have hb : 0 ≤ n * (w + 1) ∧ n * (w + 1) ≤ 368 := by
          rcases hw with rfl | rfl <;> omega
        obtain ⟨q, hq⟩ : ∃ q, q = n * (w + 1) := ⟨_, rfl⟩
        rw [← hq] at e hb
        rcases hw with rfl | rfl
        all_goals
          (refine wX ?_)
          (repeat ((first | refine aload (by (repeat (first | with_reducible exact upd_same _ _ _ | assumption | rw [upd_ne _ _ (by first | assumption | (apply Ne.symm; assumption))]))) rfl ?_ | refine afit_i64 (by omega) ?_ | refine arem_nonneg (by omega) (by omega) ?_ | refine adiv_i64 (by omega) (by omega) ?_ | refine abr_yes (by omega) ?_ | refine abr_no (by omega) ?_ | refine amin ?_ | refine amax ?_ | refine afit_u64 (by omega) ?_ | refine afit_u8 (by omega) ?_ | rw [List.length_map]); (refine wX ?_)))
          refine aloop (α := Nat) (fun i => [(s5, i64v i)]) (fun _ => σ) (fun i => 8 * (i : Int) ≤ q + 7) (fun i => 60 - i) 0 (by omega) (Sub.refl _) ?_ ?_
          · (refine wX ?_)
            (repeat' first | with_reducible exact EnvLe.refl _ | (refine EnvLe.node ?_ (by first | exact Or.inl rfl | exact Or.inr (Or.inl rfl) | exact Or.inr (Or.inr ⟨nofun, VLe.slice _ _ _⟩)) ?_))
          · rintro i hi
            (refine wX ?_)
            (repeat ((first | refine aload (by (repeat (first | with_reducible exact upd_same _ _ _ | assumption | rw [upd_ne _ _ (by first | assumption | (apply Ne.symm; assumption))]))) rfl ?_ | refine afit_i64 (by omega) ?_ | refine arem_nonneg (by omega) (by omega) ?_ | refine adiv_i64 (by omega) (by omega) ?_ | refine abr_yes (by omega) ?_ | refine abr_no (by omega) ?_ | refine amin ?_ | refine amax ?_ | refine afit_u64 (by omega) ?_ | refine afit_u8 (by omega) ?_ | rw [List.length_map]); (refine wX ?_)))
            refine abr_dec (fun h => ?_) (fun h => ?_)
            · (refine wX ?_)
              (repeat ((first | refine aload (by (repeat (first | with_reducible exact upd_same _ _ _ | assumption | rw [upd_ne _ _ (by first | assumption | (apply Ne.symm; assumption))]))) rfl ?_ | refine afit_i64 (by omega) ?_ | refine arem_nonneg (by omega) (by omega) ?_ | refine adiv_i64 (by omega) (by omega) ?_ | refine abr_yes (by omega) ?_ | refine abr_no (by omega) ?_ | refine amin ?_ | refine amax ?_ | refine afit_u64 (by omega) ?_ | refine afit_u8 (by omega) ?_ | rw [List.length_map]); (refine wX ?_)))
              refine ⟨i + 1, by omega, by omega, Sub.refl _, ?_⟩
              (refine wX ?_)
              (repeat' first | with_reducible exact EnvLe.refl _ | (refine EnvLe.node ?_ (by first | exact Or.inl rfl | exact Or.inr (Or.inl rfl) | exact Or.inr (Or.inr ⟨nofun, VLe.slice _ _ _⟩)) ?_))
            · (refine wX ?_)
              refine aret_same ⟨?_, rfl⟩
              rw [e]
              congr 2
              omega
  · have e : sizeV n w = 0 := by unfold sizeV; rw [if_pos (.inl (widthNo hw))]
    have g1 : w ≠ 11 := fun h => hw (.inl h)
    have g2 : w ≠ 15 := fun h => hw (.inr h)
    (refine wX ?_)
    refine abr_yes g1 ?_
    (refine wX ?_)
    refine abr_yes g2 ?_
    (refine wX ?_)
    exact aret_same ⟨by rw [e], rfl⟩

end Go.Proofs.Ytgobbmdbkmjlnaa
