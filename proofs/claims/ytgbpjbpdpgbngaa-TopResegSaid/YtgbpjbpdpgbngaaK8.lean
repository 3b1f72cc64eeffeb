/-
  Texts of this claim, pack 8: Cglw, Claw20a, Claw20w, Ctrb, Ctrc, Ctre, Ctrd.
-/
import Derived.Test.YtgbpjbpdpgbngaaK4
import Derived.Test.YtgbpjbpdpgbngaaK6
import Derived.Test.YtgbpjbpdpgbngaaK7
set_option linter.unusedSimpArgs false
set_option linter.unusedVariables false
/-
  What is cut of a packet, put together; plain.
-/
namespace Go.Proofs.Ytgbpjbpdpgbngaa
open Go Go.Am

def heldN (g : GS) : Nat := (g.1.getD []).length
theorem holdG_len (g : GS) (b : List UInt8) (bg en : Bool) : heldN (holdG g b bg en) ≤ heldN g + b.length := by
  unfold holdG heldN
  split
  · show b.length ≤ _; omega
  · split
    · rename_i h e; rw [e]; show (h ++ b).length ≤ h.length + _; rw [List.length_append]; exact Nat.le_refl _
    · exact Nat.zero_le _
theorem cutG_len (g : GS) : heldN (cutG g) ≤ heldN g := by
  unfold cutG loseG heldN
  split
  · exact Nat.zero_le _
  · exact Nat.le_refl _
theorem fieldG_len (g : GS) (b : List UInt8) (bg en : Bool) : heldN (fieldG g b bg en).2 ≤ heldN g + b.length := by
  have h1 := holdG_len g b bg en
  have h2 := cutG_len (holdG g b bg en)
  unfold fieldG endG
  split
  · exact Nat.zero_le _
  · show heldN (cutG (holdG g b bg en)) ≤ _; omega
theorem cutG_small {g : GS} (h : heldN g ≤ 1000) : cutG g = g := by
  unfold cutG; rw [if_neg (by unfold heldN at h; omega)]
/-- A field in two: nothing of it is told before its end. -/
theorem fieldG_two (g : GS) (q c : List UInt8) (bg en : Bool) (h : heldN g + q.length + c.length ≤ 1000) :
    fieldG g (q ++ c) bg en = fieldG (fieldG g q bg false).2 c false en ∧ (fieldG g q bg false).1 = none := by
  have h1 := holdG_len g q bg false
  have e1 : fieldG g q bg false = (none, holdG g q bg false) := by
    unfold fieldG endG
    rw [if_neg (by intro k; cases k.1), cutG_small (by omega)]
  rw [e1]
  refine ⟨?_, rfl⟩
  have h2 := holdG_len (holdG g q bg false) c false en
  have h3 := holdG_len g (q ++ c) bg en
  rw [List.length_append] at h3
  unfold fieldG
  rw [cutG_small (by omega), cutG_small (g := holdG (holdG g q bg false) c false en) (by omega)]
  congr 1
  unfold holdG
  cases bg
  · rw [if_neg nofun, if_neg nofun, if_neg nofun]
    obtain ⟨o, n⟩ := g
    cases o with
    | none => rfl
    | some x => show (some (x ++ (q ++ c)), n) = (some (x ++ q ++ c), n); rw [List.append_assoc]
  · rw [if_pos rfl, if_pos rfl, if_neg nofun]
theorem putN_same {fi fi' : Int} {l l' : List (List UInt8)} (h0 : fi / 2 = fi' / 2) : ∀ (k : Nat) (g : GS), (∀ i, i < k → l[i]?.getD [] = l'[i]?.getD []) → (∀ i, i < k → endsG fi l.length i = endsG fi' l'.length i) → putN fi l g k = putN fi' l' g k
  | 0, g, _, _ => rfl
  | k + 1, g, h, he => by
    have e := putN_same h0 k g (fun i hi => h i (by omega)) (fun i hi => he i (by omega))
    unfold putN
    rw [e, h k (by omega), he k (by omega), show beginsG fi k = beginsG fi' k by unfold beginsG; rw [h0]]
theorem putN_len (fi : Int) (l : List (List UInt8)) (g : GS) : ∀ k, heldN (putN fi l g k).2 ≤ heldN g + total (l.take k)
  | 0 => by show heldN g ≤ _; omega
  | k + 1 => by
    have h1 := putN_len fi l g k
    have h2 := fieldG_len (putN fi l g k).2 (l[k]?.getD []) (beginsG fi k) (endsG fi l.length k)
    have h3 : total (l.take (k + 1)) = total (l.take k) + (l[k]?.getD []).length := by
      by_cases hk : k < l.length
      · rw [total_take_succ l k hk, List.getElem?_eq_getElem hk]; rfl
      · rw [List.take_of_length_le (by omega), List.take_of_length_le (by omega), List.getElem?_eq_none (by omega)]; rfl
    unfold putN
    dsimp only
    omega
def stB (p : Pk) (y : Nat) : Bool := if y = 0 then decide (p.fi / 2 = 0) else edge p.fs y
def enB (p : Pk) (y : Nat) : Bool := if y = total p.fs then decide (p.fi % 2 = 0) else edge p.fs y
/-- So many bytes of the packet, one by one. -/
def runB (p : Pk) (g : GS) (a : Nat) : Nat → List (List UInt8) × GS
  | 0 => ([], g)
  | k + 1 => ((runB p g a k).1 ++ (fieldG (runB p g a k).2 [p.fs.flatten[a + k]?.getD 0] (stB p (a + k)) (enB p (a + k + 1))).1.toList, (fieldG (runB p g a k).2 [p.fs.flatten[a + k]?.getD 0] (stB p (a + k)) (enB p (a + k + 1))).2)
theorem runB_succ (p : Pk) (g : GS) (a k : Nat) : runB p g a (k + 1) = ((runB p g a k).1 ++ (fieldG (runB p g a k).2 [p.fs.flatten[a + k]?.getD 0] (stB p (a + k)) (enB p (a + k + 1))).1.toList, (fieldG (runB p g a k).2 [p.fs.flatten[a + k]?.getD 0] (stB p (a + k)) (enB p (a + k + 1))).2) := rfl
theorem putN_succ (fi : Int) (l : List (List UInt8)) (g : GS) (k : Nat) : putN fi l g (k + 1) = ((putN fi l g k).1 ++ (fieldG (putN fi l g k).2 (l[k]?.getD []) (beginsG fi k) (endsG fi l.length k)).1.toList, (fieldG (putN fi l g k).2 (l[k]?.getD []) (beginsG fi k) (endsG fi l.length k)).2) := rfl
theorem cutFi_st {p : Pk} (hf : 0 ≤ p.fi ∧ p.fi ≤ 3) (a x : Nat) : decide (cutFi p a x / 2 = 0) = stB p a := by
  unfold cutFi stB wth ctg
  by_cases h0 : a = 0
  · subst h0
    rw [edge_zero, if_pos rfl]
    by_cases h2 : 2 ≤ p.fi
    · rw [if_pos (.inr ⟨rfl, decide_eq_true h2⟩)]
      rw [decide_eq_false (show ¬ p.fi / 2 = 0 by omega), decide_eq_false (by split <;> omega)]
    · rw [if_neg (by rintro (h | h); cases h; exact h2 (of_decide_eq_true h.2))]
      rw [decide_eq_true (show p.fi / 2 = 0 by omega), decide_eq_true (by split <;> omega)]
  · rw [if_neg h0]
    cases h1 : edge p.fs a
    · rw [if_pos (.inl rfl), decide_eq_false (by split <;> omega)]
    · rw [if_neg (by rintro (h | h); cases h; exact h0 h.1), decide_eq_true (by split <;> omega)]
theorem cutFi_en {p : Pk} (hf : 0 ≤ p.fi ∧ p.fi ≤ 3) (a x : Nat) : decide (cutFi p a x % 2 = 0) = enB p x := by
  unfold cutFi enB wth ctg
  by_cases h0 : x = total p.fs
  · rw [if_pos h0, h0, edge_top]
    by_cases h2 : p.fi % 2 = 1
    · rw [if_pos (c := _ ∨ (total p.fs = total p.fs ∧ _)) (.inr ⟨rfl, decide_eq_true h2⟩)]
      rw [decide_eq_false (show ¬ p.fi % 2 = 0 by omega), decide_eq_false (by split <;> omega)]
    · rw [if_neg (c := _ ∨ (total p.fs = total p.fs ∧ _)) (by rintro (h | h); cases h; exact h2 (of_decide_eq_true h.2))]
      rw [decide_eq_true (show p.fi % 2 = 0 by omega), decide_eq_true (by split <;> omega)]
  · rw [if_neg h0]
    cases h1 : edge p.fs x
    · rw [if_pos (c := _ ∨ (x = total p.fs ∧ _)) (.inl rfl), decide_eq_false (by split <;> omega)]
    · rw [if_neg (c := _ ∨ (x = total p.fs ∧ _)) (by rintro (h | h); cases h; exact h0 h.1), decide_eq_true (by split <;> omega)]
theorem cutFi_half {p : Pk} (a x y : Nat) : cutFi p a x / 2 = cutFi p a y / 2 := by
  unfold cutFi
  repeat' split
  all_goals omega
theorem get_mid {l : List (List UInt8)} {q : List UInt8} : (l ++ [q])[l.length]?.getD [] = q := by
  rw [List.getElem?_append_right (Nat.le_refl _), Nat.sub_self]; rfl
theorem put_run {p : Pk} (hf : 0 ≤ p.fi ∧ p.fi ≤ 3) (g : GS) (a : Nat) : ∀ m, a + (m + 1) ≤ total p.fs → heldN g + (m + 1) ≤ 1000 → putN (cutFi p a (a + (m + 1))) (pcs p.fs a (a + (m + 1))) g (pcs p.fs a (a + (m + 1))).length = runB p g a (m + 1)
  | 0, h, hg => by
    have hd : a < p.fs.flatten.length := h
    have e := pcs_new (fs := p.fs) (a := a) (x := a) (y := a + (0 + 1)) (Nat.le_refl _) (by omega) h (.inl rfl) (fun z h1 h2 => by omega)
    rw [pcs_nil (Nat.le_refl _), List.nil_append] at e
    rw [e]
    have e1 : (p.fs.flatten.take (a + (0 + 1))).drop a = [p.fs.flatten[a]?.getD 0] := by
      rw [List.getElem?_eq_getElem hd, List.take_succ_eq_append_getElem hd, List.drop_append_of_le_length (by rw [List.length_take]; omega), List.drop_of_length_le (by rw [List.length_take]; omega)]; rfl
    rw [e1]
    show ([] ++ _, _) = ([] ++ _, _)
    have b1 : beginsG (cutFi p a (a + (0 + 1))) 0 = stB p a := cutFi_st hf a _
    have b2 : endsG (cutFi p a (a + (0 + 1))) 1 0 = enB p (a + 1) := cutFi_en hf a _
    show ([] ++ (fieldG g [p.fs.flatten[a]?.getD 0] (beginsG (cutFi p a (a + (0 + 1))) 0) (endsG (cutFi p a (a + (0 + 1))) 1 0)).1.toList, (fieldG g [p.fs.flatten[a]?.getD 0] (beginsG (cutFi p a (a + (0 + 1))) 0) (endsG (cutFi p a (a + (0 + 1))) 1 0)).2) = _
    rw [b1, b2]; rfl
  | m + 1, h, hg => by
    have ih := put_run hf g a m (by omega) (by omega)
    obtain ⟨x, hx⟩ : ∃ x, x = a + (m + 1) := ⟨_, rfl⟩
    have hx2 : a + (m + 1 + 1) = x + 1 := by omega
    rw [hx2] at h ⊢
    have hax : a < x := by omega
    have hd : x < p.fs.flatten.length := h
    have hh := cutFi_half (p := p) a x (x + 1)
    have hst := cutFi_st hf a (x + 1)
    have hen := cutFi_en hf a (x + 1)
    have hen0 := cutFi_en hf a x
    have e0 : enB p x = edge p.fs x := by unfold enB; rw [if_neg (by omega)]
    have s0 : stB p x = edge p.fs x := by unfold stB; rw [if_neg (by omega)]
    rw [← hx] at ih
    rw [runB_succ, ← ih, ← hx]
    obtain ⟨c, hc⟩ : ∃ c, c = p.fs.flatten[x]'hd := ⟨_, rfl⟩
    have hdx : p.fs.flatten[x]?.getD 0 = c := by rw [List.getElem?_eq_getElem hd, hc]; rfl
    rw [hdx]
    cases he : edge p.fs x
    · obtain ⟨l, q, h1, h2⟩ := pcs_more hax h he
      replace h2 : pcs p.fs a (x + 1) = l ++ [q ++ [c]] := by rw [hc]; exact h2
      have ht := pcs_total (fs := p.fs) (a := a) (b := x) (by omega) (by omega)
      rw [h1] at ht
      rw [h1, h2, List.length_append, List.length_append]
      show putN _ _ g (l.length + 1) = _
      rw [show (l.length + [q].length) = l.length + 1 from rfl]
      have ep : putN (cutFi p a (x + 1)) (l ++ [q ++ [c]]) g l.length = putN (cutFi p a x) (l ++ [q]) g l.length := by
        refine putN_same hh.symm l.length g (fun i hi => ?_) (fun i hi => ?_)
        · rw [List.getElem?_append_left hi, List.getElem?_append_left hi]
        · unfold endsG
          rw [List.length_append, List.length_append, decide_eq_true (show i + 1 < l.length + [q ++ [c]].length from Nat.succ_lt_succ hi), decide_eq_true (show i + 1 < l.length + [q].length from Nat.succ_lt_succ hi)]; rfl
      have hlen := putN_len (cutFi p a x) (l ++ [q]) g l.length
      rw [List.take_left] at hlen
      have htl : total (l ++ [q]) = total l + q.length := by rw [total_append]; show total l + (total [q]) = _; rw [total_cons]; rfl
      rw [putN_succ, putN_succ, ep, get_mid, get_mid]
      have be : beginsG (cutFi p a (x + 1)) l.length = beginsG (cutFi p a x) l.length := by unfold beginsG; rw [hh]
      have en1 : endsG (cutFi p a (x + 1)) (l ++ [q ++ [c]]).length l.length = enB p (x + 1) := by
        unfold endsG; rw [List.length_append, decide_eq_false (show ¬ l.length + 1 < l.length + [q ++ [c]].length from Nat.lt_irrefl _), hen]; rfl
      have en0 : endsG (cutFi p a x) (l ++ [q]).length l.length = false := by
        unfold endsG; rw [List.length_append, decide_eq_false (show ¬ l.length + 1 < l.length + [q].length from Nat.lt_irrefl _), hen0, e0, he]; rfl
      rw [be, en1, en0, s0, he]
      obtain ⟨f1, f2⟩ := fieldG_two (putN (cutFi p a x) (l ++ [q]) g l.length).2 q [c] (beginsG (cutFi p a x) l.length) (enB p (x + 1)) (by show _ + 1 ≤ 1000; omega)
      rw [f1, f2]
      dsimp only
      rw [show (none : Option (List UInt8)).toList = [] from rfl, List.append_nil]
    · have e := pcs_new (fs := p.fs) (a := a) (x := x) (y := x + 1) (by omega) (by omega) h (.inr he) (fun z h1 h2 => by omega)
      have e1 : (p.fs.flatten.take (x + 1)).drop x = [c] := by
        rw [hc, List.take_succ_eq_append_getElem hd, List.drop_append_of_le_length (by rw [List.length_take]; omega), List.drop_of_length_le (by rw [List.length_take]; omega)]; rfl
      rw [e1] at e
      have hp := pcs_pos (fs := p.fs) hax (by omega)
      generalize pcs p.fs a x = l at *
      rw [e, List.length_append]
      show putN _ _ g (l.length + 1) = _
      have ep : putN (cutFi p a (x + 1)) (l ++ [[c]]) g l.length = putN (cutFi p a x) l g l.length := by
        refine putN_same hh.symm l.length g (fun i hi => ?_) (fun i hi => ?_)
        · rw [List.getElem?_append_left hi]
        · unfold endsG
          rw [List.length_append, decide_eq_true (show i + 1 < l.length + [[c]].length from Nat.succ_lt_succ hi), hen0, e0, he]
          cases decide (i + 1 < l.length) <;> rfl
      rw [putN_succ, ep, get_mid]
      have be : beginsG (cutFi p a (x + 1)) l.length = true := by unfold beginsG; rw [decide_eq_true (by omega)]; rfl
      have en1 : endsG (cutFi p a (x + 1)) (l ++ [[c]]).length l.length = enB p (x + 1) := by
        unfold endsG; rw [List.length_append, decide_eq_false (show ¬ l.length + 1 < l.length + [[c]].length from Nat.lt_irrefl _), hen]; rfl
      rw [be, en1, s0, he]
theorem cutFi_all {p : Pk} (hf : 0 ≤ p.fi ∧ p.fi ≤ 3) : cutFi p 0 (total p.fs) = p.fi := by
  have h1 := cutFi_st hf 0 (total p.fs)
  have h2 := cutFi_en hf 0 (total p.fs)
  have h3 := cutFi_range p 0 (total p.fs)
  unfold stB at h1
  unfold enB at h2
  rw [if_pos rfl] at h1 h2
  have h1 := decide_eq_decide.1 h1
  have h2 := decide_eq_decide.1 h2
  omega
theorem hollow_no {l : List (List UInt8)} (h : ∀ f ∈ l, f.length ≠ 0) : hollow l = false := by
  refine Bool.eq_false_iff.2 fun k => ?_
  obtain ⟨f, hf, h2⟩ := List.any_eq_true.1 k
  have := of_decide_eq_true h2
  exact h f hf (by rw [this]; rfl)
end Go.Proofs.Ytgbpjbpdpgbngaa
/-
  The statements of packets that are cut anew: what is told.
-/
namespace Go.Proofs.Ytgbpjbpdpgbngaa
open Go Go.Am

theorem acall_weakA {P : Program} {f : FuncId} {args args' : List AVal} {σ : AHeap} {Q : AVal → AHeap → Prop} (h : ∀ κ vs, RepL κ args vs → RepL κ args' vs) (k : ACalls P f args' σ Q) : ACalls P f args σ Q := by
  rw [ACalls_def] at k ⊢
  exact fun κ w cargs hI hr => k κ w cargs hI (h κ cargs hr)
theorem pkt_weak {a b c d e f : AVal} {s : Nat} {l : List AVal} {t : Tok} {rest : List AVal} : ∀ κ vs, RepL κ (.agg [a, b, c, d, e, f, .slice s l t] :: rest) vs → RepL κ (.agg [a, b, c, d, e, f, .slice s l .none] :: rest) vs :=
  VLe.cons (VLe.aggA (VLe.cons (VLe.refl _) (VLe.cons (VLe.refl _) (VLe.cons (VLe.refl _) (VLe.cons (VLe.refl _) (VLe.cons (VLe.refl _) (VLe.cons (VLe.refl _) (VLe.cons (VLe.slice _ _ _) VLe.nil)))))))) fun _ _ h => h
end Go.Proofs.Ytgbpjbpdpgbngaa
/-
  The statement of packets that are cut anew: put together they are whole.
-/
namespace Go.Proofs.Ytgbpjbpdpgbngaa
open Go Go.Am

theorem Hp.glnew {σb τ σ' : AHeap} {L : List HE} (H : Hp σb L τ) {id : Nat} {g : GS} (w : Gl σ' id g τ) : ∃ tk, Hp σb (.o id (.cells (glCells g tk)) :: L) σ' := by
  obtain ⟨h1, tk, rfl⟩ := w
  exact ⟨tk, H.cons_o h1 _⟩
theorem upd_del' (σ : AHeap) (i : Nat) (x : AObj) : upd (del σ i) i x = upd σ i x := by
  funext j
  unfold upd del
  split <;> rfl
theorem Hp.glput {σb τ σ' : AHeap} {L : List HE} (H : Hp σb L τ) {k id : Nat} {g g' : GS} {tk : Tok} (hk : L[k]? = some (.o id (.cells (glCells g tk)))) (w : Gl σ' id g' (del τ id)) : ∃ tk', Hp σb (L.set k (.o id (.cells (glCells g' tk')))) σ' := by
  obtain ⟨h1, tk', rfl⟩ := w
  refine ⟨tk', ?_⟩
  rw [upd_del']
  exact H.set hk _
theorem runB_held (p : Pk) (g : GS) (a : Nat) : ∀ k, heldN (runB p g a k).2 ≤ heldN g + k ∧ (runB p g a k).2.2 ≤ g.2 + 2 * k ∧ (runB p g a k).1.length ≤ k
  | 0 => ⟨Nat.le_refl _, Nat.le_refl _, Nat.le_refl _⟩
  | k + 1 => by
    obtain ⟨h1, h2, h3⟩ := runB_held p g a k
    rw [runB_succ]
    have e1 := fieldG_len (runB p g a k).2 [p.fs.flatten[a + k]?.getD 0] (stB p (a + k)) (enB p (a + k + 1))
    have e2 := fieldG_lost (runB p g a k).2 [p.fs.flatten[a + k]?.getD 0] (stB p (a + k)) (enB p (a + k + 1))
    have e3 : (fieldG (runB p g a k).2 [p.fs.flatten[a + k]?.getD 0] (stB p (a + k)) (enB p (a + k + 1))).1.toList.length ≤ 1 := by cases (fieldG (runB p g a k).2 [p.fs.flatten[a + k]?.getD 0] (stB p (a + k)) (enB p (a + k + 1))).1 <;> simp
    rw [List.length_cons, List.length_nil] at e1
    dsimp only
    rw [List.length_append]
    exact ⟨by omega, by omega, by omega⟩
theorem gp_ok {p : Pk} {w : Int} (hr : amSize p w > 0) : gpBad p.fi p.fs = false ∧ ∀ g : GS, heldN g + total p.fs ≤ 1000 → putN p.fi p.fs g p.fs.length = runB p g 0 (total p.fs) := by
  obtain ⟨hw, hf1, hf2, hsn, hfo, ho1, ho2, hpl⟩ := amSize_ok hr
  have g1 := hfo.one
  have g2 := hfo.most
  have hne : ∀ f ∈ p.fs, f.length ≠ 0 := fun f hf => by
    obtain ⟨i, hi, rfl⟩ := List.getElem_of_mem hf
    have := (hfo.each i hi).1
    omega
  have hpos : 0 < total p.fs := by
    have h1 := total_get (l := p.fs) (i := 0) (by omega)
    have h2 := (hfo.each 0 (by omega)).1
    omega
  refine ⟨?_, fun g hg => ?_⟩
  · unfold gpBad
    rw [decide_eq_false (by omega), decide_eq_false (by omega), decide_eq_false (by omega), decide_eq_false (by omega), hollow_no hne]; rfl
  · have := put_run ⟨hf1, hf2⟩ g 0 (total p.fs - 1) (by omega) (by omega)
    rw [show 0 + (total p.fs - 1 + 1) = total p.fs by omega, pcs_all hne, cutFi_all ⟨hf1, hf2⟩, show total p.fs - 1 + 1 = total p.fs by omega] at this
    exact this
end Go.Proofs.Ytgbpjbpdpgbngaa
/-
  Two packets, cut anew: what must come of fixed calls; parts.
-/
namespace Go.Proofs.Ytgbpjbpdpgbngaa
set_option maxRecDepth 20000
open Go Go.Am

theorem cut_partW {p : Pk} {a : Nat} {g w : Int} (h1 : p.part = false) (h2 : amSize p w > 0) (h3 : a < total p.fs) (h4 : leastV w ≤ g) (h5 : 0 ≤ g ∧ g ≤ 4096) :
    ∃ q b, cutRes p a (total p.fs) g w = (q, ((b : Nat) : Int), 0) ∧ PartOf p a b q ∧ amSize q w > 0 := by
  obtain ⟨q, b, e, hp⟩ := cut_part h1 h2 h3 h4 h5
  refine ⟨q, b, e, hp, ?_⟩
  have hg := cut_gives p a (total p.fs) g w
  generalize cutRes p a (total p.fs) g w = r at e hg
  cases hg with
  | no c h0 h => cases e; exact absurd rfl h0
  | whole q1 q2 q3 q4 q5 => cases e; exact h2
  | part x q1 q2 q3 q4 q5 q6 q7 q8 q9 =>
    have := (Prod.ext_iff.1 e).1
    dsimp only at this
    rw [← this]; exact q6
abbrev PT := Bool × Nat × Nat × Pk
def ptB (w : Int) (t : PT) : List UInt8 := amBytes t.2.2.2 w
def PtOk (p1 p2 : Pk) (w : Int) (t : PT) : Prop := PartOf (if t.1 = true then p2 else p1) t.2.1 t.2.2.1 t.2.2.2 ∧ amSize t.2.2.2 w > 0
def Cov (b : Bool) (n : Nat) (L : List PT) : Prop := ∀ k, k < n → ∃ t ∈ L, t.1 = b ∧ t.2.1 ≤ k ∧ k < t.2.2.1
theorem Cov.more {b : Bool} {n : Nat} {L : List PT} (h : Cov b n L) (M : List PT) : Cov b n (L ++ M) := fun k hk => by
  obtain ⟨t, h1, h2⟩ := h k hk
  exact ⟨t, List.mem_append_left _ h1, h2⟩
theorem Cov.step {b : Bool} {n m : Nat} {L : List PT} (h : Cov b n L) (q : Pk) : Cov b m (L ++ [(b, n, m, q)]) := fun k hk => by
  by_cases hn : k < n
  · exact h.more _ k hn
  · exact ⟨(b, n, m, q), by simp, rfl, by dsimp only; omega, hk⟩
end Go.Proofs.Ytgbpjbpdpgbngaa
/-
  Two packets, cut anew: what must come of fixed calls.
-/
namespace Go.Proofs.Ytgbpjbpdpgbngaa
set_option maxRecDepth 20000
open Go Go.Am

def p12 : Pk := ⟨false, 0, 1, false, false, 0, [[97, 98], [99, 100]]⟩
def x12 : Pk := ⟨false, 0, 1, true, false, 0, [[97, 98]]⟩
theorem cut_12 : cutRes p12 0 4 7 10 = (x12, 2, 0) := by decide +kernel
theorem e1_12 : putS [] x12 = 0 := by decide +kernel
theorem e2_12 : putS (putV [] x12) p12 = 0 := by decide +kernel
theorem e3_12 : takeF (putV (putV [] x12) p12) 1 = (0, [[97, 98], [99, 100]]) ∧ takeC (putV (putV [] x12) p12) 1 = 0 := by decide +kernel
set_option maxHeartbeats 4000000 in
theorem alive12 (σ : AHeap) : ACalls Try.prog i_bowlinetop_alive12 [] σ fun v σ' => v = boolv true ∧ σ' = σ := by
  refine k_bowlinetop_alive12 rfl ?_
  have H := Hp.nil σ
  (refine wX ?_)
  refine arowT fun t_ ht_ => ?_
  (refine wX ?_)
  refine amark (by simp) (upd_same _ _ _) ?_
  (refine wX ?_)
  rw [del_upd _ _ _ ht_]
  clear ht_
  (refine wX ?_)
  refine arowT fun t_ ht_ => ?_
  (refine wX ?_)
  refine amark (by simp) (upd_same _ _ _) ?_
  (refine wX ?_)
  rw [del_upd _ _ _ ht_]
  clear ht_
  (refine wX ?_)
  refine hnew H rfl ?_
  clear H
  intro i1 τ H
  (refine wX ?_)
  (repeat ((first | (apply zA H; (· repeat first | exact .h | apply AtK.t)) | (apply zS H; (· repeat first | exact .h | apply AtK.t); (· rfl); (conv => whnf); clear H; intro τ H)); (refine wX ?_)))
  refine ⟨⟨_, fun σx hx => acall_weakA pkt_weak (gCut p12 0 4 7 10 σx (by decide)), ?_⟩⟩
  rw [cut_12]
  dsimp only [amV]
  (refine wX ?_)
  refine hnew H rfl ?_
  clear H
  intro i2 τ H
  (refine wX ?_)
  (repeat (((apply zS H; (· repeat first | exact .h | apply AtK.t); (· rfl); (conv => whnf); clear H; intro τ H)); (refine wX ?_)))
  refine acall (buNew τ) ?_
  rintro _ τ2 ⟨ib, im, rfl, N⟩
  refine ⟨?_, N.ext⟩
  have H := H.join N
  clear N
  (refine wX ?_)
  (repeat (((apply zA H; (· repeat first | exact .h | apply AtK.t))); (refine wX ?_)))
  refine acall (xPut H XOk.nil (by decide) x12 (by decide) (by decide) (by decide)) ?_
  clear H
  rintro _ τ ⟨rfl, X, HX, hX, ok, hl⟩
  rw [show pvs ([] : List PX) = [] from rfl] at hX ⊢
  rw [e1_12]
  have b1 : τ i1 = some (.cells [boolv false, i64v 0, i64v 1, boolv false, boolv false, i64v 0, .slice 1 [sl .none [97, 98], sl .none [99, 100]] .full]) := HX.ok (.o i1 _) (by simp; exact .inr ⟨⟨rfl, rfl⟩, rfl, rfl⟩)
  have H := Hp.nil τ
  (refine wX ?_)
  (repeat ((refine zC H b1 ?_); (refine wX ?_)))
  refine acall (acall_weakX (pk_argsX [(.none, [97, 98]), (.none, [99, 100])] .full) (xPut HX ok (by simp at hl; omega) p12 (by decide) (by decide) (by decide))) ?_
  clear HX H b1
  rintro _ τ ⟨rfl, X2, HX, hX2, ok2, hl2⟩
  rw [hX] at hX2 ⊢
  rw [e2_12]
  (refine wX ?_)
  refine acall (xTake HX ok2 1) ?_
  clear HX
  rintro _ τ ⟨rfl, X3, HX, hX3, ok3, hl3⟩
  rw [hX2, e3_12.1, e3_12.2]
  have H := Hp.nil τ
  (refine wX ?_)
  (repeat ((rw [List.length_map]); (refine wX ?_)))
  rw [show ((((0, [[97, 98], [99, 100]]) : Int × List (List UInt8)).2.length : Nat) : Int) = 2 from rfl]
  (repeat ((first | refine afit_i64 (by omega) ?_ | refine adiv_i64 (by omega) (by omega) ?_); (refine wX ?_)))
  skip
  exact aret (VLe.refl _) HX.sub ⟨rfl, rfl⟩
end Go.Proofs.Ytgbpjbpdpgbngaa
/-
  Two packets, cut anew: the store of what came.
-/
namespace Go.Proofs.Ytgbpjbpdpgbngaa
set_option maxRecDepth 20000
open Go Go.Am

theorem two_len {S : List PV} (h : Two S) (nd : (S.map (·.sn)).Nodup) : S.length ≤ 2 := by
  match S, h, nd with
  | [], _, _ => exact Nat.zero_le _
  | [_], _, _ => exact Nat.le_succ _
  | [_, _], _, _ => exact Nat.le_refl _
  | x :: y :: z :: S, h, nd =>
    have hx := h x (by simp)
    have hy := h y (by simp)
    have hz := h z (by simp)
    simp only [List.map_cons, List.nodup_cons, List.mem_cons, not_or] at nd
    obtain ⟨⟨n1, n2, _⟩, ⟨n3, _⟩, _⟩ := nd
    omega
/-- The store, and which parts came. -/
structure St (σb : AHeap) (ib : Nat) (p1 p2 : Pk) (D : List PT) (G : List HE) (τ : AHeap) : Prop where
  ex : ∃ im X c1 c2, Hp σb (XL ib im X G) τ ∧ XOk X ∧ Two (pvs X) ∧ FI p1 c1 (pvs X) ∧ FI p2 c2 (pvs X) ∧ ∀ t ∈ D, ∀ k, t.2.1 ≤ k → k < t.2.2.1 → bitC (if t.1 = true then c2 else c1) k = true
section
variable {σb τ : AHeap} {ib : Nat} {p1 p2 : Pk} {D : List PT} {G : List HE}
theorem St.gl (z : St σb ib p1 p2 D G τ) : ∃ R, Hp σb (G ++ R) τ ∧ ∀ G' τ', Hp σb (G' ++ R) τ' → St σb ib p1 p2 D G' τ' := by
  obtain ⟨im, X, c1, c2, H, h⟩ := z
  refine ⟨.o ib (.cells (buC im)) :: .o im (.map (esX X)) :: flatX X, Hp.comm (.o ib (.cells (buC im)) :: .o im (.map (esX X)) :: flatX X) G H, fun G' τ' H' => ⟨im, X, c1, c2, ?_, h⟩⟩
  exact Hp.comm G' _ H'
theorem St.push {E : List HE} {τ' : AHeap} (z : St σb ib p1 p2 D G τ) (N : Hp τ E τ') : St σb ib p1 p2 D (E ++ G) τ' := by
  obtain ⟨R, H, back⟩ := z.gl
  exact back _ _ (by rw [List.append_assoc]; exact H.join N)
theorem St.pop {E : List HE} (z : St σb ib p1 p2 D (E ++ G) τ) : St σb ib p1 p2 D G τ := by
  obtain ⟨R, H, back⟩ := z.gl
  exact back _ _ (Hp.rest (A := E) (by rw [← List.append_assoc]; exact H))
theorem St.at_ {j i : Nat} {c : AObj} (z : St σb ib p1 p2 D G τ) (h : G[j]? = some (.o i c)) : τ i = some c := by
  obtain ⟨R, H, _⟩ := z.gl
  exact H.ok (.o i c) (List.mem_append_left _ (List.mem_of_getElem? h))
theorem zPutT {w : Int} (z : St σb ib p1 p2 D G τ) (e1 : p1.sn = 1) (e2 : p2.sn = 2) (hn1 : total p1.fs ≤ 1000) (hn2 : total p2.fs ≤ 1000) (t : PT) (ht : PtOk p1 p2 w t) :
    ACalls Try.prog i_rxbuf_Buffer_Put [.ptr ib 0, amV t.2.2.2] τ fun v σ' => (∃ q : Int, v = i64v q ∧ (q = 0 ∨ q = 12)) ∧ St σb ib p1 p2 (t :: D) G σ' := by
  obtain ⟨im, X, c1, c2, H, ok, two, m1, m2, hD⟩ := z
  obtain ⟨bb, a, b, q⟩ := t
  obtain ⟨hp, hr⟩ := ht
  dsimp only at hp hr ⊢
  obtain ⟨_, h4000, h24, _⟩ := flds_posT hr
  have hlen : X.length ≤ 2 := by have := two_len two (by rw [List.map_map]; exact ok.nd); simpa using this
  have hsn : q.sn = if bb = true then 2 else 1 := by
    rw [hp.sn]; cases bb
    · exact e1
    · exact e2
  have hin : inR q.sn := by rw [hsn]; cases bb <;> decide
  have h12 : q.sn = 1 ∨ q.sn = 2 := by rw [hsn]; cases bb <;> simp
  have hok : ∀ x ∈ pvs X, x.Ok := fun x hx => by obtain ⟨y, hy, rfl⟩ := List.mem_map.1 hx; exact ok.ok y hy
  refine acall_less (xPut H ok (by omega) q (by omega) (by omega) hin) ?_
  rintro _ σ' ⟨rfl, X', H', hX', ok', _⟩
  have two' : Two (pvs X') := by rw [hX']; exact two.put h12
  cases bb
  · obtain ⟨hc, c', m', hin2, hmono⟩ := m1.put hok (by rw [e1]; decide) hp hn1
    refine ⟨_, _, VLe.refl _, Sub.refl _, ⟨_, rfl, hc⟩, im, X', c', c2, H', ok', two', by rw [hX']; exact m', ?_, fun t ht => ?_⟩
    · rw [hX']; exact m2.other (put_other (by rw [e2, hsn]; decide))
    · rcases List.mem_cons.1 ht with rfl | ht
      · exact hin2
      · intro k h1 h2
        have := hD t ht k h1 h2
        cases hb : t.1 with
        | true => rw [hb] at this; exact this
        | false => rw [hb] at this; exact hmono k this
  · obtain ⟨hc, c', m', hin2, hmono⟩ := m2.put hok (by rw [e2]; decide) hp hn2
    refine ⟨_, _, VLe.refl _, Sub.refl _, ⟨_, rfl, hc⟩, im, X', c1, c', H', ok', two', ?_, by rw [hX']; exact m', fun t ht => ?_⟩
    · rw [hX']; exact m1.other (put_other (by rw [e1, hsn]; decide))
    · rcases List.mem_cons.1 ht with rfl | ht
      · exact hin2
      · intro k h1 h2
        have := hD t ht k h1 h2
        cases hb : t.1 with
        | false => rw [hb] at this; exact this
        | true => rw [hb] at this; exact hmono k this
/-- All came. -/
theorem St.all {w : Int} {L : List PT} (z : St σb ib p1 p2 D G τ) (hL : ∀ t ∈ L, t ∈ D) (h1 : Cov false (total p1.fs) L) (h2 : Cov true (total p2.fs) L) :
    ∃ im X c1 c2, Hp σb (XL ib im X G) τ ∧ XOk X ∧ Two (pvs X) ∧ FI p1 c1 (pvs X) ∧ FI p2 c2 (pvs X) ∧ allIn p1 c1 ∧ allIn p2 c2 := by
  obtain ⟨im, X, c1, c2, H, ok, two, m1, m2, hD⟩ := z
  refine ⟨im, X, c1, c2, H, ok, two, m1, m2, fun k hk => ?_, fun k hk => ?_⟩
  · obtain ⟨t, ht, hb, g1, g2⟩ := h1 k hk
    have := hD t (hL t ht) k g1 g2
    rw [hb] at this; exact this
  · obtain ⟨t, ht, hb, g1, g2⟩ := h2 k hk
    have := hD t (hL t ht) k g1 g2
    rw [hb] at this; exact this
end
end Go.Proofs.Ytgbpjbpdpgbngaa
/-
  Statement of packets that are cut anew, and put together.
-/
namespace Go.Proofs.Ytgbpjbpdpgbngaa
set_option maxRecDepth 20000
open Go Go.Am

/-- The parts so far. -/
structure Pts (p1 p2 : Pk) (w : Int) (n1 n2 : Nat) (L : List PT) : Prop where
  ok : ∀ t ∈ L, PtOk p1 p2 w t
  c1 : Cov false n1 L
  c2 : Cov true n2 L
  le : L.length ≤ n1 + n2
def nA (p1 : Pk) (bb : Bool) (x : Nat) : Nat := if bb = true then total p1.fs else x
def nB (bb : Bool) (x : Nat) : Nat := if bb = true then x else 0
theorem Pts.step {p1 p2 : Pk} {w : Int} {bb : Bool} {x b : Nat} {L : List PT} {q : Pk} (h : Pts p1 p2 w (nA p1 bb x) (nB bb x) L) (hq : PartOf (if bb = true then p2 else p1) x b q) (hs : amSize q w > 0) : Pts p1 p2 w (nA p1 bb b) (nB bb b) (L ++ [(bb, x, b, q)]) := by
  have hab := hq.ab
  refine ⟨fun t ht => ?_, ?_, ?_, ?_⟩
  · rcases List.mem_append.1 ht with ht | ht
    · exact h.ok t ht
    · rw [List.mem_singleton.1 ht]; exact ⟨hq, hs⟩
  · cases bb
    · exact h.c1.step q
    · exact h.c1.more _
  · cases bb
    · exact h.c2.more _
    · exact h.c2.step q
  · have := h.le
    rw [List.length_append, List.length_singleton]
    cases bb
    · show _ ≤ b + 0
      have : L.length ≤ x + 0 := this
      omega
    · show _ ≤ total p1.fs + b
      have : L.length ≤ total p1.fs + x := this
      omega
theorem total_mem : ∀ {l : List (List UInt8)} {f : List UInt8}, f ∈ l → f.length ≤ total l
  | [], _, h => by cases h
  | a :: l, f, h => by
    rw [total_cons]
    rcases List.mem_cons.1 h with rfl | h
    · omega
    · have := total_mem h; omega
/-- The texts are put together. -/
structure FinS (σb : AHeap) (ib id1 id2 : Nat) (p1 p2 : Pk) (G : List HE) (s : Nat) (τ : AHeap) : Prop where
  ex : ∃ im X g u1 u2, Hp σb (.o id2 (.cells (glCells g u2)) :: .o id1 (.cells (glCells g u1)) :: XL ib im X G) τ ∧ XOk X ∧ g.2 ≤ 10000 ∧ heldN g ≤ 1000 ∧
    (s = 0 → heldN g = 0 ∧ g.2 = 0 ∧ Two (pvs X) ∧ ∃ c, FI p1 c (pvs X) ∧ allIn p1 c) ∧ (s ≤ 1 → ∃ c, FI p2 c (pvs X) ∧ allIn p2 c) ∧ (s = 1 → heldN g ≤ total p1.fs ∧ g.2 ≤ 2000 ∧ ∀ x ∈ pvs X, x.sn = 2) ∧ (s = 2 → pvs X = [])
set_option maxHeartbeats 16000000 in
theorem TopReseg (one two : Pk) (grants : List Nat) (order : List UInt8) (w : Int) (σ : AHeap) (h1l : one.fs.length ≤ 140737488355328) (h2l : two.fs.length ≤ 140737488355328) (hgr : ∀ r ∈ grants, r < 65536) (hgl : grants.length ≤ 140737488351232) (hol : order.length ≤ 140737488351232) :
    ACalls Try.prog i_bowlinetop_TopReseg [amV one, amV two, .slice 1 (grants.map u16n) .none, sl .none order, i64v w] σ fun v σ' => v = boolv true ∧ Hp σ [] σ' := by
  obtain ⟨a1, a2, a3, a4, a5, a6, a7⟩ := one
  obtain ⟨b1, b2, b3, b4, b5, b6, b7⟩ := two
  dsimp only at h1l h2l
  show ACalls Try.prog i_bowlinetop_TopReseg [.agg [boolv a1, i64v a2, i64v a3, boolv a4, boolv a5, i64v a6, lists .none a7], .agg [boolv b1, i64v b2, i64v b3, boolv b4, boolv b5, i64v b6, lists .none b7], .slice 1 (grants.map u16n) .none, sl .none order, i64v w] σ _
  refine k_bowlinetop_TopReseg rfl ?_
  have H := Hp.nil σ
  (refine wX ?_)
  refine hnew H rfl ?_
  clear H
  intro i5 τ H
  (refine wX ?_)
  refine hnew H rfl ?_
  clear H
  intro i6 τ H
  (refine wX ?_)
  (repeat ((first | refine zI (by omega) ?_ | (apply zL H; (· repeat first | exact .h | apply AtK.t); (· rfl)) | (apply zS H; (· repeat first | exact .h | apply AtK.t); (· rfl); (conv => whnf); clear H; intro τ H) | rw [List.length_map]); (refine wX ?_)))
  have fin : ∀ {τ : AHeap} {L : List HE}, Hp σ L τ → Hp σ [] τ := fun H => H.left (L := [])
  by_cases c0 : a7.length + b7.length > 30
  · (repeat ((refine zY (by omega) ?_); (refine wX ?_)))
    refine acall (alive12 τ) ?_
    rintro _ σ_ ⟨rfl, e_⟩
    obtain rfl := e_.symm
    refine ⟨?_, Ext.refl _⟩
    (refine wX ?_)
    exact aret (VLe.refl _) (Sub.refl _) ⟨rfl, fin H⟩
  (repeat ((first | refine zN (by omega) ?_ | (apply zA H; (· repeat first | exact .h | apply AtK.t))); (refine wX ?_)))
  refine acall (aRight ⟨a1, a2, 1, a4, a5, a6, a7⟩ w τ (by dsimp only; omega)) ?_
  rintro _ σ_ ⟨rfl, e_⟩
  obtain rfl := e_.symm
  refine ⟨?_, Ext.refl _⟩
  (refine wX ?_)
  by_cases r1 : amSize ⟨a1, a2, 1, a4, a5, a6, a7⟩ w > 0
  case neg =>
    rw [decide_eq_false r1]
    (refine wX ?_)
    refine acall (alive12 τ) ?_
    rintro _ σ_ ⟨rfl, e_⟩
    obtain rfl := e_.symm
    refine ⟨?_, Ext.refl _⟩
    (refine wX ?_)
    exact aret (VLe.refl _) (Sub.refl _) ⟨rfl, fin H⟩
  rw [decide_eq_true r1]
  (refine wX ?_)
  (repeat (((apply zA H; (· repeat first | exact .h | apply AtK.t))); (refine wX ?_)))
  refine acall (aRight ⟨b1, b2, 2, b4, b5, b6, b7⟩ w τ (by dsimp only; omega)) ?_
  rintro _ σ_ ⟨rfl, e_⟩
  obtain rfl := e_.symm
  refine ⟨?_, Ext.refl _⟩
  (refine wX ?_)
  by_cases r2 : amSize ⟨b1, b2, 2, b4, b5, b6, b7⟩ w > 0
  case neg =>
    rw [decide_eq_false r2]
    (refine wX ?_)
    refine acall (alive12 τ) ?_
    rintro _ σ_ ⟨rfl, e_⟩
    obtain rfl := e_.symm
    refine ⟨?_, Ext.refl _⟩
    (refine wX ?_)
    exact aret (VLe.refl _) (Sub.refl _) ⟨rfl, fin H⟩
  rw [decide_eq_true r2]
  (refine wX ?_)
  (repeat (((apply zL H; (· repeat first | exact .h | apply AtK.t); (· rfl))); (refine wX ?_)))
  rcases (show a4 = false ∨ a4 = true by cases a4 <;> simp) with rfl | rfl
  case inr =>
    (refine wX ?_)
    refine acall (alive12 τ) ?_
    rintro _ σ_ ⟨rfl, e_⟩
    obtain rfl := e_.symm
    refine ⟨?_, Ext.refl _⟩
    (refine wX ?_)
    exact aret (VLe.refl _) (Sub.refl _) ⟨rfl, fin H⟩
  (refine wX ?_)
  (repeat (((apply zL H; (· repeat first | exact .h | apply AtK.t); (· rfl))); (refine wX ?_)))
  rcases (show b4 = false ∨ b4 = true by cases b4 <;> simp) with rfl | rfl
  case inr =>
    (refine wX ?_)
    refine acall (alive12 τ) ?_
    rintro _ σ_ ⟨rfl, e_⟩
    obtain rfl := e_.symm
    refine ⟨?_, Ext.refl _⟩
    (refine wX ?_)
    exact aret (VLe.refl _) (Sub.refl _) ⟨rfl, fin H⟩
  (refine wX ?_)
  (repeat ((rw [List.length_map]); (refine wX ?_)))
  by_cases hg0 : grants.length = 0
  · (repeat ((refine zY (by omega) ?_); (refine wX ?_)))
    refine acall (alive12 τ) ?_
    rintro _ σ_ ⟨rfl, e_⟩
    obtain rfl := e_.symm
    refine ⟨?_, Ext.refl _⟩
    (refine wX ?_)
    exact aret (VLe.refl _) (Sub.refl _) ⟨rfl, fin H⟩
  (repeat ((first | refine zN (by omega) ?_ | (apply zA H; (· repeat first | exact .h | apply AtK.t))); (refine wX ?_)))
  obtain ⟨t1, t2, t3, t4, t5, t6, t7⟩ := flds_posT r1
  obtain ⟨y1, y2, y3, y4, y5, y6, y7⟩ := flds_posT r2
  dsimp only at t1 t2 t3 t4 t5 t6 t7 y1 y2 y3 y4 y5 y6 y7
  refine acall (aData ⟨a1, a2, 1, false, a5, a6, a7⟩ τ (by dsimp only; omega) (by dsimp only; omega)) ?_
  rintro _ σ_ ⟨rfl, e_⟩
  obtain rfl := e_.symm
  refine ⟨?_, Ext.refl _⟩
  (refine wX ?_)
  (repeat ((rw [List.length_map]); (refine wX ?_)))
  refine acall (aData ⟨b1, b2, 2, false, b5, b6, b7⟩ τ (by dsimp only; omega) (by dsimp only; omega)) ?_
  rintro _ σ_ ⟨rfl, e_⟩
  obtain rfl := e_.symm
  refine ⟨?_, Ext.refl _⟩
  (refine wX ?_)
  dsimp only
  rw [List.length_map, show a7.flatten.length = total a7 from rfl, show b7.flatten.length = total b7 from rfl]
  (repeat ((refine zI (by omega) ?_); (refine wX ?_)))
  by_cases hbig : total a7 + total b7 > 1000
  · (repeat ((refine zY (by omega) ?_); (refine wX ?_)))
    refine acall (alive12 τ) ?_
    rintro _ σ_ ⟨rfl, e_⟩
    obtain rfl := e_.symm
    refine ⟨?_, Ext.refl _⟩
    (refine wX ?_)
    exact aret (VLe.refl _) (Sub.refl _) ⟨rfl, fin H⟩
  (repeat ((refine zN (by omega) ?_); (refine wX ?_)))
  obtain ⟨p1, hp1⟩ : ∃ p : Pk, p = ⟨a1, a2, 1, false, a5, a6, a7⟩ := ⟨_, rfl⟩
  obtain ⟨p2, hp2⟩ : ∃ p : Pk, p = ⟨b1, b2, 2, false, b5, b6, b7⟩ := ⟨_, rfl⟩
  replace H : Hp σ [.o i6 (.cells (amV p2).cells), .o i5 (.cells (amV p1).cells)] τ := by rw [hp1, hp2]; exact H
  rw [← hp1] at r1
  rw [← hp2] at r2
  have s1 : p1.sn = 1 ∧ p1.part = false ∧ p1.fs = a7 := by rw [hp1]; exact ⟨rfl, rfl, rfl⟩
  have s2 : p2.sn = 2 ∧ p2.part = false ∧ p2.fs = b7 := by rw [hp2]; exact ⟨rfl, rfl, rfl⟩
  obtain ⟨e1, e2, e3⟩ := s1
  obtain ⟨f1, f2, f3⟩ := s2
  rw [← e3] at t1 t2 t3 t4 t5 hbig
  rw [← f3] at y1 y2 y3 y4 y5 hbig
  clear hp1 hp2 c0 h1l h2l e3 f3
  have hlr : 0 ≤ leastV w ∧ leastV w ≤ 6 := by have := amHead_range true w; unfold leastV; split <;> omega
  have H := H.cons_full
  refine aloop (α := Nat × List PT × Tok × AHeap) (fun y => [(s12, i64v y.1), (s11, lists y.2.2.1 (y.2.1.map (ptB w)))]) (fun y => y.2.2.2)
    (fun y => y.1 ≤ 2 ∧ Pts p1 p2 w (if 1 ≤ y.1 then total p1.fs else 0) (if 2 ≤ y.1 then total p2.fs else 0) y.2.1 ∧ Hp σ [.t y.2.2.1, .o i6 (.cells (amV p2).cells), .o i5 (.cells (amV p1).cells)] y.2.2.2) (fun y => 2 - y.1)
    (0, [], .full, τ) ⟨Nat.zero_le _, ⟨nofun, (fun k hk => absurd hk (Nat.not_lt_zero _)), (fun k hk => absurd hk (Nat.not_lt_zero _)), Nat.zero_le _⟩, H⟩ (Sub.refl _) ?_ ?_
  · (refine wX ?_)
    exact elX
  clear H
  rintro ⟨s, L, tk, τ⟩ ⟨hs, hP, H⟩
  dsimp only at hs hP H ⊢
  (refine wX ?_)
  by_cases hs2 : s < 2
  case pos =>
    (repeat ((first | refine zY (by omega) ?_ | (apply zA H; (· repeat first | exact .h | apply AtK.t))); (refine wX ?_)))
    refine hnew H rfl ?_
    clear H
    intro i13 τ H
    (refine wX ?_)
    (repeat (((apply zS H; (· repeat first | exact .h | apply AtK.t); (· rfl); (conv => whnf); clear H; intro τ H)); (refine wX ?_)))
    by_cases hs1 : s = 1
    case pos =>
      subst hs1
      (repeat ((first | refine zY (by omega) ?_ | (apply zA H; (· repeat first | exact .h | apply AtK.t)) | (apply zS H; (· repeat first | exact .h | apply AtK.t); (· rfl); (conv => whnf); clear H; intro τ H)); (refine wX ?_)))
      refine acall (aData p2 τ (by omega) (by omega)) ?_
      rintro _ σ_ ⟨rfl, e_⟩
      obtain rfl := e_.symm
      refine ⟨?_, Ext.refl _⟩
      (refine wX ?_)
      rw [List.length_map, show p2.fs.flatten.length = total p2.fs from rfl]
      skip
      refine aloop (α := Nat × List PT × Tok × AHeap) (fun y => [(s15, i64v y.1), (s11, lists y.2.2.1 (y.2.1.map (ptB w)))]) (fun y => y.2.2.2)
        (fun y => y.1 ≤ total p2.fs ∧ Pts p1 p2 w (nA p1 true y.1) (nB true y.1) y.2.1 ∧ Hp σ [.o i13 (.cells (amV p2).cells), .t y.2.2.1, .o i6 (.cells (amV p2).cells), .o i5 (.cells (amV p1).cells)] y.2.2.2) (fun y => total p2.fs - y.1)
        (0, L, tk, τ) ⟨Nat.zero_le _, hP, H⟩ (Sub.refl _) ?_ ?_
      · (refine wX ?_)
        exact elX
      clear H hP
      rintro ⟨x, M, tk, τ⟩ ⟨hx, hM, H⟩
      dsimp only at hx hM H ⊢
      have hMl : M.length ≤ 2000 := by
        have := hM.le
        have e : nA p1 true x + nB true x ≤ 2000 := by unfold nA nB; simp; omega
        omega
      (refine wX ?_)
      skip
      by_cases hxn : x < total p2.fs
      · (repeat ((first | refine zY (by omega) ?_ | (apply zA H; (· repeat first | exact .h | apply AtK.t))); (refine wX ?_)))
        have hjm : M.length % grants.length < grants.length := Nat.mod_lt _ (by omega)
        have hrj := hgr _ (List.getElem_mem hjm)
        refine ⟨⟨_, fun σx hx => gLeast w σx, ?_⟩⟩
        (refine wX ?_)
        (repeat ((first | refine zE (by omega) (by omega) ?_ | rw [List.length_map]); (refine wX ?_)))
        rw [show ((M.length : Int) % (grants.length : Int)) = ((M.length % grants.length : Nat) : Int) from (Int.natCast_emod _ _).symm]
        refine aget (by omega) (get_u16n hjm) ?_
        (refine wX ?_)
        (repeat ((first | refine zI (by omega) ?_ | refine zE (by omega) (by omega) ?_ | refine zR rfl ?_); (refine wX ?_)))
        obtain ⟨gr, hgr3⟩ : ∃ gr : Int, gr = ((grants[M.length % grants.length] : Nat) : Int) % 50 := ⟨_, rfl⟩
        rw [← hgr3]
        obtain ⟨q, b, hcut, hPq, hqr⟩ := cut_partW (a := x) (g := leastV w + gr) f2 r2 hxn (by omega) (by omega)
        have hab := hPq.ab
        have hbn := hPq.bn
        refine ⟨⟨_, fun σx hx => gCut p2 x (total p2.fs) (leastV w + gr) w σx (by omega), ?_⟩⟩
        rw [hcut]
        dsimp only [amV]
        (refine wX ?_)
        refine hnew H rfl ?_
        clear H
        intro i16 τ H
        (refine wX ?_)
        (repeat ((first | refine zN (by omega) ?_ | (apply zA H; (· repeat first | exact .h | apply AtK.t)) | (apply zS H; (· repeat first | exact .h | apply AtK.t); (· rfl); (conv => whnf); clear H; intro τ H)); (refine wX ?_)))
        refine acall (aWrite q w τ hqr) ?_
        rintro _ σ_ ⟨rfl, e_⟩
        obtain rfl := e_.symm
        refine ⟨?_, Ext.refl _⟩
        (refine wX ?_)
        (refine wX ?_)
        skip
        apply zP H
        · (repeat first | exact .h | apply AtK.t)
        · exact (by rw [List.length_map, List.length_map]; show (_ + 1) * 24 ≤ _; omega)
        intro tk2
        (conv => whnf)
        clear H
        intro τ H
        (refine wX ?_)
        rw [show (M.map (ptB w)).map (sl .none) ++ [sl .none (amBytes q w)] = ((M ++ [(true, x, b, q)]).map (ptB w)).map (sl .none) by rw [List.map_append, List.map_append]; rfl]
        skip
        refine ⟨(b, M ++ [(true, x, b, q)], tk2, τ), ⟨hbn, hM.step hPq hqr, Hp.rest (A := [_]) H⟩, by dsimp only; omega, Sub.refl _, ?_⟩
        (refine wX ?_)
        exact elX
      · (repeat ((first | refine zI (by omega) ?_ | refine zN (by omega) ?_); (refine wX ?_)))
        obtain rfl : x = total p2.fs := by omega
        refine ⟨(1 + 1, M, tk, τ), ⟨by dsimp only; omega, hM, Hp.rest (A := [_]) H⟩, by dsimp only; omega, Sub.refl _, ?_⟩
        (refine wX ?_)
        exact elX
    case neg =>
      obtain rfl : s = 0 := by omega
      (repeat ((first | refine zN (by omega) ?_ | (apply zA H; (· repeat first | exact .h | apply AtK.t))); (refine wX ?_)))
      refine acall (aData p1 τ (by omega) (by omega)) ?_
      rintro _ σ_ ⟨rfl, e_⟩
      obtain rfl := e_.symm
      refine ⟨?_, Ext.refl _⟩
      (refine wX ?_)
      rw [List.length_map, show p1.fs.flatten.length = total p1.fs from rfl]
      skip
      refine aloop (α := Nat × List PT × Tok × AHeap) (fun y => [(s15, i64v y.1), (s11, lists y.2.2.1 (y.2.1.map (ptB w)))]) (fun y => y.2.2.2)
        (fun y => y.1 ≤ total p1.fs ∧ Pts p1 p2 w (nA p1 false y.1) (nB false y.1) y.2.1 ∧ Hp σ [.o i13 (.cells (amV p1).cells), .t y.2.2.1, .o i6 (.cells (amV p2).cells), .o i5 (.cells (amV p1).cells)] y.2.2.2) (fun y => total p1.fs - y.1)
        (0, L, tk, τ) ⟨Nat.zero_le _, hP, H⟩ (Sub.refl _) ?_ ?_
      · (refine wX ?_)
        exact elX
      clear H hP
      rintro ⟨x, M, tk, τ⟩ ⟨hx, hM, H⟩
      dsimp only at hx hM H ⊢
      have hMl : M.length ≤ 2000 := by
        have := hM.le
        have e : nA p1 false x + nB false x ≤ 2000 := by unfold nA nB; simp; omega
        omega
      (refine wX ?_)
      skip
      by_cases hxn : x < total p1.fs
      · (repeat ((first | refine zY (by omega) ?_ | (apply zA H; (· repeat first | exact .h | apply AtK.t))); (refine wX ?_)))
        have hjm : M.length % grants.length < grants.length := Nat.mod_lt _ (by omega)
        have hrj := hgr _ (List.getElem_mem hjm)
        refine ⟨⟨_, fun σx hx => gLeast w σx, ?_⟩⟩
        (refine wX ?_)
        (repeat ((first | refine zE (by omega) (by omega) ?_ | rw [List.length_map]); (refine wX ?_)))
        rw [show ((M.length : Int) % (grants.length : Int)) = ((M.length % grants.length : Nat) : Int) from (Int.natCast_emod _ _).symm]
        refine aget (by omega) (get_u16n hjm) ?_
        (refine wX ?_)
        (repeat ((first | refine zI (by omega) ?_ | refine zE (by omega) (by omega) ?_ | refine zR rfl ?_); (refine wX ?_)))
        obtain ⟨gr, hgr3⟩ : ∃ gr : Int, gr = ((grants[M.length % grants.length] : Nat) : Int) % 50 := ⟨_, rfl⟩
        rw [← hgr3]
        obtain ⟨q, b, hcut, hPq, hqr⟩ := cut_partW (a := x) (g := leastV w + gr) e2 r1 hxn (by omega) (by omega)
        have hab := hPq.ab
        have hbn := hPq.bn
        refine ⟨⟨_, fun σx hx => gCut p1 x (total p1.fs) (leastV w + gr) w σx (by omega), ?_⟩⟩
        rw [hcut]
        dsimp only [amV]
        (refine wX ?_)
        refine hnew H rfl ?_
        clear H
        intro i16 τ H
        (refine wX ?_)
        (repeat ((first | refine zN (by omega) ?_ | (apply zA H; (· repeat first | exact .h | apply AtK.t)) | (apply zS H; (· repeat first | exact .h | apply AtK.t); (· rfl); (conv => whnf); clear H; intro τ H)); (refine wX ?_)))
        refine acall (aWrite q w τ hqr) ?_
        rintro _ σ_ ⟨rfl, e_⟩
        obtain rfl := e_.symm
        refine ⟨?_, Ext.refl _⟩
        (refine wX ?_)
        (refine wX ?_)
        skip
        apply zP H
        · (repeat first | exact .h | apply AtK.t)
        · exact (by rw [List.length_map, List.length_map]; show (_ + 1) * 24 ≤ _; omega)
        intro tk2
        (conv => whnf)
        clear H
        intro τ H
        (refine wX ?_)
        rw [show (M.map (ptB w)).map (sl .none) ++ [sl .none (amBytes q w)] = ((M ++ [(false, x, b, q)]).map (ptB w)).map (sl .none) by rw [List.map_append, List.map_append]; rfl]
        skip
        refine ⟨(b, M ++ [(false, x, b, q)], tk2, τ), ⟨hbn, hM.step hPq hqr, Hp.rest (A := [_]) H⟩, by dsimp only; omega, Sub.refl _, ?_⟩
        (refine wX ?_)
        exact elX
      · (repeat ((first | refine zI (by omega) ?_ | refine zN (by omega) ?_); (refine wX ?_)))
        obtain rfl : x = total p1.fs := by omega
        refine ⟨(0 + 1, M, tk, τ), ⟨by dsimp only; omega, hM, Hp.rest (A := [_]) H⟩, by dsimp only; omega, Sub.refl _, ?_⟩
        (refine wX ?_)
        exact elX
  obtain rfl : s = 2 := by omega
  have hP : Pts p1 p2 w (total p1.fs) (total p2.fs) L := hP
  have hLl : L.length ≤ 1000 := by have := hP.le; omega
  have hL0 : 0 < L.length := by
    obtain ⟨t, ht, _⟩ := hP.c1 0 t1
    exact List.length_pos_of_mem ht
  (repeat ((refine zN (by omega) ?_); (refine wX ?_)))
  refine acall (buNew τ) ?_
  rintro _ τ2 ⟨ib, im, rfl, N⟩
  refine ⟨?_, N.ext⟩
  have z : St σ ib p1 p2 [] [.t tk, .o i6 (.cells (amV p2).cells), .o i5 (.cells (amV p1).cells)] τ2 := ⟨im, [], [], [], H.join N, XOk.nil, nofun, .inl ⟨rfl, fun _ => rfl⟩, .inl ⟨rfl, fun _ => rfl⟩, nofun⟩
  clear H N
  have H := Hp.nil τ2
  (refine wX ?_)
  generalize hG : [HE.t tk, HE.o i6 (.cells (amV p2).cells), HE.o i5 (.cells (amV p1).cells)] = G at z
  refine aloop (α := Nat × List PT × AHeap) (fun y => [(s22, i64v y.1)]) (fun y => y.2.2)
    (fun y => y.1 ≤ order.length + L.length ∧ (∀ j, j + order.length < y.1 → ∀ t, L[j]? = some t → t ∈ y.2.1) ∧ St σ ib p1 p2 y.2.1 G y.2.2) (fun y => order.length + L.length - y.1)
    (0, [], τ2) ⟨Nat.zero_le _, (fun j hj => absurd hj (Nat.not_lt_zero _)), z⟩ (Sub.refl _) ?_ ?_
  · (refine wX ?_)
    exact elX
  clear H z
  rintro ⟨i, D, τ⟩ ⟨hi, hD, z⟩
  dsimp only at hi hD z ⊢
  have H := Hp.nil τ
  (refine wX ?_)
  rw [List.length_map, List.length_map, List.length_map]
  by_cases h : i < order.length + L.length
  case pos =>
    (repeat ((first | refine zI (by omega) ?_ | refine zY (by omega) ?_ | rw [List.length_map]); (refine wX ?_)))
    by_cases hio : i < order.length
    case' pos =>
      have hkk : order[i].toNat % L.length < L.length := Nat.mod_lt _ hL0
      have hx256 : order[i].toNat < 256 := order[i].toNat_lt
      (repeat ((refine zY (by omega) ?_); (refine wX ?_)))
      refine aget (by omega) (get_bytes hio) ?_
      (refine wX ?_)
      refine acell rfl ?_
      (refine wX ?_)
      (repeat ((first | refine zI (by omega) ?_ | refine zE (by omega) (by omega) ?_ | rw [List.length_map]); (refine wX ?_)))
      rw [show ((order[i].toNat : Int) % (L.length : Int)) = ((order[i].toNat % L.length : Nat) : Int) from (Int.natCast_emod _ _).symm]
      have hkj : ∀ j, j + order.length = i → j = order[i].toNat % L.length := fun j hj => by omega
      generalize order[i].toNat % L.length = kk at *
    case' neg =>
      have hkk : i - order.length < L.length := by omega
      (repeat ((refine zN (by omega) ?_); (refine wX ?_)))
      rw [show ((i : Int) - (order.length : Int)) = ((i - order.length : Nat) : Int) by omega]
      have hkj : ∀ j, j + order.length = i → j = i - order.length := fun j hj => by omega
      generalize i - order.length = kk at *
    all_goals
      skip
      refine aget (by omega) (x := sl .none (ptB w L[kk])) (by rw [Int.toNat_natCast, List.getElem?_map, List.getElem?_map, List.getElem?_eq_getElem hkk]; rfl) ?_
      (refine wX ?_)
      (repeat ((refine zR rfl ?_); (refine wX ?_)))
      have ht := hP.ok _ (List.getElem_mem hkk)
      have hD2 : ∀ j, j + order.length < i + 1 → ∀ t, L[j]? = some t → t ∈ L[kk] :: D := fun j hj t hjt => by
        by_cases hj2 : j + order.length < i
        · exact List.mem_cons_of_mem _ (hD j hj2 t hjt)
        · have e := hkj j (by omega)
          rw [e, List.getElem?_eq_getElem hkk] at hjt
          rw [← Option.some.inj hjt]
          exact List.mem_cons_self ..
      generalize L[kk] = t at *
      obtain ⟨ta, tb, tc, q⟩ := t
      unfold ptB
      dsimp only
      refine acall (aRead q w .none τ ht.2) ?_
      rintro _ σ_ ⟨rfl, e_⟩
      obtain rfl := e_.symm
      refine ⟨?_, Ext.refl _⟩
      (refine wX ?_)
      refine hnew H rfl ?_
      clear H
      intro i24 τ H
      (refine wX ?_)
      (repeat ((first | (apply zA H; (· repeat first | exact .h | apply AtK.t)) | (apply zS H; (· repeat first | exact .h | apply AtK.t); (· rfl); (conv => whnf); clear H; intro τ H)); (refine wX ?_)))
      have z := z.push H
      clear H
      refine acall (zPutT z e1 f1 (by omega) (by omega) (ta, tb, tc, q) ht) ?_
      clear z
      rintro _ τ ⟨⟨qv, rfl, hqv⟩, z⟩
      have H := Hp.nil τ
      rcases hqv with rfl | rfl
      all_goals
        (refine wX ?_)
        (repeat ((refine zI (by omega) ?_); (refine wX ?_)))
        refine ⟨(i + 1, (ta, tb, tc, q) :: D, τ), ⟨by dsimp only; omega, hD2, St.pop (E := [_]) z⟩, by dsimp only; omega, Sub.refl _, ?_⟩
        (refine wX ?_)
        exact elX
  obtain rfl : i = order.length + L.length := by omega
  obtain ⟨im, X, ca, cb, HX, ok, two, m1, m2, all1, all2⟩ := z.all (w := w) (L := L) (fun t ht => by
    obtain ⟨j, hj, rfl⟩ := List.getElem_of_mem ht
    exact hD j (by omega) _ (List.getElem?_eq_getElem hj)) hP.c1 hP.c2
  clear z H
  have H := Hp.nil τ
  (repeat ((first | refine zI (by omega) ?_ | refine zN (by omega) ?_); (refine wX ?_)))
  refine acall (gNew τ) ?_
  rintro _ σ1 ⟨id1, rfl, w1⟩
  refine ⟨?_, w1.ext⟩
  obtain ⟨u1, HX⟩ := HX.glnew w1
  clear w1 H
  (refine wX ?_)
  refine acall (gNew σ1) ?_
  rintro _ σ2 ⟨id2, rfl, w2⟩
  refine ⟨?_, w2.ext⟩
  obtain ⟨u2, HX⟩ := HX.glnew w2
  clear w2
  have F : FinS σ ib id1 id2 p1 p2 G 0 σ2 := ⟨im, X, (none, 0), u1, u2, HX, ok, Nat.zero_le _, Nat.zero_le _, fun _ => ⟨rfl, rfl, two, ca, m1, all1⟩, fun _ => ⟨cb, m2, all2⟩, (fun h => by omega), (fun h => by omega)⟩
  have hG5 : G[2]? = some (.o i5 (.cells (amV p1).cells)) := by rw [← hG]; rfl
  have hG6 : G[1]? = some (.o i6 (.cells (amV p2).cells)) := by rw [← hG]; rfl
  clear HX ok two m1 m2 all1 all2
  have H := Hp.nil σ2
  (refine wX ?_)
  refine aloop (α := Nat × AHeap) (fun y => [(s29, i64v y.1)]) (fun y => y.2) (fun y => y.1 ≤ 2 ∧ FinS σ ib id1 id2 p1 p2 G y.1 y.2) (fun y => 2 - y.1) (0, σ2) ⟨Nat.zero_le _, F⟩ (Sub.refl _) ?_ ?_
  · (refine wX ?_)
    exact elX
  clear H F
  rintro ⟨s, τ⟩ ⟨hs, F⟩
  dsimp only at hs F ⊢
  obtain ⟨im, X, g, u1, u2, HX, ok, hg2, hgh, F0, F1, F2, F3⟩ := F
  have b1 : τ i5 = some (.cells (amV p1).cells) := HX.ok (.o i5 _) (by have := List.mem_of_getElem? hG5; simp [this])
  have b2 : τ i6 = some (.cells (amV p2).cells) := HX.ok (.o i6 _) (by have := List.mem_of_getElem? hG6; simp [this])
  have H := Hp.nil τ
  (refine wX ?_)
  by_cases hs2 : s < 2
  case pos =>
    (repeat ((first | refine zY (by omega) ?_ | refine zC H b1 ?_); (refine wX ?_)))
    refine hnew H rfl ?_
    clear H
    intro i30 τ H
    (refine wX ?_)
    (repeat (((apply zS H; (· repeat first | exact .h | apply AtK.t); (· rfl); (conv => whnf); clear H; intro τ H)); (refine wX ?_)))
    by_cases hs1 : s = 1
    case pos =>
      subst hs1
      (repeat ((first | refine zY (by omega) ?_ | refine zC H b2 ?_ | (apply zL H; (· repeat first | exact .h | apply AtK.t); (· rfl)) | (apply zS H; (· repeat first | exact .h | apply AtK.t); (· rfl); (conv => whnf); clear H; intro τ H)); (refine wX ?_)))
      have hPf := flds_posT r2
      obtain ⟨hgp, hpa⟩ := gp_ok r2
      obtain ⟨q1, q2, q3⟩ := F2 rfl
      obtain ⟨c, mc, ac⟩ := F1 (Nat.le_refl _)
      have hok : ∀ x ∈ pvs X, x.Ok := fun x hx => by obtain ⟨y, hy, rfl⟩ := List.mem_map.1 hx; exact ok.ok y hy
      obtain ⟨k1, k2, k3⟩ := mc.take hok hPf.1 (by omega) hPf.2.2.2.2.1 ⟨hPf.2.2.2.2.2.1, hPf.2.2.2.2.2.2⟩ ac
      have hrun := hpa g (by omega)
      obtain ⟨v1, v2, v3⟩ := runB_held p2 g 0 (total p2.fs)
      have hput : putG p2.fi p2.fs false g = runB p2 g 0 (total p2.fs) := by rw [← hrun]; unfold putG gapG; rw [if_neg (by rw [hgp]; exact Bool.false_ne_true), if_neg Bool.false_ne_true]
      replace H := HX.join H
      clear HX b1 b2
      have H : Hp σ (XL ib im X ([.o i30 (.cells (amV p2).cells), .o id2 (.cells (glCells g u2)), .o id1 (.cells (glCells g u1))] ++ G)) τ := Hp.mid (A := [.o i30 (.cells (amV p2).cells), .o id2 (.cells (glCells g u2)), .o id1 (.cells (glCells g u1))]) (B := .o ib (.cells (buC im)) :: .o im (.map (esX X)) :: flatX X) (C := G) H
      refine acall (xTake H ok p2.sn) ?_
      clear H
      rintro _ τ ⟨rfl, X', H, hX', ok', hl'⟩
      rw [k1, k2]
      rw [k3] at hX'
      have H : Hp σ (.o i30 (.cells (amV p2).cells) :: .o id2 (.cells (glCells g u2)) :: .o id1 (.cells (glCells g u1)) :: XL ib im X' G) τ := Hp.mid (A := .o ib (.cells (buC im)) :: .o im (.map (esX X')) :: flatX X') (B := [.o i30 (.cells (amV p2).cells), .o id2 (.cells (glCells g u2)), .o id1 (.cells (glCells g u1))]) (C := G) H
      dsimp only
      (refine wX ?_)
      have hgn : (g.1.getD []).length ≤ 1000 := by have h0 : heldN g = (g.1.getD []).length := rfl; omega
      refine acall (gPut id1 p2.fi p2.fs .none false g _ _ (Gl.at (H.get (k := 2) rfl)) (by omega) hgn (by omega) (fun f hf => by have := total_mem hf; omega)) ?_
      rintro _ τ3 ⟨rfl, w5⟩
      obtain ⟨t5, H1⟩ := H.glput (k := 2) rfl w5
      clear w5 H
      dsimp only [List.set] at H1
      have H := H1
      clear H1
      rw [hput] at H ⊢
      rw [hgp, if_neg Bool.false_ne_true]
      (refine wX ?_)
      (repeat (((apply zL H; (· repeat first | exact .h | apply AtK.t); (· rfl))); (refine wX ?_)))
      refine acall (gPut id2 p2.fi p2.fs .none false g _ _ (Gl.at (H.get (k := 1) rfl)) (by omega) hgn (by omega) (fun f hf => by have := total_mem hf; omega)) ?_
      rintro _ τ4 ⟨rfl, w6⟩
      obtain ⟨t6, H1⟩ := H.glput (k := 1) rfl w6
      clear w6 H
      dsimp only [List.set] at H1
      have H := H1
      clear H1
      rw [hput] at H ⊢
      rw [hgp, if_neg Bool.false_ne_true]
      (refine wX ?_)
      (repeat ((rw [List.length_map]); (refine wX ?_)))
      have hF : FinS σ ib id1 id2 p1 p2 G (1 + 1) τ4 := by
        refine ⟨im, X', (runB p2 g 0 (total p2.fs)).2, t5, t6, H.tail, ok', by omega, by omega, (fun h => by omega), (fun h => by omega), (fun h => by omega), fun _ => ?_⟩
        rw [hX', f1, List.filter_eq_nil_iff]
        intro x hx
        have := q3 x hx
        simp [this]
      generalize (runB p2 g 0 (total p2.fs)).1 = O at *
      refine aloop (α := Nat) (fun k => [(s38, i64v k)]) (fun _ => τ4) (fun k => k ≤ O.length) (fun k => O.length - k) 0 (Nat.zero_le _) (Sub.refl _) ?_ ?_
      · (refine wX ?_)
        exact elX
      intro k hk
      (refine wX ?_)
      (repeat ((rw [List.length_map]); (refine wX ?_)))
      by_cases hk2 : k < O.length
      · (repeat ((refine zY (by omega) ?_); (refine wX ?_)))
        refine aget (by omega) (get_lists hk2) ?_
        (refine wX ?_)
        (repeat ((refine zR rfl ?_); (refine wX ?_)))
        refine astr rfl ?_
        (refine wX ?_)
        refine aget (by omega) (get_lists hk2) ?_
        (refine wX ?_)
        (repeat ((refine zR rfl ?_); (refine wX ?_)))
        refine astr rfl ?_
        (refine wX ?_)
        (repeat ((refine zI (by omega) ?_); (refine wX ?_)))
        refine ⟨k + 1, hk2, by omega, Sub.refl _, ?_⟩
        (refine wX ?_)
        exact elX
      · (repeat ((first | refine zI (by omega) ?_ | refine zN (by omega) ?_); (refine wX ?_)))
        refine ⟨(1 + 1, τ4), ⟨by dsimp only; omega, hF⟩, by dsimp only; omega, Sub.refl _, ?_⟩
        (refine wX ?_)
        exact elX
    case neg =>
      obtain rfl : s = 0 := by omega
      (repeat ((first | refine zN (by omega) ?_ | (apply zL H; (· repeat first | exact .h | apply AtK.t); (· rfl))); (refine wX ?_)))
      have hPf := flds_posT r1
      obtain ⟨hgp, hpa⟩ := gp_ok r1
      obtain ⟨q1, q2, q3, c, mc, ac⟩ := F0 rfl
      obtain ⟨c2, mc2, ac2⟩ := F1 (Nat.zero_le _)
      have hok : ∀ x ∈ pvs X, x.Ok := fun x hx => by obtain ⟨y, hy, rfl⟩ := List.mem_map.1 hx; exact ok.ok y hy
      obtain ⟨k1, k2, k3⟩ := mc.take hok hPf.1 (by omega) hPf.2.2.2.2.1 ⟨hPf.2.2.2.2.2.1, hPf.2.2.2.2.2.2⟩ ac
      have hrun := hpa g (by omega)
      obtain ⟨v1, v2, v3⟩ := runB_held p1 g 0 (total p1.fs)
      have hput : putG p1.fi p1.fs false g = runB p1 g 0 (total p1.fs) := by rw [← hrun]; unfold putG gapG; rw [if_neg (by rw [hgp]; exact Bool.false_ne_true), if_neg Bool.false_ne_true]
      replace H := HX.join H
      clear HX b1 b2
      have H : Hp σ (XL ib im X ([.o i30 (.cells (amV p1).cells), .o id2 (.cells (glCells g u2)), .o id1 (.cells (glCells g u1))] ++ G)) τ := Hp.mid (A := [.o i30 (.cells (amV p1).cells), .o id2 (.cells (glCells g u2)), .o id1 (.cells (glCells g u1))]) (B := .o ib (.cells (buC im)) :: .o im (.map (esX X)) :: flatX X) (C := G) H
      refine acall (xTake H ok p1.sn) ?_
      clear H
      rintro _ τ ⟨rfl, X', H, hX', ok', hl'⟩
      rw [k1, k2]
      rw [k3] at hX'
      have H : Hp σ (.o i30 (.cells (amV p1).cells) :: .o id2 (.cells (glCells g u2)) :: .o id1 (.cells (glCells g u1)) :: XL ib im X' G) τ := Hp.mid (A := .o ib (.cells (buC im)) :: .o im (.map (esX X')) :: flatX X') (B := [.o i30 (.cells (amV p1).cells), .o id2 (.cells (glCells g u2)), .o id1 (.cells (glCells g u1))]) (C := G) H
      dsimp only
      (refine wX ?_)
      have hgn : (g.1.getD []).length ≤ 1000 := by have h0 : heldN g = (g.1.getD []).length := rfl; omega
      refine acall (gPut id1 p1.fi p1.fs .none false g _ _ (Gl.at (H.get (k := 2) rfl)) (by omega) hgn (by omega) (fun f hf => by have := total_mem hf; omega)) ?_
      rintro _ τ3 ⟨rfl, w5⟩
      obtain ⟨t5, H1⟩ := H.glput (k := 2) rfl w5
      clear w5 H
      dsimp only [List.set] at H1
      have H := H1
      clear H1
      rw [hput] at H ⊢
      rw [hgp, if_neg Bool.false_ne_true]
      (refine wX ?_)
      (repeat (((apply zL H; (· repeat first | exact .h | apply AtK.t); (· rfl))); (refine wX ?_)))
      refine acall (gPut id2 p1.fi p1.fs .none false g _ _ (Gl.at (H.get (k := 1) rfl)) (by omega) hgn (by omega) (fun f hf => by have := total_mem hf; omega)) ?_
      rintro _ τ4 ⟨rfl, w6⟩
      obtain ⟨t6, H1⟩ := H.glput (k := 1) rfl w6
      clear w6 H
      dsimp only [List.set] at H1
      have H := H1
      clear H1
      rw [hput] at H ⊢
      rw [hgp, if_neg Bool.false_ne_true]
      (refine wX ?_)
      (repeat ((rw [List.length_map]); (refine wX ?_)))
      have hF : FinS σ ib id1 id2 p1 p2 G (0 + 1) τ4 := by
        refine ⟨im, X', (runB p1 g 0 (total p1.fs)).2, t5, t6, H.tail, ok', by omega, by omega, (fun h => by omega), (fun _ => ⟨c2, by rw [hX']; exact mc2.other (by rw [e1, f1]; exact filt_other (by decide) _), ac2⟩), (fun _ => ⟨by omega, by omega, fun x hx => ?_⟩), (fun h => by omega)⟩
        rw [hX', e1] at hx
        obtain ⟨hx1, hx2⟩ := List.mem_filter.1 hx
        have := q3 x hx1
        have := of_decide_eq_true hx2
        omega
      generalize (runB p1 g 0 (total p1.fs)).1 = O at *
      refine aloop (α := Nat) (fun k => [(s38, i64v k)]) (fun _ => τ4) (fun k => k ≤ O.length) (fun k => O.length - k) 0 (Nat.zero_le _) (Sub.refl _) ?_ ?_
      · (refine wX ?_)
        exact elX
      intro k hk
      (refine wX ?_)
      (repeat ((rw [List.length_map]); (refine wX ?_)))
      by_cases hk2 : k < O.length
      · (repeat ((refine zY (by omega) ?_); (refine wX ?_)))
        refine aget (by omega) (get_lists hk2) ?_
        (refine wX ?_)
        (repeat ((refine zR rfl ?_); (refine wX ?_)))
        refine astr rfl ?_
        (refine wX ?_)
        refine aget (by omega) (get_lists hk2) ?_
        (refine wX ?_)
        (repeat ((refine zR rfl ?_); (refine wX ?_)))
        refine astr rfl ?_
        (refine wX ?_)
        (repeat ((refine zI (by omega) ?_); (refine wX ?_)))
        refine ⟨k + 1, hk2, by omega, Sub.refl _, ?_⟩
        (refine wX ?_)
        exact elX
      · (repeat ((first | refine zI (by omega) ?_ | refine zN (by omega) ?_); (refine wX ?_)))
        refine ⟨(0 + 1, τ4), ⟨by dsimp only; omega, hF⟩, by dsimp only; omega, Sub.refl _, ?_⟩
        (refine wX ?_)
        exact elX
  obtain rfl : s = 2 := by omega
  (repeat ((refine zN (by omega) ?_); (refine wX ?_)))
  refine acall (alive12 τ) ?_
  rintro _ σ_ ⟨rfl, e_⟩
  obtain rfl := e_.symm
  refine ⟨?_, Ext.refl _⟩
  (refine wX ?_)
  refine acall (gHeld id1 _ _ _ (Gl.at (HX.get (k := 1) rfl))) ?_
  rintro _ σ_ ⟨rfl, e_⟩
  obtain rfl := e_.symm
  refine ⟨?_, Ext.refl _⟩
  (refine wX ?_)
  refine acall (gHeld id2 _ _ _ (Gl.at (HX.get (k := 0) rfl))) ?_
  rintro _ σ_ ⟨rfl, e_⟩
  obtain rfl := e_.symm
  refine ⟨?_, Ext.refl _⟩
  (refine wX ?_)
  skip
  refine acall (xBytes HX.tail.tail ok) ?_
  rintro _ σ_ ⟨rfl, e_⟩
  obtain rfl := e_.symm
  refine ⟨?_, Ext.refl _⟩
  (refine wX ?_)
  rw [F3 rfl, show bytesS [] = 0 from rfl]
  skip
  exact aret (VLe.refl _) (Sub.refl _) ⟨rfl, fin HX⟩
end Go.Proofs.Ytgbpjbpdpgbngaa
