/-
  Blocks: what is read is told; there and back.
-/
import Derived.Test.YtndphnojmpeogaaClaw30a
namespace Go.Proofs.Ytndphnojmpeogaa
set_option linter.unusedVariables false
set_option linter.unusedSimpArgs false
open Go Go.Am

theorem parse_length : ∀ (n : Nat) (out : List Part) (r : List UInt8), out.length + n ≤ 17 → (parse n out r).1.length ≤ 17
  | 0, out, r, h => by simp [parse]
  | n + 1, out, r, h => by
    unfold parse
    split
    · dsimp only; omega
    · split
      · simp
      · split
        · simp
        · split
          · simp
          · split
            · simp
            · exact parse_length n _ _ (by rw [List.length_append]; show _ + 1 + n ≤ 17; omega)
theorem readM_length (b : List UInt8) : (readM b).1.length ≤ 17 := by
  unfold readM
  split
  · simp
  · split
    · simp
    · exact parse_length 17 [] _ (by simp)

set_option maxRecDepth 20000 in
theorem MuxReads (b : List UInt8) (σ : AHeap) (hl : b.length ≤ 140737488355320) : ACalls Try.prog i_bowlinelaw30_MuxReads [sl .none b] σ fun v σ' => v = boolv true ∧ σ' = σ := by
  refine k_bowlinelaw30_MuxReads rfl ?_
  ((conv => whnf); (repeat ((first | with_reducible refine abr_true rfl ?_ | with_reducible refine abr_false rfl ?_ | with_reducible refine abr_yes rfl ?_ | refine abr_yes (by decide) ?_ | refine abr_no (by decide) ?_ | with_reducible refine abr_same_ne ?_); (conv => whnf))))
  by_cases h1 : b.length > 4200
  · (repeat ((first | refine aload (by (repeat (first | with_reducible exact upd_same _ _ _ | assumption | rw [upd_ne _ _ (by first | assumption | (apply Ne.symm; assumption))]))) rfl ?_ | refine afit_i64 (by omega) ?_ | refine arem_nonneg (by omega) (by omega) ?_ | refine adiv_i64 (by omega) (by omega) ?_ | refine abr_yes (by omega) ?_ | refine abr_no (by omega) ?_ | refine amin ?_ | refine amax ?_ | refine afit_u64 (by omega) ?_ | refine afit_u8 (by omega) ?_ | rw [List.length_map]); ((conv => whnf); (repeat ((first | with_reducible refine abr_true rfl ?_ | with_reducible refine abr_false rfl ?_ | with_reducible refine abr_yes rfl ?_ | refine abr_yes (by decide) ?_ | refine abr_no (by decide) ?_ | with_reducible refine abr_same_ne ?_); (conv => whnf))))))
    refine acall (alive30 _) ?_
    rintro _ σ_ ⟨rfl, e_⟩
    obtain rfl := e_.symm
    refine ⟨?_, Ext.refl _⟩
    ((conv => whnf); (repeat ((first | with_reducible refine abr_true rfl ?_ | with_reducible refine abr_false rfl ?_ | with_reducible refine abr_yes rfl ?_ | refine abr_yes (by decide) ?_ | refine abr_no (by decide) ?_ | with_reducible refine abr_same_ne ?_); (conv => whnf))))
    exact aret_same ⟨rfl, rfl⟩
  (repeat ((first | refine aload (by (repeat (first | with_reducible exact upd_same _ _ _ | assumption | rw [upd_ne _ _ (by first | assumption | (apply Ne.symm; assumption))]))) rfl ?_ | refine afit_i64 (by omega) ?_ | refine arem_nonneg (by omega) (by omega) ?_ | refine adiv_i64 (by omega) (by omega) ?_ | refine abr_yes (by omega) ?_ | refine abr_no (by omega) ?_ | refine amin ?_ | refine amax ?_ | refine afit_u64 (by omega) ?_ | refine afit_u8 (by omega) ?_ | rw [List.length_map]); ((conv => whnf); (repeat ((first | with_reducible refine abr_true rfl ?_ | with_reducible refine abr_false rfl ?_ | with_reducible refine abr_yes rfl ?_ | refine abr_yes (by decide) ?_ | refine abr_no (by decide) ?_ | with_reducible refine abr_same_ne ?_); (conv => whnf))))))
  have hm := readM_length b
  refine acall (mRead b .none _ hl) ?_
  rintro _ σ_ ⟨rfl, e_⟩
  obtain rfl := e_.symm
  refine ⟨?_, Ext.refl _⟩
  ((conv => whnf); (repeat ((first | with_reducible refine abr_true rfl ?_ | with_reducible refine abr_false rfl ?_ | with_reducible refine abr_yes rfl ?_ | refine abr_yes (by decide) ?_ | refine abr_no (by decide) ?_ | with_reducible refine abr_same_ne ?_); (conv => whnf))))
  refine acall (refRead30 b .none _ hl) ?_
  rintro _ σ_ ⟨rfl, e_⟩
  obtain rfl := e_.symm
  refine ⟨?_, Ext.refl _⟩
  ((conv => whnf); (repeat ((first | with_reducible refine abr_true rfl ?_ | with_reducible refine abr_false rfl ?_ | with_reducible refine abr_yes rfl ?_ | refine abr_yes (by decide) ?_ | refine abr_no (by decide) ?_ | with_reducible refine abr_same_ne ?_); (conv => whnf))))
  refine acall (alive30 _) ?_
  rintro _ σ_ ⟨rfl, e_⟩
  obtain rfl := e_.symm
  refine ⟨?_, Ext.refl _⟩
  ((conv => whnf); (repeat ((first | with_reducible refine abr_true rfl ?_ | with_reducible refine abr_false rfl ?_ | with_reducible refine abr_yes rfl ?_ | refine abr_yes (by decide) ?_ | refine abr_no (by decide) ?_ | with_reducible refine abr_same_ne ?_); (conv => whnf))))
  refine acall (mAs (readM b).1 .none _ (by omega)) ?_
  rintro _ σ_ ⟨rfl, e_⟩
  obtain rfl := e_.symm
  refine ⟨?_, Ext.refl _⟩
  ((conv => whnf); (repeat ((first | with_reducible refine abr_true rfl ?_ | with_reducible refine abr_false rfl ?_ | with_reducible refine abr_yes rfl ?_ | refine abr_yes (by decide) ?_ | refine abr_no (by decide) ?_ | with_reducible refine abr_same_ne ?_); (conv => whnf))))
  refine acall (refSame30 (readM b).1 (readM b).1 .none .none _ (by omega)) ?_
  rintro _ σ_ ⟨rfl, e_⟩
  obtain rfl := e_.symm
  refine ⟨?_, Ext.refl _⟩
  ((conv => whnf); (repeat ((first | with_reducible refine abr_true rfl ?_ | with_reducible refine abr_false rfl ?_ | with_reducible refine abr_yes rfl ?_ | refine abr_yes (by decide) ?_ | refine abr_no (by decide) ?_ | with_reducible refine abr_same_ne ?_); (conv => whnf))))
  exact aret_dec rfl (Sub.refl _)

theorem body_get {p : Part} (l : List Part) (hp : wrongP p = false) : word (body (p :: l)) = 2048 * p.1.toNat + p.2.length ∧ (body (p :: l)).length = 2 + p.2.length + (body l).length ∧ ((body (p :: l)).drop 2).take p.2.length = p.2 ∧ (body (p :: l)).drop (2 + p.2.length) = body l := by
  have hw := not_wrong hp
  have e : body (p :: l) = head p ++ (p.2 ++ body l) := by rw [body_cons, List.append_assoc]
  have h2 : (head p).length = 2 := rfl
  refine ⟨?_, ?_, ?_, ?_⟩
  · rw [e, ← word_take, List.take_append_of_le_length (by rw [h2]; exact Nat.le_refl _), List.take_of_length_le (by rw [h2]; exact Nat.le_refl _)]
    have hn : 2048 * p.1.toNat + p.2.length < 65536 := by omega
    unfold head
    generalize 2048 * p.1.toNat + p.2.length = n at *
    show 256 * (UInt8.ofNat (n / 256)).toNat + (UInt8.ofNat (n % 256)).toNat = n
    rw [UInt8.toNat_ofNat', UInt8.toNat_ofNat']
    omega
  · rw [e, List.length_append, List.length_append, h2]; omega
  · rw [e, List.drop_append_of_le_length (by rw [h2]; exact Nat.le_refl _), List.drop_of_length_le (by rw [h2]; exact Nat.le_refl _), List.nil_append, List.take_append_of_le_length (Nat.le_refl _), List.take_of_length_le (Nat.le_refl _)]
  · rw [e, ← List.append_assoc, List.drop_append_of_le_length (by rw [List.length_append, h2]; exact Nat.le_refl _), List.drop_of_length_le (by rw [List.length_append, h2]; exact Nat.le_refl _), List.nil_append]
theorem parse_body : ∀ (l : List Part) (n : Nat) (out : List Part), (∀ p ∈ l, wrongP p = false) → l.length < n → parse n out (body l) = (out ++ l, 0)
  | [], n, out, _, h => by
    obtain ⟨n, rfl⟩ : ∃ k, n = k + 1 := ⟨n - 1, by simp at h; omega⟩
    unfold parse
    rw [if_pos (show (body []).length = 0 from rfl), List.append_nil]
  | p :: l, n, out, hw, h => by
    obtain ⟨n, rfl⟩ : ∃ k, n = k + 1 := ⟨n - 1, by simp at h; omega⟩
    have hp := hw p (List.mem_cons_self ..)
    have hp2 := not_wrong hp
    obtain ⟨g1, g2, g3, g4⟩ := body_get l hp
    simp only [List.length_cons] at h
    unfold parse
    have hdiv : word (body (p :: l)) / 2048 = p.1.toNat := by rw [g1]; omega
    have hmod : word (body (p :: l)) % 2048 = p.2.length := by rw [g1]; omega
    rw [if_neg (by omega), if_neg (by omega), if_neg (by omega), hdiv, hmod, if_neg (by omega), if_neg (by omega), g3, g4]
    rw [show (((p.1.toNat : Nat) : Int), p.2) = p from Prod.ext (by show ((p.1.toNat : Nat) : Int) = p.1; omega) rfl]
    rw [parse_body l n (out ++ [p]) (fun q hq => hw q (List.mem_cons_of_mem _ hq)) (by omega), List.append_assoc]; rfl
theorem askCode_ok {l : List Part} (h : askCode l = 0) : (∀ p ∈ l, wrongP p = false) ∧ l.length ≤ 16 ∧ 2 + bodyLen l ≤ 4096 := by
  unfold askCode at h
  split at h
  · cases h
  · rename_i h1
    split at h
    · cases h
    · split at h
      · cases h
      · exact ⟨any_wrong (Bool.eq_false_iff.2 h1), by omega, by omega⟩
theorem opened_body (b : List UInt8) : opened (b ++ two (crc 65535#16 b)) = (some b, 0) := by
  have h2 : (two (crc 65535#16 b)).length = 2 := rfl
  have e1 : (b ++ two (crc 65535#16 b)).length - 2 = b.length := by rw [List.length_append, h2]; omega
  have e2 : (b ++ two (crc 65535#16 b)).take b.length = b := by rw [List.take_append_of_le_length (Nat.le_refl _), List.take_of_length_le (Nat.le_refl _)]
  unfold opened
  rw [if_neg (by rw [List.length_append, h2]; omega), e1, e2, if_pos rfl]
theorem read_write {l : List Part} (h : askCode l = 0) : readM (writeB l) = (l, 0) := by
  obtain ⟨hw, h16, hlen⟩ := askCode_ok h
  have hbl := body_length l
  unfold readM writeB
  rw [if_pos h, if_neg (by rw [List.length_append]; show ¬ (_ + 2 > 4096); omega), opened_body, if_neg (by simp)]
  show parse 17 [] (body l) = _
  rw [parse_body l 17 [] hw (by omega)]; rfl

/-- What is read is what is written. -/
theorem word_parts {r : List UInt8} (h : 2 ≤ r.length) (hid : word r / 2048 ≠ 0) (h0 : word r % 2048 ≠ 0) (hn : 2 + word r % 2048 ≤ r.length) :
    wrongP (((word r / 2048 : Nat) : Int), (r.drop 2).take (word r % 2048)) = false ∧ r = head (((word r / 2048 : Nat) : Int), (r.drop 2).take (word r % 2048)) ++ (r.drop 2).take (word r % 2048) ++ r.drop (2 + word r % 2048) := by
  match r, h with
  | a :: b :: r, _ =>
    have hw : word (a :: b :: r) = 256 * a.toNat + b.toNat := rfl
    have ha := a.toNat_lt
    have hb := b.toNat_lt
    have hlen : (((a :: b :: r).drop 2).take (word (a :: b :: r) % 2048)).length = word (a :: b :: r) % 2048 := by
      rw [List.length_take, List.length_drop]; omega
    constructor
    · refine Bool.eq_false_iff.2 fun h => ?_
      have := (wrong_iff _).1 h
      dsimp only at this
      rw [hlen, hw] at this
      rw [hw] at hid h0
      omega
    · unfold head
      rw [hlen, hw, Int.toNat_natCast, show 2048 * ((256 * a.toNat + b.toNat) / 2048) + (256 * a.toNat + b.toNat) % 2048 = 256 * a.toNat + b.toNat by omega, show (256 * a.toNat + b.toNat) / 256 = a.toNat by omega, show (256 * a.toNat + b.toNat) % 256 = b.toNat by omega]
      rw [UInt8.ofNat_toNat, UInt8.ofNat_toNat]
      show a :: b :: r = [a, b] ++ r.take _ ++ List.drop _ (a :: b :: r)
      rw [Nat.add_comm 2, List.drop_succ_cons, List.drop_succ_cons, List.append_assoc, List.take_append_drop]; rfl
theorem parse_ok : ∀ (n : Nat) (out : List Part) (r : List UInt8) (m : List Part), parse n out r = (m, 0) → ∃ l, m = out ++ l ∧ r = body l ∧ (∀ p ∈ l, wrongP p = false) ∧ l.length < n
  | 0, out, r, m, h => by simp [parse] at h
  | n + 1, out, r, m, h => by
    unfold parse at h
    split at h
    · rename_i h0
      injection h with h1 _
      exact ⟨[], by rw [← h1, List.append_nil], List.length_eq_zero_iff.1 h0, by simp, by simp⟩
    · split at h
      · injection h with _ h2; cases h2
      · split at h
        · injection h with _ h2; cases h2
        · split at h
          · injection h with _ h2; cases h2
          · split at h
            · injection h with _ h2; cases h2
            · rename_i h1 h2 h3 h4 h5
              obtain ⟨l, e1, e2, e3, e4⟩ := parse_ok n _ _ m h
              obtain ⟨w1, w2⟩ := word_parts (r := r) (by omega) (fun h => h4 (.inl h)) (fun h => h4 (.inr h)) (by omega)
              refine ⟨(((word r / 2048 : Nat) : Int), (r.drop 2).take (word r % 2048)) :: l, ?_, ?_, ?_, ?_⟩
              · rw [e1, List.append_assoc]; rfl
              · rw [body_cons, ← e2]; exact w2
              · intro p hp
                rcases List.mem_cons.1 hp with rfl | h
                · exact w1
                · exact e3 p h
              · rw [List.length_cons]; omega
theorem opened_inv {b d : List UInt8} (h : (opened b).2 = 0) (hd : (opened b).1.getD [] = d) : b = d ++ two (crc 65535#16 d) := by
  unfold opened at h hd
  split at h
  · cases h
  · rename_i h1
    rw [if_neg h1] at hd
    split at h
    · rename_i h2
      rw [if_pos h2] at hd
      rw [← hd]; exact h2.symm
    · cases h
theorem write_read {b : List UInt8} {m : List Part} (h : readM b = (m, 0)) : askCode m = 0 ∧ writeB m = b := by
  unfold readM at h
  split at h
  · injection h with _ h2; cases h2
  · split at h
    · rename_i h2
      injection h with _ h3
      exact absurd h3 h2
    · rename_i h1 h2
      obtain ⟨l, e1, e2, e3, e4⟩ := parse_ok 17 [] _ m h
      rw [List.nil_append] at e1
      subst e1
      have e5 := opened_inv (Classical.not_not.1 h2) e2
      have hbl := body_length m
      have hlb : b.length = bodyLen m + 2 := by rw [e5, List.length_append, hbl]; rfl
      have hc : askCode m = 0 := by
        unfold askCode
        rw [if_neg, if_neg (by omega), if_neg (by omega)]
        intro h
        obtain ⟨p, hp, hq⟩ := List.any_eq_true.1 h
        rw [e3 p hp] at hq; cases hq
      exact ⟨hc, by unfold writeB; rw [if_pos hc]; exact e5.symm⟩

set_option maxRecDepth 20000 in
theorem MuxBack (l : List Part) (b : List UInt8) (σ : AHeap) (hl : l.length ≤ 4398046511000) (hb : b.length ≤ 140737488355320) : ACalls Try.prog i_bowlinelaw30_MuxBack [parts .none l, sl .none b] σ fun v σ' => v = boolv true ∧ σ' = σ := by
  refine k_bowlinelaw30_MuxBack rfl ?_
  ((conv => whnf); (repeat ((first | with_reducible refine abr_true rfl ?_ | with_reducible refine abr_false rfl ?_ | with_reducible refine abr_yes rfl ?_ | refine abr_yes (by decide) ?_ | refine abr_no (by decide) ?_ | with_reducible refine abr_same_ne ?_); (conv => whnf))))
  refine acall (mGreat l .none _ hl) ?_
  rintro v σ' ⟨⟨g, rfl, hg⟩, e⟩
  obtain rfl := e.symm
  refine ⟨?_, Ext.refl _⟩
  ((conv => whnf); (repeat ((first | with_reducible refine abr_true rfl ?_ | with_reducible refine abr_false rfl ?_ | with_reducible refine abr_yes rfl ?_ | refine abr_yes (by decide) ?_ | refine abr_no (by decide) ?_ | with_reducible refine abr_same_ne ?_); (conv => whnf))))
  cases g with
  | true =>
    ((conv => whnf); (repeat ((first | with_reducible refine abr_true rfl ?_ | with_reducible refine abr_false rfl ?_ | with_reducible refine abr_yes rfl ?_ | refine abr_yes (by decide) ?_ | refine abr_no (by decide) ?_ | with_reducible refine abr_same_ne ?_); (conv => whnf))))
    refine acall (alive30 _) ?_
    rintro _ σ_ ⟨rfl, e_⟩
    obtain rfl := e_.symm
    refine ⟨?_, Ext.refl _⟩
    ((conv => whnf); (repeat ((first | with_reducible refine abr_true rfl ?_ | with_reducible refine abr_false rfl ?_ | with_reducible refine abr_yes rfl ?_ | refine abr_yes (by decide) ?_ | refine abr_no (by decide) ?_ | with_reducible refine abr_same_ne ?_); (conv => whnf))))
    exact aret_same ⟨rfl, rfl⟩
  | false =>
    ((conv => whnf); (repeat ((first | with_reducible refine abr_true rfl ?_ | with_reducible refine abr_false rfl ?_ | with_reducible refine abr_yes rfl ?_ | refine abr_yes (by decide) ?_ | refine abr_no (by decide) ?_ | with_reducible refine abr_same_ne ?_); (conv => whnf))))
    by_cases h1 : b.length > 4200
    · (repeat ((first | refine aload (by (repeat (first | with_reducible exact upd_same _ _ _ | assumption | rw [upd_ne _ _ (by first | assumption | (apply Ne.symm; assumption))]))) rfl ?_ | refine afit_i64 (by omega) ?_ | refine arem_nonneg (by omega) (by omega) ?_ | refine adiv_i64 (by omega) (by omega) ?_ | refine abr_yes (by omega) ?_ | refine abr_no (by omega) ?_ | refine amin ?_ | refine amax ?_ | refine afit_u64 (by omega) ?_ | refine afit_u8 (by omega) ?_ | rw [List.length_map]); ((conv => whnf); (repeat ((first | with_reducible refine abr_true rfl ?_ | with_reducible refine abr_false rfl ?_ | with_reducible refine abr_yes rfl ?_ | refine abr_yes (by decide) ?_ | refine abr_no (by decide) ?_ | with_reducible refine abr_same_ne ?_); (conv => whnf))))))
      refine acall (alive30 _) ?_
      rintro _ σ_ ⟨rfl, e_⟩
      obtain rfl := e_.symm
      refine ⟨?_, Ext.refl _⟩
      ((conv => whnf); (repeat ((first | with_reducible refine abr_true rfl ?_ | with_reducible refine abr_false rfl ?_ | with_reducible refine abr_yes rfl ?_ | refine abr_yes (by decide) ?_ | refine abr_no (by decide) ?_ | with_reducible refine abr_same_ne ?_); (conv => whnf))))
      exact aret_same ⟨rfl, rfl⟩
    (repeat ((first | refine aload (by (repeat (first | with_reducible exact upd_same _ _ _ | assumption | rw [upd_ne _ _ (by first | assumption | (apply Ne.symm; assumption))]))) rfl ?_ | refine afit_i64 (by omega) ?_ | refine arem_nonneg (by omega) (by omega) ?_ | refine adiv_i64 (by omega) (by omega) ?_ | refine abr_yes (by omega) ?_ | refine abr_no (by omega) ?_ | refine amin ?_ | refine amax ?_ | refine afit_u64 (by omega) ?_ | refine afit_u8 (by omega) ?_ | rw [List.length_map]); ((conv => whnf); (repeat ((first | with_reducible refine abr_true rfl ?_ | with_reducible refine abr_false rfl ?_ | with_reducible refine abr_yes rfl ?_ | refine abr_yes (by decide) ?_ | refine abr_no (by decide) ?_ | with_reducible refine abr_same_ne ?_); (conv => whnf))))))
    refine acall (mWrite l .none _ (by omega)) ?_
    rintro _ σ_ ⟨rfl, e_⟩
    obtain rfl := e_.symm
    refine ⟨?_, Ext.refl _⟩
    ((conv => whnf); (repeat ((first | with_reducible refine abr_true rfl ?_ | with_reducible refine abr_false rfl ?_ | with_reducible refine abr_yes rfl ?_ | refine abr_yes (by decide) ?_ | refine abr_no (by decide) ?_ | with_reducible refine abr_same_ne ?_); (conv => whnf))))
    have hm := readM_length b
    by_cases hc : askCode l = 0
    · refine abr_yes hc ?_
      ((conv => whnf); (repeat ((first | with_reducible refine abr_true rfl ?_ | with_reducible refine abr_false rfl ?_ | with_reducible refine abr_yes rfl ?_ | refine abr_yes (by decide) ?_ | refine abr_no (by decide) ?_ | with_reducible refine abr_same_ne ?_); (conv => whnf))))
      have hwl : (writeB l).length = 2 + bodyLen l := by
        unfold writeB; rw [if_pos hc, List.length_append, body_length]; show _ + 2 = _; omega
      have hok := askCode_ok hc
      refine acall (mRead (writeB l) .none _ (by omega)) ?_
      rintro _ σ_ ⟨rfl, e_⟩
      obtain rfl := e_.symm
      refine ⟨?_, Ext.refl _⟩
      ((conv => whnf); (repeat ((first | with_reducible refine abr_true rfl ?_ | with_reducible refine abr_false rfl ?_ | with_reducible refine abr_yes rfl ?_ | refine abr_yes (by decide) ?_ | refine abr_no (by decide) ?_ | with_reducible refine abr_same_ne ?_); (conv => whnf))))
      rw [read_write hc]
      ((conv => whnf); (repeat ((first | with_reducible refine abr_true rfl ?_ | with_reducible refine abr_false rfl ?_ | with_reducible refine abr_yes rfl ?_ | refine abr_yes (by decide) ?_ | refine abr_no (by decide) ?_ | with_reducible refine abr_same_ne ?_); (conv => whnf))))
      refine acall (mAs l .none _ hl) ?_
      rintro _ σ_ ⟨rfl, e_⟩
      obtain rfl := e_.symm
      refine ⟨?_, Ext.refl _⟩
      ((conv => whnf); (repeat ((first | with_reducible refine abr_true rfl ?_ | with_reducible refine abr_false rfl ?_ | with_reducible refine abr_yes rfl ?_ | refine abr_yes (by decide) ?_ | refine abr_no (by decide) ?_ | with_reducible refine abr_same_ne ?_); (conv => whnf))))
      refine acall (mAs l .none _ hl) ?_
      rintro _ σ_ ⟨rfl, e_⟩
      obtain rfl := e_.symm
      refine ⟨?_, Ext.refl _⟩
      ((conv => whnf); (repeat ((first | with_reducible refine abr_true rfl ?_ | with_reducible refine abr_false rfl ?_ | with_reducible refine abr_yes rfl ?_ | refine abr_yes (by decide) ?_ | refine abr_no (by decide) ?_ | with_reducible refine abr_same_ne ?_); (conv => whnf))))
      refine acall (refSame30 l l .none .none _ (by omega)) ?_
      rintro _ σ_ ⟨rfl, e_⟩
      obtain rfl := e_.symm
      refine ⟨?_, Ext.refl _⟩
      ((conv => whnf); (repeat ((first | with_reducible refine abr_true rfl ?_ | with_reducible refine abr_false rfl ?_ | with_reducible refine abr_yes rfl ?_ | refine abr_yes (by decide) ?_ | refine abr_no (by decide) ?_ | with_reducible refine abr_same_ne ?_); (conv => whnf))))
      refine abr_false (by rw [decide_eq_true rfl]; rfl) ?_
      ((conv => whnf); (repeat ((first | with_reducible refine abr_true rfl ?_ | with_reducible refine abr_false rfl ?_ | with_reducible refine abr_yes rfl ?_ | refine abr_yes (by decide) ?_ | refine abr_no (by decide) ?_ | with_reducible refine abr_same_ne ?_); (conv => whnf))))
      refine acall (mSize l .none _ (by omega)) ?_
      rintro _ σ_ ⟨rfl, e_⟩
      obtain rfl := e_.symm
      refine ⟨?_, Ext.refl _⟩
      ((conv => whnf); (repeat ((first | with_reducible refine abr_true rfl ?_ | with_reducible refine abr_false rfl ?_ | with_reducible refine abr_yes rfl ?_ | refine abr_yes (by decide) ?_ | refine abr_no (by decide) ?_ | with_reducible refine abr_same_ne ?_); (conv => whnf))))
      rw [List.length_map, hwl, show askN l = ((2 + bodyLen l : Nat) : Int) by unfold askN; rw [if_pos hc]; omega]
      ((conv => whnf); (repeat ((first | with_reducible refine abr_true rfl ?_ | with_reducible refine abr_false rfl ?_ | with_reducible refine abr_yes rfl ?_ | refine abr_yes (by decide) ?_ | refine abr_no (by decide) ?_ | with_reducible refine abr_same_ne ?_); (conv => whnf))))
      refine acall (mRead b .none _ hb) ?_
      rintro _ σ_ ⟨rfl, e_⟩
      obtain rfl := e_.symm
      refine ⟨?_, Ext.refl _⟩
      ((conv => whnf); (repeat ((first | with_reducible refine abr_true rfl ?_ | with_reducible refine abr_false rfl ?_ | with_reducible refine abr_yes rfl ?_ | refine abr_yes (by decide) ?_ | refine abr_no (by decide) ?_ | with_reducible refine abr_same_ne ?_); (conv => whnf))))
      refine acall (mWrite (readM b).1 .none _ (by omega)) ?_
      rintro _ σ_ ⟨rfl, e_⟩
      obtain rfl := e_.symm
      refine ⟨?_, Ext.refl _⟩
      ((conv => whnf); (repeat ((first | with_reducible refine abr_true rfl ?_ | with_reducible refine abr_false rfl ?_ | with_reducible refine abr_yes rfl ?_ | refine abr_yes (by decide) ?_ | refine abr_no (by decide) ?_ | with_reducible refine abr_same_ne ?_); (conv => whnf))))
      refine acall (alive30 _) ?_
      rintro _ σ_ ⟨rfl, e_⟩
      obtain rfl := e_.symm
      refine ⟨?_, Ext.refl _⟩
      ((conv => whnf); (repeat ((first | with_reducible refine abr_true rfl ?_ | with_reducible refine abr_false rfl ?_ | with_reducible refine abr_yes rfl ?_ | refine abr_yes (by decide) ?_ | refine abr_no (by decide) ?_ | with_reducible refine abr_same_ne ?_); (conv => whnf))))
      by_cases hf : (readM b).2 = 0
      · obtain ⟨g1, g2⟩ := write_read (b := b) (m := (readM b).1) (Prod.ext rfl hf)
        refine abr_no (fun h => h hf) ?_
        ((conv => whnf); (repeat ((first | with_reducible refine abr_true rfl ?_ | with_reducible refine abr_false rfl ?_ | with_reducible refine abr_yes rfl ?_ | refine abr_yes (by decide) ?_ | refine abr_no (by decide) ?_ | with_reducible refine abr_same_ne ?_); (conv => whnf))))
        refine abr_yes g1 ?_
        ((conv => whnf); (repeat ((first | with_reducible refine abr_true rfl ?_ | with_reducible refine abr_false rfl ?_ | with_reducible refine abr_yes rfl ?_ | refine abr_yes (by decide) ?_ | refine abr_no (by decide) ?_ | with_reducible refine abr_same_ne ?_); (conv => whnf))))
        rw [g2]
        refine astr rfl ?_
        ((conv => whnf); (repeat ((first | with_reducible refine abr_true rfl ?_ | with_reducible refine abr_false rfl ?_ | with_reducible refine abr_yes rfl ?_ | refine abr_yes (by decide) ?_ | refine abr_no (by decide) ?_ | with_reducible refine abr_same_ne ?_); (conv => whnf))))
        refine astr rfl ?_
        ((conv => whnf); (repeat ((first | with_reducible refine abr_true rfl ?_ | with_reducible refine abr_false rfl ?_ | with_reducible refine abr_yes rfl ?_ | refine abr_yes (by decide) ?_ | refine abr_no (by decide) ?_ | with_reducible refine abr_same_ne ?_); (conv => whnf))))
        exact aret_dec rfl (Sub.refl _)
      · refine abr_yes hf ?_
        ((conv => whnf); (repeat ((first | with_reducible refine abr_true rfl ?_ | with_reducible refine abr_false rfl ?_ | with_reducible refine abr_yes rfl ?_ | refine abr_yes (by decide) ?_ | refine abr_no (by decide) ?_ | with_reducible refine abr_same_ne ?_); (conv => whnf))))
        exact aret_same ⟨rfl, rfl⟩
    · refine abr_no hc ?_
      ((conv => whnf); (repeat ((first | with_reducible refine abr_true rfl ?_ | with_reducible refine abr_false rfl ?_ | with_reducible refine abr_yes rfl ?_ | refine abr_yes (by decide) ?_ | refine abr_no (by decide) ?_ | with_reducible refine abr_same_ne ?_); (conv => whnf))))
      refine acall (mRead b .none _ hb) ?_
      rintro _ σ_ ⟨rfl, e_⟩
      obtain rfl := e_.symm
      refine ⟨?_, Ext.refl _⟩
      ((conv => whnf); (repeat ((first | with_reducible refine abr_true rfl ?_ | with_reducible refine abr_false rfl ?_ | with_reducible refine abr_yes rfl ?_ | refine abr_yes (by decide) ?_ | refine abr_no (by decide) ?_ | with_reducible refine abr_same_ne ?_); (conv => whnf))))
      refine acall (mWrite (readM b).1 .none _ (by omega)) ?_
      rintro _ σ_ ⟨rfl, e_⟩
      obtain rfl := e_.symm
      refine ⟨?_, Ext.refl _⟩
      ((conv => whnf); (repeat ((first | with_reducible refine abr_true rfl ?_ | with_reducible refine abr_false rfl ?_ | with_reducible refine abr_yes rfl ?_ | refine abr_yes (by decide) ?_ | refine abr_no (by decide) ?_ | with_reducible refine abr_same_ne ?_); (conv => whnf))))
      refine acall (alive30 _) ?_
      rintro _ σ_ ⟨rfl, e_⟩
      obtain rfl := e_.symm
      refine ⟨?_, Ext.refl _⟩
      ((conv => whnf); (repeat ((first | with_reducible refine abr_true rfl ?_ | with_reducible refine abr_false rfl ?_ | with_reducible refine abr_yes rfl ?_ | refine abr_yes (by decide) ?_ | refine abr_no (by decide) ?_ | with_reducible refine abr_same_ne ?_); (conv => whnf))))
      by_cases hf : (readM b).2 = 0
      · obtain ⟨g1, g2⟩ := write_read (b := b) (m := (readM b).1) (Prod.ext rfl hf)
        refine abr_no (fun h => h hf) ?_
        ((conv => whnf); (repeat ((first | with_reducible refine abr_true rfl ?_ | with_reducible refine abr_false rfl ?_ | with_reducible refine abr_yes rfl ?_ | refine abr_yes (by decide) ?_ | refine abr_no (by decide) ?_ | with_reducible refine abr_same_ne ?_); (conv => whnf))))
        refine abr_yes g1 ?_
        ((conv => whnf); (repeat ((first | with_reducible refine abr_true rfl ?_ | with_reducible refine abr_false rfl ?_ | with_reducible refine abr_yes rfl ?_ | refine abr_yes (by decide) ?_ | refine abr_no (by decide) ?_ | with_reducible refine abr_same_ne ?_); (conv => whnf))))
        rw [g2]
        refine astr rfl ?_
        ((conv => whnf); (repeat ((first | with_reducible refine abr_true rfl ?_ | with_reducible refine abr_false rfl ?_ | with_reducible refine abr_yes rfl ?_ | refine abr_yes (by decide) ?_ | refine abr_no (by decide) ?_ | with_reducible refine abr_same_ne ?_); (conv => whnf))))
        refine astr rfl ?_
        ((conv => whnf); (repeat ((first | with_reducible refine abr_true rfl ?_ | with_reducible refine abr_false rfl ?_ | with_reducible refine abr_yes rfl ?_ | refine abr_yes (by decide) ?_ | refine abr_no (by decide) ?_ | with_reducible refine abr_same_ne ?_); (conv => whnf))))
        exact aret_dec rfl (Sub.refl _)
      · refine abr_yes hf ?_
        ((conv => whnf); (repeat ((first | with_reducible refine abr_true rfl ?_ | with_reducible refine abr_false rfl ?_ | with_reducible refine abr_yes rfl ?_ | refine abr_yes (by decide) ?_ | refine abr_no (by decide) ?_ | with_reducible refine abr_same_ne ?_); (conv => whnf))))
        exact aret_same ⟨rfl, rfl⟩
end Go.Proofs.Ytndphnojmpeogaa

