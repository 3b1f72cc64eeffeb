/-
  A block's bytes.
-/
import Derived.Test.YtndphnojmpeogaaCmuxb
import Derived.Test.YtndphnojmpeogaaCown
import Derived.Test.YtndphnojmpeogaaIrref30
namespace Go.Proofs.Ytndphnojmpeogaa
set_option linter.unusedVariables false
set_option linter.unusedSimpArgs false
open Go Go.Am

def head (p : Part) : List UInt8 := [UInt8.ofNat ((2048 * p.1.toNat + p.2.length) / 256), UInt8.ofNat ((2048 * p.1.toNat + p.2.length) % 256)]
def body (l : List Part) : List UInt8 := l.flatMap fun p => head p ++ p.2
theorem body_cons (p : Part) (l : List Part) : body (p :: l) = head p ++ p.2 ++ body l := rfl
theorem body_append (a b : List Part) : body (a ++ b) = body a ++ body b := by unfold body; exact List.flatMap_append
theorem body_length (l : List Part) : (body l).length = bodyLen l := by
  induction l with
  | nil => rfl
  | cons p l ih => rw [body_cons, bodyLen_cons, List.length_append, List.length_append, ih]; rfl
theorem body_take (l : List Part) (i : Nat) (h : i < l.length) : body (l.take (i + 1)) = body (l.take i) ++ head l[i] ++ l[i].2 := by
  rw [List.take_add_one, List.getElem?_eq_getElem h, body_append, List.append_assoc]; simp [body]
theorem byteBits_ofNat (n : Nat) : byteBits (UInt8.ofNat n) = numBits n 8 := by
  unfold byteBits; rw [UInt8.toNat_ofNat']; exact numBits_mod n 8 8 (Nat.le_refl 8)
theorem pack_head (k n : Nat) (h : n < 2048) : pack (numBits k 5 ++ numBits n 11) = [UInt8.ofNat ((2048 * k + n) / 256), UInt8.ofNat ((2048 * k + n) % 256)] := by
  have e : numBits k 5 ++ numBits n 11 = unpack [UInt8.ofNat ((2048 * k + n) / 256), UInt8.ofNat ((2048 * k + n) % 256)] := by
    show _ = byteBits _ ++ (byteBits _ ++ [])
    rw [byteBits_ofNat, byteBits_ofNat, List.append_nil, show (2048 * k + n) % 256 = (2048 * k + n) % 2 ^ 8 from rfl, numBits_mod _ 8 8 (Nat.le_refl 8), show (2048 * k + n) / 256 = (2048 * k + n) / 2 ^ 8 from rfl, ← numBits_parts, show (8 + 8 : Nat) = 5 + 11 from rfl, numBits_parts]
    rw [show (2048 * k + n) / 2 ^ 11 = k by omega, ← numBits_mod (2048 * k + n) 11 11 (Nat.le_refl 11), show (2048 * k + n) % 2 ^ 11 = n by omega]
  rw [e, pack_unpack]

def writeB (l : List Part) : List UInt8 := if askCode l = 0 then body l ++ two (crc 65535#16 (body l)) else []

theorem putCode_small {k v : Nat} {n : Nat} (h1 : n ≤ 64) (h2 : v < 2 ^ n) (h3 : n + k ≤ 65536) : putCode k v (n : Int) = 0 := by
  unfold putCode putBad
  rw [Int.toNat_natCast, Nat.div_eq_of_lt h2, decide_eq_false (by omega), decide_eq_false (by omega), decide_eq_false (by simp), if_neg (by simp), if_neg (by omega)]

set_option maxRecDepth 10000 in
theorem mWrite (l : List Part) (t : Tok) (σ : AHeap) (hl : l.length ≤ 140737488355328) : ACalls Try.prog i_mux_Write [parts t l] σ fun v σ' => v = .tup [sl .none (writeB l), i64v (askCode l)] ∧ σ' = σ := by
  refine k_mux_Write rfl ?_
  ((conv => whnf); (repeat ((first | with_reducible refine abr_true rfl ?_ | with_reducible refine abr_false rfl ?_ | with_reducible refine abr_yes rfl ?_ | refine abr_yes (by decide) ?_ | refine abr_no (by decide) ?_ | with_reducible refine abr_same_ne ?_); (conv => whnf))))
  refine acall (mAsk l t _ hl) ?_
  rintro _ σ_ ⟨rfl, e_⟩
  obtain rfl := e_.symm
  refine ⟨?_, Ext.refl _⟩
  ((conv => whnf); (repeat ((first | with_reducible refine abr_true rfl ?_ | with_reducible refine abr_false rfl ?_ | with_reducible refine abr_yes rfl ?_ | refine abr_yes (by decide) ?_ | refine abr_no (by decide) ?_ | with_reducible refine abr_same_ne ?_); (conv => whnf))))
  by_cases hc : askCode l = 0
  · have h1 : ¬ l.any wrongP = true := fun h => by unfold askCode at hc; rw [if_pos h] at hc; cases hc
    have h2 : ¬ l.length > 16 := fun h => by unfold askCode at hc; rw [if_neg h1, if_pos h] at hc; cases hc
    have hw := any_wrong (Bool.eq_false_iff.2 h1)
    refine abr_no (fun h => h hc) ?_
    ((conv => whnf); (repeat ((first | with_reducible refine abr_true rfl ?_ | with_reducible refine abr_false rfl ?_ | with_reducible refine abr_yes rfl ?_ | refine abr_yes (by decide) ?_ | refine abr_no (by decide) ?_ | with_reducible refine abr_same_ne ?_); (conv => whnf))))
    (repeat ((first | refine aload (by (repeat (first | with_reducible exact upd_same _ _ _ | assumption | rw [upd_ne _ _ (by first | assumption | (apply Ne.symm; assumption))]))) rfl ?_ | refine afit_i64 (by omega) ?_ | refine arem_nonneg (by omega) (by omega) ?_ | refine adiv_i64 (by omega) (by omega) ?_ | refine abr_yes (by omega) ?_ | refine abr_no (by omega) ?_ | refine amin ?_ | refine amax ?_ | refine afit_u64 (by omega) ?_ | refine afit_u8 (by omega) ?_ | rw [List.length_map]); ((conv => whnf); (repeat ((first | with_reducible refine abr_true rfl ?_ | with_reducible refine abr_false rfl ?_ | with_reducible refine abr_yes rfl ?_ | refine abr_yes (by decide) ?_ | refine abr_no (by decide) ?_ | with_reducible refine abr_same_ne ?_); (conv => whnf))))))
    refine aloop (α := Nat × Tok × AHeap) (fun x => [(s6, sl x.2.1 (body (l.take x.1))), (s20, i64v x.1)]) (fun x => x.2.2) (fun x => x.1 ≤ l.length ∧ Owned σ x.2.2 x.2.1) (fun x => l.length - x.1) (0, .full, σ) ⟨Nat.zero_le _, .full _⟩ (Sub.refl _) ?_ ?_
    · ((conv => whnf); (repeat ((first | with_reducible refine abr_true rfl ?_ | with_reducible refine abr_false rfl ?_ | with_reducible refine abr_yes rfl ?_ | refine abr_yes (by decide) ?_ | refine abr_no (by decide) ?_ | with_reducible refine abr_same_ne ?_); (conv => whnf))))
      (repeat' first | with_reducible exact EnvLe.refl _ | (refine EnvLe.node ?_ (by first | exact Or.inl rfl | exact Or.inr (Or.inl rfl) | exact Or.inr (Or.inr ⟨nofun, VLe.slice _ _ _⟩)) ?_))
    rintro ⟨i, tk, σa⟩ ⟨hi, ho⟩
    dsimp only at hi ho ⊢
    have hb := bodyLen_take_le hw i
    have hbl := body_length (l.take i)
    by_cases h : i < l.length
    · have hp := not_wrong (hw _ (List.getElem_mem h))
      have hs := body_take l i h
      obtain ⟨k, hk⟩ : ∃ k : Nat, l[i].1 = (k : Int) := ⟨l[i].1.toNat, by omega⟩
      have hh : head l[i] = pack (numBits k 5 ++ numBits l[i].2.length 11) := by
        rw [pack_head k _ (by omega)]; unfold head; rw [hk, Int.toNat_natCast]
      ((conv => whnf); (repeat ((first | with_reducible refine abr_true rfl ?_ | with_reducible refine abr_false rfl ?_ | with_reducible refine abr_yes rfl ?_ | refine abr_yes (by decide) ?_ | refine abr_no (by decide) ?_ | with_reducible refine abr_same_ne ?_); (conv => whnf))))
      (repeat ((first | refine aload (by (repeat (first | with_reducible exact upd_same _ _ _ | assumption | rw [upd_ne _ _ (by first | assumption | (apply Ne.symm; assumption))]))) rfl ?_ | refine afit_i64 (by omega) ?_ | refine arem_nonneg (by omega) (by omega) ?_ | refine adiv_i64 (by omega) (by omega) ?_ | refine abr_yes (by omega) ?_ | refine abr_no (by omega) ?_ | refine amin ?_ | refine amax ?_ | refine afit_u64 (by omega) ?_ | refine afit_u8 (by omega) ?_ | rw [List.length_map]); ((conv => whnf); (repeat ((first | with_reducible refine abr_true rfl ?_ | with_reducible refine abr_false rfl ?_ | with_reducible refine abr_yes rfl ?_ | refine abr_yes (by decide) ?_ | refine abr_no (by decide) ?_ | with_reducible refine abr_same_ne ?_); (conv => whnf))))))
      refine aget (by omega) (get_parts h) ?_
      ((conv => whnf); (repeat ((first | with_reducible refine abr_true rfl ?_ | with_reducible refine abr_false rfl ?_ | with_reducible refine abr_yes rfl ?_ | refine abr_yes (by decide) ?_ | refine abr_no (by decide) ?_ | with_reducible refine abr_same_ne ?_); (conv => whnf))))
      refine acells (l := [i64v l[i].1, sl .none l[i].2]) (by exact Nat.le_refl 2) rfl ?_
      ((conv => whnf); (repeat ((first | with_reducible refine abr_true rfl ?_ | with_reducible refine abr_false rfl ?_ | with_reducible refine abr_yes rfl ?_ | refine abr_yes (by decide) ?_ | refine abr_no (by decide) ?_ | with_reducible refine abr_same_ne ?_); (conv => whnf))))
      refine anew rfl fun id hid => ?_
      ((conv => whnf); (repeat ((first | with_reducible refine abr_true rfl ?_ | with_reducible refine abr_false rfl ?_ | with_reducible refine abr_yes rfl ?_ | refine abr_yes (by decide) ?_ | refine abr_no (by decide) ?_ | with_reducible refine abr_same_ne ?_); (conv => whnf))))
      refine astore (xs := [i64v l[i].1, sl .none l[i].2]) (l := [i64v l[i].1, sl .none l[i].2]) (upd_same _ _ _) (Nat.le_of_ble_eq_true rfl) rfl rfl ?_
      rw [upd_upd]
      ((conv => whnf); (repeat ((first | with_reducible refine abr_true rfl ?_ | with_reducible refine abr_false rfl ?_ | with_reducible refine abr_yes rfl ?_ | refine abr_yes (by decide) ?_ | refine abr_no (by decide) ?_ | with_reducible refine abr_same_ne ?_); (conv => whnf))))
      refine acall (wNew _) ?_
      rintro _ σ1 ⟨iw, rfl, w1⟩
      refine ⟨?_, w1.ext⟩
      ((conv => whnf); (repeat ((first | with_reducible refine abr_true rfl ?_ | with_reducible refine abr_false rfl ?_ | with_reducible refine abr_yes rfl ?_ | refine abr_yes (by decide) ?_ | refine abr_no (by decide) ?_ | with_reducible refine abr_same_ne ?_); (conv => whnf))))
      refine aload (w1.sub _ _ (upd_same _ _ _)) rfl ?_
      ((conv => whnf); (repeat ((first | with_reducible refine abr_true rfl ?_ | with_reducible refine abr_false rfl ?_ | with_reducible refine abr_yes rfl ?_ | refine abr_yes (by decide) ?_ | refine abr_no (by decide) ?_ | with_reducible refine abr_same_ne ?_); (conv => whnf))))
      (repeat ((first | refine aload (by (repeat (first | with_reducible exact upd_same _ _ _ | assumption | rw [upd_ne _ _ (by first | assumption | (apply Ne.symm; assumption))]))) rfl ?_ | refine afit_i64 (by omega) ?_ | refine arem_nonneg (by omega) (by omega) ?_ | refine adiv_i64 (by omega) (by omega) ?_ | refine abr_yes (by omega) ?_ | refine abr_no (by omega) ?_ | refine amin ?_ | refine amax ?_ | refine afit_u64 (by omega) ?_ | refine afit_u8 (by omega) ?_ | rw [List.length_map]); ((conv => whnf); (repeat ((first | with_reducible refine abr_true rfl ?_ | with_reducible refine abr_false rfl ?_ | with_reducible refine abr_yes rfl ?_ | refine abr_yes (by decide) ?_ | refine abr_no (by decide) ?_ | with_reducible refine abr_same_ne ?_); (conv => whnf))))))
      rw [hk]
      refine acall (wPut iw [] k (5 : Nat) _ _ w1 (by omega) (by simp)) ?_
      rintro _ σ2 ⟨rfl, w2⟩
      rw [putBits_ok (putCode_small (by omega) (by omega) (by simp)), Int.toNat_natCast, List.nil_append] at w2
      ((conv => whnf); (repeat ((first | with_reducible refine abr_true rfl ?_ | with_reducible refine abr_false rfl ?_ | with_reducible refine abr_yes rfl ?_ | refine abr_yes (by decide) ?_ | refine abr_no (by decide) ?_ | with_reducible refine abr_same_ne ?_); (conv => whnf))))
      refine aload (w2.sub _ _ (upd_same _ _ _)) rfl ?_
      ((conv => whnf); (repeat ((first | with_reducible refine abr_true rfl ?_ | with_reducible refine abr_false rfl ?_ | with_reducible refine abr_yes rfl ?_ | refine abr_yes (by decide) ?_ | refine abr_no (by decide) ?_ | with_reducible refine abr_same_ne ?_); (conv => whnf))))
      (repeat ((first | refine aload (by (repeat (first | with_reducible exact upd_same _ _ _ | assumption | rw [upd_ne _ _ (by first | assumption | (apply Ne.symm; assumption))]))) rfl ?_ | refine afit_i64 (by omega) ?_ | refine arem_nonneg (by omega) (by omega) ?_ | refine adiv_i64 (by omega) (by omega) ?_ | refine abr_yes (by omega) ?_ | refine abr_no (by omega) ?_ | refine amin ?_ | refine amax ?_ | refine afit_u64 (by omega) ?_ | refine afit_u8 (by omega) ?_ | rw [List.length_map]); ((conv => whnf); (repeat ((first | with_reducible refine abr_true rfl ?_ | with_reducible refine abr_false rfl ?_ | with_reducible refine abr_yes rfl ?_ | refine abr_yes (by decide) ?_ | refine abr_no (by decide) ?_ | with_reducible refine abr_same_ne ?_); (conv => whnf))))))
      refine acall (wPut iw _ l[i].2.length (11 : Nat) _ _ w2 (by omega) (by rw [numBits_length]; omega)) ?_
      rintro _ σ3 ⟨rfl, w3⟩
      rw [putBits_ok (putCode_small (by omega) (by omega) (by rw [numBits_length]; omega)), Int.toNat_natCast] at w3
      ((conv => whnf); (repeat ((first | with_reducible refine abr_true rfl ?_ | with_reducible refine abr_false rfl ?_ | with_reducible refine abr_yes rfl ?_ | refine abr_yes (by decide) ?_ | refine abr_no (by decide) ?_ | with_reducible refine abr_same_ne ?_); (conv => whnf))))
      refine aload (w3.sub _ _ (upd_same _ _ _)) rfl ?_
      ((conv => whnf); (repeat ((first | with_reducible refine abr_true rfl ?_ | with_reducible refine abr_false rfl ?_ | with_reducible refine abr_yes rfl ?_ | refine abr_yes (by decide) ?_ | refine abr_no (by decide) ?_ | with_reducible refine abr_same_ne ?_); (conv => whnf))))
      refine acall (wBytes iw _ _ _ w3 (by rw [List.length_append, numBits_length, numBits_length]; omega)) ?_
      rintro _ σ_ ⟨rfl, e_⟩
      obtain rfl := e_.symm
      refine ⟨?_, Ext.refl _⟩
      ((conv => whnf); (repeat ((first | with_reducible refine abr_true rfl ?_ | with_reducible refine abr_false rfl ?_ | with_reducible refine abr_yes rfl ?_ | refine abr_yes (by decide) ?_ | refine abr_no (by decide) ?_ | with_reducible refine abr_same_ne ?_); (conv => whnf))))
      rw [← hh]
      refine aapp_sub ho (w3.sub.trans (Sub.upd_fresh _ hid)) (by rw [List.length_map, List.length_map, hbl]; show (_ + 2) * 1 ≤ _; omega) fun tk2 σ4 σ5 ho2 hs2 => ?_
      ((conv => whnf); (repeat ((first | with_reducible refine abr_true rfl ?_ | with_reducible refine abr_false rfl ?_ | with_reducible refine abr_yes rfl ?_ | refine abr_yes (by decide) ?_ | refine abr_no (by decide) ?_ | with_reducible refine abr_same_ne ?_); (conv => whnf))))
      rw [← List.map_append]
      refine aapp_sub ho2 hs2 (by rw [List.length_map, List.length_map, List.length_append, hbl]; show (_ + 2 + _) * 1 ≤ _; omega) fun tk3 σ6 σ7 ho3 hs3 => ?_
      ((conv => whnf); (repeat ((first | with_reducible refine abr_true rfl ?_ | with_reducible refine abr_false rfl ?_ | with_reducible refine abr_yes rfl ?_ | refine abr_yes (by decide) ?_ | refine abr_no (by decide) ?_ | with_reducible refine abr_same_ne ?_); (conv => whnf))))
      (repeat ((first | refine aload (by (repeat (first | with_reducible exact upd_same _ _ _ | assumption | rw [upd_ne _ _ (by first | assumption | (apply Ne.symm; assumption))]))) rfl ?_ | refine afit_i64 (by omega) ?_ | refine arem_nonneg (by omega) (by omega) ?_ | refine adiv_i64 (by omega) (by omega) ?_ | refine abr_yes (by omega) ?_ | refine abr_no (by omega) ?_ | refine amin ?_ | refine amax ?_ | refine afit_u64 (by omega) ?_ | refine afit_u8 (by omega) ?_ | rw [List.length_map]); ((conv => whnf); (repeat ((first | with_reducible refine abr_true rfl ?_ | with_reducible refine abr_false rfl ?_ | with_reducible refine abr_yes rfl ?_ | refine abr_yes (by decide) ?_ | refine abr_no (by decide) ?_ | with_reducible refine abr_same_ne ?_); (conv => whnf))))))
      refine ⟨(i + 1, tk3, σ7), ⟨h, ho3⟩, by dsimp only; omega, hs3, ?_⟩
      rw [← List.map_append, ← hs]
      ((conv => whnf); (repeat ((first | with_reducible refine abr_true rfl ?_ | with_reducible refine abr_false rfl ?_ | with_reducible refine abr_yes rfl ?_ | refine abr_yes (by decide) ?_ | refine abr_no (by decide) ?_ | with_reducible refine abr_same_ne ?_); (conv => whnf))))
      (repeat' first | with_reducible exact EnvLe.refl _ | (refine EnvLe.node ?_ (by first | exact Or.inl rfl | exact Or.inr (Or.inl rfl) | exact Or.inr (Or.inr ⟨nofun, VLe.slice _ _ _⟩)) ?_))
    · rw [List.take_of_length_le (by omega)] at hb hbl ⊢
      ((conv => whnf); (repeat ((first | with_reducible refine abr_true rfl ?_ | with_reducible refine abr_false rfl ?_ | with_reducible refine abr_yes rfl ?_ | refine abr_yes (by decide) ?_ | refine abr_no (by decide) ?_ | with_reducible refine abr_same_ne ?_); (conv => whnf))))
      (repeat ((first | refine aload (by (repeat (first | with_reducible exact upd_same _ _ _ | assumption | rw [upd_ne _ _ (by first | assumption | (apply Ne.symm; assumption))]))) rfl ?_ | refine afit_i64 (by omega) ?_ | refine arem_nonneg (by omega) (by omega) ?_ | refine adiv_i64 (by omega) (by omega) ?_ | refine abr_yes (by omega) ?_ | refine abr_no (by omega) ?_ | refine amin ?_ | refine amax ?_ | refine afit_u64 (by omega) ?_ | refine afit_u8 (by omega) ?_ | rw [List.length_map]); ((conv => whnf); (repeat ((first | with_reducible refine abr_true rfl ?_ | with_reducible refine abr_false rfl ?_ | with_reducible refine abr_yes rfl ?_ | refine abr_yes (by decide) ?_ | refine abr_no (by decide) ?_ | with_reducible refine abr_same_ne ?_); (conv => whnf))))))
      refine acall (Close (body l) _ _ (by omega)) ?_
      rintro v σ' ⟨rfl, e⟩
      obtain rfl := e.symm
      refine ⟨?_, Ext.refl _⟩
      ((conv => whnf); (repeat ((first | with_reducible refine abr_true rfl ?_ | with_reducible refine abr_false rfl ?_ | with_reducible refine abr_yes rfl ?_ | refine abr_yes (by decide) ?_ | refine abr_no (by decide) ?_ | with_reducible refine abr_same_ne ?_); (conv => whnf))))
      exact aret (VLe.refl _) ho.sub ⟨by unfold writeB; rw [if_pos hc, hc], rfl⟩
  · refine abr_yes hc ?_
    ((conv => whnf); (repeat ((first | with_reducible refine abr_true rfl ?_ | with_reducible refine abr_false rfl ?_ | with_reducible refine abr_yes rfl ?_ | refine abr_yes (by decide) ?_ | refine abr_no (by decide) ?_ | with_reducible refine abr_same_ne ?_); (conv => whnf))))
    refine aret_sl1 (Sub.refl _) ⟨?_, rfl⟩
    unfold writeB; rw [if_neg hc]; rfl
end Go.Proofs.Ytndphnojmpeogaa

