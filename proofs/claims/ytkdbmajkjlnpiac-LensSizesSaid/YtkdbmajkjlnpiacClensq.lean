/-
  Lengths there and back: plain laws.
-/
import Derived.Test.YtkdbmajkjlnpiacClensp
namespace Go.Proofs.Ytkdbmajkjlnpiac
set_option linter.unusedVariables false
set_option linter.unusedSimpArgs false
open Go Go.Am

theorem writeCode_ok {l : List Int} {w : Int} (h : writeCode l w = 0) : (w = 11 ∨ w = 15) ∧ 1 ≤ l.length ∧ l.length ≤ 23 ∧ ∀ n ∈ l, badLen w.toNat n = false := by
  unfold writeCode at h
  cases e : widthOk w with
  | false => rw [if_pos e] at h; cases h
  | true =>
    rw [e, if_neg (by simp)] at h
    split at h
    · cases h
    · split at h
      · cases h
      · split at h
        · cases h
        · rename_i h0 h23 hb
          refine ⟨widthOk_iff.1 e, by omega, by omega, fun n hn => ?_⟩
          cases hbn : badLen w.toNat n with
          | false => rfl
          | true => exact absurd (List.any_eq_true.2 ⟨n, hn, hbn⟩) hb
theorem writeCode_mk {l : List Int} {w : Int} (hw : w = 11 ∨ w = 15) (h1 : 1 ≤ l.length) (h2 : l.length ≤ 23) (h : ∀ n ∈ l, badLen w.toNat n = false) : writeCode l w = 0 := by
  unfold writeCode
  rw [widthOk_iff.2 hw, if_neg (by simp), if_neg (by omega), if_neg (by omega), if_neg]
  rw [List.any_eq_true]
  rintro ⟨x, hx, hb⟩
  rw [h x hx] at hb; cases hb
theorem goodLen {W : Nat} {n : Int} (h : badLen W n = false) : ∃ v : Nat, n = v ∧ 1 ≤ v ∧ v < 2 ^ W := by
  have := of_decide_eq_false h
  exact ⟨n.toNat, by omega, by omega, by omega⟩

/-- The bits from one length on. -/
theorem lenBits_from (l : List Int) (W i : Nat) : ∀ d, ∃ r, lenBits l W (i + 1 + d) = lenBits l W i ++ ((decide (i + 1 < l.length) :: numBits ((l[i]?.getD 0).toNat) W) ++ r)
  | 0 => ⟨[], by rw [Nat.add_zero, lenBits_succ]; simp⟩
  | d + 1 => by
    obtain ⟨r, hr⟩ := lenBits_from l W i d
    refine ⟨r ++ (decide (i + 1 + d + 1 < l.length) :: numBits ((l[i + 1 + d]?.getD 0).toNat) W), ?_⟩
    rw [show i + 1 + (d + 1) = (i + 1 + d) + 1 by omega, lenBits_succ, hr]
    simp

theorem split_step (y A R : List Bool) (b : Bool) (v W K : Nat) (hy : y = A ++ (b :: (numBits v W ++ R))) (hA : A.length = K) : K + (W + 1) ≤ y.length ∧ (y.drop (K + 1)).take W = numBits v W ∧ bitD y K = b := by
  subst hy; subst hA
  have hn := numBits_length v W
  refine ⟨by simp [hn], ?_, ?_⟩
  · rw [show A ++ b :: (numBits v W ++ R) = (A ++ [b]) ++ (numBits v W ++ R) by simp]
    rw [List.drop_left' (by simp), List.take_left' hn]
  · rw [bitD_append_right (Nat.le_refl _), Nat.sub_self]; rfl

theorem rd_back (l : List Int) (w : Int) (rest : List Bool) (h : writeCode l w = 0) :
    ∀ (f i : Nat), i < l.length → i + (f + 1) = 23 → rdLens (unpack (writeBytes l w) ++ rest) w.toNat (f + 1) (l.take i) (i * (w.toNat + 1)) = (l, ((writeBytes l w).length : Int), 0) := by
  obtain ⟨hw, h1, h2, hg⟩ := writeCode_ok h
  obtain ⟨W, rfl⟩ : ∃ W : Nat, w = W := ⟨w.toNat, by omega⟩
  have hwb : writeBytes l (W : Int) = pack (lenBits l W l.length) := by unfold writeBytes; rw [if_pos h, Int.toNat_natCast]
  rw [hwb, unpack_pack, pack_length, lenBits_length]
  rw [Int.toNat_natCast] at hg ⊢
  have hxl := lenBits_length l W l.length
  have key : ∀ i (hi : i < l.length), ∃ v R, l[i] = ((v : Nat) : Int) ∧ 1 ≤ v ∧ v < 2 ^ W ∧ lenBits l W l.length = lenBits l W i ++ (decide (i + 1 < l.length) :: (numBits v W ++ R)) := by
    intro i hi
    obtain ⟨v, hv, hv1, hv2⟩ := goodLen (hg _ (List.getElem_mem hi))
    obtain ⟨r, hr⟩ := lenBits_from l W i (l.length - (i + 1))
    rw [show i + 1 + (l.length - (i + 1)) = l.length by omega, List.getElem?_eq_getElem hi, Option.getD_some, hv, Int.toNat_natCast] at hr
    exact ⟨v, r, hv, hv1, hv2, by rw [hr]; simp⟩
  intro f
  induction f with
  | zero =>
    intro i hi hf
    obtain ⟨v, R, hv, hv1, hv2, hsplit⟩ := key i hi
    have hlast : ¬ i + 1 < l.length := by omega
    obtain ⟨s1, s2, s3⟩ := split_step (lenBits l W l.length ++ List.replicate (8 * ((l.length * (W + 1) + 7) / 8) - l.length * (W + 1)) false ++ rest) (lenBits l W i) (R ++ (List.replicate (8 * ((l.length * (W + 1) + 7) / 8) - l.length * (W + 1)) false ++ rest)) (decide (i + 1 < l.length)) v W (i * (W + 1)) (by rw [hsplit]; simp) (lenBits_length _ _ _)
    rw [decide_eq_false hlast] at s3
    simp only [rdLens]
    rw [if_neg (by omega), s2, val_numBits, Nat.mod_eq_of_lt hv2, if_neg (by omega), s3, if_neg (by simp), if_pos]
    · rw [← hv, ← take_snoc (List.getElem?_eq_getElem hi), List.take_of_length_le (by omega), ← Nat.succ_mul, show i.succ = l.length by omega]
    · rw [← Nat.succ_mul, show i.succ = l.length by omega]
      refine decide_eq_true ((val_zero _).2 fun b hb => ?_)
      rw [List.append_assoc, List.drop_left' hxl, List.take_append_of_le_length (by rw [List.length_replicate]; unfold pad; omega)] at hb
      exact (List.mem_replicate.1 (List.mem_of_mem_take hb)).2
  | succ f ih =>
    intro i hi hf
    obtain ⟨v, R, hv, hv1, hv2, hsplit⟩ := key i hi
    obtain ⟨s1, s2, s3⟩ := split_step (lenBits l W l.length ++ List.replicate (8 * ((l.length * (W + 1) + 7) / 8) - l.length * (W + 1)) false ++ rest) (lenBits l W i) (R ++ (List.replicate (8 * ((l.length * (W + 1) + 7) / 8) - l.length * (W + 1)) false ++ rest)) (decide (i + 1 < l.length)) v W (i * (W + 1)) (by rw [hsplit]; simp) (lenBits_length _ _ _)
    rw [rdLens]
    rw [if_neg (by omega), s2, val_numBits, Nat.mod_eq_of_lt hv2, if_neg (by omega), s3]
    by_cases hlast : i + 1 < l.length
    · rw [decide_eq_true hlast, if_pos rfl, if_neg (by omega), ← hv, ← take_snoc (List.getElem?_eq_getElem hi), ← Nat.succ_mul]
      exact ih (i + 1) hlast (by omega)
    · rw [decide_eq_false hlast, if_neg (by simp), if_pos]
      · rw [← hv, ← take_snoc (List.getElem?_eq_getElem hi), List.take_of_length_le (by omega), ← Nat.succ_mul, show i.succ = l.length by omega]
      · rw [← Nat.succ_mul, show i.succ = l.length by omega]
        refine decide_eq_true ((val_zero _).2 fun b hb => ?_)
        rw [List.append_assoc, List.drop_left' hxl, List.take_append_of_le_length (by rw [List.length_replicate]; unfold pad; omega)] at hb
        exact (List.mem_replicate.1 (List.mem_of_mem_take hb)).2

theorem read_back (l : List Int) (w : Int) (behind : List UInt8) (h : writeCode l w = 0) : readV (writeBytes l w ++ behind) w = (l, ((writeBytes l w).length : Int), 0) := by
  obtain ⟨hw, h1, h2, hg⟩ := writeCode_ok h
  unfold readV
  rw [widthOk_iff.2 hw, if_neg (by simp), unpack_append]
  have := rd_back l w (unpack behind) h 22 0 (by omega) (by omega)
  rw [Nat.zero_mul] at this
  exact this

theorem numBits_val : ∀ (n : Nat) (l : List Bool), l.length = n → numBits (val 0 l) n = l := by
  intro n
  induction n with
  | zero => intro l hl; rw [List.length_eq_zero_iff.1 hl]; rfl
  | succ n ih =>
    intro l hl
    have hne : l ≠ [] := fun e => by rw [e] at hl; cases hl
    have e : l = l.dropLast ++ [l.getLast hne] := (List.dropLast_concat_getLast hne).symm
    have hdl : l.dropLast.length = n := by rw [List.length_dropLast, hl]; omega
    rw [e, val_snoc, numBits_parts _ n 1]
    have h1 : (2 * val 0 l.dropLast + (l.getLast hne).toNat) / 2 ^ 1 = val 0 l.dropLast := by
      have : (l.getLast hne).toNat ≤ 1 := by cases l.getLast hne <;> decide
      omega
    rw [h1, ih _ hdl]
    congr 1
    show [(2 * val 0 l.dropLast + (l.getLast hne).toNat).testBit 0] = _
    rw [Nat.testBit_zero]
    cases l.getLast hne <;> simp

theorem unpack_take (b : List UInt8) (n : Nat) : unpack (b.take n) = (unpack b).take (8 * n) := by
  have h := unpack_append (b.take n) (b.drop n)
  rw [List.take_append_drop] at h
  have hul := unpack_length (b.take n)
  rw [List.length_take] at hul
  by_cases hn : n ≤ b.length
  · rw [h, List.take_left' (by rw [hul]; omega)]
  · rw [List.take_of_length_le (l := b) (by omega), List.take_of_length_le (by rw [unpack_length]; omega)]

def allMore (W : Nat) (l : List Int) : List Bool := l.flatMap fun v => true :: numBits v.toNat W
theorem lenBits_more (out : List Int) (v : Int) (W : Nat) : ∀ i, i ≤ out.length → lenBits (out ++ [v]) W i = allMore W (out.take i)
  | 0, _ => rfl
  | i + 1, h => by
    rw [lenBits_succ, lenBits_more out v W i (by omega), decide_eq_true (by rw [List.length_append]; show i + 1 < out.length + 1; omega), List.getElem?_append_left (by omega), List.getElem?_eq_getElem (by omega), Option.getD_some, take_snoc (List.getElem?_eq_getElem (by omega))]
    unfold allMore
    rw [List.flatMap_append, List.flatMap_cons, List.flatMap_nil, List.append_nil]
theorem lenBits_last (out : List Int) (v : Int) (W : Nat) : lenBits (out ++ [v]) W (out.length + 1) = allMore W out ++ (false :: numBits v.toNat W) := by
  rw [lenBits_succ, lenBits_more out v W _ (Nat.le_refl _), List.take_length, decide_eq_false (by rw [List.length_append]; show ¬ out.length + 1 < out.length + 1; omega), List.getElem?_append_right (Nat.le_refl _), Nat.sub_self]
  rfl

theorem take_step (x : List Bool) (k W : Nat) (h : k + (W + 1) ≤ x.length) : x.take (k + (W + 1)) = x.take k ++ (bitD x k :: numBits (val 0 ((x.drop (k + 1)).take W)) W) := by
  rw [List.take_add]
  congr 1
  rw [List.drop_eq_getElem_cons (by omega), List.take_succ_cons, bitD_get (by omega), numBits_val W _ (by rw [List.length_take, List.length_drop]; omega)]

theorem rd_ok (x : List Bool) (W : Nat) (hW : W ≤ 60) (m : List Int) (n : Int) : ∀ (f : Nat) (out : List Int) (k : Nat), rdLens x W f out k = (m, n, 0) → out.length + f = 23 → k = out.length * (W + 1) → x.take k = allMore W out → (∀ v ∈ out, badLen W v = false) →
    1 ≤ m.length ∧ m.length ≤ 23 ∧ (∀ v ∈ m, badLen W v = false) ∧ n = ((m.length * (W + 1) + 7) / 8 : Nat) ∧ m.length * (W + 1) ≤ x.length ∧ x.take (m.length * (W + 1)) = lenBits m W m.length ∧ restOk x (m.length * (W + 1)) = true
  | 0, out, k, h, _, _, _, _ => by simp [rdLens] at h
  | f + 1, out, k, h, hf, hk, ht, hg => by
    rw [rdLens] at h
    by_cases h1 : x.length < k + (W + 1)
    · rw [if_pos h1] at h; simp at h
    rw [if_neg h1] at h
    have hv := val_lt ((x.drop (k + 1)).take W)
    rw [show ((x.drop (k + 1)).take W).length = W by rw [List.length_take, List.length_drop]; omega] at hv
    have hts := take_step x k W (by omega)
    generalize val 0 ((x.drop (k + 1)).take W) = v at h hts hv
    by_cases h2 : v = 0
    · rw [if_pos h2] at h; simp at h
    rw [if_neg h2] at h
    have hgood : badLen W (v : Int) = false := decide_eq_false (by omega)
    have hg2 : ∀ u ∈ out ++ [(v : Int)], badLen W u = false := by
      intro u hu
      rcases List.mem_append.1 hu with hu | hu
      · exact hg u hu
      · simp at hu; subst hu; exact hgood
    have hlen : (out ++ [(v : Int)]).length = out.length + 1 := by simp
    have hkk : k + (W + 1) = (out.length + 1) * (W + 1) := by rw [Nat.succ_mul, hk]
    cases hb : bitD x k with
    | true =>
      rw [hb, if_pos rfl] at h
      by_cases h3 : f = 0
      · rw [if_pos h3] at h; simp at h
      rw [if_neg h3] at h
      refine rd_ok x W hW m n f _ _ h (by rw [hlen]; omega) (by rw [hlen]; exact hkk) ?_ hg2
      rw [hts, ht, hb]
      unfold allMore
      rw [List.flatMap_append, List.flatMap_cons, List.flatMap_nil, List.append_nil, Int.toNat_natCast]
    | false =>
      rw [hb, if_neg (by simp)] at h
      split at h
      · rename_i hr
        injection h with h4 h5
        injection h5 with h5 _
        subst h4
        subst h5
        rw [hlen, ← hkk]
        refine ⟨by omega, by omega, hg2, rfl, by omega, ?_, hr⟩
        rw [lenBits_last, hts, ht, hb, Int.toNat_natCast]
      · simp at h

theorem write_back (b : List UInt8) (w : Int) (m : List Int) (n : Int) (h : readV b w = (m, n, 0)) : writeCode m w = 0 ∧ 0 ≤ n ∧ n ≤ b.length ∧ writeBytes m w = b.take n.toNat := by
  unfold readV at h
  cases e : widthOk w with
  | false => rw [if_pos e] at h; simp at h
  | true =>
    have hw := widthOk_iff.1 e
    rw [e, if_neg (by simp)] at h
    obtain ⟨W, rfl⟩ : ∃ W : Nat, w = W := ⟨w.toNat, by omega⟩
    rw [Int.toNat_natCast] at h
    obtain ⟨h1, h2, h3, rfl, h5, h6, h7⟩ := rd_ok (unpack b) W (by omega) m n 23 [] 0 h rfl (by simp) rfl (by simp)
    have hc : writeCode m (W : Int) = 0 := writeCode_mk hw h1 h2 (by rw [Int.toNat_natCast]; exact h3)
    have hul := unpack_length b
    refine ⟨hc, by omega, by omega, ?_⟩
    unfold writeBytes
    rw [if_pos hc, Int.toNat_natCast, Int.toNat_natCast, ← h6]
    generalize m.length * (W + 1) = T at *
    have hlen : ((unpack b).take T).length = T := by rw [List.length_take]; omega
    have hup := unpack_pack ((unpack b).take T)
    rw [hlen] at hup
    have hz : List.replicate (8 * ((T + 7) / 8) - T) false = ((unpack b).drop T).take (8 * ((T + 7) / 8) - T) := by
      have hp : 8 * ((T + 7) / 8) - T = pad T := by unfold pad; omega
      rw [hp]
      have h0 := (val_zero _).1 (of_decide_eq_true h7)
      have hl2 : (((unpack b).drop T).take (pad T)).length = pad T := by rw [List.length_take, List.length_drop]; unfold pad; omega
      exact (List.eq_replicate_iff.2 ⟨hl2, h0⟩).symm
    rw [hz, ← List.take_add, show T + (8 * ((T + 7) / 8) - T) = 8 * ((T + 7) / 8) by omega, ← unpack_take] at hup
    have := congrArg pack hup
    rw [pack_unpack, pack_unpack] at this
    exact this
end Go.Proofs.Ytkdbmajkjlnpiac

