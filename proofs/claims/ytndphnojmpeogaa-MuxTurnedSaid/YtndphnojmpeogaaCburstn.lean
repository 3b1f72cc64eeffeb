/-
  Sums of turned bits: plain laws.
-/
import Derived.Test.YtndphnojmpeogaaCcrc
namespace Go.Proofs.Ytndphnojmpeogaa
set_option linter.unusedVariables false
set_option linter.unusedSimpArgs false
open Go Go.Am

theorem crc_app (s : BitVec 16) (a b : List UInt8) : crc s (a ++ b) = crc (crc s a) b := List.foldl_append

theorem xor_low (n : Nat) : n ^^^ (n / 2 ^ 8 * 2 ^ 8) = n % 2 ^ 8 := by
  apply Nat.eq_of_testBit_eq
  intro i
  rw [Nat.testBit_xor, Nat.testBit_mul_two_pow, Nat.testBit_mod_two_pow, Nat.testBit_div_two_pow]
  by_cases h : 8 ≤ i
  · rw [show i - 8 + 8 = i by omega]
    have : ¬ i < 8 := by omega
    simp [h, this]
  · have : i < 8 := by omega
    simp [h, this]

theorem low8 : ∀ x : Nat, x < 256 → crcBits 8 (BitVec.ofNat 16 x) = BitVec.ofNat 16 x <<< 8 := by decide +kernel

theorem crc_two (s : BitVec 16) : crc s (two s) = 0#16 := by
  have hs := s.isLt
  have h1 : (UInt8.ofNat (s.toNat / 256)).toNat = s.toNat / 256 := by rw [UInt8.toNat_ofNat']; omega
  have h2 : (UInt8.ofNat (s.toNat % 256)).toNat = s.toNat % 256 := by rw [UInt8.toNat_ofNat']; omega
  show crcByte (crcByte s (UInt8.ofNat (s.toNat / 256))) (UInt8.ofNat (s.toNat % 256)) = 0#16
  have e1 : s ^^^ (BitVec.ofNat 16 (UInt8.ofNat (s.toNat / 256)).toNat <<< 8) = BitVec.ofNat 16 (s.toNat % 256) := by
    apply BitVec.eq_of_toNat_eq
    rw [h1, BitVec.toNat_xor, BitVec.toNat_shiftLeft, Nat.shiftLeft_eq, BitVec.toNat_ofNat, BitVec.toNat_ofNat, Nat.mod_eq_of_lt (show s.toNat / 256 < 2 ^ 16 by omega), Nat.mod_eq_of_lt (by omega), Nat.mod_eq_of_lt (show s.toNat % 256 < 2 ^ 16 by omega)]
    exact xor_low s.toNat
  have e2 : crcByte s (UInt8.ofNat (s.toNat / 256)) = BitVec.ofNat 16 (s.toNat % 256) <<< 8 := by
    unfold crcByte; rw [e1]; exact low8 _ (by omega)
  rw [e2]
  unfold crcByte
  rw [h2, BitVec.xor_self]
  decide +kernel

theorem opened_close (b : List UInt8) : openedV (b ++ two (crc 65535#16 b)) = .tup [sl .none b, i64v 0] := by
  have hl : (b ++ two (crc 65535#16 b)).length - 2 = b.length := by rw [List.length_append]; simp [two]
  have ht : (b ++ two (crc 65535#16 b)).take ((b ++ two (crc 65535#16 b)).length - 2) = b := by rw [hl]; exact List.take_left' rfl
  rw [opened_ok (by rw [List.length_append]; simp [two]) (by rw [ht]), ht]

theorem crcBit_eq (s : BitVec 16) : crcBit s = (s <<< 1) ^^^ (if s.getLsbD 15 then 0x1021#16 else 0#16) := by
  have h1 : s &&& 0x8000#16 = if s.getLsbD 15 then BitVec.twoPow 16 15 else 0#16 := BitVec.and_twoPow s 15
  unfold crcBit
  rw [h1]
  cases s.getLsbD 15 with
  | true => rw [if_pos (by decide)]; rfl
  | false => rw [if_neg (by decide)]; simp
theorem crcBit_xor (a b : BitVec 16) : crcBit (a ^^^ b) = crcBit a ^^^ crcBit b := by
  rw [crcBit_eq, crcBit_eq, crcBit_eq, BitVec.shiftLeft_xor_distrib, BitVec.getLsbD_xor]
  generalize a <<< 1 = x
  generalize b <<< 1 = y
  cases a.getLsbD 15 <;> cases b.getLsbD 15 <;> simp
  · rw [BitVec.xor_assoc]
  · rw [BitVec.xor_assoc, BitVec.xor_assoc, BitVec.xor_comm y]
  · rw [show x ^^^ 4129#16 ^^^ (y ^^^ 4129#16) = x ^^^ y ^^^ (4129#16 ^^^ 4129#16) by rw [BitVec.xor_assoc, BitVec.xor_assoc, BitVec.xor_comm (4129#16) (y ^^^ 4129#16), BitVec.xor_assoc]]
    simp
theorem crcBit_inj {v : BitVec 16} (h : crcBit v = 0#16) : v = 0#16 := by
  rw [crcBit_eq] at h
  cases ht : v.getLsbD 15 with
  | true =>
    rw [ht] at h
    have := congrArg (fun x : BitVec 16 => x.getLsbD 0) h
    simp at this
  | false =>
    rw [ht] at h
    have h2 : v <<< 1 = 0#16 := by simpa using h
    have h3 := congrArg BitVec.toNat h2
    rw [BitVec.toNat_shiftLeft, Nat.shiftLeft_eq] at h3
    have h4 : v.toNat / 2 ^ 15 % 2 ≠ 1 := by
      have : v.getLsbD 15 = decide (v.toNat / 2 ^ 15 % 2 = 1) := Nat.testBit_eq_decide_div_mod_eq
      rw [ht] at this
      exact of_decide_eq_false this.symm
    have hv := v.isLt
    apply BitVec.eq_of_toNat_eq
    simp at h3 ⊢
    omega
theorem crcBits_xor : ∀ (n : Nat) (a b : BitVec 16), crcBits n (a ^^^ b) = crcBits n a ^^^ crcBits n b
  | 0, _, _ => rfl
  | n + 1, a, b => by show crcBits n (crcBit (a ^^^ b)) = _; rw [crcBit_xor, crcBits_xor n]; rfl
theorem crcBits_inj : ∀ {n : Nat} {v : BitVec 16}, crcBits n v = 0#16 → v = 0#16
  | 0, _, h => h
  | n + 1, v, h => crcBit_inj (crcBits_inj (n := n) h)
theorem crcBits_add : ∀ (n m : Nat) (v : BitVec 16), crcBits (n + m) v = crcBits n (crcBits m v)
  | n, 0, v => rfl
  | n, m + 1, v => by show crcBits (n + m) (crcBit v) = _; rw [crcBits_add n m]; rfl
theorem crcByte_xor (u v : BitVec 16) (c : UInt8) : crcByte (u ^^^ v) c = crcByte u c ^^^ crcBits 8 v := by
  unfold crcByte
  rw [← crcBits_xor, BitVec.xor_assoc, BitVec.xor_assoc, BitVec.xor_comm v]
theorem crc_xor : ∀ (y : List UInt8) (u v : BitVec 16), crc (u ^^^ v) y = crc u y ^^^ crcBits (8 * y.length) v
  | [], _, _ => rfl
  | c :: y, u, v => by
    show crc (crcByte (u ^^^ v) c) y = crc (crcByte u c) y ^^^ _
    rw [crcByte_xor, crc_xor y, ← crcBits_add, List.length_cons, show 8 * y.length + 8 = 8 * (y.length + 1) by omega]

def maskOf (k : Nat) : UInt8 := UInt8.ofNat (128 / 2 ^ k)
/-- A bit, turned. -/
def flip (F : List UInt8) (p : Nat) : List UInt8 := F.set (p / 8) ((F[p / 8]?.getD 0) ^^^ maskOf (p % 8))
theorem flip_length (F : List UInt8) (p : Nat) : (flip F p).length = F.length := by unfold flip; rw [List.length_set]

theorem mask_bits : ∀ k, k < 8 → crcBits 8 (BitVec.ofNat 16 (maskOf k).toNat <<< 8) = crcBits (8 - k) 0x8000#16 := by decide +kernel
theorem byte_xor (c d : UInt8) : BitVec.ofNat 16 (c ^^^ d).toNat <<< 8 = (BitVec.ofNat 16 c.toNat <<< 8) ^^^ (BitVec.ofNat 16 d.toNat <<< 8) := by
  rw [← BitVec.shiftLeft_xor_distrib]
  congr 1
  apply BitVec.eq_of_toNat_eq
  have hc := c.toNat_lt
  have hd := d.toNat_lt
  have hx : c.toNat ^^^ d.toNat < 2 ^ 8 := Nat.xor_lt_two_pow hc hd
  rw [BitVec.toNat_xor, BitVec.toNat_ofNat, BitVec.toNat_ofNat, BitVec.toNat_ofNat, UInt8.toNat_xor, Nat.mod_eq_of_lt (by omega), Nat.mod_eq_of_lt (by omega), Nat.mod_eq_of_lt (by omega)]

theorem crc_flip (s : BitVec 16) (F : List UInt8) (p : Nat) (hp : p < 8 * F.length) : crc s (flip F p) = crc s F ^^^ crcBits (8 * F.length - p) 0x8000#16 := by
  have hi : p / 8 < F.length := by omega
  have hg : F[p / 8]?.getD 0 = F[p / 8] := by rw [List.getElem?_eq_getElem hi]; rfl
  have e1 : flip F p = F.take (p / 8) ++ (F[p / 8] ^^^ maskOf (p % 8)) :: F.drop (p / 8 + 1) := by
    unfold flip; rw [hg, List.set_eq_take_append_cons_drop, if_pos hi]
  have e2 : F = F.take (p / 8) ++ F[p / 8] :: F.drop (p / 8 + 1) := by
    rw [List.getElem_cons_drop, List.take_append_drop]
  have e3 : crc s F = crc (crcByte (crc s (F.take (p / 8))) F[p / 8]) (F.drop (p / 8 + 1)) := by
    conv => lhs; rw [e2, crc_app]
    rfl
  rw [e1, crc_app, e3]
  show crc (crcByte (crc s (F.take (p / 8))) (F[p / 8] ^^^ maskOf (p % 8))) (F.drop (p / 8 + 1)) = _
  have e4 : crcByte (crc s (F.take (p / 8))) (F[p / 8] ^^^ maskOf (p % 8)) = crcByte (crc s (F.take (p / 8))) F[p / 8] ^^^ crcBits (8 - p % 8) 0x8000#16 := by
    unfold crcByte
    rw [byte_xor, ← BitVec.xor_assoc, crcBits_xor, mask_bits _ (by omega)]
  rw [e4, crc_xor, ← crcBits_add, List.length_drop]
  congr 2
  omega

/-- The turned bits, gathered. -/
def gath (by' : BitVec 16) : Nat → BitVec 16
  | 0 => 0#16
  | i + 1 => if by'.getLsbD i then gath by' i ^^^ (0x8000#16 >>> i) else gath by' i
theorem top_bits : ∀ i, i < 16 → crcBits 16 (0x8000#16 >>> i) = crcBits (16 - i) 0x8000#16 := by decide +kernel
def flips (F : List UInt8) (at' : Nat) (by' : BitVec 16) : Nat → List UInt8
  | 0 => F
  | i + 1 => if by'.getLsbD i then flip (flips F at' by' i) (at' + i) else flips F at' by' i
theorem flips_length (F : List UInt8) (at' : Nat) (by' : BitVec 16) : ∀ i, (flips F at' by' i).length = F.length
  | 0 => rfl
  | i + 1 => by unfold flips; split; rw [flip_length]; exact flips_length F at' by' i; exact flips_length F at' by' i
theorem crc_flips (s : BitVec 16) (F : List UInt8) (at' : Nat) (by' : BitVec 16) (h : at' + 16 ≤ 8 * F.length) : ∀ i, i ≤ 16 → crc s (flips F at' by' i) = crc s F ^^^ crcBits (8 * F.length - at') (gath by' i)
  | 0, _ => by
    have : ∀ n, crcBits n 0#16 = 0#16 := fun n => by
      induction n with
      | zero => rfl
      | succ n ih => exact ih
    unfold flips gath; rw [this]; simp
  | i + 1, hi => by
    have ih := crc_flips s F at' by' h i (by omega)
    unfold flips gath
    split
    · rw [crc_flip _ _ _ (by rw [flips_length]; omega), ih, flips_length, BitVec.xor_assoc, crcBits_xor]
      congr 2
      rw [show 8 * F.length - at' = (8 * F.length - at' - 16) + 16 by omega, crcBits_add, top_bits i (by omega), ← crcBits_add]
      congr 1
      omega
    · exact ih
theorem gath_bit (by' : BitVec 16) : ∀ i, i ≤ 16 → ∀ k, k < 16 → (gath by' i).getLsbD (15 - k) = (decide (k < i) && by'.getLsbD k)
  | 0, _, k, _ => by simp [gath]
  | i + 1, hi, k, hk => by
    have ih := gath_bit by' i (by omega) k hk
    have hm : (0x8000#16 >>> i).getLsbD (15 - k) = decide (k = i) := by
      have : ∀ i, i < 16 → ∀ k, k < 16 → (0x8000#16 >>> i).getLsbD (15 - k) = decide (k = i) := by decide +kernel
      exact this i (by omega) k hk
    unfold gath
    split
    · rename_i hb
      rw [BitVec.getLsbD_xor, ih, hm]
      by_cases hki : k = i
      · subst hki; simp [hb]
      · have : (k < i + 1) ↔ (k < i) := by omega
        simp [hki, this]
    · rename_i hb
      rw [ih]
      by_cases hki : k = i
      · subst hki; simp at hb; simp [hb]
      · have : (k < i + 1) ↔ (k < i) := by omega
        simp [this]
theorem gath_ne {by' : BitVec 16} (h : by' ≠ 0#16) : gath by' 16 ≠ 0#16 := by
  intro k
  apply h
  apply BitVec.eq_of_getLsbD_eq
  intro i hi
  have := gath_bit by' 16 (Nat.le_refl _) i hi
  rw [k] at this
  simpa [hi] using this.symm

/-- A burst is told. -/
theorem burst {b : List UInt8} {at' : Nat} {by' : BitVec 16} (h0 : by' ≠ 0#16) (h : at' + 16 ≤ 8 * (b.length + 2)) :
    openedV (flips (b ++ two (crc 65535#16 b)) at' by' 16) = .tup [sl .none [], i64v 13] := by
  have hl : (b ++ two (crc 65535#16 b)).length = b.length + 2 := by rw [List.length_append]; rfl
  have hF := flips_length (b ++ two (crc 65535#16 b)) at' by' 16
  rw [hl] at hF
  refine opened_bad (by omega) fun k => ?_
  have h1 : crc 65535#16 (flips (b ++ two (crc 65535#16 b)) at' by' 16) = 0#16 := by rw [← k, crc_app, crc_two]
  rw [crc_flips _ _ _ _ (by rw [hl]; exact h) 16 (Nat.le_refl _), crc_app, crc_two] at h1
  have h2 : crcBits (8 * (b ++ two (crc 65535#16 b)).length - at') (gath by' 16) = 0#16 := by simpa using h1
  exact gath_ne h0 (crcBits_inj h2)
end Go.Proofs.Ytndphnojmpeogaa

