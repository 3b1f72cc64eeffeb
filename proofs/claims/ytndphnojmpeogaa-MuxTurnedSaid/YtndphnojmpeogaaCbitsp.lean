/-
  Numbers and their bits: plain laws.
-/
import Derived.Test.YtndphnojmpeogaaCpack
namespace Go.Proofs.Ytndphnojmpeogaa
set_option linter.unusedVariables false
set_option linter.unusedSimpArgs false
open Go Go.Am

/-- The bits of a number, the highest first. -/
def numBits (v : Nat) : Nat → List Bool
  | 0 => []
  | n + 1 => v.testBit n :: numBits v n
theorem numBits_length (v n : Nat) : (numBits v n).length = n := by
  induction n with
  | zero => rfl
  | succ n ih => simp [numBits, ih]
theorem testBit_nat (v i : Nat) : (v.testBit i).toNat = v / 2 ^ i % 2 := Nat.toNat_testBit v i

/-- The number that bits are, behind a number. -/
def val (a : Nat) : List Bool → Nat
  | [] => a
  | b :: l => val (2 * a + b.toNat) l
theorem val_append (a : Nat) (l m : List Bool) : val a (l ++ m) = val (val a l) m := by
  induction l generalizing a with
  | nil => rfl
  | cons b l ih => simp [val, ih]
theorem val_eq (a : Nat) (l : List Bool) : val a l = a * 2 ^ l.length + val 0 l := by
  induction l generalizing a with
  | nil => simp [val]
  | cons b l ih =>
    have h1 := ih (2 * a + b.toNat)
    have h2 := ih (2 * 0 + b.toNat)
    simp only [val, List.length_cons]
    rw [h1, h2, Nat.pow_succ, Nat.add_mul, Nat.add_mul]
    have e : 2 * a * 2 ^ l.length = a * (2 ^ l.length * 2) := by rw [Nat.mul_comm 2 a, Nat.mul_assoc, Nat.mul_comm 2]
    omega
theorem val_lt (l : List Bool) : val 0 l < 2 ^ l.length := by
  induction l with
  | nil => simp [val]
  | cons b l ih =>
    simp only [val, List.length_cons]
    rw [val_eq, Nat.pow_succ]
    have : b.toNat ≤ 1 := by cases b <;> decide
    have h2 : (2 * 0 + b.toNat) * 2 ^ l.length ≤ 1 * 2 ^ l.length := Nat.mul_le_mul (by omega) (Nat.le_refl _)
    omega
theorem val_numBits (v n : Nat) : val 0 (numBits v n) = v % 2 ^ n := by
  induction n with
  | zero => simp [numBits, val, Nat.mod_one]
  | succ n ih =>
    simp only [numBits, val]
    rw [val_eq, ih, numBits_length, testBit_nat]
    have h := Nat.mod_pow_succ (b := 2) (x := v) (k := n)
    rw [h, Nat.mul_zero, Nat.zero_add, Nat.mul_comm (v / 2 ^ n % 2), Nat.add_comm]
theorem numBits_mod (v n m : Nat) (h : n ≤ m) : numBits (v % 2 ^ m) n = numBits v n := by
  induction n with
  | zero => rfl
  | succ n ih =>
    simp only [numBits]
    rw [ih (by omega), Nat.testBit_mod_two_pow, decide_eq_true (show n < m by omega), Bool.true_and]
theorem numBits_parts (v n m : Nat) : numBits v (n + m) = numBits (v / 2 ^ m) n ++ numBits v m := by
  induction n with
  | zero => simp [numBits]
  | succ n ih =>
    rw [show n + 1 + m = (n + m) + 1 by omega]
    simp only [numBits, List.cons_append]
    rw [ih, Nat.testBit_div_two_pow, Nat.add_comm n m]

/-- What a writer does with a number: its bits, and how it answers. -/
def putBad (v : Nat) (n : Int) : Bool := decide (n < 0) || decide (n > 64) || decide (v / 2 ^ n.toNat ≠ 0)
def putCode (k : Nat) (v : Nat) (n : Int) : Int := if putBad v n = true then 1 else if n > 65536 - (k : Int) then 5 else 0
def putBits (bs : List Bool) (v : Nat) (n : Int) : List Bool := if putCode bs.length v n = 0 then bs ++ numBits v n.toNat else bs
theorem putCode_ok {k v : Nat} {n : Int} (h : putCode k v n = 0) : 0 ≤ n ∧ n ≤ 64 ∧ v / 2 ^ n.toNat = 0 ∧ n ≤ 65536 - (k : Int) := by
  unfold putCode at h
  by_cases hb : putBad v n = true
  · rw [if_pos hb] at h; cases h
  · rw [if_neg hb] at h
    split at h
    · cases h
    · simp [putBad] at hb; refine ⟨by omega, by omega, by simpa using hb.2, by omega⟩

theorem putBits_le (bs : List Bool) (v : Nat) (n : Int) (h : bs.length ≤ 65536) : (putBits bs v n).length ≤ 65536 := by
  by_cases hc : putCode bs.length v n = 0
  · unfold putBits
    rw [if_pos hc, List.length_append, numBits_length]
    have := putCode_ok hc
    omega
  · unfold putBits
    rw [if_neg hc]; exact h
theorem putBits_no {bs : List Bool} {v : Nat} {n : Int} (h : putCode bs.length v n ≠ 0) : putBits bs v n = bs := if_neg h
theorem putBits_ok {bs : List Bool} {v : Nat} {n : Int} (h : putCode bs.length v n = 0) : putBits bs v n = bs ++ numBits v n.toNat := if_pos h
/-- The bits of bytes. -/
def byteBits (x : UInt8) : List Bool := numBits x.toNat 8
def unpack (l : List UInt8) : List Bool := l.flatMap byteBits
theorem byteBits_length (x : UInt8) : (byteBits x).length = 8 := numBits_length _ _
theorem unpack_length (l : List UInt8) : (unpack l).length = 8 * l.length := by
  induction l with
  | nil => rfl
  | cons x l ih => unfold unpack at *; rw [List.flatMap_cons, List.length_append, ih, byteBits_length, List.length_cons]; omega
theorem unpack_cons (x : UInt8) (l : List UInt8) : unpack (x :: l) = byteBits x ++ unpack l := rfl
theorem unpack_append (a b : List UInt8) : unpack (a ++ b) = unpack a ++ unpack b := by unfold unpack; exact List.flatMap_append
theorem unpack_drop (l : List UInt8) (k : Nat) : (unpack l).drop (8 * k) = unpack (l.drop k) := by
  induction l generalizing k with
  | nil => simp [unpack]
  | cons x l ih =>
    cases k with
    | zero => simp
    | succ k =>
      rw [unpack_cons, List.drop_append, byteBits_length, List.drop_eq_nil_of_le (by rw [byteBits_length]; omega), List.nil_append, show 8 * (k + 1) - 8 = 8 * k by omega, ih, List.drop_succ_cons]
theorem byteBits_all : ∀ x : UInt8, byteBits x = [decide (x.toNat / 128 % 2 = 1), decide (x.toNat / 64 % 2 = 1), decide (x.toNat / 32 % 2 = 1), decide (x.toNat / 16 % 2 = 1), decide (x.toNat / 8 % 2 = 1), decide (x.toNat / 4 % 2 = 1), decide (x.toNat / 2 % 2 = 1), decide (x.toNat / 1 % 2 = 1)] := by
  have h : ∀ n : Fin 256, numBits n.val 8 = [decide (n.val / 128 % 2 = 1), decide (n.val / 64 % 2 = 1), decide (n.val / 32 % 2 = 1), decide (n.val / 16 % 2 = 1), decide (n.val / 8 % 2 = 1), decide (n.val / 4 % 2 = 1), decide (n.val / 2 % 2 = 1), decide (n.val / 1 % 2 = 1)] := by decide +kernel
  intro x
  exact h ⟨x.toNat, x.toNat_lt⟩
theorem byte8_bits : ∀ x : UInt8, byte8 (x.toNat.testBit 7) (x.toNat.testBit 6) (x.toNat.testBit 5) (x.toNat.testBit 4) (x.toNat.testBit 3) (x.toNat.testBit 2) (x.toNat.testBit 1) (x.toNat.testBit 0) = x := by
  have h : ∀ n : Fin 256, byte8 (n.val.testBit 7) (n.val.testBit 6) (n.val.testBit 5) (n.val.testBit 4) (n.val.testBit 3) (n.val.testBit 2) (n.val.testBit 1) (n.val.testBit 0) = UInt8.ofNat n.val := by decide +kernel
  intro x
  have := h ⟨x.toNat, x.toNat_lt⟩
  simpa using this
theorem bits_byte8 : ∀ a b c d e f g h : Bool, byteBits (byte8 a b c d e f g h) = [a, b, c, d, e, f, g, h] := by decide +kernel

theorem bitD_get {l : List Bool} {i : Nat} (h : i < l.length) : bitD l i = l[i] := by unfold bitD; rw [List.getElem?_eq_getElem h]; rfl
theorem bitD_append_left {a b : List Bool} {i : Nat} (h : i < a.length) : bitD (a ++ b) i = bitD a i := by unfold bitD; rw [List.getElem?_append_left h]
theorem bitD_append_right {a b : List Bool} {i : Nat} (h : a.length ≤ i) : bitD (a ++ b) i = bitD b (i - a.length) := by unfold bitD; rw [List.getElem?_append_right h]
theorem byteAt_unpack (x : UInt8) (l : List Bool) : byteAt (byteBits x ++ l) 0 = x := by
  unfold byteAt
  have e := byte8_bits x
  have key : ∀ j, j < 8 → bitD (byteBits x ++ l) j = x.toNat.testBit (7 - j) := by
    intro j hj
    rw [bitD_append_left (by rw [byteBits_length]; exact hj)]
    unfold bitD byteBits
    match j, hj with
    | 0, _ => rfl
    | 1, _ => rfl
    | 2, _ => rfl
    | 3, _ => rfl
    | 4, _ => rfl
    | 5, _ => rfl
    | 6, _ => rfl
    | 7, _ => rfl
  simp only [Nat.mul_zero, Nat.zero_add]
  rw [key 0 (by omega), key 1 (by omega), key 2 (by omega), key 3 (by omega), key 4 (by omega), key 5 (by omega), key 6 (by omega), key 7 (by omega)]
  exact e
theorem byteAt_shift (a : List Bool) (h : a.length = 8) (l : List Bool) (i : Nat) : byteAt (a ++ l) (i + 1) = byteAt l i := by
  have key : ∀ j, bitD (a ++ l) (8 * (i + 1) + j) = bitD l (8 * i + j) := by
    intro j
    rw [bitD_append_right (by omega), h]
    congr 1; omega
  have k0 := key 0
  simp only [Nat.add_zero] at k0
  unfold byteAt
  rw [k0, key 1, key 2, key 3, key 4, key 5, key 6, key 7]
theorem pack_cons (a : List Bool) (h : a.length = 8) (l : List Bool) : pack (a ++ l) = byteAt (a ++ l) 0 :: pack l := by
  unfold pack
  rw [List.length_append, h, show (8 + l.length + 7) / 8 = (l.length + 7) / 8 + 1 by omega, List.range_succ_eq_map, List.map_cons, List.map_map]
  congr 1
  apply List.map_congr_left
  intro i _
  exact byteAt_shift a h l i
theorem pack_nil : pack [] = [] := rfl
theorem pack_unpack (l : List UInt8) : pack (unpack l) = l := by
  induction l with
  | nil => rfl
  | cons x l ih => rw [unpack_cons, pack_cons _ (byteBits_length x), ih, byteAt_unpack]

theorem first_byte (l : List Bool) : byteBits (byteAt l 0) = l.take 8 ++ List.replicate (8 - l.length) false := by
  unfold byteAt
  rw [bits_byte8]
  match l with
  | [] => rfl
  | [_] => rfl
  | [_, _] => rfl
  | [_, _, _] => rfl
  | [_, _, _, _] => rfl
  | [_, _, _, _, _] => rfl
  | [_, _, _, _, _, _] => rfl
  | [_, _, _, _, _, _, _] => rfl
  | a :: b :: c :: d :: e :: f :: g :: h :: t =>
    rw [show 8 - (a :: b :: c :: d :: e :: f :: g :: h :: t).length = 0 by simp]
    rfl
/-- Bits, filled up to whole bytes. -/
theorem unpack_pack (l : List Bool) : unpack (pack l) = l ++ List.replicate (8 * ((l.length + 7) / 8) - l.length) false := by
  have H : ∀ n, ∀ l : List Bool, l.length = n → unpack (pack l) = l ++ List.replicate (8 * ((l.length + 7) / 8) - l.length) false := by
    intro n
    induction n using Nat.strongRecOn with
    | _ n ih =>
      intro l hl
      by_cases h0 : l = []
      · subst h0; rfl
      · have h1 : 0 < l.length := List.length_pos_iff.2 h0
        by_cases h8 : 8 ≤ l.length
        · have e : l = l.take 8 ++ l.drop 8 := (List.take_append_drop 8 l).symm
          have hp : pack l = byteAt l 0 :: pack (l.drop 8) := by
            have := pack_cons (l.take 8) (by rw [List.length_take]; omega) (l.drop 8)
            rw [← e] at this; exact this
          rw [hp, unpack_cons, first_byte, ih (n - 8) (by omega) (l.drop 8) (by rw [List.length_drop]; omega), List.length_drop, show 8 - l.length = 0 by omega]
          rw [List.replicate_zero, List.append_nil, ← List.append_assoc, List.take_append_drop]
          congr 2
          omega
        · have hp : pack l = [byteAt l 0] := by
            unfold pack
            rw [show (l.length + 7) / 8 = 1 by omega]; rfl
          rw [hp, unpack_cons, first_byte, List.take_of_length_le (by omega)]
          unfold unpack
          rw [List.flatMap_nil, List.append_nil]
          congr 2
          omega
  exact H _ l rfl

/-- What a reader answers. -/
def getCode (len k : Nat) (n : Int) : Int := if n < 0 ∨ n > 64 then 1 else if n > (len : Int) - k then 8 else 0
def getVal (l : List Bool) (k : Nat) (n : Int) : Nat := if getCode l.length k n = 0 then val 0 ((l.drop k).take n.toNat) else 0
def getAt (len k : Nat) (n : Int) : Nat := if getCode len k n = 0 then k + n.toNat else k
theorem getCode_ok {len k : Nat} {n : Int} (h : getCode len k n = 0) : 0 ≤ n ∧ n ≤ 64 ∧ n ≤ (len : Int) - k := by
  unfold getCode at h
  split at h
  · cases h
  · split at h
    · cases h
    · omega
theorem getAt_le {len k : Nat} {n : Int} (h : k ≤ len) : getAt len k n ≤ len := by
  unfold getAt; split
  · rename_i hc; have := getCode_ok hc; omega
  · exact h

theorem unpack_get : ∀ (l : List UInt8) (i : Nat) (x : UInt8), l[i / 8]? = some x → (unpack l)[i]? = some (x.toNat.testBit (7 - i % 8))
  | [], i, x, h => by simp at h
  | y :: l, i, x, h => by
    rw [unpack_cons]
    by_cases h8 : i < 8
    · rw [List.getElem?_append_left (by rw [byteBits_length]; exact h8)]
      rw [show i / 8 = 0 by omega] at h
      simp at h; subst h
      unfold byteBits
      match i, h8 with
      | 0, _ => rfl
      | 1, _ => rfl
      | 2, _ => rfl
      | 3, _ => rfl
      | 4, _ => rfl
      | 5, _ => rfl
      | 6, _ => rfl
      | 7, _ => rfl
    · rw [List.getElem?_append_right (by rw [byteBits_length]; omega), byteBits_length]
      have e1 : i / 8 = (i - 8) / 8 + 1 := by omega
      rw [e1, List.getElem?_cons_succ] at h
      rw [unpack_get l (i - 8) x h, show (i - 8) % 8 = i % 8 by omega]

theorem val_zero (l : List Bool) : val 0 l = 0 ↔ ∀ b ∈ l, b = false := by
  induction l with
  | nil => simp [val]
  | cons b l ih =>
    simp only [val]
    rw [val_eq]
    cases b with
    | false => simp [ih]
    | true =>
      have : 0 < 2 ^ l.length := Nat.pos_of_ne_zero (by simp)
      simp
theorem val_snoc (a : Nat) (l : List Bool) (b : Bool) : val a (l ++ [b]) = 2 * val a l + b.toNat := by rw [val_append]; rfl
/-- How many bits are put aside up to the next whole byte. -/
def pad (k : Nat) : Nat := (8 - k % 8) % 8
/-- What is left, in whole bytes. -/
def restOk (l : List Bool) (k : Nat) : Bool := decide (val 0 ((l.drop k).take (pad k)) = 0)
end Go.Proofs.Ytndphnojmpeogaa

