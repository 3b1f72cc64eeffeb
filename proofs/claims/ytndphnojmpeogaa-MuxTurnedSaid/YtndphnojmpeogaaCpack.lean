/-
  Bits in bytes: plain laws.
-/
import Derived.Test.YtndphnojmpeogaaCbase
namespace Go.Proofs.Ytndphnojmpeogaa
set_option linter.unusedVariables false
set_option linter.unusedSimpArgs false
open Go Go.Am

def byte8 (a b c d e f g h : Bool) : UInt8 :=
  UInt8.ofNat (a.toNat * 128 + b.toNat * 64 + c.toNat * 32 + d.toNat * 16 + e.toNat * 8 + f.toNat * 4 + g.toNat * 2 + h.toNat)
def bitD (l : List Bool) (i : Nat) : Bool := l[i]?.getD false
/-- The byte at a place of a list of bits, filled up with noughts. -/
def byteAt (l : List Bool) (i : Nat) : UInt8 := byte8 (bitD l (8 * i)) (bitD l (8 * i + 1)) (bitD l (8 * i + 2)) (bitD l (8 * i + 3)) (bitD l (8 * i + 4)) (bitD l (8 * i + 5)) (bitD l (8 * i + 6)) (bitD l (8 * i + 7))
/-- A list of bits, as bytes. -/
def pack (l : List Bool) : List UInt8 := (List.range ((l.length + 7) / 8)).map (byteAt l)
theorem pack_length (l : List Bool) : (pack l).length = (l.length + 7) / 8 := by unfold pack; simp

theorem bitD_snoc (l : List Bool) (b : Bool) (i : Nat) : bitD (l ++ [b]) i = if i = l.length then b else bitD l i := by
  unfold bitD
  by_cases h : i = l.length
  · subst h; simp
  · rw [if_neg h]
    by_cases h2 : i < l.length
    · rw [List.getElem?_append_left h2]
    · rw [List.getElem?_eq_none (by simp; omega), List.getElem?_eq_none (by omega)]
theorem bitD_out {l : List Bool} {i : Nat} (h : l.length ≤ i) : bitD l i = false := by unfold bitD; rw [List.getElem?_eq_none h]; rfl

def orBit (x : UInt8) (b : Bool) (k : Nat) : UInt8 := x ||| UInt8.ofNat (b.toNat * 2 ^ (7 - k))
theorem or_byte8 : ∀ (a b c d e f g h x : Bool), orBit (byte8 false false false false false false false false) x 0 = byte8 x false false false false false false false ∧
    orBit (byte8 a false false false false false false false) x 1 = byte8 a x false false false false false false ∧ orBit (byte8 a b false false false false false false) x 2 = byte8 a b x false false false false false ∧
    orBit (byte8 a b c false false false false false) x 3 = byte8 a b c x false false false false ∧ orBit (byte8 a b c d false false false false) x 4 = byte8 a b c d x false false false ∧
    orBit (byte8 a b c d e false false false) x 5 = byte8 a b c d e x false false ∧ orBit (byte8 a b c d e f false false) x 6 = byte8 a b c d e f x false ∧ orBit (byte8 a b c d e f g false) x 7 = byte8 a b c d e f g x := by decide +kernel

theorem byteAt_snoc (l : List Bool) (b : Bool) : byteAt (l ++ [b]) (l.length / 8) = orBit (byteAt l (l.length / 8)) b (l.length % 8) := by
  obtain ⟨q, k, hk, hl⟩ : ∃ q k, k < 8 ∧ l.length = 8 * q + k := ⟨l.length / 8, l.length % 8, by omega, by omega⟩
  have hq : l.length / 8 = q := by omega
  have hr : l.length % 8 = k := by omega
  rw [hq, hr]
  unfold byteAt
  have key : ∀ j, bitD (l ++ [b]) (8 * q + j) = if j = k then b else bitD l (8 * q + j) := by
    intro j; rw [bitD_snoc]
    by_cases h : j = k
    · rw [if_pos (by omega), if_pos h]
    · rw [if_neg (by omega), if_neg h]
  have hout : ∀ j, k ≤ j → bitD l (8 * q + j) = false := fun j hj => bitD_out (by omega)
  have k0 := key 0
  rw [Nat.add_zero] at k0
  have o0 := hout 0
  rw [Nat.add_zero] at o0
  have H := or_byte8 (bitD l (8 * q)) (bitD l (8 * q + 1)) (bitD l (8 * q + 2)) (bitD l (8 * q + 3)) (bitD l (8 * q + 4)) (bitD l (8 * q + 5)) (bitD l (8 * q + 6)) (bitD l (8 * q + 7)) b
  rw [k0, key 1, key 2, key 3, key 4, key 5, key 6, key 7]
  match k, hk with
  | 0, _ => simp [o0, hout]; exact H.1.symm
  | 1, _ => simp [hout]; exact H.2.1.symm
  | 2, _ => simp [hout]; exact H.2.2.1.symm
  | 3, _ => simp [hout]; exact H.2.2.2.1.symm
  | 4, _ => simp [hout]; exact H.2.2.2.2.1.symm
  | 5, _ => simp [hout]; exact H.2.2.2.2.2.1.symm
  | 6, _ => simp [hout]; exact H.2.2.2.2.2.2.1.symm
  | 7, _ => simp [hout]; exact H.2.2.2.2.2.2.2.symm

theorem byteAt_other (l : List Bool) (b : Bool) {i : Nat} (h : i ≠ l.length / 8) : byteAt (l ++ [b]) i = byteAt l i := by
  have key : ∀ j, j < 8 → bitD (l ++ [b]) (8 * i + j) = bitD l (8 * i + j) := fun j hj => by rw [bitD_snoc, if_neg (by omega)]
  have k0 := key 0 (by omega)
  rw [Nat.add_zero] at k0
  unfold byteAt
  rw [k0, key 1 (by omega), key 2 (by omega), key 3 (by omega), key 4 (by omega), key 5 (by omega), key 6 (by omega), key 7 (by omega)]

/-- One bit more, as the writer puts it. -/
def grow (l : List Bool) : List UInt8 := if l.length % 8 = 0 then pack l ++ [0] else pack l
theorem grow_length (l : List Bool) : (grow l).length = l.length / 8 + 1 := by
  unfold grow; split
  · rw [List.length_append, pack_length]; simp; omega
  · rw [pack_length]; omega
theorem grow_get (l : List Bool) (i : Nat) (h : i < l.length / 8 + 1) : (grow l)[i]? = some (byteAt l i) := by
  unfold grow pack; split
  · by_cases h2 : i < (l.length + 7) / 8
    · rw [List.getElem?_append_left (by simpa using h2)]; simp [h2]
    · have : i = (l.length + 7) / 8 := by omega
      subst this
      rw [List.getElem?_append_right (by simp)]
      simp
      have hout : ∀ j, bitD l (8 * ((l.length + 7) / 8) + j) = false := fun j => bitD_out (by omega)
      have h0 := hout 0
      rw [Nat.add_zero] at h0
      unfold byteAt
      rw [h0, hout, hout, hout, hout, hout, hout, hout]; rfl
  · have h2 : i < (l.length + 7) / 8 := by omega
    simp [h2]
theorem pack_get {l : List Bool} {i : Nat} (h : i < (l.length + 7) / 8) : (pack l)[i]? = some (byteAt l i) := by
  unfold pack; rw [List.getElem?_map, List.getElem?_range h]; rfl
theorem pack_snoc (l : List Bool) (b : Bool) : pack (l ++ [b]) = (grow l).set (l.length / 8) (orBit (byteAt l (l.length / 8)) b (l.length % 8)) := by
  apply List.ext_getElem?
  intro i
  rw [List.getElem?_set, grow_length]
  by_cases h : l.length / 8 = i
  · subst h
    rw [if_pos rfl, if_pos (by omega), ← byteAt_snoc]
    exact pack_get (by rw [List.length_append]; show _ < (l.length + 1 + 7) / 8; omega)
  · rw [if_neg h]
    by_cases h2 : i < l.length / 8 + 1
    · rw [grow_get l i h2, ← byteAt_other l b (Ne.symm h)]
      exact pack_get (by rw [List.length_append]; show _ < (l.length + 1 + 7) / 8; omega)
    · rw [List.getElem?_eq_none (by rw [pack_length, List.length_append]; show (l.length + 1 + 7) / 8 ≤ i; omega), List.getElem?_eq_none (by rw [grow_length]; omega)]
end Go.Proofs.Ytndphnojmpeogaa

