/-
  CheckParts at the abstract states.
-/
import Derived.Test.YtmgjkfepcejgnaaClawseven
namespace Go.Proofs.Ytmgjkfepcejgnaa
set_option linter.unusedVariables false
set_option linter.unusedSimpArgs false
set_option linter.unusedSectionVars false
open Go Go.Am

theorem crc_app (s : BitVec 16) (a b : List UInt8) : crc s (a ++ b) = crc (crc s a) b := List.foldl_append

theorem xor_low (n : Nat) : n ^^^ (n / 2 ^ 8 * 2 ^ 8) = n % 2 ^ 8 := by
  apply Nat.eq_of_testBit_eq
  intro i
  rw [Nat.testBit_xor, Nat.testBit_mul_two_pow, Nat.testBit_mod_two_pow, Nat.testBit_div_two_pow]
  by_cases h : 8 ≤ i
  · rw [show i - 8 + 8 = i by omega]
    have : ¬ i < 8 := by omega
    simp [h, this]
  · have : i < 8 := by omega
    simp [h, this]

theorem low8 : ∀ x : Nat, x < 256 → crcBits 8 (BitVec.ofNat 16 x) = BitVec.ofNat 16 x <<< 8 := by decide +kernel

theorem crc_two (s : BitVec 16) : crc s (two s) = 0#16 := by
  have hs := s.isLt
  have h1 : (UInt8.ofNat (s.toNat / 256)).toNat = s.toNat / 256 := by rw [UInt8.toNat_ofNat']; omega
  have h2 : (UInt8.ofNat (s.toNat % 256)).toNat = s.toNat % 256 := by rw [UInt8.toNat_ofNat']; omega
  show crcByte (crcByte s (UInt8.ofNat (s.toNat / 256))) (UInt8.ofNat (s.toNat % 256)) = 0#16
  have e1 : s ^^^ (BitVec.ofNat 16 (UInt8.ofNat (s.toNat / 256)).toNat <<< 8) = BitVec.ofNat 16 (s.toNat % 256) := by
    apply BitVec.eq_of_toNat_eq
    rw [h1, BitVec.toNat_xor, BitVec.toNat_shiftLeft, Nat.shiftLeft_eq, BitVec.toNat_ofNat, BitVec.toNat_ofNat, Nat.mod_eq_of_lt (show s.toNat / 256 < 2 ^ 16 by omega), Nat.mod_eq_of_lt (by omega), Nat.mod_eq_of_lt (show s.toNat % 256 < 2 ^ 16 by omega)]
    exact xor_low s.toNat
  have e2 : crcByte s (UInt8.ofNat (s.toNat / 256)) = BitVec.ofNat 16 (s.toNat % 256) <<< 8 := by
    unfold crcByte; rw [e1]; exact low8 _ (by omega)
  rw [e2]
  unfold crcByte
  rw [h2, BitVec.xor_self]
  decide +kernel

theorem opened_close (b : List UInt8) : openedV (b ++ two (crc 65535#16 b)) = .tup [sl .none b, i64v 0] := by
  have hl : (b ++ two (crc 65535#16 b)).length - 2 = b.length := by rw [List.length_append]; simp [two]
  have ht : (b ++ two (crc 65535#16 b)).take ((b ++ two (crc 65535#16 b)).length - 2) = b := by rw [hl]; exact List.take_left' rfl
  rw [opened_ok (by rw [List.length_append]; simp [two]) (by rw [ht]), ht]

set_option maxRecDepth 10000 in
theorem CheckParts (b : List UInt8) (n : Int) (σ : AHeap) (hb : b.length ≤ 140737488355300) : ACalls Try.prog i_bowlinelaw07_CheckParts [sl .none b, i64v n] σ fun v σ' => v = boolv true ∧ σ' = σ := by
  have guard : ∀ σ (Q : AVal → AHeap → Prop), (Q (boolv true) σ) → ACalls Try.prog i_bowlinelaw07_alive [] σ fun v σ' => Q v σ' ∧ Ext σ σ' := fun σ Q h => acall (alive _) (by rintro v σ' ⟨rfl, rfl⟩; exact ⟨h, Ext.refl _⟩)
  refine k_bowlinelaw07_CheckParts rfl ?_
  (conv => whnf); (repeat ((first | with_reducible refine abr_true rfl ?_ | with_reducible refine abr_false rfl ?_ | with_reducible refine abr_yes rfl ?_); (conv => whnf)))
  refine abr_dec (fun h => ?_) (fun h => ?_)
  · (conv => whnf); (repeat ((first | with_reducible refine abr_true rfl ?_ | with_reducible refine abr_false rfl ?_ | with_reducible refine abr_yes rfl ?_); (conv => whnf)))
    refine guard _ _ ?_
    (conv => whnf); (repeat ((first | with_reducible refine abr_true rfl ?_ | with_reducible refine abr_false rfl ?_ | with_reducible refine abr_yes rfl ?_); (conv => whnf)))
    exact aret_same ⟨rfl, rfl⟩
  (conv => whnf); (repeat ((first | with_reducible refine abr_true rfl ?_ | with_reducible refine abr_false rfl ?_ | with_reducible refine abr_yes rfl ?_); (conv => whnf)))
  refine abr_dec (fun h2 => ?_) (fun h2 => ?_)
  · (conv => whnf); (repeat ((first | with_reducible refine abr_true rfl ?_ | with_reducible refine abr_false rfl ?_ | with_reducible refine abr_yes rfl ?_); (conv => whnf)))
    refine guard _ _ ?_
    (conv => whnf); (repeat ((first | with_reducible refine abr_true rfl ?_ | with_reducible refine abr_false rfl ?_ | with_reducible refine abr_yes rfl ?_); (conv => whnf)))
    exact aret_same ⟨rfl, rfl⟩
  (conv => whnf); (repeat ((first | with_reducible refine abr_true rfl ?_ | with_reducible refine abr_false rfl ?_ | with_reducible refine abr_yes rfl ?_); (conv => whnf)))
  refine abr_dec (fun h3 => ?_) (fun h3 => ?_)
  · (conv => whnf); (repeat ((first | with_reducible refine abr_true rfl ?_ | with_reducible refine abr_false rfl ?_ | with_reducible refine abr_yes rfl ?_); (conv => whnf)))
    refine guard _ _ ?_
    (conv => whnf); (repeat ((first | with_reducible refine abr_true rfl ?_ | with_reducible refine abr_false rfl ?_ | with_reducible refine abr_yes rfl ?_); (conv => whnf)))
    exact aret_same ⟨rfl, rfl⟩
  rw [List.length_map] at h h3
  (conv => whnf); (repeat ((first | with_reducible refine abr_true rfl ?_ | with_reducible refine abr_false rfl ?_ | with_reducible refine abr_yes rfl ?_); (conv => whnf)))
  refine acall (Close b _ _ (by omega)) ?_
  rintro v σ' ⟨rfl, rfl⟩
  refine ⟨?_, Ext.refl _⟩
  (conv => whnf); (repeat ((first | with_reducible refine abr_true rfl ?_ | with_reducible refine abr_false rfl ?_ | with_reducible refine abr_yes rfl ?_); (conv => whnf)))
  refine acall (Open _ .none _ (by rw [List.length_append]; simp [two]; omega)) ?_
  rintro v σ' ⟨rfl, rfl⟩
  refine ⟨?_, Ext.refl _⟩
  rw [opened_close]
  (conv => whnf); (repeat ((first | with_reducible refine abr_true rfl ?_ | with_reducible refine abr_false rfl ?_ | with_reducible refine abr_yes rfl ?_); (conv => whnf)))
  refine guard _ _ ?_
  (conv => whnf); (repeat ((first | with_reducible refine abr_true rfl ?_ | with_reducible refine abr_false rfl ?_ | with_reducible refine abr_yes rfl ?_); (conv => whnf)))
  obtain ⟨m, rfl⟩ := Int.eq_ofNat_of_zero_le (show 0 ≤ n by omega)
  refine acut (by omega) (by omega) (by simp; omega) ?_
  rw [show (((b.map byteV).take ((m : Nat) : Int).toNat).drop (0 : Int).toNat) = (b.take m).map byteV by simp]
  (conv => whnf); (repeat ((first | with_reducible refine abr_true rfl ?_ | with_reducible refine abr_false rfl ?_ | with_reducible refine abr_yes rfl ?_); (conv => whnf)))
  refine acut (by omega) (by simp; omega) (by simp) ?_
  rw [show (((b.map byteV).take (((b.map byteV).length : Nat) : Int).toNat).drop ((m : Nat) : Int).toNat) = (b.drop m).map byteV by rw [Int.toNat_natCast, Int.toNat_natCast, List.take_length, List.map_drop]]
  (conv => whnf); (repeat ((first | with_reducible refine abr_true rfl ?_ | with_reducible refine abr_false rfl ?_ | with_reducible refine abr_yes rfl ?_); (conv => whnf)))
  refine acall (Of _ _ _ (by simp; omega)) ?_
  rintro v σ' ⟨rfl, rfl⟩
  refine ⟨?_, Ext.refl _⟩
  (conv => whnf); (repeat ((first | with_reducible refine abr_true rfl ?_ | with_reducible refine abr_false rfl ?_ | with_reducible refine abr_yes rfl ?_); (conv => whnf)))
  refine acall (More _ _ _ _ (by simp; omega)) ?_
  rintro v σ' ⟨rfl, rfl⟩
  refine ⟨?_, Ext.refl _⟩
  (conv => whnf); (repeat ((first | with_reducible refine abr_true rfl ?_ | with_reducible refine abr_false rfl ?_ | with_reducible refine abr_yes rfl ?_); (conv => whnf)))
  refine acall (Of _ _ _ (by omega)) ?_
  rintro v σ' ⟨rfl, rfl⟩
  refine ⟨?_, Ext.refl _⟩
  (conv => whnf); (repeat ((first | with_reducible refine abr_true rfl ?_ | with_reducible refine abr_false rfl ?_ | with_reducible refine abr_yes rfl ?_); (conv => whnf)))
  refine abr_yes (by rw [← crc_app, List.take_append_drop]) ?_
  (conv => whnf); (repeat ((first | with_reducible refine abr_true rfl ?_ | with_reducible refine abr_false rfl ?_ | with_reducible refine abr_yes rfl ?_); (conv => whnf)))
  refine astr rfl ?_
  (conv => whnf); (repeat ((first | with_reducible refine abr_true rfl ?_ | with_reducible refine abr_false rfl ?_ | with_reducible refine abr_yes rfl ?_); (conv => whnf)))
  refine astr rfl ?_
  (conv => whnf); (repeat ((first | with_reducible refine abr_true rfl ?_ | with_reducible refine abr_false rfl ?_ | with_reducible refine abr_yes rfl ?_); (conv => whnf)))
  refine acall (Of _ _ _ (by rw [List.length_append]; simp [two]; omega)) ?_
  rintro v σ' ⟨rfl, rfl⟩
  refine ⟨?_, Ext.refl _⟩
  rw [crc_app, crc_two]
  (conv => whnf); (repeat ((first | with_reducible refine abr_true rfl ?_ | with_reducible refine abr_false rfl ?_ | with_reducible refine abr_yes rfl ?_); (conv => whnf)))
  exact aret_same ⟨rfl, rfl⟩
end Go.Proofs.Ytmgjkfepcejgnaa
