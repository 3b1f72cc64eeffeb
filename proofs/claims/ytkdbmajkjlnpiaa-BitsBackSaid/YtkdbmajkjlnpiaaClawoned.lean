/-
  Numbers in two parts, at the abstract states.
-/
import Derived.Test.YtkdbmajkjlnpiaaClawonec
namespace Go.Proofs.Ytkdbmajkjlnpiaa
set_option linter.unusedVariables false
set_option linter.unusedSimpArgs false
open Go Go.Am

theorem shl_u64 (x m : Nat) (hm : m ≤ 64) (h : x * 2 ^ m < 18446744073709551616) : IntKind.u64.wrap ((x : Int) * 2 ^ (min ((m : Nat) : Int).toNat IntKind.u64.bits)) = ((x * 2 ^ m : Nat) : Int) := by
  rw [Int.toNat_natCast, Nat.min_eq_left (show m ≤ IntKind.u64.bits from hm)]
  have e : (x : Int) * 2 ^ m = ((x * 2 ^ m : Nat) : Int) := by simp
  rw [e]
  generalize x * 2 ^ m = y at h
  exact wrap_u64 (by omega) (by omega)
theorem or_u64 (q u m : Nat) (hu : u < 2 ^ m) (h : q * 2 ^ m + u < 18446744073709551616) : bitsOp .or .u64 ((q * 2 ^ m : Nat) : Int) ((u : Nat) : Int) = ((q * 2 ^ m + u : Nat) : Int) := by
  have h1 : ∀ y : Nat, BitVec.ofInt 64 (y : Int) = BitVec.ofNat 64 y := by intro y; simp
  show IntKind.u64.wrap ((BitVec.ofInt 64 ((q * 2 ^ m : Nat) : Int) ||| BitVec.ofInt 64 ((u : Nat) : Int)).toNat) = _
  rw [h1, h1]
  have e := Nat.two_pow_add_eq_or_of_lt hu q
  rw [Nat.mul_comm] at e
  generalize q * 2 ^ m = y at h e ⊢
  have : (BitVec.ofNat 64 y ||| BitVec.ofNat 64 u).toNat = y + u := by
    rw [BitVec.toNat_or, BitVec.toNat_ofNat, BitVec.toNat_ofNat, Nat.mod_eq_of_lt (by omega), Nat.mod_eq_of_lt (by omega)]
    exact e.symm
  rw [this]; exact wrap_u64 (by omega) (by omega)

theorem getVal_ok {l : List Bool} {k : Nat} {n : Int} (h : getCode l.length k n = 0) : getVal l k n = val 0 ((l.drop k).take n.toNat) := if_pos h
theorem getAt_ok {len k : Nat} {n : Int} (h : getCode len k n = 0) : getAt len k n = k + n.toNat := if_pos h
theorem getAt_no {len k : Nat} {n : Int} (h : getCode len k n ≠ 0) : getAt len k n = k := if_neg h
theorem pow_le_64 {a : Nat} (h : a ≤ 64) : 2 ^ a ≤ 18446744073709551616 := by
  have h2 : 2 ^ a ≤ 2 ^ 64 := Nat.pow_le_pow_right (by omega) h
  omega

set_option maxRecDepth 10000 in
theorem BitsParts (v : Nat) (n m : Int) (b : List UInt8) (σ : AHeap) (hv : v < 18446744073709551616) (hbl : b.length ≤ 140737488351232) : ACalls Try.prog i_bowlinelaw01_BitsParts [u64v v, i64v n, i64v m, sl .none b] σ fun v σ' => v = boolv true ∧ σ' = σ := by
  refine k_bowlinelaw01_BitsParts rfl ?_
  ((conv => whnf); (repeat ((first | with_reducible refine abr_true rfl ?_ | with_reducible refine abr_false rfl ?_ | with_reducible refine abr_yes rfl ?_ | refine abr_yes (by decide) ?_ | refine abr_no (by decide) ?_ | with_reducible refine abr_same_ne ?_); (conv => whnf))))
  by_cases c1 : n < 0
  · (repeat ((first | refine aload (by (repeat (first | with_reducible exact upd_same _ _ _ | assumption | rw [upd_ne _ _ (by first | assumption | (apply Ne.symm; assumption))]))) rfl ?_ | refine afit_i64 (by omega) ?_ | refine arem_nonneg (by omega) (by omega) ?_ | refine adiv_i64 (by omega) (by omega) ?_ | refine abr_yes (by omega) ?_ | refine abr_no (by omega) ?_ | refine amin ?_ | refine amax ?_ | rw [List.length_map]); ((conv => whnf); (repeat ((first | with_reducible refine abr_true rfl ?_ | with_reducible refine abr_false rfl ?_ | with_reducible refine abr_yes rfl ?_ | refine abr_yes (by decide) ?_ | refine abr_no (by decide) ?_ | with_reducible refine abr_same_ne ?_); (conv => whnf))))))
    refine acall (alive01 _) ?_
    rintro _ σ_ ⟨rfl, e_⟩
    obtain rfl := e_.symm
    refine ⟨?_, Ext.refl _⟩
    ((conv => whnf); (repeat ((first | with_reducible refine abr_true rfl ?_ | with_reducible refine abr_false rfl ?_ | with_reducible refine abr_yes rfl ?_ | refine abr_yes (by decide) ?_ | refine abr_no (by decide) ?_ | with_reducible refine abr_same_ne ?_); (conv => whnf))))
    exact aret_same ⟨rfl, rfl⟩
  by_cases c2 : m < 0
  · (repeat ((first | refine aload (by (repeat (first | with_reducible exact upd_same _ _ _ | assumption | rw [upd_ne _ _ (by first | assumption | (apply Ne.symm; assumption))]))) rfl ?_ | refine afit_i64 (by omega) ?_ | refine arem_nonneg (by omega) (by omega) ?_ | refine adiv_i64 (by omega) (by omega) ?_ | refine abr_yes (by omega) ?_ | refine abr_no (by omega) ?_ | refine amin ?_ | refine amax ?_ | rw [List.length_map]); ((conv => whnf); (repeat ((first | with_reducible refine abr_true rfl ?_ | with_reducible refine abr_false rfl ?_ | with_reducible refine abr_yes rfl ?_ | refine abr_yes (by decide) ?_ | refine abr_no (by decide) ?_ | with_reducible refine abr_same_ne ?_); (conv => whnf))))))
    refine acall (alive01 _) ?_
    rintro _ σ_ ⟨rfl, e_⟩
    obtain rfl := e_.symm
    refine ⟨?_, Ext.refl _⟩
    ((conv => whnf); (repeat ((first | with_reducible refine abr_true rfl ?_ | with_reducible refine abr_false rfl ?_ | with_reducible refine abr_yes rfl ?_ | refine abr_yes (by decide) ?_ | refine abr_no (by decide) ?_ | with_reducible refine abr_same_ne ?_); (conv => whnf))))
    exact aret_same ⟨rfl, rfl⟩
  by_cases c3 : n > 32
  · (repeat ((first | refine aload (by (repeat (first | with_reducible exact upd_same _ _ _ | assumption | rw [upd_ne _ _ (by first | assumption | (apply Ne.symm; assumption))]))) rfl ?_ | refine afit_i64 (by omega) ?_ | refine arem_nonneg (by omega) (by omega) ?_ | refine adiv_i64 (by omega) (by omega) ?_ | refine abr_yes (by omega) ?_ | refine abr_no (by omega) ?_ | refine amin ?_ | refine amax ?_ | rw [List.length_map]); ((conv => whnf); (repeat ((first | with_reducible refine abr_true rfl ?_ | with_reducible refine abr_false rfl ?_ | with_reducible refine abr_yes rfl ?_ | refine abr_yes (by decide) ?_ | refine abr_no (by decide) ?_ | with_reducible refine abr_same_ne ?_); (conv => whnf))))))
    refine acall (alive01 _) ?_
    rintro _ σ_ ⟨rfl, e_⟩
    obtain rfl := e_.symm
    refine ⟨?_, Ext.refl _⟩
    ((conv => whnf); (repeat ((first | with_reducible refine abr_true rfl ?_ | with_reducible refine abr_false rfl ?_ | with_reducible refine abr_yes rfl ?_ | refine abr_yes (by decide) ?_ | refine abr_no (by decide) ?_ | with_reducible refine abr_same_ne ?_); (conv => whnf))))
    exact aret_same ⟨rfl, rfl⟩
  by_cases c4 : m > 32
  · (repeat ((first | refine aload (by (repeat (first | with_reducible exact upd_same _ _ _ | assumption | rw [upd_ne _ _ (by first | assumption | (apply Ne.symm; assumption))]))) rfl ?_ | refine afit_i64 (by omega) ?_ | refine arem_nonneg (by omega) (by omega) ?_ | refine adiv_i64 (by omega) (by omega) ?_ | refine abr_yes (by omega) ?_ | refine abr_no (by omega) ?_ | refine amin ?_ | refine amax ?_ | rw [List.length_map]); ((conv => whnf); (repeat ((first | with_reducible refine abr_true rfl ?_ | with_reducible refine abr_false rfl ?_ | with_reducible refine abr_yes rfl ?_ | refine abr_yes (by decide) ?_ | refine abr_no (by decide) ?_ | with_reducible refine abr_same_ne ?_); (conv => whnf))))))
    refine acall (alive01 _) ?_
    rintro _ σ_ ⟨rfl, e_⟩
    obtain rfl := e_.symm
    refine ⟨?_, Ext.refl _⟩
    ((conv => whnf); (repeat ((first | with_reducible refine abr_true rfl ?_ | with_reducible refine abr_false rfl ?_ | with_reducible refine abr_yes rfl ?_ | refine abr_yes (by decide) ?_ | refine abr_no (by decide) ?_ | with_reducible refine abr_same_ne ?_); (conv => whnf))))
    exact aret_same ⟨rfl, rfl⟩
  by_cases c5 : b.length > 2000
  · (repeat ((first | refine aload (by (repeat (first | with_reducible exact upd_same _ _ _ | assumption | rw [upd_ne _ _ (by first | assumption | (apply Ne.symm; assumption))]))) rfl ?_ | refine afit_i64 (by omega) ?_ | refine arem_nonneg (by omega) (by omega) ?_ | refine adiv_i64 (by omega) (by omega) ?_ | refine abr_yes (by omega) ?_ | refine abr_no (by omega) ?_ | refine amin ?_ | refine amax ?_ | rw [List.length_map]); ((conv => whnf); (repeat ((first | with_reducible refine abr_true rfl ?_ | with_reducible refine abr_false rfl ?_ | with_reducible refine abr_yes rfl ?_ | refine abr_yes (by decide) ?_ | refine abr_no (by decide) ?_ | with_reducible refine abr_same_ne ?_); (conv => whnf))))))
    refine acall (alive01 _) ?_
    rintro _ σ_ ⟨rfl, e_⟩
    obtain rfl := e_.symm
    refine ⟨?_, Ext.refl _⟩
    ((conv => whnf); (repeat ((first | with_reducible refine abr_true rfl ?_ | with_reducible refine abr_false rfl ?_ | with_reducible refine abr_yes rfl ?_ | refine abr_yes (by decide) ?_ | refine abr_no (by decide) ?_ | with_reducible refine abr_same_ne ?_); (conv => whnf))))
    exact aret_same ⟨rfl, rfl⟩
  obtain ⟨n, rfl⟩ : ∃ k : Nat, n = k := ⟨n.toNat, by omega⟩
  obtain ⟨m, rfl⟩ : ∃ k : Nat, m = k := ⟨m.toNat, by omega⟩
  have hul := unpack_length b
  have p32 : 1 * 2 ^ m < 18446744073709551616 := by
    have h2 : 2 ^ m ≤ 2 ^ 32 := Nat.pow_le_pow_right (by omega) (by omega)
    omega
  (repeat ((first | refine aload (by (repeat (first | with_reducible exact upd_same _ _ _ | assumption | rw [upd_ne _ _ (by first | assumption | (apply Ne.symm; assumption))]))) rfl ?_ | refine afit_i64 (by omega) ?_ | refine arem_nonneg (by omega) (by omega) ?_ | refine adiv_i64 (by omega) (by omega) ?_ | refine abr_yes (by omega) ?_ | refine abr_no (by omega) ?_ | refine amin ?_ | refine amax ?_ | rw [List.length_map]); ((conv => whnf); (repeat ((first | with_reducible refine abr_true rfl ?_ | with_reducible refine abr_false rfl ?_ | with_reducible refine abr_yes rfl ?_ | refine abr_yes (by decide) ?_ | refine abr_no (by decide) ?_ | with_reducible refine abr_same_ne ?_); (conv => whnf))))))
  refine ashr_nat (by show m ≤ 64; omega) ?_
  ((conv => whnf); (repeat ((first | with_reducible refine abr_true rfl ?_ | with_reducible refine abr_false rfl ?_ | with_reducible refine abr_yes rfl ?_ | refine abr_yes (by decide) ?_ | refine abr_no (by decide) ?_ | with_reducible refine abr_same_ne ?_); (conv => whnf))))
  (repeat ((first | refine aload (by (repeat (first | with_reducible exact upd_same _ _ _ | assumption | rw [upd_ne _ _ (by first | assumption | (apply Ne.symm; assumption))]))) rfl ?_ | refine afit_i64 (by omega) ?_ | refine arem_nonneg (by omega) (by omega) ?_ | refine adiv_i64 (by omega) (by omega) ?_ | refine abr_yes (by omega) ?_ | refine abr_no (by omega) ?_ | refine amin ?_ | refine amax ?_ | rw [List.length_map]); ((conv => whnf); (repeat ((first | with_reducible refine abr_true rfl ?_ | with_reducible refine abr_false rfl ?_ | with_reducible refine abr_yes rfl ?_ | refine abr_yes (by decide) ?_ | refine abr_no (by decide) ?_ | with_reducible refine abr_same_ne ?_); (conv => whnf))))))
  refine ashl_eq (by omega) (shl_u64 1 m (by omega) p32) ?_
  rw [Nat.one_mul]
  ((conv => whnf); (repeat ((first | with_reducible refine abr_true rfl ?_ | with_reducible refine abr_false rfl ?_ | with_reducible refine abr_yes rfl ?_ | refine abr_yes (by decide) ?_ | refine abr_no (by decide) ?_ | with_reducible refine abr_same_ne ?_); (conv => whnf))))
  refine arem_nat (Nat.pos_iff_ne_zero.1 (Nat.pow_pos (by omega))) ?_
  ((conv => whnf); (repeat ((first | with_reducible refine abr_true rfl ?_ | with_reducible refine abr_false rfl ?_ | with_reducible refine abr_yes rfl ?_ | refine abr_yes (by decide) ?_ | refine abr_no (by decide) ?_ | with_reducible refine abr_same_ne ?_); (conv => whnf))))
  refine acall (wNew _) ?_
  rintro _ σ1 ⟨iw, rfl, w1⟩
  refine ⟨?_, w1.ext⟩
  ((conv => whnf); (repeat ((first | with_reducible refine abr_true rfl ?_ | with_reducible refine abr_false rfl ?_ | with_reducible refine abr_yes rfl ?_ | refine abr_yes (by decide) ?_ | refine abr_no (by decide) ?_ | with_reducible refine abr_same_ne ?_); (conv => whnf))))
  refine acall (wNew _) ?_
  rintro _ σ2 ⟨ix, rfl, x2⟩
  refine ⟨?_, x2.ext⟩
  ((conv => whnf); (repeat ((first | with_reducible refine abr_true rfl ?_ | with_reducible refine abr_false rfl ?_ | with_reducible refine abr_yes rfl ?_ | refine abr_yes (by decide) ?_ | refine abr_no (by decide) ?_ | with_reducible refine abr_same_ne ?_); (conv => whnf))))
  (repeat ((first | refine aload (by (repeat (first | with_reducible exact upd_same _ _ _ | assumption | rw [upd_ne _ _ (by first | assumption | (apply Ne.symm; assumption))]))) rfl ?_ | refine afit_i64 (by omega) ?_ | refine arem_nonneg (by omega) (by omega) ?_ | refine adiv_i64 (by omega) (by omega) ?_ | refine abr_yes (by omega) ?_ | refine abr_no (by omega) ?_ | refine amin ?_ | refine amax ?_ | rw [List.length_map]); ((conv => whnf); (repeat ((first | with_reducible refine abr_true rfl ?_ | with_reducible refine abr_false rfl ?_ | with_reducible refine abr_yes rfl ?_ | refine abr_yes (by decide) ?_ | refine abr_no (by decide) ?_ | with_reducible refine abr_same_ne ?_); (conv => whnf))))))
  obtain ⟨σa, w2, xa⟩ := swap_ww x2 w1
  rw [show (n : Int) + (m : Int) = ((n + m : Nat) : Int) by omega]
  refine acall (wPut iw [] v ((n + m : Nat) : Int) _ _ w2 hv (by simp)) ?_
  rintro _ σ3 ⟨rfl, w3⟩
  ((conv => whnf); (repeat ((first | with_reducible refine abr_true rfl ?_ | with_reducible refine abr_false rfl ?_ | with_reducible refine abr_yes rfl ?_ | refine abr_yes (by decide) ?_ | refine abr_no (by decide) ?_ | with_reducible refine abr_same_ne ?_); (conv => whnf))))
  by_cases he : putCode ([] : List Bool).length v ((n + m : Nat) : Int) = 0
  · obtain ⟨-, -, hz, -⟩ := putCode_ok he
    rw [Int.toNat_natCast] at hz
    rw [putBits_ok he, Int.toNat_natCast, List.nil_append] at w3
    refine abr_no (fun h => h he) ?_
    ((conv => whnf); (repeat ((first | with_reducible refine abr_true rfl ?_ | with_reducible refine abr_false rfl ?_ | with_reducible refine abr_yes rfl ?_ | refine abr_yes (by decide) ?_ | refine abr_no (by decide) ?_ | with_reducible refine abr_same_ne ?_); (conv => whnf))))
    obtain ⟨σb, x3, wb0⟩ := swap_ww w3 xa
    have hzn : v / 2 ^ m / 2 ^ n = 0 := by rw [Nat.div_div_eq_div_mul, ← Nat.pow_add, Nat.add_comm m n]; exact hz
    have hzm : v % 2 ^ m / 2 ^ m = 0 := Nat.div_eq_of_lt (Nat.mod_lt _ (Nat.pow_pos (by omega)))
    have hf : putCode ([] : List Bool).length (v / 2 ^ m) (n : Int) = 0 := putCode_fine (by unfold putBad; rw [decide_eq_false c1, decide_eq_false (by omega), decide_eq_false (by rw [Int.toNat_natCast]; exact fun h => h hzn)]; rfl) (by simp; omega)
    refine acall (wPut ix [] (v / 2 ^ m) (n : Int) _ _ x3 (Nat.lt_of_le_of_lt (Nat.div_le_self _ _) hv) (by simp)) ?_
    rintro _ σ4 ⟨rfl, x4⟩
    rw [putBits_ok hf, Int.toNat_natCast, List.nil_append] at x4
    rw [hf]
    ((conv => whnf); (repeat ((first | with_reducible refine abr_true rfl ?_ | with_reducible refine abr_false rfl ?_ | with_reducible refine abr_yes rfl ?_ | refine abr_yes (by decide) ?_ | refine abr_no (by decide) ?_ | with_reducible refine abr_same_ne ?_); (conv => whnf))))
    have hg : putCode (numBits (v / 2 ^ m) n).length (v % 2 ^ m) (m : Int) = 0 := putCode_fine (by unfold putBad; rw [decide_eq_false c2, decide_eq_false (by omega), decide_eq_false (by rw [Int.toNat_natCast]; exact fun h => h hzm)]; rfl) (by rw [numBits_length]; omega)
    refine acall (wPut ix _ (v % 2 ^ m) (m : Int) _ _ x4 (Nat.lt_of_le_of_lt (Nat.mod_le _ _) hv) (by rw [numBits_length]; omega)) ?_
    rintro _ σ5 ⟨rfl, x5⟩
    rw [putBits_ok hg, Int.toNat_natCast, numBits_mod _ _ _ (Nat.le_refl m), ← numBits_parts] at x5
    rw [hg]
    ((conv => whnf); (repeat ((first | with_reducible refine abr_true rfl ?_ | with_reducible refine abr_false rfl ?_ | with_reducible refine abr_yes rfl ?_ | refine abr_yes (by decide) ?_ | refine abr_no (by decide) ?_ | with_reducible refine abr_same_ne ?_); (conv => whnf))))
    refine acall (rRead b _ _ (by omega)) ?_
    rintro _ σ6 ⟨ir, rfl, r6⟩
    refine ⟨?_, r6.ext⟩
    rw [List.take_of_length_le (by omega)] at r6
    ((conv => whnf); (repeat ((first | with_reducible refine abr_true rfl ?_ | with_reducible refine abr_false rfl ?_ | with_reducible refine abr_yes rfl ?_ | refine abr_yes (by decide) ?_ | refine abr_no (by decide) ?_ | with_reducible refine abr_same_ne ?_); (conv => whnf))))
    refine acall (rRead b _ _ (by omega)) ?_
    rintro _ σ7 ⟨is, rfl, s7⟩
    refine ⟨?_, s7.ext⟩
    rw [List.take_of_length_le (by omega)] at s7
    ((conv => whnf); (repeat ((first | with_reducible refine abr_true rfl ?_ | with_reducible refine abr_false rfl ?_ | with_reducible refine abr_yes rfl ?_ | refine abr_yes (by decide) ?_ | refine abr_no (by decide) ?_ | with_reducible refine abr_same_ne ?_); (conv => whnf))))
    (repeat ((first | refine aload (by (repeat (first | with_reducible exact upd_same _ _ _ | assumption | rw [upd_ne _ _ (by first | assumption | (apply Ne.symm; assumption))]))) rfl ?_ | refine afit_i64 (by omega) ?_ | refine arem_nonneg (by omega) (by omega) ?_ | refine adiv_i64 (by omega) (by omega) ?_ | refine abr_yes (by omega) ?_ | refine abr_no (by omega) ?_ | refine amin ?_ | refine amax ?_ | rw [List.length_map]); ((conv => whnf); (repeat ((first | with_reducible refine abr_true rfl ?_ | with_reducible refine abr_false rfl ?_ | with_reducible refine abr_yes rfl ?_ | refine abr_yes (by decide) ?_ | refine abr_no (by decide) ?_ | with_reducible refine abr_same_ne ?_); (conv => whnf))))))
    obtain ⟨σc, r7, sc⟩ := swap_rr s7 r6
    rw [show (n : Int) + (m : Int) = ((n + m : Nat) : Int) by omega]
    refine acall (rGet ir b 0 ((n + m : Nat) : Int) _ _ r7) ?_
    rintro _ σ8 ⟨rfl, r8⟩
    obtain ⟨σd, s8, rd⟩ := swap_rr r8 sc
    ((conv => whnf); (repeat ((first | with_reducible refine abr_true rfl ?_ | with_reducible refine abr_false rfl ?_ | with_reducible refine abr_yes rfl ?_ | refine abr_yes (by decide) ?_ | refine abr_no (by decide) ?_ | with_reducible refine abr_same_ne ?_); (conv => whnf))))
    refine acall (rGet is b 0 (n : Int) _ _ s8) ?_
    rintro _ σ9 ⟨rfl, s9⟩
    ((conv => whnf); (repeat ((first | with_reducible refine abr_true rfl ?_ | with_reducible refine abr_false rfl ?_ | with_reducible refine abr_yes rfl ?_ | refine abr_yes (by decide) ?_ | refine abr_no (by decide) ?_ | with_reducible refine abr_same_ne ?_); (conv => whnf))))
    refine acall (rGet is b _ (m : Int) _ _ s9) ?_
    rintro _ σ10 ⟨rfl, s10⟩
    ((conv => whnf); (repeat ((first | with_reducible refine abr_true rfl ?_ | with_reducible refine abr_false rfl ?_ | with_reducible refine abr_yes rfl ?_ | refine abr_yes (by decide) ?_ | refine abr_no (by decide) ?_ | with_reducible refine abr_same_ne ?_); (conv => whnf))))
    have fin : ARet (boolv true) σ10 (fun v σ' => v = boolv true ∧ σ' = σ) := aret (VLe.refl _) (((s10.sub.trans rd.sub).trans x5.sub).trans wb0.sub) ⟨rfl, rfl⟩
    by_cases hh : getCode (8 * b.length) 0 ((n + m : Nat) : Int) = 0
    · obtain ⟨-, -, hroom⟩ := getCode_ok hh
      have hi : getCode (8 * b.length) 0 (n : Int) = 0 := by unfold getCode; rw [if_neg (by omega), if_neg (by omega)]
      have hat : getAt (8 * b.length) 0 (n : Int) = n := by rw [getAt_ok hi]; omega
      rw [hat] at s10 ⊢
      have hj : getCode (8 * b.length) n (m : Int) = 0 := by unfold getCode; rw [if_neg (by omega), if_neg (by omega)]
      refine abr_no (fun h => h hh) ?_
      ((conv => whnf); (repeat ((first | with_reducible refine abr_true rfl ?_ | with_reducible refine abr_false rfl ?_ | with_reducible refine abr_yes rfl ?_ | refine abr_yes (by decide) ?_ | refine abr_no (by decide) ?_ | with_reducible refine abr_same_ne ?_); (conv => whnf))))
      refine acall (alive01 _) ?_
      rintro _ σ_ ⟨rfl, e_⟩
      obtain rfl := e_.symm
      refine ⟨?_, Ext.refl _⟩
      ((conv => whnf); (repeat ((first | with_reducible refine abr_true rfl ?_ | with_reducible refine abr_false rfl ?_ | with_reducible refine abr_yes rfl ?_ | refine abr_yes (by decide) ?_ | refine abr_no (by decide) ?_ | with_reducible refine abr_same_ne ?_); (conv => whnf))))
      rw [hi, hj]
      ((conv => whnf); (repeat ((first | with_reducible refine abr_true rfl ?_ | with_reducible refine abr_false rfl ?_ | with_reducible refine abr_yes rfl ?_ | refine abr_yes (by decide) ?_ | refine abr_no (by decide) ?_ | with_reducible refine abr_same_ne ?_); (conv => whnf))))
      obtain ⟨σe, x6, re⟩ := swap_rw rd x5
      obtain ⟨σf, x10, _⟩ := swap_rw s10 x6
      obtain ⟨σg, w5, xg⟩ := swap_ww x5 wb0
      obtain ⟨σh, w6, _⟩ := swap_rw rd w5
      obtain ⟨σi, w10, _⟩ := swap_rw s10 w6
      refine acall (wBytes iw _ _ _ w10 (by rw [numBits_length]; omega)) ?_
      rintro _ σ_ ⟨rfl, e_⟩
      obtain rfl := e_.symm
      refine ⟨?_, Ext.refl _⟩
      ((conv => whnf); (repeat ((first | with_reducible refine abr_true rfl ?_ | with_reducible refine abr_false rfl ?_ | with_reducible refine abr_yes rfl ?_ | refine abr_yes (by decide) ?_ | refine abr_no (by decide) ?_ | with_reducible refine abr_same_ne ?_); (conv => whnf))))
      refine astr rfl ?_
      ((conv => whnf); (repeat ((first | with_reducible refine abr_true rfl ?_ | with_reducible refine abr_false rfl ?_ | with_reducible refine abr_yes rfl ?_ | refine abr_yes (by decide) ?_ | refine abr_no (by decide) ?_ | with_reducible refine abr_same_ne ?_); (conv => whnf))))
      refine acall (wBytes ix _ _ _ x10 (by rw [numBits_length]; omega)) ?_
      rintro _ σ_ ⟨rfl, e_⟩
      obtain rfl := e_.symm
      refine ⟨?_, Ext.refl _⟩
      ((conv => whnf); (repeat ((first | with_reducible refine abr_true rfl ?_ | with_reducible refine abr_false rfl ?_ | with_reducible refine abr_yes rfl ?_ | refine abr_yes (by decide) ?_ | refine abr_no (by decide) ?_ | with_reducible refine abr_same_ne ?_); (conv => whnf))))
      refine astr rfl ?_
      ((conv => whnf); (repeat ((first | with_reducible refine abr_true rfl ?_ | with_reducible refine abr_false rfl ?_ | with_reducible refine abr_yes rfl ?_ | refine abr_yes (by decide) ?_ | refine abr_no (by decide) ?_ | with_reducible refine abr_same_ne ?_); (conv => whnf))))
      rw [show getVal (unpack b) 0 ((n + m : Nat) : Int) = _ from getVal_ok (by rw [hul]; exact hh), show getVal (unpack b) 0 (n : Int) = _ from getVal_ok (by rw [hul]; exact hi), show getVal (unpack b) n (m : Int) = _ from getVal_ok (by rw [hul]; exact hj)]
      rw [Int.toNat_natCast, Int.toNat_natCast, Int.toNat_natCast, List.drop_zero]
      have hq := val_lt ((unpack b).take n)
      have hu := val_lt (((unpack b).drop n).take m)
      have hlq : ((unpack b).take n).length = n := by rw [List.length_take]; omega
      have hlu : (((unpack b).drop n).take m).length = m := by rw [List.length_take, List.length_drop]; omega
      rw [hlq] at hq
      rw [hlu] at hu
      have hsum : val 0 ((unpack b).take (n + m)) = val 0 ((unpack b).take n) * 2 ^ m + val 0 (((unpack b).drop n).take m) := by
        rw [show (unpack b).take (n + m) = (unpack b).take n ++ ((unpack b).drop n).take m from List.take_add, val_append, val_eq, hlu]
      have hlt : val 0 ((unpack b).take n) * 2 ^ m + val 0 (((unpack b).drop n).take m) < 18446744073709551616 := by
        rw [← hsum]
        refine Nat.lt_of_lt_of_le (val_lt _) (pow_le_64 ?_)
        rw [List.length_take]; omega
      refine ashl_eq (by omega) (shl_u64 _ m (by omega) (by omega)) ?_
      ((conv => whnf); (repeat ((first | with_reducible refine abr_true rfl ?_ | with_reducible refine abr_false rfl ?_ | with_reducible refine abr_yes rfl ?_ | refine abr_yes (by decide) ?_ | refine abr_no (by decide) ?_ | with_reducible refine abr_same_ne ?_); (conv => whnf))))
      refine abits_eq (or_u64 _ _ m hu hlt) ?_
      rw [hsum]
      ((conv => whnf); (repeat ((first | with_reducible refine abr_true rfl ?_ | with_reducible refine abr_false rfl ?_ | with_reducible refine abr_yes rfl ?_ | refine abr_yes (by decide) ?_ | refine abr_no (by decide) ?_ | with_reducible refine abr_same_ne ?_); (conv => whnf))))
      exact aret (VLe.refl _) (((s10.sub.trans rd.sub).trans x5.sub).trans wb0.sub) ⟨congrArg boolv (decide_eq_true rfl), rfl⟩
    · refine abr_yes hh ?_
      ((conv => whnf); (repeat ((first | with_reducible refine abr_true rfl ?_ | with_reducible refine abr_false rfl ?_ | with_reducible refine abr_yes rfl ?_ | refine abr_yes (by decide) ?_ | refine abr_no (by decide) ?_ | with_reducible refine abr_same_ne ?_); (conv => whnf))))
      refine acall (alive01 _) ?_
      rintro _ σ_ ⟨rfl, e_⟩
      obtain rfl := e_.symm
      refine ⟨?_, Ext.refl _⟩
      ((conv => whnf); (repeat ((first | with_reducible refine abr_true rfl ?_ | with_reducible refine abr_false rfl ?_ | with_reducible refine abr_yes rfl ?_ | refine abr_yes (by decide) ?_ | refine abr_no (by decide) ?_ | with_reducible refine abr_same_ne ?_); (conv => whnf))))
      by_cases hi : getCode (8 * b.length) 0 (n : Int) = 0
      · have hat : getAt (8 * b.length) 0 (n : Int) = n := by rw [getAt_ok hi]; omega
        obtain ⟨-, -, hroom⟩ := getCode_ok hi
        have hj : getCode (8 * b.length) n (m : Int) ≠ 0 := by
          unfold getCode at hh ⊢
          rw [if_neg (by omega)] at hh ⊢
          have : ((n + m : Nat) : Int) > ((8 * b.length : Nat) : Int) - ((0 : Nat) : Int) := Classical.byContradiction fun hc => hh (if_neg hc)
          rw [if_pos (by omega)]; decide
        rw [hat]
        refine abr_no (fun h => h hi) ?_
        ((conv => whnf); (repeat ((first | with_reducible refine abr_true rfl ?_ | with_reducible refine abr_false rfl ?_ | with_reducible refine abr_yes rfl ?_ | refine abr_yes (by decide) ?_ | refine abr_no (by decide) ?_ | with_reducible refine abr_same_ne ?_); (conv => whnf))))
        refine aret (VLe.refl _) (((s10.sub.trans rd.sub).trans x5.sub).trans wb0.sub) ⟨congrArg boolv (decide_eq_true hj), rfl⟩
      · refine abr_yes hi ?_
        ((conv => whnf); (repeat ((first | with_reducible refine abr_true rfl ?_ | with_reducible refine abr_false rfl ?_ | with_reducible refine abr_yes rfl ?_ | refine abr_yes (by decide) ?_ | refine abr_no (by decide) ?_ | with_reducible refine abr_same_ne ?_); (conv => whnf))))
        exact fin
  · have h1 : putCode ([] : List Bool).length v ((n + m : Nat) : Int) = 1 := by
      by_cases hbad : putBad v ((n + m : Nat) : Int) = true
      · exact putCode_bad hbad
      · exact absurd (putCode_fine (Bool.eq_false_iff.2 hbad) (by simp; omega)) he
    rw [putBits_no he] at w3
    refine abr_yes he ?_
    ((conv => whnf); (repeat ((first | with_reducible refine abr_true rfl ?_ | with_reducible refine abr_false rfl ?_ | with_reducible refine abr_yes rfl ?_ | refine abr_yes (by decide) ?_ | refine abr_no (by decide) ?_ | with_reducible refine abr_same_ne ?_); (conv => whnf))))
    refine acall (alive01 _) ?_
    rintro _ σ_ ⟨rfl, e_⟩
    obtain rfl := e_.symm
    refine ⟨?_, Ext.refl _⟩
    ((conv => whnf); (repeat ((first | with_reducible refine abr_true rfl ?_ | with_reducible refine abr_false rfl ?_ | with_reducible refine abr_yes rfl ?_ | refine abr_yes (by decide) ?_ | refine abr_no (by decide) ?_ | with_reducible refine abr_same_ne ?_); (conv => whnf))))
    rw [h1]
    ((conv => whnf); (repeat ((first | with_reducible refine abr_true rfl ?_ | with_reducible refine abr_false rfl ?_ | with_reducible refine abr_yes rfl ?_ | refine abr_yes (by decide) ?_ | refine abr_no (by decide) ?_ | with_reducible refine abr_same_ne ?_); (conv => whnf))))
    refine acall (wLen iw _ _ _ w3) ?_
    rintro _ σ_ ⟨rfl, e_⟩
    obtain rfl := e_.symm
    refine ⟨?_, Ext.refl _⟩
    ((conv => whnf); (repeat ((first | with_reducible refine abr_true rfl ?_ | with_reducible refine abr_false rfl ?_ | with_reducible refine abr_yes rfl ?_ | refine abr_yes (by decide) ?_ | refine abr_no (by decide) ?_ | with_reducible refine abr_same_ne ?_); (conv => whnf))))
    exact aret (VLe.refl _) (w3.sub.trans xa.sub) ⟨rfl, rfl⟩
end Go.Proofs.Ytkdbmajkjlnpiaa

