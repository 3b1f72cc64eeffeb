/-
  CheckBursts at the abstract states.
-/
import Derived.Test.YtmgjkfepcejgnaaCburst
namespace Go.Proofs.Ytmgjkfepcejgnaa
set_option linter.unusedVariables false
set_option linter.unusedSimpArgs false
open Go Go.Am

theorem bytes_ok (l : List UInt8) : (l.map byteV).all (okElem 1) = true := by
  rw [List.all_eq_true]; intro x hx; obtain ⟨b, _, rfl⟩ := List.mem_map.1 hx; rfl
theorem bytes_flat (l : List UInt8) : (l.map byteV).flatMap AVal.cells = l.map byteV := by
  induction l with
  | nil => rfl
  | cons x l ih => rw [List.map_cons, List.flatMap_cons, ih]; rfl
theorem bytes_one (l : List UInt8) : ∀ x ∈ l.map byteV, x.cells.length = 1 := by
  intro x hx; obtain ⟨b, _, rfl⟩ := List.mem_map.1 hx; rfl

theorem CloneM (bs : List UInt8) (t : Tok) (σ : AHeap) (hl : bs.length ≤ 140737488355328) : ACalls Try.prog i_slices_Clone_byte_byte [sl t bs] σ fun v σ' => (bs = [] ∧ v = sl .full [] ∧ σ' = σ) ∨ (bs ≠ [] ∧ ∃ r, σ r = none ∧ v = .ms r 1 0 bs.length ∧ σ' = upd σ r (.cells (bs.map byteV))) := by
  refine km_slices_Clone_byte_byte rfl ?_
  (conv => whnf)
  refine anil ?_ ?_
  · (conv => whnf)
    refine abr_false rfl ?_
    (conv => whnf)
    by_cases h0 : bs = []
    · subst h0
      refine aappnew_none (by simp) ?_
      (conv => whnf)
      exact aret_same (.inl ⟨rfl, rfl, rfl⟩)
    · refine aappnew (by simpa using h0) (by simp; omega) (bytes_ok bs) fun r hr => ?_
      rw [bytes_flat, List.length_map]
      (conv => whnf)
      exact aret_same (.inr ⟨h0, r, hr, rfl, rfl⟩)
  · intro h0
    (conv => whnf)
    refine abr_true rfl ?_
    (conv => whnf)
    have : bs = [] := by simpa using h0
    subst this
    exact aret_same (.inl ⟨rfl, rfl, rfl⟩)

theorem CloseM (bs : List UInt8) (t : Tok) (σ : AHeap) (hl : bs.length ≤ 140737488355320) : ACalls Try.prog i_check_Close [sl t bs] σ fun v σ' => ∃ r, σ r = none ∧ v = .ms r 1 0 (bs.length + 2) ∧ σ' = upd σ r (.cells ((bs ++ two (crc 65535#16 bs)).map byteV)) := by
  have hc := (crc 65535#16 bs).isLt
  have htwo : (two (crc 65535#16 bs)).map byteV = [.v (.int .u8 (((crc 65535#16 bs).toNat / 256 : Nat) : Int)), .v (.int .u8 (((crc 65535#16 bs).toNat % 256 : Nat) : Int))] := by
    unfold two
    rw [List.map_cons, List.map_cons, byte_ofNat (by omega), byte_ofNat (by omega)]
    rfl
  refine km_check_Close rfl ?_
  (conv => whnf)
  refine acall (Of bs _ _ (by omega)) ?_
  rintro v σ' ⟨rfl, rfl⟩
  refine ⟨?_, Ext.refl _⟩
  (conv => whnf)
  refine acall (CloneM bs _ _ (by omega)) ?_
  rintro v σ1 (⟨rfl, rfl, rfl⟩ | ⟨h0, r, hr, rfl, rfl⟩)
  · refine ⟨?_, Ext.refl _⟩
    (conv => whnf)
    refine ashr_nat (j := 8) (by decide) ?_
    rw [show 2 ^ 8 = 256 from rfl]
    (conv => whnf)
    refine afit_u8 (by omega) ?_
    (conv => whnf)
    refine afit_eq (wrap_u8_nat _) ?_
    (conv => whnf)
    refine aappnew nofun (by decide) rfl fun r hr => ?_
    (conv => whnf)
    refine aret_same ⟨r, hr, rfl, ?_⟩
    rw [List.nil_append, htwo]; rfl
  · refine ⟨?_, Ext.upd_fresh _ hr⟩
    (conv => whnf)
    refine ashr_nat (j := 8) (by decide) ?_
    rw [show 2 ^ 8 = 256 from rfl]
    (conv => whnf)
    refine afit_u8 (by omega) ?_
    (conv => whnf)
    refine afit_eq (wrap_u8_nat _) ?_
    (conv => whnf)
    refine aappm (upd_same _ _ _) (by simp) (by simp; omega) rfl fun r' hr' => ?_
    rw [del_upd _ _ _ hr]
    have hr2 : σ' r' = none := by
      by_cases e : r' = r
      · subst e; exact hr
      · rw [upd_ne _ _ e] at hr'; exact hr'
    (conv => whnf)
    refine aret_same ⟨r', hr2, rfl, ?_⟩
    rw [List.map_append, htwo]; rfl

theorem and1 {a : Nat} (ha : a < 65536) : bitsOp .and .u16 (a : Int) 1 = ((a % 2 : Nat) : Int) := by
  have := and16 (BitVec.ofNat 16 a) 1#16
  rw [BitVec.toNat_and, BitVec.toNat_ofNat, Nat.mod_eq_of_lt (show a < 2 ^ 16 by omega)] at this
  rw [← Nat.and_one_is_mod]
  exact this
theorem xor8 (x y : UInt8) : bitsOp .xor .u8 (x.toNat : Int) (y.toNat : Int) = ((x ^^^ y).toNat : Int) := by
  have h1 : BitVec.ofInt 8 (x.toNat : Int) = x.toBitVec := by
    apply BitVec.eq_of_toNat_eq
    have := x.toNat_lt
    simp
  have h2 : BitVec.ofInt 8 (y.toNat : Int) = y.toBitVec := by
    apply BitVec.eq_of_toNat_eq
    have := y.toNat_lt
    simp
  show IntKind.u8.wrap ((BitVec.ofInt 8 (x.toNat : Int) ^^^ BitVec.ofInt 8 (y.toNat : Int)).toNat) = _
  rw [h1, h2]; exact wrap_u8 (by omega) (by have := (x.toBitVec ^^^ y.toBitVec).isLt; omega)
theorem mask_nat {k : Nat} : (((128 / 2 ^ k : Nat)) : Int) = ((maskOf k).toNat : Int) := by
  unfold maskOf
  have : 128 / 2 ^ k ≤ 128 := Nat.div_le_self _ _
  rw [UInt8.toNat_ofNat', Nat.mod_eq_of_lt (by omega)]
theorem splice_set {F : List UInt8} {p : Nat} {x : UInt8} (h : p < F.length) : splice (F.map byteV) p [byteV x] = (F.set p x).map byteV := by
  unfold splice
  rw [List.set_eq_take_append_cons_drop, if_pos h]
  simp [List.map_take, List.map_drop]
theorem bit_iff {by' : BitVec 16} {i : Nat} : ((((by'.toNat / 2 ^ i) % 2 : Nat) : Int) = 1) ↔ by'.getLsbD i = true := by
  have : by'.getLsbD i = decide (by'.toNat / 2 ^ i % 2 = 1) := Nat.testBit_eq_decide_div_mod_eq
  rw [this, decide_eq_true_eq]; omega
theorem get_bytesD {bs : List UInt8} {i : Nat} (h : i < bs.length) : (bs.map byteV)[i]? = some (byteV (bs[i]?.getD 0)) := by
  rw [List.getElem?_map, List.getElem?_eq_getElem h]; rfl

set_option maxRecDepth 10000 in
theorem CheckBursts (b : List UInt8) (n : Int) (by' : BitVec 16) (σ : AHeap) (hb : b.length ≤ 140737488355300) : ACalls Try.prog i_bowlinelaw07_CheckBursts [sl .none b, i64v n, u16v by'] σ fun v σ' => v = boolv true := by
  have guard : ∀ σ (Q : AVal → AHeap → Prop), (Q (boolv true) σ) → ACalls Try.prog i_bowlinelaw07_alive [] σ Q := fun σ Q h => acall (alive _) (by rintro v σ' ⟨rfl, rfl⟩; exact h)
  have hby := by'.isLt
  refine k_bowlinelaw07_CheckBursts rfl ?_
  (conv => whnf); (repeat ((first | with_reducible refine abr_true rfl ?_ | with_reducible refine abr_false rfl ?_ | with_reducible refine abr_yes rfl ?_); (conv => whnf)))
  refine acall (CloseM b _ _ (by omega)) ?_
  rintro v σ1 ⟨r, hr, rfl, rfl⟩
  (conv => whnf); (repeat ((first | with_reducible refine abr_true rfl ?_ | with_reducible refine abr_false rfl ?_ | with_reducible refine abr_yes rfl ?_); (conv => whnf)))
  refine abr_dec (fun h => ?_) (fun h => ?_)
  · (conv => whnf); (repeat ((first | with_reducible refine abr_true rfl ?_ | with_reducible refine abr_false rfl ?_ | with_reducible refine abr_yes rfl ?_); (conv => whnf)))
    refine guard _ _ ?_
    (conv => whnf); (repeat ((first | with_reducible refine abr_true rfl ?_ | with_reducible refine abr_false rfl ?_ | with_reducible refine abr_yes rfl ?_); (conv => whnf)))
    refine afit_i64 (by simp; omega) ?_
    (conv => whnf); (repeat ((first | with_reducible refine abr_true rfl ?_ | with_reducible refine abr_false rfl ?_ | with_reducible refine abr_yes rfl ?_); (conv => whnf)))
    exact aret_same (congrArg boolv (decide_eq_true (by simp)))
  rw [List.length_map] at h
  (conv => whnf); (repeat ((first | with_reducible refine abr_true rfl ?_ | with_reducible refine abr_false rfl ?_ | with_reducible refine abr_yes rfl ?_); (conv => whnf)))
  refine afit_i64 (by simp; omega) ?_
  (conv => whnf); (repeat ((first | with_reducible refine abr_true rfl ?_ | with_reducible refine abr_false rfl ?_ | with_reducible refine abr_yes rfl ?_); (conv => whnf)))
  refine abr_no (by simp) ?_
  (conv => whnf); (repeat ((first | with_reducible refine abr_true rfl ?_ | with_reducible refine abr_false rfl ?_ | with_reducible refine abr_yes rfl ?_); (conv => whnf)))
  refine abr_dec (fun h0 => ?_) (fun h0 => ?_)
  · (conv => whnf); (repeat ((first | with_reducible refine abr_true rfl ?_ | with_reducible refine abr_false rfl ?_ | with_reducible refine abr_yes rfl ?_); (conv => whnf)))
    refine guard _ _ ?_
    (conv => whnf); (repeat ((first | with_reducible refine abr_true rfl ?_ | with_reducible refine abr_false rfl ?_ | with_reducible refine abr_yes rfl ?_); (conv => whnf)))
    refine afit_i64 (by simp; omega) ?_
    (conv => whnf); (repeat ((first | with_reducible refine abr_true rfl ?_ | with_reducible refine abr_false rfl ?_ | with_reducible refine abr_yes rfl ?_); (conv => whnf)))
    exact aret_same (congrArg boolv (decide_eq_true (by simp)))
  (conv => whnf); (repeat ((first | with_reducible refine abr_true rfl ?_ | with_reducible refine abr_false rfl ?_ | with_reducible refine abr_yes rfl ?_); (conv => whnf)))
  refine abr_dec (fun h1 => ?_) (fun h1 => ?_)
  · (conv => whnf); (repeat ((first | with_reducible refine abr_true rfl ?_ | with_reducible refine abr_false rfl ?_ | with_reducible refine abr_yes rfl ?_); (conv => whnf)))
    refine guard _ _ ?_
    (conv => whnf); (repeat ((first | with_reducible refine abr_true rfl ?_ | with_reducible refine abr_false rfl ?_ | with_reducible refine abr_yes rfl ?_); (conv => whnf)))
    refine afit_i64 (by simp; omega) ?_
    (conv => whnf); (repeat ((first | with_reducible refine abr_true rfl ?_ | with_reducible refine abr_false rfl ?_ | with_reducible refine abr_yes rfl ?_); (conv => whnf)))
    exact aret_same (congrArg boolv (decide_eq_true (by simp)))
  (conv => whnf); (repeat ((first | with_reducible refine abr_true rfl ?_ | with_reducible refine abr_false rfl ?_ | with_reducible refine abr_yes rfl ?_); (conv => whnf)))
  refine afit_i64 (by omega) ?_
  (conv => whnf); (repeat ((first | with_reducible refine abr_true rfl ?_ | with_reducible refine abr_false rfl ?_ | with_reducible refine abr_yes rfl ?_); (conv => whnf)))
  refine afit_i64 (by omega) ?_
  (conv => whnf); (repeat ((first | with_reducible refine abr_true rfl ?_ | with_reducible refine abr_false rfl ?_ | with_reducible refine abr_yes rfl ?_); (conv => whnf)))
  refine abr_dec (fun h2 => ?_) (fun h2 => ?_)
  · (conv => whnf); (repeat ((first | with_reducible refine abr_true rfl ?_ | with_reducible refine abr_false rfl ?_ | with_reducible refine abr_yes rfl ?_); (conv => whnf)))
    refine guard _ _ ?_
    (conv => whnf); (repeat ((first | with_reducible refine abr_true rfl ?_ | with_reducible refine abr_false rfl ?_ | with_reducible refine abr_yes rfl ?_); (conv => whnf)))
    refine afit_i64 (by simp; omega) ?_
    (conv => whnf); (repeat ((first | with_reducible refine abr_true rfl ?_ | with_reducible refine abr_false rfl ?_ | with_reducible refine abr_yes rfl ?_); (conv => whnf)))
    exact aret_same (congrArg boolv (decide_eq_true (by simp)))
  obtain ⟨m, rfl⟩ := Int.eq_ofNat_of_zero_le (show 0 ≤ n by omega)
  have hm : m + 16 ≤ 8 * (b.length + 2) := by omega
  have hne : by' ≠ 0#16 := fun k => h0 (by rw [k]; rfl)
  have hF : ∀ i, (flips (b ++ two (crc 65535#16 b)) m by' i).length = b.length + 2 := fun i => by rw [flips_length, List.length_append]; rfl
  (conv => whnf); (repeat ((first | with_reducible refine abr_true rfl ?_ | with_reducible refine abr_false rfl ?_ | with_reducible refine abr_yes rfl ?_); (conv => whnf)))
  refine aloop (α := Nat) (fun i => [(s8, i64v i)]) (fun i => upd σ r (.cells ((flips (b ++ two (crc 65535#16 b)) m by' i).map byteV))) (fun i => i ≤ 16) (fun i => 16 - i) 0 (by omega) (Sub.refl _) ?_ ?_
  · (conv => whnf)
    (repeat' first | with_reducible exact EnvLe.refl _ | (refine EnvLe.node ?_ (by first | exact Or.inl rfl | exact Or.inr (Or.inl rfl) | exact Or.inr (Or.inr ⟨nofun, VLe.slice _ _ _⟩)) ?_))
  · intro i hi
    (conv => whnf); (repeat ((first | with_reducible refine abr_true rfl ?_ | with_reducible refine abr_false rfl ?_ | with_reducible refine abr_yes rfl ?_); (conv => whnf)))
    refine abr_dec (fun h3 => ?_) (fun h3 => ?_)
    · have hi' : i < 16 := by omega
      have hdiv : by'.toNat / 2 ^ i < 65536 := Nat.lt_of_le_of_lt (Nat.div_le_self _ _) hby
      (conv => whnf); (repeat ((first | with_reducible refine abr_true rfl ?_ | with_reducible refine abr_false rfl ?_ | with_reducible refine abr_yes rfl ?_); (conv => whnf)))
      refine ashr_nat (show i ≤ 16 by omega) ?_
      (conv => whnf); (repeat ((first | with_reducible refine abr_true rfl ?_ | with_reducible refine abr_false rfl ?_ | with_reducible refine abr_yes rfl ?_); (conv => whnf)))
      refine abits_eq (and1 hdiv) ?_
      (conv => whnf); (repeat ((first | with_reducible refine abr_true rfl ?_ | with_reducible refine abr_false rfl ?_ | with_reducible refine abr_yes rfl ?_); (conv => whnf)))
      refine abr_dec (fun h4 => ?_) (fun h4 => ?_)
      · have hbit := bit_iff.1 h4
        have hp : (m + i) / 8 < b.length + 2 := by omega
        have hoff : 0 + (((m : Int) + (i : Int)) / 8).toNat * 1 = (m + i) / 8 := by omega
        (conv => whnf); (repeat ((first | with_reducible refine abr_true rfl ?_ | with_reducible refine abr_false rfl ?_ | with_reducible refine abr_yes rfl ?_); (conv => whnf)))
        refine afit_i64 (by omega) ?_
        (conv => whnf); (repeat ((first | with_reducible refine abr_true rfl ?_ | with_reducible refine abr_false rfl ?_ | with_reducible refine abr_yes rfl ?_); (conv => whnf)))
        refine adiv_i64 (by omega) (by omega) ?_
        (conv => whnf); (repeat ((first | with_reducible refine abr_true rfl ?_ | with_reducible refine abr_false rfl ?_ | with_reducible refine abr_yes rfl ?_); (conv => whnf)))
        refine afit_i64 (by omega) ?_
        (conv => whnf); (repeat ((first | with_reducible refine abr_true rfl ?_ | with_reducible refine abr_false rfl ?_ | with_reducible refine abr_yes rfl ?_); (conv => whnf)))
        refine adiv_i64 (by omega) (by omega) ?_
        (conv => whnf); (repeat ((first | with_reducible refine abr_true rfl ?_ | with_reducible refine abr_false rfl ?_ | with_reducible refine abr_yes rfl ?_); (conv => whnf)))
        refine aidx (by omega) (by omega) ?_
        rw [hoff]
        (conv => whnf); (repeat ((first | with_reducible refine abr_true rfl ?_ | with_reducible refine abr_false rfl ?_ | with_reducible refine abr_yes rfl ?_); (conv => whnf)))
        refine aload (upd_same _ _ _) (get_bytesD (by rw [hF]; exact hp)) ?_
        (conv => whnf); (repeat ((first | with_reducible refine abr_true rfl ?_ | with_reducible refine abr_false rfl ?_ | with_reducible refine abr_yes rfl ?_); (conv => whnf)))
        refine afit_i64 (by omega) ?_
        (conv => whnf); (repeat ((first | with_reducible refine abr_true rfl ?_ | with_reducible refine abr_false rfl ?_ | with_reducible refine abr_yes rfl ?_); (conv => whnf)))
        refine arem_nonneg (by omega) (by omega) ?_
        rw [show ((m : Int) + (i : Int)) % 8 = (((m + i) % 8 : Nat) : Int) by omega]
        (conv => whnf); (repeat ((first | with_reducible refine abr_true rfl ?_ | with_reducible refine abr_false rfl ?_ | with_reducible refine abr_yes rfl ?_); (conv => whnf)))
        refine ashr_nat (n := 128) (j := (m + i) % 8) (show (m + i) % 8 ≤ 8 by omega) ?_
        rw [mask_nat]
        (conv => whnf); (repeat ((first | with_reducible refine abr_true rfl ?_ | with_reducible refine abr_false rfl ?_ | with_reducible refine abr_yes rfl ?_); (conv => whnf)))
        refine abits_eq (xor8 _ _) ?_
        (conv => whnf); (repeat ((first | with_reducible refine abr_true rfl ?_ | with_reducible refine abr_false rfl ?_ | with_reducible refine abr_yes rfl ?_); (conv => whnf)))
        refine aidx (by omega) (by omega) ?_
        rw [hoff]
        (conv => whnf); (repeat ((first | with_reducible refine abr_true rfl ?_ | with_reducible refine abr_false rfl ?_ | with_reducible refine abr_yes rfl ?_); (conv => whnf)))
        refine astore (upd_same _ _ _) (by rw [List.length_map, hF]; exact hp) rfl (splice_set (by rw [hF]; exact hp)) ?_
        rw [upd_upd]
        (conv => whnf); (repeat ((first | with_reducible refine abr_true rfl ?_ | with_reducible refine abr_false rfl ?_ | with_reducible refine abr_yes rfl ?_); (conv => whnf)))
        refine afit_i64 (by omega) ?_
        (conv => whnf); (repeat ((first | with_reducible refine abr_true rfl ?_ | with_reducible refine abr_false rfl ?_ | with_reducible refine abr_yes rfl ?_); (conv => whnf)))
        refine ⟨i + 1, by omega, by omega, ?_, ?_⟩
        · have : flips (b ++ two (crc 65535#16 b)) m by' (i + 1) = flip (flips (b ++ two (crc 65535#16 b)) m by' i) (m + i) := by
            show (if _ then _ else _) = _
            rw [if_pos hbit]
          rw [this]; exact Sub.refl _
        · (conv => whnf)
          (repeat' first | with_reducible exact EnvLe.refl _ | (refine EnvLe.node ?_ (by first | exact Or.inl rfl | exact Or.inr (Or.inl rfl) | exact Or.inr (Or.inr ⟨nofun, VLe.slice _ _ _⟩)) ?_))
      · (conv => whnf); (repeat ((first | with_reducible refine abr_true rfl ?_ | with_reducible refine abr_false rfl ?_ | with_reducible refine abr_yes rfl ?_); (conv => whnf)))
        refine afit_i64 (by omega) ?_
        (conv => whnf); (repeat ((first | with_reducible refine abr_true rfl ?_ | with_reducible refine abr_false rfl ?_ | with_reducible refine abr_yes rfl ?_); (conv => whnf)))
        refine ⟨i + 1, by omega, by omega, ?_, ?_⟩
        · have : flips (b ++ two (crc 65535#16 b)) m by' (i + 1) = flips (b ++ two (crc 65535#16 b)) m by' i := by
            show (if _ then _ else _) = _
            rw [if_neg (fun k => h4 (bit_iff.2 k))]
          rw [this]; exact Sub.refl _
        · (conv => whnf)
          (repeat' first | with_reducible exact EnvLe.refl _ | (refine EnvLe.node ?_ (by first | exact Or.inl rfl | exact Or.inr (Or.inl rfl) | exact Or.inr (Or.inr ⟨nofun, VLe.slice _ _ _⟩)) ?_))
    · have hi' : i = 16 := by omega
      subst hi'
      (conv => whnf); (repeat ((first | with_reducible refine abr_true rfl ?_ | with_reducible refine abr_false rfl ?_ | with_reducible refine abr_yes rfl ?_); (conv => whnf)))
      have key := acall_still (P := Try.prog) (f := i_check_Open) (r := r) (s := 1) (xs := (flips (b ++ two (crc 65535#16 b)) m by' 16).map byteV) (σ := upd σ r (.cells ((flips (b ++ two (crc 65535#16 b)) m by' 16).map byteV))) (by rw [bytes_flat]; exact upd_same _ _ _) (bytes_one _) (Open _ .none _ (by rw [hF]; omega))
      rw [List.length_map, hF] at key
      refine acall key ?_
      rintro v σ' ⟨rfl, rfl⟩
      rw [burst hne hm, del_upd _ _ _ hr]
      (conv => whnf); (repeat ((first | with_reducible refine abr_true rfl ?_ | with_reducible refine abr_false rfl ?_ | with_reducible refine abr_yes rfl ?_); (conv => whnf)))
      refine guard _ _ ?_
      (conv => whnf); (repeat ((first | with_reducible refine abr_true rfl ?_ | with_reducible refine abr_false rfl ?_ | with_reducible refine abr_yes rfl ?_); (conv => whnf)))
      exact aret_same rfl
end Go.Proofs.Ytmgjkfepcejgnaa
