/-
  What the functions of the package of bits do.
-/
import Derived.Test.YtndphnojmpeogaaIrbits
import Derived.Test.YtndphnojmpeogaaCpack
namespace Go.Proofs.Ytndphnojmpeogaa
set_option linter.unusedVariables false
set_option linter.unusedSimpArgs false
open Go Go.Am

/-- A writer at an object, with its bits; the heap without it. -/
def Wr (σ : AHeap) (id : Nat) (bs : List Bool) (σb : AHeap) : Prop :=
  σb id = none ∧ ((bs = [] ∧ σ = upd σb id (.cells [.slice 1 [] .full, i64v bs.length])) ∨
    (bs ≠ [] ∧ ∃ r, r ≠ id ∧ σb r = none ∧ σ = upd (upd σb r (.cells ((pack bs).map byteV))) id (.cells [.ms r 1 0 (pack bs).length, i64v bs.length])))

theorem or8 (x : UInt8) (y : Nat) (hy : y < 256) : bitsOp .or .u8 (x.toNat : Int) (y : Int) = ((x ||| UInt8.ofNat y).toNat : Int) := by
  have h1 : BitVec.ofInt 8 (x.toNat : Int) = x.toBitVec := by
    apply BitVec.eq_of_toNat_eq
    have := x.toNat_lt
    simp
  have h2 : BitVec.ofInt 8 (y : Int) = (UInt8.ofNat y).toBitVec := by
    apply BitVec.eq_of_toNat_eq
    simp
  show IntKind.u8.wrap ((BitVec.ofInt 8 (x.toNat : Int) ||| BitVec.ofInt 8 (y : Int)).toNat) = _
  rw [h1, h2]; exact wrap_u8 (by omega) (by have := (x.toBitVec ||| (UInt8.ofNat y).toBitVec).isLt; omega)

theorem bit_lt (b : Bool) {k : Nat} (hk : k ≤ 7) : b.toNat * 2 ^ k < 256 := by
  have h1 : b.toNat ≤ 1 := by cases b <;> decide
  have h2 : 2 ^ k ≤ 2 ^ 7 := Nat.pow_le_pow_right (by omega) hk
  calc b.toNat * 2 ^ k ≤ 1 * 2 ^ 7 := Nat.mul_le_mul h1 h2
    _ < 256 := by decide
theorem shl_bit (b : Bool) {k : Nat} (hk : k ≤ 7) : IntKind.u8.wrap ((b.toNat : Int) * 2 ^ (min ((k : Nat) : Int).toNat IntKind.u8.bits)) = ((b.toNat * 2 ^ k : Nat) : Int) := by
  rw [Int.toNat_natCast, Nat.min_eq_left (show k ≤ IntKind.u8.bits from Nat.le_trans hk (by decide))]
  have := bit_lt b hk
  have e : (b.toNat : Int) * 2 ^ k = ((b.toNat * 2 ^ k : Nat) : Int) := by simp
  rw [e]; exact wrap_u8 (by omega) (by omega)

set_option maxRecDepth 10000 in
theorem one (id : Nat) (bs : List Bool) (b : Bool) (σ σb : AHeap) (h : Wr σ id bs σb) (hl : bs.length ≤ 70000) : ACalls Try.prog i_bits_Writer_one [.ptr id 0, u8v b.toNat] σ fun v σ' => v = .tup [] ∧ Wr σ' id (bs ++ [b]) σb := by
  obtain ⟨hid, h⟩ := h
  have hgl := grow_length bs
  refine km_bits_Writer_one rfl ?_
  ((conv => whnf); (repeat ((first | with_reducible refine abr_true rfl ?_ | with_reducible refine abr_false rfl ?_ | with_reducible refine abr_yes rfl ?_ | refine abr_yes (by decide) ?_ | refine abr_no (by decide) ?_ | with_reducible refine abr_same_ne ?_); (conv => whnf))))
  rcases h with ⟨hnil, rfl⟩ | ⟨hne, r, hri, hr, rfl⟩
  · refine aload (upd_same _ _ _) rfl ?_
    ((conv => whnf); (repeat ((first | with_reducible refine abr_true rfl ?_ | with_reducible refine abr_false rfl ?_ | with_reducible refine abr_yes rfl ?_ | refine abr_yes (by decide) ?_ | refine abr_no (by decide) ?_ | with_reducible refine abr_same_ne ?_); (conv => whnf))))
    refine arem_nonneg (by omega) (by omega) ?_
    ((conv => whnf); (repeat ((first | with_reducible refine abr_true rfl ?_ | with_reducible refine abr_false rfl ?_ | with_reducible refine abr_yes rfl ?_ | refine abr_yes (by decide) ?_ | refine abr_no (by decide) ?_ | with_reducible refine abr_same_ne ?_); (conv => whnf))))
    refine abr_yes (by rw [hnil]; rfl) ?_
    ((conv => whnf); (repeat ((first | with_reducible refine abr_true rfl ?_ | with_reducible refine abr_false rfl ?_ | with_reducible refine abr_yes rfl ?_ | refine abr_yes (by decide) ?_ | refine abr_no (by decide) ?_ | with_reducible refine abr_same_ne ?_); (conv => whnf))))
    refine aload (upd_same _ _ _) rfl ?_
    ((conv => whnf); (repeat ((first | with_reducible refine abr_true rfl ?_ | with_reducible refine abr_false rfl ?_ | with_reducible refine abr_yes rfl ?_ | refine abr_yes (by decide) ?_ | refine abr_no (by decide) ?_ | with_reducible refine abr_same_ne ?_); (conv => whnf))))
    refine aappnew nofun (by decide) rfl fun r hr0 => ?_
    have hri : r ≠ id := fun e => by subst e; rw [upd_same] at hr0; cases hr0
    have hr : σb r = none := by rw [upd_ne _ _ hri] at hr0; exact hr0
    have hg : grow bs = [0] := by rw [hnil]; rfl
    have hgm : List.flatMap AVal.cells [AVal.v (Value.int IntKind.u8 0)] = (grow bs).map byteV := by rw [hg]; rfl
    have hgl2 : [AVal.v (Value.int IntKind.u8 0)].length = (grow bs).length := by rw [hg]; rfl
    rw [hgm, hgl2]
    ((conv => whnf); (repeat ((first | with_reducible refine abr_true rfl ?_ | with_reducible refine abr_false rfl ?_ | with_reducible refine abr_yes rfl ?_ | refine abr_yes (by decide) ?_ | refine abr_no (by decide) ?_ | with_reducible refine abr_same_ne ?_); (conv => whnf))))
    refine astore (xs := [.ms r 1 0 (grow bs).length]) (l := [.ms r 1 0 (grow bs).length, i64v bs.length]) (by rw [upd_ne _ _ (Ne.symm hri)]; exact upd_same _ _ _) (Nat.le_of_ble_eq_true rfl) rfl rfl ?_
    rw [upd_comm _ _ _ hri, upd_upd, upd_comm _ _ _ (Ne.symm hri)]
    ((conv => whnf); (repeat ((first | with_reducible refine abr_true rfl ?_ | with_reducible refine abr_false rfl ?_ | with_reducible refine abr_yes rfl ?_ | refine abr_yes (by decide) ?_ | refine abr_no (by decide) ?_ | with_reducible refine abr_same_ne ?_); (conv => whnf))))
    refine aload (upd_same _ _ _) rfl ?_
    ((conv => whnf); (repeat ((first | with_reducible refine abr_true rfl ?_ | with_reducible refine abr_false rfl ?_ | with_reducible refine abr_yes rfl ?_ | refine abr_yes (by decide) ?_ | refine abr_no (by decide) ?_ | with_reducible refine abr_same_ne ?_); (conv => whnf))))
    refine aload (upd_same _ _ _) rfl ?_
    ((conv => whnf); (repeat ((first | with_reducible refine abr_true rfl ?_ | with_reducible refine abr_false rfl ?_ | with_reducible refine abr_yes rfl ?_ | refine abr_yes (by decide) ?_ | refine abr_no (by decide) ?_ | with_reducible refine abr_same_ne ?_); (conv => whnf))))
    refine adiv_i64 (by omega) (by omega) ?_
    ((conv => whnf); (repeat ((first | with_reducible refine abr_true rfl ?_ | with_reducible refine abr_false rfl ?_ | with_reducible refine abr_yes rfl ?_ | refine abr_yes (by decide) ?_ | refine abr_no (by decide) ?_ | with_reducible refine abr_same_ne ?_); (conv => whnf))))
    refine aidx (by omega) (by omega) ?_
    rw [show 0 + (((bs.length : Nat) : Int) / 8).toNat * 1 = bs.length / 8 by omega]
    ((conv => whnf); (repeat ((first | with_reducible refine abr_true rfl ?_ | with_reducible refine abr_false rfl ?_ | with_reducible refine abr_yes rfl ?_ | refine abr_yes (by decide) ?_ | refine abr_no (by decide) ?_ | with_reducible refine abr_same_ne ?_); (conv => whnf))))
    refine aload (cs := (grow bs).map byteV) (by rw [upd_ne _ _ hri]; exact upd_same _ _ _) (by rw [List.getElem?_map, grow_get bs _ (by omega)]; rfl) ?_
    ((conv => whnf); (repeat ((first | with_reducible refine abr_true rfl ?_ | with_reducible refine abr_false rfl ?_ | with_reducible refine abr_yes rfl ?_ | refine abr_yes (by decide) ?_ | refine abr_no (by decide) ?_ | with_reducible refine abr_same_ne ?_); (conv => whnf))))
    refine aload (upd_same _ _ _) rfl ?_
    ((conv => whnf); (repeat ((first | with_reducible refine abr_true rfl ?_ | with_reducible refine abr_false rfl ?_ | with_reducible refine abr_yes rfl ?_ | refine abr_yes (by decide) ?_ | refine abr_no (by decide) ?_ | with_reducible refine abr_same_ne ?_); (conv => whnf))))
    refine arem_nonneg (by omega) (by omega) ?_
    rw [show (((bs.length : Nat) : Int) % 8) = ((bs.length % 8 : Nat) : Int) by omega]
    ((conv => whnf); (repeat ((first | with_reducible refine abr_true rfl ?_ | with_reducible refine abr_false rfl ?_ | with_reducible refine abr_yes rfl ?_ | refine abr_yes (by decide) ?_ | refine abr_no (by decide) ?_ | with_reducible refine abr_same_ne ?_); (conv => whnf))))
    refine afit_i64 (by omega) ?_
    rw [show (7 : Int) - ((bs.length % 8 : Nat) : Int) = ((7 - bs.length % 8 : Nat) : Int) by omega]
    ((conv => whnf); (repeat ((first | with_reducible refine abr_true rfl ?_ | with_reducible refine abr_false rfl ?_ | with_reducible refine abr_yes rfl ?_ | refine abr_yes (by decide) ?_ | refine abr_no (by decide) ?_ | with_reducible refine abr_same_ne ?_); (conv => whnf))))
    refine ashl_eq (m := ((b.toNat * 2 ^ (7 - bs.length % 8) : Nat) : Int)) (by omega) (shl_bit b (by omega)) ?_
    ((conv => whnf); (repeat ((first | with_reducible refine abr_true rfl ?_ | with_reducible refine abr_false rfl ?_ | with_reducible refine abr_yes rfl ?_ | refine abr_yes (by decide) ?_ | refine abr_no (by decide) ?_ | with_reducible refine abr_same_ne ?_); (conv => whnf))))
    refine abits_eq (or8 _ _ (bit_lt b (by omega))) ?_
    ((conv => whnf); (repeat ((first | with_reducible refine abr_true rfl ?_ | with_reducible refine abr_false rfl ?_ | with_reducible refine abr_yes rfl ?_ | refine abr_yes (by decide) ?_ | refine abr_no (by decide) ?_ | with_reducible refine abr_same_ne ?_); (conv => whnf))))
    refine aidx (by omega) (by omega) ?_
    rw [show 0 + (((bs.length : Nat) : Int) / 8).toNat * 1 = bs.length / 8 by omega]
    ((conv => whnf); (repeat ((first | with_reducible refine abr_true rfl ?_ | with_reducible refine abr_false rfl ?_ | with_reducible refine abr_yes rfl ?_ | refine abr_yes (by decide) ?_ | refine abr_no (by decide) ?_ | with_reducible refine abr_same_ne ?_); (conv => whnf))))
    refine astore (by rw [upd_ne _ _ hri]; exact upd_same _ _ _) (by rw [List.length_map, hgl]; show bs.length / 8 + 1 ≤ _; omega) rfl (splice_set (x := orBit (byteAt bs (bs.length / 8)) b (bs.length % 8)) (by rw [hgl]; omega)) ?_
    rw [← pack_snoc, upd_comm _ _ _ (Ne.symm hri), upd_upd]
    ((conv => whnf); (repeat ((first | with_reducible refine abr_true rfl ?_ | with_reducible refine abr_false rfl ?_ | with_reducible refine abr_yes rfl ?_ | refine abr_yes (by decide) ?_ | refine abr_no (by decide) ?_ | with_reducible refine abr_same_ne ?_); (conv => whnf))))
    refine aload (upd_same _ _ _) rfl ?_
    ((conv => whnf); (repeat ((first | with_reducible refine abr_true rfl ?_ | with_reducible refine abr_false rfl ?_ | with_reducible refine abr_yes rfl ?_ | refine abr_yes (by decide) ?_ | refine abr_no (by decide) ?_ | with_reducible refine abr_same_ne ?_); (conv => whnf))))
    refine afit_i64 (by omega) ?_
    ((conv => whnf); (repeat ((first | with_reducible refine abr_true rfl ?_ | with_reducible refine abr_false rfl ?_ | with_reducible refine abr_yes rfl ?_ | refine abr_yes (by decide) ?_ | refine abr_no (by decide) ?_ | with_reducible refine abr_same_ne ?_); (conv => whnf))))
    refine astore (l := [.ms r 1 0 (grow bs).length, i64v (((bs.length : Nat) : Int) + 1)]) (upd_same _ _ _) (Nat.le_of_ble_eq_true rfl) rfl rfl ?_
    rw [upd_upd]
    ((conv => whnf); (repeat ((first | with_reducible refine abr_true rfl ?_ | with_reducible refine abr_false rfl ?_ | with_reducible refine abr_yes rfl ?_ | refine abr_yes (by decide) ?_ | refine abr_no (by decide) ?_ | with_reducible refine abr_same_ne ?_); (conv => whnf))))
    refine aret_same ⟨rfl, hid, .inr ⟨by simp, r, hri, hr, ?_⟩⟩
    have e1 : (pack (bs ++ [b])).length = (grow bs).length := by rw [hgl, pack_length, List.length_append]; show (bs.length + 1 + 7) / 8 = _; omega
    rw [e1, List.length_append]
    rfl
  · refine aload (upd_same _ _ _) rfl ?_
    ((conv => whnf); (repeat ((first | with_reducible refine abr_true rfl ?_ | with_reducible refine abr_false rfl ?_ | with_reducible refine abr_yes rfl ?_ | refine abr_yes (by decide) ?_ | refine abr_no (by decide) ?_ | with_reducible refine abr_same_ne ?_); (conv => whnf))))
    refine arem_nonneg (by omega) (by omega) ?_
    ((conv => whnf); (repeat ((first | with_reducible refine abr_true rfl ?_ | with_reducible refine abr_false rfl ?_ | with_reducible refine abr_yes rfl ?_ | refine abr_yes (by decide) ?_ | refine abr_no (by decide) ?_ | with_reducible refine abr_same_ne ?_); (conv => whnf))))
    refine abr_dec (fun h8 => ?_) (fun h8 => ?_)
    · ((conv => whnf); (repeat ((first | with_reducible refine abr_true rfl ?_ | with_reducible refine abr_false rfl ?_ | with_reducible refine abr_yes rfl ?_ | refine abr_yes (by decide) ?_ | refine abr_no (by decide) ?_ | with_reducible refine abr_same_ne ?_); (conv => whnf))))
      refine aload (upd_same _ _ _) rfl ?_
      ((conv => whnf); (repeat ((first | with_reducible refine abr_true rfl ?_ | with_reducible refine abr_false rfl ?_ | with_reducible refine abr_yes rfl ?_ | refine abr_yes (by decide) ?_ | refine abr_no (by decide) ?_ | with_reducible refine abr_same_ne ?_); (conv => whnf))))
      refine aappm (cs := (pack bs).map byteV) (by rw [upd_ne _ _ hri]; exact upd_same _ _ _) (by simp) (by rw [pack_length]; show ((bs.length + 7) / 8 + 1) * 1 ≤ _; omega) rfl fun r2 hr2 => ?_
      have hr2i : r2 ≠ id := fun e => by subst e; rw [upd_same] at hr2; cases hr2
      have hr2b : σb r2 = none := by
        rw [upd_ne _ _ hr2i] at hr2
        by_cases e : r2 = r
        · subst e; exact hr
        · rw [upd_ne _ _ e] at hr2; exact hr2
      have hg : pack bs ++ [0] = grow bs := by unfold grow; rw [if_pos (by omega)]
      have hgm : (pack bs).map byteV ++ List.flatMap AVal.cells [AVal.v (Value.int IntKind.u8 0)] = (grow bs).map byteV := by rw [← hg, List.map_append]; rfl
      have hgl2 : (pack bs).length + [AVal.v (Value.int IntKind.u8 0)].length = (grow bs).length := by rw [← hg, List.length_append]; rfl
      rw [hgm, hgl2, del_upd_comm _ _ (Ne.symm hri), del_upd _ _ _ hr]
      ((conv => whnf); (repeat ((first | with_reducible refine abr_true rfl ?_ | with_reducible refine abr_false rfl ?_ | with_reducible refine abr_yes rfl ?_ | refine abr_yes (by decide) ?_ | refine abr_no (by decide) ?_ | with_reducible refine abr_same_ne ?_); (conv => whnf))))
      refine astore (xs := [.ms r2 1 0 (grow bs).length]) (l := [.ms r2 1 0 (grow bs).length, i64v bs.length]) (by rw [upd_ne _ _ (Ne.symm hr2i)]; exact upd_same _ _ _) (Nat.le_of_ble_eq_true rfl) rfl rfl ?_
      rw [upd_comm _ _ _ hr2i, upd_upd, upd_comm _ _ _ (Ne.symm hr2i)]
      clear hr hri
      have hri := hr2i
      have hr := hr2b
      ((conv => whnf); (repeat ((first | with_reducible refine abr_true rfl ?_ | with_reducible refine abr_false rfl ?_ | with_reducible refine abr_yes rfl ?_ | refine abr_yes (by decide) ?_ | refine abr_no (by decide) ?_ | with_reducible refine abr_same_ne ?_); (conv => whnf))))
      refine aload (upd_same _ _ _) rfl ?_
      ((conv => whnf); (repeat ((first | with_reducible refine abr_true rfl ?_ | with_reducible refine abr_false rfl ?_ | with_reducible refine abr_yes rfl ?_ | refine abr_yes (by decide) ?_ | refine abr_no (by decide) ?_ | with_reducible refine abr_same_ne ?_); (conv => whnf))))
      refine aload (upd_same _ _ _) rfl ?_
      ((conv => whnf); (repeat ((first | with_reducible refine abr_true rfl ?_ | with_reducible refine abr_false rfl ?_ | with_reducible refine abr_yes rfl ?_ | refine abr_yes (by decide) ?_ | refine abr_no (by decide) ?_ | with_reducible refine abr_same_ne ?_); (conv => whnf))))
      refine adiv_i64 (by omega) (by omega) ?_
      ((conv => whnf); (repeat ((first | with_reducible refine abr_true rfl ?_ | with_reducible refine abr_false rfl ?_ | with_reducible refine abr_yes rfl ?_ | refine abr_yes (by decide) ?_ | refine abr_no (by decide) ?_ | with_reducible refine abr_same_ne ?_); (conv => whnf))))
      refine aidx (by omega) (by omega) ?_
      rw [show 0 + (((bs.length : Nat) : Int) / 8).toNat * 1 = bs.length / 8 by omega]
      ((conv => whnf); (repeat ((first | with_reducible refine abr_true rfl ?_ | with_reducible refine abr_false rfl ?_ | with_reducible refine abr_yes rfl ?_ | refine abr_yes (by decide) ?_ | refine abr_no (by decide) ?_ | with_reducible refine abr_same_ne ?_); (conv => whnf))))
      refine aload (cs := (grow bs).map byteV) (by rw [upd_ne _ _ hri]; exact upd_same _ _ _) (by rw [List.getElem?_map, grow_get bs _ (by omega)]; rfl) ?_
      ((conv => whnf); (repeat ((first | with_reducible refine abr_true rfl ?_ | with_reducible refine abr_false rfl ?_ | with_reducible refine abr_yes rfl ?_ | refine abr_yes (by decide) ?_ | refine abr_no (by decide) ?_ | with_reducible refine abr_same_ne ?_); (conv => whnf))))
      refine aload (upd_same _ _ _) rfl ?_
      ((conv => whnf); (repeat ((first | with_reducible refine abr_true rfl ?_ | with_reducible refine abr_false rfl ?_ | with_reducible refine abr_yes rfl ?_ | refine abr_yes (by decide) ?_ | refine abr_no (by decide) ?_ | with_reducible refine abr_same_ne ?_); (conv => whnf))))
      refine arem_nonneg (by omega) (by omega) ?_
      rw [show (((bs.length : Nat) : Int) % 8) = ((bs.length % 8 : Nat) : Int) by omega]
      ((conv => whnf); (repeat ((first | with_reducible refine abr_true rfl ?_ | with_reducible refine abr_false rfl ?_ | with_reducible refine abr_yes rfl ?_ | refine abr_yes (by decide) ?_ | refine abr_no (by decide) ?_ | with_reducible refine abr_same_ne ?_); (conv => whnf))))
      refine afit_i64 (by omega) ?_
      rw [show (7 : Int) - ((bs.length % 8 : Nat) : Int) = ((7 - bs.length % 8 : Nat) : Int) by omega]
      ((conv => whnf); (repeat ((first | with_reducible refine abr_true rfl ?_ | with_reducible refine abr_false rfl ?_ | with_reducible refine abr_yes rfl ?_ | refine abr_yes (by decide) ?_ | refine abr_no (by decide) ?_ | with_reducible refine abr_same_ne ?_); (conv => whnf))))
      refine ashl_eq (m := ((b.toNat * 2 ^ (7 - bs.length % 8) : Nat) : Int)) (by omega) (shl_bit b (by omega)) ?_
      ((conv => whnf); (repeat ((first | with_reducible refine abr_true rfl ?_ | with_reducible refine abr_false rfl ?_ | with_reducible refine abr_yes rfl ?_ | refine abr_yes (by decide) ?_ | refine abr_no (by decide) ?_ | with_reducible refine abr_same_ne ?_); (conv => whnf))))
      refine abits_eq (or8 _ _ (bit_lt b (by omega))) ?_
      ((conv => whnf); (repeat ((first | with_reducible refine abr_true rfl ?_ | with_reducible refine abr_false rfl ?_ | with_reducible refine abr_yes rfl ?_ | refine abr_yes (by decide) ?_ | refine abr_no (by decide) ?_ | with_reducible refine abr_same_ne ?_); (conv => whnf))))
      refine aidx (by omega) (by omega) ?_
      rw [show 0 + (((bs.length : Nat) : Int) / 8).toNat * 1 = bs.length / 8 by omega]
      ((conv => whnf); (repeat ((first | with_reducible refine abr_true rfl ?_ | with_reducible refine abr_false rfl ?_ | with_reducible refine abr_yes rfl ?_ | refine abr_yes (by decide) ?_ | refine abr_no (by decide) ?_ | with_reducible refine abr_same_ne ?_); (conv => whnf))))
      refine astore (by rw [upd_ne _ _ hri]; exact upd_same _ _ _) (by rw [List.length_map, hgl]; show bs.length / 8 + 1 ≤ _; omega) rfl (splice_set (x := orBit (byteAt bs (bs.length / 8)) b (bs.length % 8)) (by rw [hgl]; omega)) ?_
      rw [← pack_snoc, upd_comm _ _ _ (Ne.symm hri), upd_upd]
      ((conv => whnf); (repeat ((first | with_reducible refine abr_true rfl ?_ | with_reducible refine abr_false rfl ?_ | with_reducible refine abr_yes rfl ?_ | refine abr_yes (by decide) ?_ | refine abr_no (by decide) ?_ | with_reducible refine abr_same_ne ?_); (conv => whnf))))
      refine aload (upd_same _ _ _) rfl ?_
      ((conv => whnf); (repeat ((first | with_reducible refine abr_true rfl ?_ | with_reducible refine abr_false rfl ?_ | with_reducible refine abr_yes rfl ?_ | refine abr_yes (by decide) ?_ | refine abr_no (by decide) ?_ | with_reducible refine abr_same_ne ?_); (conv => whnf))))
      refine afit_i64 (by omega) ?_
      ((conv => whnf); (repeat ((first | with_reducible refine abr_true rfl ?_ | with_reducible refine abr_false rfl ?_ | with_reducible refine abr_yes rfl ?_ | refine abr_yes (by decide) ?_ | refine abr_no (by decide) ?_ | with_reducible refine abr_same_ne ?_); (conv => whnf))))
      refine astore (l := [.ms r2 1 0 (grow bs).length, i64v (((bs.length : Nat) : Int) + 1)]) (upd_same _ _ _) (Nat.le_of_ble_eq_true rfl) rfl rfl ?_
      rw [upd_upd]
      ((conv => whnf); (repeat ((first | with_reducible refine abr_true rfl ?_ | with_reducible refine abr_false rfl ?_ | with_reducible refine abr_yes rfl ?_ | refine abr_yes (by decide) ?_ | refine abr_no (by decide) ?_ | with_reducible refine abr_same_ne ?_); (conv => whnf))))
      refine aret_same ⟨rfl, hid, .inr ⟨by simp, r2, hri, hr, ?_⟩⟩
      have e1 : (pack (bs ++ [b])).length = (grow bs).length := by rw [hgl, pack_length, List.length_append]; show (bs.length + 1 + 7) / 8 = _; omega
      rw [e1, List.length_append]
      rfl
    · have hg : pack bs = grow bs := by unfold grow; rw [if_neg (by omega)]
      rw [hg]
      ((conv => whnf); (repeat ((first | with_reducible refine abr_true rfl ?_ | with_reducible refine abr_false rfl ?_ | with_reducible refine abr_yes rfl ?_ | refine abr_yes (by decide) ?_ | refine abr_no (by decide) ?_ | with_reducible refine abr_same_ne ?_); (conv => whnf))))
      refine aload (upd_same _ _ _) rfl ?_
      ((conv => whnf); (repeat ((first | with_reducible refine abr_true rfl ?_ | with_reducible refine abr_false rfl ?_ | with_reducible refine abr_yes rfl ?_ | refine abr_yes (by decide) ?_ | refine abr_no (by decide) ?_ | with_reducible refine abr_same_ne ?_); (conv => whnf))))
      refine aload (upd_same _ _ _) rfl ?_
      ((conv => whnf); (repeat ((first | with_reducible refine abr_true rfl ?_ | with_reducible refine abr_false rfl ?_ | with_reducible refine abr_yes rfl ?_ | refine abr_yes (by decide) ?_ | refine abr_no (by decide) ?_ | with_reducible refine abr_same_ne ?_); (conv => whnf))))
      refine adiv_i64 (by omega) (by omega) ?_
      ((conv => whnf); (repeat ((first | with_reducible refine abr_true rfl ?_ | with_reducible refine abr_false rfl ?_ | with_reducible refine abr_yes rfl ?_ | refine abr_yes (by decide) ?_ | refine abr_no (by decide) ?_ | with_reducible refine abr_same_ne ?_); (conv => whnf))))
      refine aidx (by omega) (by omega) ?_
      rw [show 0 + (((bs.length : Nat) : Int) / 8).toNat * 1 = bs.length / 8 by omega]
      ((conv => whnf); (repeat ((first | with_reducible refine abr_true rfl ?_ | with_reducible refine abr_false rfl ?_ | with_reducible refine abr_yes rfl ?_ | refine abr_yes (by decide) ?_ | refine abr_no (by decide) ?_ | with_reducible refine abr_same_ne ?_); (conv => whnf))))
      refine aload (cs := (grow bs).map byteV) (by rw [upd_ne _ _ hri]; exact upd_same _ _ _) (by rw [List.getElem?_map, grow_get bs _ (by omega)]; rfl) ?_
      ((conv => whnf); (repeat ((first | with_reducible refine abr_true rfl ?_ | with_reducible refine abr_false rfl ?_ | with_reducible refine abr_yes rfl ?_ | refine abr_yes (by decide) ?_ | refine abr_no (by decide) ?_ | with_reducible refine abr_same_ne ?_); (conv => whnf))))
      refine aload (upd_same _ _ _) rfl ?_
      ((conv => whnf); (repeat ((first | with_reducible refine abr_true rfl ?_ | with_reducible refine abr_false rfl ?_ | with_reducible refine abr_yes rfl ?_ | refine abr_yes (by decide) ?_ | refine abr_no (by decide) ?_ | with_reducible refine abr_same_ne ?_); (conv => whnf))))
      refine arem_nonneg (by omega) (by omega) ?_
      rw [show (((bs.length : Nat) : Int) % 8) = ((bs.length % 8 : Nat) : Int) by omega]
      ((conv => whnf); (repeat ((first | with_reducible refine abr_true rfl ?_ | with_reducible refine abr_false rfl ?_ | with_reducible refine abr_yes rfl ?_ | refine abr_yes (by decide) ?_ | refine abr_no (by decide) ?_ | with_reducible refine abr_same_ne ?_); (conv => whnf))))
      refine afit_i64 (by omega) ?_
      rw [show (7 : Int) - ((bs.length % 8 : Nat) : Int) = ((7 - bs.length % 8 : Nat) : Int) by omega]
      ((conv => whnf); (repeat ((first | with_reducible refine abr_true rfl ?_ | with_reducible refine abr_false rfl ?_ | with_reducible refine abr_yes rfl ?_ | refine abr_yes (by decide) ?_ | refine abr_no (by decide) ?_ | with_reducible refine abr_same_ne ?_); (conv => whnf))))
      refine ashl_eq (m := ((b.toNat * 2 ^ (7 - bs.length % 8) : Nat) : Int)) (by omega) (shl_bit b (by omega)) ?_
      ((conv => whnf); (repeat ((first | with_reducible refine abr_true rfl ?_ | with_reducible refine abr_false rfl ?_ | with_reducible refine abr_yes rfl ?_ | refine abr_yes (by decide) ?_ | refine abr_no (by decide) ?_ | with_reducible refine abr_same_ne ?_); (conv => whnf))))
      refine abits_eq (or8 _ _ (bit_lt b (by omega))) ?_
      ((conv => whnf); (repeat ((first | with_reducible refine abr_true rfl ?_ | with_reducible refine abr_false rfl ?_ | with_reducible refine abr_yes rfl ?_ | refine abr_yes (by decide) ?_ | refine abr_no (by decide) ?_ | with_reducible refine abr_same_ne ?_); (conv => whnf))))
      refine aidx (by omega) (by omega) ?_
      rw [show 0 + (((bs.length : Nat) : Int) / 8).toNat * 1 = bs.length / 8 by omega]
      ((conv => whnf); (repeat ((first | with_reducible refine abr_true rfl ?_ | with_reducible refine abr_false rfl ?_ | with_reducible refine abr_yes rfl ?_ | refine abr_yes (by decide) ?_ | refine abr_no (by decide) ?_ | with_reducible refine abr_same_ne ?_); (conv => whnf))))
      refine astore (by rw [upd_ne _ _ hri]; exact upd_same _ _ _) (by rw [List.length_map, hgl]; show bs.length / 8 + 1 ≤ _; omega) rfl (splice_set (x := orBit (byteAt bs (bs.length / 8)) b (bs.length % 8)) (by rw [hgl]; omega)) ?_
      rw [← pack_snoc, upd_comm _ _ _ (Ne.symm hri), upd_upd]
      ((conv => whnf); (repeat ((first | with_reducible refine abr_true rfl ?_ | with_reducible refine abr_false rfl ?_ | with_reducible refine abr_yes rfl ?_ | refine abr_yes (by decide) ?_ | refine abr_no (by decide) ?_ | with_reducible refine abr_same_ne ?_); (conv => whnf))))
      refine aload (upd_same _ _ _) rfl ?_
      ((conv => whnf); (repeat ((first | with_reducible refine abr_true rfl ?_ | with_reducible refine abr_false rfl ?_ | with_reducible refine abr_yes rfl ?_ | refine abr_yes (by decide) ?_ | refine abr_no (by decide) ?_ | with_reducible refine abr_same_ne ?_); (conv => whnf))))
      refine afit_i64 (by omega) ?_
      ((conv => whnf); (repeat ((first | with_reducible refine abr_true rfl ?_ | with_reducible refine abr_false rfl ?_ | with_reducible refine abr_yes rfl ?_ | refine abr_yes (by decide) ?_ | refine abr_no (by decide) ?_ | with_reducible refine abr_same_ne ?_); (conv => whnf))))
      refine astore (l := [.ms r 1 0 (grow bs).length, i64v (((bs.length : Nat) : Int) + 1)]) (upd_same _ _ _) (Nat.le_of_ble_eq_true rfl) rfl rfl ?_
      rw [upd_upd]
      ((conv => whnf); (repeat ((first | with_reducible refine abr_true rfl ?_ | with_reducible refine abr_false rfl ?_ | with_reducible refine abr_yes rfl ?_ | refine abr_yes (by decide) ?_ | refine abr_no (by decide) ?_ | with_reducible refine abr_same_ne ?_); (conv => whnf))))
      refine aret_same ⟨rfl, hid, .inr ⟨by simp, r, hri, hr, ?_⟩⟩
      have e1 : (pack (bs ++ [b])).length = (grow bs).length := by rw [hgl, pack_length, List.length_append]; show (bs.length + 1 + 7) / 8 = _; omega
      rw [e1, List.length_append]
      rfl
end Go.Proofs.Ytndphnojmpeogaa

