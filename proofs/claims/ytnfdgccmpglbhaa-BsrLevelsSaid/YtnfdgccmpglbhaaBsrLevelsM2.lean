/-
  Texts of this claim, part 3: Cbitsd, Cown, Irbsr, Cbsr, Cbsrr, Ctok, Irref38, Cbsrs, Irlaw38, Clawbsra, Crefbsrr, Clawbsrc, Fy, Fz.
-/
import Derived.Test.YtnfdgccmpglbhaaBsrLevelsM1
import Derived.ChangeSlices
import Derived.SizedLaws
import Derived.WideShapes
import Derived.ChangeSame
import Derived.DataReads
import Derived.OpenShut
/-
  What a reader does.
-/
namespace Go.Proofs.Ytnfdgccmpglbhaa
set_option linter.unusedVariables false
set_option linter.unusedSimpArgs false
open Go Go.Am

/-- A reader at an object, with its bytes and its place; the heap without it. -/
def Rd (σ : AHeap) (id : Nat) (b : List UInt8) (k : Nat) (σb : AHeap) : Prop :=
  σb id = none ∧ k ≤ 8 * b.length ∧ b.length ≤ 8192 ∧ ∃ tk, σ = upd σb id (.cells [sl tk b, i64v k])

theorem rRead (b : List UInt8) (t : Tok) (σ : AHeap) (hl : b.length ≤ 140737488355328) : ACalls Try.prog i_bits_Read [sl t b] σ fun v σ' => ∃ id, v = .ptr id 0 ∧ Rd σ' id (b.take 8192) 0 σ := by
  refine k_bits_Read rfl ?_
  ((conv => whnf); (repeat ((first | with_reducible refine abr_true rfl ?_ | with_reducible refine abr_false rfl ?_ | with_reducible refine abr_yes rfl ?_ | refine abr_yes (by decide) ?_ | refine abr_no (by decide) ?_ | with_reducible refine abr_same_ne ?_); (conv => whnf))))
  try rw [List.length_map]
  (repeat ((first | refine aload (by (repeat (first | with_reducible exact upd_same _ _ _ | assumption | rw [upd_ne _ _ (by first | assumption | (apply Ne.symm; assumption))]))) rfl ?_ | refine afit_i64 (by omega) ?_ | refine arem_nonneg (by omega) (by omega) ?_ | refine adiv_i64 (by omega) (by omega) ?_ | refine abr_yes (by omega) ?_ | refine abr_no (by omega) ?_ | refine amin ?_ | refine amax ?_ | refine afit_u64 (by omega) ?_ | refine afit_u8 (by omega) ?_ | rw [List.length_map]); ((conv => whnf); (repeat ((first | with_reducible refine abr_true rfl ?_ | with_reducible refine abr_false rfl ?_ | with_reducible refine abr_yes rfl ?_ | refine abr_yes (by decide) ?_ | refine abr_no (by decide) ?_ | with_reducible refine abr_same_ne ?_); (conv => whnf))))))
  refine acut (by omega) (by omega) (by omega) ?_
  ((conv => whnf); (repeat ((first | with_reducible refine abr_true rfl ?_ | with_reducible refine abr_false rfl ?_ | with_reducible refine abr_yes rfl ?_ | refine abr_yes (by decide) ?_ | refine abr_no (by decide) ?_ | with_reducible refine abr_same_ne ?_); (conv => whnf))))
  refine ⟨rfl, rfl, ?_⟩
  ((conv => whnf); (repeat ((first | with_reducible refine abr_true rfl ?_ | with_reducible refine abr_false rfl ?_ | with_reducible refine abr_yes rfl ?_ | refine abr_yes (by decide) ?_ | refine abr_no (by decide) ?_ | with_reducible refine abr_same_ne ?_); (conv => whnf))))
  rw [show (min (b.length : Int) 8192).toNat = min b.length 8192 by omega, ← List.map_take]
  have e : b.take (min b.length 8192) = b.take 8192 := by
    by_cases h : b.length ≤ 8192
    · rw [Nat.min_eq_left h, List.take_of_length_le (Nat.le_refl _), List.take_of_length_le h]
    · rw [Nat.min_eq_right (by omega)]
  rw [e]
  refine acall (Clone (b.take 8192) _ _ (by rw [List.length_take]; omega)) ?_
  rintro v σ' ⟨tk, ho, rfl⟩
  refine ⟨?_, ho.ext⟩
  ((conv => whnf); (repeat ((first | with_reducible refine abr_true rfl ?_ | with_reducible refine abr_false rfl ?_ | with_reducible refine abr_yes rfl ?_ | refine abr_yes (by decide) ?_ | refine abr_no (by decide) ?_ | with_reducible refine abr_same_ne ?_); (conv => whnf))))
  refine anew rfl fun id hid => ?_
  ((conv => whnf); (repeat ((first | with_reducible refine abr_true rfl ?_ | with_reducible refine abr_false rfl ?_ | with_reducible refine abr_yes rfl ?_ | refine abr_yes (by decide) ?_ | refine abr_no (by decide) ?_ | with_reducible refine abr_same_ne ?_); (conv => whnf))))
  have hσ : σ id = none := by
    rcases ho with ⟨_, rfl⟩ | ⟨t', h0, _, rfl⟩
    · exact hid
    · by_cases e : id = t'
      · subst e; rw [upd_same] at hid; cases hid
      · rw [upd_ne _ _ e] at hid; exact hid
  refine aret (VLe.refl _) (σ' := upd σ id (.cells [sl tk (b.take 8192), i64v 0])) ?_ ⟨id, rfl, hσ, by omega, by rw [List.length_take]; omega, tk, rfl⟩
  exact Sub.upd ho.sub id _

theorem rLeft (id : Nat) (b : List UInt8) (k : Nat) (σ σb : AHeap) (h : Rd σ id b k σb) : ACalls Try.prog i_bits_Reader_Left [.ptr id 0] σ fun v σ' => v = i64v ((8 * b.length - k : Nat) : Int) ∧ σ' = σ := by
  refine k_bits_Reader_Left rfl ?_
  obtain ⟨hid, hk, hb, tk, rfl⟩ := h
  ((conv => whnf); (repeat ((first | with_reducible refine abr_true rfl ?_ | with_reducible refine abr_false rfl ?_ | with_reducible refine abr_yes rfl ?_ | refine abr_yes (by decide) ?_ | refine abr_no (by decide) ?_ | with_reducible refine abr_same_ne ?_); (conv => whnf))))
  (repeat ((first | refine aload (by (repeat (first | with_reducible exact upd_same _ _ _ | assumption | rw [upd_ne _ _ (by first | assumption | (apply Ne.symm; assumption))]))) rfl ?_ | refine afit_i64 (by omega) ?_ | refine arem_nonneg (by omega) (by omega) ?_ | refine adiv_i64 (by omega) (by omega) ?_ | refine abr_yes (by omega) ?_ | refine abr_no (by omega) ?_ | refine amin ?_ | refine amax ?_ | refine afit_u64 (by omega) ?_ | refine afit_u8 (by omega) ?_ | rw [List.length_map]); ((conv => whnf); (repeat ((first | with_reducible refine abr_true rfl ?_ | with_reducible refine abr_false rfl ?_ | with_reducible refine abr_yes rfl ?_ | refine abr_yes (by decide) ?_ | refine abr_no (by decide) ?_ | with_reducible refine abr_same_ne ?_); (conv => whnf))))))
  try rw [List.length_map]
  (repeat ((first | refine aload (by (repeat (first | with_reducible exact upd_same _ _ _ | assumption | rw [upd_ne _ _ (by first | assumption | (apply Ne.symm; assumption))]))) rfl ?_ | refine afit_i64 (by omega) ?_ | refine arem_nonneg (by omega) (by omega) ?_ | refine adiv_i64 (by omega) (by omega) ?_ | refine abr_yes (by omega) ?_ | refine abr_no (by omega) ?_ | refine amin ?_ | refine amax ?_ | refine afit_u64 (by omega) ?_ | refine afit_u8 (by omega) ?_ | rw [List.length_map]); ((conv => whnf); (repeat ((first | with_reducible refine abr_true rfl ?_ | with_reducible refine abr_false rfl ?_ | with_reducible refine abr_yes rfl ?_ | refine abr_yes (by decide) ?_ | refine abr_no (by decide) ?_ | with_reducible refine abr_same_ne ?_); (conv => whnf))))))
  refine aret_same ⟨?_, rfl⟩
  rw [show ((8 * b.length - k : Nat) : Int) = (b.length : Int) * 8 - k by omega]
theorem rLeftNil (σ : AHeap) : ACalls Try.prog i_bits_Reader_Left [.v (.pointer none)] σ fun v σ' => v = i64v 0 ∧ σ' = σ := by
  refine k_bits_Reader_Left rfl ?_
  ((conv => whnf); (repeat ((first | with_reducible refine abr_true rfl ?_ | with_reducible refine abr_false rfl ?_ | with_reducible refine abr_yes rfl ?_ | refine abr_yes (by decide) ?_ | refine abr_no (by decide) ?_ | with_reducible refine abr_same_ne ?_); (conv => whnf))))
  exact aret_same ⟨rfl, rfl⟩

theorem rGetNil (n : Int) (σ : AHeap) : ACalls Try.prog i_bits_Reader_Get [.v (.pointer none), i64v n] σ fun x σ' => x = .tup [u64v 0, i64v 6] ∧ σ' = σ := by
  refine k_bits_Reader_Get rfl ?_
  ((conv => whnf); (repeat ((first | with_reducible refine abr_true rfl ?_ | with_reducible refine abr_false rfl ?_ | with_reducible refine abr_yes rfl ?_ | refine abr_yes (by decide) ?_ | refine abr_no (by decide) ?_ | with_reducible refine abr_same_ne ?_); (conv => whnf))))
  refine ascope' (α := Unit) (fun _ => []) (fun _ => σ) (fun _ => 0) (fun _ => False) (fun _ => 0) ?_ (fun _ h => h.elim)
  ((conv => whnf); (repeat ((first | with_reducible refine abr_true rfl ?_ | with_reducible refine abr_false rfl ?_ | with_reducible refine abr_yes rfl ?_ | refine abr_yes (by decide) ?_ | refine abr_no (by decide) ?_ | with_reducible refine abr_same_ne ?_); (conv => whnf))))
  intro hlab
  ((conv => whnf); (repeat ((first | with_reducible refine abr_true rfl ?_ | with_reducible refine abr_false rfl ?_ | with_reducible refine abr_yes rfl ?_ | refine abr_yes (by decide) ?_ | refine abr_no (by decide) ?_ | with_reducible refine abr_same_ne ?_); (conv => whnf))))
  exact aret_same ⟨rfl, rfl⟩

theorem and1_u8 (x : Nat) (hx : x < 256) : bitsOp .and .u8 (x : Int) 1 = ((x % 2 : Nat) : Int) := by
  have h1 : BitVec.ofInt 8 (x : Int) = BitVec.ofNat 8 x := by simp
  show IntKind.u8.wrap ((BitVec.ofInt 8 (x : Int) &&& BitVec.ofInt 8 1).toNat) = _
  rw [h1]
  have : (BitVec.ofNat 8 x &&& BitVec.ofInt 8 1).toNat = x % 2 := by
    rw [BitVec.toNat_and, BitVec.toNat_ofNat, Nat.mod_eq_of_lt hx]
    exact Nat.and_one_is_mod x
  rw [this]; exact wrap_u8 (by omega) (by omega)
theorem or1_u64 (x : Nat) (b : Bool) (hx : 2 * x < 18446744073709551616) : bitsOp .or .u64 ((2 * x : Nat) : Int) ((b.toNat : Nat) : Int) = ((2 * x + b.toNat : Nat) : Int) := by
  have h1 : ∀ y : Nat, BitVec.ofInt 64 (y : Int) = BitVec.ofNat 64 y := by intro y; simp
  show IntKind.u64.wrap ((BitVec.ofInt 64 ((2 * x : Nat) : Int) ||| BitVec.ofInt 64 ((b.toNat : Nat) : Int)).toNat) = _
  rw [h1, h1]
  have hb : b.toNat ≤ 1 := by cases b <;> decide
  have : (BitVec.ofNat 64 (2 * x) ||| BitVec.ofNat 64 b.toNat).toNat = 2 * x + b.toNat := by
    rw [BitVec.toNat_or, BitVec.toNat_ofNat, BitVec.toNat_ofNat, Nat.mod_eq_of_lt hx, Nat.mod_eq_of_lt (by omega)]
    have e := Nat.two_pow_add_eq_or_of_lt (i := 1) (b := b.toNat) (by omega) x
    rw [Nat.pow_one] at e
    exact e.symm
  rw [this]; exact wrap_u64 (by omega) (by omega)
theorem shl1_u64 (x : Nat) (hx : 2 * x < 18446744073709551616) : IntKind.u64.wrap ((x : Int) * 2 ^ (min (1 : Int).toNat IntKind.u64.bits)) = ((2 * x : Nat) : Int) := by
  have e : (x : Int) * 2 ^ (min (1 : Int).toNat IntKind.u64.bits) = ((2 * x : Nat) : Int) := by
    show (x : Int) * 2 ^ 1 = _
    omega
  rw [e]; exact wrap_u64 (by omega) (by omega)
theorem take_snoc {α : Type} {l : List α} {i : Nat} {x : α} (h : l[i]? = some x) : l.take (i + 1) = l.take i ++ [x] := by rw [List.take_add_one, h]; rfl

set_option maxRecDepth 10000 in
theorem rGet (id : Nat) (b : List UInt8) (k : Nat) (n : Int) (σ σb : AHeap) (h : Rd σ id b k σb) :
    ACalls Try.prog i_bits_Reader_Get [.ptr id 0, i64v n] σ fun x σ' => x = .tup [u64v (getVal (unpack b) k n), i64v (getCode (8 * b.length) k n)] ∧ Rd σ' id b (getAt (8 * b.length) k n) σb := by
  have hR := h
  obtain ⟨hid, hk, hb, tk, rfl⟩ := h
  have hul := unpack_length b
  refine k_bits_Reader_Get rfl ?_
  ((conv => whnf); (repeat ((first | with_reducible refine abr_true rfl ?_ | with_reducible refine abr_false rfl ?_ | with_reducible refine abr_yes rfl ?_ | refine abr_yes (by decide) ?_ | refine abr_no (by decide) ?_ | with_reducible refine abr_same_ne ?_); (conv => whnf))))
  refine ascope' (α := Nat) (fun j => [(s6, u64v (val 0 (((unpack b).drop k).take j))), (s7, i64v ((k : Int) + n))]) (fun j => upd σb id (.cells [sl tk b, i64v ((k + j : Nat) : Int)])) (fun _ => 0) (fun j => getCode (8 * b.length) k n = 0 ∧ j ≤ n.toNat) (fun j => n.toNat - j) ?_ ?_
  · ((conv => whnf); (repeat ((first | with_reducible refine abr_true rfl ?_ | with_reducible refine abr_false rfl ?_ | with_reducible refine abr_yes rfl ?_ | refine abr_yes (by decide) ?_ | refine abr_no (by decide) ?_ | with_reducible refine abr_same_ne ?_); (conv => whnf))))
    intro hlab
    by_cases h1 : n < 0
    · have hc : getCode (8 * b.length) k n = 1 := by unfold getCode; rw [if_pos (.inl h1)]
      ((conv => whnf); (repeat ((first | with_reducible refine abr_true rfl ?_ | with_reducible refine abr_false rfl ?_ | with_reducible refine abr_yes rfl ?_ | refine abr_yes (by decide) ?_ | refine abr_no (by decide) ?_ | with_reducible refine abr_same_ne ?_); (conv => whnf))))
      (repeat ((first | refine aload (by (repeat (first | with_reducible exact upd_same _ _ _ | assumption | rw [upd_ne _ _ (by first | assumption | (apply Ne.symm; assumption))]))) rfl ?_ | refine afit_i64 (by omega) ?_ | refine arem_nonneg (by omega) (by omega) ?_ | refine adiv_i64 (by omega) (by omega) ?_ | refine abr_yes (by omega) ?_ | refine abr_no (by omega) ?_ | refine amin ?_ | refine amax ?_ | refine afit_u64 (by omega) ?_ | refine afit_u8 (by omega) ?_ | rw [List.length_map]); ((conv => whnf); (repeat ((first | with_reducible refine abr_true rfl ?_ | with_reducible refine abr_false rfl ?_ | with_reducible refine abr_yes rfl ?_ | refine abr_yes (by decide) ?_ | refine abr_no (by decide) ?_ | with_reducible refine abr_same_ne ?_); (conv => whnf))))))
      refine aret_same ⟨?_, ?_⟩
      · unfold getVal; rw [hul, hc]; rfl
      · unfold getAt; rw [hc]; exact hR
    · by_cases h2 : n > 64
      · have hc : getCode (8 * b.length) k n = 1 := by unfold getCode; rw [if_pos (.inr h2)]
        ((conv => whnf); (repeat ((first | with_reducible refine abr_true rfl ?_ | with_reducible refine abr_false rfl ?_ | with_reducible refine abr_yes rfl ?_ | refine abr_yes (by decide) ?_ | refine abr_no (by decide) ?_ | with_reducible refine abr_same_ne ?_); (conv => whnf))))
        (repeat ((first | refine aload (by (repeat (first | with_reducible exact upd_same _ _ _ | assumption | rw [upd_ne _ _ (by first | assumption | (apply Ne.symm; assumption))]))) rfl ?_ | refine afit_i64 (by omega) ?_ | refine arem_nonneg (by omega) (by omega) ?_ | refine adiv_i64 (by omega) (by omega) ?_ | refine abr_yes (by omega) ?_ | refine abr_no (by omega) ?_ | refine amin ?_ | refine amax ?_ | refine afit_u64 (by omega) ?_ | refine afit_u8 (by omega) ?_ | rw [List.length_map]); ((conv => whnf); (repeat ((first | with_reducible refine abr_true rfl ?_ | with_reducible refine abr_false rfl ?_ | with_reducible refine abr_yes rfl ?_ | refine abr_yes (by decide) ?_ | refine abr_no (by decide) ?_ | with_reducible refine abr_same_ne ?_); (conv => whnf))))))
        refine aret_same ⟨?_, ?_⟩
        · unfold getVal; rw [hul, hc]; rfl
        · unfold getAt; rw [hc]; exact hR
      · ((conv => whnf); (repeat ((first | with_reducible refine abr_true rfl ?_ | with_reducible refine abr_false rfl ?_ | with_reducible refine abr_yes rfl ?_ | refine abr_yes (by decide) ?_ | refine abr_no (by decide) ?_ | with_reducible refine abr_same_ne ?_); (conv => whnf))))
        (repeat ((first | refine aload (by (repeat (first | with_reducible exact upd_same _ _ _ | assumption | rw [upd_ne _ _ (by first | assumption | (apply Ne.symm; assumption))]))) rfl ?_ | refine afit_i64 (by omega) ?_ | refine arem_nonneg (by omega) (by omega) ?_ | refine adiv_i64 (by omega) (by omega) ?_ | refine abr_yes (by omega) ?_ | refine abr_no (by omega) ?_ | refine amin ?_ | refine amax ?_ | refine afit_u64 (by omega) ?_ | refine afit_u8 (by omega) ?_ | rw [List.length_map]); ((conv => whnf); (repeat ((first | with_reducible refine abr_true rfl ?_ | with_reducible refine abr_false rfl ?_ | with_reducible refine abr_yes rfl ?_ | refine abr_yes (by decide) ?_ | refine abr_no (by decide) ?_ | with_reducible refine abr_same_ne ?_); (conv => whnf))))))
        refine acall (rLeft id b k _ σb hR) ?_
        rintro x σ' ⟨rfl, rfl⟩
        refine ⟨?_, Ext.refl _⟩
        by_cases h3 : n > ((8 * b.length - k : Nat) : Int)
        · have hc : getCode (8 * b.length) k n = 8 := by unfold getCode; rw [if_neg (by omega), if_pos (by omega)]
          ((conv => whnf); (repeat ((first | with_reducible refine abr_true rfl ?_ | with_reducible refine abr_false rfl ?_ | with_reducible refine abr_yes rfl ?_ | refine abr_yes (by decide) ?_ | refine abr_no (by decide) ?_ | with_reducible refine abr_same_ne ?_); (conv => whnf))))
          (repeat ((first | refine aload (by (repeat (first | with_reducible exact upd_same _ _ _ | assumption | rw [upd_ne _ _ (by first | assumption | (apply Ne.symm; assumption))]))) rfl ?_ | refine afit_i64 (by omega) ?_ | refine arem_nonneg (by omega) (by omega) ?_ | refine adiv_i64 (by omega) (by omega) ?_ | refine abr_yes (by omega) ?_ | refine abr_no (by omega) ?_ | refine amin ?_ | refine amax ?_ | refine afit_u64 (by omega) ?_ | refine afit_u8 (by omega) ?_ | rw [List.length_map]); ((conv => whnf); (repeat ((first | with_reducible refine abr_true rfl ?_ | with_reducible refine abr_false rfl ?_ | with_reducible refine abr_yes rfl ?_ | refine abr_yes (by decide) ?_ | refine abr_no (by decide) ?_ | with_reducible refine abr_same_ne ?_); (conv => whnf))))))
          refine aret_same ⟨?_, ?_⟩
          · unfold getVal; rw [hul, hc]; rfl
          · unfold getAt; rw [hc]; exact hR
        · have hc : getCode (8 * b.length) k n = 0 := by unfold getCode; rw [if_neg (by omega), if_neg (by omega)]
          ((conv => whnf); (repeat ((first | with_reducible refine abr_true rfl ?_ | with_reducible refine abr_false rfl ?_ | with_reducible refine abr_yes rfl ?_ | refine abr_yes (by decide) ?_ | refine abr_no (by decide) ?_ | with_reducible refine abr_same_ne ?_); (conv => whnf))))
          (repeat ((first | refine aload (by (repeat (first | with_reducible exact upd_same _ _ _ | assumption | rw [upd_ne _ _ (by first | assumption | (apply Ne.symm; assumption))]))) rfl ?_ | refine afit_i64 (by omega) ?_ | refine arem_nonneg (by omega) (by omega) ?_ | refine adiv_i64 (by omega) (by omega) ?_ | refine abr_yes (by omega) ?_ | refine abr_no (by omega) ?_ | refine amin ?_ | refine amax ?_ | refine afit_u64 (by omega) ?_ | refine afit_u8 (by omega) ?_ | rw [List.length_map]); ((conv => whnf); (repeat ((first | with_reducible refine abr_true rfl ?_ | with_reducible refine abr_false rfl ?_ | with_reducible refine abr_yes rfl ?_ | refine abr_yes (by decide) ?_ | refine abr_no (by decide) ?_ | with_reducible refine abr_same_ne ?_); (conv => whnf))))))
          refine hlab _ (fun _ _ _ h => h) _ _ _ _ ⟨0, rfl, ⟨hc, by omega⟩, rfl, Sub.refl _, ?_⟩
          ((conv => whnf); (repeat ((first | with_reducible refine abr_true rfl ?_ | with_reducible refine abr_false rfl ?_ | with_reducible refine abr_yes rfl ?_ | refine abr_yes (by decide) ?_ | refine abr_no (by decide) ?_ | with_reducible refine abr_same_ne ?_); (conv => whnf))))
          (repeat' first | with_reducible exact EnvLe.refl _ | (refine EnvLe.node ?_ (by first | exact Or.inl rfl | exact Or.inr (Or.inl rfl) | exact Or.inr (Or.inr ⟨nofun, VLe.slice _ _ _⟩)) ?_))
  · rintro j ⟨hc, hj⟩
    obtain ⟨p1, p2, p3⟩ := getCode_ok hc
    refine ⟨_, rfl, ?_⟩
    ((conv => whnf); (repeat ((first | with_reducible refine abr_true rfl ?_ | with_reducible refine abr_false rfl ?_ | with_reducible refine abr_yes rfl ?_ | refine abr_yes (by decide) ?_ | refine abr_no (by decide) ?_ | with_reducible refine abr_same_ne ?_); (conv => whnf))))
    intro hlab
    by_cases h1 : j = n.toNat
    · ((conv => whnf); (repeat ((first | with_reducible refine abr_true rfl ?_ | with_reducible refine abr_false rfl ?_ | with_reducible refine abr_yes rfl ?_ | refine abr_yes (by decide) ?_ | refine abr_no (by decide) ?_ | with_reducible refine abr_same_ne ?_); (conv => whnf))))
      (repeat ((first | refine aload (by (repeat (first | with_reducible exact upd_same _ _ _ | assumption | rw [upd_ne _ _ (by first | assumption | (apply Ne.symm; assumption))]))) rfl ?_ | refine afit_i64 (by omega) ?_ | refine arem_nonneg (by omega) (by omega) ?_ | refine adiv_i64 (by omega) (by omega) ?_ | refine abr_yes (by omega) ?_ | refine abr_no (by omega) ?_ | refine amin ?_ | refine amax ?_ | refine afit_u64 (by omega) ?_ | refine afit_u8 (by omega) ?_ | rw [List.length_map]); ((conv => whnf); (repeat ((first | with_reducible refine abr_true rfl ?_ | with_reducible refine abr_false rfl ?_ | with_reducible refine abr_yes rfl ?_ | refine abr_yes (by decide) ?_ | refine abr_no (by decide) ?_ | with_reducible refine abr_same_ne ?_); (conv => whnf))))))
      refine aret_same ⟨?_, ?_⟩
      · unfold getVal; rw [hul, if_pos hc, hc, h1]
      · unfold getAt; rw [if_pos hc, ← h1]
        exact ⟨hid, by omega, hb, tk, rfl⟩
    · have hlt : k + j < 8 * b.length := by omega
      have hq : (k + j) / 8 < b.length := by omega
      have hg : b[(k + j) / 8]? = some b[(k + j) / 8] := List.getElem?_eq_getElem hq
      have hbit := unpack_get b (k + j) _ hg
      have hv2 : val 0 (((unpack b).drop k).take j) < 2 ^ 63 := by
        have h1 := val_lt (((unpack b).drop k).take j)
        have h2 : (((unpack b).drop k).take j).length ≤ 63 := by rw [List.length_take]; omega
        exact Nat.lt_of_lt_of_le h1 (Nat.pow_le_pow_right (by omega) h2)
      have hx := b[(k + j) / 8].toNat_lt
      ((conv => whnf); (repeat ((first | with_reducible refine abr_true rfl ?_ | with_reducible refine abr_false rfl ?_ | with_reducible refine abr_yes rfl ?_ | refine abr_yes (by decide) ?_ | refine abr_no (by decide) ?_ | with_reducible refine abr_same_ne ?_); (conv => whnf))))
      (repeat ((first | refine aload (by (repeat (first | with_reducible exact upd_same _ _ _ | assumption | rw [upd_ne _ _ (by first | assumption | (apply Ne.symm; assumption))]))) rfl ?_ | refine afit_i64 (by omega) ?_ | refine arem_nonneg (by omega) (by omega) ?_ | refine adiv_i64 (by omega) (by omega) ?_ | refine abr_yes (by omega) ?_ | refine abr_no (by omega) ?_ | refine amin ?_ | refine amax ?_ | refine afit_u64 (by omega) ?_ | refine afit_u8 (by omega) ?_ | rw [List.length_map]); ((conv => whnf); (repeat ((first | with_reducible refine abr_true rfl ?_ | with_reducible refine abr_false rfl ?_ | with_reducible refine abr_yes rfl ?_ | refine abr_yes (by decide) ?_ | refine abr_no (by decide) ?_ | with_reducible refine abr_same_ne ?_); (conv => whnf))))))
      refine ashl_eq (by omega) (shl1_u64 _ (by omega)) ?_
      ((conv => whnf); (repeat ((first | with_reducible refine abr_true rfl ?_ | with_reducible refine abr_false rfl ?_ | with_reducible refine abr_yes rfl ?_ | refine abr_yes (by decide) ?_ | refine abr_no (by decide) ?_ | with_reducible refine abr_same_ne ?_); (conv => whnf))))
      (repeat ((first | refine aload (by (repeat (first | with_reducible exact upd_same _ _ _ | assumption | rw [upd_ne _ _ (by first | assumption | (apply Ne.symm; assumption))]))) rfl ?_ | refine afit_i64 (by omega) ?_ | refine arem_nonneg (by omega) (by omega) ?_ | refine adiv_i64 (by omega) (by omega) ?_ | refine abr_yes (by omega) ?_ | refine abr_no (by omega) ?_ | refine amin ?_ | refine amax ?_ | refine afit_u64 (by omega) ?_ | refine afit_u8 (by omega) ?_ | rw [List.length_map]); ((conv => whnf); (repeat ((first | with_reducible refine abr_true rfl ?_ | with_reducible refine abr_false rfl ?_ | with_reducible refine abr_yes rfl ?_ | refine abr_yes (by decide) ?_ | refine abr_no (by decide) ?_ | with_reducible refine abr_same_ne ?_); (conv => whnf))))))
      rw [show ((k + j : Nat) : Int) / 8 = (((k + j) / 8 : Nat) : Int) by omega]
      refine aget (by omega) (get_bytes hq) ?_
      ((conv => whnf); (repeat ((first | with_reducible refine abr_true rfl ?_ | with_reducible refine abr_false rfl ?_ | with_reducible refine abr_yes rfl ?_ | refine abr_yes (by decide) ?_ | refine abr_no (by decide) ?_ | with_reducible refine abr_same_ne ?_); (conv => whnf))))
      refine acell rfl ?_
      ((conv => whnf); (repeat ((first | with_reducible refine abr_true rfl ?_ | with_reducible refine abr_false rfl ?_ | with_reducible refine abr_yes rfl ?_ | refine abr_yes (by decide) ?_ | refine abr_no (by decide) ?_ | with_reducible refine abr_same_ne ?_); (conv => whnf))))
      (repeat ((first | refine aload (by (repeat (first | with_reducible exact upd_same _ _ _ | assumption | rw [upd_ne _ _ (by first | assumption | (apply Ne.symm; assumption))]))) rfl ?_ | refine afit_i64 (by omega) ?_ | refine arem_nonneg (by omega) (by omega) ?_ | refine adiv_i64 (by omega) (by omega) ?_ | refine abr_yes (by omega) ?_ | refine abr_no (by omega) ?_ | refine amin ?_ | refine amax ?_ | refine afit_u64 (by omega) ?_ | refine afit_u8 (by omega) ?_ | rw [List.length_map]); ((conv => whnf); (repeat ((first | with_reducible refine abr_true rfl ?_ | with_reducible refine abr_false rfl ?_ | with_reducible refine abr_yes rfl ?_ | refine abr_yes (by decide) ?_ | refine abr_no (by decide) ?_ | with_reducible refine abr_same_ne ?_); (conv => whnf))))))
      rw [show (7 : Int) - ((k + j : Nat) : Int) % 8 = ((7 - (k + j) % 8 : Nat) : Int) by omega]
      refine ashr_nat (by show _ ≤ 8; omega) ?_
      ((conv => whnf); (repeat ((first | with_reducible refine abr_true rfl ?_ | with_reducible refine abr_false rfl ?_ | with_reducible refine abr_yes rfl ?_ | refine abr_yes (by decide) ?_ | refine abr_no (by decide) ?_ | with_reducible refine abr_same_ne ?_); (conv => whnf))))
      refine abits_eq (and1_u8 _ (Nat.lt_of_le_of_lt (Nat.div_le_self _ _) hx)) ?_
      rw [← testBit_nat]
      ((conv => whnf); (repeat ((first | with_reducible refine abr_true rfl ?_ | with_reducible refine abr_false rfl ?_ | with_reducible refine abr_yes rfl ?_ | refine abr_yes (by decide) ?_ | refine abr_no (by decide) ?_ | with_reducible refine abr_same_ne ?_); (conv => whnf))))
      have hb1 : (b[(k + j) / 8].toNat.testBit (7 - (k + j) % 8)).toNat ≤ 1 := by cases b[(k + j) / 8].toNat.testBit (7 - (k + j) % 8) <;> decide
      refine afit_u64 (by omega) ?_
      ((conv => whnf); (repeat ((first | with_reducible refine abr_true rfl ?_ | with_reducible refine abr_false rfl ?_ | with_reducible refine abr_yes rfl ?_ | refine abr_yes (by decide) ?_ | refine abr_no (by decide) ?_ | with_reducible refine abr_same_ne ?_); (conv => whnf))))
      refine abits_eq (or1_u64 _ _ (by omega)) ?_
      ((conv => whnf); (repeat ((first | with_reducible refine abr_true rfl ?_ | with_reducible refine abr_false rfl ?_ | with_reducible refine abr_yes rfl ?_ | refine abr_yes (by decide) ?_ | refine abr_no (by decide) ?_ | with_reducible refine abr_same_ne ?_); (conv => whnf))))
      (repeat ((first | refine aload (by (repeat (first | with_reducible exact upd_same _ _ _ | assumption | rw [upd_ne _ _ (by first | assumption | (apply Ne.symm; assumption))]))) rfl ?_ | refine afit_i64 (by omega) ?_ | refine arem_nonneg (by omega) (by omega) ?_ | refine adiv_i64 (by omega) (by omega) ?_ | refine abr_yes (by omega) ?_ | refine abr_no (by omega) ?_ | refine amin ?_ | refine amax ?_ | refine afit_u64 (by omega) ?_ | refine afit_u8 (by omega) ?_ | rw [List.length_map]); ((conv => whnf); (repeat ((first | with_reducible refine abr_true rfl ?_ | with_reducible refine abr_false rfl ?_ | with_reducible refine abr_yes rfl ?_ | refine abr_yes (by decide) ?_ | refine abr_no (by decide) ?_ | with_reducible refine abr_same_ne ?_); (conv => whnf))))))
      refine astore (upd_same _ _ _) (Nat.le_of_ble_eq_true rfl) rfl rfl ?_
      rw [upd_upd]
      ((conv => whnf); (repeat ((first | with_reducible refine abr_true rfl ?_ | with_reducible refine abr_false rfl ?_ | with_reducible refine abr_yes rfl ?_ | refine abr_yes (by decide) ?_ | refine abr_no (by decide) ?_ | with_reducible refine abr_same_ne ?_); (conv => whnf))))
      refine ⟨j + 1, rfl, ⟨hc, by omega⟩, by omega, ?_, ?_⟩
      · rw [show (((k + j : Nat) : Int) + 1) = ((k + (j + 1) : Nat) : Int) by omega]
        exact Sub.refl _
      · have e : val 0 (((unpack b).drop k).take (j + 1)) = 2 * val 0 (((unpack b).drop k).take j) + (b[(k + j) / 8].toNat.testBit (7 - (k + j) % 8)).toNat := by
          rw [take_snoc (l := (unpack b).drop k) (i := j) (x := b[(k + j) / 8].toNat.testBit (7 - (k + j) % 8)) (by rw [List.getElem?_drop]; exact hbit), val_snoc]
        ((conv => whnf); (repeat ((first | with_reducible refine abr_true rfl ?_ | with_reducible refine abr_false rfl ?_ | with_reducible refine abr_yes rfl ?_ | refine abr_yes (by decide) ?_ | refine abr_no (by decide) ?_ | with_reducible refine abr_same_ne ?_); (conv => whnf))))
        rw [e]
        (repeat' first | with_reducible exact EnvLe.refl _ | (refine EnvLe.node ?_ (by first | exact Or.inl rfl | exact Or.inr (Or.inl rfl) | exact Or.inr (Or.inr ⟨nofun, VLe.slice _ _ _⟩)) ?_))

theorem rRestNil (σ : AHeap) : ACalls Try.prog i_bits_Reader_Rest [.v (.pointer none)] σ fun x σ' => x = .tup [sl .none [], i64v 6] ∧ σ' = σ := by
  refine k_bits_Reader_Rest rfl ?_
  ((conv => whnf); (repeat ((first | with_reducible refine abr_true rfl ?_ | with_reducible refine abr_false rfl ?_ | with_reducible refine abr_yes rfl ?_ | refine abr_yes (by decide) ?_ | refine abr_no (by decide) ?_ | with_reducible refine abr_same_ne ?_); (conv => whnf))))
  exact aret VLe.tup_sl (Sub.refl _) ⟨rfl, rfl⟩

theorem pad_le (k : Nat) : pad k ≤ 7 := by unfold pad; omega
set_option maxRecDepth 10000 in
theorem rRest (id : Nat) (b : List UInt8) (k : Nat) (σ σb : AHeap) (h : Rd σ id b k σb) :
    ACalls Try.prog i_bits_Reader_Rest [.ptr id 0] σ fun x σ' => x = .tup [sl .none (if restOk (unpack b) k then b.drop ((k + 7) / 8) else []), i64v (if restOk (unpack b) k then 0 else 3)] ∧
      Rd σ' id b (if restOk (unpack b) k then 8 * b.length else k) σb := by
  have hR := h
  obtain ⟨hid, hk, hb, tk, rfl⟩ := h
  have hul := unpack_length b
  have hp7 := pad_le k
  refine k_bits_Reader_Rest rfl ?_
  ((conv => whnf); (repeat ((first | with_reducible refine abr_true rfl ?_ | with_reducible refine abr_false rfl ?_ | with_reducible refine abr_yes rfl ?_ | refine abr_yes (by decide) ?_ | refine abr_no (by decide) ?_ | with_reducible refine abr_same_ne ?_); (conv => whnf))))
  (repeat ((first | refine aload (by (repeat (first | with_reducible exact upd_same _ _ _ | assumption | rw [upd_ne _ _ (by first | assumption | (apply Ne.symm; assumption))]))) rfl ?_ | refine afit_i64 (by omega) ?_ | refine arem_nonneg (by omega) (by omega) ?_ | refine adiv_i64 (by omega) (by omega) ?_ | refine abr_yes (by omega) ?_ | refine abr_no (by omega) ?_ | refine amin ?_ | refine amax ?_ | refine afit_u64 (by omega) ?_ | refine afit_u8 (by omega) ?_ | rw [List.length_map]); ((conv => whnf); (repeat ((first | with_reducible refine abr_true rfl ?_ | with_reducible refine abr_false rfl ?_ | with_reducible refine abr_yes rfl ?_ | refine abr_yes (by decide) ?_ | refine abr_no (by decide) ?_ | with_reducible refine abr_same_ne ?_); (conv => whnf))))))
  rw [show ((8 : Int) - (k : Int) % 8) % 8 = ((pad k : Nat) : Int) by unfold pad; omega]
  refine acall (rGet id b k (pad k) _ σb hR) ?_
  rintro x σ' ⟨rfl, hR2⟩
  have hc : getCode (8 * b.length) k (pad k) = 0 := by
    unfold getCode
    rw [if_neg (by omega), if_neg]
    have : k % 8 = 0 ∨ k + (8 - k % 8) ≤ 8 * b.length := by omega
    unfold pad
    omega
  have ha : getAt (8 * b.length) k (pad k) = k + pad k := by unfold getAt; rw [if_pos hc]; rfl
  have hv : getVal (unpack b) k (pad k) = val 0 (((unpack b).drop k).take (pad k)) := by unfold getVal; rw [hul, if_pos hc]; rfl
  rw [ha] at hR2
  rw [hc, hv]
  obtain ⟨hid2, hk2, hb2, tk2, rfl⟩ := hR2
  ((conv => whnf); (repeat ((first | with_reducible refine abr_true rfl ?_ | with_reducible refine abr_false rfl ?_ | with_reducible refine abr_yes rfl ?_ | refine abr_yes (by decide) ?_ | refine abr_no (by decide) ?_ | with_reducible refine abr_same_ne ?_); (conv => whnf))))
  by_cases hz : val 0 (((unpack b).drop k).take (pad k)) = 0
  · have hok : restOk (unpack b) k = true := decide_eq_true hz
    rw [hok]
    simp only [if_true]
    (repeat ((first | refine aload (by (repeat (first | with_reducible exact upd_same _ _ _ | assumption | rw [upd_ne _ _ (by first | assumption | (apply Ne.symm; assumption))]))) rfl ?_ | refine afit_i64 (by omega) ?_ | refine arem_nonneg (by omega) (by omega) ?_ | refine adiv_i64 (by omega) (by omega) ?_ | refine abr_yes (by omega) ?_ | refine abr_no (by omega) ?_ | refine amin ?_ | refine amax ?_ | refine afit_u64 (by omega) ?_ | refine afit_u8 (by omega) ?_ | rw [List.length_map]); ((conv => whnf); (repeat ((first | with_reducible refine abr_true rfl ?_ | with_reducible refine abr_false rfl ?_ | with_reducible refine abr_yes rfl ?_ | refine abr_yes (by decide) ?_ | refine abr_no (by decide) ?_ | with_reducible refine abr_same_ne ?_); (conv => whnf))))))
    try rw [List.length_map]
    refine acut (by omega) (by omega) (by omega) ?_
    ((conv => whnf); (repeat ((first | with_reducible refine abr_true rfl ?_ | with_reducible refine abr_false rfl ?_ | with_reducible refine abr_yes rfl ?_ | refine abr_yes (by decide) ?_ | refine abr_no (by decide) ?_ | with_reducible refine abr_same_ne ?_); (conv => whnf))))
    rw [show (((k + pad k : Nat) : Int) / 8).toNat = (k + 7) / 8 by unfold pad; omega, show (b.length : Int).toNat = b.length by omega, List.take_of_length_le (by simp), ← List.map_drop]
    refine acall (Clone (b.drop ((k + 7) / 8)) _ _ (by rw [List.length_drop]; omega)) ?_
    rintro v σ' ⟨tk3, ho, rfl⟩
    refine ⟨?_, ho.ext⟩
    have hσ : σ' id = some (.cells [sl tk2 b, i64v ((k + pad k : Nat) : Int)]) := by
      rcases ho with ⟨_, rfl⟩ | ⟨t', h0, _, rfl⟩
      · exact upd_same _ _ _
      · by_cases e : id = t'
        · subst e; rw [upd_same] at h0; cases h0
        · rw [upd_ne _ _ e]; exact upd_same _ _ _
    ((conv => whnf); (repeat ((first | with_reducible refine abr_true rfl ?_ | with_reducible refine abr_false rfl ?_ | with_reducible refine abr_yes rfl ?_ | refine abr_yes (by decide) ?_ | refine abr_no (by decide) ?_ | with_reducible refine abr_same_ne ?_); (conv => whnf))))
    (repeat ((first | refine aload (by (repeat (first | with_reducible exact upd_same _ _ _ | assumption | rw [upd_ne _ _ (by first | assumption | (apply Ne.symm; assumption))]))) rfl ?_ | refine afit_i64 (by omega) ?_ | refine arem_nonneg (by omega) (by omega) ?_ | refine adiv_i64 (by omega) (by omega) ?_ | refine abr_yes (by omega) ?_ | refine abr_no (by omega) ?_ | refine amin ?_ | refine amax ?_ | refine afit_u64 (by omega) ?_ | refine afit_u8 (by omega) ?_ | rw [List.length_map]); ((conv => whnf); (repeat ((first | with_reducible refine abr_true rfl ?_ | with_reducible refine abr_false rfl ?_ | with_reducible refine abr_yes rfl ?_ | refine abr_yes (by decide) ?_ | refine abr_no (by decide) ?_ | with_reducible refine abr_same_ne ?_); (conv => whnf))))))
    try rw [List.length_map]
    (repeat ((first | refine aload (by (repeat (first | with_reducible exact upd_same _ _ _ | assumption | rw [upd_ne _ _ (by first | assumption | (apply Ne.symm; assumption))]))) rfl ?_ | refine afit_i64 (by omega) ?_ | refine arem_nonneg (by omega) (by omega) ?_ | refine adiv_i64 (by omega) (by omega) ?_ | refine abr_yes (by omega) ?_ | refine abr_no (by omega) ?_ | refine amin ?_ | refine amax ?_ | refine afit_u64 (by omega) ?_ | refine afit_u8 (by omega) ?_ | rw [List.length_map]); ((conv => whnf); (repeat ((first | with_reducible refine abr_true rfl ?_ | with_reducible refine abr_false rfl ?_ | with_reducible refine abr_yes rfl ?_ | refine abr_yes (by decide) ?_ | refine abr_no (by decide) ?_ | with_reducible refine abr_same_ne ?_); (conv => whnf))))))
    refine astore hσ (Nat.le_of_ble_eq_true rfl) rfl rfl ?_
    ((conv => whnf); (repeat ((first | with_reducible refine abr_true rfl ?_ | with_reducible refine abr_false rfl ?_ | with_reducible refine abr_yes rfl ?_ | refine abr_yes (by decide) ?_ | refine abr_no (by decide) ?_ | with_reducible refine abr_same_ne ?_); (conv => whnf))))
    refine aret VLe.tup_sl (σ' := upd σb id (.cells [sl tk2 b, i64v ((b.length : Int) * 8)])) ?_ ⟨rfl, hid, Nat.le_refl _, hb, tk2, ?_⟩
    · have := Sub.upd ho.sub id (.cells [sl tk2 b, i64v ((b.length : Int) * 8)])
      rw [upd_upd] at this
      exact this
    · rw [show (b.length : Int) * 8 = ((8 * b.length : Nat) : Int) by omega]
  · have hok : restOk (unpack b) k = false := decide_eq_false hz
    rw [hok]
    simp only [Bool.false_eq_true, if_false]
    (repeat ((first | refine aload (by (repeat (first | with_reducible exact upd_same _ _ _ | assumption | rw [upd_ne _ _ (by first | assumption | (apply Ne.symm; assumption))]))) rfl ?_ | refine afit_i64 (by omega) ?_ | refine arem_nonneg (by omega) (by omega) ?_ | refine adiv_i64 (by omega) (by omega) ?_ | refine abr_yes (by omega) ?_ | refine abr_no (by omega) ?_ | refine amin ?_ | refine amax ?_ | refine afit_u64 (by omega) ?_ | refine afit_u8 (by omega) ?_ | rw [List.length_map]); ((conv => whnf); (repeat ((first | with_reducible refine abr_true rfl ?_ | with_reducible refine abr_false rfl ?_ | with_reducible refine abr_yes rfl ?_ | refine abr_yes (by decide) ?_ | refine abr_no (by decide) ?_ | with_reducible refine abr_same_ne ?_); (conv => whnf))))))
    refine astore (upd_same _ _ _) (Nat.le_of_ble_eq_true rfl) rfl rfl ?_
    rw [upd_upd]
    ((conv => whnf); (repeat ((first | with_reducible refine abr_true rfl ?_ | with_reducible refine abr_false rfl ?_ | with_reducible refine abr_yes rfl ?_ | refine abr_yes (by decide) ?_ | refine abr_no (by decide) ?_ | with_reducible refine abr_same_ne ?_); (conv => whnf))))
    exact aret VLe.tup_sl (Sub.refl _) ⟨rfl, hid, hk, hb, tk2, rfl⟩
end Go.Proofs.Ytnfdgccmpglbhaa
/-
  Parts of the objects' heap that stand side by side.
-/
namespace Go.Proofs.Ytnfdgccmpglbhaa
set_option linter.unusedVariables false
set_option linter.unusedSimpArgs false
open Go Go.Am

def join (A σ : AHeap) : AHeap := fun j => match A j with | some o => some o | none => σ j
/-- A heap is another one, and a part of its own beside. -/
def Has (S : AHeap → Prop) (σ σb : AHeap) : Prop := ∃ A, S A ∧ (∀ j, A j ≠ none → σb j = none) ∧ σ = join A σb

theorem Has.sub {S : AHeap → Prop} {σ σb : AHeap} (h : Has S σ σb) : Sub σ σb := by
  obtain ⟨A, _, h2, rfl⟩ := h
  intro j o e
  unfold join
  cases hA : A j with
  | none => exact e
  | some x => rw [h2 j (by rw [hA]; nofun)] at e; cases e
theorem Has.gone {S : AHeap → Prop} {σ σb : AHeap} (h : Has S σ σb) {j : Nat} (hj : σ j = none) : σb j = none := by
  obtain ⟨A, _, h2, rfl⟩ := h
  unfold join at hj
  cases hA : A j with
  | none => rw [hA] at hj; exact hj
  | some x => rw [hA] at hj; cases hj
theorem Has.swap {S T : AHeap → Prop} {σ2 σ1 σ0 : AHeap} (h : Has S σ2 σ1) (k : Has T σ1 σ0) : ∃ σ', Has T σ2 σ' ∧ Has S σ' σ0 := by
  obtain ⟨A, hS, hA, rfl⟩ := h
  obtain ⟨B, hT, hB, rfl⟩ := k
  have hAB : ∀ j, A j ≠ none → B j = none ∧ σ0 j = none := by
    intro j hj
    have := hA j hj
    unfold join at this
    cases hb : B j with
    | none => rw [hb] at this; exact ⟨rfl, this⟩
    | some x => rw [hb] at this; cases this
  refine ⟨join A σ0, ⟨B, hT, ?_, ?_⟩, A, hS, fun j hj => (hAB j hj).2, rfl⟩
  · intro j hj
    unfold join
    cases ha : A j with
    | none => exact hB j hj
    | some x => exact absurd (hAB j (by rw [ha]; nofun)).1 hj
  · funext j
    unfold join
    cases ha : A j with
    | none => rfl
    | some x => rw [(hAB j (by rw [ha]; nofun)).1]

theorem Has.ext {S : AHeap → Prop} {σ σb : AHeap} (h : Has S σ σb) : Ext σb σ := by
  obtain ⟨A, _, h2, rfl⟩ := h
  intro j o _ e
  unfold join
  cases hA : A j with
  | none => exact e
  | some x => rw [h2 j (by rw [hA]; nofun)] at e; cases e

theorem join_upd (A σ : AHeap) (id : Nat) (o : AObj) : join (upd A id o) σ = upd (join A σ) id o := by
  funext j
  unfold join
  by_cases e : j = id
  · subst e; rw [upd_same, upd_same]
  · rw [upd_ne _ _ e, upd_ne _ _ e]
theorem join_none (σ : AHeap) : join (fun _ => none) σ = σ := rfl

theorem Wr.has {σ σb : AHeap} {id : Nat} {bs : List Bool} : Wr σ id bs σb ↔ Has (fun A => Wr A id bs fun _ => none) σ σb := by
  constructor
  · rintro ⟨hid, ⟨hnil, rfl⟩ | ⟨hne, r, hri, hr, rfl⟩⟩
    · refine ⟨_, ⟨rfl, .inl ⟨hnil, rfl⟩⟩, ?_, ?_⟩
      · intro j hj
        by_cases e : j = id
        · subst e; exact hid
        · rw [upd_ne _ _ e] at hj; exact absurd rfl hj
      · rw [join_upd, join_none]
    · refine ⟨_, ⟨rfl, .inr ⟨hne, r, hri, rfl, rfl⟩⟩, ?_, ?_⟩
      · intro j hj
        by_cases e : j = id
        · subst e; exact hid
        · rw [upd_ne _ _ e] at hj
          by_cases e2 : j = r
          · subst e2; exact hr
          · rw [upd_ne _ _ e2] at hj; exact absurd rfl hj
      · rw [join_upd, join_upd, join_none]
  · rintro ⟨A, ⟨_, ⟨hnil, rfl⟩ | ⟨hne, r, hri, _, rfl⟩⟩, hd, rfl⟩
    · have hid := hd id (by rw [upd_same]; nofun)
      exact ⟨hid, .inl ⟨hnil, by rw [join_upd, join_none]⟩⟩
    · have hid := hd id (by rw [upd_same]; nofun)
      have hr := hd r (by rw [upd_ne _ _ hri, upd_same]; nofun)
      exact ⟨hid, .inr ⟨hne, r, hri, hr, by rw [join_upd, join_upd, join_none]⟩⟩
theorem Rd.has {σ σb : AHeap} {id : Nat} {b : List UInt8} {k : Nat} : Rd σ id b k σb ↔ Has (fun A => Rd A id b k fun _ => none) σ σb := by
  constructor
  · rintro ⟨hid, h1, h2, tk, rfl⟩
    refine ⟨_, ⟨rfl, h1, h2, tk, rfl⟩, ?_, ?_⟩
    · intro j hj
      by_cases e : j = id
      · subst e; exact hid
      · rw [upd_ne _ _ e] at hj; exact absurd rfl hj
    · rw [join_upd, join_none]
  · rintro ⟨A, ⟨_, h1, h2, tk, rfl⟩, hd, rfl⟩
    exact ⟨hd id (by rw [upd_same]; nofun), h1, h2, tk, by rw [join_upd, join_none]⟩
theorem Wr.sub {σ σb : AHeap} {id : Nat} {bs : List Bool} (h : Wr σ id bs σb) : Sub σ σb := (Wr.has.1 h).sub
theorem Rd.sub {σ σb : AHeap} {id : Nat} {b : List UInt8} {k : Nat} (h : Rd σ id b k σb) : Sub σ σb := (Rd.has.1 h).sub
theorem swap_rw {σ2 σ1 σ0 : AHeap} {i j : Nat} {b : List UInt8} {k : Nat} {bs : List Bool} (h : Rd σ2 i b k σ1) (h' : Wr σ1 j bs σ0) : ∃ σ', Wr σ2 j bs σ' ∧ Rd σ' i b k σ0 := by
  obtain ⟨σ', h1, h2⟩ := (Rd.has.1 h).swap (Wr.has.1 h'); exact ⟨σ', Wr.has.2 h1, Rd.has.2 h2⟩
theorem swap_wr {σ2 σ1 σ0 : AHeap} {i j : Nat} {b : List UInt8} {k : Nat} {bs : List Bool} (h : Wr σ2 j bs σ1) (h' : Rd σ1 i b k σ0) : ∃ σ', Rd σ2 i b k σ' ∧ Wr σ' j bs σ0 := by
  obtain ⟨σ', h1, h2⟩ := (Wr.has.1 h).swap (Rd.has.1 h'); exact ⟨σ', Rd.has.2 h1, Wr.has.2 h2⟩
theorem swap_ww {σ2 σ1 σ0 : AHeap} {i j : Nat} {cs bs : List Bool} (h : Wr σ2 i cs σ1) (h' : Wr σ1 j bs σ0) : ∃ σ', Wr σ2 j bs σ' ∧ Wr σ' i cs σ0 := by
  obtain ⟨σ', h1, h2⟩ := (Wr.has.1 h).swap (Wr.has.1 h'); exact ⟨σ', Wr.has.2 h1, Wr.has.2 h2⟩
theorem swap_rr {σ2 σ1 σ0 : AHeap} {i j : Nat} {b b' : List UInt8} {k k' : Nat} (h : Rd σ2 i b k σ1) (h' : Rd σ1 j b' k' σ0) : ∃ σ', Rd σ2 j b' k' σ' ∧ Rd σ' i b k σ0 := by
  obtain ⟨σ', h1, h2⟩ := (Rd.has.1 h).swap (Rd.has.1 h'); exact ⟨σ', Rd.has.2 h1, Rd.has.2 h2⟩
theorem Wr.ext {σ σb : AHeap} {id : Nat} {bs : List Bool} (h : Wr σ id bs σb) : Ext σb σ := (Wr.has.1 h).ext
theorem Rd.ext {σ σb : AHeap} {id : Nat} {b : List UInt8} {k : Nat} (h : Rd σ id b k σb) : Ext σb σ := (Rd.has.1 h).ext
end Go.Proofs.Ytnfdgccmpglbhaa
/-
  The bodies of one package, compiled to the framework's language (printed by a program of this session).
-/
namespace Go.Proofs.Ytnfdgccmpglbhaa
set_option linter.unusedVariables false
set_option linter.unusedSimpArgs false
open Go Go.Am
/- bsr.Least -/
def c60 : Cfg := ⟨qs, [], 20, []⟩
def ir60 : IFun := ⟨1, [.tmp s2, .tmp s3],
  (.seq (.reg (.one ⟨some s2, none, (.mv (.c (.v (.int .i64 0))))⟩
    (.one ⟨some s3, none, (.mv (.c (.v (.int .i64 0))))⟩
    .done)))
  (.scope (.seq (.seq (.reg (.one ⟨some s6, none, (.mv (.t s0))⟩
    (.one ⟨some s7, none, (.callq 114 [(.t s6)])⟩
    (.one ⟨some s8, none, (.not (.t s7))⟩
    .done))))
  (.cond (.t s8) (.seq (.reg (.one ⟨some s2, none, (.mv (.c (.v (.int .i64 0))))⟩
    (.one ⟨some s3, none, (.mv (.c (.v (.int .i64 1))))⟩
    .done)))
  .ret) .skip))
  (.seq (.reg (.one ⟨some s4, none, (.mv (.c (.v (.int .i64 0))))⟩
    (.one ⟨some s5, none, (.mv (.c (.v (.int .i64 0))))⟩
    .done)))
  (.seq (.label 0)
  (.seq (.seq (.reg (.one ⟨some s9, none, (.mv (.t s5))⟩
    (.one ⟨some s10, none, (.mv (.t s0))⟩
    (.one ⟨some s11, none, (.bin false .lss (.t s9) (.t s10))⟩
    .done))))
  (.cond (.t s11) (.seq (.reg (.one ⟨some s12, none, (.mv (.t s4))⟩
    (.one ⟨some s13, none, (.mv (.t s4))⟩
    (.one ⟨some s14, none, (.bin false .quo (.t s13) (.c (.v (.int .i64 6))))⟩
    (.one ⟨some s15, none, (.bin false .add (.t s14) (.c (.v (.int .i64 1))))⟩
    (.one ⟨some s16, none, (.bin false .add (.t s12) (.t s15))⟩
    (.one ⟨some s4, none, (.mv (.t s16))⟩
    .done)))))))
  (.seq (.reg (.one ⟨some s17, none, (.mv (.t s5))⟩
    (.one ⟨some s18, none, (.bin false .add (.t s17) (.c (.v (.int .i64 1))))⟩
    (.one ⟨some s5, none, (.mv (.t s18))⟩
    .done))))
  (.goto 0))) .skip))
  (.seq (.reg (.one ⟨some s19, none, (.mv (.t s4))⟩
    (.one ⟨some s2, none, (.mv (.t s19))⟩
    (.one ⟨some s3, none, (.mv (.c (.v (.int .i64 0))))⟩
    .done))))
  .ret)))))))⟩
theorem ok60 : compF Try.prog c60 Try.f60 = some ir60 := by kernel_rfl
theorem k_bsr_Least {args : List AVal} {σ : AHeap} {Q : AVal → AHeap → Prop} (hl : Nat.ble args.length 20 = true) (h : argsK (Env.full 9) 0 args fun env => evC Try.prog c60 ir60.body env σ (retQ ir60 Q)) : ACalls Try.prog 60 args σ Q :=
  acalls_of Try.func60 ok60 rfl (Nat.le_of_ble_eq_true hl) h
/- bsr.Level -/
def c61 : Cfg := ⟨qs, [], 25, []⟩
def ir61 : IFun := ⟨1, [.tmp s2, .tmp s3],
  (.seq (.reg (.one ⟨some s2, none, (.mv (.c (.v (.int .i64 0))))⟩
    (.one ⟨some s3, none, (.mv (.c (.v (.int .i64 0))))⟩
    .done)))
  (.scope (.seq (.seq (.reg (.one ⟨some s7, none, (.mv (.t s0))⟩
    (.one ⟨some s8, none, (.bin false .lss (.t s7) (.c (.v (.int .i64 0))))⟩
    .done)))
  (.cond (.t s8) (.seq (.reg (.one ⟨some s2, none, (.mv (.c (.v (.int .i64 0))))⟩
    (.one ⟨some s3, none, (.mv (.c (.v (.int .i64 1))))⟩
    .done)))
  .ret) .skip))
  (.seq (.reg (.one ⟨some s4, none, (.mv (.c (.v (.int .i64 0))))⟩
    (.one ⟨some s5, none, (.mv (.c (.v (.int .i64 0))))⟩
    .done)))
  (.seq (.label 0)
  (.seq (.reg (.one ⟨some s9, none, (.mv (.t s4))⟩
    (.one ⟨some s10, none, (.mv (.t s4))⟩
    (.one ⟨some s11, none, (.bin false .quo (.t s10) (.c (.v (.int .i64 6))))⟩
    (.one ⟨some s12, none, (.bin false .add (.t s9) (.t s11))⟩
    (.one ⟨some s13, none, (.bin false .add (.t s12) (.c (.v (.int .i64 1))))⟩
    (.one ⟨some s6, none, (.mv (.t s13))⟩
    .done)))))))
  (.seq (.seq (.reg (.one ⟨some s14, none, (.mv (.t s5))⟩
    (.one ⟨some s15, none, (.bin false .lss (.t s14) (.c (.v (.int .i64 63))))⟩
    (.one ⟨some s16, none, (.mv (.t s15))⟩
    (.one ⟨some s17, some (s16, true), (.mv (.t s6))⟩
    (.one ⟨some s18, some (s16, true), (.mv (.t s0))⟩
    (.one ⟨some s19, some (s16, true), (.bin false .leq (.t s17) (.t s18))⟩
    (.one ⟨some s20, none, (.pick (.t s16) (.t s19) (.c (.v (.bool false))))⟩
    .done))))))))
  (.cond (.t s20) (.seq (.reg (.one ⟨some s21, none, (.mv (.t s6))⟩
    (.one ⟨some s4, none, (.mv (.t s21))⟩
    .done)))
  (.seq (.reg (.one ⟨some s22, none, (.mv (.t s5))⟩
    (.one ⟨some s23, none, (.bin false .add (.t s22) (.c (.v (.int .i64 1))))⟩
    (.one ⟨some s5, none, (.mv (.t s23))⟩
    .done))))
  (.goto 0))) .skip))
  (.seq (.reg (.one ⟨some s24, none, (.mv (.t s5))⟩
    (.one ⟨some s2, none, (.mv (.t s24))⟩
    (.one ⟨some s3, none, (.mv (.c (.v (.int .i64 0))))⟩
    .done))))
  .ret))))))))⟩
theorem ok61 : compF Try.prog c61 Try.f61 = some ir61 := by kernel_rfl
theorem k_bsr_Level {args : List AVal} {σ : AHeap} {Q : AVal → AHeap → Prop} (hl : Nat.ble args.length 25 = true) (h : argsK (Env.full 9) 0 args fun env => evC Try.prog c61 ir61.body env σ (retQ ir61 Q)) : ACalls Try.prog 61 args σ Q :=
  acalls_of Try.func61 ok61 rfl (Nat.le_of_ble_eq_true hl) h
/- bsr.Of -/
def c64 : Cfg := ⟨qs, [], 28, []⟩
def ir64 : IFun := ⟨1, [.cell s2 (some 4), .tmp s3],
  (.seq (.reg (.one ⟨some s1, none, (.box 4 (.t s0))⟩
    (.one ⟨some s2, none, (.new [(.v (.int .i64 0)), (.v (.int .i64 0)), (.v (.int .i64 0)), (.v (.int .i64 0))])⟩
    (.one ⟨some s3, none, (.mv (.c (.v (.int .i64 0))))⟩
    .done))))
  (.seq (.reg (.one ⟨some s4, none, (.new [(.v (.int .i64 0)), (.v (.int .i64 0)), (.v (.int .i64 0)), (.v (.int .i64 0))])⟩
    .done))
  (.seq (.seq (.reg (.one ⟨some s9, none, (.load (some 4) (.t s1))⟩
    (.one ⟨some s10, none, (.mv (.c (.v (.int .i64 0))))⟩
    .done)))
  (.block 0 (.loop (.seq (.reg (.one ⟨some s11, none, (.bin false .lss (.t s10) (.c (.v (.int .i64 4))))⟩
    .done))
  (.seq (.cond (.t s11) .skip (.exit 0))
  (.seq (.block 1 (.seq (.reg (.one ⟨some s12, none, (.mv (.t s10))⟩
    (.one ⟨some s13, none, (.index none 1 4 (.t s9) (.t s10))⟩
    (.one ⟨some s5, none, (.mv (.t s12))⟩
    (.one ⟨some s6, none, (.mv (.t s13))⟩
    .done)))))
  (.seq (.reg (.one ⟨some s15, none, (.mv (.t s6))⟩
    (.one ⟨some s16, none, (.callq 61 [(.t s15)])⟩
    (.one ⟨some s14, none, (.mv (.t s16))⟩
    (.one ⟨some s17, none, (.ext (.t s14) 0)⟩
    (.one ⟨some s18, none, (.ext (.t s14) 1)⟩
    (.one ⟨some s7, none, (.mv (.t s17))⟩
    (.one ⟨some s8, none, (.mv (.t s18))⟩
    .done))))))))
  (.seq (.seq (.reg (.one ⟨some s19, none, (.mv (.t s8))⟩
    (.one ⟨some s20, none, (.bin false .neq (.t s19) (.c (.v (.int .i64 0))))⟩
    .done)))
  (.cond (.t s20) (.seq (.reg (.one ⟨some s21, none, (.build [(.v (.int .i64 0)), (.v (.int .i64 0)), (.v (.int .i64 0)), (.v (.int .i64 0))] [])⟩
    (.one ⟨some s22, none, (.mv (.t s8))⟩
    (.one ⟨none, none, (.store 4 (.t s2) (.t s21))⟩
    (.one ⟨some s3, none, (.mv (.t s22))⟩
    .done)))))
  .ret) .skip))
  (.reg (.one ⟨some s23, none, (.mv (.t s5))⟩
    (.one ⟨some s24, none, (.mv (.t s7))⟩
    (.one ⟨some s25, none, (.iaddrA 1 4 (.t s4) (.t s23))⟩
    (.one ⟨none, none, (.store 1 (.t s25) (.t s24))⟩
    .done)))))))))
  (.reg (.one ⟨some s26, none, (.bin false .add (.t s10) (.c (.v (.int .i64 1))))⟩
    (.one ⟨some s10, none, (.mv (.t s26))⟩
    .done)))))))))
  (.seq (.reg (.one ⟨some s27, none, (.load (some 4) (.t s4))⟩
    (.one ⟨none, none, (.store 4 (.t s2) (.t s27))⟩
    (.one ⟨some s3, none, (.mv (.c (.v (.int .i64 0))))⟩
    .done))))
  .ret))))⟩
theorem ok64 : compF Try.prog c64 Try.f64 = some ir64 := by kernel_rfl
theorem k_bsr_Of {args : List AVal} {σ : AHeap} {Q : AVal → AHeap → Prop} (hl : Nat.ble args.length 28 = true) (h : argsK (Env.full 9) 0 args fun env => evC Try.prog c64 ir64.body env σ (retQ ir64 Q)) : ACalls Try.prog 64 args σ Q :=
  acalls_of Try.func64 ok64 rfl (Nat.le_of_ble_eq_true hl) h
/- bsr.Right -/
def c66 : Cfg := ⟨qs, [], 13, []⟩
def ir66 : IFun := ⟨1, [.tmp s2],
  (.seq (.reg (.one ⟨some s1, none, (.box 4 (.t s0))⟩
    (.one ⟨some s2, none, (.mv (.c (.v (.bool false))))⟩
    .done)))
  (.seq (.seq (.reg (.one ⟨some s5, none, (.load (some 4) (.t s1))⟩
    (.one ⟨some s6, none, (.mv (.c (.v (.int .i64 0))))⟩
    .done)))
  (.block 0 (.loop (.seq (.reg (.one ⟨some s7, none, (.bin false .lss (.t s6) (.c (.v (.int .i64 4))))⟩
    .done))
  (.seq (.cond (.t s7) .skip (.exit 0))
  (.seq (.block 1 (.seq (.reg (.one ⟨some s8, none, (.index none 1 4 (.t s5) (.t s6))⟩
    (.one ⟨some s4, none, (.mv (.t s8))⟩
    .done)))
  (.seq (.reg (.one ⟨some s9, none, (.mv (.t s4))⟩
    (.one ⟨some s10, none, (.callq 114 [(.t s9)])⟩
    (.one ⟨some s11, none, (.not (.t s10))⟩
    .done))))
  (.cond (.t s11) (.seq (.reg (.one ⟨some s2, none, (.mv (.c (.v (.bool false))))⟩
    .done))
  .ret) .skip))))
  (.reg (.one ⟨some s12, none, (.bin false .add (.t s6) (.c (.v (.int .i64 1))))⟩
    (.one ⟨some s6, none, (.mv (.t s12))⟩
    .done)))))))))
  (.seq (.reg (.one ⟨some s2, none, (.mv (.c (.v (.bool true))))⟩
    .done))
  .ret)))⟩
theorem ok66 : compF Try.prog c66 Try.f66 = some ir66 := by kernel_rfl
theorem k_bsr_Right {args : List AVal} {σ : AHeap} {Q : AVal → AHeap → Prop} (hl : Nat.ble args.length 13 = true) (h : argsK (Env.full 9) 0 args fun env => evC Try.prog c66 ir66.body env σ (retQ ir66 Q)) : ACalls Try.prog 66 args σ Q :=
  acalls_of Try.func66 ok66 rfl (Nat.le_of_ble_eq_true hl) h
/- bsr.Sum -/
def c67 : Cfg := ⟨qs, [], 30, []⟩
def ir67 : IFun := ⟨1, [.tmp s2],
  (.seq (.reg (.one ⟨some s1, none, (.box 4 (.t s0))⟩
    (.one ⟨some s2, none, (.mv (.c (.v (.int .i64 0))))⟩
    .done)))
  (.seq (.seq (.reg (.one ⟨some s8, none, (.load (some 4) (.t s1))⟩
    (.one ⟨some s9, none, (.build [(.v (.int .i64 0)), (.v (.int .i64 0)), (.v (.int .i64 0)), (.v (.int .i64 0))] [])⟩
    (.one ⟨some s10, none, (.eqAgg false [false, false, false, false] (.t s8) (.t s9))⟩
    (.one ⟨some s11, none, (.mv (.t s10))⟩
    (.one ⟨some s12, some (s11, false), (.load (some 4) (.t s1))⟩
    (.one ⟨some s13, some (s11, false), (.callq 66 [(.t s12)])⟩
    (.one ⟨some s14, some (s11, false), (.not (.t s13))⟩
    (.one ⟨some s15, none, (.pick (.t s11) (.c (.v (.bool true))) (.t s14))⟩
    .done)))))))))
  (.cond (.t s15) (.seq (.reg (.one ⟨some s2, none, (.mv (.c (.v (.int .i64 0))))⟩
    .done))
  .ret) .skip))
  (.seq (.reg (.one ⟨some s3, none, (.mv (.c (.v (.int .i64 0))))⟩
    .done))
  (.seq (.seq (.reg (.one ⟨some s16, none, (.load (some 4) (.t s1))⟩
    (.one ⟨some s17, none, (.mv (.c (.v (.int .i64 0))))⟩
    .done)))
  (.block 0 (.loop (.seq (.reg (.one ⟨some s18, none, (.bin false .lss (.t s17) (.c (.v (.int .i64 4))))⟩
    .done))
  (.seq (.cond (.t s18) .skip (.exit 0))
  (.seq (.block 1 (.seq (.reg (.one ⟨some s19, none, (.index none 1 4 (.t s16) (.t s17))⟩
    (.one ⟨some s5, none, (.mv (.t s19))⟩
    .done)))
  (.seq (.reg (.one ⟨some s21, none, (.mv (.t s5))⟩
    (.one ⟨some s22, none, (.callq 60 [(.t s21)])⟩
    (.one ⟨some s20, none, (.mv (.t s22))⟩
    (.one ⟨some s23, none, (.ext (.t s20) 0)⟩
    (.one ⟨some s24, none, (.ext (.t s20) 1)⟩
    (.one ⟨some s6, none, (.mv (.t s23))⟩
    (.one ⟨some s7, none, (.mv (.t s24))⟩
    .done))))))))
  (.reg (.one ⟨some s25, none, (.mv (.t s3))⟩
    (.one ⟨some s26, none, (.mv (.t s6))⟩
    (.one ⟨some s27, none, (.bin false .add (.t s25) (.t s26))⟩
    (.one ⟨some s3, none, (.mv (.t s27))⟩
    .done))))))))
  (.reg (.one ⟨some s28, none, (.bin false .add (.t s17) (.c (.v (.int .i64 1))))⟩
    (.one ⟨some s17, none, (.mv (.t s28))⟩
    .done)))))))))
  (.seq (.reg (.one ⟨some s29, none, (.mv (.t s3))⟩
    (.one ⟨some s2, none, (.mv (.t s29))⟩
    .done)))
  .ret)))))⟩
theorem ok67 : compF Try.prog c67 Try.f67 = some ir67 := by kernel_rfl
theorem k_bsr_Sum {args : List AVal} {σ : AHeap} {Q : AVal → AHeap → Prop} (hl : Nat.ble args.length 30 = true) (h : argsK (Env.full 9) 0 args fun env => evC Try.prog c67 ir67.body env σ (retQ ir67 Q)) : ACalls Try.prog 67 args σ Q :=
  acalls_of Try.func67 ok67 rfl (Nat.le_of_ble_eq_true hl) h
/- bsr.isLevel -/
def c114 : Cfg := ⟨qs, [], 9, []⟩
def ir114 : IFun := ⟨1, [.tmp s2],
  (.seq (.reg (.one ⟨some s2, none, (.mv (.c (.v (.bool false))))⟩
    .done))
  (.seq (.reg (.one ⟨some s3, none, (.mv (.t s0))⟩
    (.one ⟨some s4, none, (.bin false .geq (.t s3) (.c (.v (.int .i64 0))))⟩
    (.one ⟨some s5, none, (.mv (.t s4))⟩
    (.one ⟨some s6, some (s5, true), (.mv (.t s0))⟩
    (.one ⟨some s7, some (s5, true), (.bin false .leq (.t s6) (.c (.v (.int .i64 63))))⟩
    (.one ⟨some s8, none, (.pick (.t s5) (.t s7) (.c (.v (.bool false))))⟩
    (.one ⟨some s2, none, (.mv (.t s8))⟩
    .done))))))))
  .ret))⟩
theorem ok114 : compF Try.prog c114 Try.f114 = some ir114 := by kernel_rfl
theorem k_bsr_isLevel {args : List AVal} {σ : AHeap} {Q : AVal → AHeap → Prop} (hl : Nat.ble args.length 9 = true) (h : argsK (Env.full 9) 0 args fun env => evC Try.prog c114 ir114.body env σ (retQ ir114 Q)) : ACalls Try.prog 114 args σ Q :=
  acalls_of Try.func114 ok114 rfl (Nat.le_of_ble_eq_true hl) h
/- bsr.Write -/
def c115 : Cfg := ⟨qs, [], 22, []⟩
def ir115 : IFun := ⟨1, [.tmp s2, .tmp s3],
  (.seq (.reg (.one ⟨some s1, none, (.box 4 (.t s0))⟩
    (.one ⟨some s2, none, (.mv (.c (.slice 1 [] .full)))⟩
    (.one ⟨some s3, none, (.mv (.c (.v (.int .i64 0))))⟩
    .done))))
  (.seq (.seq (.reg (.one ⟨some s7, none, (.load (some 4) (.t s1))⟩
    (.one ⟨some s8, none, (.callq 66 [(.t s7)])⟩
    (.one ⟨some s9, none, (.not (.t s8))⟩
    .done))))
  (.cond (.t s9) (.seq (.reg (.one ⟨some s2, none, (.mv (.c (.slice 1 [] .full)))⟩
    (.one ⟨some s3, none, (.mv (.c (.v (.int .i64 3))))⟩
    .done)))
  .ret) .skip))
  (.seq (.reg (.one ⟨some s10, none, (.callq 101 [])⟩
    (.one ⟨some s4, none, (.mv (.t s10))⟩
    .done)))
  (.seq (.seq (.reg (.one ⟨some s11, none, (.load (some 4) (.t s1))⟩
    (.one ⟨some s12, none, (.mv (.c (.v (.int .i64 0))))⟩
    .done)))
  (.block 0 (.loop (.seq (.reg (.one ⟨some s13, none, (.bin false .lss (.t s12) (.c (.v (.int .i64 4))))⟩
    .done))
  (.seq (.cond (.t s13) .skip (.exit 0))
  (.seq (.block 1 (.seq (.reg (.one ⟨some s14, none, (.index none 1 4 (.t s11) (.t s12))⟩
    (.one ⟨some s6, none, (.mv (.t s14))⟩
    .done)))
  (.reg (.one ⟨some s15, none, (.mv (.t s4))⟩
    (.one ⟨some s16, none, (.mv (.t s6))⟩
    (.one ⟨some s17, none, (.conv .u64 (.t s16))⟩
    (.one ⟨some s18, none, (.call 102 [(.t s15), (.t s17), (.c (.v (.int .i64 6)))])⟩
    .done)))))))
  (.reg (.one ⟨some s19, none, (.bin false .add (.t s12) (.c (.v (.int .i64 1))))⟩
    (.one ⟨some s12, none, (.mv (.t s19))⟩
    .done)))))))))
  (.seq (.reg (.one ⟨some s20, none, (.mv (.t s4))⟩
    (.one ⟨some s21, none, (.callq 105 [(.t s20)])⟩
    (.one ⟨some s2, none, (.mv (.t s21))⟩
    (.one ⟨some s3, none, (.mv (.c (.v (.int .i64 0))))⟩
    .done)))))
  .ret)))))⟩
theorem ok115 : compF Try.prog c115 Try.f115 = some ir115 := by kernel_rfl
theorem k_bsr_Write {args : List AVal} {σ : AHeap} {Q : AVal → AHeap → Prop} (hl : Nat.ble args.length 22 = true) (h : argsK (Env.full 9) 0 args fun env => evC Try.prog c115 ir115.body env σ (retQ ir115 Q)) : ACalls Try.prog 115 args σ Q :=
  acalls_of Try.func115 ok115 rfl (Nat.le_of_ble_eq_true hl) h
/- bsr.Read -/
def c116 : Cfg := ⟨qs, [], 35, []⟩
def ir116 : IFun := ⟨1, [.cell s2 (some 4), .tmp s3],
  (.seq (.reg (.one ⟨some s2, none, (.new [(.v (.int .i64 0)), (.v (.int .i64 0)), (.v (.int .i64 0)), (.v (.int .i64 0))])⟩
    (.one ⟨some s3, none, (.mv (.c (.v (.int .i64 0))))⟩
    .done)))
  (.seq (.block 0 (.seq (.reg (.one ⟨some s10, none, (.mv (.t s0))⟩
    (.one ⟨some s11, none, (.len false (.t s10))⟩
    (.one ⟨some s12, none, (.bin false .lss (.t s11) (.c (.v (.int .i64 3))))⟩
    (.one ⟨some s9, none, (.mv (.t s12))⟩
    .done)))))
  (.cond (.t s9) (.seq (.reg (.one ⟨some s13, none, (.build [(.v (.int .i64 0)), (.v (.int .i64 0)), (.v (.int .i64 0)), (.v (.int .i64 0))] [])⟩
    (.one ⟨none, none, (.store 4 (.t s2) (.t s13))⟩
    (.one ⟨some s3, none, (.mv (.c (.v (.int .i64 8))))⟩
    .done))))
  .ret) (.seq (.reg (.one ⟨some s15, none, (.mv (.t s0))⟩
    (.one ⟨some s16, none, (.len false (.t s15))⟩
    (.one ⟨some s17, none, (.bin false .gtr (.t s16) (.c (.v (.int .i64 3))))⟩
    (.one ⟨some s14, none, (.mv (.t s17))⟩
    .done)))))
  (.cond (.t s14) (.seq (.reg (.one ⟨some s18, none, (.build [(.v (.int .i64 0)), (.v (.int .i64 0)), (.v (.int .i64 0)), (.v (.int .i64 0))] [])⟩
    (.one ⟨none, none, (.store 4 (.t s2) (.t s18))⟩
    (.one ⟨some s3, none, (.mv (.c (.v (.int .i64 2))))⟩
    .done))))
  .ret) .skip)))))
  (.seq (.reg (.one ⟨some s4, none, (.new [(.v (.int .i64 0)), (.v (.int .i64 0)), (.v (.int .i64 0)), (.v (.int .i64 0))])⟩
    .done))
  (.seq (.reg (.one ⟨some s19, none, (.mv (.t s0))⟩
    (.one ⟨some s20, none, (.callq 92 [(.t s19)])⟩
    (.one ⟨some s5, none, (.mv (.t s20))⟩
    .done))))
  (.seq (.seq (.reg (.one ⟨some s21, none, (.mv (.c (.v (.int .i64 0))))⟩
    .done))
  (.block 1 (.loop (.seq (.reg (.one ⟨some s22, none, (.bin false .lss (.t s21) (.c (.v (.int .i64 4))))⟩
    .done))
  (.seq (.cond (.t s22) .skip (.exit 1))
  (.seq (.block 2 (.seq (.reg (.one ⟨some s23, none, (.mv (.t s21))⟩
    (.one ⟨some s6, none, (.mv (.t s23))⟩
    .done)))
  (.seq (.reg (.one ⟨some s25, none, (.mv (.t s5))⟩
    (.one ⟨some s26, none, (.call 123 [(.t s25), (.c (.v (.int .i64 6)))])⟩
    (.one ⟨some s24, none, (.mv (.t s26))⟩
    (.one ⟨some s27, none, (.ext (.t s24) 0)⟩
    (.one ⟨some s28, none, (.ext (.t s24) 1)⟩
    (.one ⟨some s7, none, (.mv (.t s27))⟩
    (.one ⟨some s8, none, (.mv (.t s28))⟩
    .done))))))))
  (.reg (.one ⟨some s29, none, (.mv (.t s6))⟩
    (.one ⟨some s30, none, (.mv (.t s7))⟩
    (.one ⟨some s31, none, (.conv .i64 (.t s30))⟩
    (.one ⟨some s32, none, (.iaddrA 1 4 (.t s4) (.t s29))⟩
    (.one ⟨none, none, (.store 1 (.t s32) (.t s31))⟩
    .done)))))))))
  (.reg (.one ⟨some s33, none, (.bin false .add (.t s21) (.c (.v (.int .i64 1))))⟩
    (.one ⟨some s21, none, (.mv (.t s33))⟩
    .done)))))))))
  (.seq (.reg (.one ⟨some s34, none, (.load (some 4) (.t s4))⟩
    (.one ⟨none, none, (.store 4 (.t s2) (.t s34))⟩
    (.one ⟨some s3, none, (.mv (.c (.v (.int .i64 0))))⟩
    .done))))
  .ret))))))⟩
theorem ok116 : compF Try.prog c116 Try.f116 = some ir116 := by kernel_rfl
theorem k_bsr_Read {args : List AVal} {σ : AHeap} {Q : AVal → AHeap → Prop} (hl : Nat.ble args.length 35 = true) (h : argsK (Env.full 9) 0 args fun env => evC Try.prog c116 ir116.body env σ (retQ ir116 Q)) : ACalls Try.prog 116 args σ Q :=
  acalls_of Try.func116 ok116 rfl (Nat.le_of_ble_eq_true hl) h
end Go.Proofs.Ytnfdgccmpglbhaa
/-
  Levels and their leasts.
-/
namespace Go.Proofs.Ytnfdgccmpglbhaa
set_option linter.unusedVariables false
set_option linter.unusedSimpArgs false
open Go Go.Am

/-- A level's least. -/
def leastV : Nat → Nat
  | 0 => 0
  | i + 1 => leastV i + (leastV i / 6 + 1)
theorem leastV_lt (i : Nat) : leastV i < leastV (i + 1) := by show leastV i < leastV i + (leastV i / 6 + 1); omega
theorem leastV_mono {i j : Nat} (h : i ≤ j) : leastV i ≤ leastV j := by
  induction h with
  | refl => exact Nat.le_refl _
  | step _ ih => exact Nat.le_trans ih (Nat.le_of_lt (leastV_lt _))
theorem leastV_small : ∀ i, i < 65 → leastV i ≤ 1000000 := by decide +kernel
def upTo (n : Nat) : Nat → Nat
  | 0 => 0
  | i + 1 => if leastV (i + 1) ≤ n then i + 1 else upTo n i
/-- A number's level. -/
def levelV (n : Nat) : Nat := upTo n 63
theorem upTo_le (n : Nat) : ∀ j, upTo n j ≤ j
  | 0 => Nat.le_refl _
  | j + 1 => by
    unfold upTo
    split
    · exact Nat.le_refl _
    · exact Nat.le_succ_of_le (upTo_le n j)
theorem upTo_is {n i : Nat} (h : leastV i ≤ n) : ∀ j, i ≤ j → (∀ k, i < k → k ≤ j → n < leastV k) → upTo n j = i
  | 0, hj, _ => by unfold upTo; omega
  | j + 1, hj, hk => by
    unfold upTo
    by_cases e : i = j + 1
    · rw [if_pos (by rw [← e]; exact h), e]
    · have := hk (j + 1) (by omega) (Nat.le_refl _)
      rw [if_neg (by omega)]
      exact upTo_is h j (by omega) fun k a b => hk k a (by omega)
theorem levelV_is {n i : Nat} (h : leastV i ≤ n) (h63 : i ≤ 63) (hn : i = 63 ∨ n < leastV (i + 1)) : levelV n = i := by
  refine upTo_is h 63 h63 fun k a b => ?_
  rcases hn with rfl | hn
  · omega
  · exact Nat.lt_of_lt_of_le hn (leastV_mono (show i + 1 ≤ k by omega))
theorem levelV_le (n : Nat) : levelV n ≤ 63 := upTo_le n 63
theorem upTo_least (n : Nat) : ∀ j, leastV (upTo n j) ≤ n
  | 0 => Nat.zero_le _
  | j + 1 => by
    unfold upTo
    split
    · assumption
    · exact upTo_least n j
theorem levelV_least (n : Nat) : leastV (levelV n) ≤ n := upTo_least n 63
theorem upTo_next (n : Nat) : ∀ j, upTo n j < j → n < leastV (upTo n j + 1)
  | 0, h => by omega
  | j + 1, h => by
    unfold upTo at h ⊢
    split
    · rename_i hc; rw [if_pos hc] at h; omega
    · rename_i hc
      rw [if_neg hc] at h
      by_cases e : upTo n j = j
      · rw [e]; omega
      · exact upTo_next n j (by have := upTo_le n j; omega)
theorem levelV_next {n : Nat} (h : levelV n < 63) : n < leastV (levelV n + 1) := upTo_next n 63 h
theorem levelV_mono {n m : Nat} (h : n ≤ m) : levelV n ≤ levelV m := by
  refine Classical.byContradiction fun hc => ?_
  have h1 := levelV_least n
  have h2 := levelV_le n
  have h3 := levelV_next (n := m) (by omega)
  have h4 := leastV_mono (show levelV m + 1 ≤ levelV n by omega)
  omega
theorem levelV_leastV {i : Nat} (h : i ≤ 63) : levelV (leastV i) = i := levelV_is (Nat.le_refl _) h (.inr (leastV_lt i))

def isLevelV (n : Int) : Bool := decide (0 ≤ n) && decide (n ≤ 63)
theorem isLevelV_iff {n : Int} : isLevelV n = true ↔ 0 ≤ n ∧ n ≤ 63 := by simp [isLevelV]

theorem bIsLevel (n : Int) (σ : AHeap) : ACalls Try.prog i_bsr_isLevel [i64v n] σ fun v σ' => v = boolv (isLevelV n) ∧ σ' = σ := by
  refine k_bsr_isLevel rfl ?_
  ((conv => whnf); (repeat ((first | with_reducible refine abr_true rfl ?_ | with_reducible refine abr_false rfl ?_ | with_reducible refine abr_yes rfl ?_ | refine abr_yes (by decide) ?_ | refine abr_no (by decide) ?_ | with_reducible refine abr_same_ne ?_); (conv => whnf))))
  by_cases h1 : n ≥ 0
  · refine abr_yes h1 ?_
    ((conv => whnf); (repeat ((first | with_reducible refine abr_true rfl ?_ | with_reducible refine abr_false rfl ?_ | with_reducible refine abr_yes rfl ?_ | refine abr_yes (by decide) ?_ | refine abr_no (by decide) ?_ | with_reducible refine abr_same_ne ?_); (conv => whnf))))
    refine aret_same ⟨?_, rfl⟩
    unfold isLevelV
    rw [decide_eq_true h1, Bool.true_and]
    exact congrArg boolv (dec_congr Iff.rfl)
  · refine abr_no h1 ?_
    ((conv => whnf); (repeat ((first | with_reducible refine abr_true rfl ?_ | with_reducible refine abr_false rfl ?_ | with_reducible refine abr_yes rfl ?_ | refine abr_yes (by decide) ?_ | refine abr_no (by decide) ?_ | with_reducible refine abr_same_ne ?_); (conv => whnf))))
    refine aret_same ⟨?_, rfl⟩
    unfold isLevelV
    rw [decide_eq_false h1]; rfl

theorem bLeast (n : Int) (σ : AHeap) : ACalls Try.prog i_bsr_Least [i64v n] σ fun v σ' => v = .tup [i64v (if isLevelV n = true then (leastV n.toNat : Int) else 0), i64v (if isLevelV n = true then 0 else 1)] ∧ σ' = σ := by
  refine k_bsr_Least rfl ?_
  ((conv => whnf); (repeat ((first | with_reducible refine abr_true rfl ?_ | with_reducible refine abr_false rfl ?_ | with_reducible refine abr_yes rfl ?_ | refine abr_yes (by decide) ?_ | refine abr_no (by decide) ?_ | with_reducible refine abr_same_ne ?_); (conv => whnf))))
  refine ascope' (α := Nat) (fun i => [(s4, i64v (leastV i)), (s5, i64v i)]) (fun _ => σ) (fun _ => 0) (fun i => isLevelV n = true ∧ (i : Int) ≤ n) (fun i => n.toNat - i) ?_ ?_
  · ((conv => whnf); (repeat ((first | with_reducible refine abr_true rfl ?_ | with_reducible refine abr_false rfl ?_ | with_reducible refine abr_yes rfl ?_ | refine abr_yes (by decide) ?_ | refine abr_no (by decide) ?_ | with_reducible refine abr_same_ne ?_); (conv => whnf))))
    intro hlab
    ((conv => whnf); (repeat ((first | with_reducible refine abr_true rfl ?_ | with_reducible refine abr_false rfl ?_ | with_reducible refine abr_yes rfl ?_ | refine abr_yes (by decide) ?_ | refine abr_no (by decide) ?_ | with_reducible refine abr_same_ne ?_); (conv => whnf))))
    refine acall (bIsLevel n _) ?_
    rintro _ σ_ ⟨rfl, e_⟩
    obtain rfl := e_.symm
    refine ⟨?_, Ext.refl _⟩
    ((conv => whnf); (repeat ((first | with_reducible refine abr_true rfl ?_ | with_reducible refine abr_false rfl ?_ | with_reducible refine abr_yes rfl ?_ | refine abr_yes (by decide) ?_ | refine abr_no (by decide) ?_ | with_reducible refine abr_same_ne ?_); (conv => whnf))))
    by_cases h : isLevelV n = true
    case neg =>
      refine abr_true (by rw [Bool.eq_false_iff.2 h]; rfl) ?_
      ((conv => whnf); (repeat ((first | with_reducible refine abr_true rfl ?_ | with_reducible refine abr_false rfl ?_ | with_reducible refine abr_yes rfl ?_ | refine abr_yes (by decide) ?_ | refine abr_no (by decide) ?_ | with_reducible refine abr_same_ne ?_); (conv => whnf))))
      exact aret_same ⟨by rw [if_neg h, if_neg h], rfl⟩
    case pos =>
      have h2 := isLevelV_iff.1 h
      refine abr_false (by rw [h]; rfl) ?_
      ((conv => whnf); (repeat ((first | with_reducible refine abr_true rfl ?_ | with_reducible refine abr_false rfl ?_ | with_reducible refine abr_yes rfl ?_ | refine abr_yes (by decide) ?_ | refine abr_no (by decide) ?_ | with_reducible refine abr_same_ne ?_); (conv => whnf))))
      refine hlab _ (fun _ _ _ h => h) _ _ _ _ ⟨0, rfl, ⟨h, by omega⟩, rfl, Sub.refl _, ?_⟩
      ((conv => whnf); (repeat ((first | with_reducible refine abr_true rfl ?_ | with_reducible refine abr_false rfl ?_ | with_reducible refine abr_yes rfl ?_ | refine abr_yes (by decide) ?_ | refine abr_no (by decide) ?_ | with_reducible refine abr_same_ne ?_); (conv => whnf))))
      (repeat' first | with_reducible exact EnvLe.refl _ | (refine EnvLe.node ?_ (by first | exact Or.inl rfl | exact Or.inr (Or.inl rfl) | exact Or.inr (Or.inr ⟨nofun, VLe.slice _ _ _⟩)) ?_))
  · rintro i ⟨h, hi⟩
    have h2 := isLevelV_iff.1 h
    have hs := leastV_small i (by omega)
    have hs2 := leastV_small (i + 1) (by omega)
    refine ⟨_, rfl, ?_⟩
    ((conv => whnf); (repeat ((first | with_reducible refine abr_true rfl ?_ | with_reducible refine abr_false rfl ?_ | with_reducible refine abr_yes rfl ?_ | refine abr_yes (by decide) ?_ | refine abr_no (by decide) ?_ | with_reducible refine abr_same_ne ?_); (conv => whnf))))
    intro hlab
    ((conv => whnf); (repeat ((first | with_reducible refine abr_true rfl ?_ | with_reducible refine abr_false rfl ?_ | with_reducible refine abr_yes rfl ?_ | refine abr_yes (by decide) ?_ | refine abr_no (by decide) ?_ | with_reducible refine abr_same_ne ?_); (conv => whnf))))
    by_cases hlt : (i : Int) < n
    · (repeat ((first | refine aload (by (repeat (first | with_reducible exact upd_same _ _ _ | assumption | rw [upd_ne _ _ (by first | assumption | (apply Ne.symm; assumption))]))) rfl ?_ | refine afit_i64 (by omega) ?_ | refine arem_nonneg (by omega) (by omega) ?_ | refine adiv_i64 (by omega) (by omega) ?_ | refine abr_yes (by omega) ?_ | refine abr_no (by omega) ?_ | refine amin ?_ | refine amax ?_ | refine afit_u64 (by omega) ?_ | refine afit_u8 (by omega) ?_ | rw [List.length_map]); ((conv => whnf); (repeat ((first | with_reducible refine abr_true rfl ?_ | with_reducible refine abr_false rfl ?_ | with_reducible refine abr_yes rfl ?_ | refine abr_yes (by decide) ?_ | refine abr_no (by decide) ?_ | with_reducible refine abr_same_ne ?_); (conv => whnf))))))
      refine ⟨i + 1, rfl, ⟨h, by omega⟩, by omega, Sub.refl _, ?_⟩
      ((conv => whnf); (repeat ((first | with_reducible refine abr_true rfl ?_ | with_reducible refine abr_false rfl ?_ | with_reducible refine abr_yes rfl ?_ | refine abr_yes (by decide) ?_ | refine abr_no (by decide) ?_ | with_reducible refine abr_same_ne ?_); (conv => whnf))))
      rw [show (leastV i : Int) + ((leastV i : Int) / 6 + 1) = ((leastV (i + 1) : Nat) : Int) by show _ = ((leastV i + (leastV i / 6 + 1) : Nat) : Int); omega]
      (repeat' first | with_reducible exact EnvLe.refl _ | (refine EnvLe.node ?_ (by first | exact Or.inl rfl | exact Or.inr (Or.inl rfl) | exact Or.inr (Or.inr ⟨nofun, VLe.slice _ _ _⟩)) ?_))
    · (repeat ((first | refine aload (by (repeat (first | with_reducible exact upd_same _ _ _ | assumption | rw [upd_ne _ _ (by first | assumption | (apply Ne.symm; assumption))]))) rfl ?_ | refine afit_i64 (by omega) ?_ | refine arem_nonneg (by omega) (by omega) ?_ | refine adiv_i64 (by omega) (by omega) ?_ | refine abr_yes (by omega) ?_ | refine abr_no (by omega) ?_ | refine amin ?_ | refine amax ?_ | refine afit_u64 (by omega) ?_ | refine afit_u8 (by omega) ?_ | rw [List.length_map]); ((conv => whnf); (repeat ((first | with_reducible refine abr_true rfl ?_ | with_reducible refine abr_false rfl ?_ | with_reducible refine abr_yes rfl ?_ | refine abr_yes (by decide) ?_ | refine abr_no (by decide) ?_ | with_reducible refine abr_same_ne ?_); (conv => whnf))))))
      refine aret_same ⟨?_, rfl⟩
      rw [h, if_pos rfl, if_pos rfl, show n.toNat = i by omega]

theorem bLevel (n : Int) (σ : AHeap) : ACalls Try.prog i_bsr_Level [i64v n] σ fun v σ' => v = .tup [i64v (if n < 0 then 0 else (levelV n.toNat : Int)), i64v (if n < 0 then 1 else 0)] ∧ σ' = σ := by
  refine k_bsr_Level rfl ?_
  ((conv => whnf); (repeat ((first | with_reducible refine abr_true rfl ?_ | with_reducible refine abr_false rfl ?_ | with_reducible refine abr_yes rfl ?_ | refine abr_yes (by decide) ?_ | refine abr_no (by decide) ?_ | with_reducible refine abr_same_ne ?_); (conv => whnf))))
  refine ascope' (α := Nat) (fun i => [(s4, i64v (leastV i)), (s5, i64v i)]) (fun _ => σ) (fun _ => 0) (fun i => 0 ≤ n ∧ i ≤ 63 ∧ leastV i ≤ n.toNat) (fun i => 63 - i) ?_ ?_
  · ((conv => whnf); (repeat ((first | with_reducible refine abr_true rfl ?_ | with_reducible refine abr_false rfl ?_ | with_reducible refine abr_yes rfl ?_ | refine abr_yes (by decide) ?_ | refine abr_no (by decide) ?_ | with_reducible refine abr_same_ne ?_); (conv => whnf))))
    intro hlab
    ((conv => whnf); (repeat ((first | with_reducible refine abr_true rfl ?_ | with_reducible refine abr_false rfl ?_ | with_reducible refine abr_yes rfl ?_ | refine abr_yes (by decide) ?_ | refine abr_no (by decide) ?_ | with_reducible refine abr_same_ne ?_); (conv => whnf))))
    by_cases h : n < 0
    · (repeat ((first | refine aload (by (repeat (first | with_reducible exact upd_same _ _ _ | assumption | rw [upd_ne _ _ (by first | assumption | (apply Ne.symm; assumption))]))) rfl ?_ | refine afit_i64 (by omega) ?_ | refine arem_nonneg (by omega) (by omega) ?_ | refine adiv_i64 (by omega) (by omega) ?_ | refine abr_yes (by omega) ?_ | refine abr_no (by omega) ?_ | refine amin ?_ | refine amax ?_ | refine afit_u64 (by omega) ?_ | refine afit_u8 (by omega) ?_ | rw [List.length_map]); ((conv => whnf); (repeat ((first | with_reducible refine abr_true rfl ?_ | with_reducible refine abr_false rfl ?_ | with_reducible refine abr_yes rfl ?_ | refine abr_yes (by decide) ?_ | refine abr_no (by decide) ?_ | with_reducible refine abr_same_ne ?_); (conv => whnf))))))
      exact aret_same ⟨by rw [if_pos h, if_pos h], rfl⟩
    · (repeat ((first | refine aload (by (repeat (first | with_reducible exact upd_same _ _ _ | assumption | rw [upd_ne _ _ (by first | assumption | (apply Ne.symm; assumption))]))) rfl ?_ | refine afit_i64 (by omega) ?_ | refine arem_nonneg (by omega) (by omega) ?_ | refine adiv_i64 (by omega) (by omega) ?_ | refine abr_yes (by omega) ?_ | refine abr_no (by omega) ?_ | refine amin ?_ | refine amax ?_ | refine afit_u64 (by omega) ?_ | refine afit_u8 (by omega) ?_ | rw [List.length_map]); ((conv => whnf); (repeat ((first | with_reducible refine abr_true rfl ?_ | with_reducible refine abr_false rfl ?_ | with_reducible refine abr_yes rfl ?_ | refine abr_yes (by decide) ?_ | refine abr_no (by decide) ?_ | with_reducible refine abr_same_ne ?_); (conv => whnf))))))
      refine hlab _ (fun _ _ _ h => h) _ _ _ _ ⟨0, rfl, ⟨by omega, by omega, Nat.zero_le _⟩, rfl, Sub.refl _, ?_⟩
      ((conv => whnf); (repeat ((first | with_reducible refine abr_true rfl ?_ | with_reducible refine abr_false rfl ?_ | with_reducible refine abr_yes rfl ?_ | refine abr_yes (by decide) ?_ | refine abr_no (by decide) ?_ | with_reducible refine abr_same_ne ?_); (conv => whnf))))
      (repeat' first | with_reducible exact EnvLe.refl _ | (refine EnvLe.node ?_ (by first | exact Or.inl rfl | exact Or.inr (Or.inl rfl) | exact Or.inr (Or.inr ⟨nofun, VLe.slice _ _ _⟩)) ?_))
  · rintro i ⟨h, h63, hi⟩
    have hs := leastV_small i (by omega)
    have hs2 := leastV_small (i + 1) (by omega)
    have next : (leastV i : Int) + (leastV i : Int) / 6 + 1 = ((leastV (i + 1) : Nat) : Int) := by show _ = ((leastV i + (leastV i / 6 + 1) : Nat) : Int); omega
    refine ⟨_, rfl, ?_⟩
    ((conv => whnf); (repeat ((first | with_reducible refine abr_true rfl ?_ | with_reducible refine abr_false rfl ?_ | with_reducible refine abr_yes rfl ?_ | refine abr_yes (by decide) ?_ | refine abr_no (by decide) ?_ | with_reducible refine abr_same_ne ?_); (conv => whnf))))
    intro hlab
    ((conv => whnf); (repeat ((first | with_reducible refine abr_true rfl ?_ | with_reducible refine abr_false rfl ?_ | with_reducible refine abr_yes rfl ?_ | refine abr_yes (by decide) ?_ | refine abr_no (by decide) ?_ | with_reducible refine abr_same_ne ?_); (conv => whnf))))
    (repeat ((first | refine aload (by (repeat (first | with_reducible exact upd_same _ _ _ | assumption | rw [upd_ne _ _ (by first | assumption | (apply Ne.symm; assumption))]))) rfl ?_ | refine afit_i64 (by omega) ?_ | refine arem_nonneg (by omega) (by omega) ?_ | refine adiv_i64 (by omega) (by omega) ?_ | refine abr_yes (by omega) ?_ | refine abr_no (by omega) ?_ | refine amin ?_ | refine amax ?_ | refine afit_u64 (by omega) ?_ | refine afit_u8 (by omega) ?_ | rw [List.length_map]); ((conv => whnf); (repeat ((first | with_reducible refine abr_true rfl ?_ | with_reducible refine abr_false rfl ?_ | with_reducible refine abr_yes rfl ?_ | refine abr_yes (by decide) ?_ | refine abr_no (by decide) ?_ | with_reducible refine abr_same_ne ?_); (conv => whnf))))))
    rw [next]
    by_cases h1 : i < 63
    · by_cases h2 : ((leastV (i + 1) : Nat) : Int) ≤ n
      · (repeat ((first | refine aload (by (repeat (first | with_reducible exact upd_same _ _ _ | assumption | rw [upd_ne _ _ (by first | assumption | (apply Ne.symm; assumption))]))) rfl ?_ | refine afit_i64 (by omega) ?_ | refine arem_nonneg (by omega) (by omega) ?_ | refine adiv_i64 (by omega) (by omega) ?_ | refine abr_yes (by omega) ?_ | refine abr_no (by omega) ?_ | refine amin ?_ | refine amax ?_ | refine afit_u64 (by omega) ?_ | refine afit_u8 (by omega) ?_ | rw [List.length_map]); ((conv => whnf); (repeat ((first | with_reducible refine abr_true rfl ?_ | with_reducible refine abr_false rfl ?_ | with_reducible refine abr_yes rfl ?_ | refine abr_yes (by decide) ?_ | refine abr_no (by decide) ?_ | with_reducible refine abr_same_ne ?_); (conv => whnf))))))
        refine ⟨i + 1, rfl, ⟨h, by omega, by omega⟩, by omega, Sub.refl _, ?_⟩
        ((conv => whnf); (repeat ((first | with_reducible refine abr_true rfl ?_ | with_reducible refine abr_false rfl ?_ | with_reducible refine abr_yes rfl ?_ | refine abr_yes (by decide) ?_ | refine abr_no (by decide) ?_ | with_reducible refine abr_same_ne ?_); (conv => whnf))))
        (repeat' first | with_reducible exact EnvLe.refl _ | (refine EnvLe.node ?_ (by first | exact Or.inl rfl | exact Or.inr (Or.inl rfl) | exact Or.inr (Or.inr ⟨nofun, VLe.slice _ _ _⟩)) ?_))
      · (repeat ((first | refine aload (by (repeat (first | with_reducible exact upd_same _ _ _ | assumption | rw [upd_ne _ _ (by first | assumption | (apply Ne.symm; assumption))]))) rfl ?_ | refine afit_i64 (by omega) ?_ | refine arem_nonneg (by omega) (by omega) ?_ | refine adiv_i64 (by omega) (by omega) ?_ | refine abr_yes (by omega) ?_ | refine abr_no (by omega) ?_ | refine amin ?_ | refine amax ?_ | refine afit_u64 (by omega) ?_ | refine afit_u8 (by omega) ?_ | rw [List.length_map]); ((conv => whnf); (repeat ((first | with_reducible refine abr_true rfl ?_ | with_reducible refine abr_false rfl ?_ | with_reducible refine abr_yes rfl ?_ | refine abr_yes (by decide) ?_ | refine abr_no (by decide) ?_ | with_reducible refine abr_same_ne ?_); (conv => whnf))))))
        refine aret_same ⟨?_, rfl⟩
        rw [if_neg (by omega), if_neg (by omega), levelV_is hi h63 (.inr (by omega))]
    · (repeat ((first | refine aload (by (repeat (first | with_reducible exact upd_same _ _ _ | assumption | rw [upd_ne _ _ (by first | assumption | (apply Ne.symm; assumption))]))) rfl ?_ | refine afit_i64 (by omega) ?_ | refine arem_nonneg (by omega) (by omega) ?_ | refine adiv_i64 (by omega) (by omega) ?_ | refine abr_yes (by omega) ?_ | refine abr_no (by omega) ?_ | refine amin ?_ | refine amax ?_ | refine afit_u64 (by omega) ?_ | refine afit_u8 (by omega) ?_ | rw [List.length_map]); ((conv => whnf); (repeat ((first | with_reducible refine abr_true rfl ?_ | with_reducible refine abr_false rfl ?_ | with_reducible refine abr_yes rfl ?_ | refine abr_yes (by decide) ?_ | refine abr_no (by decide) ?_ | with_reducible refine abr_same_ne ?_); (conv => whnf))))))
      refine aret_same ⟨?_, rfl⟩
      rw [if_neg (by omega), if_neg (by omega), levelV_is hi h63 (.inl (by omega))]

abbrev rep (rs : List Int) : AVal := .agg (rs.map i64v)
theorem get_rep {rs : List Int} {i : Nat} (h : i < rs.length) : (rs.map i64v)[i]? = some (i64v rs[i]) := by
  rw [List.getElem?_map, List.getElem?_eq_getElem h]; rfl
theorem cells_rep (rs : List Int) : (rs.map i64v).all AVal.isCell = true := by
  rw [List.all_eq_true]; intro x hx; obtain ⟨b, _, rfl⟩ := List.mem_map.1 hx; rfl
theorem all_take {rs : List Int} {p : Int → Bool} {i : Nat} (hi : i < rs.length) (h : (rs.take i).all p = true) (hp : p rs[i] = true) : (rs.take (i + 1)).all p = true := by
  rw [take_snoc (List.getElem?_eq_getElem hi), List.all_append, h]; simp [hp]

theorem four {rs : List Int} (h : rs.length = 4) : ∃ a b c d, rs = [a, b, c, d] := by
  match rs, h with
  | [a, b, c, d], _ => exact ⟨a, b, c, d, rfl⟩

theorem get4 {a b c d : Int} {rs : List Int} (hr : [a, b, c, d] = rs) {i : Nat} (h : i < rs.length) : [i64v a, i64v b, i64v c, i64v d][((i : Nat) : Int).toNat * 1]? = some (i64v rs[i]) := by
  subst hr
  rw [Int.toNat_natCast, Nat.mul_one]; exact get_rep h

set_option maxRecDepth 10000 in
theorem bRight (rs : List Int) (h4 : rs.length = 4) (σ : AHeap) : ACalls Try.prog i_bsr_Right [rep rs] σ fun v σ' => v = boolv (rs.all isLevelV) ∧ σ' = σ := by
  obtain ⟨a, b, c, d, rfl⟩ := four h4
  refine k_bsr_Right rfl ?_
  ((conv => whnf); (repeat ((first | with_reducible refine abr_true rfl ?_ | with_reducible refine abr_false rfl ?_ | with_reducible refine abr_yes rfl ?_ | refine abr_yes (by decide) ?_ | refine abr_no (by decide) ?_ | with_reducible refine abr_same_ne ?_); (conv => whnf))))
  refine anew rfl fun id hid => ?_
  ((conv => whnf); (repeat ((first | with_reducible refine abr_true rfl ?_ | with_reducible refine abr_false rfl ?_ | with_reducible refine abr_yes rfl ?_ | refine abr_yes (by decide) ?_ | refine abr_no (by decide) ?_ | with_reducible refine abr_same_ne ?_); (conv => whnf))))
  refine aloads (l := [i64v a, i64v b, i64v c, i64v d]) (upd_same _ _ _) (by exact Nat.le_refl 4) rfl ?_
  ((conv => whnf); (repeat ((first | with_reducible refine abr_true rfl ?_ | with_reducible refine abr_false rfl ?_ | with_reducible refine abr_yes rfl ?_ | refine abr_yes (by decide) ?_ | refine abr_no (by decide) ?_ | with_reducible refine abr_same_ne ?_); (conv => whnf))))
  refine aloop (α := Nat) (fun i => [(s6, i64v i)]) (fun _ => upd σ id (.cells ([a, b, c, d].map i64v))) (fun i => i ≤ 4 ∧ ([a, b, c, d].take i).all isLevelV = true) (fun i => 4 - i) 0 ⟨by omega, rfl⟩ (Sub.refl _) ?_ ?_
  · ((conv => whnf); (repeat ((first | with_reducible refine abr_true rfl ?_ | with_reducible refine abr_false rfl ?_ | with_reducible refine abr_yes rfl ?_ | refine abr_yes (by decide) ?_ | refine abr_no (by decide) ?_ | with_reducible refine abr_same_ne ?_); (conv => whnf))))
    (repeat' first | with_reducible exact EnvLe.refl _ | (refine EnvLe.node ?_ (by first | exact Or.inl rfl | exact Or.inr (Or.inl rfl) | exact Or.inr (Or.inr ⟨nofun, VLe.slice _ _ _⟩)) ?_))
  · rintro i ⟨hi, hall⟩
    have hlen : [a, b, c, d].length = 4 := rfl
    generalize hr : [a, b, c, d] = rs at *
    by_cases h : i < 4
    · ((conv => whnf); (repeat ((first | with_reducible refine abr_true rfl ?_ | with_reducible refine abr_false rfl ?_ | with_reducible refine abr_yes rfl ?_ | refine abr_yes (by decide) ?_ | refine abr_no (by decide) ?_ | with_reducible refine abr_same_ne ?_); (conv => whnf))))
      (repeat ((first | refine aload (by (repeat (first | with_reducible exact upd_same _ _ _ | assumption | rw [upd_ne _ _ (by first | assumption | (apply Ne.symm; assumption))]))) rfl ?_ | refine afit_i64 (by omega) ?_ | refine arem_nonneg (by omega) (by omega) ?_ | refine adiv_i64 (by omega) (by omega) ?_ | refine abr_yes (by omega) ?_ | refine abr_no (by omega) ?_ | refine amin ?_ | refine amax ?_ | refine afit_u64 (by omega) ?_ | refine afit_u8 (by omega) ?_ | rw [List.length_map]); ((conv => whnf); (repeat ((first | with_reducible refine abr_true rfl ?_ | with_reducible refine abr_false rfl ?_ | with_reducible refine abr_yes rfl ?_ | refine abr_yes (by decide) ?_ | refine abr_no (by decide) ?_ | with_reducible refine abr_same_ne ?_); (conv => whnf))))))
      refine aidx (by omega) (by omega) ?_
      refine acell (get4 hr (by omega)) ?_
      ((conv => whnf); (repeat ((first | with_reducible refine abr_true rfl ?_ | with_reducible refine abr_false rfl ?_ | with_reducible refine abr_yes rfl ?_ | refine abr_yes (by decide) ?_ | refine abr_no (by decide) ?_ | with_reducible refine abr_same_ne ?_); (conv => whnf))))
      refine acall (bIsLevel rs[i] _) ?_
      rintro _ σ_ ⟨rfl, e_⟩
      obtain rfl := e_.symm
      refine ⟨?_, Ext.refl _⟩
      ((conv => whnf); (repeat ((first | with_reducible refine abr_true rfl ?_ | with_reducible refine abr_false rfl ?_ | with_reducible refine abr_yes rfl ?_ | refine abr_yes (by decide) ?_ | refine abr_no (by decide) ?_ | with_reducible refine abr_same_ne ?_); (conv => whnf))))
      by_cases hl : isLevelV rs[i] = true
      · refine abr_false (by rw [hl]; rfl) ?_
        ((conv => whnf); (repeat ((first | with_reducible refine abr_true rfl ?_ | with_reducible refine abr_false rfl ?_ | with_reducible refine abr_yes rfl ?_ | refine abr_yes (by decide) ?_ | refine abr_no (by decide) ?_ | with_reducible refine abr_same_ne ?_); (conv => whnf))))
        (repeat ((first | refine aload (by (repeat (first | with_reducible exact upd_same _ _ _ | assumption | rw [upd_ne _ _ (by first | assumption | (apply Ne.symm; assumption))]))) rfl ?_ | refine afit_i64 (by omega) ?_ | refine arem_nonneg (by omega) (by omega) ?_ | refine adiv_i64 (by omega) (by omega) ?_ | refine abr_yes (by omega) ?_ | refine abr_no (by omega) ?_ | refine amin ?_ | refine amax ?_ | refine afit_u64 (by omega) ?_ | refine afit_u8 (by omega) ?_ | rw [List.length_map]); ((conv => whnf); (repeat ((first | with_reducible refine abr_true rfl ?_ | with_reducible refine abr_false rfl ?_ | with_reducible refine abr_yes rfl ?_ | refine abr_yes (by decide) ?_ | refine abr_no (by decide) ?_ | with_reducible refine abr_same_ne ?_); (conv => whnf))))))
        refine ⟨i + 1, ⟨by omega, all_take (by omega) hall hl⟩, by omega, Sub.refl _, ?_⟩
        ((conv => whnf); (repeat ((first | with_reducible refine abr_true rfl ?_ | with_reducible refine abr_false rfl ?_ | with_reducible refine abr_yes rfl ?_ | refine abr_yes (by decide) ?_ | refine abr_no (by decide) ?_ | with_reducible refine abr_same_ne ?_); (conv => whnf))))
        (repeat' first | with_reducible exact EnvLe.refl _ | (refine EnvLe.node ?_ (by first | exact Or.inl rfl | exact Or.inr (Or.inl rfl) | exact Or.inr (Or.inr ⟨nofun, VLe.slice _ _ _⟩)) ?_))
      · refine abr_true (by rw [Bool.eq_false_iff.2 hl]; rfl) ?_
        ((conv => whnf); (repeat ((first | with_reducible refine abr_true rfl ?_ | with_reducible refine abr_false rfl ?_ | with_reducible refine abr_yes rfl ?_ | refine abr_yes (by decide) ?_ | refine abr_no (by decide) ?_ | with_reducible refine abr_same_ne ?_); (conv => whnf))))
        refine aret (VLe.refl _) (Sub.upd_fresh _ hid) ⟨?_, rfl⟩
        refine congrArg boolv (Bool.eq_false_iff.2 fun h => ?_).symm
        exact hl (List.all_eq_true.1 h _ (List.getElem_mem _))
    · ((conv => whnf); (repeat ((first | with_reducible refine abr_true rfl ?_ | with_reducible refine abr_false rfl ?_ | with_reducible refine abr_yes rfl ?_ | refine abr_yes (by decide) ?_ | refine abr_no (by decide) ?_ | with_reducible refine abr_same_ne ?_); (conv => whnf))))
      (repeat ((first | refine aload (by (repeat (first | with_reducible exact upd_same _ _ _ | assumption | rw [upd_ne _ _ (by first | assumption | (apply Ne.symm; assumption))]))) rfl ?_ | refine afit_i64 (by omega) ?_ | refine arem_nonneg (by omega) (by omega) ?_ | refine adiv_i64 (by omega) (by omega) ?_ | refine abr_yes (by omega) ?_ | refine abr_no (by omega) ?_ | refine amin ?_ | refine amax ?_ | refine afit_u64 (by omega) ?_ | refine afit_u8 (by omega) ?_ | rw [List.length_map]); ((conv => whnf); (repeat ((first | with_reducible refine abr_true rfl ?_ | with_reducible refine abr_false rfl ?_ | with_reducible refine abr_yes rfl ?_ | refine abr_yes (by decide) ?_ | refine abr_no (by decide) ?_ | with_reducible refine abr_same_ne ?_); (conv => whnf))))))
      refine aret (VLe.refl _) (Sub.upd_fresh _ hid) ⟨?_, rfl⟩
      rw [List.take_of_length_le (by omega)] at hall
      rw [hall]

/-- The bits of a report. -/
def repBits (rs : List Int) : List Bool := rs.flatMap fun n => numBits n.toNat 6
theorem repBits_length (rs : List Int) : (repBits rs).length = 6 * rs.length := by
  induction rs with
  | nil => rfl
  | cons x rs ih => unfold repBits at *; rw [List.flatMap_cons, List.length_append, ih, numBits_length, List.length_cons]; omega
theorem repBits_take (rs : List Int) (i : Nat) (h : i < rs.length) : repBits (rs.take (i + 1)) = repBits (rs.take i) ++ numBits rs[i].toNat 6 := by
  rw [take_snoc (List.getElem?_eq_getElem h)]; unfold repBits; rw [List.flatMap_append]; simp
theorem put6 (bs : List Bool) (n : Nat) (h : bs.length ≤ 65530) (hn : n < 64) : putCode bs.length n 6 = 0 ∧ putBits bs n 6 = bs ++ numBits n 6 := by
  have hc : putCode bs.length n 6 = 0 := by
    refine putCode_fine ?_ (by omega)
    unfold putBad
    rw [decide_eq_false (by omega), decide_eq_false (by omega), decide_eq_false]
    · rfl
    · show ¬ n / 2 ^ 6 ≠ 0
      omega
  exact ⟨hc, putBits_ok hc⟩

set_option maxRecDepth 10000 in
theorem bWrite (rs : List Int) (h4 : rs.length = 4) (σ : AHeap) : ACalls Try.prog i_bsr_Write [rep rs] σ fun v σ' => v = .tup [sl .none (if rs.all isLevelV = true then pack (repBits rs) else []), i64v (if rs.all isLevelV = true then 0 else 3)] ∧ σ' = σ := by
  have hb4 := repBits_length rs
  obtain ⟨a, b, c, d, hr⟩ := four h4
  refine k_bsr_Write rfl ?_
  rw [hr]
  ((conv => whnf); (repeat ((first | with_reducible refine abr_true rfl ?_ | with_reducible refine abr_false rfl ?_ | with_reducible refine abr_yes rfl ?_ | refine abr_yes (by decide) ?_ | refine abr_no (by decide) ?_ | with_reducible refine abr_same_ne ?_); (conv => whnf))))
  refine anew rfl fun id hid => ?_
  ((conv => whnf); (repeat ((first | with_reducible refine abr_true rfl ?_ | with_reducible refine abr_false rfl ?_ | with_reducible refine abr_yes rfl ?_ | refine abr_yes (by decide) ?_ | refine abr_no (by decide) ?_ | with_reducible refine abr_same_ne ?_); (conv => whnf))))
  refine aloads (l := [i64v a, i64v b, i64v c, i64v d]) (upd_same _ _ _) (by exact Nat.le_refl 4) rfl ?_
  ((conv => whnf); (repeat ((first | with_reducible refine abr_true rfl ?_ | with_reducible refine abr_false rfl ?_ | with_reducible refine abr_yes rfl ?_ | refine abr_yes (by decide) ?_ | refine abr_no (by decide) ?_ | with_reducible refine abr_same_ne ?_); (conv => whnf))))
  refine acall (bRight [a, b, c, d] rfl _) ?_
  rintro _ σ_ ⟨rfl, e_⟩
  obtain rfl := e_.symm
  refine ⟨?_, Ext.refl _⟩
  ((conv => whnf); (repeat ((first | with_reducible refine abr_true rfl ?_ | with_reducible refine abr_false rfl ?_ | with_reducible refine abr_yes rfl ?_ | refine abr_yes (by decide) ?_ | refine abr_no (by decide) ?_ | with_reducible refine abr_same_ne ?_); (conv => whnf))))
  by_cases hok : rs.all isLevelV = true
  · refine abr_false (by rw [← hr, hok]; rfl) ?_
    ((conv => whnf); (repeat ((first | with_reducible refine abr_true rfl ?_ | with_reducible refine abr_false rfl ?_ | with_reducible refine abr_yes rfl ?_ | refine abr_yes (by decide) ?_ | refine abr_no (by decide) ?_ | with_reducible refine abr_same_ne ?_); (conv => whnf))))
    refine acall (wNew _) ?_
    rintro _ σ1 ⟨iw, rfl, w1⟩
    refine ⟨?_, w1.ext⟩
    ((conv => whnf); (repeat ((first | with_reducible refine abr_true rfl ?_ | with_reducible refine abr_false rfl ?_ | with_reducible refine abr_yes rfl ?_ | refine abr_yes (by decide) ?_ | refine abr_no (by decide) ?_ | with_reducible refine abr_same_ne ?_); (conv => whnf))))
    refine aloads (l := [i64v a, i64v b, i64v c, i64v d]) (w1.ext id _ rfl (upd_same _ _ _)) (by exact Nat.le_refl 4) rfl ?_
    ((conv => whnf); (repeat ((first | with_reducible refine abr_true rfl ?_ | with_reducible refine abr_false rfl ?_ | with_reducible refine abr_yes rfl ?_ | refine abr_yes (by decide) ?_ | refine abr_no (by decide) ?_ | with_reducible refine abr_same_ne ?_); (conv => whnf))))
    refine aloop (α := Nat × AHeap) (fun x => [(s12, i64v x.1)]) (fun x => x.2) (fun x => x.1 ≤ 4 ∧ Wr x.2 iw (repBits (rs.take x.1)) (upd σ id (.cells ([a, b, c, d].map i64v)))) (fun x => 4 - x.1) (0, σ1) ⟨by omega, w1⟩ (Sub.refl _) ?_ ?_
    · ((conv => whnf); (repeat ((first | with_reducible refine abr_true rfl ?_ | with_reducible refine abr_false rfl ?_ | with_reducible refine abr_yes rfl ?_ | refine abr_yes (by decide) ?_ | refine abr_no (by decide) ?_ | with_reducible refine abr_same_ne ?_); (conv => whnf))))
      (repeat' first | with_reducible exact EnvLe.refl _ | (refine EnvLe.node ?_ (by first | exact Or.inl rfl | exact Or.inr (Or.inl rfl) | exact Or.inr (Or.inr ⟨nofun, VLe.slice _ _ _⟩)) ?_))
    · rintro ⟨i, σ2⟩ ⟨hi, w2⟩
      dsimp only at hi w2 ⊢
      have hbl : (repBits (rs.take i)).length ≤ 24 := by rw [repBits_length, List.length_take]; omega
      by_cases h : i < 4
      · have hl := isLevelV_iff.1 (List.all_eq_true.1 hok rs[i] (List.getElem_mem (by omega)))
        have hp := put6 (repBits (rs.take i)) rs[i].toNat (by omega) (by omega)
        ((conv => whnf); (repeat ((first | with_reducible refine abr_true rfl ?_ | with_reducible refine abr_false rfl ?_ | with_reducible refine abr_yes rfl ?_ | refine abr_yes (by decide) ?_ | refine abr_no (by decide) ?_ | with_reducible refine abr_same_ne ?_); (conv => whnf))))
        (repeat ((first | refine aload (by (repeat (first | with_reducible exact upd_same _ _ _ | assumption | rw [upd_ne _ _ (by first | assumption | (apply Ne.symm; assumption))]))) rfl ?_ | refine afit_i64 (by omega) ?_ | refine arem_nonneg (by omega) (by omega) ?_ | refine adiv_i64 (by omega) (by omega) ?_ | refine abr_yes (by omega) ?_ | refine abr_no (by omega) ?_ | refine amin ?_ | refine amax ?_ | refine afit_u64 (by omega) ?_ | refine afit_u8 (by omega) ?_ | rw [List.length_map]); ((conv => whnf); (repeat ((first | with_reducible refine abr_true rfl ?_ | with_reducible refine abr_false rfl ?_ | with_reducible refine abr_yes rfl ?_ | refine abr_yes (by decide) ?_ | refine abr_no (by decide) ?_ | with_reducible refine abr_same_ne ?_); (conv => whnf))))))
        refine aidx (by omega) (by omega) ?_
        refine acell (get4 hr.symm (by omega)) ?_
        ((conv => whnf); (repeat ((first | with_reducible refine abr_true rfl ?_ | with_reducible refine abr_false rfl ?_ | with_reducible refine abr_yes rfl ?_ | refine abr_yes (by decide) ?_ | refine abr_no (by decide) ?_ | with_reducible refine abr_same_ne ?_); (conv => whnf))))
        refine afit_eq (m := ((rs[i].toNat : Nat) : Int)) (by rw [Int.toNat_of_nonneg hl.1]; exact wrap_u64 (by omega) (by omega)) ?_
        ((conv => whnf); (repeat ((first | with_reducible refine abr_true rfl ?_ | with_reducible refine abr_false rfl ?_ | with_reducible refine abr_yes rfl ?_ | refine abr_yes (by decide) ?_ | refine abr_no (by decide) ?_ | with_reducible refine abr_same_ne ?_); (conv => whnf))))
        refine acall (wPut iw _ rs[i].toNat 6 _ _ w2 (by omega) (by omega)) ?_
        rintro _ σ3 ⟨rfl, w3⟩
        rw [hp.2, ← repBits_take rs i (by omega)] at w3
        ((conv => whnf); (repeat ((first | with_reducible refine abr_true rfl ?_ | with_reducible refine abr_false rfl ?_ | with_reducible refine abr_yes rfl ?_ | refine abr_yes (by decide) ?_ | refine abr_no (by decide) ?_ | with_reducible refine abr_same_ne ?_); (conv => whnf))))
        (repeat ((first | refine aload (by (repeat (first | with_reducible exact upd_same _ _ _ | assumption | rw [upd_ne _ _ (by first | assumption | (apply Ne.symm; assumption))]))) rfl ?_ | refine afit_i64 (by omega) ?_ | refine arem_nonneg (by omega) (by omega) ?_ | refine adiv_i64 (by omega) (by omega) ?_ | refine abr_yes (by omega) ?_ | refine abr_no (by omega) ?_ | refine amin ?_ | refine amax ?_ | refine afit_u64 (by omega) ?_ | refine afit_u8 (by omega) ?_ | rw [List.length_map]); ((conv => whnf); (repeat ((first | with_reducible refine abr_true rfl ?_ | with_reducible refine abr_false rfl ?_ | with_reducible refine abr_yes rfl ?_ | refine abr_yes (by decide) ?_ | refine abr_no (by decide) ?_ | with_reducible refine abr_same_ne ?_); (conv => whnf))))))
        refine ⟨(i + 1, σ3), ⟨by dsimp only; omega, w3⟩, by dsimp only; omega, Sub.refl _, ?_⟩
        ((conv => whnf); (repeat ((first | with_reducible refine abr_true rfl ?_ | with_reducible refine abr_false rfl ?_ | with_reducible refine abr_yes rfl ?_ | refine abr_yes (by decide) ?_ | refine abr_no (by decide) ?_ | with_reducible refine abr_same_ne ?_); (conv => whnf))))
        (repeat' first | with_reducible exact EnvLe.refl _ | (refine EnvLe.node ?_ (by first | exact Or.inl rfl | exact Or.inr (Or.inl rfl) | exact Or.inr (Or.inr ⟨nofun, VLe.slice _ _ _⟩)) ?_))
      · rw [List.take_of_length_le (by omega)] at w2
        ((conv => whnf); (repeat ((first | with_reducible refine abr_true rfl ?_ | with_reducible refine abr_false rfl ?_ | with_reducible refine abr_yes rfl ?_ | refine abr_yes (by decide) ?_ | refine abr_no (by decide) ?_ | with_reducible refine abr_same_ne ?_); (conv => whnf))))
        (repeat ((first | refine aload (by (repeat (first | with_reducible exact upd_same _ _ _ | assumption | rw [upd_ne _ _ (by first | assumption | (apply Ne.symm; assumption))]))) rfl ?_ | refine afit_i64 (by omega) ?_ | refine arem_nonneg (by omega) (by omega) ?_ | refine adiv_i64 (by omega) (by omega) ?_ | refine abr_yes (by omega) ?_ | refine abr_no (by omega) ?_ | refine amin ?_ | refine amax ?_ | refine afit_u64 (by omega) ?_ | refine afit_u8 (by omega) ?_ | rw [List.length_map]); ((conv => whnf); (repeat ((first | with_reducible refine abr_true rfl ?_ | with_reducible refine abr_false rfl ?_ | with_reducible refine abr_yes rfl ?_ | refine abr_yes (by decide) ?_ | refine abr_no (by decide) ?_ | with_reducible refine abr_same_ne ?_); (conv => whnf))))))
        refine acall (wBytes iw _ _ _ w2 (by omega)) ?_
        rintro _ σ_ ⟨rfl, e_⟩
        obtain rfl := e_.symm
        refine ⟨?_, Ext.refl _⟩
        ((conv => whnf); (repeat ((first | with_reducible refine abr_true rfl ?_ | with_reducible refine abr_false rfl ?_ | with_reducible refine abr_yes rfl ?_ | refine abr_yes (by decide) ?_ | refine abr_no (by decide) ?_ | with_reducible refine abr_same_ne ?_); (conv => whnf))))
        exact aret VLe.tup_sl (w2.sub.trans (Sub.upd_fresh _ hid)) ⟨by rw [← hr, if_pos hok, if_pos hok], rfl⟩
  · refine abr_true (by rw [← hr, Bool.eq_false_iff.2 hok]; rfl) ?_
    ((conv => whnf); (repeat ((first | with_reducible refine abr_true rfl ?_ | with_reducible refine abr_false rfl ?_ | with_reducible refine abr_yes rfl ?_ | refine abr_yes (by decide) ?_ | refine abr_no (by decide) ?_ | with_reducible refine abr_same_ne ?_); (conv => whnf))))
    exact aret VLe.tup_sl (Sub.upd_fresh _ hid) ⟨by rw [← hr, if_neg hok, if_neg hok]; rfl, rfl⟩
end Go.Proofs.Ytnfdgccmpglbhaa
/-
  Reports read.
-/
namespace Go.Proofs.Ytnfdgccmpglbhaa
set_option linter.unusedVariables false
set_option linter.unusedSimpArgs false
open Go Go.Am

def numAt (x : List Bool) (i : Nat) : Nat := val 0 ((x.drop (6 * i)).take 6)
def outs (x : List Bool) (i : Nat) : List Int := (List.range 4).map fun j => if j < i then ((numAt x j : Nat) : Int) else 0
theorem outs_set (x : List Bool) (i : Nat) (h : i < 4) : (outs x i).set i ((numAt x i : Nat) : Int) = outs x (i + 1) := by
  match i, h with
  | 0, _ => rfl
  | 1, _ => rfl
  | 2, _ => rfl
  | 3, _ => rfl
theorem outs_length (x : List Bool) (i : Nat) : (outs x i).length = 4 := rfl
theorem splice_ints {F : List Int} {p : Nat} {x : Int} (h : p < F.length) : splice (F.map i64v) p [i64v x] = (F.set p x).map i64v := by
  unfold splice
  rw [List.set_eq_take_append_cons_drop, if_pos h]
  simp [List.map_take, List.map_drop]
def readRep (b : List UInt8) : List Int × Int := if b.length < 3 then ([0, 0, 0, 0], 8) else if b.length > 3 then ([0, 0, 0, 0], 2) else (outs (unpack b) 4, 0)
theorem readRep_length (b : List UInt8) : (readRep b).1.length = 4 := by
  unfold readRep
  split
  · rfl
  · split <;> rfl
theorem Rd.set {σ σb : AHeap} {ir id : Nat} {b : List UInt8} {k : Nat} {o o' : AObj} (h : Rd σ ir b k σb) (hid : σb id = some o') : Rd (upd σ id o) ir b k (upd σb id o) := by
  obtain ⟨h1, h2, h3, tk, rfl⟩ := h
  have hne : id ≠ ir := fun e => by subst e; rw [h1] at hid; cases hid
  exact ⟨by rw [upd_ne _ _ (Ne.symm hne)]; exact h1, h2, h3, tk, upd_comm _ _ _ (Ne.symm hne)⟩
theorem Rd.get {σ σb : AHeap} {ir id : Nat} {b : List UInt8} {k : Nat} {o' : AObj} (h : Rd σ ir b k σb) (hid : σb id = some o') : σ id = some o' := by
  obtain ⟨h1, h2, h3, tk, rfl⟩ := h
  have hne : id ≠ ir := fun e => by subst e; rw [h1] at hid; cases hid
  rw [upd_ne _ _ hne]; exact hid

set_option maxRecDepth 10000 in
theorem bRead (b : List UInt8) (t : Tok) (σ : AHeap) (hl : b.length ≤ 140737488351232) : ACalls Try.prog i_bsr_Read [sl t b] σ fun v σ' => v = .tup [rep (readRep b).1, i64v (readRep b).2] ∧ σ' = σ := by
  refine k_bsr_Read rfl ?_
  ((conv => whnf); (repeat ((first | with_reducible refine abr_true rfl ?_ | with_reducible refine abr_false rfl ?_ | with_reducible refine abr_yes rfl ?_ | refine abr_yes (by decide) ?_ | refine abr_no (by decide) ?_ | with_reducible refine abr_same_ne ?_); (conv => whnf))))
  refine anew rfl fun i1 h1 => ?_
  ((conv => whnf); (repeat ((first | with_reducible refine abr_true rfl ?_ | with_reducible refine abr_false rfl ?_ | with_reducible refine abr_yes rfl ?_ | refine abr_yes (by decide) ?_ | refine abr_no (by decide) ?_ | with_reducible refine abr_same_ne ?_); (conv => whnf))))
  rw [List.length_map]
  by_cases hlt : b.length < 3
  · have e : readRep b = ([0, 0, 0, 0], 8) := by unfold readRep; rw [if_pos hlt]
    (repeat ((first | refine aload (by (repeat (first | with_reducible exact upd_same _ _ _ | assumption | rw [upd_ne _ _ (by first | assumption | (apply Ne.symm; assumption))]))) rfl ?_ | refine afit_i64 (by omega) ?_ | refine arem_nonneg (by omega) (by omega) ?_ | refine adiv_i64 (by omega) (by omega) ?_ | refine abr_yes (by omega) ?_ | refine abr_no (by omega) ?_ | refine amin ?_ | refine amax ?_ | refine afit_u64 (by omega) ?_ | refine afit_u8 (by omega) ?_ | rw [List.length_map]); ((conv => whnf); (repeat ((first | with_reducible refine abr_true rfl ?_ | with_reducible refine abr_false rfl ?_ | with_reducible refine abr_yes rfl ?_ | refine abr_yes (by decide) ?_ | refine abr_no (by decide) ?_ | with_reducible refine abr_same_ne ?_); (conv => whnf))))))
    refine astore (xs := [i64v 0, i64v 0, i64v 0, i64v 0]) (upd_same _ _ _) (by exact Nat.le_refl 4) rfl rfl ?_
    ((conv => whnf); (repeat ((first | with_reducible refine abr_true rfl ?_ | with_reducible refine abr_false rfl ?_ | with_reducible refine abr_yes rfl ?_ | refine abr_yes (by decide) ?_ | refine abr_no (by decide) ?_ | with_reducible refine abr_same_ne ?_); (conv => whnf))))
    refine aloads (l := [i64v 0, i64v 0, i64v 0, i64v 0]) (upd_same _ _ _) (by exact Nat.le_refl 4) rfl ?_
    ((conv => whnf); (repeat ((first | with_reducible refine abr_true rfl ?_ | with_reducible refine abr_false rfl ?_ | with_reducible refine abr_yes rfl ?_ | refine abr_yes (by decide) ?_ | refine abr_no (by decide) ?_ | with_reducible refine abr_same_ne ?_); (conv => whnf))))
    refine aret (VLe.refl _) (σ' := σ) ?_ ⟨by rw [e]; rfl, rfl⟩
    rw [upd_upd]; exact Sub.upd_fresh _ h1
  · by_cases hgt : b.length > 3
    · have e : readRep b = ([0, 0, 0, 0], 2) := by unfold readRep; rw [if_neg hlt, if_pos hgt]
      (repeat ((first | refine aload (by (repeat (first | with_reducible exact upd_same _ _ _ | assumption | rw [upd_ne _ _ (by first | assumption | (apply Ne.symm; assumption))]))) rfl ?_ | refine afit_i64 (by omega) ?_ | refine arem_nonneg (by omega) (by omega) ?_ | refine adiv_i64 (by omega) (by omega) ?_ | refine abr_yes (by omega) ?_ | refine abr_no (by omega) ?_ | refine amin ?_ | refine amax ?_ | refine afit_u64 (by omega) ?_ | refine afit_u8 (by omega) ?_ | rw [List.length_map]); ((conv => whnf); (repeat ((first | with_reducible refine abr_true rfl ?_ | with_reducible refine abr_false rfl ?_ | with_reducible refine abr_yes rfl ?_ | refine abr_yes (by decide) ?_ | refine abr_no (by decide) ?_ | with_reducible refine abr_same_ne ?_); (conv => whnf))))))
      refine astore (xs := [i64v 0, i64v 0, i64v 0, i64v 0]) (upd_same _ _ _) (by exact Nat.le_refl 4) rfl rfl ?_
      ((conv => whnf); (repeat ((first | with_reducible refine abr_true rfl ?_ | with_reducible refine abr_false rfl ?_ | with_reducible refine abr_yes rfl ?_ | refine abr_yes (by decide) ?_ | refine abr_no (by decide) ?_ | with_reducible refine abr_same_ne ?_); (conv => whnf))))
      refine aloads (l := [i64v 0, i64v 0, i64v 0, i64v 0]) (upd_same _ _ _) (by exact Nat.le_refl 4) rfl ?_
      ((conv => whnf); (repeat ((first | with_reducible refine abr_true rfl ?_ | with_reducible refine abr_false rfl ?_ | with_reducible refine abr_yes rfl ?_ | refine abr_yes (by decide) ?_ | refine abr_no (by decide) ?_ | with_reducible refine abr_same_ne ?_); (conv => whnf))))
      refine aret (VLe.refl _) (σ' := σ) ?_ ⟨by rw [e]; rfl, rfl⟩
      rw [upd_upd]; exact Sub.upd_fresh _ h1
    · have e : readRep b = (outs (unpack b) 4, 0) := by unfold readRep; rw [if_neg hlt, if_neg hgt]
      have hul := unpack_length b
      (repeat ((first | refine aload (by (repeat (first | with_reducible exact upd_same _ _ _ | assumption | rw [upd_ne _ _ (by first | assumption | (apply Ne.symm; assumption))]))) rfl ?_ | refine afit_i64 (by omega) ?_ | refine arem_nonneg (by omega) (by omega) ?_ | refine adiv_i64 (by omega) (by omega) ?_ | refine abr_yes (by omega) ?_ | refine abr_no (by omega) ?_ | refine amin ?_ | refine amax ?_ | refine afit_u64 (by omega) ?_ | refine afit_u8 (by omega) ?_ | rw [List.length_map]); ((conv => whnf); (repeat ((first | with_reducible refine abr_true rfl ?_ | with_reducible refine abr_false rfl ?_ | with_reducible refine abr_yes rfl ?_ | refine abr_yes (by decide) ?_ | refine abr_no (by decide) ?_ | with_reducible refine abr_same_ne ?_); (conv => whnf))))))
      refine anew rfl fun i2 h2 => ?_
      ((conv => whnf); (repeat ((first | with_reducible refine abr_true rfl ?_ | with_reducible refine abr_false rfl ?_ | with_reducible refine abr_yes rfl ?_ | refine abr_yes (by decide) ?_ | refine abr_no (by decide) ?_ | with_reducible refine abr_same_ne ?_); (conv => whnf))))
      have hne : i2 ≠ i1 := fun e => by subst e; rw [upd_same] at h2; cases h2
      refine acall (rRead b _ _ (by omega)) ?_
      rintro _ σ1 ⟨ir, rfl, r1⟩
      refine ⟨?_, r1.ext⟩
      rw [List.take_of_length_le (l := b) (by omega)] at r1
      ((conv => whnf); (repeat ((first | with_reducible refine abr_true rfl ?_ | with_reducible refine abr_false rfl ?_ | with_reducible refine abr_yes rfl ?_ | refine abr_yes (by decide) ?_ | refine abr_no (by decide) ?_ | with_reducible refine abr_same_ne ?_); (conv => whnf))))
      refine aloop (α := Nat × AHeap) (fun x => [(s21, i64v x.1)]) (fun x => x.2) (fun x => x.1 ≤ 4 ∧ Rd x.2 ir b (6 * x.1) (upd (upd σ i1 (.cells [i64v 0, i64v 0, i64v 0, i64v 0])) i2 (.cells ((outs (unpack b) x.1).map i64v)))) (fun x => 4 - x.1) (0, σ1) ⟨by omega, r1⟩ (Sub.refl _) ?_ ?_
      · ((conv => whnf); (repeat ((first | with_reducible refine abr_true rfl ?_ | with_reducible refine abr_false rfl ?_ | with_reducible refine abr_yes rfl ?_ | refine abr_yes (by decide) ?_ | refine abr_no (by decide) ?_ | with_reducible refine abr_same_ne ?_); (conv => whnf))))
        (repeat' first | with_reducible exact EnvLe.refl _ | (refine EnvLe.node ?_ (by first | exact Or.inl rfl | exact Or.inr (Or.inl rfl) | exact Or.inr (Or.inr ⟨nofun, VLe.slice _ _ _⟩)) ?_))
      · rintro ⟨i, σ2⟩ ⟨hi, r2⟩
        dsimp only at hi r2 ⊢
        by_cases h : i < 4
        · have hc : getCode (8 * b.length) (6 * i) 6 = 0 := by unfold getCode; rw [if_neg (by omega), if_neg (by omega)]
          have hval : getVal (unpack b) (6 * i) 6 = numAt (unpack b) i := by unfold getVal; rw [hul, if_pos hc]; rfl
          have hat : getAt (8 * b.length) (6 * i) 6 = 6 * (i + 1) := by
            unfold getAt; rw [if_pos hc]
            show 6 * i + 6 = _
            omega
          have hnlt : numAt (unpack b) i < 2 ^ 6 := by
            refine Nat.lt_of_lt_of_le (val_lt _) (Nat.pow_le_pow_right (by omega) ?_)
            rw [List.length_take]; omega
          ((conv => whnf); (repeat ((first | with_reducible refine abr_true rfl ?_ | with_reducible refine abr_false rfl ?_ | with_reducible refine abr_yes rfl ?_ | refine abr_yes (by decide) ?_ | refine abr_no (by decide) ?_ | with_reducible refine abr_same_ne ?_); (conv => whnf))))
          (repeat ((first | refine aload (by (repeat (first | with_reducible exact upd_same _ _ _ | assumption | rw [upd_ne _ _ (by first | assumption | (apply Ne.symm; assumption))]))) rfl ?_ | refine afit_i64 (by omega) ?_ | refine arem_nonneg (by omega) (by omega) ?_ | refine adiv_i64 (by omega) (by omega) ?_ | refine abr_yes (by omega) ?_ | refine abr_no (by omega) ?_ | refine amin ?_ | refine amax ?_ | refine afit_u64 (by omega) ?_ | refine afit_u8 (by omega) ?_ | rw [List.length_map]); ((conv => whnf); (repeat ((first | with_reducible refine abr_true rfl ?_ | with_reducible refine abr_false rfl ?_ | with_reducible refine abr_yes rfl ?_ | refine abr_yes (by decide) ?_ | refine abr_no (by decide) ?_ | with_reducible refine abr_same_ne ?_); (conv => whnf))))))
          refine acall (rGet ir b (6 * i) 6 _ _ r2) ?_
          rintro _ σ3 ⟨rfl, r3⟩
          rw [hat] at r3
          rw [hval, hc]
          ((conv => whnf); (repeat ((first | with_reducible refine abr_true rfl ?_ | with_reducible refine abr_false rfl ?_ | with_reducible refine abr_yes rfl ?_ | refine abr_yes (by decide) ?_ | refine abr_no (by decide) ?_ | with_reducible refine abr_same_ne ?_); (conv => whnf))))
          (repeat ((first | refine aload (by (repeat (first | with_reducible exact upd_same _ _ _ | assumption | rw [upd_ne _ _ (by first | assumption | (apply Ne.symm; assumption))]))) rfl ?_ | refine afit_i64 (by omega) ?_ | refine arem_nonneg (by omega) (by omega) ?_ | refine adiv_i64 (by omega) (by omega) ?_ | refine abr_yes (by omega) ?_ | refine abr_no (by omega) ?_ | refine amin ?_ | refine amax ?_ | refine afit_u64 (by omega) ?_ | refine afit_u8 (by omega) ?_ | rw [List.length_map]); ((conv => whnf); (repeat ((first | with_reducible refine abr_true rfl ?_ | with_reducible refine abr_false rfl ?_ | with_reducible refine abr_yes rfl ?_ | refine abr_yes (by decide) ?_ | refine abr_no (by decide) ?_ | with_reducible refine abr_same_ne ?_); (conv => whnf))))))
          refine aidx (by omega) (by omega) ?_
          ((conv => whnf); (repeat ((first | with_reducible refine abr_true rfl ?_ | with_reducible refine abr_false rfl ?_ | with_reducible refine abr_yes rfl ?_ | refine abr_yes (by decide) ?_ | refine abr_no (by decide) ?_ | with_reducible refine abr_same_ne ?_); (conv => whnf))))
          have hcell : σ3 i2 = some (.cells ((outs (unpack b) i).map i64v)) := r3.get (upd_same _ _ _)
          refine astore (xs := [i64v ((numAt (unpack b) i : Nat) : Int)]) hcell (by rw [List.length_map, outs_length]; show 0 + ((i : Nat) : Int).toNat * 1 + 1 ≤ 4; omega) rfl (l := (outs (unpack b) (i + 1)).map i64v) (by rw [show 0 + ((i : Nat) : Int).toNat * 1 = i by omega, splice_ints (by rw [outs_length]; omega), outs_set _ _ h]) ?_
          have r4 := r3.set (o := .cells ((outs (unpack b) (i + 1)).map i64v)) (upd_same _ _ _)
          rw [upd_upd] at r4
          ((conv => whnf); (repeat ((first | with_reducible refine abr_true rfl ?_ | with_reducible refine abr_false rfl ?_ | with_reducible refine abr_yes rfl ?_ | refine abr_yes (by decide) ?_ | refine abr_no (by decide) ?_ | with_reducible refine abr_same_ne ?_); (conv => whnf))))
          (repeat ((first | refine aload (by (repeat (first | with_reducible exact upd_same _ _ _ | assumption | rw [upd_ne _ _ (by first | assumption | (apply Ne.symm; assumption))]))) rfl ?_ | refine afit_i64 (by omega) ?_ | refine arem_nonneg (by omega) (by omega) ?_ | refine adiv_i64 (by omega) (by omega) ?_ | refine abr_yes (by omega) ?_ | refine abr_no (by omega) ?_ | refine amin ?_ | refine amax ?_ | refine afit_u64 (by omega) ?_ | refine afit_u8 (by omega) ?_ | rw [List.length_map]); ((conv => whnf); (repeat ((first | with_reducible refine abr_true rfl ?_ | with_reducible refine abr_false rfl ?_ | with_reducible refine abr_yes rfl ?_ | refine abr_yes (by decide) ?_ | refine abr_no (by decide) ?_ | with_reducible refine abr_same_ne ?_); (conv => whnf))))))
          refine ⟨(i + 1, _), ⟨by dsimp only; omega, r4⟩, by dsimp only; omega, Sub.refl _, ?_⟩
          ((conv => whnf); (repeat ((first | with_reducible refine abr_true rfl ?_ | with_reducible refine abr_false rfl ?_ | with_reducible refine abr_yes rfl ?_ | refine abr_yes (by decide) ?_ | refine abr_no (by decide) ?_ | with_reducible refine abr_same_ne ?_); (conv => whnf))))
          (repeat' first | with_reducible exact EnvLe.refl _ | (refine EnvLe.node ?_ (by first | exact Or.inl rfl | exact Or.inr (Or.inl rfl) | exact Or.inr (Or.inr ⟨nofun, VLe.slice _ _ _⟩)) ?_))
        · have hi4 : i = 4 := by omega
          subst hi4
          ((conv => whnf); (repeat ((first | with_reducible refine abr_true rfl ?_ | with_reducible refine abr_false rfl ?_ | with_reducible refine abr_yes rfl ?_ | refine abr_yes (by decide) ?_ | refine abr_no (by decide) ?_ | with_reducible refine abr_same_ne ?_); (conv => whnf))))
          (repeat ((first | refine aload (by (repeat (first | with_reducible exact upd_same _ _ _ | assumption | rw [upd_ne _ _ (by first | assumption | (apply Ne.symm; assumption))]))) rfl ?_ | refine afit_i64 (by omega) ?_ | refine arem_nonneg (by omega) (by omega) ?_ | refine adiv_i64 (by omega) (by omega) ?_ | refine abr_yes (by omega) ?_ | refine abr_no (by omega) ?_ | refine amin ?_ | refine amax ?_ | refine afit_u64 (by omega) ?_ | refine afit_u8 (by omega) ?_ | rw [List.length_map]); ((conv => whnf); (repeat ((first | with_reducible refine abr_true rfl ?_ | with_reducible refine abr_false rfl ?_ | with_reducible refine abr_yes rfl ?_ | refine abr_yes (by decide) ?_ | refine abr_no (by decide) ?_ | with_reducible refine abr_same_ne ?_); (conv => whnf))))))
          refine aloads (l := (outs (unpack b) 4).map i64v) (r2.get (upd_same _ _ _)) (by exact Nat.le_refl 4) rfl ?_
          ((conv => whnf); (repeat ((first | with_reducible refine abr_true rfl ?_ | with_reducible refine abr_false rfl ?_ | with_reducible refine abr_yes rfl ?_ | refine abr_yes (by decide) ?_ | refine abr_no (by decide) ?_ | with_reducible refine abr_same_ne ?_); (conv => whnf))))
          refine astore (xs := (outs (unpack b) 4).map i64v) (l := (outs (unpack b) 4).map i64v) (r2.get (by rw [upd_ne _ _ (Ne.symm hne)]; exact upd_same _ _ _)) (by exact Nat.le_refl 4) rfl rfl ?_
          ((conv => whnf); (repeat ((first | with_reducible refine abr_true rfl ?_ | with_reducible refine abr_false rfl ?_ | with_reducible refine abr_yes rfl ?_ | refine abr_yes (by decide) ?_ | refine abr_no (by decide) ?_ | with_reducible refine abr_same_ne ?_); (conv => whnf))))
          refine aloads (l := (outs (unpack b) 4).map i64v) (upd_same _ _ _) (by exact Nat.le_refl 4) rfl ?_
          ((conv => whnf); (repeat ((first | with_reducible refine abr_true rfl ?_ | with_reducible refine abr_false rfl ?_ | with_reducible refine abr_yes rfl ?_ | refine abr_yes (by decide) ?_ | refine abr_no (by decide) ?_ | with_reducible refine abr_same_ne ?_); (conv => whnf))))
          refine aret (VLe.refl _) (σ' := σ) ?_ ⟨by rw [e], rfl⟩
          have r4 := r2.set (o := .cells ((outs (unpack b) 4).map i64v)) (show _ = some (.cells [i64v 0, i64v 0, i64v 0, i64v 0]) by rw [upd_ne _ _ (Ne.symm hne)]; exact upd_same _ _ _)
          rw [upd_comm _ _ _ hne, upd_upd, upd_comm _ _ _ (Ne.symm hne)] at r4
          refine r4.sub.trans ((Sub.upd_fresh _ ?_).trans (Sub.upd_fresh _ ?_))
          · rw [upd_ne _ _ (Ne.symm hne)]; exact h1
          · first
              | exact h2
              | (rw [upd_ne _ _ hne] at h2; exact h2)
end Go.Proofs.Ytnfdgccmpglbhaa
/-
  The right to append, beside whatever else is known of the heap.
-/
namespace Go.Proofs.Ytnfdgccmpglbhaa
set_option linter.unusedVariables false
set_option linter.unusedSimpArgs false
open Go Go.Am

theorem sub_none {σ σ' : AHeap} (h : Sub σ σ') {id : Nat} (k : σ id = none) : σ' id = none := by
  cases e : σ' id with
  | none => rfl
  | some o => rw [h _ _ e] at k; cases k
theorem sub_del {σ σb : AHeap} {id : Nat} (h : Sub σ σb) (h1 : σb id = none) : Sub (del σ id) σb := fun j o hj => by
  have hne : j ≠ id := fun e => by subst e; rw [h1] at hj; cases hj
  rw [del_ne _ hne]; exact h _ _ hj
theorem sub_upd {σ σb : AHeap} {id : Nat} (o : AObj) (h : Sub σ σb) (h1 : σb id = none) : Sub (upd σ id o) σb := fun j x hj => by
  have hne : j ≠ id := fun e => by subst e; rw [h1] at hj; cases hj
  rw [upd_ne _ _ hne]; exact h _ _ hj
/-- A token that is there, and is not of the heap below. -/
def TokIn (σ σb : AHeap) (tk : Tok) : Prop := tk = .full ∨ ∃ t, tk = .tip t ∧ σ t = some .tip ∧ σb t = none
theorem TokIn.full (σ σb : AHeap) : TokIn σ σb .full := .inl rfl
theorem TokIn.ne {σ σb : AHeap} {tk : Tok} {id : Nat} (o : AObj) (h : TokIn σ σb tk) (k : ∀ t, tk = .tip t → id ≠ t) : TokIn (upd σ id o) σb tk := by
  rcases h with rfl | ⟨t, rfl, h1, h2⟩
  · exact .inl rfl
  · exact .inr ⟨t, rfl, by rw [upd_ne _ _ (Ne.symm (k t rfl))]; exact h1, h2⟩
theorem TokIn.ne_of {σ σb : AHeap} {tk : Tok} {id : Nat} {o : AObj} (h : TokIn σ σb tk) (k : σ id = some o) (ho : o.isTip = false) : ∀ t, tk = .tip t → id ≠ t := by
  rintro t rfl e
  subst e
  rcases h with h | ⟨t', h0, h1, h2⟩
  · cases h
  · cases h0; rw [h1] at k; cases k; cases ho
/-- Something of the heap below is set. -/
theorem TokIn.set {σ σb : AHeap} {tk : Tok} {id : Nat} {o : AObj} (x : AObj) (h : TokIn σ σb tk) (k : σ id = some o) (ho : o.isTip = false) : TokIn (upd σ id x) σb tk := h.ne x (h.ne_of k ho)
theorem TokIn.ext {σ σ' σb : AHeap} {tk : Tok} (h : TokIn σ σb tk) (k : ∀ t, σ t = some .tip → σ' t = some .tip) : TokIn σ' σb tk := by
  rcases h with rfl | ⟨t, rfl, h1, h2⟩
  · exact .inl rfl
  · exact .inr ⟨t, rfl, k t h1, h2⟩
theorem Owned.tokIn {σ σb σ' : AHeap} {tk : Tok} (hs : Sub σ σb) (h : Owned σ σ' tk) : TokIn σ' σb tk := by
  rcases h with ⟨rfl, rfl⟩ | ⟨t, h0, rfl, rfl⟩
  · exact .inl rfl
  · exact .inr ⟨t, rfl, upd_same _ _ _, sub_none hs h0⟩
theorem aapp_in {σ σb : AHeap} {s bytes : Nat} {xs ys : List AVal} {tk : Tok} {K : AVal → AHeap → Prop} (h : TokIn σ σb tk) (hs : Sub σ σb) (hl : (xs.length + ys.length) * bytes ≤ 140737488355328)
    (k : ∀ t' σ', Ext σ σ' → Sub σ' σb → TokIn σ' σb (.tip t') → K (.slice s (xs ++ ys) (.tip t')) σ') : AApp σ s bytes xs tk ys K := by
  rcases h with rfl | ⟨t, rfl, h1, h2⟩
  · refine aapp_full hl fun t ht => k t _ (Ext.upd_fresh _ ht) (sub_upd _ hs (sub_none hs ht)) (.inr ⟨t, rfl, upd_same _ _ _, sub_none hs ht⟩)
  · refine aapp_tip h1 hl fun t' ht' => ?_
    have hb : σb t' = none := sub_none hs ht'
    refine k t' _ (fun id o ho e => ?_) (sub_upd _ (sub_del hs h2) hb) (.inr ⟨t', rfl, upd_same _ _ _, hb⟩)
    have hne : id ≠ t := fun q => by subst q; rw [h1] at e; cases e; cases ho
    have e2 : del σ t id = some o := by rw [del_ne _ hne]; exact e
    rw [upd_ne]; exact e2
    intro q; subst q; rw [e] at ht'; cases ht'
end Go.Proofs.Ytnfdgccmpglbhaa
/-
  The bodies of one package, compiled to the framework's language (printed by a program of this session).
-/
namespace Go.Proofs.Ytnfdgccmpglbhaa
set_option linter.unusedVariables false
set_option linter.unusedSimpArgs false
open Go Go.Am
/- bowlineref38.Leasts -/
def c59 : Cfg := ⟨qs, [], 22, []⟩
def ir59 : IFun := ⟨0, [.tmp s0],
  (.seq (.reg (.one ⟨some s0, none, (.mv (.c (.slice 1 [] .full)))⟩
    .done))
  (.seq (.reg (.one ⟨some s3, none, (.row 1 [(.c (.v (.int .i64 0))), (.c (.v (.int .i64 1)))])⟩
    (.one ⟨some s1, none, (.mv (.t s3))⟩
    .done)))
  (.seq (.block 0 (.loop (.seq (.seq (.reg (.one ⟨some s4, none, (.mv (.t s1))⟩
    (.one ⟨some s5, none, (.len false (.t s4))⟩
    (.one ⟨some s6, none, (.bin false .lss (.t s5) (.c (.v (.int .i64 64))))⟩
    .done))))
  (.cond (.t s6) .skip (.exit 0)))
  (.block 1 (.seq (.reg (.one ⟨some s7, none, (.mv (.t s1))⟩
    (.one ⟨some s8, none, (.mv (.t s1))⟩
    (.one ⟨some s9, none, (.len false (.t s8))⟩
    (.one ⟨some s10, none, (.bin false .sub (.t s9) (.c (.v (.int .i64 1))))⟩
    (.one ⟨some s11, none, (.iaddr 1 (.t s7) (.t s10))⟩
    (.one ⟨some s12, none, (.load none (.t s11))⟩
    (.one ⟨some s2, none, (.mv (.t s12))⟩
    .done))))))))
  (.reg (.one ⟨some s13, none, (.mv (.t s1))⟩
    (.one ⟨some s14, none, (.mv (.t s2))⟩
    (.one ⟨some s15, none, (.mv (.t s2))⟩
    (.one ⟨some s16, none, (.bin false .quo (.t s15) (.c (.v (.int .i64 6))))⟩
    (.one ⟨some s17, none, (.bin false .add (.t s14) (.t s16))⟩
    (.one ⟨some s18, none, (.bin false .add (.t s17) (.c (.v (.int .i64 1))))⟩
    (.one ⟨some s19, none, (.row 1 [(.t s18)])⟩
    (.one ⟨some s20, none, (.app 1 8 (.t s13) (.t s19))⟩
    (.one ⟨some s1, none, (.mv (.t s20))⟩
    .done)))))))))))))))
  (.seq (.reg (.one ⟨some s21, none, (.mv (.t s1))⟩
    (.one ⟨some s0, none, (.mv (.t s21))⟩
    .done)))
  .ret))))⟩
theorem ok59 : compF Try.prog c59 Try.f59 = some ir59 := by kernel_rfl
theorem k_bowlineref38_Leasts {args : List AVal} {σ : AHeap} {Q : AVal → AHeap → Prop} (hl : Nat.ble args.length 22 = true) (h : argsK (Env.full 9) 0 args fun env => evC Try.prog c59 ir59.body env σ (retQ ir59 Q)) : ACalls Try.prog 59 args σ Q :=
  acalls_of Try.func59 ok59 rfl (Nat.le_of_ble_eq_true hl) h
/- bowlineref38.Level -/
def c62 : Cfg := ⟨qs, [], 21, []⟩
def ir62 : IFun := ⟨1, [.tmp s2],
  (.seq (.reg (.one ⟨some s2, none, (.mv (.c (.v (.int .i64 0))))⟩
    .done))
  (.seq (.reg (.one ⟨some s6, none, (.callq 59 [])⟩
    (.one ⟨some s3, none, (.mv (.t s6))⟩
    .done)))
  (.seq (.reg (.one ⟨some s4, none, (.mv (.c (.v (.int .i64 0))))⟩
    .done))
  (.seq (.seq (.reg (.one ⟨some s5, none, (.mv (.c (.v (.int .i64 0))))⟩
    .done))
  (.block 0 (.loop (.seq (.seq (.reg (.one ⟨some s7, none, (.mv (.t s5))⟩
    (.one ⟨some s8, none, (.mv (.t s3))⟩
    (.one ⟨some s9, none, (.len false (.t s8))⟩
    (.one ⟨some s10, none, (.bin false .lss (.t s7) (.t s9))⟩
    .done)))))
  (.cond (.t s10) .skip (.exit 0)))
  (.seq (.block 1 (.seq (.reg (.one ⟨some s13, none, (.mv (.t s3))⟩
    (.one ⟨some s14, none, (.mv (.t s5))⟩
    (.one ⟨some s15, none, (.iaddr 1 (.t s13) (.t s14))⟩
    (.one ⟨some s16, none, (.load none (.t s15))⟩
    (.one ⟨some s17, none, (.mv (.t s0))⟩
    (.one ⟨some s18, none, (.bin false .leq (.t s16) (.t s17))⟩
    .done)))))))
  (.cond (.t s18) (.reg (.one ⟨some s19, none, (.mv (.t s5))⟩
    (.one ⟨some s4, none, (.mv (.t s19))⟩
    .done))) .skip)))
  (.reg (.one ⟨some s11, none, (.mv (.t s5))⟩
    (.one ⟨some s12, none, (.bin false .add (.t s11) (.c (.v (.int .i64 1))))⟩
    (.one ⟨some s5, none, (.mv (.t s12))⟩
    .done)))))))))
  (.seq (.reg (.one ⟨some s20, none, (.mv (.t s4))⟩
    (.one ⟨some s2, none, (.mv (.t s20))⟩
    .done)))
  .ret)))))⟩
theorem ok62 : compF Try.prog c62 Try.f62 = some ir62 := by kernel_rfl
theorem k_bowlineref38_Level {args : List AVal} {σ : AHeap} {Q : AVal → AHeap → Prop} (hl : Nat.ble args.length 21 = true) (h : argsK (Env.full 9) 0 args fun env => evC Try.prog c62 ir62.body env σ (retQ ir62 Q)) : ACalls Try.prog 62 args σ Q :=
  acalls_of Try.func62 ok62 rfl (Nat.le_of_ble_eq_true hl) h
/- bowlineref38.Right -/
def c63 : Cfg := ⟨qs, [], 18, []⟩
def ir63 : IFun := ⟨1, [.tmp s2],
  (.seq (.reg (.one ⟨some s1, none, (.box 4 (.t s0))⟩
    (.one ⟨some s2, none, (.mv (.c (.v (.bool false))))⟩
    .done)))
  (.seq (.seq (.reg (.one ⟨some s3, none, (.mv (.c (.v (.int .i64 0))))⟩
    .done))
  (.block 0 (.loop (.seq (.seq (.reg (.one ⟨some s4, none, (.mv (.t s3))⟩
    (.one ⟨some s5, none, (.bin false .lss (.t s4) (.c (.v (.int .i64 4))))⟩
    .done)))
  (.cond (.t s5) .skip (.exit 0)))
  (.seq (.block 1 (.seq (.reg (.one ⟨some s8, none, (.mv (.t s3))⟩
    (.one ⟨some s9, none, (.iaddrA 1 4 (.t s1) (.t s8))⟩
    (.one ⟨some s10, none, (.load none (.t s9))⟩
    (.one ⟨some s11, none, (.bin false .lss (.t s10) (.c (.v (.int .i64 0))))⟩
    (.one ⟨some s12, none, (.mv (.t s11))⟩
    (.one ⟨some s13, some (s12, false), (.mv (.t s3))⟩
    (.one ⟨some s14, some (s12, false), (.iaddrA 1 4 (.t s1) (.t s13))⟩
    (.one ⟨some s15, some (s12, false), (.load none (.t s14))⟩
    (.one ⟨some s16, some (s12, false), (.bin false .gtr (.t s15) (.c (.v (.int .i64 63))))⟩
    (.one ⟨some s17, none, (.pick (.t s12) (.c (.v (.bool true))) (.t s16))⟩
    .done)))))))))))
  (.cond (.t s17) (.seq (.reg (.one ⟨some s2, none, (.mv (.c (.v (.bool false))))⟩
    .done))
  .ret) .skip)))
  (.reg (.one ⟨some s6, none, (.mv (.t s3))⟩
    (.one ⟨some s7, none, (.bin false .add (.t s6) (.c (.v (.int .i64 1))))⟩
    (.one ⟨some s3, none, (.mv (.t s7))⟩
    .done)))))))))
  (.seq (.reg (.one ⟨some s2, none, (.mv (.c (.v (.bool true))))⟩
    .done))
  .ret)))⟩
theorem ok63 : compF Try.prog c63 Try.f63 = some ir63 := by kernel_rfl
theorem k_bowlineref38_Right {args : List AVal} {σ : AHeap} {Q : AVal → AHeap → Prop} (hl : Nat.ble args.length 18 = true) (h : argsK (Env.full 9) 0 args fun env => evC Try.prog c63 ir63.body env σ (retQ ir63 Q)) : ACalls Try.prog 63 args σ Q :=
  acalls_of Try.func63 ok63 rfl (Nat.le_of_ble_eq_true hl) h
end Go.Proofs.Ytnfdgccmpglbhaa
/-
  Reports: sums, what waits as levels; the document's leasts.
-/
namespace Go.Proofs.Ytnfdgccmpglbhaa
set_option linter.unusedVariables false
set_option linter.unusedSimpArgs false
open Go Go.Am

def sumTo (rs : List Int) (i : Nat) : Nat := ((rs.take i).map fun n => leastV n.toNat).sum
theorem sumTo_succ {rs : List Int} {i : Nat} (h : i < rs.length) : sumTo rs (i + 1) = sumTo rs i + leastV rs[i].toNat := by
  unfold sumTo; rw [List.take_add_one, List.getElem?_eq_getElem h, List.map_append, List.sum_append]; rfl
theorem sumTo_le {rs : List Int} (h : rs.all isLevelV = true) : ∀ i, i ≤ rs.length → sumTo rs i ≤ 1000000 * i
  | 0, _ => Nat.zero_le _
  | i + 1, hi => by
    have hl := isLevelV_iff.1 (List.all_eq_true.1 h rs[i] (List.getElem_mem (by omega)))
    have := leastV_small rs[i].toNat (by omega)
    have := sumTo_le h i (by omega)
    rw [sumTo_succ (by omega)]
    omega
def sumV (rs : List Int) : Int := if rs.all isLevelV = true then (sumTo rs 4 : Int) else 0

set_option maxRecDepth 20000 in
theorem bSum (rs : List Int) (h4 : rs.length = 4) (σ : AHeap) : ACalls Try.prog i_bsr_Sum [rep rs] σ fun v σ' => v = i64v (sumV rs) ∧ σ' = σ := by
  have hr4 := bRight rs h4
  obtain ⟨a, b, c, d, hr⟩ := four h4
  subst hr
  refine k_bsr_Sum rfl ?_
  ((conv => whnf); (repeat ((first | with_reducible refine abr_true rfl ?_ | with_reducible refine abr_false rfl ?_ | with_reducible refine abr_yes rfl ?_ | refine abr_yes (by decide) ?_ | refine abr_no (by decide) ?_ | with_reducible refine abr_same_ne ?_); (conv => whnf))))
  refine anew rfl fun id hid => ?_
  have hs : Sub (upd σ id (.cells [i64v a, i64v b, i64v c, i64v d])) σ := Sub.upd_fresh _ hid
  ((conv => whnf); (repeat ((first | with_reducible refine abr_true rfl ?_ | with_reducible refine abr_false rfl ?_ | with_reducible refine abr_yes rfl ?_ | refine abr_yes (by decide) ?_ | refine abr_no (by decide) ?_ | with_reducible refine abr_same_ne ?_); (conv => whnf))))
  refine aloads (l := [i64v a, i64v b, i64v c, i64v d]) (upd_same _ _ _) (by exact Nat.le_refl 4) rfl ?_
  ((conv => whnf); (repeat ((first | with_reducible refine abr_true rfl ?_ | with_reducible refine abr_false rfl ?_ | with_reducible refine abr_yes rfl ?_ | refine abr_yes (by decide) ?_ | refine abr_no (by decide) ?_ | with_reducible refine abr_same_ne ?_); (conv => whnf))))
  refine abr_any (fun hB => ?_) (fun hB => ?_)
  · ((conv => whnf); (repeat ((first | with_reducible refine abr_true rfl ?_ | with_reducible refine abr_false rfl ?_ | with_reducible refine abr_yes rfl ?_ | refine abr_yes (by decide) ?_ | refine abr_no (by decide) ?_ | with_reducible refine abr_same_ne ?_); (conv => whnf))))
    simp at hB
    obtain ⟨rfl, rfl, rfl, rfl⟩ := hB
    exact aret (VLe.refl _) hs ⟨rfl, rfl⟩
  · ((conv => whnf); (repeat ((first | with_reducible refine abr_true rfl ?_ | with_reducible refine abr_false rfl ?_ | with_reducible refine abr_yes rfl ?_ | refine abr_yes (by decide) ?_ | refine abr_no (by decide) ?_ | with_reducible refine abr_same_ne ?_); (conv => whnf))))
    refine aloads (l := [i64v a, i64v b, i64v c, i64v d]) (upd_same _ _ _) (by exact Nat.le_refl 4) rfl ?_
    ((conv => whnf); (repeat ((first | with_reducible refine abr_true rfl ?_ | with_reducible refine abr_false rfl ?_ | with_reducible refine abr_yes rfl ?_ | refine abr_yes (by decide) ?_ | refine abr_no (by decide) ?_ | with_reducible refine abr_same_ne ?_); (conv => whnf))))
    refine acall (hr4 _) ?_
    rintro _ σ_ ⟨rfl, e_⟩
    obtain rfl := e_.symm
    refine ⟨?_, Ext.refl _⟩
    ((conv => whnf); (repeat ((first | with_reducible refine abr_true rfl ?_ | with_reducible refine abr_false rfl ?_ | with_reducible refine abr_yes rfl ?_ | refine abr_yes (by decide) ?_ | refine abr_no (by decide) ?_ | with_reducible refine abr_same_ne ?_); (conv => whnf))))
    cases hall : [a, b, c, d].all isLevelV with
    | false =>
      ((conv => whnf); (repeat ((first | with_reducible refine abr_true rfl ?_ | with_reducible refine abr_false rfl ?_ | with_reducible refine abr_yes rfl ?_ | refine abr_yes (by decide) ?_ | refine abr_no (by decide) ?_ | with_reducible refine abr_same_ne ?_); (conv => whnf))))
      exact aret (VLe.refl _) hs ⟨by unfold sumV; rw [hall, if_neg (by simp)], rfl⟩
    | true =>
      ((conv => whnf); (repeat ((first | with_reducible refine abr_true rfl ?_ | with_reducible refine abr_false rfl ?_ | with_reducible refine abr_yes rfl ?_ | refine abr_yes (by decide) ?_ | refine abr_no (by decide) ?_ | with_reducible refine abr_same_ne ?_); (conv => whnf))))
      refine aloads (l := [i64v a, i64v b, i64v c, i64v d]) (upd_same _ _ _) (by exact Nat.le_refl 4) rfl ?_
      ((conv => whnf); (repeat ((first | with_reducible refine abr_true rfl ?_ | with_reducible refine abr_false rfl ?_ | with_reducible refine abr_yes rfl ?_ | refine abr_yes (by decide) ?_ | refine abr_no (by decide) ?_ | with_reducible refine abr_same_ne ?_); (conv => whnf))))
      refine aloop (α := Nat) (fun i => [(s3, i64v (sumTo [a, b, c, d] i)), (s17, i64v i)]) (fun _ => upd σ id (.cells [i64v a, i64v b, i64v c, i64v d])) (fun i => i ≤ 4) (fun i => 4 - i) 0 (by omega) (Sub.refl _) ?_ ?_
      · ((conv => whnf); (repeat ((first | with_reducible refine abr_true rfl ?_ | with_reducible refine abr_false rfl ?_ | with_reducible refine abr_yes rfl ?_ | refine abr_yes (by decide) ?_ | refine abr_no (by decide) ?_ | with_reducible refine abr_same_ne ?_); (conv => whnf))))
        (repeat' first | with_reducible exact EnvLe.refl _ | (refine EnvLe.node ?_ (by first | exact Or.inl rfl | exact Or.inr (Or.inl rfl) | exact Or.inr (Or.inr ⟨nofun, VLe.slice _ _ _⟩)) ?_))
      intro i hi
      have hle := sumTo_le hall i hi
      have hsumV : sumV [a, b, c, d] = (sumTo [a, b, c, d] 4 : Int) := by unfold sumV; rw [hall, if_pos rfl]
      have hlen : [a, b, c, d].length = 4 := rfl
      rw [hsumV]
      generalize hrr : [a, b, c, d] = rs at *
      by_cases h : i < 4
      · have hl := isLevelV_iff.1 (List.all_eq_true.1 hall rs[i] (List.getElem_mem (by omega)))
        have hsm := leastV_small rs[i].toNat (by omega)
        ((conv => whnf); (repeat ((first | with_reducible refine abr_true rfl ?_ | with_reducible refine abr_false rfl ?_ | with_reducible refine abr_yes rfl ?_ | refine abr_yes (by decide) ?_ | refine abr_no (by decide) ?_ | with_reducible refine abr_same_ne ?_); (conv => whnf))))
        (repeat ((first | refine aload (by (repeat (first | with_reducible exact upd_same _ _ _ | assumption | rw [upd_ne _ _ (by first | assumption | (apply Ne.symm; assumption))]))) rfl ?_ | refine afit_i64 (by omega) ?_ | refine arem_nonneg (by omega) (by omega) ?_ | refine adiv_i64 (by omega) (by omega) ?_ | refine abr_yes (by omega) ?_ | refine abr_no (by omega) ?_ | refine amin ?_ | refine amax ?_ | refine afit_u64 (by omega) ?_ | refine afit_u8 (by omega) ?_ | rw [List.length_map]); ((conv => whnf); (repeat ((first | with_reducible refine abr_true rfl ?_ | with_reducible refine abr_false rfl ?_ | with_reducible refine abr_yes rfl ?_ | refine abr_yes (by decide) ?_ | refine abr_no (by decide) ?_ | with_reducible refine abr_same_ne ?_); (conv => whnf))))))
        refine aidx (by omega) (by omega) ?_
        refine acell (get4 hrr (by omega)) ?_
        ((conv => whnf); (repeat ((first | with_reducible refine abr_true rfl ?_ | with_reducible refine abr_false rfl ?_ | with_reducible refine abr_yes rfl ?_ | refine abr_yes (by decide) ?_ | refine abr_no (by decide) ?_ | with_reducible refine abr_same_ne ?_); (conv => whnf))))
        refine acall (bLeast rs[i] _) ?_
        rintro _ σ_ ⟨rfl, e_⟩
        obtain rfl := e_.symm
        refine ⟨?_, Ext.refl _⟩
        ((conv => whnf); (repeat ((first | with_reducible refine abr_true rfl ?_ | with_reducible refine abr_false rfl ?_ | with_reducible refine abr_yes rfl ?_ | refine abr_yes (by decide) ?_ | refine abr_no (by decide) ?_ | with_reducible refine abr_same_ne ?_); (conv => whnf))))
        rw [if_pos (isLevelV_iff.2 hl), if_pos (isLevelV_iff.2 hl)]
        (repeat ((first | refine aload (by (repeat (first | with_reducible exact upd_same _ _ _ | assumption | rw [upd_ne _ _ (by first | assumption | (apply Ne.symm; assumption))]))) rfl ?_ | refine afit_i64 (by omega) ?_ | refine arem_nonneg (by omega) (by omega) ?_ | refine adiv_i64 (by omega) (by omega) ?_ | refine abr_yes (by omega) ?_ | refine abr_no (by omega) ?_ | refine amin ?_ | refine amax ?_ | refine afit_u64 (by omega) ?_ | refine afit_u8 (by omega) ?_ | rw [List.length_map]); ((conv => whnf); (repeat ((first | with_reducible refine abr_true rfl ?_ | with_reducible refine abr_false rfl ?_ | with_reducible refine abr_yes rfl ?_ | refine abr_yes (by decide) ?_ | refine abr_no (by decide) ?_ | with_reducible refine abr_same_ne ?_); (conv => whnf))))))
        refine ⟨i + 1, by omega, by omega, Sub.refl _, ?_⟩
        rw [sumTo_succ (by omega), Int.natCast_add]
        ((conv => whnf); (repeat ((first | with_reducible refine abr_true rfl ?_ | with_reducible refine abr_false rfl ?_ | with_reducible refine abr_yes rfl ?_ | refine abr_yes (by decide) ?_ | refine abr_no (by decide) ?_ | with_reducible refine abr_same_ne ?_); (conv => whnf))))
        (repeat' first | with_reducible exact EnvLe.refl _ | (refine EnvLe.node ?_ (by first | exact Or.inl rfl | exact Or.inr (Or.inl rfl) | exact Or.inr (Or.inr ⟨nofun, VLe.slice _ _ _⟩)) ?_))
      · obtain rfl : i = 4 := by omega
        ((conv => whnf); (repeat ((first | with_reducible refine abr_true rfl ?_ | with_reducible refine abr_false rfl ?_ | with_reducible refine abr_yes rfl ?_ | refine abr_yes (by decide) ?_ | refine abr_no (by decide) ?_ | with_reducible refine abr_same_ne ?_); (conv => whnf))))
        (repeat ((first | refine aload (by (repeat (first | with_reducible exact upd_same _ _ _ | assumption | rw [upd_ne _ _ (by first | assumption | (apply Ne.symm; assumption))]))) rfl ?_ | refine afit_i64 (by omega) ?_ | refine arem_nonneg (by omega) (by omega) ?_ | refine adiv_i64 (by omega) (by omega) ?_ | refine abr_yes (by omega) ?_ | refine abr_no (by omega) ?_ | refine amin ?_ | refine amax ?_ | refine afit_u64 (by omega) ?_ | refine afit_u8 (by omega) ?_ | rw [List.length_map]); ((conv => whnf); (repeat ((first | with_reducible refine abr_true rfl ?_ | with_reducible refine abr_false rfl ?_ | with_reducible refine abr_yes rfl ?_ | refine abr_yes (by decide) ?_ | refine abr_no (by decide) ?_ | with_reducible refine abr_same_ne ?_); (conv => whnf))))))
        exact aret (VLe.refl _) hs ⟨rfl, rfl⟩

def ofL (ws : List Int) (i : Nat) : List Int := (List.range 4).map fun j => if j < i then (levelV (ws[j]?.getD 0).toNat : Int) else 0
theorem ofL_length (ws : List Int) (i : Nat) : (ofL ws i).length = 4 := rfl
theorem ofL_set (ws : List Int) (i : Nat) (h : i < 4) : (ofL ws i).set i (levelV (ws[i]?.getD 0).toNat : Int) = ofL ws (i + 1) := by
  have : i = 0 ∨ i = 1 ∨ i = 2 ∨ i = 3 := by omega
  rcases this with rfl | rfl | rfl | rfl <;> rfl
def negs (ws : List Int) : Bool := ws.any fun n => decide (n < 0)
def ofV (ws : List Int) : List Int := if negs ws = true then [0, 0, 0, 0] else ofL ws 4

set_option maxRecDepth 20000 in
theorem bOf (ws : List Int) (h4 : ws.length = 4) (σ : AHeap) : ACalls Try.prog i_bsr_Of [rep ws] σ fun v σ' => v = .tup [rep (ofV ws), i64v (if negs ws = true then 1 else 0)] ∧ σ' = σ := by
  obtain ⟨a, b, c, d, hr⟩ := four h4
  subst hr
  refine k_bsr_Of rfl ?_
  ((conv => whnf); (repeat ((first | with_reducible refine abr_true rfl ?_ | with_reducible refine abr_false rfl ?_ | with_reducible refine abr_yes rfl ?_ | refine abr_yes (by decide) ?_ | refine abr_no (by decide) ?_ | with_reducible refine abr_same_ne ?_); (conv => whnf))))
  refine anew rfl fun i1 hi1 => ?_
  ((conv => whnf); (repeat ((first | with_reducible refine abr_true rfl ?_ | with_reducible refine abr_false rfl ?_ | with_reducible refine abr_yes rfl ?_ | refine abr_yes (by decide) ?_ | refine abr_no (by decide) ?_ | with_reducible refine abr_same_ne ?_); (conv => whnf))))
  refine anew rfl fun i2 hi2 => ?_
  have n12 : i1 ≠ i2 := fun e => by subst e; rw [upd_same] at hi2; cases hi2
  ((conv => whnf); (repeat ((first | with_reducible refine abr_true rfl ?_ | with_reducible refine abr_false rfl ?_ | with_reducible refine abr_yes rfl ?_ | refine abr_yes (by decide) ?_ | refine abr_no (by decide) ?_ | with_reducible refine abr_same_ne ?_); (conv => whnf))))
  refine anew rfl fun i4 hi4 => ?_
  have n24 : i2 ≠ i4 := fun e => by subst e; rw [upd_same] at hi4; cases hi4
  have n14 : i1 ≠ i4 := fun e => by subst e; rw [upd_ne _ _ n12, upd_same] at hi4; cases hi4
  have b1 : σ i1 = none := hi1
  have b2 : σ i2 = none := sub_none (Sub.upd_fresh _ hi1) hi2
  have b4 : σ i4 = none := sub_none ((Sub.upd_fresh _ hi2).trans (Sub.upd_fresh _ hi1)) hi4
  generalize hβ : upd (upd σ i1 _) i2 _ = β at *
  have k1 : β i1 = some (.cells [i64v a, i64v b, i64v c, i64v d]) := by rw [← hβ, upd_ne _ _ n12]; exact upd_same _ _ _
  have k2 : β i2 = some (.cells [i64v 0, i64v 0, i64v 0, i64v 0]) := by rw [← hβ]; exact upd_same _ _ _
  have hs : Sub β σ := by rw [← hβ]; exact sub_upd _ (sub_upd _ (Sub.refl _) b1) b2
  clear hβ
  ((conv => whnf); (repeat ((first | with_reducible refine abr_true rfl ?_ | with_reducible refine abr_false rfl ?_ | with_reducible refine abr_yes rfl ?_ | refine abr_yes (by decide) ?_ | refine abr_no (by decide) ?_ | with_reducible refine abr_same_ne ?_); (conv => whnf))))
  refine aloads (l := [i64v a, i64v b, i64v c, i64v d]) (by rw [upd_ne _ _ n14]; exact k1) (by exact Nat.le_refl 4) rfl ?_
  ((conv => whnf); (repeat ((first | with_reducible refine abr_true rfl ?_ | with_reducible refine abr_false rfl ?_ | with_reducible refine abr_yes rfl ?_ | refine abr_yes (by decide) ?_ | refine abr_no (by decide) ?_ | with_reducible refine abr_same_ne ?_); (conv => whnf))))
  refine aloop (α := Nat) (fun i => [(s10, i64v i)]) (fun i => upd β i4 (.cells ((ofL [a, b, c, d] i).map i64v))) (fun i => i ≤ 4 ∧ negs ([a, b, c, d].take i) = false) (fun i => 4 - i) 0 ⟨by omega, rfl⟩ (Sub.refl _) ?_ ?_
  · ((conv => whnf); (repeat ((first | with_reducible refine abr_true rfl ?_ | with_reducible refine abr_false rfl ?_ | with_reducible refine abr_yes rfl ?_ | refine abr_yes (by decide) ?_ | refine abr_no (by decide) ?_ | with_reducible refine abr_same_ne ?_); (conv => whnf))))
    (repeat' first | with_reducible exact EnvLe.refl _ | (refine EnvLe.node ?_ (by first | exact Or.inl rfl | exact Or.inr (Or.inl rfl) | exact Or.inr (Or.inr ⟨nofun, VLe.slice _ _ _⟩)) ?_))
  rintro i ⟨hi, hn⟩
  dsimp only
  have hlen : [a, b, c, d].length = 4 := rfl
  have hrr : [a, b, c, d] = [a, b, c, d] := rfl
  generalize hrs : [a, b, c, d] = rs at *
  by_cases h : i < 4
  · have hn2 : negs (rs.take (i + 1)) = decide (rs[i] < 0) := by
      unfold negs at hn ⊢
      rw [List.take_add_one, List.getElem?_eq_getElem (by omega), List.any_append, hn]; simp
    ((conv => whnf); (repeat ((first | with_reducible refine abr_true rfl ?_ | with_reducible refine abr_false rfl ?_ | with_reducible refine abr_yes rfl ?_ | refine abr_yes (by decide) ?_ | refine abr_no (by decide) ?_ | with_reducible refine abr_same_ne ?_); (conv => whnf))))
    (repeat ((first | refine aload (by (repeat (first | with_reducible exact upd_same _ _ _ | assumption | rw [upd_ne _ _ (by first | assumption | (apply Ne.symm; assumption))]))) rfl ?_ | refine afit_i64 (by omega) ?_ | refine arem_nonneg (by omega) (by omega) ?_ | refine adiv_i64 (by omega) (by omega) ?_ | refine abr_yes (by omega) ?_ | refine abr_no (by omega) ?_ | refine amin ?_ | refine amax ?_ | refine afit_u64 (by omega) ?_ | refine afit_u8 (by omega) ?_ | rw [List.length_map]); ((conv => whnf); (repeat ((first | with_reducible refine abr_true rfl ?_ | with_reducible refine abr_false rfl ?_ | with_reducible refine abr_yes rfl ?_ | refine abr_yes (by decide) ?_ | refine abr_no (by decide) ?_ | with_reducible refine abr_same_ne ?_); (conv => whnf))))))
    refine aidx (by omega) (by omega) ?_
    refine acell (get4 hrs (by omega)) ?_
    ((conv => whnf); (repeat ((first | with_reducible refine abr_true rfl ?_ | with_reducible refine abr_false rfl ?_ | with_reducible refine abr_yes rfl ?_ | refine abr_yes (by decide) ?_ | refine abr_no (by decide) ?_ | with_reducible refine abr_same_ne ?_); (conv => whnf))))
    refine acall (bLevel rs[i] _) ?_
    rintro _ σ_ ⟨rfl, e_⟩
    obtain rfl := e_.symm
    refine ⟨?_, Ext.refl _⟩
    ((conv => whnf); (repeat ((first | with_reducible refine abr_true rfl ?_ | with_reducible refine abr_false rfl ?_ | with_reducible refine abr_yes rfl ?_ | refine abr_yes (by decide) ?_ | refine abr_no (by decide) ?_ | with_reducible refine abr_same_ne ?_); (conv => whnf))))
    by_cases hneg : rs[i] < 0
    · rw [if_pos hneg, if_pos hneg]
      have hall : negs rs = true := List.any_eq_true.2 ⟨rs[i], List.getElem_mem _, decide_eq_true hneg⟩
      ((conv => whnf); (repeat ((first | with_reducible refine abr_true rfl ?_ | with_reducible refine abr_false rfl ?_ | with_reducible refine abr_yes rfl ?_ | refine abr_yes (by decide) ?_ | refine abr_no (by decide) ?_ | with_reducible refine abr_same_ne ?_); (conv => whnf))))
      refine astore (xs := [i64v 0, i64v 0, i64v 0, i64v 0]) (l := [i64v 0, i64v 0, i64v 0, i64v 0]) (by rw [upd_ne _ _ n24]; exact k2) (Nat.le_of_ble_eq_true rfl) rfl rfl ?_
      ((conv => whnf); (repeat ((first | with_reducible refine abr_true rfl ?_ | with_reducible refine abr_false rfl ?_ | with_reducible refine abr_yes rfl ?_ | refine abr_yes (by decide) ?_ | refine abr_no (by decide) ?_ | with_reducible refine abr_same_ne ?_); (conv => whnf))))
      refine aloads (l := [i64v 0, i64v 0, i64v 0, i64v 0]) (upd_same _ _ _) (by exact Nat.le_refl 4) rfl ?_
      ((conv => whnf); (repeat ((first | with_reducible refine abr_true rfl ?_ | with_reducible refine abr_false rfl ?_ | with_reducible refine abr_yes rfl ?_ | refine abr_yes (by decide) ?_ | refine abr_no (by decide) ?_ | with_reducible refine abr_same_ne ?_); (conv => whnf))))
      refine aret (VLe.refl _) (sub_upd _ (sub_upd _ hs b4) b2) ⟨?_, rfl⟩
      unfold ofV; rw [hall]; rfl
    · rw [if_neg hneg, if_neg hneg]
      ((conv => whnf); (repeat ((first | with_reducible refine abr_true rfl ?_ | with_reducible refine abr_false rfl ?_ | with_reducible refine abr_yes rfl ?_ | refine abr_yes (by decide) ?_ | refine abr_no (by decide) ?_ | with_reducible refine abr_same_ne ?_); (conv => whnf))))
      refine aidx (by omega) (by omega) ?_
      ((conv => whnf); (repeat ((first | with_reducible refine abr_true rfl ?_ | with_reducible refine abr_false rfl ?_ | with_reducible refine abr_yes rfl ?_ | refine abr_yes (by decide) ?_ | refine abr_no (by decide) ?_ | with_reducible refine abr_same_ne ?_); (conv => whnf))))
      have hgd : rs[i]?.getD 0 = rs[i] := by rw [List.getElem?_eq_getElem (by omega)]; rfl
      refine astore (xs := [i64v (levelV rs[i].toNat : Int)]) (l := (ofL rs (i + 1)).map i64v) (upd_same _ _ _) (by rw [List.length_map, ofL_length]; show _ + 1 ≤ 4; omega) rfl (by
        rw [show 0 + ((i : Nat) : Int).toNat * 1 = i by omega, splice_ints (by rw [ofL_length]; exact h), ← ofL_set rs i h, hgd]) ?_
      rw [upd_upd]
      ((conv => whnf); (repeat ((first | with_reducible refine abr_true rfl ?_ | with_reducible refine abr_false rfl ?_ | with_reducible refine abr_yes rfl ?_ | refine abr_yes (by decide) ?_ | refine abr_no (by decide) ?_ | with_reducible refine abr_same_ne ?_); (conv => whnf))))
      (repeat ((first | refine aload (by (repeat (first | with_reducible exact upd_same _ _ _ | assumption | rw [upd_ne _ _ (by first | assumption | (apply Ne.symm; assumption))]))) rfl ?_ | refine afit_i64 (by omega) ?_ | refine arem_nonneg (by omega) (by omega) ?_ | refine adiv_i64 (by omega) (by omega) ?_ | refine abr_yes (by omega) ?_ | refine abr_no (by omega) ?_ | refine amin ?_ | refine amax ?_ | refine afit_u64 (by omega) ?_ | refine afit_u8 (by omega) ?_ | rw [List.length_map]); ((conv => whnf); (repeat ((first | with_reducible refine abr_true rfl ?_ | with_reducible refine abr_false rfl ?_ | with_reducible refine abr_yes rfl ?_ | refine abr_yes (by decide) ?_ | refine abr_no (by decide) ?_ | with_reducible refine abr_same_ne ?_); (conv => whnf))))))
      refine ⟨i + 1, ⟨by omega, by rw [hn2, decide_eq_false hneg]⟩, by omega, Sub.refl _, ?_⟩
      ((conv => whnf); (repeat ((first | with_reducible refine abr_true rfl ?_ | with_reducible refine abr_false rfl ?_ | with_reducible refine abr_yes rfl ?_ | refine abr_yes (by decide) ?_ | refine abr_no (by decide) ?_ | with_reducible refine abr_same_ne ?_); (conv => whnf))))
      (repeat' first | with_reducible exact EnvLe.refl _ | (refine EnvLe.node ?_ (by first | exact Or.inl rfl | exact Or.inr (Or.inl rfl) | exact Or.inr (Or.inr ⟨nofun, VLe.slice _ _ _⟩)) ?_))
  · obtain rfl : i = 4 := by omega
    rw [List.take_of_length_le (by omega)] at hn
    ((conv => whnf); (repeat ((first | with_reducible refine abr_true rfl ?_ | with_reducible refine abr_false rfl ?_ | with_reducible refine abr_yes rfl ?_ | refine abr_yes (by decide) ?_ | refine abr_no (by decide) ?_ | with_reducible refine abr_same_ne ?_); (conv => whnf))))
    (repeat ((first | refine aload (by (repeat (first | with_reducible exact upd_same _ _ _ | assumption | rw [upd_ne _ _ (by first | assumption | (apply Ne.symm; assumption))]))) rfl ?_ | refine afit_i64 (by omega) ?_ | refine arem_nonneg (by omega) (by omega) ?_ | refine adiv_i64 (by omega) (by omega) ?_ | refine abr_yes (by omega) ?_ | refine abr_no (by omega) ?_ | refine amin ?_ | refine amax ?_ | refine afit_u64 (by omega) ?_ | refine afit_u8 (by omega) ?_ | rw [List.length_map]); ((conv => whnf); (repeat ((first | with_reducible refine abr_true rfl ?_ | with_reducible refine abr_false rfl ?_ | with_reducible refine abr_yes rfl ?_ | refine abr_yes (by decide) ?_ | refine abr_no (by decide) ?_ | with_reducible refine abr_same_ne ?_); (conv => whnf))))))
    refine aloads (l := (ofL rs 4).map i64v) (upd_same _ _ _) (by rw [List.length_map, ofL_length]; exact Nat.le_refl 4) rfl ?_
    ((conv => whnf); (repeat ((first | with_reducible refine abr_true rfl ?_ | with_reducible refine abr_false rfl ?_ | with_reducible refine abr_yes rfl ?_ | refine abr_yes (by decide) ?_ | refine abr_no (by decide) ?_ | with_reducible refine abr_same_ne ?_); (conv => whnf))))
    refine astore (xs := (ofL rs 4).map i64v) (l := (ofL rs 4).map i64v) (by rw [upd_ne _ _ n24]; exact k2) (by rw [List.length_map, ofL_length]; exact Nat.le_refl 4) (cells_rep _) rfl ?_
    ((conv => whnf); (repeat ((first | with_reducible refine abr_true rfl ?_ | with_reducible refine abr_false rfl ?_ | with_reducible refine abr_yes rfl ?_ | refine abr_yes (by decide) ?_ | refine abr_no (by decide) ?_ | with_reducible refine abr_same_ne ?_); (conv => whnf))))
    refine aloads (l := (ofL rs 4).map i64v) (upd_same _ _ _) (by rw [List.length_map, ofL_length]; exact Nat.le_refl 4) rfl ?_
    ((conv => whnf); (repeat ((first | with_reducible refine abr_true rfl ?_ | with_reducible refine abr_false rfl ?_ | with_reducible refine abr_yes rfl ?_ | refine abr_yes (by decide) ?_ | refine abr_no (by decide) ?_ | with_reducible refine abr_same_ne ?_); (conv => whnf))))
    refine aret (VLe.refl _) (sub_upd _ (sub_upd _ hs b4) b2) ⟨?_, rfl⟩
    unfold ofV; rw [hn]; rfl

def leasts (k : Nat) : List AVal := (List.range k).map fun i => i64v (leastV i)
theorem leasts_get {k i : Nat} (h : i < k) : (leasts k)[i]? = some (i64v (leastV i)) := by
  unfold leasts; rw [List.getElem?_map, List.getElem?_range h]; rfl
theorem leasts_len (k : Nat) : (leasts k).length = k := by unfold leasts; simp
set_option maxRecDepth 20000 in
theorem refLeasts (σ : AHeap) : ACalls Try.prog i_bowlineref38_Leasts [] σ fun v σ' => v = .slice 1 (leasts 64) .none ∧ σ' = σ := by
  refine k_bowlineref38_Leasts rfl ?_
  ((conv => whnf); (repeat ((first | with_reducible refine abr_true rfl ?_ | with_reducible refine abr_false rfl ?_ | with_reducible refine abr_yes rfl ?_ | refine abr_yes (by decide) ?_ | refine abr_no (by decide) ?_ | with_reducible refine abr_same_ne ?_); (conv => whnf))))
  refine aloop (α := Nat × Tok × AHeap) (fun x => [(s1, .slice 1 (leasts x.1) x.2.1)]) (fun x => x.2.2) (fun x => 2 ≤ x.1 ∧ x.1 ≤ 64 ∧ TokIn x.2.2 σ x.2.1 ∧ Sub x.2.2 σ) (fun x => 64 - x.1) (2, .full, σ) ⟨Nat.le_refl _, by omega, .full _ _, Sub.refl _⟩ (Sub.refl _) ?_ ?_
  · ((conv => whnf); (repeat ((first | with_reducible refine abr_true rfl ?_ | with_reducible refine abr_false rfl ?_ | with_reducible refine abr_yes rfl ?_ | refine abr_yes (by decide) ?_ | refine abr_no (by decide) ?_ | with_reducible refine abr_same_ne ?_); (conv => whnf))))
    (repeat' first | with_reducible exact EnvLe.refl _ | (refine EnvLe.node ?_ (by first | exact Or.inl rfl | exact Or.inr (Or.inl rfl) | exact Or.inr (Or.inr ⟨nofun, VLe.slice _ _ _⟩)) ?_))
  rintro ⟨k, tk, σ2⟩ ⟨h2, h64, hto, hs⟩
  dsimp only at h2 h64 hto hs ⊢
  by_cases h : k < 64
  · have hsm := leastV_small (k - 1) (by omega)
    ((conv => whnf); (repeat ((first | with_reducible refine abr_true rfl ?_ | with_reducible refine abr_false rfl ?_ | with_reducible refine abr_yes rfl ?_ | refine abr_yes (by decide) ?_ | refine abr_no (by decide) ?_ | with_reducible refine abr_same_ne ?_); (conv => whnf))))
    rw [leasts_len]
    (repeat ((first | refine aload (by (repeat (first | with_reducible exact upd_same _ _ _ | assumption | rw [upd_ne _ _ (by first | assumption | (apply Ne.symm; assumption))]))) rfl ?_ | refine afit_i64 (by omega) ?_ | refine arem_nonneg (by omega) (by omega) ?_ | refine adiv_i64 (by omega) (by omega) ?_ | refine abr_yes (by omega) ?_ | refine abr_no (by omega) ?_ | refine amin ?_ | refine amax ?_ | refine afit_u64 (by omega) ?_ | refine afit_u8 (by omega) ?_ | rw [List.length_map]); ((conv => whnf); (repeat ((first | with_reducible refine abr_true rfl ?_ | with_reducible refine abr_false rfl ?_ | with_reducible refine abr_yes rfl ?_ | refine abr_yes (by decide) ?_ | refine abr_no (by decide) ?_ | with_reducible refine abr_same_ne ?_); (conv => whnf))))))
    rw [leasts_len]
    (repeat ((first | refine aload (by (repeat (first | with_reducible exact upd_same _ _ _ | assumption | rw [upd_ne _ _ (by first | assumption | (apply Ne.symm; assumption))]))) rfl ?_ | refine afit_i64 (by omega) ?_ | refine arem_nonneg (by omega) (by omega) ?_ | refine adiv_i64 (by omega) (by omega) ?_ | refine abr_yes (by omega) ?_ | refine abr_no (by omega) ?_ | refine amin ?_ | refine amax ?_ | refine afit_u64 (by omega) ?_ | refine afit_u8 (by omega) ?_ | rw [List.length_map]); ((conv => whnf); (repeat ((first | with_reducible refine abr_true rfl ?_ | with_reducible refine abr_false rfl ?_ | with_reducible refine abr_yes rfl ?_ | refine abr_yes (by decide) ?_ | refine abr_no (by decide) ?_ | with_reducible refine abr_same_ne ?_); (conv => whnf))))))
    refine aget (x := i64v (leastV (k - 1))) (by omega) (by rw [show ((k : Int) - 1).toNat = k - 1 by omega]; exact leasts_get (by omega)) ?_
    ((conv => whnf); (repeat ((first | with_reducible refine abr_true rfl ?_ | with_reducible refine abr_false rfl ?_ | with_reducible refine abr_yes rfl ?_ | refine abr_yes (by decide) ?_ | refine abr_no (by decide) ?_ | with_reducible refine abr_same_ne ?_); (conv => whnf))))
    refine acell rfl ?_
    ((conv => whnf); (repeat ((first | with_reducible refine abr_true rfl ?_ | with_reducible refine abr_false rfl ?_ | with_reducible refine abr_yes rfl ?_ | refine abr_yes (by decide) ?_ | refine abr_no (by decide) ?_ | with_reducible refine abr_same_ne ?_); (conv => whnf))))
    (repeat ((first | refine aload (by (repeat (first | with_reducible exact upd_same _ _ _ | assumption | rw [upd_ne _ _ (by first | assumption | (apply Ne.symm; assumption))]))) rfl ?_ | refine afit_i64 (by omega) ?_ | refine arem_nonneg (by omega) (by omega) ?_ | refine adiv_i64 (by omega) (by omega) ?_ | refine abr_yes (by omega) ?_ | refine abr_no (by omega) ?_ | refine amin ?_ | refine amax ?_ | refine afit_u64 (by omega) ?_ | refine afit_u8 (by omega) ?_ | rw [List.length_map]); ((conv => whnf); (repeat ((first | with_reducible refine abr_true rfl ?_ | with_reducible refine abr_false rfl ?_ | with_reducible refine abr_yes rfl ?_ | refine abr_yes (by decide) ?_ | refine abr_no (by decide) ?_ | with_reducible refine abr_same_ne ?_); (conv => whnf))))))
    refine aapp_in hto hs (by rw [leasts_len]; show (k + 1) * 8 ≤ _; omega) fun t' σ3 hx hs3 hto3 => ?_
    rw [show leasts k ++ [AVal.v (.int .i64 ((leastV (k - 1) : Int) + (leastV (k - 1) : Int) / 6 + 1))] = leasts (k + 1) by
      unfold leasts
      rw [List.range_succ, List.map_append]
      obtain ⟨j, rfl⟩ : ∃ j, k = j + 1 := ⟨k - 1, by omega⟩
      rw [Nat.add_sub_cancel]
      show _ ++ [i64v _] = _ ++ [i64v ((leastV j + (leastV j / 6 + 1) : Nat) : Int)]
      rw [show ((leastV j + (leastV j / 6 + 1) : Nat) : Int) = (leastV j : Int) + (leastV j : Int) / 6 + 1 by omega]]
    ((conv => whnf); (repeat ((first | with_reducible refine abr_true rfl ?_ | with_reducible refine abr_false rfl ?_ | with_reducible refine abr_yes rfl ?_ | refine abr_yes (by decide) ?_ | refine abr_no (by decide) ?_ | with_reducible refine abr_same_ne ?_); (conv => whnf))))
    refine ⟨(k + 1, .tip t', σ3), ⟨by dsimp only; omega, by dsimp only; omega, hto3, hs3⟩, by dsimp only; omega, Sub.refl _, ?_⟩
    ((conv => whnf); (repeat ((first | with_reducible refine abr_true rfl ?_ | with_reducible refine abr_false rfl ?_ | with_reducible refine abr_yes rfl ?_ | refine abr_yes (by decide) ?_ | refine abr_no (by decide) ?_ | with_reducible refine abr_same_ne ?_); (conv => whnf))))
    (repeat' first | with_reducible exact EnvLe.refl _ | (refine EnvLe.node ?_ (by first | exact Or.inl rfl | exact Or.inr (Or.inl rfl) | exact Or.inr (Or.inr ⟨nofun, VLe.slice _ _ _⟩)) ?_))
  · obtain rfl : k = 64 := by omega
    ((conv => whnf); (repeat ((first | with_reducible refine abr_true rfl ?_ | with_reducible refine abr_false rfl ?_ | with_reducible refine abr_yes rfl ?_ | refine abr_yes (by decide) ?_ | refine abr_no (by decide) ?_ | with_reducible refine abr_same_ne ?_); (conv => whnf))))
    exact aret_sl hs ⟨rfl, rfl⟩

theorem upTo_succ_le {n k : Nat} (h : leastV (k + 1) ≤ n) : upTo n (k + 1) = k + 1 := upTo_is h (k + 1) (Nat.le_refl _) fun j h1 h2 => absurd h1 (by omega)
set_option maxRecDepth 20000 in
theorem refLevel (n : Int) (σ : AHeap) (h0 : 0 ≤ n) : ACalls Try.prog i_bowlineref38_Level [i64v n] σ fun v σ' => v = i64v (levelV n.toNat) ∧ σ' = σ := by
  refine k_bowlineref38_Level rfl ?_
  ((conv => whnf); (repeat ((first | with_reducible refine abr_true rfl ?_ | with_reducible refine abr_false rfl ?_ | with_reducible refine abr_yes rfl ?_ | refine abr_yes (by decide) ?_ | refine abr_no (by decide) ?_ | with_reducible refine abr_same_ne ?_); (conv => whnf))))
  refine acall (refLeasts _) ?_
  rintro _ σ_ ⟨rfl, e_⟩
  obtain rfl := e_.symm
  refine ⟨?_, Ext.refl _⟩
  ((conv => whnf); (repeat ((first | with_reducible refine abr_true rfl ?_ | with_reducible refine abr_false rfl ?_ | with_reducible refine abr_yes rfl ?_ | refine abr_yes (by decide) ?_ | refine abr_no (by decide) ?_ | with_reducible refine abr_same_ne ?_); (conv => whnf))))
  refine aloop (α := Nat) (fun i => [(s4, i64v (upTo n.toNat (i - 1))), (s5, i64v i)]) (fun _ => σ) (fun i => i ≤ 64) (fun i => 64 - i) 0 (by omega) (Sub.refl _) ?_ ?_
  · ((conv => whnf); (repeat ((first | with_reducible refine abr_true rfl ?_ | with_reducible refine abr_false rfl ?_ | with_reducible refine abr_yes rfl ?_ | refine abr_yes (by decide) ?_ | refine abr_no (by decide) ?_ | with_reducible refine abr_same_ne ?_); (conv => whnf))))
    (repeat' first | with_reducible exact EnvLe.refl _ | (refine EnvLe.node ?_ (by first | exact Or.inl rfl | exact Or.inr (Or.inl rfl) | exact Or.inr (Or.inr ⟨nofun, VLe.slice _ _ _⟩)) ?_))
  intro i hi
  by_cases h : i < 64
  · have hsm := leastV_small i (by omega)
    ((conv => whnf); (repeat ((first | with_reducible refine abr_true rfl ?_ | with_reducible refine abr_false rfl ?_ | with_reducible refine abr_yes rfl ?_ | refine abr_yes (by decide) ?_ | refine abr_no (by decide) ?_ | with_reducible refine abr_same_ne ?_); (conv => whnf))))
    rw [leasts_len]
    (repeat ((first | refine aload (by (repeat (first | with_reducible exact upd_same _ _ _ | assumption | rw [upd_ne _ _ (by first | assumption | (apply Ne.symm; assumption))]))) rfl ?_ | refine afit_i64 (by omega) ?_ | refine arem_nonneg (by omega) (by omega) ?_ | refine adiv_i64 (by omega) (by omega) ?_ | refine abr_yes (by omega) ?_ | refine abr_no (by omega) ?_ | refine amin ?_ | refine amax ?_ | refine afit_u64 (by omega) ?_ | refine afit_u8 (by omega) ?_ | rw [List.length_map]); ((conv => whnf); (repeat ((first | with_reducible refine abr_true rfl ?_ | with_reducible refine abr_false rfl ?_ | with_reducible refine abr_yes rfl ?_ | refine abr_yes (by decide) ?_ | refine abr_no (by decide) ?_ | with_reducible refine abr_same_ne ?_); (conv => whnf))))))
    refine aget (x := i64v (leastV i)) (by omega) (by rw [show ((i : Int)).toNat = i by omega]; exact leasts_get (by omega)) ?_
    ((conv => whnf); (repeat ((first | with_reducible refine abr_true rfl ?_ | with_reducible refine abr_false rfl ?_ | with_reducible refine abr_yes rfl ?_ | refine abr_yes (by decide) ?_ | refine abr_no (by decide) ?_ | with_reducible refine abr_same_ne ?_); (conv => whnf))))
    refine acell rfl ?_
    ((conv => whnf); (repeat ((first | with_reducible refine abr_true rfl ?_ | with_reducible refine abr_false rfl ?_ | with_reducible refine abr_yes rfl ?_ | refine abr_yes (by decide) ?_ | refine abr_no (by decide) ?_ | with_reducible refine abr_same_ne ?_); (conv => whnf))))
    by_cases hB : (leastV i : Int) ≤ n
    · (repeat ((first | refine aload (by (repeat (first | with_reducible exact upd_same _ _ _ | assumption | rw [upd_ne _ _ (by first | assumption | (apply Ne.symm; assumption))]))) rfl ?_ | refine afit_i64 (by omega) ?_ | refine arem_nonneg (by omega) (by omega) ?_ | refine adiv_i64 (by omega) (by omega) ?_ | refine abr_yes (by omega) ?_ | refine abr_no (by omega) ?_ | refine amin ?_ | refine amax ?_ | refine afit_u64 (by omega) ?_ | refine afit_u8 (by omega) ?_ | rw [List.length_map]); ((conv => whnf); (repeat ((first | with_reducible refine abr_true rfl ?_ | with_reducible refine abr_false rfl ?_ | with_reducible refine abr_yes rfl ?_ | refine abr_yes (by decide) ?_ | refine abr_no (by decide) ?_ | with_reducible refine abr_same_ne ?_); (conv => whnf))))))
      refine ⟨i + 1, by omega, by omega, Sub.refl _, ?_⟩
      have e1 : upTo n.toNat (i + 1 - 1) = i := by
        cases i with
        | zero => rfl
        | succ j => exact upTo_succ_le (by omega)
      rw [e1]
      ((conv => whnf); (repeat ((first | with_reducible refine abr_true rfl ?_ | with_reducible refine abr_false rfl ?_ | with_reducible refine abr_yes rfl ?_ | refine abr_yes (by decide) ?_ | refine abr_no (by decide) ?_ | with_reducible refine abr_same_ne ?_); (conv => whnf))))
      (repeat' first | with_reducible exact EnvLe.refl _ | (refine EnvLe.node ?_ (by first | exact Or.inl rfl | exact Or.inr (Or.inl rfl) | exact Or.inr (Or.inr ⟨nofun, VLe.slice _ _ _⟩)) ?_))
    · (repeat ((first | refine aload (by (repeat (first | with_reducible exact upd_same _ _ _ | assumption | rw [upd_ne _ _ (by first | assumption | (apply Ne.symm; assumption))]))) rfl ?_ | refine afit_i64 (by omega) ?_ | refine arem_nonneg (by omega) (by omega) ?_ | refine adiv_i64 (by omega) (by omega) ?_ | refine abr_yes (by omega) ?_ | refine abr_no (by omega) ?_ | refine amin ?_ | refine amax ?_ | refine afit_u64 (by omega) ?_ | refine afit_u8 (by omega) ?_ | rw [List.length_map]); ((conv => whnf); (repeat ((first | with_reducible refine abr_true rfl ?_ | with_reducible refine abr_false rfl ?_ | with_reducible refine abr_yes rfl ?_ | refine abr_yes (by decide) ?_ | refine abr_no (by decide) ?_ | with_reducible refine abr_same_ne ?_); (conv => whnf))))))
      refine ⟨i + 1, by omega, by omega, Sub.refl _, ?_⟩
      have e1 : upTo n.toNat (i + 1 - 1) = upTo n.toNat (i - 1) := by
        cases i with
        | zero => exfalso; exact hB (by show ((leastV 0 : Nat) : Int) ≤ n; exact Int.le_trans (by decide) h0)
        | succ j => show upTo n.toNat (j + 1) = upTo n.toNat j; conv => lhs; unfold upTo; rw [if_neg (by omega)]
      rw [e1]
      ((conv => whnf); (repeat ((first | with_reducible refine abr_true rfl ?_ | with_reducible refine abr_false rfl ?_ | with_reducible refine abr_yes rfl ?_ | refine abr_yes (by decide) ?_ | refine abr_no (by decide) ?_ | with_reducible refine abr_same_ne ?_); (conv => whnf))))
      (repeat' first | with_reducible exact EnvLe.refl _ | (refine EnvLe.node ?_ (by first | exact Or.inl rfl | exact Or.inr (Or.inl rfl) | exact Or.inr (Or.inr ⟨nofun, VLe.slice _ _ _⟩)) ?_))
  · obtain rfl : i = 64 := by omega
    ((conv => whnf); (repeat ((first | with_reducible refine abr_true rfl ?_ | with_reducible refine abr_false rfl ?_ | with_reducible refine abr_yes rfl ?_ | refine abr_yes (by decide) ?_ | refine abr_no (by decide) ?_ | with_reducible refine abr_same_ne ?_); (conv => whnf))))
    exact aret (VLe.refl _) (Sub.refl _) ⟨rfl, rfl⟩
end Go.Proofs.Ytnfdgccmpglbhaa
/-
  The bodies of one package, compiled to the framework's language (printed by a program of this session).
-/
namespace Go.Proofs.Ytnfdgccmpglbhaa
set_option linter.unusedVariables false
set_option linter.unusedSimpArgs false
open Go Go.Am
/- bowlinelaw38.BsrLevels -/
def c13 : Cfg := ⟨qs, [], 141, []⟩
def ir13 : IFun := ⟨4, [.tmp s8],
  (.seq (.reg (.one ⟨some s6, none, (.box 4 (.t s2))⟩
    (.one ⟨some s7, none, (.box 4 (.t s3))⟩
    (.one ⟨some s8, none, (.mv (.c (.v (.bool false))))⟩
    .done))))
  (.seq (.reg (.one ⟨some s20, none, (.callq 59 [])⟩
    (.one ⟨some s9, none, (.mv (.t s20))⟩
    .done)))
  (.seq (.reg (.one ⟨some s22, none, (.mv (.t s0))⟩
    (.one ⟨some s23, none, (.callq 60 [(.t s22)])⟩
    (.one ⟨some s21, none, (.mv (.t s23))⟩
    (.one ⟨some s24, none, (.ext (.t s21) 0)⟩
    (.one ⟨some s25, none, (.ext (.t s21) 1)⟩
    (.one ⟨some s10, none, (.mv (.t s24))⟩
    (.one ⟨some s11, none, (.mv (.t s25))⟩
    .done))))))))
  (.seq (.seq (.reg (.one ⟨some s26, none, (.mv (.t s0))⟩
    (.one ⟨some s27, none, (.bin false .lss (.t s26) (.c (.v (.int .i64 0))))⟩
    (.one ⟨some s28, none, (.mv (.t s27))⟩
    (.one ⟨some s29, some (s28, false), (.mv (.t s0))⟩
    (.one ⟨some s30, some (s28, false), (.bin false .gtr (.t s29) (.c (.v (.int .i64 63))))⟩
    (.one ⟨some s31, none, (.pick (.t s28) (.c (.v (.bool true))) (.t s30))⟩
    .done)))))))
  (.cond (.t s31) (.seq (.reg (.one ⟨some s32, none, (.mv (.t s11))⟩
    (.one ⟨some s33, none, (.bin false .neq (.t s32) (.c (.v (.int .i64 1))))⟩
    (.one ⟨some s34, none, (.mv (.t s33))⟩
    (.one ⟨some s35, some (s34, false), (.mv (.t s10))⟩
    (.one ⟨some s36, some (s34, false), (.bin false .neq (.t s35) (.c (.v (.int .i64 0))))⟩
    (.one ⟨some s37, none, (.pick (.t s34) (.c (.v (.bool true))) (.t s36))⟩
    .done)))))))
  (.cond (.t s37) (.seq (.reg (.one ⟨some s8, none, (.mv (.c (.v (.bool false))))⟩
    .done))
  .ret) .skip)) (.seq (.reg (.one ⟨some s38, none, (.mv (.t s11))⟩
    (.one ⟨some s39, none, (.bin false .neq (.t s38) (.c (.v (.int .i64 0))))⟩
    (.one ⟨some s40, none, (.mv (.t s39))⟩
    (.one ⟨some s41, some (s40, false), (.mv (.t s10))⟩
    (.one ⟨some s42, some (s40, false), (.mv (.t s9))⟩
    (.one ⟨some s43, some (s40, false), (.mv (.t s0))⟩
    (.one ⟨some s44, some (s40, false), (.iaddr 1 (.t s42) (.t s43))⟩
    (.one ⟨some s45, some (s40, false), (.load none (.t s44))⟩
    (.one ⟨some s46, some (s40, false), (.bin false .neq (.t s41) (.t s45))⟩
    (.one ⟨some s47, none, (.pick (.t s40) (.c (.v (.bool true))) (.t s46))⟩
    .done)))))))))))
  (.cond (.t s47) (.seq (.reg (.one ⟨some s8, none, (.mv (.c (.v (.bool false))))⟩
    .done))
  .ret) .skip))))
  (.seq (.reg (.one ⟨some s49, none, (.mv (.t s1))⟩
    (.one ⟨some s50, none, (.callq 61 [(.t s49)])⟩
    (.one ⟨some s48, none, (.mv (.t s50))⟩
    (.one ⟨some s51, none, (.ext (.t s48) 0)⟩
    (.one ⟨some s52, none, (.ext (.t s48) 1)⟩
    (.one ⟨some s12, none, (.mv (.t s51))⟩
    (.one ⟨some s13, none, (.mv (.t s52))⟩
    .done))))))))
  (.seq (.seq (.reg (.one ⟨some s53, none, (.mv (.t s1))⟩
    (.one ⟨some s54, none, (.bin false .lss (.t s53) (.c (.v (.int .i64 0))))⟩
    (.one ⟨some s55, none, (.mv (.t s54))⟩
    (.one ⟨some s56, some (s55, true), (.mv (.t s13))⟩
    (.one ⟨some s57, some (s55, true), (.bin false .neq (.t s56) (.c (.v (.int .i64 1))))⟩
    (.one ⟨some s58, some (s55, true), (.mv (.t s57))⟩
    (.one ⟨some s59, some (s58, false), (.mv (.t s12))⟩
    (.one ⟨some s60, some (s58, false), (.bin false .neq (.t s59) (.c (.v (.int .i64 0))))⟩
    (.one ⟨some s61, some (s55, true), (.pick (.t s58) (.c (.v (.bool true))) (.t s60))⟩
    (.one ⟨some s62, none, (.pick (.t s55) (.t s61) (.c (.v (.bool false))))⟩
    (.one ⟨some s63, none, (.mv (.t s62))⟩
    (.one ⟨some s64, some (s63, false), (.mv (.t s1))⟩
    (.one ⟨some s65, some (s63, false), (.bin false .geq (.t s64) (.c (.v (.int .i64 0))))⟩
    (.one ⟨some s66, some (s63, false), (.mv (.t s65))⟩
    (.one ⟨some s67, some (s66, true), (.mv (.t s13))⟩
    (.one ⟨some s68, some (s66, true), (.bin false .neq (.t s67) (.c (.v (.int .i64 0))))⟩
    (.one ⟨some s69, some (s66, true), (.mv (.t s68))⟩
    (.one ⟨some s70, some (s69, false), (.mv (.t s12))⟩
    (.one ⟨some s71, some (s69, false), (.mv (.t s1))⟩
    (.one ⟨some s72, some (s69, false), (.callq 62 [(.t s71)])⟩
    (.one ⟨some s73, some (s69, false), (.bin false .neq (.t s70) (.t s72))⟩
    (.one ⟨some s74, some (s66, true), (.pick (.t s69) (.c (.v (.bool true))) (.t s73))⟩
    (.one ⟨some s75, some (s63, false), (.pick (.t s66) (.t s74) (.c (.v (.bool false))))⟩
    (.one ⟨some s76, none, (.pick (.t s63) (.c (.v (.bool true))) (.t s75))⟩
    .done)))))))))))))))))))))))))
  (.cond (.t s76) (.seq (.reg (.one ⟨some s8, none, (.mv (.c (.v (.bool false))))⟩
    .done))
  .ret) .skip))
  (.seq (.reg (.one ⟨some s14, none, (.mv (.c (.v (.int .i64 0))))⟩
    (.one ⟨some s15, none, (.mv (.c (.v (.bool false))))⟩
    .done)))
  (.seq (.reg (.one ⟨some s77, none, (.build [(.v (.int .i64 0)), (.v (.int .i64 0)), (.v (.int .i64 0)), (.v (.int .i64 0))] [])⟩
    (.one ⟨some s16, none, (.new [(.v (.int .i64 0)), (.v (.int .i64 0)), (.v (.int .i64 0)), (.v (.int .i64 0))])⟩
    (.one ⟨none, none, (.store 4 (.t s16) (.t s77))⟩
    .done))))
  (.seq (.seq (.reg (.one ⟨some s17, none, (.mv (.c (.v (.int .i64 0))))⟩
    .done))
  (.block 0 (.loop (.seq (.seq (.reg (.one ⟨some s78, none, (.mv (.t s17))⟩
    (.one ⟨some s79, none, (.bin false .lss (.t s78) (.c (.v (.int .i64 4))))⟩
    .done)))
  (.cond (.t s79) .skip (.exit 0)))
  (.seq (.block 1 (.seq (.seq (.reg (.one ⟨some s82, none, (.load (some 4) (.t s6))⟩
    (.one ⟨some s83, none, (.callq 63 [(.t s82)])⟩
    .done)))
  (.cond (.t s83) (.reg (.one ⟨some s84, none, (.mv (.t s14))⟩
    (.one ⟨some s85, none, (.mv (.t s9))⟩
    (.one ⟨some s86, none, (.mv (.t s17))⟩
    (.one ⟨some s87, none, (.iaddrA 1 4 (.t s6) (.t s86))⟩
    (.one ⟨some s88, none, (.load none (.t s87))⟩
    (.one ⟨some s89, none, (.iaddr 1 (.t s85) (.t s88))⟩
    (.one ⟨some s90, none, (.load none (.t s89))⟩
    (.one ⟨some s91, none, (.bin false .add (.t s84) (.t s90))⟩
    (.one ⟨some s14, none, (.mv (.t s91))⟩
    .done)))))))))) .skip))
  (.seq (.reg (.one ⟨some s92, none, (.mv (.t s15))⟩
    (.one ⟨some s93, none, (.mv (.t s92))⟩
    (.one ⟨some s94, some (s93, false), (.mv (.t s17))⟩
    (.one ⟨some s95, some (s93, false), (.iaddrA 1 4 (.t s7) (.t s94))⟩
    (.one ⟨some s96, some (s93, false), (.load none (.t s95))⟩
    (.one ⟨some s97, some (s93, false), (.bin false .lss (.t s96) (.c (.v (.int .i64 0))))⟩
    (.one ⟨some s98, none, (.pick (.t s93) (.c (.v (.bool true))) (.t s97))⟩
    (.one ⟨some s15, none, (.mv (.t s98))⟩
    .done)))))))))
  (.seq (.reg (.one ⟨some s99, none, (.mv (.t s17))⟩
    (.one ⟨some s100, none, (.iaddrA 1 4 (.t s7) (.t s99))⟩
    (.one ⟨some s101, none, (.load none (.t s100))⟩
    (.one ⟨some s102, none, (.bin false .geq (.t s101) (.c (.v (.int .i64 0))))⟩
    .done)))))
  (.cond (.t s102) (.reg (.one ⟨some s103, none, (.mv (.t s17))⟩
    (.one ⟨some s104, none, (.mv (.t s17))⟩
    (.one ⟨some s105, none, (.iaddrA 1 4 (.t s7) (.t s104))⟩
    (.one ⟨some s106, none, (.load none (.t s105))⟩
    (.one ⟨some s107, none, (.callq 62 [(.t s106)])⟩
    (.one ⟨some s108, none, (.iaddrA 1 4 (.t s16) (.t s103))⟩
    (.one ⟨none, none, (.store 1 (.t s108) (.t s107))⟩
    .done)))))))) .skip)))))
  (.reg (.one ⟨some s80, none, (.mv (.t s17))⟩
    (.one ⟨some s81, none, (.bin false .add (.t s80) (.c (.v (.int .i64 1))))⟩
    (.one ⟨some s17, none, (.mv (.t s81))⟩
    .done)))))))))
  (.seq (.reg (.one ⟨some s110, none, (.load (some 4) (.t s7))⟩
    (.one ⟨some s111, none, (.callq 64 [(.t s110)])⟩
    (.one ⟨some s109, none, (.mv (.t s111))⟩
    (.one ⟨some s112, none, (.ext (.t s109) 0)⟩
    (.one ⟨some s113, none, (.ext (.t s109) 1)⟩
    (.one ⟨some s18, none, (.new [(.v (.int .i64 0)), (.v (.int .i64 0)), (.v (.int .i64 0)), (.v (.int .i64 0))])⟩
    (.one ⟨none, none, (.store 4 (.t s18) (.t s112))⟩
    (.one ⟨some s19, none, (.mv (.t s113))⟩
    .done)))))))))
  (.seq (.seq (.reg (.one ⟨some s114, none, (.mv (.t s15))⟩
    .done))
  (.cond (.t s114) (.reg (.one ⟨some s115, none, (.build [(.v (.int .i64 0)), (.v (.int .i64 0)), (.v (.int .i64 0)), (.v (.int .i64 0))] [])⟩
    (.one ⟨none, none, (.store 4 (.t s16) (.t s115))⟩
    .done))) .skip))
  (.seq (.reg (.one ⟨some s116, none, (.callq 65 [])⟩
    (.one ⟨some s117, none, (.mv (.t s116))⟩
    (.one ⟨some s118, some (s117, true), (.load (some 4) (.t s6))⟩
    (.one ⟨some s120, some (s117, true), (.load (some 4) (.t s6))⟩
    (.one ⟨some s119, some (s117, true), (.callq 66 [(.t s118)])⟩
    (.one ⟨some s121, some (s117, true), (.callq 63 [(.t s120)])⟩
    (.one ⟨some s122, some (s117, true), (.bin true .eql (.t s119) (.t s121))⟩
    (.one ⟨some s123, none, (.pick (.t s117) (.t s122) (.c (.v (.bool false))))⟩
    (.one ⟨some s124, none, (.mv (.t s123))⟩
    (.one ⟨some s125, some (s124, true), (.load (some 4) (.t s6))⟩
    (.one ⟨some s127, some (s124, true), (.mv (.t s14))⟩
    (.one ⟨some s126, some (s124, true), (.callq 67 [(.t s125)])⟩
    (.one ⟨some s128, some (s124, true), (.bin false .eql (.t s126) (.t s127))⟩
    (.one ⟨some s129, none, (.pick (.t s124) (.t s128) (.c (.v (.bool false))))⟩
    (.one ⟨some s130, none, (.mv (.t s129))⟩
    (.one ⟨some s131, some (s130, true), (.mv (.t s19))⟩
    (.one ⟨some s132, some (s130, true), (.bin false .eql (.t s131) (.c (.v (.int .i64 1))))⟩
    (.one ⟨some s133, some (s130, true), (.mv (.t s15))⟩
    (.one ⟨some s134, some (s130, true), (.bin true .eql (.t s132) (.t s133))⟩
    (.one ⟨some s135, none, (.pick (.t s130) (.t s134) (.c (.v (.bool false))))⟩
    (.one ⟨some s136, none, (.mv (.t s135))⟩
    (.one ⟨some s137, some (s136, true), (.load (some 4) (.t s18))⟩
    (.one ⟨some s138, some (s136, true), (.load (some 4) (.t s16))⟩
    (.one ⟨some s139, some (s136, true), (.eqAgg false [false, false, false, false] (.t s137) (.t s138))⟩
    (.one ⟨some s140, none, (.pick (.t s136) (.t s139) (.c (.v (.bool false))))⟩
    (.one ⟨some s8, none, (.mv (.t s140))⟩
    .done)))))))))))))))))))))))))))
  .ret))))))))))))⟩
theorem ok13 : compF Try.prog c13 Try.f13 = some ir13 := by kernel_rfl
theorem k_bowlinelaw38_BsrLevels {args : List AVal} {σ : AHeap} {Q : AVal → AHeap → Prop} (hl : Nat.ble args.length 141 = true) (h : argsK (Env.full 9) 0 args fun env => evC Try.prog c13 ir13.body env σ (retQ ir13 Q)) : ACalls Try.prog 13 args σ Q :=
  acalls_of Try.func13 ok13 rfl (Nat.le_of_ble_eq_true hl) h
/- bowlinelaw38.alive -/
def c65 : Cfg := ⟨qs, [], 69, []⟩
def ir65 : IFun := ⟨0, [.tmp s0],
  (.seq (.reg (.one ⟨some s0, none, (.mv (.c (.v (.bool false))))⟩
    .done))
  (.seq (.reg (.one ⟨some s12, none, (.callq 61 [(.c (.v (.int .i64 7)))])⟩
    (.one ⟨some s11, none, (.mv (.t s12))⟩
    (.one ⟨some s13, none, (.ext (.t s11) 0)⟩
    (.one ⟨some s14, none, (.ext (.t s11) 1)⟩
    (.one ⟨some s1, none, (.mv (.t s13))⟩
    (.one ⟨some s2, none, (.mv (.t s14))⟩
    .done)))))))
  (.seq (.reg (.one ⟨some s16, none, (.callq 60 [(.c (.v (.int .i64 7)))])⟩
    (.one ⟨some s15, none, (.mv (.t s16))⟩
    (.one ⟨some s17, none, (.ext (.t s15) 0)⟩
    (.one ⟨some s18, none, (.ext (.t s15) 1)⟩
    (.one ⟨some s3, none, (.mv (.t s17))⟩
    (.one ⟨some s4, none, (.mv (.t s18))⟩
    .done)))))))
  (.seq (.reg (.one ⟨some s20, none, (.build [(.v (.int .i64 0)), (.v (.int .i64 0)), (.v (.int .i64 0)), (.v (.int .i64 0))] [(0, 1, (.c (.v (.int .i64 1)))), (1, 1, (.c (.v (.int .i64 2)))), (2, 1, (.c (.v (.int .i64 3)))), (3, 1, (.c (.v (.int .i64 4))))])⟩
    (.one ⟨some s21, none, (.callq 115 [(.t s20)])⟩
    (.one ⟨some s19, none, (.mv (.t s21))⟩
    (.one ⟨some s22, none, (.ext (.t s19) 0)⟩
    (.one ⟨some s23, none, (.ext (.t s19) 1)⟩
    (.one ⟨some s5, none, (.mv (.t s22))⟩
    (.one ⟨some s6, none, (.mv (.t s23))⟩
    .done))))))))
  (.seq (.reg (.one ⟨some s25, none, (.mv (.t s5))⟩
    (.one ⟨some s26, none, (.callq 116 [(.t s25)])⟩
    (.one ⟨some s24, none, (.mv (.t s26))⟩
    (.one ⟨some s27, none, (.ext (.t s24) 0)⟩
    (.one ⟨some s28, none, (.ext (.t s24) 1)⟩
    (.one ⟨some s7, none, (.new [(.v (.int .i64 0)), (.v (.int .i64 0)), (.v (.int .i64 0)), (.v (.int .i64 0))])⟩
    (.one ⟨none, none, (.store 4 (.t s7) (.t s27))⟩
    (.one ⟨some s8, none, (.mv (.t s28))⟩
    .done)))))))))
  (.seq (.reg (.one ⟨some s30, none, (.callq 61 [(.c (.v (.int .i64 (-1))))])⟩
    (.one ⟨some s29, none, (.mv (.t s30))⟩
    (.one ⟨some s31, none, (.ext (.t s29) 0)⟩
    (.one ⟨some s32, none, (.ext (.t s29) 1)⟩
    (.one ⟨some s9, none, (.mv (.t s31))⟩
    (.one ⟨some s10, none, (.mv (.t s32))⟩
    .done)))))))
  (.seq (.reg (.one ⟨some s33, none, (.mv (.t s1))⟩
    (.one ⟨some s34, none, (.bin false .eql (.t s33) (.c (.v (.int .i64 6))))⟩
    (.one ⟨some s35, none, (.mv (.t s34))⟩
    (.one ⟨some s36, some (s35, true), (.mv (.t s2))⟩
    (.one ⟨some s37, some (s35, true), (.bin false .eql (.t s36) (.c (.v (.int .i64 0))))⟩
    (.one ⟨some s38, none, (.pick (.t s35) (.t s37) (.c (.v (.bool false))))⟩
    (.one ⟨some s39, none, (.mv (.t s38))⟩
    (.one ⟨some s40, some (s39, true), (.mv (.t s3))⟩
    (.one ⟨some s41, some (s39, true), (.bin false .eql (.t s40) (.c (.v (.int .i64 8))))⟩
    (.one ⟨some s42, none, (.pick (.t s39) (.t s41) (.c (.v (.bool false))))⟩
    (.one ⟨some s43, none, (.mv (.t s42))⟩
    (.one ⟨some s44, some (s43, true), (.mv (.t s4))⟩
    (.one ⟨some s45, some (s43, true), (.bin false .eql (.t s44) (.c (.v (.int .i64 0))))⟩
    (.one ⟨some s46, none, (.pick (.t s43) (.t s45) (.c (.v (.bool false))))⟩
    (.one ⟨some s47, none, (.mv (.t s46))⟩
    (.one ⟨some s48, some (s47, true), (.mv (.t s5))⟩
    (.one ⟨some s49, some (s47, true), (.b2s (.t s48))⟩
    (.one ⟨some s50, some (s47, true), (.bin false .eql (.t s49) (.c (.v (.string ⟨#[4, 32, 196]⟩))))⟩
    (.one ⟨some s51, none, (.pick (.t s47) (.t s50) (.c (.v (.bool false))))⟩
    (.one ⟨some s52, none, (.mv (.t s51))⟩
    (.one ⟨some s53, some (s52, true), (.mv (.t s6))⟩
    (.one ⟨some s54, some (s52, true), (.bin false .eql (.t s53) (.c (.v (.int .i64 0))))⟩
    (.one ⟨some s55, none, (.pick (.t s52) (.t s54) (.c (.v (.bool false))))⟩
    (.one ⟨some s56, none, (.mv (.t s55))⟩
    (.one ⟨some s57, some (s56, true), (.load (some 4) (.t s7))⟩
    (.one ⟨some s58, some (s56, true), (.build [(.v (.int .i64 0)), (.v (.int .i64 0)), (.v (.int .i64 0)), (.v (.int .i64 0))] [(0, 1, (.c (.v (.int .i64 1)))), (1, 1, (.c (.v (.int .i64 2)))), (2, 1, (.c (.v (.int .i64 3)))), (3, 1, (.c (.v (.int .i64 4))))])⟩
    (.one ⟨some s59, some (s56, true), (.eqAgg false [false, false, false, false] (.t s57) (.t s58))⟩
    (.one ⟨some s60, none, (.pick (.t s56) (.t s59) (.c (.v (.bool false))))⟩
    (.one ⟨some s61, none, (.mv (.t s60))⟩
    (.one ⟨some s62, some (s61, true), (.mv (.t s8))⟩
    (.one ⟨some s63, some (s61, true), (.bin false .eql (.t s62) (.c (.v (.int .i64 0))))⟩
    (.one ⟨some s64, none, (.pick (.t s61) (.t s63) (.c (.v (.bool false))))⟩
    (.one ⟨some s65, none, (.mv (.t s64))⟩
    (.one ⟨some s66, some (s65, true), (.mv (.t s10))⟩
    (.one ⟨some s67, some (s65, true), (.bin false .eql (.t s66) (.c (.v (.int .i64 1))))⟩
    (.one ⟨some s68, none, (.pick (.t s65) (.t s67) (.c (.v (.bool false))))⟩
    (.one ⟨some s0, none, (.mv (.t s68))⟩
    .done))))))))))))))))))))))))))))))))))))))
  .ret)))))))⟩
theorem ok65 : compF Try.prog c65 Try.f65 = some ir65 := by kernel_rfl
theorem k_bowlinelaw38_alive {args : List AVal} {σ : AHeap} {Q : AVal → AHeap → Prop} (hl : Nat.ble args.length 69 = true) (h : argsK (Env.full 9) 0 args fun env => evC Try.prog c65 ir65.body env σ (retQ ir65 Q)) : ACalls Try.prog 65 args σ Q :=
  acalls_of Try.func65 ok65 rfl (Nat.le_of_ble_eq_true hl) h
end Go.Proofs.Ytnfdgccmpglbhaa
/-
  The statements about levels and reports, at the abstract states: what all of them use.
-/
namespace Go.Proofs.Ytnfdgccmpglbhaa
set_option linter.unusedVariables false
set_option linter.unusedSimpArgs false
open Go Go.Am

set_option maxRecDepth 20000 in
theorem alive38 (σ : AHeap) : ACalls Try.prog i_bowlinelaw38_alive [] σ fun v σ' => v = boolv true ∧ σ' = σ := by
  refine k_bowlinelaw38_alive rfl ?_
  ((conv => whnf); (repeat ((first | with_reducible refine abr_true rfl ?_ | with_reducible refine abr_false rfl ?_ | with_reducible refine abr_yes rfl ?_ | refine abr_yes (by decide) ?_ | refine abr_no (by decide) ?_ | with_reducible refine abr_same_ne ?_); (conv => whnf))))
  refine acall (bLevel 7 _) ?_
  rintro _ σ_ ⟨rfl, e_⟩
  obtain rfl := e_.symm
  refine ⟨?_, Ext.refl _⟩
  ((conv => whnf); (repeat ((first | with_reducible refine abr_true rfl ?_ | with_reducible refine abr_false rfl ?_ | with_reducible refine abr_yes rfl ?_ | refine abr_yes (by decide) ?_ | refine abr_no (by decide) ?_ | with_reducible refine abr_same_ne ?_); (conv => whnf))))
  rw [show (if (7 : Int) < 0 then (0 : Int) else ((levelV (7 : Int).toNat : Nat) : Int)) = 6 by decide +kernel, show (if (7 : Int) < 0 then (1 : Int) else 0) = 0 by decide +kernel]
  refine acall (bLeast 7 _) ?_
  rintro _ σ_ ⟨rfl, e_⟩
  obtain rfl := e_.symm
  refine ⟨?_, Ext.refl _⟩
  ((conv => whnf); (repeat ((first | with_reducible refine abr_true rfl ?_ | with_reducible refine abr_false rfl ?_ | with_reducible refine abr_yes rfl ?_ | refine abr_yes (by decide) ?_ | refine abr_no (by decide) ?_ | with_reducible refine abr_same_ne ?_); (conv => whnf))))
  rw [show (if isLevelV 7 = true then ((leastV (7 : Int).toNat : Nat) : Int) else 0) = 8 by decide +kernel, show (if isLevelV 7 = true then (0 : Int) else 1) = 0 by decide +kernel]
  refine acall (bWrite [1, 2, 3, 4] rfl _) ?_
  rintro _ σ_ ⟨rfl, e_⟩
  obtain rfl := e_.symm
  refine ⟨?_, Ext.refl _⟩
  ((conv => whnf); (repeat ((first | with_reducible refine abr_true rfl ?_ | with_reducible refine abr_false rfl ?_ | with_reducible refine abr_yes rfl ?_ | refine abr_yes (by decide) ?_ | refine abr_no (by decide) ?_ | with_reducible refine abr_same_ne ?_); (conv => whnf))))
  rw [show (if [(1 : Int), 2, 3, 4].all isLevelV = true then pack (repBits [1, 2, 3, 4]) else []) = [4, 32, 196] by decide +kernel, show (if [(1 : Int), 2, 3, 4].all isLevelV = true then (0 : Int) else 3) = 0 by decide +kernel]
  refine acall (bRead [4, 32, 196] _ _ (by decide)) ?_
  rintro _ σ_ ⟨rfl, e_⟩
  obtain rfl := e_.symm
  refine ⟨?_, Ext.refl _⟩
  ((conv => whnf); (repeat ((first | with_reducible refine abr_true rfl ?_ | with_reducible refine abr_false rfl ?_ | with_reducible refine abr_yes rfl ?_ | refine abr_yes (by decide) ?_ | refine abr_no (by decide) ?_ | with_reducible refine abr_same_ne ?_); (conv => whnf))))
  rw [show readRep [4, 32, 196] = ([1, 2, 3, 4], 0) by decide +kernel]
  ((conv => whnf); (repeat ((first | with_reducible refine abr_true rfl ?_ | with_reducible refine abr_false rfl ?_ | with_reducible refine abr_yes rfl ?_ | refine abr_yes (by decide) ?_ | refine abr_no (by decide) ?_ | with_reducible refine abr_same_ne ?_); (conv => whnf))))
  refine anew rfl fun id hid => ?_
  ((conv => whnf); (repeat ((first | with_reducible refine abr_true rfl ?_ | with_reducible refine abr_false rfl ?_ | with_reducible refine abr_yes rfl ?_ | refine abr_yes (by decide) ?_ | refine abr_no (by decide) ?_ | with_reducible refine abr_same_ne ?_); (conv => whnf))))
  refine astore (xs := [i64v 1, i64v 2, i64v 3, i64v 4]) (upd_same _ _ _) (by exact Nat.le_refl 4) rfl rfl ?_
  rw [upd_upd]
  ((conv => whnf); (repeat ((first | with_reducible refine abr_true rfl ?_ | with_reducible refine abr_false rfl ?_ | with_reducible refine abr_yes rfl ?_ | refine abr_yes (by decide) ?_ | refine abr_no (by decide) ?_ | with_reducible refine abr_same_ne ?_); (conv => whnf))))
  refine acall (bLevel (-1) _) ?_
  rintro _ σ_ ⟨rfl, e_⟩
  obtain rfl := e_.symm
  refine ⟨?_, Ext.refl _⟩
  ((conv => whnf); (repeat ((first | with_reducible refine abr_true rfl ?_ | with_reducible refine abr_false rfl ?_ | with_reducible refine abr_yes rfl ?_ | refine abr_yes (by decide) ?_ | refine abr_no (by decide) ?_ | with_reducible refine abr_same_ne ?_); (conv => whnf))))
  rw [show (if (-1 : Int) < 0 then (1 : Int) else 0) = 1 by decide +kernel]
  refine astr rfl ?_
  ((conv => whnf); (repeat ((first | with_reducible refine abr_true rfl ?_ | with_reducible refine abr_false rfl ?_ | with_reducible refine abr_yes rfl ?_ | refine abr_yes (by decide) ?_ | refine abr_no (by decide) ?_ | with_reducible refine abr_same_ne ?_); (conv => whnf))))
  refine aloads (l := [i64v 1, i64v 2, i64v 3, i64v 4]) (upd_same _ _ _) (by exact Nat.le_refl 4) rfl ?_
  ((conv => whnf); (repeat ((first | with_reducible refine abr_true rfl ?_ | with_reducible refine abr_false rfl ?_ | with_reducible refine abr_yes rfl ?_ | refine abr_yes (by decide) ?_ | refine abr_no (by decide) ?_ | with_reducible refine abr_same_ne ?_); (conv => whnf))))
  exact aret (VLe.refl _) (Sub.upd_fresh _ hid) ⟨rfl, rfl⟩

theorem beq_dec {p q : Prop} {_ : Decidable p} {_ : Decidable q} (h : p ↔ q) : (decide p == decide q) = true := by
  rw [show decide p = decide q from dec_congr h]; simp
theorem isLevel_level (k : Nat) : isLevelV ((levelV k : Nat) : Int) = true := isLevelV_iff.2 (by have := levelV_le k; omega)
end Go.Proofs.Ytnfdgccmpglbhaa
/-
  The document's reports: which may be.
-/
namespace Go.Proofs.Ytnfdgccmpglbhaa
set_option linter.unusedVariables false
set_option linter.unusedSimpArgs false
open Go Go.Am

set_option maxRecDepth 20000 in
theorem refRepRight (rs : List Int) (h4 : rs.length = 4) (σ : AHeap) : ACalls Try.prog i_bowlineref38_Right [rep rs] σ fun v σ' => v = boolv (rs.all isLevelV) ∧ σ' = σ := by
  obtain ⟨a, b, c, d, hr⟩ := four h4
  refine k_bowlineref38_Right rfl ?_
  rw [hr]
  ((conv => whnf); (repeat ((first | with_reducible refine abr_true rfl ?_ | with_reducible refine abr_false rfl ?_ | with_reducible refine abr_yes rfl ?_ | refine abr_yes (by decide) ?_ | refine abr_no (by decide) ?_ | with_reducible refine abr_same_ne ?_); (conv => whnf))))
  refine anew rfl fun id hid => ?_
  ((conv => whnf); (repeat ((first | with_reducible refine abr_true rfl ?_ | with_reducible refine abr_false rfl ?_ | with_reducible refine abr_yes rfl ?_ | refine abr_yes (by decide) ?_ | refine abr_no (by decide) ?_ | with_reducible refine abr_same_ne ?_); (conv => whnf))))
  refine aloop (α := Nat) (fun i => [(s3, i64v i)]) (fun _ => upd σ id (.cells ([a, b, c, d].map i64v))) (fun i => i ≤ 4 ∧ (rs.take i).all isLevelV = true) (fun i => 4 - i) 0 ⟨by omega, rfl⟩ (Sub.refl _) ?_ ?_
  · ((conv => whnf); (repeat ((first | with_reducible refine abr_true rfl ?_ | with_reducible refine abr_false rfl ?_ | with_reducible refine abr_yes rfl ?_ | refine abr_yes (by decide) ?_ | refine abr_no (by decide) ?_ | with_reducible refine abr_same_ne ?_); (conv => whnf))))
    (repeat' first | with_reducible exact EnvLe.refl _ | (refine EnvLe.node ?_ (by first | exact Or.inl rfl | exact Or.inr (Or.inl rfl) | exact Or.inr (Or.inr ⟨nofun, VLe.slice _ _ _⟩)) ?_))
  · rintro i ⟨hi, hall⟩
    by_cases h : i < 4
    · have hg : ([a, b, c, d].map i64v)[0 + ((i : Nat) : Int).toNat * 1]? = some (i64v rs[i]) := by
        rw [Nat.zero_add]; exact get4 hr.symm (by omega)
      ((conv => whnf); (repeat ((first | with_reducible refine abr_true rfl ?_ | with_reducible refine abr_false rfl ?_ | with_reducible refine abr_yes rfl ?_ | refine abr_yes (by decide) ?_ | refine abr_no (by decide) ?_ | with_reducible refine abr_same_ne ?_); (conv => whnf))))
      (repeat ((first | refine aload (by (repeat (first | with_reducible exact upd_same _ _ _ | assumption | rw [upd_ne _ _ (by first | assumption | (apply Ne.symm; assumption))]))) rfl ?_ | refine afit_i64 (by omega) ?_ | refine arem_nonneg (by omega) (by omega) ?_ | refine adiv_i64 (by omega) (by omega) ?_ | refine abr_yes (by omega) ?_ | refine abr_no (by omega) ?_ | refine amin ?_ | refine amax ?_ | refine afit_u64 (by omega) ?_ | refine afit_u8 (by omega) ?_ | rw [List.length_map]); ((conv => whnf); (repeat ((first | with_reducible refine abr_true rfl ?_ | with_reducible refine abr_false rfl ?_ | with_reducible refine abr_yes rfl ?_ | refine abr_yes (by decide) ?_ | refine abr_no (by decide) ?_ | with_reducible refine abr_same_ne ?_); (conv => whnf))))))
      refine aidx (by omega) (by omega) ?_
      ((conv => whnf); (repeat ((first | with_reducible refine abr_true rfl ?_ | with_reducible refine abr_false rfl ?_ | with_reducible refine abr_yes rfl ?_ | refine abr_yes (by decide) ?_ | refine abr_no (by decide) ?_ | with_reducible refine abr_same_ne ?_); (conv => whnf))))
      refine aload (upd_same _ _ _) hg ?_
      ((conv => whnf); (repeat ((first | with_reducible refine abr_true rfl ?_ | with_reducible refine abr_false rfl ?_ | with_reducible refine abr_yes rfl ?_ | refine abr_yes (by decide) ?_ | refine abr_no (by decide) ?_ | with_reducible refine abr_same_ne ?_); (conv => whnf))))
      have bad (hb : ¬ (0 ≤ rs[i] ∧ rs[i] ≤ 63)) : rs.all isLevelV = false := by
        refine Bool.eq_false_iff.2 fun h => hb (isLevelV_iff.1 (List.all_eq_true.1 h _ (List.getElem_mem (by omega))))
      by_cases h1 : rs[i] < 0
      · refine abr_yes h1 ?_
        ((conv => whnf); (repeat ((first | with_reducible refine abr_true rfl ?_ | with_reducible refine abr_false rfl ?_ | with_reducible refine abr_yes rfl ?_ | refine abr_yes (by decide) ?_ | refine abr_no (by decide) ?_ | with_reducible refine abr_same_ne ?_); (conv => whnf))))
        refine aret (VLe.refl _) (Sub.upd_fresh _ hid) ⟨?_, rfl⟩
        rw [← hr, bad (by omega)]
      · refine abr_no h1 ?_
        ((conv => whnf); (repeat ((first | with_reducible refine abr_true rfl ?_ | with_reducible refine abr_false rfl ?_ | with_reducible refine abr_yes rfl ?_ | refine abr_yes (by decide) ?_ | refine abr_no (by decide) ?_ | with_reducible refine abr_same_ne ?_); (conv => whnf))))
        refine aidx (by omega) (by omega) ?_
        ((conv => whnf); (repeat ((first | with_reducible refine abr_true rfl ?_ | with_reducible refine abr_false rfl ?_ | with_reducible refine abr_yes rfl ?_ | refine abr_yes (by decide) ?_ | refine abr_no (by decide) ?_ | with_reducible refine abr_same_ne ?_); (conv => whnf))))
        refine aload (upd_same _ _ _) hg ?_
        ((conv => whnf); (repeat ((first | with_reducible refine abr_true rfl ?_ | with_reducible refine abr_false rfl ?_ | with_reducible refine abr_yes rfl ?_ | refine abr_yes (by decide) ?_ | refine abr_no (by decide) ?_ | with_reducible refine abr_same_ne ?_); (conv => whnf))))
        by_cases h2 : rs[i] > 63
        · refine abr_yes h2 ?_
          ((conv => whnf); (repeat ((first | with_reducible refine abr_true rfl ?_ | with_reducible refine abr_false rfl ?_ | with_reducible refine abr_yes rfl ?_ | refine abr_yes (by decide) ?_ | refine abr_no (by decide) ?_ | with_reducible refine abr_same_ne ?_); (conv => whnf))))
          refine aret (VLe.refl _) (Sub.upd_fresh _ hid) ⟨?_, rfl⟩
          rw [← hr, bad (by omega)]
        · refine abr_no h2 ?_
          ((conv => whnf); (repeat ((first | with_reducible refine abr_true rfl ?_ | with_reducible refine abr_false rfl ?_ | with_reducible refine abr_yes rfl ?_ | refine abr_yes (by decide) ?_ | refine abr_no (by decide) ?_ | with_reducible refine abr_same_ne ?_); (conv => whnf))))
          (repeat ((first | refine aload (by (repeat (first | with_reducible exact upd_same _ _ _ | assumption | rw [upd_ne _ _ (by first | assumption | (apply Ne.symm; assumption))]))) rfl ?_ | refine afit_i64 (by omega) ?_ | refine arem_nonneg (by omega) (by omega) ?_ | refine adiv_i64 (by omega) (by omega) ?_ | refine abr_yes (by omega) ?_ | refine abr_no (by omega) ?_ | refine amin ?_ | refine amax ?_ | refine afit_u64 (by omega) ?_ | refine afit_u8 (by omega) ?_ | rw [List.length_map]); ((conv => whnf); (repeat ((first | with_reducible refine abr_true rfl ?_ | with_reducible refine abr_false rfl ?_ | with_reducible refine abr_yes rfl ?_ | refine abr_yes (by decide) ?_ | refine abr_no (by decide) ?_ | with_reducible refine abr_same_ne ?_); (conv => whnf))))))
          refine ⟨i + 1, ⟨by omega, all_take (by omega) hall (isLevelV_iff.2 (by omega))⟩, by omega, Sub.refl _, ?_⟩
          ((conv => whnf); (repeat ((first | with_reducible refine abr_true rfl ?_ | with_reducible refine abr_false rfl ?_ | with_reducible refine abr_yes rfl ?_ | refine abr_yes (by decide) ?_ | refine abr_no (by decide) ?_ | with_reducible refine abr_same_ne ?_); (conv => whnf))))
          (repeat' first | with_reducible exact EnvLe.refl _ | (refine EnvLe.node ?_ (by first | exact Or.inl rfl | exact Or.inr (Or.inl rfl) | exact Or.inr (Or.inr ⟨nofun, VLe.slice _ _ _⟩)) ?_))
    · rw [List.take_of_length_le (by omega)] at hall
      ((conv => whnf); (repeat ((first | with_reducible refine abr_true rfl ?_ | with_reducible refine abr_false rfl ?_ | with_reducible refine abr_yes rfl ?_ | refine abr_yes (by decide) ?_ | refine abr_no (by decide) ?_ | with_reducible refine abr_same_ne ?_); (conv => whnf))))
      (repeat ((first | refine aload (by (repeat (first | with_reducible exact upd_same _ _ _ | assumption | rw [upd_ne _ _ (by first | assumption | (apply Ne.symm; assumption))]))) rfl ?_ | refine afit_i64 (by omega) ?_ | refine arem_nonneg (by omega) (by omega) ?_ | refine adiv_i64 (by omega) (by omega) ?_ | refine abr_yes (by omega) ?_ | refine abr_no (by omega) ?_ | refine amin ?_ | refine amax ?_ | refine afit_u64 (by omega) ?_ | refine afit_u8 (by omega) ?_ | rw [List.length_map]); ((conv => whnf); (repeat ((first | with_reducible refine abr_true rfl ?_ | with_reducible refine abr_false rfl ?_ | with_reducible refine abr_yes rfl ?_ | refine abr_yes (by decide) ?_ | refine abr_no (by decide) ?_ | with_reducible refine abr_same_ne ?_); (conv => whnf))))))
      refine aret (VLe.refl _) (Sub.upd_fresh _ hid) ⟨?_, rfl⟩
      rw [← hr, hall]
end Go.Proofs.Ytnfdgccmpglbhaa
/-
  Levels, and what reports tell, at the abstract states.
-/
namespace Go.Proofs.Ytnfdgccmpglbhaa
set_option linter.unusedVariables false
set_option linter.unusedSimpArgs false
open Go Go.Am

theorem levelV_zero : levelV 0 = 0 := by decide +kernel
theorem negs_succ {ws : List Int} {i : Nat} (h : i < ws.length) : negs (ws.take (i + 1)) = (negs (ws.take i) || decide (ws[i] < 0)) := by
  unfold negs
  rw [List.take_add_one, List.getElem?_eq_getElem h, List.any_append]; simp
def sumB (rs : List Int) (i : Nat) : Int := if rs.all isLevelV = true then (sumTo rs i : Int) else 0
theorem sumV_is (rs : List Int) : sumV rs = sumB rs 4 := rfl

theorem ofL_neg (ws : List Int) (i : Nat) (h : i < 4) (hn : ws[i]?.getD 0 < 0) : ofL ws (i + 1) = ofL ws i := by
  have h0 : ((levelV (ws[i]?.getD 0).toNat : Nat) : Int) = 0 := by rw [Int.toNat_of_nonpos (by omega), levelV_zero]; rfl
  rw [← ofL_set ws i h, h0]
  have : i = 0 ∨ i = 1 ∨ i = 2 ∨ i = 3 := by omega
  rcases this with rfl | rfl | rfl | rfl <;> rfl
theorem via_loop {G : Prop} {b : ICode} {Q : Exit → Env → AHeap → Prop} (K : ICode → (Exit → Env → AHeap → Prop) → Prop) (f : (Unit → K b Q) → G) (k : K b Q) : G := f fun _ => k
theorem aloop_from {P : Program} {C : Cfg} {b : ICode} {env env1 : Env} {σ : AHeap} {Q : Exit → Env → AHeap → Prop} (hle : EnvLe env env1) (h : ALoop P C b env1 σ Q) : ALoop P C b env σ Q := by
  rw [ALoop_def] at h ⊢
  intro c hc κ a w hS
  exact h c hc κ a w (hS.weaken hle (Sub.refl _))
theorem ofV_length (ws : List Int) : (ofV ws).length = 4 := by unfold ofV; split <;> rfl
theorem splice_all {α : Type} (cs xs : List α) (h : xs.length = cs.length) : splice cs 0 xs = xs := by
  unfold splice; rw [h]; simp
set_option maxRecDepth 20000 in
set_option maxHeartbeats 4000000 in
theorem BsrLevels (level n : Int) (rs ws : List Int) (h4 : rs.length = 4) (w4 : ws.length = 4) (σ : AHeap) : ACalls Try.prog i_bowlinelaw38_BsrLevels [i64v level, i64v n, rep rs, rep ws] σ fun v σ' => v = boolv true ∧ σ' = σ := by
  obtain ⟨r1, r2, r3, r4, hr⟩ := four h4
  obtain ⟨w1, w2, w3, w5, hw⟩ := four w4
  refine k_bowlinelaw38_BsrLevels rfl ?_
  rw [hr, hw]
  ((conv => whnf); (repeat ((first | with_reducible refine abr_true rfl ?_ | with_reducible refine abr_false rfl ?_ | with_reducible refine abr_yes rfl ?_ | refine abr_yes (by decide) ?_ | refine abr_no (by decide) ?_ | with_reducible refine abr_same_ne ?_); (conv => whnf))))
  refine anew rfl fun i6 hi6 => ?_
  ((conv => whnf); (repeat ((first | with_reducible refine abr_true rfl ?_ | with_reducible refine abr_false rfl ?_ | with_reducible refine abr_yes rfl ?_ | refine abr_yes (by decide) ?_ | refine abr_no (by decide) ?_ | with_reducible refine abr_same_ne ?_); (conv => whnf))))
  refine anew rfl fun i7 hi7 => ?_
  have n67 : i6 ≠ i7 := fun e => by subst e; rw [upd_same] at hi7; cases hi7
  have b6 : σ i6 = none := hi6
  have b7 : σ i7 = none := sub_none (Sub.upd_fresh _ hi6) hi7
  generalize hβ : upd (upd σ i6 _) i7 _ = β at *
  have k6 : β i6 = some (.cells (rs.map i64v)) := by rw [← hβ, upd_ne _ _ n67, hr]; exact upd_same _ _ _
  have k7 : β i7 = some (.cells (ws.map i64v)) := by rw [← hβ, hw]; exact upd_same _ _ _
  have hs : Sub β σ := by rw [← hβ]; exact sub_upd _ (sub_upd _ (Sub.refl _) b6) b7
  clear hβ
  ((conv => whnf); (repeat ((first | with_reducible refine abr_true rfl ?_ | with_reducible refine abr_false rfl ?_ | with_reducible refine abr_yes rfl ?_ | refine abr_yes (by decide) ?_ | refine abr_no (by decide) ?_ | with_reducible refine abr_same_ne ?_); (conv => whnf))))
  refine acall (refLeasts _) ?_
  rintro _ σ_ ⟨rfl, e_⟩
  obtain rfl := e_.symm
  refine ⟨?_, Ext.refl _⟩
  ((conv => whnf); (repeat ((first | with_reducible refine abr_true rfl ?_ | with_reducible refine abr_false rfl ?_ | with_reducible refine abr_yes rfl ?_ | refine abr_yes (by decide) ?_ | refine abr_no (by decide) ?_ | with_reducible refine abr_same_ne ?_); (conv => whnf))))
  refine acall (bLeast level _) ?_
  rintro _ σ_ ⟨rfl, e_⟩
  obtain rfl := e_.symm
  refine ⟨?_, Ext.refl _⟩
  ((conv => whnf); (repeat ((first | with_reducible refine abr_true rfl ?_ | with_reducible refine abr_false rfl ?_ | with_reducible refine abr_yes rfl ?_ | refine abr_yes (by decide) ?_ | refine abr_no (by decide) ?_ | with_reducible refine abr_same_ne ?_); (conv => whnf))))
  have hll : (leasts 64).length = 64 := leasts_len 64
  have hs0 : sumB rs 0 = 0 := by unfold sumB; split <;> rfl
  apply via_loop (fun b Q => ∀ i16, β i16 = none → i6 ≠ i16 → i7 ≠ i16 → setsK (Env.full 9) [(s6, .ptr i6 0), (s7, .ptr i7 0), (s9, .slice 1 (leasts 64) .none), (s14, i64v 0), (s15, boolv false), (s16, .ptr i16 0), (s17, i64v 0)] fun e => ALoop Try.prog c13 b e (upd β i16 (.cells [i64v 0, i64v 0, i64v 0, i64v 0])) Q)
  case f =>
    intro hK
    have lvl : (isLevelV level = true ∧ 0 ≤ level ∧ level ≤ 63) ∨ (¬ isLevelV level = true ∧ level < 0) ∨ (¬ isLevelV level = true ∧ 63 < level) := by
      rw [isLevelV_iff]; omega
    rcases lvl with ⟨hL, hL1, hL2⟩ | ⟨hL, hL1⟩ | ⟨hL, hL1⟩
    case' inl =>
      rw [if_pos hL, if_pos hL]
      have hsm := leastV_small level.toNat (by omega)
      (repeat ((first | refine aload (by (repeat (first | with_reducible exact upd_same _ _ _ | assumption | rw [upd_ne _ _ (by first | assumption | (apply Ne.symm; assumption))]))) rfl ?_ | refine afit_i64 (by omega) ?_ | refine arem_nonneg (by omega) (by omega) ?_ | refine adiv_i64 (by omega) (by omega) ?_ | refine abr_yes (by omega) ?_ | refine abr_no (by omega) ?_ | refine amin ?_ | refine amax ?_ | refine afit_u64 (by omega) ?_ | refine afit_u8 (by omega) ?_ | rw [List.length_map]); ((conv => whnf); (repeat ((first | with_reducible refine abr_true rfl ?_ | with_reducible refine abr_false rfl ?_ | with_reducible refine abr_yes rfl ?_ | refine abr_yes (by decide) ?_ | refine abr_no (by decide) ?_ | with_reducible refine abr_same_ne ?_); (conv => whnf))))))
      refine aget hL1 (leasts_get (k := 64) (i := level.toNat) (by omega)) ?_
      ((conv => whnf); (repeat ((first | with_reducible refine abr_true rfl ?_ | with_reducible refine abr_false rfl ?_ | with_reducible refine abr_yes rfl ?_ | refine abr_yes (by decide) ?_ | refine abr_no (by decide) ?_ | with_reducible refine abr_same_ne ?_); (conv => whnf))))
      refine acell rfl ?_
      ((conv => whnf); (repeat ((first | with_reducible refine abr_true rfl ?_ | with_reducible refine abr_false rfl ?_ | with_reducible refine abr_yes rfl ?_ | refine abr_yes (by decide) ?_ | refine abr_no (by decide) ?_ | with_reducible refine abr_same_ne ?_); (conv => whnf))))
      (repeat ((first | refine aload (by (repeat (first | with_reducible exact upd_same _ _ _ | assumption | rw [upd_ne _ _ (by first | assumption | (apply Ne.symm; assumption))]))) rfl ?_ | refine afit_i64 (by omega) ?_ | refine arem_nonneg (by omega) (by omega) ?_ | refine adiv_i64 (by omega) (by omega) ?_ | refine abr_yes (by omega) ?_ | refine abr_no (by omega) ?_ | refine amin ?_ | refine amax ?_ | refine afit_u64 (by omega) ?_ | refine afit_u8 (by omega) ?_ | rw [List.length_map]); ((conv => whnf); (repeat ((first | with_reducible refine abr_true rfl ?_ | with_reducible refine abr_false rfl ?_ | with_reducible refine abr_yes rfl ?_ | refine abr_yes (by decide) ?_ | refine abr_no (by decide) ?_ | with_reducible refine abr_same_ne ?_); (conv => whnf))))))
    case' inr.inl =>
      rw [if_neg hL, if_neg hL]
      (repeat ((first | refine aload (by (repeat (first | with_reducible exact upd_same _ _ _ | assumption | rw [upd_ne _ _ (by first | assumption | (apply Ne.symm; assumption))]))) rfl ?_ | refine afit_i64 (by omega) ?_ | refine arem_nonneg (by omega) (by omega) ?_ | refine adiv_i64 (by omega) (by omega) ?_ | refine abr_yes (by omega) ?_ | refine abr_no (by omega) ?_ | refine amin ?_ | refine amax ?_ | refine afit_u64 (by omega) ?_ | refine afit_u8 (by omega) ?_ | rw [List.length_map]); ((conv => whnf); (repeat ((first | with_reducible refine abr_true rfl ?_ | with_reducible refine abr_false rfl ?_ | with_reducible refine abr_yes rfl ?_ | refine abr_yes (by decide) ?_ | refine abr_no (by decide) ?_ | with_reducible refine abr_same_ne ?_); (conv => whnf))))))
    case' inr.inr =>
      rw [if_neg hL, if_neg hL]
      (repeat ((first | refine aload (by (repeat (first | with_reducible exact upd_same _ _ _ | assumption | rw [upd_ne _ _ (by first | assumption | (apply Ne.symm; assumption))]))) rfl ?_ | refine afit_i64 (by omega) ?_ | refine arem_nonneg (by omega) (by omega) ?_ | refine adiv_i64 (by omega) (by omega) ?_ | refine abr_yes (by omega) ?_ | refine abr_no (by omega) ?_ | refine amin ?_ | refine amax ?_ | refine afit_u64 (by omega) ?_ | refine afit_u8 (by omega) ?_ | rw [List.length_map]); ((conv => whnf); (repeat ((first | with_reducible refine abr_true rfl ?_ | with_reducible refine abr_false rfl ?_ | with_reducible refine abr_yes rfl ?_ | refine abr_yes (by decide) ?_ | refine abr_no (by decide) ?_ | with_reducible refine abr_same_ne ?_); (conv => whnf))))))
    all_goals
      refine acall (bLevel n _) ?_
      rintro _ σ_ ⟨rfl, e_⟩
      obtain rfl := e_.symm
      refine ⟨?_, Ext.refl _⟩
      ((conv => whnf); (repeat ((first | with_reducible refine abr_true rfl ?_ | with_reducible refine abr_false rfl ?_ | with_reducible refine abr_yes rfl ?_ | refine abr_yes (by decide) ?_ | refine abr_no (by decide) ?_ | with_reducible refine abr_same_ne ?_); (conv => whnf))))
      rcases Classical.em (n < 0) with hn | hn
    case' inl.inl =>
      rw [if_pos hn, if_pos hn]
      (repeat ((first | refine aload (by (repeat (first | with_reducible exact upd_same _ _ _ | assumption | rw [upd_ne _ _ (by first | assumption | (apply Ne.symm; assumption))]))) rfl ?_ | refine afit_i64 (by omega) ?_ | refine arem_nonneg (by omega) (by omega) ?_ | refine adiv_i64 (by omega) (by omega) ?_ | refine abr_yes (by omega) ?_ | refine abr_no (by omega) ?_ | refine amin ?_ | refine amax ?_ | refine afit_u64 (by omega) ?_ | refine afit_u8 (by omega) ?_ | rw [List.length_map]); ((conv => whnf); (repeat ((first | with_reducible refine abr_true rfl ?_ | with_reducible refine abr_false rfl ?_ | with_reducible refine abr_yes rfl ?_ | refine abr_yes (by decide) ?_ | refine abr_no (by decide) ?_ | with_reducible refine abr_same_ne ?_); (conv => whnf))))))
    case' inr.inl.inl =>
      rw [if_pos hn, if_pos hn]
      (repeat ((first | refine aload (by (repeat (first | with_reducible exact upd_same _ _ _ | assumption | rw [upd_ne _ _ (by first | assumption | (apply Ne.symm; assumption))]))) rfl ?_ | refine afit_i64 (by omega) ?_ | refine arem_nonneg (by omega) (by omega) ?_ | refine adiv_i64 (by omega) (by omega) ?_ | refine abr_yes (by omega) ?_ | refine abr_no (by omega) ?_ | refine amin ?_ | refine amax ?_ | refine afit_u64 (by omega) ?_ | refine afit_u8 (by omega) ?_ | rw [List.length_map]); ((conv => whnf); (repeat ((first | with_reducible refine abr_true rfl ?_ | with_reducible refine abr_false rfl ?_ | with_reducible refine abr_yes rfl ?_ | refine abr_yes (by decide) ?_ | refine abr_no (by decide) ?_ | with_reducible refine abr_same_ne ?_); (conv => whnf))))))
    case' inr.inr.inl =>
      rw [if_pos hn, if_pos hn]
      (repeat ((first | refine aload (by (repeat (first | with_reducible exact upd_same _ _ _ | assumption | rw [upd_ne _ _ (by first | assumption | (apply Ne.symm; assumption))]))) rfl ?_ | refine afit_i64 (by omega) ?_ | refine arem_nonneg (by omega) (by omega) ?_ | refine adiv_i64 (by omega) (by omega) ?_ | refine abr_yes (by omega) ?_ | refine abr_no (by omega) ?_ | refine amin ?_ | refine amax ?_ | refine afit_u64 (by omega) ?_ | refine afit_u8 (by omega) ?_ | rw [List.length_map]); ((conv => whnf); (repeat ((first | with_reducible refine abr_true rfl ?_ | with_reducible refine abr_false rfl ?_ | with_reducible refine abr_yes rfl ?_ | refine abr_yes (by decide) ?_ | refine abr_no (by decide) ?_ | with_reducible refine abr_same_ne ?_); (conv => whnf))))))
    case' inl.inr =>
      rw [if_neg hn, if_neg hn]
      (repeat ((first | refine aload (by (repeat (first | with_reducible exact upd_same _ _ _ | assumption | rw [upd_ne _ _ (by first | assumption | (apply Ne.symm; assumption))]))) rfl ?_ | refine afit_i64 (by omega) ?_ | refine arem_nonneg (by omega) (by omega) ?_ | refine adiv_i64 (by omega) (by omega) ?_ | refine abr_yes (by omega) ?_ | refine abr_no (by omega) ?_ | refine amin ?_ | refine amax ?_ | refine afit_u64 (by omega) ?_ | refine afit_u8 (by omega) ?_ | rw [List.length_map]); ((conv => whnf); (repeat ((first | with_reducible refine abr_true rfl ?_ | with_reducible refine abr_false rfl ?_ | with_reducible refine abr_yes rfl ?_ | refine abr_yes (by decide) ?_ | refine abr_no (by decide) ?_ | with_reducible refine abr_same_ne ?_); (conv => whnf))))))
      refine acall (refLevel n _ (by omega)) ?_
      rintro _ σ_ ⟨rfl, e_⟩
      obtain rfl := e_.symm
      refine ⟨?_, Ext.refl _⟩
      ((conv => whnf); (repeat ((first | with_reducible refine abr_true rfl ?_ | with_reducible refine abr_false rfl ?_ | with_reducible refine abr_yes rfl ?_ | refine abr_yes (by decide) ?_ | refine abr_no (by decide) ?_ | with_reducible refine abr_same_ne ?_); (conv => whnf))))
      (repeat ((first | refine aload (by (repeat (first | with_reducible exact upd_same _ _ _ | assumption | rw [upd_ne _ _ (by first | assumption | (apply Ne.symm; assumption))]))) rfl ?_ | refine afit_i64 (by omega) ?_ | refine arem_nonneg (by omega) (by omega) ?_ | refine adiv_i64 (by omega) (by omega) ?_ | refine abr_yes (by omega) ?_ | refine abr_no (by omega) ?_ | refine amin ?_ | refine amax ?_ | refine afit_u64 (by omega) ?_ | refine afit_u8 (by omega) ?_ | rw [List.length_map]); ((conv => whnf); (repeat ((first | with_reducible refine abr_true rfl ?_ | with_reducible refine abr_false rfl ?_ | with_reducible refine abr_yes rfl ?_ | refine abr_yes (by decide) ?_ | refine abr_no (by decide) ?_ | with_reducible refine abr_same_ne ?_); (conv => whnf))))))
    case' inr.inl.inr =>
      rw [if_neg hn, if_neg hn]
      (repeat ((first | refine aload (by (repeat (first | with_reducible exact upd_same _ _ _ | assumption | rw [upd_ne _ _ (by first | assumption | (apply Ne.symm; assumption))]))) rfl ?_ | refine afit_i64 (by omega) ?_ | refine arem_nonneg (by omega) (by omega) ?_ | refine adiv_i64 (by omega) (by omega) ?_ | refine abr_yes (by omega) ?_ | refine abr_no (by omega) ?_ | refine amin ?_ | refine amax ?_ | refine afit_u64 (by omega) ?_ | refine afit_u8 (by omega) ?_ | rw [List.length_map]); ((conv => whnf); (repeat ((first | with_reducible refine abr_true rfl ?_ | with_reducible refine abr_false rfl ?_ | with_reducible refine abr_yes rfl ?_ | refine abr_yes (by decide) ?_ | refine abr_no (by decide) ?_ | with_reducible refine abr_same_ne ?_); (conv => whnf))))))
      refine acall (refLevel n _ (by omega)) ?_
      rintro _ σ_ ⟨rfl, e_⟩
      obtain rfl := e_.symm
      refine ⟨?_, Ext.refl _⟩
      ((conv => whnf); (repeat ((first | with_reducible refine abr_true rfl ?_ | with_reducible refine abr_false rfl ?_ | with_reducible refine abr_yes rfl ?_ | refine abr_yes (by decide) ?_ | refine abr_no (by decide) ?_ | with_reducible refine abr_same_ne ?_); (conv => whnf))))
      (repeat ((first | refine aload (by (repeat (first | with_reducible exact upd_same _ _ _ | assumption | rw [upd_ne _ _ (by first | assumption | (apply Ne.symm; assumption))]))) rfl ?_ | refine afit_i64 (by omega) ?_ | refine arem_nonneg (by omega) (by omega) ?_ | refine adiv_i64 (by omega) (by omega) ?_ | refine abr_yes (by omega) ?_ | refine abr_no (by omega) ?_ | refine amin ?_ | refine amax ?_ | refine afit_u64 (by omega) ?_ | refine afit_u8 (by omega) ?_ | rw [List.length_map]); ((conv => whnf); (repeat ((first | with_reducible refine abr_true rfl ?_ | with_reducible refine abr_false rfl ?_ | with_reducible refine abr_yes rfl ?_ | refine abr_yes (by decide) ?_ | refine abr_no (by decide) ?_ | with_reducible refine abr_same_ne ?_); (conv => whnf))))))
    case' inr.inr.inr =>
      rw [if_neg hn, if_neg hn]
      (repeat ((first | refine aload (by (repeat (first | with_reducible exact upd_same _ _ _ | assumption | rw [upd_ne _ _ (by first | assumption | (apply Ne.symm; assumption))]))) rfl ?_ | refine afit_i64 (by omega) ?_ | refine arem_nonneg (by omega) (by omega) ?_ | refine adiv_i64 (by omega) (by omega) ?_ | refine abr_yes (by omega) ?_ | refine abr_no (by omega) ?_ | refine amin ?_ | refine amax ?_ | refine afit_u64 (by omega) ?_ | refine afit_u8 (by omega) ?_ | rw [List.length_map]); ((conv => whnf); (repeat ((first | with_reducible refine abr_true rfl ?_ | with_reducible refine abr_false rfl ?_ | with_reducible refine abr_yes rfl ?_ | refine abr_yes (by decide) ?_ | refine abr_no (by decide) ?_ | with_reducible refine abr_same_ne ?_); (conv => whnf))))))
      refine acall (refLevel n _ (by omega)) ?_
      rintro _ σ_ ⟨rfl, e_⟩
      obtain rfl := e_.symm
      refine ⟨?_, Ext.refl _⟩
      ((conv => whnf); (repeat ((first | with_reducible refine abr_true rfl ?_ | with_reducible refine abr_false rfl ?_ | with_reducible refine abr_yes rfl ?_ | refine abr_yes (by decide) ?_ | refine abr_no (by decide) ?_ | with_reducible refine abr_same_ne ?_); (conv => whnf))))
      (repeat ((first | refine aload (by (repeat (first | with_reducible exact upd_same _ _ _ | assumption | rw [upd_ne _ _ (by first | assumption | (apply Ne.symm; assumption))]))) rfl ?_ | refine afit_i64 (by omega) ?_ | refine arem_nonneg (by omega) (by omega) ?_ | refine adiv_i64 (by omega) (by omega) ?_ | refine abr_yes (by omega) ?_ | refine abr_no (by omega) ?_ | refine amin ?_ | refine amax ?_ | refine afit_u64 (by omega) ?_ | refine afit_u8 (by omega) ?_ | rw [List.length_map]); ((conv => whnf); (repeat ((first | with_reducible refine abr_true rfl ?_ | with_reducible refine abr_false rfl ?_ | with_reducible refine abr_yes rfl ?_ | refine abr_yes (by decide) ?_ | refine abr_no (by decide) ?_ | with_reducible refine abr_same_ne ?_); (conv => whnf))))))
    all_goals
      refine anew rfl fun i16 h16 => ?_
      have n6 : i6 ≠ i16 := fun e => by subst e; rw [k6] at h16; cases h16
      have n7 : i7 ≠ i16 := fun e => by subst e; rw [k7] at h16; cases h16
      ((conv => whnf); (repeat ((first | with_reducible refine abr_true rfl ?_ | with_reducible refine abr_false rfl ?_ | with_reducible refine abr_yes rfl ?_ | refine abr_yes (by decide) ?_ | refine abr_no (by decide) ?_ | with_reducible refine abr_same_ne ?_); (conv => whnf))))
      refine astore (xs := [i64v 0, i64v 0, i64v 0, i64v 0]) (upd_same _ _ _) (by exact Nat.le_refl 4) rfl rfl ?_
      rw [upd_upd]
      ((conv => whnf); (repeat ((first | with_reducible refine abr_true rfl ?_ | with_reducible refine abr_false rfl ?_ | with_reducible refine abr_yes rfl ?_ | refine abr_yes (by decide) ?_ | refine abr_no (by decide) ?_ | with_reducible refine abr_same_ne ?_); (conv => whnf))))
      refine aloop_from ?_ (hK () i16 h16 n6 n7)
      (repeat' first | with_reducible exact EnvLe.refl _ | (refine EnvLe.node ?_ (by first | exact Or.inl rfl | exact Or.inr (Or.inl rfl) | exact Or.inr (Or.inr ⟨nofun, VLe.slice _ _ _⟩)) ?_))
  case k =>
    intro i16 h16 n6 n7
    (conv => whnf)
    refine aloop (α := Nat) (fun i => [(s14, i64v (sumB rs i)), (s15, boolv (negs (ws.take i))), (s17, i64v i)]) (fun i => upd β i16 (.cells ((ofL ws i).map i64v))) (fun i => i ≤ 4) (fun i => 4 - i) 0 (by omega) (Sub.refl _) (by ((conv => whnf); (repeat ((first | with_reducible refine abr_true rfl ?_ | with_reducible refine abr_false rfl ?_ | with_reducible refine abr_yes rfl ?_ | refine abr_yes (by decide) ?_ | refine abr_no (by decide) ?_ | with_reducible refine abr_same_ne ?_); (conv => whnf)))); rw [hs0]; (repeat' first | with_reducible exact EnvLe.refl _ | (refine EnvLe.node ?_ (by first | exact Or.inl rfl | exact Or.inr (Or.inl rfl) | exact Or.inr (Or.inr ⟨nofun, VLe.slice _ _ _⟩)) ?_))) ?_
    intro i hi
    dsimp only
    by_cases h : i < 4
    · have c6 : upd β i16 (.cells ((ofL ws i).map i64v)) i6 = some (.cells (rs.map i64v)) := by rw [upd_ne _ _ n6]; exact k6
      have c7 : upd β i16 (.cells ((ofL ws i).map i64v)) i7 = some (.cells (ws.map i64v)) := by rw [upd_ne _ _ n7]; exact k7
      have c16 : upd β i16 (.cells ((ofL ws i).map i64v)) i16 = some (.cells ((ofL ws i).map i64v)) := upd_same _ _ _
      have hup (x) : upd (upd β i16 (.cells ((ofL ws i).map i64v))) i16 x = upd β i16 x := upd_upd _ _ _ _
      have hst := ofL_set ws i h
      have hz := ofL_neg ws i h
      have hgd : ws[i]?.getD 0 = ws[i] := by rw [List.getElem?_eq_getElem (by omega)]; rfl
      rw [hgd] at hst hz
      have hng := negs_succ (ws := ws) (i := i) (by omega)
      generalize hH : upd β i16 (.cells ((ofL ws i).map i64v)) = H at *
      ((conv => whnf); (repeat ((first | with_reducible refine abr_true rfl ?_ | with_reducible refine abr_false rfl ?_ | with_reducible refine abr_yes rfl ?_ | refine abr_yes (by decide) ?_ | refine abr_no (by decide) ?_ | with_reducible refine abr_same_ne ?_); (conv => whnf))))
      (repeat ((first | refine aload (by (repeat (first | with_reducible exact upd_same _ _ _ | assumption | rw [upd_ne _ _ (by first | assumption | (apply Ne.symm; assumption))]))) rfl ?_ | refine afit_i64 (by omega) ?_ | refine arem_nonneg (by omega) (by omega) ?_ | refine adiv_i64 (by omega) (by omega) ?_ | refine abr_yes (by omega) ?_ | refine abr_no (by omega) ?_ | refine amin ?_ | refine amax ?_ | refine afit_u64 (by omega) ?_ | refine afit_u8 (by omega) ?_ | rw [List.length_map]); ((conv => whnf); (repeat ((first | with_reducible refine abr_true rfl ?_ | with_reducible refine abr_false rfl ?_ | with_reducible refine abr_yes rfl ?_ | refine abr_yes (by decide) ?_ | refine abr_no (by decide) ?_ | with_reducible refine abr_same_ne ?_); (conv => whnf))))))
      refine aloads (l := rs.map i64v) c6 (by rw [List.length_map, h4]; exact Nat.le_refl 4) (by rw [List.drop_zero, List.take_of_length_le (by rw [List.length_map]; omega)]) ?_
      ((conv => whnf); (repeat ((first | with_reducible refine abr_true rfl ?_ | with_reducible refine abr_false rfl ?_ | with_reducible refine abr_yes rfl ?_ | refine abr_yes (by decide) ?_ | refine abr_no (by decide) ?_ | with_reducible refine abr_same_ne ?_); (conv => whnf))))
      refine acall (refRepRight rs h4 _) ?_
      rintro _ σ_ ⟨rfl, e_⟩
      obtain rfl := e_.symm
      refine ⟨?_, Ext.refl _⟩
      ((conv => whnf); (repeat ((first | with_reducible refine abr_true rfl ?_ | with_reducible refine abr_false rfl ?_ | with_reducible refine abr_yes rfl ?_ | refine abr_yes (by decide) ?_ | refine abr_no (by decide) ?_ | with_reducible refine abr_same_ne ?_); (conv => whnf))))
      have hB : ∀ i, sumB rs i = if rs.all isLevelV = true then (sumTo rs i : Int) else 0 := fun _ => rfl
      generalize hall : rs.all isLevelV = all at *
      cases all
      case' true =>
        have hl := isLevelV_iff.1 (List.all_eq_true.1 hall rs[i] (List.getElem_mem (by omega)))
        have hsm := leastV_small rs[i].toNat (by omega)
        have hle := sumTo_le hall i (by omega)
        have hsum : sumB rs (i + 1) = sumB rs i + leastV rs[i].toNat := by rw [hB, hB, if_pos rfl, if_pos rfl, sumTo_succ (by omega), Int.natCast_add]
        have hbb : 0 ≤ sumB rs i ∧ sumB rs i ≤ 4000000 := by rw [hB, if_pos rfl]; omega
        ((conv => whnf); (repeat ((first | with_reducible refine abr_true rfl ?_ | with_reducible refine abr_false rfl ?_ | with_reducible refine abr_yes rfl ?_ | refine abr_yes (by decide) ?_ | refine abr_no (by decide) ?_ | with_reducible refine abr_same_ne ?_); (conv => whnf))))
        (repeat ((first | refine aload (by (repeat (first | with_reducible exact upd_same _ _ _ | assumption | rw [upd_ne _ _ (by first | assumption | (apply Ne.symm; assumption))]))) rfl ?_ | refine afit_i64 (by omega) ?_ | refine arem_nonneg (by omega) (by omega) ?_ | refine adiv_i64 (by omega) (by omega) ?_ | refine abr_yes (by omega) ?_ | refine abr_no (by omega) ?_ | refine amin ?_ | refine amax ?_ | refine afit_u64 (by omega) ?_ | refine afit_u8 (by omega) ?_ | rw [List.length_map]); ((conv => whnf); (repeat ((first | with_reducible refine abr_true rfl ?_ | with_reducible refine abr_false rfl ?_ | with_reducible refine abr_yes rfl ?_ | refine abr_yes (by decide) ?_ | refine abr_no (by decide) ?_ | with_reducible refine abr_same_ne ?_); (conv => whnf))))))
        refine aidx (by omega) (by omega) ?_
        ((conv => whnf); (repeat ((first | with_reducible refine abr_true rfl ?_ | with_reducible refine abr_false rfl ?_ | with_reducible refine abr_yes rfl ?_ | refine abr_yes (by decide) ?_ | refine abr_no (by decide) ?_ | with_reducible refine abr_same_ne ?_); (conv => whnf))))
        refine aload c6 (x := i64v rs[i]) (by rw [show 0 + ((i : Nat) : Int).toNat * 1 = i by omega]; exact get_rep (by omega)) ?_
        ((conv => whnf); (repeat ((first | with_reducible refine abr_true rfl ?_ | with_reducible refine abr_false rfl ?_ | with_reducible refine abr_yes rfl ?_ | refine abr_yes (by decide) ?_ | refine abr_no (by decide) ?_ | with_reducible refine abr_same_ne ?_); (conv => whnf))))
        refine aget hl.1 (leasts_get (k := 64) (i := rs[i].toNat) (by omega)) ?_
        ((conv => whnf); (repeat ((first | with_reducible refine abr_true rfl ?_ | with_reducible refine abr_false rfl ?_ | with_reducible refine abr_yes rfl ?_ | refine abr_yes (by decide) ?_ | refine abr_no (by decide) ?_ | with_reducible refine abr_same_ne ?_); (conv => whnf))))
        refine acell rfl ?_
        ((conv => whnf); (repeat ((first | with_reducible refine abr_true rfl ?_ | with_reducible refine abr_false rfl ?_ | with_reducible refine abr_yes rfl ?_ | refine abr_yes (by decide) ?_ | refine abr_no (by decide) ?_ | with_reducible refine abr_same_ne ?_); (conv => whnf))))
        (repeat ((first | refine aload (by (repeat (first | with_reducible exact upd_same _ _ _ | assumption | rw [upd_ne _ _ (by first | assumption | (apply Ne.symm; assumption))]))) rfl ?_ | refine afit_i64 (by omega) ?_ | refine arem_nonneg (by omega) (by omega) ?_ | refine adiv_i64 (by omega) (by omega) ?_ | refine abr_yes (by omega) ?_ | refine abr_no (by omega) ?_ | refine amin ?_ | refine amax ?_ | refine afit_u64 (by omega) ?_ | refine afit_u8 (by omega) ?_ | rw [List.length_map]); ((conv => whnf); (repeat ((first | with_reducible refine abr_true rfl ?_ | with_reducible refine abr_false rfl ?_ | with_reducible refine abr_yes rfl ?_ | refine abr_yes (by decide) ?_ | refine abr_no (by decide) ?_ | with_reducible refine abr_same_ne ?_); (conv => whnf))))))
      case' false =>
        have hsum : sumB rs (i + 1) = sumB rs i := by rw [hB, hB, if_neg (by simp), if_neg (by simp)]
        ((conv => whnf); (repeat ((first | with_reducible refine abr_true rfl ?_ | with_reducible refine abr_false rfl ?_ | with_reducible refine abr_yes rfl ?_ | refine abr_yes (by decide) ?_ | refine abr_no (by decide) ?_ | with_reducible refine abr_same_ne ?_); (conv => whnf))))
      all_goals
        cases hn2 : negs (ws.take i)
        rw [hn2, Bool.false_or] at hng
        rotate_left
        rw [hn2, Bool.true_or] at hng
        rotate_left
      all_goals
        by_cases hw0 : ws[i] < 0
      all_goals
        ((conv => whnf); (repeat ((first | with_reducible refine abr_true rfl ?_ | with_reducible refine abr_false rfl ?_ | with_reducible refine abr_yes rfl ?_ | refine abr_yes (by decide) ?_ | refine abr_no (by decide) ?_ | with_reducible refine abr_same_ne ?_); (conv => whnf))))
        (repeat ((first | refine aload (by (repeat (first | with_reducible exact upd_same _ _ _ | assumption | rw [upd_ne _ _ (by first | assumption | (apply Ne.symm; assumption))]))) rfl ?_ | refine afit_i64 (by omega) ?_ | refine arem_nonneg (by omega) (by omega) ?_ | refine adiv_i64 (by omega) (by omega) ?_ | refine abr_yes (by omega) ?_ | refine abr_no (by omega) ?_ | refine amin ?_ | refine amax ?_ | refine afit_u64 (by omega) ?_ | refine afit_u8 (by omega) ?_ | rw [List.length_map]); ((conv => whnf); (repeat ((first | with_reducible refine abr_true rfl ?_ | with_reducible refine abr_false rfl ?_ | with_reducible refine abr_yes rfl ?_ | refine abr_yes (by decide) ?_ | refine abr_no (by decide) ?_ | with_reducible refine abr_same_ne ?_); (conv => whnf))))))
        repeat (refine aidx (by omega) (by omega) ?_; ((conv => whnf); (repeat ((first | with_reducible refine abr_true rfl ?_ | with_reducible refine abr_false rfl ?_ | with_reducible refine abr_yes rfl ?_ | refine abr_yes (by decide) ?_ | refine abr_no (by decide) ?_ | with_reducible refine abr_same_ne ?_); (conv => whnf)))); refine aload c7 (x := i64v ws[i]) (by rw [show 0 + ((i : Nat) : Int).toNat * 1 = i by omega]; exact get_rep (by omega)) ?_; ((conv => whnf); (repeat ((first | with_reducible refine abr_true rfl ?_ | with_reducible refine abr_false rfl ?_ | with_reducible refine abr_yes rfl ?_ | refine abr_yes (by decide) ?_ | refine abr_no (by decide) ?_ | with_reducible refine abr_same_ne ?_); (conv => whnf)))); (repeat ((first | refine aload (by (repeat (first | with_reducible exact upd_same _ _ _ | assumption | rw [upd_ne _ _ (by first | assumption | (apply Ne.symm; assumption))]))) rfl ?_ | refine afit_i64 (by omega) ?_ | refine arem_nonneg (by omega) (by omega) ?_ | refine adiv_i64 (by omega) (by omega) ?_ | refine abr_yes (by omega) ?_ | refine abr_no (by omega) ?_ | refine amin ?_ | refine amax ?_ | refine afit_u64 (by omega) ?_ | refine afit_u8 (by omega) ?_ | rw [List.length_map]); ((conv => whnf); (repeat ((first | with_reducible refine abr_true rfl ?_ | with_reducible refine abr_false rfl ?_ | with_reducible refine abr_yes rfl ?_ | refine abr_yes (by decide) ?_ | refine abr_no (by decide) ?_ | with_reducible refine abr_same_ne ?_); (conv => whnf)))))))
        first
          | (have hof := hz hw0
             refine ⟨i + 1, by omega, by omega, ?_, ?_⟩
             · rw [hof, hH]; exact Sub.refl _
             · dsimp only
               rw [hsum, hng]
               try rw [@decide_eq_true _ (_) hw0]
               try rw [@decide_eq_true _ (_) hw0]
               ((conv => whnf); (repeat ((first | with_reducible refine abr_true rfl ?_ | with_reducible refine abr_false rfl ?_ | with_reducible refine abr_yes rfl ?_ | refine abr_yes (by decide) ?_ | refine abr_no (by decide) ?_ | with_reducible refine abr_same_ne ?_); (conv => whnf))))
               (repeat' first | with_reducible exact EnvLe.refl _ | (refine EnvLe.node ?_ (by first | exact Or.inl rfl | exact Or.inr (Or.inl rfl) | exact Or.inr (Or.inr ⟨nofun, VLe.slice _ _ _⟩)) ?_)))
          | skip
      all_goals
        (refine acall (refLevel ws[i] _ (by omega)) ?_
         rintro _ σ_ ⟨rfl, e_⟩
         obtain rfl := e_.symm
         refine ⟨?_, Ext.refl _⟩
         ((conv => whnf); (repeat ((first | with_reducible refine abr_true rfl ?_ | with_reducible refine abr_false rfl ?_ | with_reducible refine abr_yes rfl ?_ | refine abr_yes (by decide) ?_ | refine abr_no (by decide) ?_ | with_reducible refine abr_same_ne ?_); (conv => whnf))))
         refine aidx (by omega) (by omega) ?_
         ((conv => whnf); (repeat ((first | with_reducible refine abr_true rfl ?_ | with_reducible refine abr_false rfl ?_ | with_reducible refine abr_yes rfl ?_ | refine abr_yes (by decide) ?_ | refine abr_no (by decide) ?_ | with_reducible refine abr_same_ne ?_); (conv => whnf))))
         refine astore (xs := [i64v (levelV ws[i].toNat : Int)]) (l := (ofL ws (i + 1)).map i64v) c16 (by rw [List.length_map, ofL_length]; show _ + 1 ≤ 4; omega) rfl (by
           rw [show 0 + ((i : Nat) : Int).toNat * 1 = i by omega, splice_ints (by rw [ofL_length]; exact h), hst]) ?_
         ((conv => whnf); (repeat ((first | with_reducible refine abr_true rfl ?_ | with_reducible refine abr_false rfl ?_ | with_reducible refine abr_yes rfl ?_ | refine abr_yes (by decide) ?_ | refine abr_no (by decide) ?_ | with_reducible refine abr_same_ne ?_); (conv => whnf))))
         (repeat ((first | refine aload (by (repeat (first | with_reducible exact upd_same _ _ _ | assumption | rw [upd_ne _ _ (by first | assumption | (apply Ne.symm; assumption))]))) rfl ?_ | refine afit_i64 (by omega) ?_ | refine arem_nonneg (by omega) (by omega) ?_ | refine adiv_i64 (by omega) (by omega) ?_ | refine abr_yes (by omega) ?_ | refine abr_no (by omega) ?_ | refine amin ?_ | refine amax ?_ | refine afit_u64 (by omega) ?_ | refine afit_u8 (by omega) ?_ | rw [List.length_map]); ((conv => whnf); (repeat ((first | with_reducible refine abr_true rfl ?_ | with_reducible refine abr_false rfl ?_ | with_reducible refine abr_yes rfl ?_ | refine abr_yes (by decide) ?_ | refine abr_no (by decide) ?_ | with_reducible refine abr_same_ne ?_); (conv => whnf))))))
         refine ⟨i + 1, by omega, by omega, ?_, ?_⟩
         · rw [hup]; exact Sub.refl _
         · dsimp only
           rw [hsum, hng]
           try rw [@decide_eq_false _ (_) hw0]
           try rw [@decide_eq_false _ (_) hw0]
           ((conv => whnf); (repeat ((first | with_reducible refine abr_true rfl ?_ | with_reducible refine abr_false rfl ?_ | with_reducible refine abr_yes rfl ?_ | refine abr_yes (by decide) ?_ | refine abr_no (by decide) ?_ | with_reducible refine abr_same_ne ?_); (conv => whnf))))
           (repeat' first | with_reducible exact EnvLe.refl _ | (refine EnvLe.node ?_ (by first | exact Or.inl rfl | exact Or.inr (Or.inl rfl) | exact Or.inr (Or.inr ⟨nofun, VLe.slice _ _ _⟩)) ?_)))
    · obtain rfl : i = 4 := by omega
      rw [List.take_of_length_le (by omega)]
      ((conv => whnf); (repeat ((first | with_reducible refine abr_true rfl ?_ | with_reducible refine abr_false rfl ?_ | with_reducible refine abr_yes rfl ?_ | refine abr_yes (by decide) ?_ | refine abr_no (by decide) ?_ | with_reducible refine abr_same_ne ?_); (conv => whnf))))
      (repeat ((first | refine aload (by (repeat (first | with_reducible exact upd_same _ _ _ | assumption | rw [upd_ne _ _ (by first | assumption | (apply Ne.symm; assumption))]))) rfl ?_ | refine afit_i64 (by omega) ?_ | refine arem_nonneg (by omega) (by omega) ?_ | refine adiv_i64 (by omega) (by omega) ?_ | refine abr_yes (by omega) ?_ | refine abr_no (by omega) ?_ | refine amin ?_ | refine amax ?_ | refine afit_u64 (by omega) ?_ | refine afit_u8 (by omega) ?_ | rw [List.length_map]); ((conv => whnf); (repeat ((first | with_reducible refine abr_true rfl ?_ | with_reducible refine abr_false rfl ?_ | with_reducible refine abr_yes rfl ?_ | refine abr_yes (by decide) ?_ | refine abr_no (by decide) ?_ | with_reducible refine abr_same_ne ?_); (conv => whnf))))))
      refine aloads (l := ws.map i64v) (by rw [upd_ne _ _ n7]; exact k7) (by rw [List.length_map, w4]; exact Nat.le_refl 4) (by rw [List.drop_zero, List.take_of_length_le (by rw [List.length_map]; omega)]) ?_
      ((conv => whnf); (repeat ((first | with_reducible refine abr_true rfl ?_ | with_reducible refine abr_false rfl ?_ | with_reducible refine abr_yes rfl ?_ | refine abr_yes (by decide) ?_ | refine abr_no (by decide) ?_ | with_reducible refine abr_same_ne ?_); (conv => whnf))))
      refine acall (bOf ws w4 _) ?_
      rintro _ σ_ ⟨rfl, e_⟩
      obtain rfl := e_.symm
      refine ⟨?_, Ext.refl _⟩
      ((conv => whnf); (repeat ((first | with_reducible refine abr_true rfl ?_ | with_reducible refine abr_false rfl ?_ | with_reducible refine abr_yes rfl ?_ | refine abr_yes (by decide) ?_ | refine abr_no (by decide) ?_ | with_reducible refine abr_same_ne ?_); (conv => whnf))))
      have cells4 : ∀ l : List Int, l.length = 4 → (l.map i64v).length = 4 := fun l h => by rw [List.length_map, h]
      have hofl := ofV_length ws
      obtain ⟨o1, o2, o3, o4, hO⟩ := four hofl
      rw [hO]
      refine anew rfl fun i18 h18 => ?_
      have m16 : i16 ≠ i18 := fun e => by subst e; rw [upd_same] at h18; cases h18
      have b18 : β i18 = none := by rw [upd_ne _ _ (Ne.symm m16)] at h18; exact h18
      have m6 : i6 ≠ i18 := fun e => by subst e; rw [k6] at b18; cases b18
      have g16 : β i16 = none := h16
      ((conv => whnf); (repeat ((first | with_reducible refine abr_true rfl ?_ | with_reducible refine abr_false rfl ?_ | with_reducible refine abr_yes rfl ?_ | refine abr_yes (by decide) ?_ | refine abr_no (by decide) ?_ | with_reducible refine abr_same_ne ?_); (conv => whnf))))
      refine astore (xs := [i64v o1, i64v o2, i64v o3, i64v o4]) (l := [i64v o1, i64v o2, i64v o3, i64v o4]) (upd_same _ _ _) (by exact Nat.le_refl 4) rfl rfl ?_
      rw [upd_upd]
      ((conv => whnf); (repeat ((first | with_reducible refine abr_true rfl ?_ | with_reducible refine abr_false rfl ?_ | with_reducible refine abr_yes rfl ?_ | refine abr_yes (by decide) ?_ | refine abr_no (by decide) ?_ | with_reducible refine abr_same_ne ?_); (conv => whnf))))
      have l4 : ∀ l : List Int, l.length = 4 → (List.drop 0 (l.map i64v)).take 4 = l.map i64v := fun l h => by rw [List.drop_zero, List.take_of_length_le (by rw [List.length_map]; omega)]
      have b16 : σ i16 = none := sub_none hs g16
      have b18' : σ i18 = none := sub_none hs b18
      cases hneg : negs ws
      case' false =>
        have hof : ofL ws 4 = [o1, o2, o3, o4] := by rw [← hO]; unfold ofV; rw [hneg]; rfl
        rw [hof]
        have t6 : upd (upd β i16 (.cells ([o1, o2, o3, o4].map i64v))) i18 (.cells [i64v o1, i64v o2, i64v o3, i64v o4]) i6 = some (.cells (rs.map i64v)) := by rw [upd_ne _ _ m6, upd_ne _ _ n6]; exact k6
        have t16 : upd (upd β i16 (.cells ([o1, o2, o3, o4].map i64v))) i18 (.cells [i64v o1, i64v o2, i64v o3, i64v o4]) i16 = some (.cells [i64v o1, i64v o2, i64v o3, i64v o4]) := by rw [upd_ne _ _ m16]; exact upd_same _ _ _
        have t18 : upd (upd β i16 (.cells ([o1, o2, o3, o4].map i64v))) i18 (.cells [i64v o1, i64v o2, i64v o3, i64v o4]) i18 = some (.cells [i64v o1, i64v o2, i64v o3, i64v o4]) := upd_same _ _ _
        have hts : Sub (upd (upd β i16 (.cells ([o1, o2, o3, o4].map i64v))) i18 (.cells [i64v o1, i64v o2, i64v o3, i64v o4])) σ := sub_upd _ (sub_upd _ hs b16) b18'
        generalize upd (upd β i16 (.cells ([o1, o2, o3, o4].map i64v))) i18 (.cells [i64v o1, i64v o2, i64v o3, i64v o4]) = τ at *
        ((conv => whnf); (repeat ((first | with_reducible refine abr_true rfl ?_ | with_reducible refine abr_false rfl ?_ | with_reducible refine abr_yes rfl ?_ | refine abr_yes (by decide) ?_ | refine abr_no (by decide) ?_ | with_reducible refine abr_same_ne ?_); (conv => whnf))))
      case' true =>
        have hof : [o1, o2, o3, o4] = [0, 0, 0, 0] := by rw [← hO]; unfold ofV; rw [hneg]; rfl
        simp only [List.cons.injEq, and_true] at hof
        obtain ⟨rfl, rfl, rfl, rfl⟩ := hof
        ((conv => whnf); (repeat ((first | with_reducible refine abr_true rfl ?_ | with_reducible refine abr_false rfl ?_ | with_reducible refine abr_yes rfl ?_ | refine abr_yes (by decide) ?_ | refine abr_no (by decide) ?_ | with_reducible refine abr_same_ne ?_); (conv => whnf))))
        refine astore (xs := [i64v 0, i64v 0, i64v 0, i64v 0]) (l := [i64v 0, i64v 0, i64v 0, i64v 0]) (by rw [upd_ne _ _ m16]; exact upd_same _ _ _) (by rw [cells4 _ (ofL_length ws 4)]; exact Nat.le_refl 4) rfl (splice_all _ _ (by rw [cells4 _ (ofL_length ws 4)]; rfl)) ?_
        have t6 : upd (upd (upd β i16 (.cells ((ofL ws 4).map i64v))) i18 (.cells [i64v 0, i64v 0, i64v 0, i64v 0])) i16 (.cells [i64v 0, i64v 0, i64v 0, i64v 0]) i6 = some (.cells (rs.map i64v)) := by rw [upd_ne _ _ n6, upd_ne _ _ m6, upd_ne _ _ n6]; exact k6
        have t16 : upd (upd (upd β i16 (.cells ((ofL ws 4).map i64v))) i18 (.cells [i64v 0, i64v 0, i64v 0, i64v 0])) i16 (.cells [i64v 0, i64v 0, i64v 0, i64v 0]) i16 = some (.cells [i64v 0, i64v 0, i64v 0, i64v 0]) := upd_same _ _ _
        have t18 : upd (upd (upd β i16 (.cells ((ofL ws 4).map i64v))) i18 (.cells [i64v 0, i64v 0, i64v 0, i64v 0])) i16 (.cells [i64v 0, i64v 0, i64v 0, i64v 0]) i18 = some (.cells [i64v 0, i64v 0, i64v 0, i64v 0]) := by rw [upd_ne _ _ (Ne.symm m16)]; exact upd_same _ _ _
        have hts : Sub (upd (upd (upd β i16 (.cells ((ofL ws 4).map i64v))) i18 (.cells [i64v 0, i64v 0, i64v 0, i64v 0])) i16 (.cells [i64v 0, i64v 0, i64v 0, i64v 0])) σ := sub_upd _ (sub_upd _ (sub_upd _ hs b16) b18') b16
        generalize upd (upd (upd β i16 (.cells ((ofL ws 4).map i64v))) i18 (.cells [i64v 0, i64v 0, i64v 0, i64v 0])) i16 (.cells [i64v 0, i64v 0, i64v 0, i64v 0]) = τ at *
        ((conv => whnf); (repeat ((first | with_reducible refine abr_true rfl ?_ | with_reducible refine abr_false rfl ?_ | with_reducible refine abr_yes rfl ?_ | refine abr_yes (by decide) ?_ | refine abr_no (by decide) ?_ | with_reducible refine abr_same_ne ?_); (conv => whnf))))
      all_goals
        refine acall (alive38 _) ?_
        rintro _ σ_ ⟨rfl, e_⟩
        obtain rfl := e_.symm
        refine ⟨?_, Ext.refl _⟩
        ((conv => whnf); (repeat ((first | with_reducible refine abr_true rfl ?_ | with_reducible refine abr_false rfl ?_ | with_reducible refine abr_yes rfl ?_ | refine abr_yes (by decide) ?_ | refine abr_no (by decide) ?_ | with_reducible refine abr_same_ne ?_); (conv => whnf))))
        refine aloads (l := rs.map i64v) t6 (by rw [cells4 _ h4]; exact Nat.le_refl 4) (by rw [List.drop_zero, List.take_of_length_le (by rw [List.length_map]; omega)]) ?_
        ((conv => whnf); (repeat ((first | with_reducible refine abr_true rfl ?_ | with_reducible refine abr_false rfl ?_ | with_reducible refine abr_yes rfl ?_ | refine abr_yes (by decide) ?_ | refine abr_no (by decide) ?_ | with_reducible refine abr_same_ne ?_); (conv => whnf))))
        refine aloads (l := rs.map i64v) t6 (by rw [cells4 _ h4]; exact Nat.le_refl 4) (by rw [List.drop_zero, List.take_of_length_le (by rw [List.length_map]; omega)]) ?_
        ((conv => whnf); (repeat ((first | with_reducible refine abr_true rfl ?_ | with_reducible refine abr_false rfl ?_ | with_reducible refine abr_yes rfl ?_ | refine abr_yes (by decide) ?_ | refine abr_no (by decide) ?_ | with_reducible refine abr_same_ne ?_); (conv => whnf))))
        refine acall (bRight rs h4 _) ?_
        rintro _ σ_ ⟨rfl, e_⟩
        obtain rfl := e_.symm
        refine ⟨?_, Ext.refl _⟩
        ((conv => whnf); (repeat ((first | with_reducible refine abr_true rfl ?_ | with_reducible refine abr_false rfl ?_ | with_reducible refine abr_yes rfl ?_ | refine abr_yes (by decide) ?_ | refine abr_no (by decide) ?_ | with_reducible refine abr_same_ne ?_); (conv => whnf))))
        refine acall (refRepRight rs h4 _) ?_
        rintro _ σ_ ⟨rfl, e_⟩
        obtain rfl := e_.symm
        refine ⟨?_, Ext.refl _⟩
        ((conv => whnf); (repeat ((first | with_reducible refine abr_true rfl ?_ | with_reducible refine abr_false rfl ?_ | with_reducible refine abr_yes rfl ?_ | refine abr_yes (by decide) ?_ | refine abr_no (by decide) ?_ | with_reducible refine abr_same_ne ?_); (conv => whnf))))
        refine abr_true (by simp) ?_
        ((conv => whnf); (repeat ((first | with_reducible refine abr_true rfl ?_ | with_reducible refine abr_false rfl ?_ | with_reducible refine abr_yes rfl ?_ | refine abr_yes (by decide) ?_ | refine abr_no (by decide) ?_ | with_reducible refine abr_same_ne ?_); (conv => whnf))))
        refine aloads (l := rs.map i64v) t6 (by rw [cells4 _ h4]; exact Nat.le_refl 4) (by rw [List.drop_zero, List.take_of_length_le (by rw [List.length_map]; omega)]) ?_
        ((conv => whnf); (repeat ((first | with_reducible refine abr_true rfl ?_ | with_reducible refine abr_false rfl ?_ | with_reducible refine abr_yes rfl ?_ | refine abr_yes (by decide) ?_ | refine abr_no (by decide) ?_ | with_reducible refine abr_same_ne ?_); (conv => whnf))))
        refine acall (bSum rs h4 _) ?_
        rintro _ σ_ ⟨rfl, e_⟩
        obtain rfl := e_.symm
        refine ⟨?_, Ext.refl _⟩
        ((conv => whnf); (repeat ((first | with_reducible refine abr_true rfl ?_ | with_reducible refine abr_false rfl ?_ | with_reducible refine abr_yes rfl ?_ | refine abr_yes (by decide) ?_ | refine abr_no (by decide) ?_ | with_reducible refine abr_same_ne ?_); (conv => whnf))))
        try refine abr_true (decide_eq_true (sumV_is rs)) ?_
        ((conv => whnf); (repeat ((first | with_reducible refine abr_true rfl ?_ | with_reducible refine abr_false rfl ?_ | with_reducible refine abr_yes rfl ?_ | refine abr_yes (by decide) ?_ | refine abr_no (by decide) ?_ | with_reducible refine abr_same_ne ?_); (conv => whnf))))
        try refine abr_true rfl ?_
        ((conv => whnf); (repeat ((first | with_reducible refine abr_true rfl ?_ | with_reducible refine abr_false rfl ?_ | with_reducible refine abr_yes rfl ?_ | refine abr_yes (by decide) ?_ | refine abr_no (by decide) ?_ | with_reducible refine abr_same_ne ?_); (conv => whnf))))
        first
          | refine aloads (l := [i64v o1, i64v o2, i64v o3, i64v o4]) t18 (by exact Nat.le_refl 4) rfl ?_
          | refine aloads (l := [i64v 0, i64v 0, i64v 0, i64v 0]) t18 (by exact Nat.le_refl 4) rfl ?_
        ((conv => whnf); (repeat ((first | with_reducible refine abr_true rfl ?_ | with_reducible refine abr_false rfl ?_ | with_reducible refine abr_yes rfl ?_ | refine abr_yes (by decide) ?_ | refine abr_no (by decide) ?_ | with_reducible refine abr_same_ne ?_); (conv => whnf))))
        first
          | refine aloads (l := [i64v o1, i64v o2, i64v o3, i64v o4]) t16 (by exact Nat.le_refl 4) rfl ?_
          | refine aloads (l := [i64v 0, i64v 0, i64v 0, i64v 0]) t16 (by exact Nat.le_refl 4) rfl ?_
        ((conv => whnf); (repeat ((first | with_reducible refine abr_true rfl ?_ | with_reducible refine abr_false rfl ?_ | with_reducible refine abr_yes rfl ?_ | refine abr_yes (by decide) ?_ | refine abr_no (by decide) ?_ | with_reducible refine abr_same_ne ?_); (conv => whnf))))
        exact aret (VLe.refl _) hts ⟨congrArg boolv (by simp), rfl⟩
end Go.Proofs.Ytnfdgccmpglbhaa
/-
  From a start's world to the first abstract state; from a law's contract to what a row asks.
-/
namespace Go.Am
set_option linter.unusedVariables false
set_option linter.unusedSimpArgs false
set_option linter.unusedSectionVars false
open Go.RowKit (Below)
open Go.ChangeShapes Go.WideShapes

def ghost0 (W : World) : Ghost :=
  { base := W.heap.size, w0 := W, cell := fun b o => match W.cell? ⟨b, o, none⟩ with | some v => (bif v.oneCell then some v else none) | none => none, size := fun _ => none, obj := fun _ => none, tok := fun _ => none }
def heap0 : AHeap := fun _ => none

theorem ghost0_cell {W : World} {b o : Nat} {v : Value} : (ghost0 W).cell b o = some v ↔ W.cell? ⟨b, o, none⟩ = some v ∧ v.oneCell = true := by
  unfold ghost0
  simp only
  cases h : W.cell? ⟨b, o, none⟩ with
  | none => simp
  | some u =>
    simp only
    cases h2 : u.oneCell with
    | true =>
      simp only [cond_true, Option.some.injEq]
      constructor
      · rintro rfl; exact ⟨rfl, h2⟩
      · rintro ⟨rfl, _⟩; rfl
    | false =>
      simp only [cond_false, Option.some.injEq]
      constructor
      · intro k; cases k
      · rintro ⟨rfl, k⟩; rw [h2] at k; cases k

theorem inv0 (W : World) : Inv (ghost0 W) heap0 W := by
  refine ⟨Below.refl _ _, Nat.le_refl _, fun b o v e => ghost0_cell.1 e, fun b n e => ?_, fun id b e => ?_, fun i j b hi => ?_, fun id cs e => ?_, fun id es e => ?_, fun t b p e => ?_, ⟨0, fun n _ => ⟨rfl, rfl, rfl⟩⟩⟩
  · cases e
  · cases e
  · exact absurd rfl hi
  · cases e
  · cases e
  · cases e

/-- A law's contract, as a row asks it. -/
theorem law_calls {P : Program} {f : FuncId} {args : List AVal} {cargs : Array Value} {W : World} {Q : AVal → AHeap → Prop} (h : ACalls P f args heap0 Q) (hq : ∀ v σ, Q v σ → v = .v (.bool true)) (hr : RepL (ghost0 W) args cargs.toList) :
    Calls P f cargs W fun e w' => e = .returned (.bool true) ∧ Below W.heap.size W w' := by
  rw [ACalls_def] at h
  have := h (ghost0 W) W cargs.toList (inv0 W) hr
  rw [Array.toArray_toList] at this
  refine this.mono ?_
  rintro e w' ⟨v, κ', σ', x, rfl, h2, h3, h4, h5⟩
  obtain rfl := hq _ _ h5
  obtain ⟨rfl, _⟩ := h4.v_inv
  refine ⟨rfl, ?_⟩
  have := h3.below
  rw [h2.base, h2.w0] at this
  exact this

/-- A slice of bytes among a start's arguments. -/
theorem bytes0 {H : Type} {enc : TypeId × Value → H} {P : Program} {W : World} {r : Reach} {spare : Nat → Bool} {held : Bool} {t e : TypeId} {base b1 : Nat} {v : Value} {d : DataW H} {ps : List MemPlace} {ts : List TypeId} {ds : List (DataW H)} {j : Nat}
    (hsz : (DataW.weightsEach P ts ds).all (· ≤ reachBytes) = true) (ht : ts[j]? = some t) (hd : ds[j]? = some d) (hu : P.underlying t = some (.slice e)) (he : P.underlying e = some (.int .u8)) (hc : P.cellsOf e = 1) (hB : P.bytesOf e = 1)
    (hv : Value.okWide P W r b1 t v) (h : DataW.Trod enc P W base spare held t v d ps) :
    ∃ bs : List UInt8, RepV (ghost0 W) (.slice 1 (bs.map byteV) .none) v ∧ bs.length ≤ 140737488351232 := by
  obtain ⟨a, len, cap, rfl⟩ := okWide_slice hu hv
  obtain ⟨fuel, hf⟩ := h
  rcases open_ints hu he hc hf with ⟨hcs, _⟩ | ⟨x, l, c, zs, hcs, _, hl, _, hz, hx, hcell, hwf⟩
  · simp [Value.cells] at hcs
    obtain ⟨rfl, rfl, rfl⟩ := hcs
    exact ⟨[], .nil, by simp⟩
  · simp [Value.cells] at hcs
    obtain ⟨rfl, rfl, rfl⟩ := hcs
    have hsp : x.spot = none := by
      have := hv
      simp only [Value.okWide, hu, Cell.okWide, Cell.ok] at this
      exact this.2.2.2.1
    obtain ⟨b, off, spot⟩ := x
    simp only at hsp
    subst hsp
    have hl2 : len ≤ zs.length := by rw [hz]; split <;> omega
    have hlen : (zs.take len).length = len := by simp; omega
    have hbyte : ∀ n ∈ zs, ((UInt8.ofNat n.toNat).toNat : Int) = n := by
      intro n hn
      have := hwf n hn
      simp only [Lit.wf, IntKind.min, IntKind.max, IntKind.signed, IntKind.bits] at this
      simp at this
      rw [UInt8.toNat_ofNat']
      omega
    refine ⟨(zs.take len).map fun n => UInt8.ofNat n.toNat, ?_, ?_⟩
    · have hvs : ∀ l : List Int, (∀ n ∈ l, n ∈ zs) → RepL (ghost0 W) (((l.map fun n => UInt8.ofNat n.toNat).map byteV).flatMap AVal.cells) (l.map (Value.int .u8)) := by
        intro l
        induction l with
        | nil => intro _; exact .nil
        | cons n l ih =>
          intro hm
          refine .cons ?_ (ih fun m k => hm m (List.mem_cons_of_mem _ k))
          unfold byteV
          rw [hbyte n (hm n (List.mem_cons_self ..))]
          exact .v rfl
      refine .slice (vs := (zs.take len).map (Value.int .u8)) (by rw [List.length_map, List.length_map]; exact hlen) hl (fun y hy => ?_) (hvs _ fun n hn => List.mem_of_mem_take hn) (fun i v hv => ?_) trivial
      · obtain ⟨n, _, rfl⟩ := List.mem_map.1 hy; rfl
      · rw [List.getElem?_map] at hv
        obtain ⟨n, hn, rfl⟩ := Option.map_eq_some_iff.1 hv
        have hi := (List.getElem?_eq_some_iff.1 hn).1
        have hi2 : i < zs.length := by rw [hlen] at hi; omega
        rw [ghost0_cell]
        refine ⟨?_, rfl⟩
        have := hcell i hi2
        rw [List.getElem?_take] at hn
        split at hn
        · rw [List.getD_eq_getElem?_getD, hn] at this
          simp only [Option.getD_some] at this
          rw [← this]
          congr 1
          unfold Addr.add
          split
          · rename_i h0; subst h0; rfl
          · rfl
        · cases hn
    · rw [List.length_map, hlen]
      obtain ⟨hx, _⟩ := Prod.mk.inj hx
      subst hx
      have z := sized_slice hsz ht hd hu
      rw [hB, Nat.mul_one] at z
      have h1 : (lits (H := H) .u8 (zs.take len)).length + (lits (H := H) .u8 (zs.drop len)).length = zs.length := by
        simp [lits]
        omega
      rw [h1] at z
      exact Nat.le_trans hl2 z
end Go.Am
/-
  What a start's data is read as: slices of anything, structs.
-/
namespace Go.Am
set_option linter.unusedVariables false
set_option linter.unusedSimpArgs false
set_option linter.unusedSectionVars false
open Go.RowKit (Below)
open Go.ChangeShapes Go.WideShapes

section
variable {H : Type} {enc : TypeId × Value → H} {P : Program} {W : World} {base : Nat} {spare : Nat → Bool} {held : Bool}

/-- Data of a type, read as abstract cells. -/
def Reads (enc : TypeId × Value → H) (P : Program) (W : World) (base : Nat) (spare : Nat → Bool) (held : Bool) (t : TypeId) {α : Type} (f : α → List AVal) (good : α → Prop) : Prop :=
  ∀ (n : Nat) (cs : List Value) (y : DataW H × List MemPlace), DataW.trod enc P W base spare held n t cs = some y → (∀ k ∈ y.1.weights P t, k ≤ reachBytes) → ∃ a, RepL (ghost0 W) (f a) cs ∧ (∀ v ∈ cs, v.oneCell = true) ∧ good a

theorem reads_int {t : TypeId} {k : IntKind} (ht : P.underlying t = some (.int k)) : Reads enc P W base spare held t (fun n : Int => [.v (.int k n)]) (fun n => (Lit.int k n).wf = true) := by
  intro n cs y h _
  obtain ⟨m, rfl, rfl, hw⟩ := DataW.trod_int ht h
  exact ⟨m, .cons (.v rfl) .nil, fun v hv => by simp at hv; subst hv; rfl, hw⟩
theorem weights_int {t : TypeId} {k : IntKind} (ht : P.underlying t = some (.int k)) {n : Nat} {cs : List Value} {y : DataW H × List MemPlace} (h : DataW.trod enc P W base spare held n t cs = some y) : y.1.weights P t = [] := by
  cases n with
  | zero => simp [DataW.trod] at h
  | succ n =>
    unfold DataW.trod at h
    rw [ht] at h
    split at h <;> simp_all
    obtain ⟨_, rfl⟩ := h
    simp [DataW.weights]
theorem reads_i64 {t : TypeId} (ht : P.underlying t = some (.int .i64)) : Reads enc P W base spare held t (fun n : Int => [.v (.int .i64 n)]) (fun n => -9223372036854775808 ≤ n ∧ n ≤ 9223372036854775807) := by
  intro n cs y h hw
  obtain ⟨m, h1, h2, h3⟩ := reads_int ht n cs y h hw
  refine ⟨m, h1, h2, ?_⟩
  simp only [Lit.wf, IntKind.min, IntKind.max, IntKind.signed, IntKind.bits] at h3
  simp at h3
  omega
theorem reads_u64 {t : TypeId} (ht : P.underlying t = some (.int .u64)) : Reads enc P W base spare held t (fun n : Nat => [.v (.int .u64 n)]) (fun n => n < 18446744073709551616) := by
  intro n cs y h hw
  obtain ⟨m, h1, h2, h3⟩ := reads_int ht n cs y h hw
  simp only [Lit.wf, IntKind.min, IntKind.max, IntKind.signed, IntKind.bits] at h3
  simp at h3
  refine ⟨m.toNat, ?_, h2, by omega⟩
  dsimp only
  rw [show ((m.toNat : Nat) : Int) = m by omega]; exact h1
theorem reads_u16 {t : TypeId} (ht : P.underlying t = some (.int .u16)) : Reads enc P W base spare held t (fun n : Nat => [.v (.int .u16 n)]) (fun n => n < 65536) := by
  intro n cs y h hw
  obtain ⟨m, h1, h2, h3⟩ := reads_int ht n cs y h hw
  simp only [Lit.wf, IntKind.min, IntKind.max, IntKind.signed, IntKind.bits] at h3
  simp at h3
  refine ⟨m.toNat, ?_, h2, by omega⟩
  dsimp only
  rw [show ((m.toNat : Nat) : Int) = m by omega]; exact h1
theorem reads_u8 {t : TypeId} (ht : P.underlying t = some (.int .u8)) : Reads enc P W base spare held t (fun b : UInt8 => [byteV b]) (fun _ => True) := by
  intro n cs y h hw
  obtain ⟨m, h1, h2, h3⟩ := reads_int ht n cs y h hw
  simp only [Lit.wf, IntKind.min, IntKind.max, IntKind.signed, IntKind.bits] at h3
  simp at h3
  refine ⟨UInt8.ofNat m.toNat, ?_, h2, trivial⟩
  dsimp only [byteV]
  rw [show ((UInt8.ofNat m.toNat).toNat : Int) = m by rw [UInt8.toNat_ofNat']; omega]; exact h1

theorem addr_eq {b off i : Nat} : (⟨b, off, none⟩ : Addr).add i = ⟨b, off + i, none⟩ := by
  unfold Addr.add
  split
  · rename_i h; subst h; rfl
  · rfl

theorem weights_all {H : Type} {P : Program} {e : TypeId} : ∀ {l : List (DataW H)} {d : DataW H}, d ∈ l → ∀ n ∈ d.weights P e, n ∈ DataW.weightsAll P e l
  | a :: l, d, hd, n, hn => by
    unfold DataW.weightsAll
    rcases List.mem_cons.1 hd with rfl | h
    · exact List.mem_append_left _ hn
    · exact List.mem_append_right _ (weights_all h n hn)
/-- The elements of a slice. -/
theorem reads_elems {e : TypeId} {α : Type} {f : α → List AVal} {good : α → Prop} {s b off : Nat} (hc : P.cellsOf e = s) (re : Reads enc P W base spare held e f good) {n : Nat} {elems : List (DataW H × List MemPlace)} (hwt : ∀ x ∈ elems, ∀ k ∈ x.1.weights P e, k ≤ reachBytes) :
    ∀ (m : Nat), m ≤ elems.length → (∀ i, i < elems.length → (W.cells? base ((⟨b, off, none⟩ : Addr).add (i * P.cellsOf e)) (P.cellsOf e)).bind (DataW.trod enc P W base spare held n e) = elems[i]?) →
      ∃ (l : List α) (vs : List Value), l.length = m ∧ vs.length = m * s ∧ RepL (ghost0 W) (l.flatMap f) vs ∧ (∀ i v, vs[i]? = some v → W.cell? ⟨b, off + i, none⟩ = some v ∧ v.oneCell = true) ∧ ∀ a ∈ l, good a
  | 0, _, _ => ⟨[], [], rfl, by simp, .nil, fun i v h => by simp at h, fun a h => by simp at h⟩
  | m + 1, hm, h => by
    obtain ⟨l, vs, h1, h2, h3, h4, h5⟩ := reads_elems hc re hwt m (by omega) h
    have hb := h m (by omega)
    rw [List.getElem?_eq_getElem (by omega), Option.bind_eq_some_iff] at hb
    obtain ⟨cs, g1, g2⟩ := hb
    obtain ⟨a, r, c, k⟩ := re _ _ _ g2 (hwt _ (List.getElem_mem _))
    obtain ⟨_, q1, q2⟩ := World.cells?_some g1
    rw [hc] at q1 q2
    refine ⟨l ++ [a], vs ++ cs, by simp [h1], by rw [List.length_append, h2, q1, Nat.succ_mul], ?_, ?_, ?_⟩
    · rw [List.flatMap_append, List.flatMap_cons, List.flatMap_nil, List.append_nil]; exact h3.append r
    · intro i v hv
      by_cases hi : i < vs.length
      · rw [List.getElem?_append_left hi] at hv; exact h4 i v hv
      · rw [List.getElem?_append_right (by omega)] at hv
        have hlt := (List.getElem?_eq_some_iff.1 hv).1
        have := q2 (i - vs.length) (by omega)
        rw [addr_eq, addr_eq, hv] at this
        rw [show off + m * s + (i - vs.length) = off + i by rw [h2]; rw [h2] at hi; omega] at this
        exact ⟨this, c v (List.mem_of_getElem? hv)⟩
    · intro x hx
      rcases List.mem_append.1 hx with h | h
      · exact h5 x h
      · simp at h; subst h; exact k

/-- A slice among a start's arguments. -/
theorem slices0 {t e : TypeId} {α : Type} {f : α → AVal} {good : α → Prop} {s B b1 j : Nat} {r : Reach} {v : Value} {d : DataW H} {ps : List MemPlace} {ts : List TypeId} {ds : List (DataW H)}
    (hsz : (DataW.weightsEach P ts ds).all (· ≤ reachBytes) = true) (ht : ts[j]? = some t) (hd : ds[j]? = some d) (hu : P.underlying t = some (.slice e)) (hc : P.cellsOf e = s) (hB : P.bytesOf e = B) (hs : ∀ a, (f a).cells.length = s)
    (re : Reads enc P W base spare held e (fun a => (f a).cells) good) (hv : Value.okWide P W r b1 t v) (h : DataW.Trod enc P W base spare held t v d ps) :
    ∃ l : List α, RepV (ghost0 W) (.slice s (l.map f) .none) v ∧ l.length * B ≤ reachBytes ∧ ∀ a ∈ l, good a := by
  obtain ⟨a, len, cap, rfl⟩ := okWide_slice hu hv
  obtain ⟨fuel, hf⟩ := h
  rcases DataW.trod_slice hu hf with ⟨hcs, _⟩ | ⟨x, l, c, elems, rest, n, _, hcs, hx, _, hl, hm, hlen, hel, _, _⟩
  · simp [Value.cells] at hcs
    obtain ⟨rfl, rfl, rfl⟩ := hcs
    exact ⟨[], .nil, by simp, fun a h => by simp at h⟩
  · simp [Value.cells] at hcs
    obtain ⟨rfl, rfl, rfl⟩ := hcs
    have hsp : x.spot = none := by
      have := hv
      simp only [Value.okWide, hu, Cell.okWide, Cell.ok] at this
      exact this.2.2.2.1
    obtain ⟨b, off, spot⟩ := x
    simp only at hsp
    subst hsp
    subst hlen
    obtain ⟨hx, _⟩ := Prod.mk.inj hx
    have hwt : ∀ y ∈ elems, ∀ k ∈ y.1.weights P e, k ≤ reachBytes := fun y hy k hk => by
      have := List.all_eq_true.1 hsz _ (DataW.weights_mem_each ht hd k (by rw [hx]; simp only [DataW.weights, hu]; exact List.mem_cons_of_mem _ (List.mem_append_left _ (weights_all (List.mem_map.2 ⟨y, hy, rfl⟩) k hk))))
      simpa using this
    obtain ⟨xs, vs, g1, g2, g3, g4, g5⟩ := reads_elems hc re hwt elems.length (Nat.le_refl _) hel
    refine ⟨xs, ?_, ?_, g5⟩
    · refine .slice (vs := vs) (by rw [List.length_map]; exact g1) hl (fun y hy => ?_) ?_ (fun i v hv => ?_) trivial
      · obtain ⟨a, _, rfl⟩ := List.mem_map.1 hy; exact hs a
      · rw [List.flatMap_map]; exact g3
      · rw [ghost0_cell]; exact g4 i v hv
    · subst hx
      have z := sized_slice hsz ht hd hu
      rw [hB, List.length_map, List.length_map] at z
      rw [g1]
      exact Nat.le_trans (Nat.mul_le_mul_right _ (by omega)) z

theorem reads_bool {t : TypeId} (ht : P.underlying t = some .bool) : Reads enc P W base spare held t (fun b : Bool => [.v (.bool b)]) (fun _ => True) := by
  intro n cs y h _
  have : ∃ b, cs = [.bool b] := by
    cases n with
    | zero => simp [DataW.trod] at h
    | succ n =>
      unfold DataW.trod at h
      rw [ht] at h
      split at h <;> simp_all
  obtain ⟨b, rfl⟩ := this
  exact ⟨b, .cons (.v rfl) .nil, fun v hv => by simp at hv; subst hv; rfl, trivial⟩

theorem spot_none {b : Addr} {e : TypeId} {s n : Nat} {y : DataW H × List MemPlace} (hs : P.cellsOf e = s) (h0 : 0 < s) (h : (W.cells? base (b.add 0) (P.cellsOf e)).bind (DataW.trod enc P W base spare held n e) = some y) : b.spot = none := by
  rw [Option.bind_eq_some_iff] at h
  obtain ⟨cs, g1, _⟩ := h
  obtain ⟨_, q1, q2⟩ := World.cells?_some g1
  have := q2 0 (by omega)
  rw [List.getElem?_eq_getElem (by omega)] at this
  have e : ((b.add 0).add 0) = b := rfl
  rw [e] at this
  unfold World.cell? at this
  split at this
  · split at this
    · cases this
    · rename_i hsp; simpa using hsp
  · cases this

/-- A slice that stands in a cell. -/
theorem reads_slice {t e : TypeId} {α : Type} {f : α → AVal} {good : α → Prop} {s B : Nat} (hsp : ∀ b, spare b = true) (hu : P.underlying t = some (.slice e)) (hc : P.cellsOf e = s) (hB : P.bytesOf e = B) (h0 : 0 < s) (hs : ∀ a, (f a).cells.length = s)
    (re : Reads enc P W base spare held e (fun a => (f a).cells) good) : Reads enc P W base spare held t (fun l : List α => [.slice s (l.map f) .none]) (fun l => l.length * B ≤ reachBytes ∧ ∀ a ∈ l, good a) := by
  intro m cs y h hw
  rcases DataW.trod_slice hu h with ⟨rfl, _⟩ | ⟨x, len, cap, elems, rest, n, _, rfl, hx, _, hl, hm, hlen, hel, hre, _⟩
  · exact ⟨[], .cons .nil .nil, fun v hv => by simp at hv; subst hv; rfl, by simp, fun a h => by simp at h⟩
  · by_cases hcap : cap = 0
    · have : len = 0 := by omega
      subst this; subst hcap
      exact ⟨[], .cons .nil .nil, fun v hv => by simp at hv; subst hv; rfl, by simp, fun a h => by simp at h⟩
    · have hspot : x.spot = none := by
        by_cases h1 : len = 0
        · obtain ⟨r1, r2⟩ := hre (hsp _)
          have := r2 0 (by omega)
          rw [h1, Nat.zero_add, Nat.zero_mul, List.getElem?_eq_getElem (by omega)] at this
          exact spot_none hc h0 this
        · have := hel 0 (by omega)
          rw [Nat.zero_mul, List.getElem?_eq_getElem (by omega)] at this
          exact spot_none hc h0 this
      obtain ⟨b, off, spot⟩ := x
      simp only at hspot
      subst hspot
      subst hlen
      have hwt : ∀ y ∈ elems, ∀ k ∈ y.1.weights P e, k ≤ reachBytes := fun y hy k hk => by
        refine hw k ?_
        rw [hx]; simp only [DataW.weights, hu]
        exact List.mem_cons_of_mem _ (List.mem_append_left _ (weights_all (List.mem_map.2 ⟨y, hy, rfl⟩) k hk))
      have hz : (elems.length + rest.length) * P.bytesOf e ≤ reachBytes := by
        refine hw _ ?_
        rw [hx]; simp only [DataW.weights, hu, List.length_map]
        exact List.mem_cons_self ..
      obtain ⟨xs, vs, g1, g2, g3, g4, g5⟩ := reads_elems hc re hwt elems.length (Nat.le_refl _) hel
      refine ⟨xs, .cons ?_ .nil, fun v hv => by simp at hv; subst hv; rfl, by rw [g1, ← hB]; exact Nat.le_trans (Nat.mul_le_mul_right _ (by omega)) hz, g5⟩
      refine .slice (vs := vs) (by rw [List.length_map]; exact g1) hl (fun y hy => ?_) ?_ (fun i v hv => ?_) trivial
      · obtain ⟨a, _, rfl⟩ := List.mem_map.1 hy; exact hs a
      · rw [List.flatMap_map]; exact g3
      · rw [ghost0_cell]; exact g4 i v hv

/-- An array of numbers. -/
theorem reads_array_i64 {t e : TypeId} {n : Nat} (ht : P.underlying t = some (.array n e)) (he : P.underlying e = some (.int .i64)) (hc : P.cellsOf e = 1) (hs : P.cellsOf t = n) :
    Reads enc P W base spare held t (fun l : List Int => l.map fun z => .v (.int .i64 z)) (fun l => l.length = n ∧ ∀ z ∈ l, -9223372036854775808 ≤ z ∧ z ≤ 9223372036854775807) := by
  intro fuel cs y h _
  obtain ⟨xs, m, _, _, hl, hlen, hx⟩ := DataW.trod_array ht h
  rw [hs] at hl
  have key : ∀ k, k ≤ n → ∃ l : List Int, l.length = k ∧ RepL (ghost0 W) (l.map fun z => .v (.int .i64 z)) (cs.take k) ∧ (∀ v ∈ cs.take k, v.oneCell = true) ∧ ∀ z ∈ l, -9223372036854775808 ≤ z ∧ z ≤ 9223372036854775807 := by
    intro k
    induction k with
    | zero => intro _; exact ⟨[], rfl, .nil, by simp, by simp⟩
    | succ k ih =>
      intro hk
      obtain ⟨l, h1, h2, h3, h4⟩ := ih (by omega)
      have hy := hx k (by omega)
      rw [List.getElem?_eq_getElem (by omega), hc, Nat.mul_one] at hy
      obtain ⟨z, r, c, g⟩ := reads_i64 he _ _ _ hy (fun k hk => by rw [weights_int he hy] at hk; cases hk)
      have e : cs.take (k + 1) = cs.take k ++ (cs.drop k).take 1 := List.take_add
      refine ⟨l ++ [z], by simp [h1], ?_, ?_, ?_⟩
      · rw [e, List.map_append]; exact h2.append r
      · intro v hv
        rw [e] at hv
        rcases List.mem_append.1 hv with h | h
        · exact h3 v h
        · exact c v h
      · intro u hu
        rcases List.mem_append.1 hu with h | h
        · exact h4 u h
        · simp at h; subst h; exact g
  obtain ⟨l, h1, h2, h3, h4⟩ := key n (Nat.le_refl _)
  rw [List.take_of_length_le (by omega)] at h2 h3
  exact ⟨l, h2, h3, h1, h4⟩
/-- An array, or a struct, among a start's arguments. -/
theorem aggs0 {t : TypeId} {α : Type} {f : α → List AVal} {good : α → Prop} {b1 j : Nat} {r : Reach} {v : Value} {d : DataW H} {ps : List MemPlace} {ts : List TypeId} {ds : List (DataW H)}
    (hsz : (DataW.weightsEach P ts ds).all (· ≤ reachBytes) = true) (ht : ts[j]? = some t) (hd : ds[j]? = some d) (hu : (∃ n e, P.underlying t = some (.array n e)) ∨ ∃ fs, P.underlying t = some (.struct fs))
    (re : Reads enc P W base spare held t f good) (hv : Value.okWide P W r b1 t v) (h : DataW.Trod enc P W base spare held t v d ps) : ∃ a, RepV (ghost0 W) (.agg (f a)) v ∧ good a := by
  have : ∃ cs, v = .agg cs := by
    rcases hu with ⟨n, e, hu⟩ | ⟨fs, hu⟩ <;> simp only [Value.okWide, hu] at hv <;> obtain ⟨cs, rfl, _⟩ := hv <;> exact ⟨cs, rfl⟩
  obtain ⟨cs, rfl⟩ := this
  obtain ⟨fuel, hf⟩ := h
  obtain ⟨a, h1, _, h3⟩ := re _ _ _ hf (fun k hk => by simpa using List.all_eq_true.1 hsz _ (DataW.weights_mem_each ht hd k hk))
  refine ⟨a, ?_, h3⟩
  have := RepV.agg h1
  simpa [Value.cells] using this
/-- The fields of a struct, from a place on. -/
def ReadsFs (enc : TypeId × Value → H) (P : Program) (W : World) (base : Nat) (spare : Nat → Bool) (held : Bool) (L : Nat) (fs : List Field) (off : Nat) {α : Type} (f : α → List AVal) (good : α → Prop) : Prop :=
  ∀ (n : Nat) (cs : List Value) (xs : List (DataW H × List MemPlace)), cs.length = L → xs.length = fs.length → (∀ (i : Nat) (fd : Field), fs[i]? = some fd → DataW.trod enc P W base spare held n fd.type ((cs.drop fd.offset).take (P.cellsOf fd.type)) = xs[i]?) →
    (∀ (i : Nat) (fd : Field) x, fs[i]? = some fd → xs[i]? = some x → ∀ k ∈ x.1.weights P fd.type, k ≤ reachBytes) → ∃ a, RepL (ghost0 W) (f a) (cs.drop off) ∧ (∀ v ∈ cs.drop off, v.oneCell = true) ∧ good a
theorem readsFs_last {L off : Nat} {fd : Field} {α : Type} {f : α → List AVal} {good : α → Prop} (h0 : fd.offset = off) (h1 : L = off + P.cellsOf fd.type) (r : Reads enc P W base spare held fd.type f good) : ReadsFs enc P W base spare held L [fd] off f good := by
  intro n cs xs hl hx h hw
  match xs, hx with
  | [y], _ =>
  have g := h 0 fd rfl
  rw [h0, List.take_of_length_le (by rw [List.length_drop]; omega)] at g
  exact r n _ y (by simpa using g) (hw 0 fd y rfl rfl)
theorem readsFs_cons {L off off2 : Nat} {fd : Field} {fs : List Field} {α β : Type} {f : α → List AVal} {g : β → List AVal} {ga : α → Prop} {gb : β → Prop} (h0 : fd.offset = off) (h1 : off2 = off + P.cellsOf fd.type)
    (r : Reads enc P W base spare held fd.type f ga) (rs : ReadsFs enc P W base spare held L fs off2 g gb) : ReadsFs enc P W base spare held L (fd :: fs) off (fun p : α × β => f p.1 ++ g p.2) (fun p => ga p.1 ∧ gb p.2) := by
  intro n cs xs hl hx h hw
  match xs, hx with
  | y :: ys, hx =>
  have k := h 0 fd rfl
  rw [h0] at k
  obtain ⟨a, r1, c1, g1⟩ := r n _ y (by simpa using k) (hw 0 fd y rfl rfl)
  obtain ⟨b, r2, c2, g2⟩ := rs n cs ys hl (by simpa using hx) (fun i e he => by simpa using h (i + 1) e he) (fun i e x he hx => hw (i + 1) e x (by simpa using he) (by simpa using hx))
  have e : cs.drop off = (cs.drop off).take (P.cellsOf fd.type) ++ cs.drop off2 := by
    rw [h1, ← List.drop_drop, List.take_append_drop]
  refine ⟨(a, b), ?_, ?_, g1, g2⟩
  · rw [e]; exact r1.append r2
  · intro v hv
    rw [e] at hv
    rcases List.mem_append.1 hv with h | h
    · exact c1 v h
    · exact c2 v h
theorem reads_struct {t : TypeId} {fs : Array Field} {L : Nat} {α : Type} {f : α → List AVal} {good : α → Prop} (ht : P.underlying t = some (.struct fs)) (hl : P.cellsOf t = L) (r : ReadsFs enc P W base spare held L fs.toList 0 f good) : Reads enc P W base spare held t f good := by
  intro n cs y h hw
  obtain ⟨xs, m, _, rfl, hc, hlen, hf⟩ := DataW.trod_struct ht h
  obtain ⟨a, h1, h2, h3⟩ := r m cs xs (by omega) (by simpa using hlen) (fun i fd hfd => hf i fd (by simpa using hfd)) (fun i fd x hfd hx k hk => by
    refine hw k ?_
    simp only [DataW.weights, ht]
    exact DataW.weights_mem_each (j := i) (t := fd.type) (d := x.1) (by rw [List.getElem?_map, hfd]; rfl) (by rw [List.getElem?_map, hx]; rfl) k hk)
  exact ⟨a, h1, h2, h3⟩
end
end Go.Am
