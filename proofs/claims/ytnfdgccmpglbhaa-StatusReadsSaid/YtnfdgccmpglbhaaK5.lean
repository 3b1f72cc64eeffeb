/-
  Texts of this claim, pack 5: Cbitsd, Cown, Cgrow, Cstatb, Crefst, Ctok2, Csames, Cas.
-/
import Derived.Test.YtnfdgccmpglbhaaK2
import Derived.Test.YtnfdgccmpglbhaaK3
import Derived.Test.YtnfdgccmpglbhaaK4
/-
  What a reader does.
-/
namespace Go.Proofs.Ytnfdgccmpglbhaa
set_option linter.unusedVariables false
set_option linter.unusedSimpArgs false
open Go Go.Am

/-- A reader at an object, with its bytes and its place; the heap without it. -/
def Rd (σ : AHeap) (id : Nat) (b : List UInt8) (k : Nat) (σb : AHeap) : Prop :=
  σb id = none ∧ k ≤ 8 * b.length ∧ b.length ≤ 8192 ∧ ∃ tk, σ = upd σb id (.cells [sl tk b, i64v k])

theorem rRead (b : List UInt8) (t : Tok) (σ : AHeap) (hl : b.length ≤ 140737488355328) : ACalls Try.prog i_bits_Read [sl t b] σ fun v σ' => ∃ id, v = .ptr id 0 ∧ Rd σ' id (b.take 8192) 0 σ := by
  refine k_bits_Read rfl ?_
  ((conv => whnf); (repeat ((first | with_reducible refine abr_true rfl ?_ | with_reducible refine abr_false rfl ?_ | with_reducible refine abr_yes rfl ?_ | refine abr_yes (by decide) ?_ | refine abr_no (by decide) ?_ | with_reducible refine abr_same_ne ?_); (conv => whnf))))
  try rw [List.length_map]
  (repeat ((first | refine aload (by (repeat (first | with_reducible exact upd_same _ _ _ | assumption | rw [upd_ne _ _ (by first | assumption | (apply Ne.symm; assumption))]))) rfl ?_ | refine afit_i64 (by omega) ?_ | refine arem_nonneg (by omega) (by omega) ?_ | refine adiv_i64 (by omega) (by omega) ?_ | refine abr_yes (by omega) ?_ | refine abr_no (by omega) ?_ | refine amin ?_ | refine amax ?_ | refine afit_u64 (by omega) ?_ | refine afit_u8 (by omega) ?_ | rw [List.length_map]); ((conv => whnf); (repeat ((first | with_reducible refine abr_true rfl ?_ | with_reducible refine abr_false rfl ?_ | with_reducible refine abr_yes rfl ?_ | refine abr_yes (by decide) ?_ | refine abr_no (by decide) ?_ | with_reducible refine abr_same_ne ?_); (conv => whnf))))))
  refine acut (by omega) (by omega) (by omega) ?_
  ((conv => whnf); (repeat ((first | with_reducible refine abr_true rfl ?_ | with_reducible refine abr_false rfl ?_ | with_reducible refine abr_yes rfl ?_ | refine abr_yes (by decide) ?_ | refine abr_no (by decide) ?_ | with_reducible refine abr_same_ne ?_); (conv => whnf))))
  refine ⟨rfl, rfl, ?_⟩
  ((conv => whnf); (repeat ((first | with_reducible refine abr_true rfl ?_ | with_reducible refine abr_false rfl ?_ | with_reducible refine abr_yes rfl ?_ | refine abr_yes (by decide) ?_ | refine abr_no (by decide) ?_ | with_reducible refine abr_same_ne ?_); (conv => whnf))))
  rw [show (min (b.length : Int) 8192).toNat = min b.length 8192 by omega, ← List.map_take]
  have e : b.take (min b.length 8192) = b.take 8192 := by
    by_cases h : b.length ≤ 8192
    · rw [Nat.min_eq_left h, List.take_of_length_le (Nat.le_refl _), List.take_of_length_le h]
    · rw [Nat.min_eq_right (by omega)]
  rw [e]
  refine acall (Clone (b.take 8192) _ _ (by rw [List.length_take]; omega)) ?_
  rintro v σ' ⟨tk, ho, rfl⟩
  refine ⟨?_, ho.ext⟩
  ((conv => whnf); (repeat ((first | with_reducible refine abr_true rfl ?_ | with_reducible refine abr_false rfl ?_ | with_reducible refine abr_yes rfl ?_ | refine abr_yes (by decide) ?_ | refine abr_no (by decide) ?_ | with_reducible refine abr_same_ne ?_); (conv => whnf))))
  refine anew rfl fun id hid => ?_
  ((conv => whnf); (repeat ((first | with_reducible refine abr_true rfl ?_ | with_reducible refine abr_false rfl ?_ | with_reducible refine abr_yes rfl ?_ | refine abr_yes (by decide) ?_ | refine abr_no (by decide) ?_ | with_reducible refine abr_same_ne ?_); (conv => whnf))))
  have hσ : σ id = none := by
    rcases ho with ⟨_, rfl⟩ | ⟨t', h0, _, rfl⟩
    · exact hid
    · by_cases e : id = t'
      · subst e; rw [upd_same] at hid; cases hid
      · rw [upd_ne _ _ e] at hid; exact hid
  refine aret (VLe.refl _) (σ' := upd σ id (.cells [sl tk (b.take 8192), i64v 0])) ?_ ⟨id, rfl, hσ, by omega, by rw [List.length_take]; omega, tk, rfl⟩
  exact Sub.upd ho.sub id _

theorem rLeft (id : Nat) (b : List UInt8) (k : Nat) (σ σb : AHeap) (h : Rd σ id b k σb) : ACalls Try.prog i_bits_Reader_Left [.ptr id 0] σ fun v σ' => v = i64v ((8 * b.length - k : Nat) : Int) ∧ σ' = σ := by
  refine k_bits_Reader_Left rfl ?_
  obtain ⟨hid, hk, hb, tk, rfl⟩ := h
  ((conv => whnf); (repeat ((first | with_reducible refine abr_true rfl ?_ | with_reducible refine abr_false rfl ?_ | with_reducible refine abr_yes rfl ?_ | refine abr_yes (by decide) ?_ | refine abr_no (by decide) ?_ | with_reducible refine abr_same_ne ?_); (conv => whnf))))
  (repeat ((first | refine aload (by (repeat (first | with_reducible exact upd_same _ _ _ | assumption | rw [upd_ne _ _ (by first | assumption | (apply Ne.symm; assumption))]))) rfl ?_ | refine afit_i64 (by omega) ?_ | refine arem_nonneg (by omega) (by omega) ?_ | refine adiv_i64 (by omega) (by omega) ?_ | refine abr_yes (by omega) ?_ | refine abr_no (by omega) ?_ | refine amin ?_ | refine amax ?_ | refine afit_u64 (by omega) ?_ | refine afit_u8 (by omega) ?_ | rw [List.length_map]); ((conv => whnf); (repeat ((first | with_reducible refine abr_true rfl ?_ | with_reducible refine abr_false rfl ?_ | with_reducible refine abr_yes rfl ?_ | refine abr_yes (by decide) ?_ | refine abr_no (by decide) ?_ | with_reducible refine abr_same_ne ?_); (conv => whnf))))))
  try rw [List.length_map]
  (repeat ((first | refine aload (by (repeat (first | with_reducible exact upd_same _ _ _ | assumption | rw [upd_ne _ _ (by first | assumption | (apply Ne.symm; assumption))]))) rfl ?_ | refine afit_i64 (by omega) ?_ | refine arem_nonneg (by omega) (by omega) ?_ | refine adiv_i64 (by omega) (by omega) ?_ | refine abr_yes (by omega) ?_ | refine abr_no (by omega) ?_ | refine amin ?_ | refine amax ?_ | refine afit_u64 (by omega) ?_ | refine afit_u8 (by omega) ?_ | rw [List.length_map]); ((conv => whnf); (repeat ((first | with_reducible refine abr_true rfl ?_ | with_reducible refine abr_false rfl ?_ | with_reducible refine abr_yes rfl ?_ | refine abr_yes (by decide) ?_ | refine abr_no (by decide) ?_ | with_reducible refine abr_same_ne ?_); (conv => whnf))))))
  refine aret_same ⟨?_, rfl⟩
  rw [show ((8 * b.length - k : Nat) : Int) = (b.length : Int) * 8 - k by omega]
theorem rLeftNil (σ : AHeap) : ACalls Try.prog i_bits_Reader_Left [.v (.pointer none)] σ fun v σ' => v = i64v 0 ∧ σ' = σ := by
  refine k_bits_Reader_Left rfl ?_
  ((conv => whnf); (repeat ((first | with_reducible refine abr_true rfl ?_ | with_reducible refine abr_false rfl ?_ | with_reducible refine abr_yes rfl ?_ | refine abr_yes (by decide) ?_ | refine abr_no (by decide) ?_ | with_reducible refine abr_same_ne ?_); (conv => whnf))))
  exact aret_same ⟨rfl, rfl⟩

theorem rGetNil (n : Int) (σ : AHeap) : ACalls Try.prog i_bits_Reader_Get [.v (.pointer none), i64v n] σ fun x σ' => x = .tup [u64v 0, i64v 6] ∧ σ' = σ := by
  refine k_bits_Reader_Get rfl ?_
  ((conv => whnf); (repeat ((first | with_reducible refine abr_true rfl ?_ | with_reducible refine abr_false rfl ?_ | with_reducible refine abr_yes rfl ?_ | refine abr_yes (by decide) ?_ | refine abr_no (by decide) ?_ | with_reducible refine abr_same_ne ?_); (conv => whnf))))
  refine ascope' (α := Unit) (fun _ => []) (fun _ => σ) (fun _ => 0) (fun _ => False) (fun _ => 0) ?_ (fun _ h => h.elim)
  ((conv => whnf); (repeat ((first | with_reducible refine abr_true rfl ?_ | with_reducible refine abr_false rfl ?_ | with_reducible refine abr_yes rfl ?_ | refine abr_yes (by decide) ?_ | refine abr_no (by decide) ?_ | with_reducible refine abr_same_ne ?_); (conv => whnf))))
  intro hlab
  ((conv => whnf); (repeat ((first | with_reducible refine abr_true rfl ?_ | with_reducible refine abr_false rfl ?_ | with_reducible refine abr_yes rfl ?_ | refine abr_yes (by decide) ?_ | refine abr_no (by decide) ?_ | with_reducible refine abr_same_ne ?_); (conv => whnf))))
  exact aret_same ⟨rfl, rfl⟩

theorem and1_u8 (x : Nat) (hx : x < 256) : bitsOp .and .u8 (x : Int) 1 = ((x % 2 : Nat) : Int) := by
  have h1 : BitVec.ofInt 8 (x : Int) = BitVec.ofNat 8 x := by simp
  show IntKind.u8.wrap ((BitVec.ofInt 8 (x : Int) &&& BitVec.ofInt 8 1).toNat) = _
  rw [h1]
  have : (BitVec.ofNat 8 x &&& BitVec.ofInt 8 1).toNat = x % 2 := by
    rw [BitVec.toNat_and, BitVec.toNat_ofNat, Nat.mod_eq_of_lt hx]
    exact Nat.and_one_is_mod x
  rw [this]; exact wrap_u8 (by omega) (by omega)
theorem or1_u64 (x : Nat) (b : Bool) (hx : 2 * x < 18446744073709551616) : bitsOp .or .u64 ((2 * x : Nat) : Int) ((b.toNat : Nat) : Int) = ((2 * x + b.toNat : Nat) : Int) := by
  have h1 : ∀ y : Nat, BitVec.ofInt 64 (y : Int) = BitVec.ofNat 64 y := by intro y; simp
  show IntKind.u64.wrap ((BitVec.ofInt 64 ((2 * x : Nat) : Int) ||| BitVec.ofInt 64 ((b.toNat : Nat) : Int)).toNat) = _
  rw [h1, h1]
  have hb : b.toNat ≤ 1 := by cases b <;> decide
  have : (BitVec.ofNat 64 (2 * x) ||| BitVec.ofNat 64 b.toNat).toNat = 2 * x + b.toNat := by
    rw [BitVec.toNat_or, BitVec.toNat_ofNat, BitVec.toNat_ofNat, Nat.mod_eq_of_lt hx, Nat.mod_eq_of_lt (by omega)]
    have e := Nat.two_pow_add_eq_or_of_lt (i := 1) (b := b.toNat) (by omega) x
    rw [Nat.pow_one] at e
    exact e.symm
  rw [this]; exact wrap_u64 (by omega) (by omega)
theorem shl1_u64 (x : Nat) (hx : 2 * x < 18446744073709551616) : IntKind.u64.wrap ((x : Int) * 2 ^ (min (1 : Int).toNat IntKind.u64.bits)) = ((2 * x : Nat) : Int) := by
  have e : (x : Int) * 2 ^ (min (1 : Int).toNat IntKind.u64.bits) = ((2 * x : Nat) : Int) := by
    show (x : Int) * 2 ^ 1 = _
    omega
  rw [e]; exact wrap_u64 (by omega) (by omega)
theorem take_snoc {α : Type} {l : List α} {i : Nat} {x : α} (h : l[i]? = some x) : l.take (i + 1) = l.take i ++ [x] := by rw [List.take_add_one, h]; rfl

set_option maxRecDepth 10000 in
theorem rGet (id : Nat) (b : List UInt8) (k : Nat) (n : Int) (σ σb : AHeap) (h : Rd σ id b k σb) :
    ACalls Try.prog i_bits_Reader_Get [.ptr id 0, i64v n] σ fun x σ' => x = .tup [u64v (getVal (unpack b) k n), i64v (getCode (8 * b.length) k n)] ∧ Rd σ' id b (getAt (8 * b.length) k n) σb := by
  have hR := h
  obtain ⟨hid, hk, hb, tk, rfl⟩ := h
  have hul := unpack_length b
  refine k_bits_Reader_Get rfl ?_
  ((conv => whnf); (repeat ((first | with_reducible refine abr_true rfl ?_ | with_reducible refine abr_false rfl ?_ | with_reducible refine abr_yes rfl ?_ | refine abr_yes (by decide) ?_ | refine abr_no (by decide) ?_ | with_reducible refine abr_same_ne ?_); (conv => whnf))))
  refine ascope' (α := Nat) (fun j => [(s6, u64v (val 0 (((unpack b).drop k).take j))), (s7, i64v ((k : Int) + n))]) (fun j => upd σb id (.cells [sl tk b, i64v ((k + j : Nat) : Int)])) (fun _ => 0) (fun j => getCode (8 * b.length) k n = 0 ∧ j ≤ n.toNat) (fun j => n.toNat - j) ?_ ?_
  · ((conv => whnf); (repeat ((first | with_reducible refine abr_true rfl ?_ | with_reducible refine abr_false rfl ?_ | with_reducible refine abr_yes rfl ?_ | refine abr_yes (by decide) ?_ | refine abr_no (by decide) ?_ | with_reducible refine abr_same_ne ?_); (conv => whnf))))
    intro hlab
    by_cases h1 : n < 0
    · have hc : getCode (8 * b.length) k n = 1 := by unfold getCode; rw [if_pos (.inl h1)]
      ((conv => whnf); (repeat ((first | with_reducible refine abr_true rfl ?_ | with_reducible refine abr_false rfl ?_ | with_reducible refine abr_yes rfl ?_ | refine abr_yes (by decide) ?_ | refine abr_no (by decide) ?_ | with_reducible refine abr_same_ne ?_); (conv => whnf))))
      (repeat ((first | refine aload (by (repeat (first | with_reducible exact upd_same _ _ _ | assumption | rw [upd_ne _ _ (by first | assumption | (apply Ne.symm; assumption))]))) rfl ?_ | refine afit_i64 (by omega) ?_ | refine arem_nonneg (by omega) (by omega) ?_ | refine adiv_i64 (by omega) (by omega) ?_ | refine abr_yes (by omega) ?_ | refine abr_no (by omega) ?_ | refine amin ?_ | refine amax ?_ | refine afit_u64 (by omega) ?_ | refine afit_u8 (by omega) ?_ | rw [List.length_map]); ((conv => whnf); (repeat ((first | with_reducible refine abr_true rfl ?_ | with_reducible refine abr_false rfl ?_ | with_reducible refine abr_yes rfl ?_ | refine abr_yes (by decide) ?_ | refine abr_no (by decide) ?_ | with_reducible refine abr_same_ne ?_); (conv => whnf))))))
      refine aret_same ⟨?_, ?_⟩
      · unfold getVal; rw [hul, hc]; rfl
      · unfold getAt; rw [hc]; exact hR
    · by_cases h2 : n > 64
      · have hc : getCode (8 * b.length) k n = 1 := by unfold getCode; rw [if_pos (.inr h2)]
        ((conv => whnf); (repeat ((first | with_reducible refine abr_true rfl ?_ | with_reducible refine abr_false rfl ?_ | with_reducible refine abr_yes rfl ?_ | refine abr_yes (by decide) ?_ | refine abr_no (by decide) ?_ | with_reducible refine abr_same_ne ?_); (conv => whnf))))
        (repeat ((first | refine aload (by (repeat (first | with_reducible exact upd_same _ _ _ | assumption | rw [upd_ne _ _ (by first | assumption | (apply Ne.symm; assumption))]))) rfl ?_ | refine afit_i64 (by omega) ?_ | refine arem_nonneg (by omega) (by omega) ?_ | refine adiv_i64 (by omega) (by omega) ?_ | refine abr_yes (by omega) ?_ | refine abr_no (by omega) ?_ | refine amin ?_ | refine amax ?_ | refine afit_u64 (by omega) ?_ | refine afit_u8 (by omega) ?_ | rw [List.length_map]); ((conv => whnf); (repeat ((first | with_reducible refine abr_true rfl ?_ | with_reducible refine abr_false rfl ?_ | with_reducible refine abr_yes rfl ?_ | refine abr_yes (by decide) ?_ | refine abr_no (by decide) ?_ | with_reducible refine abr_same_ne ?_); (conv => whnf))))))
        refine aret_same ⟨?_, ?_⟩
        · unfold getVal; rw [hul, hc]; rfl
        · unfold getAt; rw [hc]; exact hR
      · ((conv => whnf); (repeat ((first | with_reducible refine abr_true rfl ?_ | with_reducible refine abr_false rfl ?_ | with_reducible refine abr_yes rfl ?_ | refine abr_yes (by decide) ?_ | refine abr_no (by decide) ?_ | with_reducible refine abr_same_ne ?_); (conv => whnf))))
        (repeat ((first | refine aload (by (repeat (first | with_reducible exact upd_same _ _ _ | assumption | rw [upd_ne _ _ (by first | assumption | (apply Ne.symm; assumption))]))) rfl ?_ | refine afit_i64 (by omega) ?_ | refine arem_nonneg (by omega) (by omega) ?_ | refine adiv_i64 (by omega) (by omega) ?_ | refine abr_yes (by omega) ?_ | refine abr_no (by omega) ?_ | refine amin ?_ | refine amax ?_ | refine afit_u64 (by omega) ?_ | refine afit_u8 (by omega) ?_ | rw [List.length_map]); ((conv => whnf); (repeat ((first | with_reducible refine abr_true rfl ?_ | with_reducible refine abr_false rfl ?_ | with_reducible refine abr_yes rfl ?_ | refine abr_yes (by decide) ?_ | refine abr_no (by decide) ?_ | with_reducible refine abr_same_ne ?_); (conv => whnf))))))
        refine acall (rLeft id b k _ σb hR) ?_
        rintro x σ' ⟨rfl, rfl⟩
        refine ⟨?_, Ext.refl _⟩
        by_cases h3 : n > ((8 * b.length - k : Nat) : Int)
        · have hc : getCode (8 * b.length) k n = 8 := by unfold getCode; rw [if_neg (by omega), if_pos (by omega)]
          ((conv => whnf); (repeat ((first | with_reducible refine abr_true rfl ?_ | with_reducible refine abr_false rfl ?_ | with_reducible refine abr_yes rfl ?_ | refine abr_yes (by decide) ?_ | refine abr_no (by decide) ?_ | with_reducible refine abr_same_ne ?_); (conv => whnf))))
          (repeat ((first | refine aload (by (repeat (first | with_reducible exact upd_same _ _ _ | assumption | rw [upd_ne _ _ (by first | assumption | (apply Ne.symm; assumption))]))) rfl ?_ | refine afit_i64 (by omega) ?_ | refine arem_nonneg (by omega) (by omega) ?_ | refine adiv_i64 (by omega) (by omega) ?_ | refine abr_yes (by omega) ?_ | refine abr_no (by omega) ?_ | refine amin ?_ | refine amax ?_ | refine afit_u64 (by omega) ?_ | refine afit_u8 (by omega) ?_ | rw [List.length_map]); ((conv => whnf); (repeat ((first | with_reducible refine abr_true rfl ?_ | with_reducible refine abr_false rfl ?_ | with_reducible refine abr_yes rfl ?_ | refine abr_yes (by decide) ?_ | refine abr_no (by decide) ?_ | with_reducible refine abr_same_ne ?_); (conv => whnf))))))
          refine aret_same ⟨?_, ?_⟩
          · unfold getVal; rw [hul, hc]; rfl
          · unfold getAt; rw [hc]; exact hR
        · have hc : getCode (8 * b.length) k n = 0 := by unfold getCode; rw [if_neg (by omega), if_neg (by omega)]
          ((conv => whnf); (repeat ((first | with_reducible refine abr_true rfl ?_ | with_reducible refine abr_false rfl ?_ | with_reducible refine abr_yes rfl ?_ | refine abr_yes (by decide) ?_ | refine abr_no (by decide) ?_ | with_reducible refine abr_same_ne ?_); (conv => whnf))))
          (repeat ((first | refine aload (by (repeat (first | with_reducible exact upd_same _ _ _ | assumption | rw [upd_ne _ _ (by first | assumption | (apply Ne.symm; assumption))]))) rfl ?_ | refine afit_i64 (by omega) ?_ | refine arem_nonneg (by omega) (by omega) ?_ | refine adiv_i64 (by omega) (by omega) ?_ | refine abr_yes (by omega) ?_ | refine abr_no (by omega) ?_ | refine amin ?_ | refine amax ?_ | refine afit_u64 (by omega) ?_ | refine afit_u8 (by omega) ?_ | rw [List.length_map]); ((conv => whnf); (repeat ((first | with_reducible refine abr_true rfl ?_ | with_reducible refine abr_false rfl ?_ | with_reducible refine abr_yes rfl ?_ | refine abr_yes (by decide) ?_ | refine abr_no (by decide) ?_ | with_reducible refine abr_same_ne ?_); (conv => whnf))))))
          refine hlab _ (fun _ _ _ h => h) _ _ _ _ ⟨0, rfl, ⟨hc, by omega⟩, rfl, Sub.refl _, ?_⟩
          ((conv => whnf); (repeat ((first | with_reducible refine abr_true rfl ?_ | with_reducible refine abr_false rfl ?_ | with_reducible refine abr_yes rfl ?_ | refine abr_yes (by decide) ?_ | refine abr_no (by decide) ?_ | with_reducible refine abr_same_ne ?_); (conv => whnf))))
          (repeat' first | with_reducible exact EnvLe.refl _ | (refine EnvLe.node ?_ (by first | exact Or.inl rfl | exact Or.inr (Or.inl rfl) | exact Or.inr (Or.inr ⟨nofun, VLe.slice _ _ _⟩)) ?_))
  · rintro j ⟨hc, hj⟩
    obtain ⟨p1, p2, p3⟩ := getCode_ok hc
    refine ⟨_, rfl, ?_⟩
    ((conv => whnf); (repeat ((first | with_reducible refine abr_true rfl ?_ | with_reducible refine abr_false rfl ?_ | with_reducible refine abr_yes rfl ?_ | refine abr_yes (by decide) ?_ | refine abr_no (by decide) ?_ | with_reducible refine abr_same_ne ?_); (conv => whnf))))
    intro hlab
    by_cases h1 : j = n.toNat
    · ((conv => whnf); (repeat ((first | with_reducible refine abr_true rfl ?_ | with_reducible refine abr_false rfl ?_ | with_reducible refine abr_yes rfl ?_ | refine abr_yes (by decide) ?_ | refine abr_no (by decide) ?_ | with_reducible refine abr_same_ne ?_); (conv => whnf))))
      (repeat ((first | refine aload (by (repeat (first | with_reducible exact upd_same _ _ _ | assumption | rw [upd_ne _ _ (by first | assumption | (apply Ne.symm; assumption))]))) rfl ?_ | refine afit_i64 (by omega) ?_ | refine arem_nonneg (by omega) (by omega) ?_ | refine adiv_i64 (by omega) (by omega) ?_ | refine abr_yes (by omega) ?_ | refine abr_no (by omega) ?_ | refine amin ?_ | refine amax ?_ | refine afit_u64 (by omega) ?_ | refine afit_u8 (by omega) ?_ | rw [List.length_map]); ((conv => whnf); (repeat ((first | with_reducible refine abr_true rfl ?_ | with_reducible refine abr_false rfl ?_ | with_reducible refine abr_yes rfl ?_ | refine abr_yes (by decide) ?_ | refine abr_no (by decide) ?_ | with_reducible refine abr_same_ne ?_); (conv => whnf))))))
      refine aret_same ⟨?_, ?_⟩
      · unfold getVal; rw [hul, if_pos hc, hc, h1]
      · unfold getAt; rw [if_pos hc, ← h1]
        exact ⟨hid, by omega, hb, tk, rfl⟩
    · have hlt : k + j < 8 * b.length := by omega
      have hq : (k + j) / 8 < b.length := by omega
      have hg : b[(k + j) / 8]? = some b[(k + j) / 8] := List.getElem?_eq_getElem hq
      have hbit := unpack_get b (k + j) _ hg
      have hv2 : val 0 (((unpack b).drop k).take j) < 2 ^ 63 := by
        have h1 := val_lt (((unpack b).drop k).take j)
        have h2 : (((unpack b).drop k).take j).length ≤ 63 := by rw [List.length_take]; omega
        exact Nat.lt_of_lt_of_le h1 (Nat.pow_le_pow_right (by omega) h2)
      have hx := b[(k + j) / 8].toNat_lt
      ((conv => whnf); (repeat ((first | with_reducible refine abr_true rfl ?_ | with_reducible refine abr_false rfl ?_ | with_reducible refine abr_yes rfl ?_ | refine abr_yes (by decide) ?_ | refine abr_no (by decide) ?_ | with_reducible refine abr_same_ne ?_); (conv => whnf))))
      (repeat ((first | refine aload (by (repeat (first | with_reducible exact upd_same _ _ _ | assumption | rw [upd_ne _ _ (by first | assumption | (apply Ne.symm; assumption))]))) rfl ?_ | refine afit_i64 (by omega) ?_ | refine arem_nonneg (by omega) (by omega) ?_ | refine adiv_i64 (by omega) (by omega) ?_ | refine abr_yes (by omega) ?_ | refine abr_no (by omega) ?_ | refine amin ?_ | refine amax ?_ | refine afit_u64 (by omega) ?_ | refine afit_u8 (by omega) ?_ | rw [List.length_map]); ((conv => whnf); (repeat ((first | with_reducible refine abr_true rfl ?_ | with_reducible refine abr_false rfl ?_ | with_reducible refine abr_yes rfl ?_ | refine abr_yes (by decide) ?_ | refine abr_no (by decide) ?_ | with_reducible refine abr_same_ne ?_); (conv => whnf))))))
      refine ashl_eq (by omega) (shl1_u64 _ (by omega)) ?_
      ((conv => whnf); (repeat ((first | with_reducible refine abr_true rfl ?_ | with_reducible refine abr_false rfl ?_ | with_reducible refine abr_yes rfl ?_ | refine abr_yes (by decide) ?_ | refine abr_no (by decide) ?_ | with_reducible refine abr_same_ne ?_); (conv => whnf))))
      (repeat ((first | refine aload (by (repeat (first | with_reducible exact upd_same _ _ _ | assumption | rw [upd_ne _ _ (by first | assumption | (apply Ne.symm; assumption))]))) rfl ?_ | refine afit_i64 (by omega) ?_ | refine arem_nonneg (by omega) (by omega) ?_ | refine adiv_i64 (by omega) (by omega) ?_ | refine abr_yes (by omega) ?_ | refine abr_no (by omega) ?_ | refine amin ?_ | refine amax ?_ | refine afit_u64 (by omega) ?_ | refine afit_u8 (by omega) ?_ | rw [List.length_map]); ((conv => whnf); (repeat ((first | with_reducible refine abr_true rfl ?_ | with_reducible refine abr_false rfl ?_ | with_reducible refine abr_yes rfl ?_ | refine abr_yes (by decide) ?_ | refine abr_no (by decide) ?_ | with_reducible refine abr_same_ne ?_); (conv => whnf))))))
      rw [show ((k + j : Nat) : Int) / 8 = (((k + j) / 8 : Nat) : Int) by omega]
      refine aget (by omega) (get_bytes hq) ?_
      ((conv => whnf); (repeat ((first | with_reducible refine abr_true rfl ?_ | with_reducible refine abr_false rfl ?_ | with_reducible refine abr_yes rfl ?_ | refine abr_yes (by decide) ?_ | refine abr_no (by decide) ?_ | with_reducible refine abr_same_ne ?_); (conv => whnf))))
      refine acell rfl ?_
      ((conv => whnf); (repeat ((first | with_reducible refine abr_true rfl ?_ | with_reducible refine abr_false rfl ?_ | with_reducible refine abr_yes rfl ?_ | refine abr_yes (by decide) ?_ | refine abr_no (by decide) ?_ | with_reducible refine abr_same_ne ?_); (conv => whnf))))
      (repeat ((first | refine aload (by (repeat (first | with_reducible exact upd_same _ _ _ | assumption | rw [upd_ne _ _ (by first | assumption | (apply Ne.symm; assumption))]))) rfl ?_ | refine afit_i64 (by omega) ?_ | refine arem_nonneg (by omega) (by omega) ?_ | refine adiv_i64 (by omega) (by omega) ?_ | refine abr_yes (by omega) ?_ | refine abr_no (by omega) ?_ | refine amin ?_ | refine amax ?_ | refine afit_u64 (by omega) ?_ | refine afit_u8 (by omega) ?_ | rw [List.length_map]); ((conv => whnf); (repeat ((first | with_reducible refine abr_true rfl ?_ | with_reducible refine abr_false rfl ?_ | with_reducible refine abr_yes rfl ?_ | refine abr_yes (by decide) ?_ | refine abr_no (by decide) ?_ | with_reducible refine abr_same_ne ?_); (conv => whnf))))))
      rw [show (7 : Int) - ((k + j : Nat) : Int) % 8 = ((7 - (k + j) % 8 : Nat) : Int) by omega]
      refine ashr_nat (by show _ ≤ 8; omega) ?_
      ((conv => whnf); (repeat ((first | with_reducible refine abr_true rfl ?_ | with_reducible refine abr_false rfl ?_ | with_reducible refine abr_yes rfl ?_ | refine abr_yes (by decide) ?_ | refine abr_no (by decide) ?_ | with_reducible refine abr_same_ne ?_); (conv => whnf))))
      refine abits_eq (and1_u8 _ (Nat.lt_of_le_of_lt (Nat.div_le_self _ _) hx)) ?_
      rw [← testBit_nat]
      ((conv => whnf); (repeat ((first | with_reducible refine abr_true rfl ?_ | with_reducible refine abr_false rfl ?_ | with_reducible refine abr_yes rfl ?_ | refine abr_yes (by decide) ?_ | refine abr_no (by decide) ?_ | with_reducible refine abr_same_ne ?_); (conv => whnf))))
      have hb1 : (b[(k + j) / 8].toNat.testBit (7 - (k + j) % 8)).toNat ≤ 1 := by cases b[(k + j) / 8].toNat.testBit (7 - (k + j) % 8) <;> decide
      refine afit_u64 (by omega) ?_
      ((conv => whnf); (repeat ((first | with_reducible refine abr_true rfl ?_ | with_reducible refine abr_false rfl ?_ | with_reducible refine abr_yes rfl ?_ | refine abr_yes (by decide) ?_ | refine abr_no (by decide) ?_ | with_reducible refine abr_same_ne ?_); (conv => whnf))))
      refine abits_eq (or1_u64 _ _ (by omega)) ?_
      ((conv => whnf); (repeat ((first | with_reducible refine abr_true rfl ?_ | with_reducible refine abr_false rfl ?_ | with_reducible refine abr_yes rfl ?_ | refine abr_yes (by decide) ?_ | refine abr_no (by decide) ?_ | with_reducible refine abr_same_ne ?_); (conv => whnf))))
      (repeat ((first | refine aload (by (repeat (first | with_reducible exact upd_same _ _ _ | assumption | rw [upd_ne _ _ (by first | assumption | (apply Ne.symm; assumption))]))) rfl ?_ | refine afit_i64 (by omega) ?_ | refine arem_nonneg (by omega) (by omega) ?_ | refine adiv_i64 (by omega) (by omega) ?_ | refine abr_yes (by omega) ?_ | refine abr_no (by omega) ?_ | refine amin ?_ | refine amax ?_ | refine afit_u64 (by omega) ?_ | refine afit_u8 (by omega) ?_ | rw [List.length_map]); ((conv => whnf); (repeat ((first | with_reducible refine abr_true rfl ?_ | with_reducible refine abr_false rfl ?_ | with_reducible refine abr_yes rfl ?_ | refine abr_yes (by decide) ?_ | refine abr_no (by decide) ?_ | with_reducible refine abr_same_ne ?_); (conv => whnf))))))
      refine astore (upd_same _ _ _) (Nat.le_of_ble_eq_true rfl) rfl rfl ?_
      rw [upd_upd]
      ((conv => whnf); (repeat ((first | with_reducible refine abr_true rfl ?_ | with_reducible refine abr_false rfl ?_ | with_reducible refine abr_yes rfl ?_ | refine abr_yes (by decide) ?_ | refine abr_no (by decide) ?_ | with_reducible refine abr_same_ne ?_); (conv => whnf))))
      refine ⟨j + 1, rfl, ⟨hc, by omega⟩, by omega, ?_, ?_⟩
      · rw [show (((k + j : Nat) : Int) + 1) = ((k + (j + 1) : Nat) : Int) by omega]
        exact Sub.refl _
      · have e : val 0 (((unpack b).drop k).take (j + 1)) = 2 * val 0 (((unpack b).drop k).take j) + (b[(k + j) / 8].toNat.testBit (7 - (k + j) % 8)).toNat := by
          rw [take_snoc (l := (unpack b).drop k) (i := j) (x := b[(k + j) / 8].toNat.testBit (7 - (k + j) % 8)) (by rw [List.getElem?_drop]; exact hbit), val_snoc]
        ((conv => whnf); (repeat ((first | with_reducible refine abr_true rfl ?_ | with_reducible refine abr_false rfl ?_ | with_reducible refine abr_yes rfl ?_ | refine abr_yes (by decide) ?_ | refine abr_no (by decide) ?_ | with_reducible refine abr_same_ne ?_); (conv => whnf))))
        rw [e]
        (repeat' first | with_reducible exact EnvLe.refl _ | (refine EnvLe.node ?_ (by first | exact Or.inl rfl | exact Or.inr (Or.inl rfl) | exact Or.inr (Or.inr ⟨nofun, VLe.slice _ _ _⟩)) ?_))

theorem rRestNil (σ : AHeap) : ACalls Try.prog i_bits_Reader_Rest [.v (.pointer none)] σ fun x σ' => x = .tup [sl .none [], i64v 6] ∧ σ' = σ := by
  refine k_bits_Reader_Rest rfl ?_
  ((conv => whnf); (repeat ((first | with_reducible refine abr_true rfl ?_ | with_reducible refine abr_false rfl ?_ | with_reducible refine abr_yes rfl ?_ | refine abr_yes (by decide) ?_ | refine abr_no (by decide) ?_ | with_reducible refine abr_same_ne ?_); (conv => whnf))))
  exact aret VLe.tup_sl (Sub.refl _) ⟨rfl, rfl⟩

theorem pad_le (k : Nat) : pad k ≤ 7 := by unfold pad; omega
set_option maxRecDepth 10000 in
theorem rRest (id : Nat) (b : List UInt8) (k : Nat) (σ σb : AHeap) (h : Rd σ id b k σb) :
    ACalls Try.prog i_bits_Reader_Rest [.ptr id 0] σ fun x σ' => x = .tup [sl .none (if restOk (unpack b) k then b.drop ((k + 7) / 8) else []), i64v (if restOk (unpack b) k then 0 else 3)] ∧
      Rd σ' id b (if restOk (unpack b) k then 8 * b.length else k) σb := by
  have hR := h
  obtain ⟨hid, hk, hb, tk, rfl⟩ := h
  have hul := unpack_length b
  have hp7 := pad_le k
  refine k_bits_Reader_Rest rfl ?_
  ((conv => whnf); (repeat ((first | with_reducible refine abr_true rfl ?_ | with_reducible refine abr_false rfl ?_ | with_reducible refine abr_yes rfl ?_ | refine abr_yes (by decide) ?_ | refine abr_no (by decide) ?_ | with_reducible refine abr_same_ne ?_); (conv => whnf))))
  (repeat ((first | refine aload (by (repeat (first | with_reducible exact upd_same _ _ _ | assumption | rw [upd_ne _ _ (by first | assumption | (apply Ne.symm; assumption))]))) rfl ?_ | refine afit_i64 (by omega) ?_ | refine arem_nonneg (by omega) (by omega) ?_ | refine adiv_i64 (by omega) (by omega) ?_ | refine abr_yes (by omega) ?_ | refine abr_no (by omega) ?_ | refine amin ?_ | refine amax ?_ | refine afit_u64 (by omega) ?_ | refine afit_u8 (by omega) ?_ | rw [List.length_map]); ((conv => whnf); (repeat ((first | with_reducible refine abr_true rfl ?_ | with_reducible refine abr_false rfl ?_ | with_reducible refine abr_yes rfl ?_ | refine abr_yes (by decide) ?_ | refine abr_no (by decide) ?_ | with_reducible refine abr_same_ne ?_); (conv => whnf))))))
  rw [show ((8 : Int) - (k : Int) % 8) % 8 = ((pad k : Nat) : Int) by unfold pad; omega]
  refine acall (rGet id b k (pad k) _ σb hR) ?_
  rintro x σ' ⟨rfl, hR2⟩
  have hc : getCode (8 * b.length) k (pad k) = 0 := by
    unfold getCode
    rw [if_neg (by omega), if_neg]
    have : k % 8 = 0 ∨ k + (8 - k % 8) ≤ 8 * b.length := by omega
    unfold pad
    omega
  have ha : getAt (8 * b.length) k (pad k) = k + pad k := by unfold getAt; rw [if_pos hc]; rfl
  have hv : getVal (unpack b) k (pad k) = val 0 (((unpack b).drop k).take (pad k)) := by unfold getVal; rw [hul, if_pos hc]; rfl
  rw [ha] at hR2
  rw [hc, hv]
  obtain ⟨hid2, hk2, hb2, tk2, rfl⟩ := hR2
  ((conv => whnf); (repeat ((first | with_reducible refine abr_true rfl ?_ | with_reducible refine abr_false rfl ?_ | with_reducible refine abr_yes rfl ?_ | refine abr_yes (by decide) ?_ | refine abr_no (by decide) ?_ | with_reducible refine abr_same_ne ?_); (conv => whnf))))
  by_cases hz : val 0 (((unpack b).drop k).take (pad k)) = 0
  · have hok : restOk (unpack b) k = true := decide_eq_true hz
    rw [hok]
    simp only [if_true]
    (repeat ((first | refine aload (by (repeat (first | with_reducible exact upd_same _ _ _ | assumption | rw [upd_ne _ _ (by first | assumption | (apply Ne.symm; assumption))]))) rfl ?_ | refine afit_i64 (by omega) ?_ | refine arem_nonneg (by omega) (by omega) ?_ | refine adiv_i64 (by omega) (by omega) ?_ | refine abr_yes (by omega) ?_ | refine abr_no (by omega) ?_ | refine amin ?_ | refine amax ?_ | refine afit_u64 (by omega) ?_ | refine afit_u8 (by omega) ?_ | rw [List.length_map]); ((conv => whnf); (repeat ((first | with_reducible refine abr_true rfl ?_ | with_reducible refine abr_false rfl ?_ | with_reducible refine abr_yes rfl ?_ | refine abr_yes (by decide) ?_ | refine abr_no (by decide) ?_ | with_reducible refine abr_same_ne ?_); (conv => whnf))))))
    try rw [List.length_map]
    refine acut (by omega) (by omega) (by omega) ?_
    ((conv => whnf); (repeat ((first | with_reducible refine abr_true rfl ?_ | with_reducible refine abr_false rfl ?_ | with_reducible refine abr_yes rfl ?_ | refine abr_yes (by decide) ?_ | refine abr_no (by decide) ?_ | with_reducible refine abr_same_ne ?_); (conv => whnf))))
    rw [show (((k + pad k : Nat) : Int) / 8).toNat = (k + 7) / 8 by unfold pad; omega, show (b.length : Int).toNat = b.length by omega, List.take_of_length_le (by simp), ← List.map_drop]
    refine acall (Clone (b.drop ((k + 7) / 8)) _ _ (by rw [List.length_drop]; omega)) ?_
    rintro v σ' ⟨tk3, ho, rfl⟩
    refine ⟨?_, ho.ext⟩
    have hσ : σ' id = some (.cells [sl tk2 b, i64v ((k + pad k : Nat) : Int)]) := by
      rcases ho with ⟨_, rfl⟩ | ⟨t', h0, _, rfl⟩
      · exact upd_same _ _ _
      · by_cases e : id = t'
        · subst e; rw [upd_same] at h0; cases h0
        · rw [upd_ne _ _ e]; exact upd_same _ _ _
    ((conv => whnf); (repeat ((first | with_reducible refine abr_true rfl ?_ | with_reducible refine abr_false rfl ?_ | with_reducible refine abr_yes rfl ?_ | refine abr_yes (by decide) ?_ | refine abr_no (by decide) ?_ | with_reducible refine abr_same_ne ?_); (conv => whnf))))
    (repeat ((first | refine aload (by (repeat (first | with_reducible exact upd_same _ _ _ | assumption | rw [upd_ne _ _ (by first | assumption | (apply Ne.symm; assumption))]))) rfl ?_ | refine afit_i64 (by omega) ?_ | refine arem_nonneg (by omega) (by omega) ?_ | refine adiv_i64 (by omega) (by omega) ?_ | refine abr_yes (by omega) ?_ | refine abr_no (by omega) ?_ | refine amin ?_ | refine amax ?_ | refine afit_u64 (by omega) ?_ | refine afit_u8 (by omega) ?_ | rw [List.length_map]); ((conv => whnf); (repeat ((first | with_reducible refine abr_true rfl ?_ | with_reducible refine abr_false rfl ?_ | with_reducible refine abr_yes rfl ?_ | refine abr_yes (by decide) ?_ | refine abr_no (by decide) ?_ | with_reducible refine abr_same_ne ?_); (conv => whnf))))))
    try rw [List.length_map]
    (repeat ((first | refine aload (by (repeat (first | with_reducible exact upd_same _ _ _ | assumption | rw [upd_ne _ _ (by first | assumption | (apply Ne.symm; assumption))]))) rfl ?_ | refine afit_i64 (by omega) ?_ | refine arem_nonneg (by omega) (by omega) ?_ | refine adiv_i64 (by omega) (by omega) ?_ | refine abr_yes (by omega) ?_ | refine abr_no (by omega) ?_ | refine amin ?_ | refine amax ?_ | refine afit_u64 (by omega) ?_ | refine afit_u8 (by omega) ?_ | rw [List.length_map]); ((conv => whnf); (repeat ((first | with_reducible refine abr_true rfl ?_ | with_reducible refine abr_false rfl ?_ | with_reducible refine abr_yes rfl ?_ | refine abr_yes (by decide) ?_ | refine abr_no (by decide) ?_ | with_reducible refine abr_same_ne ?_); (conv => whnf))))))
    refine astore hσ (Nat.le_of_ble_eq_true rfl) rfl rfl ?_
    ((conv => whnf); (repeat ((first | with_reducible refine abr_true rfl ?_ | with_reducible refine abr_false rfl ?_ | with_reducible refine abr_yes rfl ?_ | refine abr_yes (by decide) ?_ | refine abr_no (by decide) ?_ | with_reducible refine abr_same_ne ?_); (conv => whnf))))
    refine aret VLe.tup_sl (σ' := upd σb id (.cells [sl tk2 b, i64v ((b.length : Int) * 8)])) ?_ ⟨rfl, hid, Nat.le_refl _, hb, tk2, ?_⟩
    · have := Sub.upd ho.sub id (.cells [sl tk2 b, i64v ((b.length : Int) * 8)])
      rw [upd_upd] at this
      exact this
    · rw [show (b.length : Int) * 8 = ((8 * b.length : Nat) : Int) by omega]
  · have hok : restOk (unpack b) k = false := decide_eq_false hz
    rw [hok]
    simp only [Bool.false_eq_true, if_false]
    (repeat ((first | refine aload (by (repeat (first | with_reducible exact upd_same _ _ _ | assumption | rw [upd_ne _ _ (by first | assumption | (apply Ne.symm; assumption))]))) rfl ?_ | refine afit_i64 (by omega) ?_ | refine arem_nonneg (by omega) (by omega) ?_ | refine adiv_i64 (by omega) (by omega) ?_ | refine abr_yes (by omega) ?_ | refine abr_no (by omega) ?_ | refine amin ?_ | refine amax ?_ | refine afit_u64 (by omega) ?_ | refine afit_u8 (by omega) ?_ | rw [List.length_map]); ((conv => whnf); (repeat ((first | with_reducible refine abr_true rfl ?_ | with_reducible refine abr_false rfl ?_ | with_reducible refine abr_yes rfl ?_ | refine abr_yes (by decide) ?_ | refine abr_no (by decide) ?_ | with_reducible refine abr_same_ne ?_); (conv => whnf))))))
    refine astore (upd_same _ _ _) (Nat.le_of_ble_eq_true rfl) rfl rfl ?_
    rw [upd_upd]
    ((conv => whnf); (repeat ((first | with_reducible refine abr_true rfl ?_ | with_reducible refine abr_false rfl ?_ | with_reducible refine abr_yes rfl ?_ | refine abr_yes (by decide) ?_ | refine abr_no (by decide) ?_ | with_reducible refine abr_same_ne ?_); (conv => whnf))))
    exact aret VLe.tup_sl (Sub.refl _) ⟨rfl, hid, hk, hb, tk2, rfl⟩
end Go.Proofs.Ytnfdgccmpglbhaa
/-
  Parts of the objects' heap that stand side by side.
-/
namespace Go.Proofs.Ytnfdgccmpglbhaa
set_option linter.unusedVariables false
set_option linter.unusedSimpArgs false
open Go Go.Am

def join (A σ : AHeap) : AHeap := fun j => match A j with | some o => some o | none => σ j
/-- A heap is another one, and a part of its own beside. -/
def Has (S : AHeap → Prop) (σ σb : AHeap) : Prop := ∃ A, S A ∧ (∀ j, A j ≠ none → σb j = none) ∧ σ = join A σb

theorem Has.sub {S : AHeap → Prop} {σ σb : AHeap} (h : Has S σ σb) : Sub σ σb := by
  obtain ⟨A, _, h2, rfl⟩ := h
  intro j o e
  unfold join
  cases hA : A j with
  | none => exact e
  | some x => rw [h2 j (by rw [hA]; nofun)] at e; cases e
theorem Has.gone {S : AHeap → Prop} {σ σb : AHeap} (h : Has S σ σb) {j : Nat} (hj : σ j = none) : σb j = none := by
  obtain ⟨A, _, h2, rfl⟩ := h
  unfold join at hj
  cases hA : A j with
  | none => rw [hA] at hj; exact hj
  | some x => rw [hA] at hj; cases hj
theorem Has.swap {S T : AHeap → Prop} {σ2 σ1 σ0 : AHeap} (h : Has S σ2 σ1) (k : Has T σ1 σ0) : ∃ σ', Has T σ2 σ' ∧ Has S σ' σ0 := by
  obtain ⟨A, hS, hA, rfl⟩ := h
  obtain ⟨B, hT, hB, rfl⟩ := k
  have hAB : ∀ j, A j ≠ none → B j = none ∧ σ0 j = none := by
    intro j hj
    have := hA j hj
    unfold join at this
    cases hb : B j with
    | none => rw [hb] at this; exact ⟨rfl, this⟩
    | some x => rw [hb] at this; cases this
  refine ⟨join A σ0, ⟨B, hT, ?_, ?_⟩, A, hS, fun j hj => (hAB j hj).2, rfl⟩
  · intro j hj
    unfold join
    cases ha : A j with
    | none => exact hB j hj
    | some x => exact absurd (hAB j (by rw [ha]; nofun)).1 hj
  · funext j
    unfold join
    cases ha : A j with
    | none => rfl
    | some x => rw [(hAB j (by rw [ha]; nofun)).1]

theorem Has.ext {S : AHeap → Prop} {σ σb : AHeap} (h : Has S σ σb) : Ext σb σ := by
  obtain ⟨A, _, h2, rfl⟩ := h
  intro j o _ e
  unfold join
  cases hA : A j with
  | none => exact e
  | some x => rw [h2 j (by rw [hA]; nofun)] at e; cases e

theorem join_upd (A σ : AHeap) (id : Nat) (o : AObj) : join (upd A id o) σ = upd (join A σ) id o := by
  funext j
  unfold join
  by_cases e : j = id
  · subst e; rw [upd_same, upd_same]
  · rw [upd_ne _ _ e, upd_ne _ _ e]
theorem join_none (σ : AHeap) : join (fun _ => none) σ = σ := rfl

theorem Wr.has {σ σb : AHeap} {id : Nat} {bs : List Bool} : Wr σ id bs σb ↔ Has (fun A => Wr A id bs fun _ => none) σ σb := by
  constructor
  · rintro ⟨hid, ⟨hnil, rfl⟩ | ⟨hne, r, hri, hr, rfl⟩⟩
    · refine ⟨_, ⟨rfl, .inl ⟨hnil, rfl⟩⟩, ?_, ?_⟩
      · intro j hj
        by_cases e : j = id
        · subst e; exact hid
        · rw [upd_ne _ _ e] at hj; exact absurd rfl hj
      · rw [join_upd, join_none]
    · refine ⟨_, ⟨rfl, .inr ⟨hne, r, hri, rfl, rfl⟩⟩, ?_, ?_⟩
      · intro j hj
        by_cases e : j = id
        · subst e; exact hid
        · rw [upd_ne _ _ e] at hj
          by_cases e2 : j = r
          · subst e2; exact hr
          · rw [upd_ne _ _ e2] at hj; exact absurd rfl hj
      · rw [join_upd, join_upd, join_none]
  · rintro ⟨A, ⟨_, ⟨hnil, rfl⟩ | ⟨hne, r, hri, _, rfl⟩⟩, hd, rfl⟩
    · have hid := hd id (by rw [upd_same]; nofun)
      exact ⟨hid, .inl ⟨hnil, by rw [join_upd, join_none]⟩⟩
    · have hid := hd id (by rw [upd_same]; nofun)
      have hr := hd r (by rw [upd_ne _ _ hri, upd_same]; nofun)
      exact ⟨hid, .inr ⟨hne, r, hri, hr, by rw [join_upd, join_upd, join_none]⟩⟩
theorem Rd.has {σ σb : AHeap} {id : Nat} {b : List UInt8} {k : Nat} : Rd σ id b k σb ↔ Has (fun A => Rd A id b k fun _ => none) σ σb := by
  constructor
  · rintro ⟨hid, h1, h2, tk, rfl⟩
    refine ⟨_, ⟨rfl, h1, h2, tk, rfl⟩, ?_, ?_⟩
    · intro j hj
      by_cases e : j = id
      · subst e; exact hid
      · rw [upd_ne _ _ e] at hj; exact absurd rfl hj
    · rw [join_upd, join_none]
  · rintro ⟨A, ⟨_, h1, h2, tk, rfl⟩, hd, rfl⟩
    exact ⟨hd id (by rw [upd_same]; nofun), h1, h2, tk, by rw [join_upd, join_none]⟩
theorem Wr.sub {σ σb : AHeap} {id : Nat} {bs : List Bool} (h : Wr σ id bs σb) : Sub σ σb := (Wr.has.1 h).sub
theorem Rd.sub {σ σb : AHeap} {id : Nat} {b : List UInt8} {k : Nat} (h : Rd σ id b k σb) : Sub σ σb := (Rd.has.1 h).sub
theorem swap_rw {σ2 σ1 σ0 : AHeap} {i j : Nat} {b : List UInt8} {k : Nat} {bs : List Bool} (h : Rd σ2 i b k σ1) (h' : Wr σ1 j bs σ0) : ∃ σ', Wr σ2 j bs σ' ∧ Rd σ' i b k σ0 := by
  obtain ⟨σ', h1, h2⟩ := (Rd.has.1 h).swap (Wr.has.1 h'); exact ⟨σ', Wr.has.2 h1, Rd.has.2 h2⟩
theorem swap_wr {σ2 σ1 σ0 : AHeap} {i j : Nat} {b : List UInt8} {k : Nat} {bs : List Bool} (h : Wr σ2 j bs σ1) (h' : Rd σ1 i b k σ0) : ∃ σ', Rd σ2 i b k σ' ∧ Wr σ' j bs σ0 := by
  obtain ⟨σ', h1, h2⟩ := (Wr.has.1 h).swap (Rd.has.1 h'); exact ⟨σ', Rd.has.2 h1, Wr.has.2 h2⟩
theorem swap_ww {σ2 σ1 σ0 : AHeap} {i j : Nat} {cs bs : List Bool} (h : Wr σ2 i cs σ1) (h' : Wr σ1 j bs σ0) : ∃ σ', Wr σ2 j bs σ' ∧ Wr σ' i cs σ0 := by
  obtain ⟨σ', h1, h2⟩ := (Wr.has.1 h).swap (Wr.has.1 h'); exact ⟨σ', Wr.has.2 h1, Wr.has.2 h2⟩
theorem swap_rr {σ2 σ1 σ0 : AHeap} {i j : Nat} {b b' : List UInt8} {k k' : Nat} (h : Rd σ2 i b k σ1) (h' : Rd σ1 j b' k' σ0) : ∃ σ', Rd σ2 j b' k' σ' ∧ Rd σ' i b k σ0 := by
  obtain ⟨σ', h1, h2⟩ := (Rd.has.1 h).swap (Rd.has.1 h'); exact ⟨σ', Rd.has.2 h1, Rd.has.2 h2⟩
theorem Wr.ext {σ σb : AHeap} {id : Nat} {bs : List Bool} (h : Wr σ id bs σb) : Ext σb σ := (Wr.has.1 h).ext
theorem Rd.ext {σ σb : AHeap} {id : Nat} {b : List UInt8} {k : Nat} (h : Rd σ id b k σb) : Ext σb σ := (Rd.has.1 h).ext
end Go.Proofs.Ytnfdgccmpglbhaa
/-
  Appending to a slice with the right to, whatever else stands beside it.
-/
namespace Go.Proofs.Ytnfdgccmpglbhaa
set_option linter.unusedVariables false
open Go Go.Am

theorem aapp_sub {σ σa σ2 : AHeap} {s bytes : Nat} {xs ys : List AVal} {tk : Tok} {K : AVal → AHeap → Prop} (ho : Owned σ σa tk) (hs : Sub σ2 σa) (hl : (xs.length + ys.length) * bytes ≤ 140737488355328)
    (h : ∀ tk' σ3 σ4, Owned σ σ4 tk' → Sub σ3 σ4 → K (.slice s (xs ++ ys) tk') σ3) : AApp σ2 s bytes xs tk ys K := by
  have fresh : ∀ t', σ2 t' = none → σ t' = none := by
    intro t' ht'
    cases e : σ t' with
    | none => rfl
    | some o => rw [hs _ _ (ho.same_of e)] at ht'; cases ht'
  rcases ho with ⟨rfl, rfl⟩ | ⟨t, h0, rfl, rfl⟩
  · exact aapp_full hl fun t ht => h _ _ _ (.tip (fresh t ht)) (Sub.upd hs _ _)
  · refine aapp_tip (hs _ _ (upd_same _ _ _)) hl fun t' ht' => ?_
    refine h _ _ _ (.tip (fresh t' ht')) (Sub.upd ?_ _ _)
    intro i o e
    have hit : i ≠ t := fun k => by subst k; rw [h0] at e; cases e
    rw [del_ne _ hit]
    exact hs _ _ (by rw [upd_ne _ _ hit]; exact e)
/-- What stands above what has the right to append may (repeat ((first | refine aload (by (repeat (first | with_reducible exact upd_same _ _ _ | assumption | rw [upd_ne _ _ (by first | assumption | (apply Ne.symm; assumption))]))) rfl ?_ | refine afit_i64 (by omega) ?_ | refine arem_nonneg (by omega) (by omega) ?_ | refine adiv_i64 (by omega) (by omega) ?_ | refine abr_yes (by omega) ?_ | refine abr_no (by omega) ?_ | refine amin ?_ | refine amax ?_ | refine afit_u64 (by omega) ?_ | refine afit_u8 (by omega) ?_ | rw [List.length_map]); ((conv => whnf); (repeat ((first | with_reducible refine abr_true rfl ?_ | with_reducible refine abr_false rfl ?_ | with_reducible refine abr_yes rfl ?_ | refine abr_yes (by decide) ?_ | refine abr_no (by decide) ?_ | with_reducible refine abr_same_ne ?_); (conv => whnf)))))). -/
theorem Owned.less {σ σx σ3 : AHeap} {tk : Tok} (h : Owned σx σ3 tk) (hs : Sub σx σ) : ∃ σ4, Owned σ σ4 tk ∧ Sub σ3 σ4 := by
  rcases h with ⟨rfl, rfl⟩ | ⟨t, h0, rfl, rfl⟩
  · exact ⟨σ, .full _, hs⟩
  · refine ⟨upd σ t .tip, .tip ?_, Sub.upd hs _ _⟩
    cases e : σ t with
    | none => rfl
    | some o => rw [hs _ _ e] at h0; cases h0
theorem aret_sl1 {s : Nat} {xs : List AVal} {t : Tok} {ys : List AVal} {σ σ2 : AHeap} {Q : AVal → AHeap → Prop} (hs : Sub σ σ2) (h : Q (.tup (.slice s xs .none :: ys)) σ2) : ARet (.tup (.slice s xs t :: ys)) σ Q :=
  aret (VLe.tup (VLe.cons (VLe.slice _ _ _) fun _ _ h => h)) hs h
end Go.Proofs.Ytnfdgccmpglbhaa
/-
  Statuses: their bits, how many bytes these are, writing them.
-/
namespace Go.Proofs.Ytnfdgccmpglbhaa
set_option linter.unusedVariables false
set_option linter.unusedSimpArgs false
open Go Go.Am

def lastV (w to : Int) : Nat := if to = 0 then (plcs w).toNat - 1 else to.toNat - 1
def missBits (w : Int) (more : Bool) (m : Ms) : List Bool :=
  numBits m.1.toNat w.toNat ++ ([more] ++ ([m.2.1] ++ if m.2.1 = true then numBits m.2.2.1.toNat (offW w) ++ numBits (lastV w m.2.2.2) (offW w) else []))
def mssBits (w : Int) : List Ms → List Bool
  | [] => []
  | m :: l => missBits w (!l.isEmpty) m ++ mssBits w l
def stBits (w : Int) (s : Int × List Ms) : List Bool := List.replicate 4 false ++ (numBits s.1.toNat w.toNat ++ ([decide (0 < s.2.length)] ++ mssBits w s.2))
def missLen (w : Int) (m : Ms) : Int := w + 2 + if m.2.1 = true then 2 * (offW w : Int) else 0
def mssLen (w : Int) : List Ms → Int
  | [] => 0
  | m :: l => missLen w m + mssLen w l
theorem missBits_length {w : Int} (hw : 0 ≤ w) (more : Bool) (m : Ms) : ((missBits w more m).length : Int) = missLen w m := by
  unfold missBits missLen
  simp only [List.length_append, numBits_length, List.length_singleton]
  split
  · simp only [List.length_append, numBits_length]; omega
  · simp only [List.length_nil]; omega
theorem mssBits_length {w : Int} (hw : 0 ≤ w) : ∀ l : List Ms, ((mssBits w l).length : Int) = mssLen w l
  | [] => rfl
  | m :: l => by
    unfold mssBits mssLen
    rw [List.length_append, Int.natCast_add, missBits_length hw, mssBits_length hw l]
theorem stBits_length {w : Int} (hw : 0 ≤ w) (s : Int × List Ms) : ((stBits w s).length : Int) = 5 + w + mssLen w s.2 := by
  unfold stBits
  simp only [List.length_append, numBits_length, List.length_singleton, List.length_replicate, Int.natCast_add, mssBits_length hw]
  omega
theorem offW_le (w : Int) : offW w ≤ 16 := by unfold offW; split <;> omega
theorem stWidth_iff {w : Int} : stWidth w = true ↔ w = 10 ∨ w = 16 := by simp [stWidth]
theorem missLen_le {w : Int} (hw : 0 ≤ w ∧ w ≤ 16) (m : Ms) : 0 ≤ missLen w m ∧ missLen w m ≤ 50 := by
  have := offW_le w
  unfold missLen; split <;> omega
theorem mssLen_le {w : Int} (hw : 0 ≤ w ∧ w ≤ 16) : ∀ l : List Ms, 0 ≤ mssLen w l ∧ mssLen w l ≤ 50 * l.length
  | [] => ⟨Int.le_refl _, Int.le_refl _⟩
  | m :: l => by
    have h1 := missLen_le hw m
    have h2 := mssLen_le hw l
    unfold mssLen
    rw [List.length_cons]; omega
theorem mssLen_append (w : Int) : ∀ a b : List Ms, mssLen w (a ++ b) = mssLen w a + mssLen w b
  | [], b => by show mssLen w b = 0 + _; omega
  | m :: a, b => by
    show missLen w m + mssLen w (a ++ b) = missLen w m + mssLen w a + _
    rw [mssLen_append w a b]; omega
def sizeSt (w : Int) (s : Int × List Ms) : Int := if stOk w s = true then (5 + w + mssLen w s.2 + 7) / 8 else 0
theorem stOk_parts {w : Int} {s : Int × List Ms} (h : stOk w s = true) : (w = 10 ∨ w = 16) ∧ isNum w s.1 = true ∧ s.2.length ≤ 32 ∧ s.2.all (missOk w) = true := by
  unfold stOk at h
  simp only [Bool.and_eq_true, decide_eq_true_eq, stWidth_iff] at h
  exact ⟨h.1.1.1, h.1.1.2, h.1.2, h.2⟩

set_option maxRecDepth 20000 in
theorem tSize (s : Int × List Ms) (t : Tok) (w : Int) (σ : AHeap) (hl : s.2.length ≤ 9223372036854775807) : ACalls Try.prog i_status_Size [stV t s, i64v w] σ fun v σ' => v = i64v (sizeSt w s) ∧ σ' = σ := by
  obtain ⟨ack, l⟩ := s
  dsimp only at hl
  refine k_status_Size rfl ?_
  ((conv => whnf); (repeat ((first | with_reducible refine abr_true rfl ?_ | with_reducible refine abr_false rfl ?_ | with_reducible refine abr_yes rfl ?_ | refine abr_yes (by decide) ?_ | refine abr_no (by decide) ?_ | with_reducible refine abr_same_ne ?_); (conv => whnf))))
  refine anew rfl fun i1 h1 => ?_
  have k1 : upd σ i1 (.cells (stV t (ack, l)).cells) i1 = some (.cells [i64v ack, missV t l]) := upd_same _ _ _
  have hs : Sub (upd σ i1 (.cells (stV t (ack, l)).cells)) σ := Sub.upd_fresh _ h1
  generalize upd σ i1 (.cells (stV t (ack, l)).cells) = τ at *
  ((conv => whnf); (repeat ((first | with_reducible refine abr_true rfl ?_ | with_reducible refine abr_false rfl ?_ | with_reducible refine abr_yes rfl ?_ | refine abr_yes (by decide) ?_ | refine abr_no (by decide) ?_ | with_reducible refine abr_same_ne ?_); (conv => whnf))))
  refine aloads (l := [i64v ack, missV t l]) k1 (by exact Nat.le_refl 2) rfl ?_
  ((conv => whnf); (repeat ((first | with_reducible refine abr_true rfl ?_ | with_reducible refine abr_false rfl ?_ | with_reducible refine abr_yes rfl ?_ | refine abr_yes (by decide) ?_ | refine abr_no (by decide) ?_ | with_reducible refine abr_same_ne ?_); (conv => whnf))))
  refine acall (tRight (ack, l) t w _ hl) ?_
  rintro _ σ_ ⟨rfl, e_⟩
  obtain rfl := e_.symm
  refine ⟨?_, Ext.refl _⟩
  ((conv => whnf); (repeat ((first | with_reducible refine abr_true rfl ?_ | with_reducible refine abr_false rfl ?_ | with_reducible refine abr_yes rfl ?_ | refine abr_yes (by decide) ?_ | refine abr_no (by decide) ?_ | with_reducible refine abr_same_ne ?_); (conv => whnf))))
  cases hok : stOk w (ack, l)
  · ((conv => whnf); (repeat ((first | with_reducible refine abr_true rfl ?_ | with_reducible refine abr_false rfl ?_ | with_reducible refine abr_yes rfl ?_ | refine abr_yes (by decide) ?_ | refine abr_no (by decide) ?_ | with_reducible refine abr_same_ne ?_); (conv => whnf))))
    exact aret (VLe.refl _) hs ⟨by unfold sizeSt; rw [hok]; rfl, rfl⟩
  obtain ⟨hw, hn, h32, hall⟩ := stOk_parts hok
  dsimp only at hn h32 hall
  have hb := mssLen_le (w := w) (by omega)
  ((conv => whnf); (repeat ((first | with_reducible refine abr_true rfl ?_ | with_reducible refine abr_false rfl ?_ | with_reducible refine abr_yes rfl ?_ | refine abr_yes (by decide) ?_ | refine abr_no (by decide) ?_ | with_reducible refine abr_same_ne ?_); (conv => whnf))))
  (repeat ((first | refine aload (by (repeat (first | with_reducible exact upd_same _ _ _ | assumption | rw [upd_ne _ _ (by first | assumption | (apply Ne.symm; assumption))]))) rfl ?_ | refine afit_i64 (by omega) ?_ | refine arem_nonneg (by omega) (by omega) ?_ | refine adiv_i64 (by omega) (by omega) ?_ | refine abr_yes (by omega) ?_ | refine abr_no (by omega) ?_ | refine amin ?_ | refine amax ?_ | refine afit_u64 (by omega) ?_ | refine afit_u8 (by omega) ?_ | rw [List.length_map]); ((conv => whnf); (repeat ((first | with_reducible refine abr_true rfl ?_ | with_reducible refine abr_false rfl ?_ | with_reducible refine abr_yes rfl ?_ | refine abr_yes (by decide) ?_ | refine abr_no (by decide) ?_ | with_reducible refine abr_same_ne ?_); (conv => whnf))))))
  refine aloop (α := Nat × AHeap) (fun x => [(s5, i64v (5 + w + mssLen w (l.take x.1))), (s18, i64v x.1)]) (fun x => x.2) (fun x => x.1 ≤ l.length ∧ Sub x.2 σ) (fun x => l.length - x.1) (0, τ) ⟨Nat.zero_le _, hs⟩ (Sub.refl _) ?_ ?_
  · rw [List.take_zero, show 5 + w + mssLen w [] = 4 + w + 1 by show 5 + w + 0 = _; omega]
    ((conv => whnf); (repeat ((first | with_reducible refine abr_true rfl ?_ | with_reducible refine abr_false rfl ?_ | with_reducible refine abr_yes rfl ?_ | refine abr_yes (by decide) ?_ | refine abr_no (by decide) ?_ | with_reducible refine abr_same_ne ?_); (conv => whnf))))
    (repeat' first | with_reducible exact EnvLe.refl _ | (refine EnvLe.node ?_ (by first | exact Or.inl rfl | exact Or.inr (Or.inl rfl) | exact Or.inr (Or.inr ⟨nofun, VLe.slice _ _ _⟩)) ?_))
  rintro ⟨i, υ⟩ ⟨hi, hsu⟩
  dsimp only at hi hsu ⊢
  have hbi := hb (l.take i)
  rw [List.length_take] at hbi
  by_cases h : i < l.length
  · have hsn : mssLen w (l.take (i + 1)) = mssLen w (l.take i) + missLen w l[i] := by
      rw [show l.take (i + 1) = l.take i ++ [l[i]] from (List.take_append_getElem h).symm, mssLen_append]
      show _ = _ + _; unfold mssLen; unfold mssLen; omega
    have hml := missLen_le (w := w) (by omega) l[i]
    have hoff := offW_le w
    ((conv => whnf); (repeat ((first | with_reducible refine abr_true rfl ?_ | with_reducible refine abr_false rfl ?_ | with_reducible refine abr_yes rfl ?_ | refine abr_yes (by decide) ?_ | refine abr_no (by decide) ?_ | with_reducible refine abr_same_ne ?_); (conv => whnf))))
    (repeat ((first | refine aload (by (repeat (first | with_reducible exact upd_same _ _ _ | assumption | rw [upd_ne _ _ (by first | assumption | (apply Ne.symm; assumption))]))) rfl ?_ | refine afit_i64 (by omega) ?_ | refine arem_nonneg (by omega) (by omega) ?_ | refine adiv_i64 (by omega) (by omega) ?_ | refine abr_yes (by omega) ?_ | refine abr_no (by omega) ?_ | refine amin ?_ | refine amax ?_ | refine afit_u64 (by omega) ?_ | refine afit_u8 (by omega) ?_ | rw [List.length_map]); ((conv => whnf); (repeat ((first | with_reducible refine abr_true rfl ?_ | with_reducible refine abr_false rfl ?_ | with_reducible refine abr_yes rfl ?_ | refine abr_yes (by decide) ?_ | refine abr_no (by decide) ?_ | with_reducible refine abr_same_ne ?_); (conv => whnf))))))
    refine aget (by omega) (get_ms h) ?_
    ((conv => whnf); (repeat ((first | with_reducible refine abr_true rfl ?_ | with_reducible refine abr_false rfl ?_ | with_reducible refine abr_yes rfl ?_ | refine abr_yes (by decide) ?_ | refine abr_no (by decide) ?_ | with_reducible refine abr_same_ne ?_); (conv => whnf))))
    refine acells (l := (msV l[i]).cells) (by exact Nat.le_refl 4) rfl ?_
    ((conv => whnf); (repeat ((first | with_reducible refine abr_true rfl ?_ | with_reducible refine abr_false rfl ?_ | with_reducible refine abr_yes rfl ?_ | refine abr_yes (by decide) ?_ | refine abr_no (by decide) ?_ | with_reducible refine abr_same_ne ?_); (conv => whnf))))
    refine anew rfl fun i7 h7 => ?_
    ((conv => whnf); (repeat ((first | with_reducible refine abr_true rfl ?_ | with_reducible refine abr_false rfl ?_ | with_reducible refine abr_yes rfl ?_ | refine abr_yes (by decide) ?_ | refine abr_no (by decide) ?_ | with_reducible refine abr_same_ne ?_); (conv => whnf))))
    refine astore (xs := (msV l[i]).cells) (l := [i64v l[i].1, boolv l[i].2.1, i64v l[i].2.2.1, i64v l[i].2.2.2]) (upd_same _ _ _) (by exact Nat.le_refl 4) rfl rfl ?_
    rw [upd_upd]
    have k7 : upd υ i7 (.cells [i64v l[i].1, boolv l[i].2.1, i64v l[i].2.2.1, i64v l[i].2.2.2]) i7 = some (.cells [i64v l[i].1, boolv l[i].2.1, i64v l[i].2.2.1, i64v l[i].2.2.2]) := upd_same _ _ _
    have hs7 : Sub (upd υ i7 (.cells [i64v l[i].1, boolv l[i].2.1, i64v l[i].2.2.1, i64v l[i].2.2.2])) σ := sub_upd _ hsu (sub_none hsu h7)
    generalize upd υ i7 (.cells [i64v l[i].1, boolv l[i].2.1, i64v l[i].2.2.1, i64v l[i].2.2.2]) = υ2 at *
    ((conv => whnf); (repeat ((first | with_reducible refine abr_true rfl ?_ | with_reducible refine abr_false rfl ?_ | with_reducible refine abr_yes rfl ?_ | refine abr_yes (by decide) ?_ | refine abr_no (by decide) ?_ | with_reducible refine abr_same_ne ?_); (conv => whnf))))
    (repeat ((first | refine aload (by (repeat (first | with_reducible exact upd_same _ _ _ | assumption | rw [upd_ne _ _ (by first | assumption | (apply Ne.symm; assumption))]))) rfl ?_ | refine afit_i64 (by omega) ?_ | refine arem_nonneg (by omega) (by omega) ?_ | refine adiv_i64 (by omega) (by omega) ?_ | refine abr_yes (by omega) ?_ | refine abr_no (by omega) ?_ | refine amin ?_ | refine amax ?_ | refine afit_u64 (by omega) ?_ | refine afit_u8 (by omega) ?_ | rw [List.length_map]); ((conv => whnf); (repeat ((first | with_reducible refine abr_true rfl ?_ | with_reducible refine abr_false rfl ?_ | with_reducible refine abr_yes rfl ?_ | refine abr_yes (by decide) ?_ | refine abr_no (by decide) ?_ | with_reducible refine abr_same_ne ?_); (conv => whnf))))))
    cases hp : l[i].2.1
    · have hl2 : missLen w l[i] = w + 2 := by unfold missLen; rw [hp, if_neg (by decide)]; omega
      ((conv => whnf); (repeat ((first | with_reducible refine abr_true rfl ?_ | with_reducible refine abr_false rfl ?_ | with_reducible refine abr_yes rfl ?_ | refine abr_yes (by decide) ?_ | refine abr_no (by decide) ?_ | with_reducible refine abr_same_ne ?_); (conv => whnf))))
      (repeat ((first | refine aload (by (repeat (first | with_reducible exact upd_same _ _ _ | assumption | rw [upd_ne _ _ (by first | assumption | (apply Ne.symm; assumption))]))) rfl ?_ | refine afit_i64 (by omega) ?_ | refine arem_nonneg (by omega) (by omega) ?_ | refine adiv_i64 (by omega) (by omega) ?_ | refine abr_yes (by omega) ?_ | refine abr_no (by omega) ?_ | refine amin ?_ | refine amax ?_ | refine afit_u64 (by omega) ?_ | refine afit_u8 (by omega) ?_ | rw [List.length_map]); ((conv => whnf); (repeat ((first | with_reducible refine abr_true rfl ?_ | with_reducible refine abr_false rfl ?_ | with_reducible refine abr_yes rfl ?_ | refine abr_yes (by decide) ?_ | refine abr_no (by decide) ?_ | with_reducible refine abr_same_ne ?_); (conv => whnf))))))
      refine ⟨(i + 1, υ2), ⟨h, hs7⟩, by dsimp only; omega, Sub.refl _, ?_⟩
      rw [hsn, hl2, show 5 + w + (mssLen w (l.take i) + (w + 2)) = 5 + w + mssLen w (l.take i) + (w + 2) by omega]
      ((conv => whnf); (repeat ((first | with_reducible refine abr_true rfl ?_ | with_reducible refine abr_false rfl ?_ | with_reducible refine abr_yes rfl ?_ | refine abr_yes (by decide) ?_ | refine abr_no (by decide) ?_ | with_reducible refine abr_same_ne ?_); (conv => whnf))))
      (repeat' first | with_reducible exact EnvLe.refl _ | (refine EnvLe.node ?_ (by first | exact Or.inl rfl | exact Or.inr (Or.inl rfl) | exact Or.inr (Or.inr ⟨nofun, VLe.slice _ _ _⟩)) ?_))
    · have hl2 : missLen w l[i] = w + 2 + 2 * (offW w : Int) := by unfold missLen; rw [hp, if_pos rfl]
      ((conv => whnf); (repeat ((first | with_reducible refine abr_true rfl ?_ | with_reducible refine abr_false rfl ?_ | with_reducible refine abr_yes rfl ?_ | refine abr_yes (by decide) ?_ | refine abr_no (by decide) ?_ | with_reducible refine abr_same_ne ?_); (conv => whnf))))
      refine acall (tOff w _) ?_
      rintro _ σ_ ⟨rfl, e_⟩
      obtain rfl := e_.symm
      refine ⟨?_, Ext.refl _⟩
      ((conv => whnf); (repeat ((first | with_reducible refine abr_true rfl ?_ | with_reducible refine abr_false rfl ?_ | with_reducible refine abr_yes rfl ?_ | refine abr_yes (by decide) ?_ | refine abr_no (by decide) ?_ | with_reducible refine abr_same_ne ?_); (conv => whnf))))
      (repeat ((first | refine aload (by (repeat (first | with_reducible exact upd_same _ _ _ | assumption | rw [upd_ne _ _ (by first | assumption | (apply Ne.symm; assumption))]))) rfl ?_ | refine afit_i64 (by omega) ?_ | refine arem_nonneg (by omega) (by omega) ?_ | refine adiv_i64 (by omega) (by omega) ?_ | refine abr_yes (by omega) ?_ | refine abr_no (by omega) ?_ | refine amin ?_ | refine amax ?_ | refine afit_u64 (by omega) ?_ | refine afit_u8 (by omega) ?_ | rw [List.length_map]); ((conv => whnf); (repeat ((first | with_reducible refine abr_true rfl ?_ | with_reducible refine abr_false rfl ?_ | with_reducible refine abr_yes rfl ?_ | refine abr_yes (by decide) ?_ | refine abr_no (by decide) ?_ | with_reducible refine abr_same_ne ?_); (conv => whnf))))))
      refine ⟨(i + 1, υ2), ⟨h, hs7⟩, by dsimp only; omega, Sub.refl _, ?_⟩
      rw [hsn, hl2, show 5 + w + (mssLen w (l.take i) + (w + 2 + 2 * (offW w : Int))) = 5 + w + mssLen w (l.take i) + (w + 2) + 2 * (offW w : Int) by omega]
      ((conv => whnf); (repeat ((first | with_reducible refine abr_true rfl ?_ | with_reducible refine abr_false rfl ?_ | with_reducible refine abr_yes rfl ?_ | refine abr_yes (by decide) ?_ | refine abr_no (by decide) ?_ | with_reducible refine abr_same_ne ?_); (conv => whnf))))
      (repeat' first | with_reducible exact EnvLe.refl _ | (refine EnvLe.node ?_ (by first | exact Or.inl rfl | exact Or.inr (Or.inl rfl) | exact Or.inr (Or.inr ⟨nofun, VLe.slice _ _ _⟩)) ?_))
  · obtain rfl : i = l.length := by omega
    rw [List.take_length] at hbi ⊢
    ((conv => whnf); (repeat ((first | with_reducible refine abr_true rfl ?_ | with_reducible refine abr_false rfl ?_ | with_reducible refine abr_yes rfl ?_ | refine abr_yes (by decide) ?_ | refine abr_no (by decide) ?_ | with_reducible refine abr_same_ne ?_); (conv => whnf))))
    (repeat ((first | refine aload (by (repeat (first | with_reducible exact upd_same _ _ _ | assumption | rw [upd_ne _ _ (by first | assumption | (apply Ne.symm; assumption))]))) rfl ?_ | refine afit_i64 (by omega) ?_ | refine arem_nonneg (by omega) (by omega) ?_ | refine adiv_i64 (by omega) (by omega) ?_ | refine abr_yes (by omega) ?_ | refine abr_no (by omega) ?_ | refine amin ?_ | refine amax ?_ | refine afit_u64 (by omega) ?_ | refine afit_u8 (by omega) ?_ | rw [List.length_map]); ((conv => whnf); (repeat ((first | with_reducible refine abr_true rfl ?_ | with_reducible refine abr_false rfl ?_ | with_reducible refine abr_yes rfl ?_ | refine abr_yes (by decide) ?_ | refine abr_no (by decide) ?_ | with_reducible refine abr_same_ne ?_); (conv => whnf))))))
    refine aret (VLe.refl _) hsu ⟨?_, rfl⟩
    unfold sizeSt
    rw [hok, if_pos rfl]
    congr 3
    dsimp only
    omega

theorem Wr.new {σ σb : AHeap} {id : Nat} {bs : List Bool} (h : Wr σ id bs σb) {j : Nat} (o : AObj) (hj : σ j = none) : Wr (upd σ j o) id bs (upd σb j o) ∧ σb j = none := by
  obtain ⟨hid, h⟩ := h
  rcases h with ⟨hn, rfl⟩ | ⟨hn, r, hri, hr, rfl⟩
  · have e : j ≠ id := fun e => by subst e; rw [upd_same] at hj; cases hj
    rw [upd_ne _ _ e] at hj
    exact ⟨⟨by rw [upd_ne _ _ (Ne.symm e)]; exact hid, .inl ⟨hn, upd_comm _ _ _ (Ne.symm e)⟩⟩, hj⟩
  · have e : j ≠ id := fun e => by subst e; rw [upd_same] at hj; cases hj
    rw [upd_ne _ _ e] at hj
    have e2 : j ≠ r := fun e => by subst e; rw [upd_same] at hj; cases hj
    rw [upd_ne _ _ e2] at hj
    refine ⟨⟨by rw [upd_ne _ _ (Ne.symm e)]; exact hid, .inr ⟨hn, r, hri, by rw [upd_ne _ _ (Ne.symm e2)]; exact hr, ?_⟩⟩, hj⟩
    rw [upd_comm _ _ _ (Ne.symm e), upd_comm _ _ _ (Ne.symm e2)]
theorem Wr.keep {σ σb : AHeap} {id : Nat} {bs : List Bool} (h : Wr σ id bs σb) {j : Nat} {o : AObj} (hj : σb j = some o) : σ j = some o := by
  obtain ⟨hid, h⟩ := h
  have e : j ≠ id := fun e => by subst e; rw [hid] at hj; cases hj
  rcases h with ⟨hn, rfl⟩ | ⟨hn, r, hri, hr, rfl⟩
  · rw [upd_ne _ _ e]; exact hj
  · have e2 : j ≠ r := fun e => by subst e; rw [hr] at hj; cases hj
    rw [upd_ne _ _ e, upd_ne _ _ e2]; exact hj
theorem put_fine (bs : List Bool) (v : Nat) (n : Int) (h0 : 0 ≤ n) (h64 : n ≤ 64) (hl : (bs.length : Int) + n ≤ 65536) (hv : v < 2 ^ n.toNat) : putCode bs.length v n = 0 ∧ putBits bs v n = bs ++ numBits v n.toNat := by
  have hc : putCode bs.length v n = 0 := by
    refine putCode_fine ?_ (by omega)
    unfold putBad
    rw [decide_eq_false (by omega), decide_eq_false (by omega), decide_eq_false]
    · rfl
    · rw [Nat.div_eq_of_lt hv]; exact fun h => h rfl
  exact ⟨hc, putBits_ok hc⟩
theorem isNum_lt {w n : Int} (hw : w = 10 ∨ w = 16) (h : isNum w n = true) : 0 ≤ n ∧ n.toNat < 2 ^ w.toNat := by
  unfold isNum at h
  have h := of_decide_eq_true h
  rcases hw with rfl | rfl
  · rw [show spaceSize 10 = 1024 by decide] at h
    show _ ∧ _ < 1024
    omega
  · rw [show spaceSize 16 = 65536 by decide] at h
    show _ ∧ _ < 65536
    omega
theorem plcs_pow (w : Int) : (plcs w).toNat = 2 ^ offW w := by
  unfold plcs offW; split <;> rfl
theorem missOk_part {w : Int} {m : Ms} (h : missOk w m = true) (hp : m.2.1 = true) : 0 ≤ m.2.2.1 ∧ m.2.2.1.toNat < 2 ^ offW w ∧ 0 ≤ m.2.2.2 ∧ lastV w m.2.2.2 < 2 ^ offW w := by
  unfold missOk at h
  rw [hp, if_pos rfl, Bool.and_eq_true] at h
  have h := of_decide_eq_true h.2
  have hp := plcs_pow w
  have hpos : 0 < 2 ^ offW w := Nat.two_pow_pos _
  unfold lastV
  refine ⟨h.1, by omega, by omega, ?_⟩
  split
  · omega
  · omega
theorem missOk_num {w : Int} {m : Ms} (h : missOk w m = true) : isNum w m.1 = true := by
  unfold missOk at h; rw [Bool.and_eq_true] at h; exact h.1
theorem numBits_one (b : Bool) : numBits b.toNat 1 = [b] := by cases b <;> rfl
theorem shl1_u64n (k : Nat) (h : k ≤ 62) : IntKind.u64.wrap ((1 : Int) * 2 ^ (min ((k : Nat) : Int).toNat IntKind.u64.bits)) = ((2 ^ k : Nat) : Int) := by
  have h1 : 2 ^ k ≤ 2 ^ 62 := Nat.pow_le_pow_right (by omega) h
  rw [Int.toNat_natCast, Nat.min_eq_left (show k ≤ IntKind.u64.bits by show k ≤ 64; omega), Int.one_mul]
  have e : (2 : Int) ^ k = ((2 ^ k : Nat) : Int) := by simp
  rw [e]
  exact wrap_u64 (Int.natCast_nonneg _) (Int.ofNat_lt.2 (Nat.lt_of_le_of_lt h1 (by decide)))
theorem and_mask (x k : Nat) (hx : x < 18446744073709551616) (hk : k ≤ 62) : bitsOp .and .u64 (x : Int) (((2 ^ k - 1 : Nat) : Nat) : Int) = ((x % 2 ^ k : Nat) : Int) := by
  have h62 : 2 ^ k ≤ 2 ^ 62 := Nat.pow_le_pow_right (by omega) hk
  have h1 : BitVec.ofInt 64 (x : Int) = BitVec.ofNat 64 x := by simp
  have h2 : BitVec.ofInt 64 ((2 ^ k - 1 : Nat) : Int) = BitVec.ofNat 64 (2 ^ k - 1) := BitVec.ofInt_natCast _ _
  show IntKind.u64.wrap ((BitVec.ofInt 64 (x : Int) &&& BitVec.ofInt 64 ((2 ^ k - 1 : Nat) : Int)).toNat) = _
  rw [h1, h2]
  have : (BitVec.ofNat 64 x &&& BitVec.ofNat 64 (2 ^ k - 1)).toNat = x % 2 ^ k := by
    rw [BitVec.toNat_and, BitVec.toNat_ofNat, BitVec.toNat_ofNat, Nat.mod_eq_of_lt hx, Nat.mod_eq_of_lt (Nat.lt_of_le_of_lt (Nat.sub_le _ _) (Nat.lt_of_le_of_lt h62 (by decide)))]
    exact Nat.and_two_pow_sub_one_eq_mod x k
  have hlt : x % 2 ^ k < 2 ^ k := Nat.mod_lt _ (Nat.two_pow_pos _)
  rw [this]
  exact wrap_u64 (Int.natCast_nonneg _) (Int.ofNat_lt.2 (Nat.lt_of_lt_of_le hlt (Nat.le_trans h62 (by decide))))
def preLast (to : Int) : Nat := if to = 0 then 18446744073709551615 else to.toNat - 1
theorem preLast_wrap {to : Int} (h : 0 ≤ to ∧ to ≤ 65536) : IntKind.u64.wrap (to - 1) = (preLast to : Int) := by
  unfold preLast
  split
  · rename_i e; subst e; decide
  · rw [show ((to.toNat - 1 : Nat) : Int) = to - 1 by omega]; exact wrap_u64 (by omega) (by omega)
theorem preLast_lt {to : Int} (h : 0 ≤ to ∧ to ≤ 65536) : preLast to < 18446744073709551616 := by unfold preLast; split <;> omega
theorem preLast_mod {w to : Int} (h : 0 ≤ to) (hl : lastV w to < 2 ^ offW w) : preLast to % 2 ^ offW w = lastV w to := by
  have hp := plcs_pow w
  unfold lastV at hl ⊢
  unfold preLast
  by_cases e : to = 0
  · rw [if_pos e, if_pos e]
    unfold plcs offW at *
    split at hp
    · rename_i e10; rw [if_pos e10]; rfl
    · rename_i e10; rw [if_neg e10]; rfl
  · rw [if_neg e] at hl
    rw [if_neg e, if_neg e]
    exact Nat.mod_eq_of_lt hl
def writeSt (w : Int) (s : Int × List Ms) : List UInt8 := if stOk w s = true then pack (stBits w s) else []
def writeCode (w : Int) (s : Int × List Ms) : Int := if stWidth w = true then (if stOk w s = true then 0 else 3) else 9

set_option maxRecDepth 20000 in
theorem tWrite (s : Int × List Ms) (t : Tok) (w : Int) (σ : AHeap) (hl : s.2.length ≤ 9223372036854775807) : ACalls Try.prog i_status_Write [stV t s, i64v w] σ fun v σ' => v = .tup [sl .none (writeSt w s), i64v (writeCode w s)] ∧ σ' = σ := by
  obtain ⟨ack, l⟩ := s
  dsimp only at hl
  refine k_status_Write rfl ?_
  ((conv => whnf); (repeat ((first | with_reducible refine abr_true rfl ?_ | with_reducible refine abr_false rfl ?_ | with_reducible refine abr_yes rfl ?_ | refine abr_yes (by decide) ?_ | refine abr_no (by decide) ?_ | with_reducible refine abr_same_ne ?_); (conv => whnf))))
  refine anew rfl fun i1 h1 => ?_
  have k1 : upd σ i1 (.cells (stV t (ack, l)).cells) i1 = some (.cells [i64v ack, missV t l]) := upd_same _ _ _
  have hs : Sub (upd σ i1 (.cells (stV t (ack, l)).cells)) σ := Sub.upd_fresh _ h1
  generalize upd σ i1 (.cells (stV t (ack, l)).cells) = τ at *
  ((conv => whnf); (repeat ((first | with_reducible refine abr_true rfl ?_ | with_reducible refine abr_false rfl ?_ | with_reducible refine abr_yes rfl ?_ | refine abr_yes (by decide) ?_ | refine abr_no (by decide) ?_ | with_reducible refine abr_same_ne ?_); (conv => whnf))))
  refine acall (tIsWidth w _) ?_
  rintro _ σ_ ⟨rfl, e_⟩
  obtain rfl := e_.symm
  refine ⟨?_, Ext.refl _⟩
  ((conv => whnf); (repeat ((first | with_reducible refine abr_true rfl ?_ | with_reducible refine abr_false rfl ?_ | with_reducible refine abr_yes rfl ?_ | refine abr_yes (by decide) ?_ | refine abr_no (by decide) ?_ | with_reducible refine abr_same_ne ?_); (conv => whnf))))
  cases hsw : stWidth w
  · have hno : stOk w (ack, l) = false := by unfold stOk; rw [hsw]; rfl
    ((conv => whnf); (repeat ((first | with_reducible refine abr_true rfl ?_ | with_reducible refine abr_false rfl ?_ | with_reducible refine abr_yes rfl ?_ | refine abr_yes (by decide) ?_ | refine abr_no (by decide) ?_ | with_reducible refine abr_same_ne ?_); (conv => whnf))))
    refine aret_sl1 hs ⟨?_, rfl⟩
    unfold writeSt writeCode
    rw [hno, hsw]; rfl
  ((conv => whnf); (repeat ((first | with_reducible refine abr_true rfl ?_ | with_reducible refine abr_false rfl ?_ | with_reducible refine abr_yes rfl ?_ | refine abr_yes (by decide) ?_ | refine abr_no (by decide) ?_ | with_reducible refine abr_same_ne ?_); (conv => whnf))))
  refine aloads (l := [i64v ack, missV t l]) k1 (by exact Nat.le_refl 2) rfl ?_
  ((conv => whnf); (repeat ((first | with_reducible refine abr_true rfl ?_ | with_reducible refine abr_false rfl ?_ | with_reducible refine abr_yes rfl ?_ | refine abr_yes (by decide) ?_ | refine abr_no (by decide) ?_ | with_reducible refine abr_same_ne ?_); (conv => whnf))))
  refine acall (tRight (ack, l) t w _ hl) ?_
  rintro _ σ_ ⟨rfl, e_⟩
  obtain rfl := e_.symm
  refine ⟨?_, Ext.refl _⟩
  ((conv => whnf); (repeat ((first | with_reducible refine abr_true rfl ?_ | with_reducible refine abr_false rfl ?_ | with_reducible refine abr_yes rfl ?_ | refine abr_yes (by decide) ?_ | refine abr_no (by decide) ?_ | with_reducible refine abr_same_ne ?_); (conv => whnf))))
  cases hok : stOk w (ack, l)
  · ((conv => whnf); (repeat ((first | with_reducible refine abr_true rfl ?_ | with_reducible refine abr_false rfl ?_ | with_reducible refine abr_yes rfl ?_ | refine abr_yes (by decide) ?_ | refine abr_no (by decide) ?_ | with_reducible refine abr_same_ne ?_); (conv => whnf))))
    refine aret_sl1 hs ⟨?_, rfl⟩
    unfold writeSt writeCode
    rw [hok, hsw]; rfl
  have hfin : (.tup [sl .none (writeSt w (ack, l)), i64v (writeCode w (ack, l))] : AVal) = .tup [sl .none (pack (stBits w (ack, l))), i64v 0] := by
    unfold writeSt writeCode; rw [hok, hsw]; rfl
  rw [hfin]
  obtain ⟨hw, hn, h32, hall⟩ := stOk_parts hok
  dsimp only at hn h32 hall
  have hfl := stBits_length (w := w) (by omega) (ack, l)
  have hb := mssLen_le (w := w) (by omega) l
  dsimp only at hfl
  have hsb : stBits w (ack, l) = List.replicate 4 false ++ (numBits ack.toNat w.toNat ++ ([decide (0 < l.length)] ++ mssBits w l)) := rfl
  generalize stBits w (ack, l) = full at *
  obtain ⟨ha0, halt⟩ := isNum_lt hw hn
  ((conv => whnf); (repeat ((first | with_reducible refine abr_true rfl ?_ | with_reducible refine abr_false rfl ?_ | with_reducible refine abr_yes rfl ?_ | refine abr_yes (by decide) ?_ | refine abr_no (by decide) ?_ | with_reducible refine abr_same_ne ?_); (conv => whnf))))
  refine acall (wNew _) ?_
  rintro _ σ1 ⟨iw, rfl, w1⟩
  refine ⟨?_, w1.ext⟩
  ((conv => whnf); (repeat ((first | with_reducible refine abr_true rfl ?_ | with_reducible refine abr_false rfl ?_ | with_reducible refine abr_yes rfl ?_ | refine abr_yes (by decide) ?_ | refine abr_no (by decide) ?_ | with_reducible refine abr_same_ne ?_); (conv => whnf))))
  refine acall (wPut iw _ 0 4 _ _ w1 (by omega) (by simp)) ?_
  rintro _ σ2 ⟨rfl, w2⟩
  rw [(put_fine [] 0 4 (by omega) (by omega) (by simp) (by decide)).2] at w2
  ((conv => whnf); (repeat ((first | with_reducible refine abr_true rfl ?_ | with_reducible refine abr_false rfl ?_ | with_reducible refine abr_yes rfl ?_ | refine abr_yes (by decide) ?_ | refine abr_no (by decide) ?_ | with_reducible refine abr_same_ne ?_); (conv => whnf))))
  refine aload (w2.keep k1) rfl ?_
  ((conv => whnf); (repeat ((first | with_reducible refine abr_true rfl ?_ | with_reducible refine abr_false rfl ?_ | with_reducible refine abr_yes rfl ?_ | refine abr_yes (by decide) ?_ | refine abr_no (by decide) ?_ | with_reducible refine abr_same_ne ?_); (conv => whnf))))
  have w16 : 2 ^ w.toNat ≤ 65536 := Nat.le_trans (Nat.pow_le_pow_right (n := 2) (by omega) (show w.toNat ≤ 16 by omega)) (by decide)
  refine afit_eq (m := ((ack.toNat : Nat) : Int)) (by rw [Int.toNat_of_nonneg ha0]; exact wrap_u64 (by omega) (by omega)) ?_
  ((conv => whnf); (repeat ((first | with_reducible refine abr_true rfl ?_ | with_reducible refine abr_false rfl ?_ | with_reducible refine abr_yes rfl ?_ | refine abr_yes (by decide) ?_ | refine abr_no (by decide) ?_ | with_reducible refine abr_same_ne ?_); (conv => whnf))))
  have e4 : ([] ++ numBits 0 (Int.toNat 4)) = List.replicate 4 false := by decide
  rw [e4] at w2
  refine acall (wPut iw _ ack.toNat w _ _ w2 (by omega) (by decide)) ?_
  rintro _ σ3 ⟨rfl, w3⟩
  rw [(put_fine (List.replicate 4 false) ack.toNat w (by omega) (by omega) (by rw [List.length_replicate]; omega) halt).2] at w3
  ((conv => whnf); (repeat ((first | with_reducible refine abr_true rfl ?_ | with_reducible refine abr_false rfl ?_ | with_reducible refine abr_yes rfl ?_ | refine abr_yes (by decide) ?_ | refine abr_no (by decide) ?_ | with_reducible refine abr_same_ne ?_); (conv => whnf))))
  refine aload (w3.keep k1) rfl ?_
  ((conv => whnf); (repeat ((first | with_reducible refine abr_true rfl ?_ | with_reducible refine abr_false rfl ?_ | with_reducible refine abr_yes rfl ?_ | refine abr_yes (by decide) ?_ | refine abr_no (by decide) ?_ | with_reducible refine abr_same_ne ?_); (conv => whnf))))
  rw [List.length_map]
  rw [@dec_congr (0 < (l.length : Int)) (0 < l.length) _ inferInstance (by omega)]
  refine acall (tBit (decide (0 < l.length)) _) ?_
  rintro _ σ_ ⟨rfl, e_⟩
  obtain rfl := e_.symm
  refine ⟨?_, Ext.refl _⟩
  ((conv => whnf); (repeat ((first | with_reducible refine abr_true rfl ?_ | with_reducible refine abr_false rfl ?_ | with_reducible refine abr_yes rfl ?_ | refine abr_yes (by decide) ?_ | refine abr_no (by decide) ?_ | with_reducible refine abr_same_ne ?_); (conv => whnf))))
  refine acall (wPut iw _ _ 1 _ _ w3 (by cases decide (0 < l.length) <;> decide) (by rw [List.length_append, List.length_replicate, numBits_length]; omega)) ?_
  rintro _ σ4 ⟨rfl, w4⟩
  rw [(put_fine (List.replicate 4 false ++ numBits ack.toNat w.toNat) (decide (0 < l.length)).toNat 1 (by omega) (by omega) (by rw [List.length_append, List.length_replicate, numBits_length]; omega) (by cases decide (0 < l.length) <;> decide)).2] at w4
  rw [show (1 : Int).toNat = 1 from rfl, numBits_one] at w4
  ((conv => whnf); (repeat ((first | with_reducible refine abr_true rfl ?_ | with_reducible refine abr_false rfl ?_ | with_reducible refine abr_yes rfl ?_ | refine abr_yes (by decide) ?_ | refine abr_no (by decide) ?_ | with_reducible refine abr_same_ne ?_); (conv => whnf))))
  refine aload (w4.keep k1) rfl ?_
  ((conv => whnf); (repeat ((first | with_reducible refine abr_true rfl ?_ | with_reducible refine abr_false rfl ?_ | with_reducible refine abr_yes rfl ?_ | refine abr_yes (by decide) ?_ | refine abr_no (by decide) ?_ | with_reducible refine abr_same_ne ?_); (conv => whnf))))
  (repeat ((first | refine aload (by (repeat (first | with_reducible exact upd_same _ _ _ | assumption | rw [upd_ne _ _ (by first | assumption | (apply Ne.symm; assumption))]))) rfl ?_ | refine afit_i64 (by omega) ?_ | refine arem_nonneg (by omega) (by omega) ?_ | refine adiv_i64 (by omega) (by omega) ?_ | refine abr_yes (by omega) ?_ | refine abr_no (by omega) ?_ | refine amin ?_ | refine amax ?_ | refine afit_u64 (by omega) ?_ | refine afit_u8 (by omega) ?_ | rw [List.length_map]); ((conv => whnf); (repeat ((first | with_reducible refine abr_true rfl ?_ | with_reducible refine abr_false rfl ?_ | with_reducible refine abr_yes rfl ?_ | refine abr_yes (by decide) ?_ | refine abr_no (by decide) ?_ | with_reducible refine abr_same_ne ?_); (conv => whnf))))))
  refine aloop (α := Nat × List Bool × AHeap × AHeap) (fun x => [(s38, i64v x.1)]) (fun x => x.2.2.1) (fun x => x.1 ≤ l.length ∧ x.2.1 ++ mssBits w (l.drop x.1) = full ∧ Wr x.2.2.1 iw x.2.1 x.2.2.2 ∧ x.2.2.2 i1 = some (.cells [i64v ack, missV t l]) ∧ Sub x.2.2.2 σ) (fun x => l.length - x.1) (0, _, σ4, τ) ⟨Nat.zero_le _, ?_, w4, k1, hs⟩ (Sub.refl _) ?_ ?_
  · dsimp only
    rw [hsb, List.drop_zero]
    simp only [List.append_assoc]
  · ((conv => whnf); (repeat ((first | with_reducible refine abr_true rfl ?_ | with_reducible refine abr_false rfl ?_ | with_reducible refine abr_yes rfl ?_ | refine abr_yes (by decide) ?_ | refine abr_no (by decide) ?_ | with_reducible refine abr_same_ne ?_); (conv => whnf))))
    (repeat' first | with_reducible exact EnvLe.refl _ | (refine EnvLe.node ?_ (by first | exact Or.inl rfl | exact Or.inr (Or.inl rfl) | exact Or.inr (Or.inr ⟨nofun, VLe.slice _ _ _⟩)) ?_))
  rintro ⟨i, bs, σ5, σb⟩ ⟨hi, hbs, w5, kb, hsb5⟩
  dsimp only at hi hbs w5 kb hsb5 ⊢
  have hbl : bs.length ≤ 1700 := by
    have := congrArg List.length hbs
    rw [List.length_append] at this
    omega
  by_cases h : i < l.length
  · have hm : missOk w l[i] = true := List.all_eq_true.1 hall _ (List.getElem_mem h)
    have hdrop : mssBits w (l.drop i) = missBits w (decide (i + 1 < l.length)) l[i] ++ mssBits w (l.drop (i + 1)) := by
      rw [List.drop_eq_getElem_cons h]
      show missBits w (!(l.drop (i + 1)).isEmpty) l[i] ++ _ = _
      congr 2
      by_cases e : i + 1 < l.length
      · rw [decide_eq_true e, List.drop_eq_getElem_cons e]; rfl
      · rw [decide_eq_false e, List.drop_eq_nil_of_le (by omega)]; rfl
    rw [hdrop, ← List.append_assoc] at hbs
    obtain ⟨hs0, hslt⟩ := isNum_lt hw (missOk_num hm)
    ((conv => whnf); (repeat ((first | with_reducible refine abr_true rfl ?_ | with_reducible refine abr_false rfl ?_ | with_reducible refine abr_yes rfl ?_ | refine abr_yes (by decide) ?_ | refine abr_no (by decide) ?_ | with_reducible refine abr_same_ne ?_); (conv => whnf))))
    (repeat ((first | refine aload (by (repeat (first | with_reducible exact upd_same _ _ _ | assumption | rw [upd_ne _ _ (by first | assumption | (apply Ne.symm; assumption))]))) rfl ?_ | refine afit_i64 (by omega) ?_ | refine arem_nonneg (by omega) (by omega) ?_ | refine adiv_i64 (by omega) (by omega) ?_ | refine abr_yes (by omega) ?_ | refine abr_no (by omega) ?_ | refine amin ?_ | refine amax ?_ | refine afit_u64 (by omega) ?_ | refine afit_u8 (by omega) ?_ | rw [List.length_map]); ((conv => whnf); (repeat ((first | with_reducible refine abr_true rfl ?_ | with_reducible refine abr_false rfl ?_ | with_reducible refine abr_yes rfl ?_ | refine abr_yes (by decide) ?_ | refine abr_no (by decide) ?_ | with_reducible refine abr_same_ne ?_); (conv => whnf))))))
    refine aget (by omega) (get_ms h) ?_
    ((conv => whnf); (repeat ((first | with_reducible refine abr_true rfl ?_ | with_reducible refine abr_false rfl ?_ | with_reducible refine abr_yes rfl ?_ | refine abr_yes (by decide) ?_ | refine abr_no (by decide) ?_ | with_reducible refine abr_same_ne ?_); (conv => whnf))))
    refine acells (l := (msV l[i]).cells) (by exact Nat.le_refl 4) rfl ?_
    ((conv => whnf); (repeat ((first | with_reducible refine abr_true rfl ?_ | with_reducible refine abr_false rfl ?_ | with_reducible refine abr_yes rfl ?_ | refine abr_yes (by decide) ?_ | refine abr_no (by decide) ?_ | with_reducible refine abr_same_ne ?_); (conv => whnf))))
    refine anew rfl fun i7 h7 => ?_
    ((conv => whnf); (repeat ((first | with_reducible refine abr_true rfl ?_ | with_reducible refine abr_false rfl ?_ | with_reducible refine abr_yes rfl ?_ | refine abr_yes (by decide) ?_ | refine abr_no (by decide) ?_ | with_reducible refine abr_same_ne ?_); (conv => whnf))))
    refine astore (xs := (msV l[i]).cells) (l := [i64v l[i].1, boolv l[i].2.1, i64v l[i].2.2.1, i64v l[i].2.2.2]) (upd_same _ _ _) (by exact Nat.le_refl 4) rfl rfl ?_
    rw [upd_upd]
    obtain ⟨w6, hb7⟩ := w5.new (.cells [i64v l[i].1, boolv l[i].2.1, i64v l[i].2.2.1, i64v l[i].2.2.2]) h7
    have n7 : i1 ≠ i7 := fun e => by subst e; rw [kb] at hb7; cases hb7
    have kb1 : upd σb i7 (.cells [i64v l[i].1, boolv l[i].2.1, i64v l[i].2.2.1, i64v l[i].2.2.2]) i1 = some (.cells [i64v ack, missV t l]) := (upd_ne _ _ n7).trans kb
    have kb7 : upd σb i7 (.cells [i64v l[i].1, boolv l[i].2.1, i64v l[i].2.2.1, i64v l[i].2.2.2]) i7 = some (.cells [i64v l[i].1, boolv l[i].2.1, i64v l[i].2.2.1, i64v l[i].2.2.2]) := upd_same _ _ _
    have hsb7 : Sub (upd σb i7 (.cells [i64v l[i].1, boolv l[i].2.1, i64v l[i].2.2.1, i64v l[i].2.2.2])) σ := sub_upd _ hsb5 (sub_none hsb5 hb7)
    generalize upd σb i7 (.cells [i64v l[i].1, boolv l[i].2.1, i64v l[i].2.2.1, i64v l[i].2.2.2]) = σc at *
    generalize upd σ5 i7 (.cells [i64v l[i].1, boolv l[i].2.1, i64v l[i].2.2.1, i64v l[i].2.2.2]) = σ6 at *
    ((conv => whnf); (repeat ((first | with_reducible refine abr_true rfl ?_ | with_reducible refine abr_false rfl ?_ | with_reducible refine abr_yes rfl ?_ | refine abr_yes (by decide) ?_ | refine abr_no (by decide) ?_ | with_reducible refine abr_same_ne ?_); (conv => whnf))))
    refine aload (w6.keep kb7) rfl ?_
    ((conv => whnf); (repeat ((first | with_reducible refine abr_true rfl ?_ | with_reducible refine abr_false rfl ?_ | with_reducible refine abr_yes rfl ?_ | refine abr_yes (by decide) ?_ | refine abr_no (by decide) ?_ | with_reducible refine abr_same_ne ?_); (conv => whnf))))
    refine afit_eq (m := ((l[i].1.toNat : Nat) : Int)) (by rw [Int.toNat_of_nonneg hs0]; exact wrap_u64 (by omega) (by omega)) ?_
    ((conv => whnf); (repeat ((first | with_reducible refine abr_true rfl ?_ | with_reducible refine abr_false rfl ?_ | with_reducible refine abr_yes rfl ?_ | refine abr_yes (by decide) ?_ | refine abr_no (by decide) ?_ | with_reducible refine abr_same_ne ?_); (conv => whnf))))
    refine acall (wPut iw _ l[i].1.toNat w _ _ w6 (by omega) (by omega)) ?_
    rintro _ σ7 ⟨rfl, w7⟩
    rw [(put_fine bs l[i].1.toNat w (by omega) (by omega) (by omega) hslt).2] at w7
    ((conv => whnf); (repeat ((first | with_reducible refine abr_true rfl ?_ | with_reducible refine abr_false rfl ?_ | with_reducible refine abr_yes rfl ?_ | refine abr_yes (by decide) ?_ | refine abr_no (by decide) ?_ | with_reducible refine abr_same_ne ?_); (conv => whnf))))
    refine aload (w7.keep kb1) rfl ?_
    ((conv => whnf); (repeat ((first | with_reducible refine abr_true rfl ?_ | with_reducible refine abr_false rfl ?_ | with_reducible refine abr_yes rfl ?_ | refine abr_yes (by decide) ?_ | refine abr_no (by decide) ?_ | with_reducible refine abr_same_ne ?_); (conv => whnf))))
    (repeat ((first | refine aload (by (repeat (first | with_reducible exact upd_same _ _ _ | assumption | rw [upd_ne _ _ (by first | assumption | (apply Ne.symm; assumption))]))) rfl ?_ | refine afit_i64 (by omega) ?_ | refine arem_nonneg (by omega) (by omega) ?_ | refine adiv_i64 (by omega) (by omega) ?_ | refine abr_yes (by omega) ?_ | refine abr_no (by omega) ?_ | refine amin ?_ | refine amax ?_ | refine afit_u64 (by omega) ?_ | refine afit_u8 (by omega) ?_ | rw [List.length_map]); ((conv => whnf); (repeat ((first | with_reducible refine abr_true rfl ?_ | with_reducible refine abr_false rfl ?_ | with_reducible refine abr_yes rfl ?_ | refine abr_yes (by decide) ?_ | refine abr_no (by decide) ?_ | with_reducible refine abr_same_ne ?_); (conv => whnf))))))
    rw [@dec_congr ((i : Int) < (l.length : Int) - 1) (i + 1 < l.length) _ inferInstance (by omega)]
    refine acall (tBit (decide (i + 1 < l.length)) _) ?_
    rintro _ σ_ ⟨rfl, e_⟩
    obtain rfl := e_.symm
    refine ⟨?_, Ext.refl _⟩
    ((conv => whnf); (repeat ((first | with_reducible refine abr_true rfl ?_ | with_reducible refine abr_false rfl ?_ | with_reducible refine abr_yes rfl ?_ | refine abr_yes (by decide) ?_ | refine abr_no (by decide) ?_ | with_reducible refine abr_same_ne ?_); (conv => whnf))))
    have hb1 : ∀ b : Bool, b.toNat < 2 := fun b => by cases b <;> decide
    have hl1 : (bs ++ numBits l[i].1.toNat w.toNat).length ≤ 1716 := by rw [List.length_append, numBits_length]; omega
    refine acall (wPut iw _ _ 1 _ _ w7 (by have := hb1 (decide (i + 1 < l.length)); omega) (by omega)) ?_
    rintro _ σ8 ⟨rfl, w8⟩
    rw [(put_fine (bs ++ numBits l[i].1.toNat w.toNat) (decide (i + 1 < l.length)).toNat 1 (by omega) (by omega) (by omega) (hb1 _)).2, show (1 : Int).toNat = 1 from rfl, numBits_one] at w8
    ((conv => whnf); (repeat ((first | with_reducible refine abr_true rfl ?_ | with_reducible refine abr_false rfl ?_ | with_reducible refine abr_yes rfl ?_ | refine abr_yes (by decide) ?_ | refine abr_no (by decide) ?_ | with_reducible refine abr_same_ne ?_); (conv => whnf))))
    refine aload (w8.keep kb7) rfl ?_
    ((conv => whnf); (repeat ((first | with_reducible refine abr_true rfl ?_ | with_reducible refine abr_false rfl ?_ | with_reducible refine abr_yes rfl ?_ | refine abr_yes (by decide) ?_ | refine abr_no (by decide) ?_ | with_reducible refine abr_same_ne ?_); (conv => whnf))))
    refine acall (tBit l[i].2.1 _) ?_
    rintro _ σ_ ⟨rfl, e_⟩
    obtain rfl := e_.symm
    refine ⟨?_, Ext.refl _⟩
    ((conv => whnf); (repeat ((first | with_reducible refine abr_true rfl ?_ | with_reducible refine abr_false rfl ?_ | with_reducible refine abr_yes rfl ?_ | refine abr_yes (by decide) ?_ | refine abr_no (by decide) ?_ | with_reducible refine abr_same_ne ?_); (conv => whnf))))
    have hl2 : (bs ++ numBits l[i].1.toNat w.toNat ++ [decide (i + 1 < l.length)]).length ≤ 1717 := by rw [List.length_append, List.length_singleton]; omega
    refine acall (wPut iw _ _ 1 _ _ w8 (by have := hb1 l[i].2.1; omega) (by omega)) ?_
    rintro _ σ9 ⟨rfl, w9⟩
    rw [(put_fine (bs ++ numBits l[i].1.toNat w.toNat ++ [decide (i + 1 < l.length)]) l[i].2.1.toNat 1 (by omega) (by omega) (by omega) (hb1 _)).2, show (1 : Int).toNat = 1 from rfl, numBits_one] at w9
    have hl3 : (bs ++ numBits l[i].1.toNat w.toNat ++ [decide (i + 1 < l.length)] ++ [l[i].2.1]).length ≤ 1718 := by rw [List.length_append, List.length_singleton]; omega
    ((conv => whnf); (repeat ((first | with_reducible refine abr_true rfl ?_ | with_reducible refine abr_false rfl ?_ | with_reducible refine abr_yes rfl ?_ | refine abr_yes (by decide) ?_ | refine abr_no (by decide) ?_ | with_reducible refine abr_same_ne ?_); (conv => whnf))))
    refine aload (w9.keep kb7) rfl ?_
    ((conv => whnf); (repeat ((first | with_reducible refine abr_true rfl ?_ | with_reducible refine abr_false rfl ?_ | with_reducible refine abr_yes rfl ?_ | refine abr_yes (by decide) ?_ | refine abr_no (by decide) ?_ | with_reducible refine abr_same_ne ?_); (conv => whnf))))
    have hmp := missOk_part hm
    have hmb : missBits w (decide (i + 1 < l.length)) l[i] = numBits l[i].1.toNat w.toNat ++ ([decide (i + 1 < l.length)] ++ ([l[i].2.1] ++ if l[i].2.1 = true then numBits l[i].2.2.1.toNat (offW w) ++ numBits (lastV w l[i].2.2.2) (offW w) else [])) := rfl
    generalize hm2 : l[i].2.1 = pt at *
    cases pt
    · ((conv => whnf); (repeat ((first | with_reducible refine abr_true rfl ?_ | with_reducible refine abr_false rfl ?_ | with_reducible refine abr_yes rfl ?_ | refine abr_yes (by decide) ?_ | refine abr_no (by decide) ?_ | with_reducible refine abr_same_ne ?_); (conv => whnf))))
      (repeat ((first | refine aload (by (repeat (first | with_reducible exact upd_same _ _ _ | assumption | rw [upd_ne _ _ (by first | assumption | (apply Ne.symm; assumption))]))) rfl ?_ | refine afit_i64 (by omega) ?_ | refine arem_nonneg (by omega) (by omega) ?_ | refine adiv_i64 (by omega) (by omega) ?_ | refine abr_yes (by omega) ?_ | refine abr_no (by omega) ?_ | refine amin ?_ | refine amax ?_ | refine afit_u64 (by omega) ?_ | refine afit_u8 (by omega) ?_ | rw [List.length_map]); ((conv => whnf); (repeat ((first | with_reducible refine abr_true rfl ?_ | with_reducible refine abr_false rfl ?_ | with_reducible refine abr_yes rfl ?_ | refine abr_yes (by decide) ?_ | refine abr_no (by decide) ?_ | with_reducible refine abr_same_ne ?_); (conv => whnf))))))
      refine ⟨(i + 1, _, σ9, σc), ⟨h, ?_, w9, kb1, hsb7⟩, by dsimp only; omega, Sub.refl _, ?_⟩
      · rw [← hbs, hmb, if_neg (by decide)]; simp only [List.append_assoc, List.append_nil]
      · ((conv => whnf); (repeat ((first | with_reducible refine abr_true rfl ?_ | with_reducible refine abr_false rfl ?_ | with_reducible refine abr_yes rfl ?_ | refine abr_yes (by decide) ?_ | refine abr_no (by decide) ?_ | with_reducible refine abr_same_ne ?_); (conv => whnf))))
        (repeat' first | with_reducible exact EnvLe.refl _ | (refine EnvLe.node ?_ (by first | exact Or.inl rfl | exact Or.inr (Or.inl rfl) | exact Or.inr (Or.inr ⟨nofun, VLe.slice _ _ _⟩)) ?_))
    · obtain ⟨f0, flt, t0, tlt⟩ := hmp rfl
      have hoff := offW_le w
      have off16 : 2 ^ offW w ≤ 65536 := Nat.le_trans (Nat.pow_le_pow_right (n := 2) (by omega) hoff) (by decide)
      ((conv => whnf); (repeat ((first | with_reducible refine abr_true rfl ?_ | with_reducible refine abr_false rfl ?_ | with_reducible refine abr_yes rfl ?_ | refine abr_yes (by decide) ?_ | refine abr_no (by decide) ?_ | with_reducible refine abr_same_ne ?_); (conv => whnf))))
      refine acall (tOff w _) ?_
      rintro _ σ_ ⟨rfl, e_⟩
      obtain rfl := e_.symm
      refine ⟨?_, Ext.refl _⟩
      ((conv => whnf); (repeat ((first | with_reducible refine abr_true rfl ?_ | with_reducible refine abr_false rfl ?_ | with_reducible refine abr_yes rfl ?_ | refine abr_yes (by decide) ?_ | refine abr_no (by decide) ?_ | with_reducible refine abr_same_ne ?_); (conv => whnf))))
      refine aload (w9.keep kb7) rfl ?_
      ((conv => whnf); (repeat ((first | with_reducible refine abr_true rfl ?_ | with_reducible refine abr_false rfl ?_ | with_reducible refine abr_yes rfl ?_ | refine abr_yes (by decide) ?_ | refine abr_no (by decide) ?_ | with_reducible refine abr_same_ne ?_); (conv => whnf))))
      refine afit_eq (m := ((l[i].2.2.1.toNat : Nat) : Int)) (by rw [Int.toNat_of_nonneg f0]; exact wrap_u64 (by omega) (by omega)) ?_
      ((conv => whnf); (repeat ((first | with_reducible refine abr_true rfl ?_ | with_reducible refine abr_false rfl ?_ | with_reducible refine abr_yes rfl ?_ | refine abr_yes (by decide) ?_ | refine abr_no (by decide) ?_ | with_reducible refine abr_same_ne ?_); (conv => whnf))))
      refine acall (wPut iw _ _ (offW w) _ _ w9 (by omega) (by omega)) ?_
      rintro _ σ10 ⟨rfl, w10⟩
      rw [(put_fine (bs ++ numBits l[i].1.toNat w.toNat ++ [decide (i + 1 < l.length)] ++ [true]) l[i].2.2.1.toNat (offW w) (by omega) (by omega) (by omega) flt).2, Int.toNat_natCast] at w10
      ((conv => whnf); (repeat ((first | with_reducible refine abr_true rfl ?_ | with_reducible refine abr_false rfl ?_ | with_reducible refine abr_yes rfl ?_ | refine abr_yes (by decide) ?_ | refine abr_no (by decide) ?_ | with_reducible refine abr_same_ne ?_); (conv => whnf))))
      refine ashl_eq (by omega) (shl1_u64n (offW w) (by omega)) ?_
      ((conv => whnf); (repeat ((first | with_reducible refine abr_true rfl ?_ | with_reducible refine abr_false rfl ?_ | with_reducible refine abr_yes rfl ?_ | refine abr_yes (by decide) ?_ | refine abr_no (by decide) ?_ | with_reducible refine abr_same_ne ?_); (conv => whnf))))
      have hpow : ((2 ^ offW w : Nat) : Int) - 1 = ((2 ^ offW w - 1 : Nat) : Int) := by have := Nat.two_pow_pos (offW w); omega
      have hto : 0 ≤ l[i].2.2.2 ∧ l[i].2.2.2 ≤ 65536 := by
        refine ⟨t0, ?_⟩
        unfold lastV at tlt
        split at tlt
        · omega
        · omega
      refine afit_u64 (by omega) ?_
      rw [hpow]
      ((conv => whnf); (repeat ((first | with_reducible refine abr_true rfl ?_ | with_reducible refine abr_false rfl ?_ | with_reducible refine abr_yes rfl ?_ | refine abr_yes (by decide) ?_ | refine abr_no (by decide) ?_ | with_reducible refine abr_same_ne ?_); (conv => whnf))))
      refine aload (w10.keep kb7) rfl ?_
      ((conv => whnf); (repeat ((first | with_reducible refine abr_true rfl ?_ | with_reducible refine abr_false rfl ?_ | with_reducible refine abr_yes rfl ?_ | refine abr_yes (by decide) ?_ | refine abr_no (by decide) ?_ | with_reducible refine abr_same_ne ?_); (conv => whnf))))
      refine afit_i64 (by omega) ?_
      ((conv => whnf); (repeat ((first | with_reducible refine abr_true rfl ?_ | with_reducible refine abr_false rfl ?_ | with_reducible refine abr_yes rfl ?_ | refine abr_yes (by decide) ?_ | refine abr_no (by decide) ?_ | with_reducible refine abr_same_ne ?_); (conv => whnf))))
      refine afit_eq (preLast_wrap hto) ?_
      ((conv => whnf); (repeat ((first | with_reducible refine abr_true rfl ?_ | with_reducible refine abr_false rfl ?_ | with_reducible refine abr_yes rfl ?_ | refine abr_yes (by decide) ?_ | refine abr_no (by decide) ?_ | with_reducible refine abr_same_ne ?_); (conv => whnf))))
      refine abits_eq (and_mask (preLast l[i].2.2.2) (offW w) (preLast_lt hto) (by omega)) ?_
      rw [preLast_mod t0 tlt]
      ((conv => whnf); (repeat ((first | with_reducible refine abr_true rfl ?_ | with_reducible refine abr_false rfl ?_ | with_reducible refine abr_yes rfl ?_ | refine abr_yes (by decide) ?_ | refine abr_no (by decide) ?_ | with_reducible refine abr_same_ne ?_); (conv => whnf))))
      have hl4 : (bs ++ numBits l[i].1.toNat w.toNat ++ [decide (i + 1 < l.length)] ++ [true] ++ numBits l[i].2.2.1.toNat (offW w)).length ≤ 1734 := by rw [List.length_append, numBits_length]; omega
      refine acall (wPut iw _ _ (offW w) _ _ w10 (by omega) (by omega)) ?_
      rintro _ σ11 ⟨rfl, w11⟩
      rw [(put_fine (bs ++ numBits l[i].1.toNat w.toNat ++ [decide (i + 1 < l.length)] ++ [true] ++ numBits l[i].2.2.1.toNat (offW w)) (lastV w l[i].2.2.2) (offW w) (by omega) (by omega) (by omega) tlt).2, Int.toNat_natCast] at w11
      ((conv => whnf); (repeat ((first | with_reducible refine abr_true rfl ?_ | with_reducible refine abr_false rfl ?_ | with_reducible refine abr_yes rfl ?_ | refine abr_yes (by decide) ?_ | refine abr_no (by decide) ?_ | with_reducible refine abr_same_ne ?_); (conv => whnf))))
      (repeat ((first | refine aload (by (repeat (first | with_reducible exact upd_same _ _ _ | assumption | rw [upd_ne _ _ (by first | assumption | (apply Ne.symm; assumption))]))) rfl ?_ | refine afit_i64 (by omega) ?_ | refine arem_nonneg (by omega) (by omega) ?_ | refine adiv_i64 (by omega) (by omega) ?_ | refine abr_yes (by omega) ?_ | refine abr_no (by omega) ?_ | refine amin ?_ | refine amax ?_ | refine afit_u64 (by omega) ?_ | refine afit_u8 (by omega) ?_ | rw [List.length_map]); ((conv => whnf); (repeat ((first | with_reducible refine abr_true rfl ?_ | with_reducible refine abr_false rfl ?_ | with_reducible refine abr_yes rfl ?_ | refine abr_yes (by decide) ?_ | refine abr_no (by decide) ?_ | with_reducible refine abr_same_ne ?_); (conv => whnf))))))
      refine ⟨(i + 1, _, σ11, σc), ⟨h, ?_, w11, kb1, hsb7⟩, by dsimp only; omega, Sub.refl _, ?_⟩
      · rw [← hbs, hmb, if_pos rfl]; simp only [List.append_assoc]
      · ((conv => whnf); (repeat ((first | with_reducible refine abr_true rfl ?_ | with_reducible refine abr_false rfl ?_ | with_reducible refine abr_yes rfl ?_ | refine abr_yes (by decide) ?_ | refine abr_no (by decide) ?_ | with_reducible refine abr_same_ne ?_); (conv => whnf))))
        (repeat' first | with_reducible exact EnvLe.refl _ | (refine EnvLe.node ?_ (by first | exact Or.inl rfl | exact Or.inr (Or.inl rfl) | exact Or.inr (Or.inr ⟨nofun, VLe.slice _ _ _⟩)) ?_))
  · obtain rfl : i = l.length := by omega
    rw [List.drop_length] at hbs
    have hbs : bs = full := by rw [← hbs]; exact (List.append_nil _).symm
    subst hbs
    ((conv => whnf); (repeat ((first | with_reducible refine abr_true rfl ?_ | with_reducible refine abr_false rfl ?_ | with_reducible refine abr_yes rfl ?_ | refine abr_yes (by decide) ?_ | refine abr_no (by decide) ?_ | with_reducible refine abr_same_ne ?_); (conv => whnf))))
    (repeat ((first | refine aload (by (repeat (first | with_reducible exact upd_same _ _ _ | assumption | rw [upd_ne _ _ (by first | assumption | (apply Ne.symm; assumption))]))) rfl ?_ | refine afit_i64 (by omega) ?_ | refine arem_nonneg (by omega) (by omega) ?_ | refine adiv_i64 (by omega) (by omega) ?_ | refine abr_yes (by omega) ?_ | refine abr_no (by omega) ?_ | refine amin ?_ | refine amax ?_ | refine afit_u64 (by omega) ?_ | refine afit_u8 (by omega) ?_ | rw [List.length_map]); ((conv => whnf); (repeat ((first | with_reducible refine abr_true rfl ?_ | with_reducible refine abr_false rfl ?_ | with_reducible refine abr_yes rfl ?_ | refine abr_yes (by decide) ?_ | refine abr_no (by decide) ?_ | with_reducible refine abr_same_ne ?_); (conv => whnf))))))
    refine acall (wBytes iw _ _ _ w5 (by omega)) ?_
    rintro _ σ_ ⟨rfl, e_⟩
    obtain rfl := e_.symm
    refine ⟨?_, Ext.refl _⟩
    ((conv => whnf); (repeat ((first | with_reducible refine abr_true rfl ?_ | with_reducible refine abr_false rfl ?_ | with_reducible refine abr_yes rfl ?_ | refine abr_yes (by decide) ?_ | refine abr_no (by decide) ?_ | with_reducible refine abr_same_ne ?_); (conv => whnf))))
    exact aret_sl1 (w5.sub.trans hsb5) ⟨rfl, rfl⟩
end Go.Proofs.Ytnfdgccmpglbhaa
/-
  The document's statuses: which may be, which are equal.
-/
namespace Go.Proofs.Ytnfdgccmpglbhaa
set_option linter.unusedVariables false
set_option linter.unusedSimpArgs false
open Go Go.Am

theorem refOffset (w : Int) (σ : AHeap) : ACalls Try.prog i_bowlineref11_offset [i64v w] σ fun v σ' => v = i64v (offW w) ∧ σ' = σ := by
  refine k_bowlineref11_offset rfl ?_
  ((conv => whnf); (repeat ((first | with_reducible refine abr_true rfl ?_ | with_reducible refine abr_false rfl ?_ | with_reducible refine abr_yes rfl ?_ | refine abr_yes (by decide) ?_ | refine abr_no (by decide) ?_ | with_reducible refine abr_same_ne ?_); (conv => whnf))))
  by_cases h : w = 10
  · (repeat ((first | refine aload (by (repeat (first | with_reducible exact upd_same _ _ _ | assumption | rw [upd_ne _ _ (by first | assumption | (apply Ne.symm; assumption))]))) rfl ?_ | refine afit_i64 (by omega) ?_ | refine arem_nonneg (by omega) (by omega) ?_ | refine adiv_i64 (by omega) (by omega) ?_ | refine abr_yes (by omega) ?_ | refine abr_no (by omega) ?_ | refine amin ?_ | refine amax ?_ | refine afit_u64 (by omega) ?_ | refine afit_u8 (by omega) ?_ | rw [List.length_map]); ((conv => whnf); (repeat ((first | with_reducible refine abr_true rfl ?_ | with_reducible refine abr_false rfl ?_ | with_reducible refine abr_yes rfl ?_ | refine abr_yes (by decide) ?_ | refine abr_no (by decide) ?_ | with_reducible refine abr_same_ne ?_); (conv => whnf))))))
    exact aret_same ⟨by unfold offW; rw [if_pos h]; rfl, rfl⟩
  · (repeat ((first | refine aload (by (repeat (first | with_reducible exact upd_same _ _ _ | assumption | rw [upd_ne _ _ (by first | assumption | (apply Ne.symm; assumption))]))) rfl ?_ | refine afit_i64 (by omega) ?_ | refine arem_nonneg (by omega) (by omega) ?_ | refine adiv_i64 (by omega) (by omega) ?_ | refine abr_yes (by omega) ?_ | refine abr_no (by omega) ?_ | refine amin ?_ | refine amax ?_ | refine afit_u64 (by omega) ?_ | refine afit_u8 (by omega) ?_ | rw [List.length_map]); ((conv => whnf); (repeat ((first | with_reducible refine abr_true rfl ?_ | with_reducible refine abr_false rfl ?_ | with_reducible refine abr_yes rfl ?_ | refine abr_yes (by decide) ?_ | refine abr_no (by decide) ?_ | with_reducible refine abr_same_ne ?_); (conv => whnf))))))
    exact aret_same ⟨by unfold offW; rw [if_neg h]; rfl, rfl⟩
theorem refPlaces (w : Int) (σ : AHeap) : ACalls Try.prog i_bowlineref11_places [i64v w] σ fun v σ' => v = i64v (plcs w) ∧ σ' = σ := by
  refine k_bowlineref11_places rfl ?_
  ((conv => whnf); (repeat ((first | with_reducible refine abr_true rfl ?_ | with_reducible refine abr_false rfl ?_ | with_reducible refine abr_yes rfl ?_ | refine abr_yes (by decide) ?_ | refine abr_no (by decide) ?_ | with_reducible refine abr_same_ne ?_); (conv => whnf))))
  refine acall (refOffset w _) ?_
  rintro _ σ_ ⟨rfl, e_⟩
  obtain rfl := e_.symm
  refine ⟨?_, Ext.refl _⟩
  ((conv => whnf); (repeat ((first | with_reducible refine abr_true rfl ?_ | with_reducible refine abr_false rfl ?_ | with_reducible refine abr_yes rfl ?_ | refine abr_yes (by decide) ?_ | refine abr_no (by decide) ?_ | with_reducible refine abr_same_ne ?_); (conv => whnf))))
  have hoff := offW_le w
  (repeat ((first | refine aload (by (repeat (first | with_reducible exact upd_same _ _ _ | assumption | rw [upd_ne _ _ (by first | assumption | (apply Ne.symm; assumption))]))) rfl ?_ | refine afit_i64 (by omega) ?_ | refine arem_nonneg (by omega) (by omega) ?_ | refine adiv_i64 (by omega) (by omega) ?_ | refine abr_yes (by omega) ?_ | refine abr_no (by omega) ?_ | refine amin ?_ | refine amax ?_ | refine afit_u64 (by omega) ?_ | refine afit_u8 (by omega) ?_ | rw [List.length_map]); ((conv => whnf); (repeat ((first | with_reducible refine abr_true rfl ?_ | with_reducible refine abr_false rfl ?_ | with_reducible refine abr_yes rfl ?_ | refine abr_yes (by decide) ?_ | refine abr_no (by decide) ?_ | with_reducible refine abr_same_ne ?_); (conv => whnf))))))
  refine acall (refSize02 ((offW w : Int) - 1) _) ?_
  rintro _ σ_ ⟨rfl, e_⟩
  obtain rfl := e_.symm
  refine ⟨?_, Ext.refl _⟩
  ((conv => whnf); (repeat ((first | with_reducible refine abr_true rfl ?_ | with_reducible refine abr_false rfl ?_ | with_reducible refine abr_yes rfl ?_ | refine abr_yes (by decide) ?_ | refine abr_no (by decide) ?_ | with_reducible refine abr_same_ne ?_); (conv => whnf))))
  have h2 : spaceSize ((offW w : Int) - 1) * 2 = plcs w := by
    unfold plcs offW
    split <;> decide
  have h3 := spaceSize_le ((offW w : Int) - 1)
  refine afit_i64 (by omega) ?_
  rw [h2]
  ((conv => whnf); (repeat ((first | with_reducible refine abr_true rfl ?_ | with_reducible refine abr_false rfl ?_ | with_reducible refine abr_yes rfl ?_ | refine abr_yes (by decide) ?_ | refine abr_no (by decide) ?_ | with_reducible refine abr_same_ne ?_); (conv => whnf))))
  exact aret_same ⟨rfl, rfl⟩
set_option maxRecDepth 20000 in
theorem refIsMiss (m : Ms) (w : Int) (σ : AHeap) : ACalls Try.prog i_bowlineref11_IsMiss [msV m, i64v w] σ fun v σ' => v = boolv (missOk w m) ∧ σ' = σ := by
  obtain ⟨sn, part, fr, to⟩ := m
  refine k_bowlineref11_IsMiss rfl ?_
  ((conv => whnf); (repeat ((first | with_reducible refine abr_true rfl ?_ | with_reducible refine abr_false rfl ?_ | with_reducible refine abr_yes rfl ?_ | refine abr_yes (by decide) ?_ | refine abr_no (by decide) ?_ | with_reducible refine abr_same_ne ?_); (conv => whnf))))
  refine anew rfl fun i1 h1 => ?_
  have hs : Sub (upd σ i1 (.cells (msV (sn, part, fr, to)).cells)) σ := Sub.upd_fresh _ h1
  have k1 : upd σ i1 (.cells (msV (sn, part, fr, to)).cells) i1 = some (.cells [i64v sn, boolv part, i64v fr, i64v to]) := upd_same _ _ _
  generalize upd σ i1 (.cells (msV (sn, part, fr, to)).cells) = τ at *
  ((conv => whnf); (repeat ((first | with_reducible refine abr_true rfl ?_ | with_reducible refine abr_false rfl ?_ | with_reducible refine abr_yes rfl ?_ | refine abr_yes (by decide) ?_ | refine abr_no (by decide) ?_ | with_reducible refine abr_same_ne ?_); (conv => whnf))))
  refine aload k1 rfl ?_
  ((conv => whnf); (repeat ((first | with_reducible refine abr_true rfl ?_ | with_reducible refine abr_false rfl ?_ | with_reducible refine abr_yes rfl ?_ | refine abr_yes (by decide) ?_ | refine abr_no (by decide) ?_ | with_reducible refine abr_same_ne ?_); (conv => whnf))))
  refine acall (refIs02 w sn _) ?_
  rintro _ σ_ ⟨rfl, e_⟩
  obtain rfl := e_.symm
  refine ⟨?_, Ext.refl _⟩
  ((conv => whnf); (repeat ((first | with_reducible refine abr_true rfl ?_ | with_reducible refine abr_false rfl ?_ | with_reducible refine abr_yes rfl ?_ | refine abr_yes (by decide) ?_ | refine abr_no (by decide) ?_ | with_reducible refine abr_same_ne ?_); (conv => whnf))))
  cases hsn : isNum w sn
  · ((conv => whnf); (repeat ((first | with_reducible refine abr_true rfl ?_ | with_reducible refine abr_false rfl ?_ | with_reducible refine abr_yes rfl ?_ | refine abr_yes (by decide) ?_ | refine abr_no (by decide) ?_ | with_reducible refine abr_same_ne ?_); (conv => whnf))))
    exact aret (VLe.refl _) hs ⟨by unfold missOk; dsimp only; rw [hsn]; rfl, rfl⟩
  have hM : missOk w (sn, part, fr, to) = if part = true then decide (0 ≤ fr ∧ fr < plcs w ∧ (to = 0 ∨ fr < to ∧ to < plcs w)) else decide (fr = 0 ∧ to = 0) := by unfold missOk; dsimp only; rw [hsn]; rfl
  rw [hM]
  ((conv => whnf); (repeat ((first | with_reducible refine abr_true rfl ?_ | with_reducible refine abr_false rfl ?_ | with_reducible refine abr_yes rfl ?_ | refine abr_yes (by decide) ?_ | refine abr_no (by decide) ?_ | with_reducible refine abr_same_ne ?_); (conv => whnf))))
  refine aload k1 rfl ?_
  ((conv => whnf); (repeat ((first | with_reducible refine abr_true rfl ?_ | with_reducible refine abr_false rfl ?_ | with_reducible refine abr_yes rfl ?_ | refine abr_yes (by decide) ?_ | refine abr_no (by decide) ?_ | with_reducible refine abr_same_ne ?_); (conv => whnf))))
  cases part
  · rw [if_neg (by decide)]
    ((conv => whnf); (repeat ((first | with_reducible refine abr_true rfl ?_ | with_reducible refine abr_false rfl ?_ | with_reducible refine abr_yes rfl ?_ | refine abr_yes (by decide) ?_ | refine abr_no (by decide) ?_ | with_reducible refine abr_same_ne ?_); (conv => whnf))))
    refine aload k1 rfl ?_
    ((conv => whnf); (repeat ((first | with_reducible refine abr_true rfl ?_ | with_reducible refine abr_false rfl ?_ | with_reducible refine abr_yes rfl ?_ | refine abr_yes (by decide) ?_ | refine abr_no (by decide) ?_ | with_reducible refine abr_same_ne ?_); (conv => whnf))))
    by_cases c1 : fr = 0
    · (repeat ((first | refine aload (by (repeat (first | with_reducible exact upd_same _ _ _ | assumption | rw [upd_ne _ _ (by first | assumption | (apply Ne.symm; assumption))]))) rfl ?_ | refine afit_i64 (by omega) ?_ | refine arem_nonneg (by omega) (by omega) ?_ | refine adiv_i64 (by omega) (by omega) ?_ | refine abr_yes (by omega) ?_ | refine abr_no (by omega) ?_ | refine amin ?_ | refine amax ?_ | refine afit_u64 (by omega) ?_ | refine afit_u8 (by omega) ?_ | rw [List.length_map]); ((conv => whnf); (repeat ((first | with_reducible refine abr_true rfl ?_ | with_reducible refine abr_false rfl ?_ | with_reducible refine abr_yes rfl ?_ | refine abr_yes (by decide) ?_ | refine abr_no (by decide) ?_ | with_reducible refine abr_same_ne ?_); (conv => whnf))))))
      exact aret (VLe.refl _) hs ⟨congrArg boolv (dec_congr (by omega)), rfl⟩
    · (repeat ((first | refine aload (by (repeat (first | with_reducible exact upd_same _ _ _ | assumption | rw [upd_ne _ _ (by first | assumption | (apply Ne.symm; assumption))]))) rfl ?_ | refine afit_i64 (by omega) ?_ | refine arem_nonneg (by omega) (by omega) ?_ | refine adiv_i64 (by omega) (by omega) ?_ | refine abr_yes (by omega) ?_ | refine abr_no (by omega) ?_ | refine amin ?_ | refine amax ?_ | refine afit_u64 (by omega) ?_ | refine afit_u8 (by omega) ?_ | rw [List.length_map]); ((conv => whnf); (repeat ((first | with_reducible refine abr_true rfl ?_ | with_reducible refine abr_false rfl ?_ | with_reducible refine abr_yes rfl ?_ | refine abr_yes (by decide) ?_ | refine abr_no (by decide) ?_ | with_reducible refine abr_same_ne ?_); (conv => whnf))))))
      exact aret (VLe.refl _) hs ⟨congrArg boolv (decide_eq_false (by omega)).symm, rfl⟩
  · rw [if_pos rfl]
    ((conv => whnf); (repeat ((first | with_reducible refine abr_true rfl ?_ | with_reducible refine abr_false rfl ?_ | with_reducible refine abr_yes rfl ?_ | refine abr_yes (by decide) ?_ | refine abr_no (by decide) ?_ | with_reducible refine abr_same_ne ?_); (conv => whnf))))
    refine aload k1 rfl ?_
    ((conv => whnf); (repeat ((first | with_reducible refine abr_true rfl ?_ | with_reducible refine abr_false rfl ?_ | with_reducible refine abr_yes rfl ?_ | refine abr_yes (by decide) ?_ | refine abr_no (by decide) ?_ | with_reducible refine abr_same_ne ?_); (conv => whnf))))
    by_cases c1 : fr < 0
    · (repeat ((first | refine aload (by (repeat (first | with_reducible exact upd_same _ _ _ | assumption | rw [upd_ne _ _ (by first | assumption | (apply Ne.symm; assumption))]))) rfl ?_ | refine afit_i64 (by omega) ?_ | refine arem_nonneg (by omega) (by omega) ?_ | refine adiv_i64 (by omega) (by omega) ?_ | refine abr_yes (by omega) ?_ | refine abr_no (by omega) ?_ | refine amin ?_ | refine amax ?_ | refine afit_u64 (by omega) ?_ | refine afit_u8 (by omega) ?_ | rw [List.length_map]); ((conv => whnf); (repeat ((first | with_reducible refine abr_true rfl ?_ | with_reducible refine abr_false rfl ?_ | with_reducible refine abr_yes rfl ?_ | refine abr_yes (by decide) ?_ | refine abr_no (by decide) ?_ | with_reducible refine abr_same_ne ?_); (conv => whnf))))))
      exact aret (VLe.refl _) hs ⟨congrArg boolv (decide_eq_false (by omega)).symm, rfl⟩
    (repeat ((first | refine aload (by (repeat (first | with_reducible exact upd_same _ _ _ | assumption | rw [upd_ne _ _ (by first | assumption | (apply Ne.symm; assumption))]))) rfl ?_ | refine afit_i64 (by omega) ?_ | refine arem_nonneg (by omega) (by omega) ?_ | refine adiv_i64 (by omega) (by omega) ?_ | refine abr_yes (by omega) ?_ | refine abr_no (by omega) ?_ | refine amin ?_ | refine amax ?_ | refine afit_u64 (by omega) ?_ | refine afit_u8 (by omega) ?_ | rw [List.length_map]); ((conv => whnf); (repeat ((first | with_reducible refine abr_true rfl ?_ | with_reducible refine abr_false rfl ?_ | with_reducible refine abr_yes rfl ?_ | refine abr_yes (by decide) ?_ | refine abr_no (by decide) ?_ | with_reducible refine abr_same_ne ?_); (conv => whnf))))))
    refine acall (refPlaces w _) ?_
    rintro _ σ_ ⟨rfl, e_⟩
    obtain rfl := e_.symm
    refine ⟨?_, Ext.refl _⟩
    ((conv => whnf); (repeat ((first | with_reducible refine abr_true rfl ?_ | with_reducible refine abr_false rfl ?_ | with_reducible refine abr_yes rfl ?_ | refine abr_yes (by decide) ?_ | refine abr_no (by decide) ?_ | with_reducible refine abr_same_ne ?_); (conv => whnf))))
    by_cases c2 : fr ≥ plcs w
    · (repeat ((first | refine aload (by (repeat (first | with_reducible exact upd_same _ _ _ | assumption | rw [upd_ne _ _ (by first | assumption | (apply Ne.symm; assumption))]))) rfl ?_ | refine afit_i64 (by omega) ?_ | refine arem_nonneg (by omega) (by omega) ?_ | refine adiv_i64 (by omega) (by omega) ?_ | refine abr_yes (by omega) ?_ | refine abr_no (by omega) ?_ | refine amin ?_ | refine amax ?_ | refine afit_u64 (by omega) ?_ | refine afit_u8 (by omega) ?_ | rw [List.length_map]); ((conv => whnf); (repeat ((first | with_reducible refine abr_true rfl ?_ | with_reducible refine abr_false rfl ?_ | with_reducible refine abr_yes rfl ?_ | refine abr_yes (by decide) ?_ | refine abr_no (by decide) ?_ | with_reducible refine abr_same_ne ?_); (conv => whnf))))))
      exact aret (VLe.refl _) hs ⟨congrArg boolv (decide_eq_false (by omega)).symm, rfl⟩
    (repeat ((first | refine aload (by (repeat (first | with_reducible exact upd_same _ _ _ | assumption | rw [upd_ne _ _ (by first | assumption | (apply Ne.symm; assumption))]))) rfl ?_ | refine afit_i64 (by omega) ?_ | refine arem_nonneg (by omega) (by omega) ?_ | refine adiv_i64 (by omega) (by omega) ?_ | refine abr_yes (by omega) ?_ | refine abr_no (by omega) ?_ | refine amin ?_ | refine amax ?_ | refine afit_u64 (by omega) ?_ | refine afit_u8 (by omega) ?_ | rw [List.length_map]); ((conv => whnf); (repeat ((first | with_reducible refine abr_true rfl ?_ | with_reducible refine abr_false rfl ?_ | with_reducible refine abr_yes rfl ?_ | refine abr_yes (by decide) ?_ | refine abr_no (by decide) ?_ | with_reducible refine abr_same_ne ?_); (conv => whnf))))))
    by_cases c3 : to = 0
    · (repeat ((first | refine aload (by (repeat (first | with_reducible exact upd_same _ _ _ | assumption | rw [upd_ne _ _ (by first | assumption | (apply Ne.symm; assumption))]))) rfl ?_ | refine afit_i64 (by omega) ?_ | refine arem_nonneg (by omega) (by omega) ?_ | refine adiv_i64 (by omega) (by omega) ?_ | refine abr_yes (by omega) ?_ | refine abr_no (by omega) ?_ | refine amin ?_ | refine amax ?_ | refine afit_u64 (by omega) ?_ | refine afit_u8 (by omega) ?_ | rw [List.length_map]); ((conv => whnf); (repeat ((first | with_reducible refine abr_true rfl ?_ | with_reducible refine abr_false rfl ?_ | with_reducible refine abr_yes rfl ?_ | refine abr_yes (by decide) ?_ | refine abr_no (by decide) ?_ | with_reducible refine abr_same_ne ?_); (conv => whnf))))))
      exact aret (VLe.refl _) hs ⟨congrArg boolv (decide_eq_true (by omega)).symm, rfl⟩
    (repeat ((first | refine aload (by (repeat (first | with_reducible exact upd_same _ _ _ | assumption | rw [upd_ne _ _ (by first | assumption | (apply Ne.symm; assumption))]))) rfl ?_ | refine afit_i64 (by omega) ?_ | refine arem_nonneg (by omega) (by omega) ?_ | refine adiv_i64 (by omega) (by omega) ?_ | refine abr_yes (by omega) ?_ | refine abr_no (by omega) ?_ | refine amin ?_ | refine amax ?_ | refine afit_u64 (by omega) ?_ | refine afit_u8 (by omega) ?_ | rw [List.length_map]); ((conv => whnf); (repeat ((first | with_reducible refine abr_true rfl ?_ | with_reducible refine abr_false rfl ?_ | with_reducible refine abr_yes rfl ?_ | refine abr_yes (by decide) ?_ | refine abr_no (by decide) ?_ | with_reducible refine abr_same_ne ?_); (conv => whnf))))))
    by_cases c4 : to > fr
    · (repeat ((first | refine aload (by (repeat (first | with_reducible exact upd_same _ _ _ | assumption | rw [upd_ne _ _ (by first | assumption | (apply Ne.symm; assumption))]))) rfl ?_ | refine afit_i64 (by omega) ?_ | refine arem_nonneg (by omega) (by omega) ?_ | refine adiv_i64 (by omega) (by omega) ?_ | refine abr_yes (by omega) ?_ | refine abr_no (by omega) ?_ | refine amin ?_ | refine amax ?_ | refine afit_u64 (by omega) ?_ | refine afit_u8 (by omega) ?_ | rw [List.length_map]); ((conv => whnf); (repeat ((first | with_reducible refine abr_true rfl ?_ | with_reducible refine abr_false rfl ?_ | with_reducible refine abr_yes rfl ?_ | refine abr_yes (by decide) ?_ | refine abr_no (by decide) ?_ | with_reducible refine abr_same_ne ?_); (conv => whnf))))))
      refine acall (refPlaces w _) ?_
      rintro _ σ_ ⟨rfl, e_⟩
      obtain rfl := e_.symm
      refine ⟨?_, Ext.refl _⟩
      ((conv => whnf); (repeat ((first | with_reducible refine abr_true rfl ?_ | with_reducible refine abr_false rfl ?_ | with_reducible refine abr_yes rfl ?_ | refine abr_yes (by decide) ?_ | refine abr_no (by decide) ?_ | with_reducible refine abr_same_ne ?_); (conv => whnf))))
      exact aret (VLe.refl _) hs ⟨congrArg boolv (dec_congr (by omega)), rfl⟩
    · (repeat ((first | refine aload (by (repeat (first | with_reducible exact upd_same _ _ _ | assumption | rw [upd_ne _ _ (by first | assumption | (apply Ne.symm; assumption))]))) rfl ?_ | refine afit_i64 (by omega) ?_ | refine arem_nonneg (by omega) (by omega) ?_ | refine adiv_i64 (by omega) (by omega) ?_ | refine abr_yes (by omega) ?_ | refine abr_no (by omega) ?_ | refine amin ?_ | refine amax ?_ | refine afit_u64 (by omega) ?_ | refine afit_u8 (by omega) ?_ | rw [List.length_map]); ((conv => whnf); (repeat ((first | with_reducible refine abr_true rfl ?_ | with_reducible refine abr_false rfl ?_ | with_reducible refine abr_yes rfl ?_ | refine abr_yes (by decide) ?_ | refine abr_no (by decide) ?_ | with_reducible refine abr_same_ne ?_); (conv => whnf))))))
      exact aret (VLe.refl _) hs ⟨congrArg boolv (decide_eq_false (by omega)).symm, rfl⟩
set_option maxRecDepth 20000 in
theorem refStRight (s : Int × List Ms) (t : Tok) (w : Int) (σ : AHeap) (hl : s.2.length ≤ 9223372036854775807) : ACalls Try.prog i_bowlineref11_Right [stV t s, i64v w] σ fun v σ' => v = boolv (stOk w s) ∧ σ' = σ := by
  obtain ⟨ack, l⟩ := s
  dsimp only at hl
  refine k_bowlineref11_Right rfl ?_
  ((conv => whnf); (repeat ((first | with_reducible refine abr_true rfl ?_ | with_reducible refine abr_false rfl ?_ | with_reducible refine abr_yes rfl ?_ | refine abr_yes (by decide) ?_ | refine abr_no (by decide) ?_ | with_reducible refine abr_same_ne ?_); (conv => whnf))))
  refine anew rfl fun i1 h1 => ?_
  have k1 : upd σ i1 (.cells (stV t (ack, l)).cells) i1 = some (.cells [i64v ack, missV t l]) := upd_same _ _ _
  have hs : Sub (upd σ i1 (.cells (stV t (ack, l)).cells)) σ := Sub.upd_fresh _ h1
  generalize upd σ i1 (.cells (stV t (ack, l)).cells) = τ at *
  ((conv => whnf); (repeat ((first | with_reducible refine abr_true rfl ?_ | with_reducible refine abr_false rfl ?_ | with_reducible refine abr_yes rfl ?_ | refine abr_yes (by decide) ?_ | refine abr_no (by decide) ?_ | with_reducible refine abr_same_ne ?_); (conv => whnf))))
  by_cases hw : w = 10 ∨ w = 16
  case neg =>
    have hno : stOk w (ack, l) = false := by unfold stOk; rw [show stWidth w = false from decide_eq_false hw]; rfl
    have c1 : ¬ w = 10 := fun e => hw (.inl e)
    have c2 : ¬ w = 16 := fun e => hw (.inr e)
    rw [hno]
    (repeat ((first | refine aload (by (repeat (first | with_reducible exact upd_same _ _ _ | assumption | rw [upd_ne _ _ (by first | assumption | (apply Ne.symm; assumption))]))) rfl ?_ | refine afit_i64 (by omega) ?_ | refine arem_nonneg (by omega) (by omega) ?_ | refine adiv_i64 (by omega) (by omega) ?_ | refine abr_yes (by omega) ?_ | refine abr_no (by omega) ?_ | refine amin ?_ | refine amax ?_ | refine afit_u64 (by omega) ?_ | refine afit_u8 (by omega) ?_ | rw [List.length_map]); ((conv => whnf); (repeat ((first | with_reducible refine abr_true rfl ?_ | with_reducible refine abr_false rfl ?_ | with_reducible refine abr_yes rfl ?_ | refine abr_yes (by decide) ?_ | refine abr_no (by decide) ?_ | with_reducible refine abr_same_ne ?_); (conv => whnf))))))
    exact aret (VLe.refl _) hs ⟨rfl, rfl⟩
  have hsw : stWidth w = true := decide_eq_true hw
  apply via_loop (fun b Q => isNum w ack = true → l.length ≤ 32 → setsK (Env.full 9) [(s1, i64v w), (s2, .ptr i1 0), (s5, i64v 0)] fun e => ALoop Try.prog c55 b e τ Q)
  case f =>
    intro hK
    have hno (h : isNum w ack = false ∨ ¬ l.length ≤ 32) : stOk w (ack, l) = false := by
      unfold stOk; dsimp only
      rcases h with h | h
      · rw [h, Bool.and_false]; rfl
      · rw [decide_eq_false h, Bool.and_false]; rfl
    by_cases c1 : w = 10
    all_goals
      (repeat ((first | refine aload (by (repeat (first | with_reducible exact upd_same _ _ _ | assumption | rw [upd_ne _ _ (by first | assumption | (apply Ne.symm; assumption))]))) rfl ?_ | refine afit_i64 (by omega) ?_ | refine arem_nonneg (by omega) (by omega) ?_ | refine adiv_i64 (by omega) (by omega) ?_ | refine abr_yes (by omega) ?_ | refine abr_no (by omega) ?_ | refine amin ?_ | refine amax ?_ | refine afit_u64 (by omega) ?_ | refine afit_u8 (by omega) ?_ | rw [List.length_map]); ((conv => whnf); (repeat ((first | with_reducible refine abr_true rfl ?_ | with_reducible refine abr_false rfl ?_ | with_reducible refine abr_yes rfl ?_ | refine abr_yes (by decide) ?_ | refine abr_no (by decide) ?_ | with_reducible refine abr_same_ne ?_); (conv => whnf))))))
      refine acall (refIs02 w ack _) ?_
      rintro _ σ_ ⟨rfl, e_⟩
      obtain rfl := e_.symm
      refine ⟨?_, Ext.refl _⟩
      ((conv => whnf); (repeat ((first | with_reducible refine abr_true rfl ?_ | with_reducible refine abr_false rfl ?_ | with_reducible refine abr_yes rfl ?_ | refine abr_yes (by decide) ?_ | refine abr_no (by decide) ?_ | with_reducible refine abr_same_ne ?_); (conv => whnf))))
      cases ha : isNum w ack
      · ((conv => whnf); (repeat ((first | with_reducible refine abr_true rfl ?_ | with_reducible refine abr_false rfl ?_ | with_reducible refine abr_yes rfl ?_ | refine abr_yes (by decide) ?_ | refine abr_no (by decide) ?_ | with_reducible refine abr_same_ne ?_); (conv => whnf))))
        exact aret (VLe.refl _) hs ⟨by rw [hno (.inl ha)], rfl⟩
      ((conv => whnf); (repeat ((first | with_reducible refine abr_true rfl ?_ | with_reducible refine abr_false rfl ?_ | with_reducible refine abr_yes rfl ?_ | refine abr_yes (by decide) ?_ | refine abr_no (by decide) ?_ | with_reducible refine abr_same_ne ?_); (conv => whnf))))
      refine aload k1 rfl ?_
      ((conv => whnf); (repeat ((first | with_reducible refine abr_true rfl ?_ | with_reducible refine abr_false rfl ?_ | with_reducible refine abr_yes rfl ?_ | refine abr_yes (by decide) ?_ | refine abr_no (by decide) ?_ | with_reducible refine abr_same_ne ?_); (conv => whnf))))
      rw [List.length_map]
      by_cases c3 : l.length > 32
      · (repeat ((first | refine aload (by (repeat (first | with_reducible exact upd_same _ _ _ | assumption | rw [upd_ne _ _ (by first | assumption | (apply Ne.symm; assumption))]))) rfl ?_ | refine afit_i64 (by omega) ?_ | refine arem_nonneg (by omega) (by omega) ?_ | refine adiv_i64 (by omega) (by omega) ?_ | refine abr_yes (by omega) ?_ | refine abr_no (by omega) ?_ | refine amin ?_ | refine amax ?_ | refine afit_u64 (by omega) ?_ | refine afit_u8 (by omega) ?_ | rw [List.length_map]); ((conv => whnf); (repeat ((first | with_reducible refine abr_true rfl ?_ | with_reducible refine abr_false rfl ?_ | with_reducible refine abr_yes rfl ?_ | refine abr_yes (by decide) ?_ | refine abr_no (by decide) ?_ | with_reducible refine abr_same_ne ?_); (conv => whnf))))))
        exact aret (VLe.refl _) hs ⟨by rw [hno (.inr (by omega))], rfl⟩
      (repeat ((first | refine aload (by (repeat (first | with_reducible exact upd_same _ _ _ | assumption | rw [upd_ne _ _ (by first | assumption | (apply Ne.symm; assumption))]))) rfl ?_ | refine afit_i64 (by omega) ?_ | refine arem_nonneg (by omega) (by omega) ?_ | refine adiv_i64 (by omega) (by omega) ?_ | refine abr_yes (by omega) ?_ | refine abr_no (by omega) ?_ | refine amin ?_ | refine amax ?_ | refine afit_u64 (by omega) ?_ | refine afit_u8 (by omega) ?_ | rw [List.length_map]); ((conv => whnf); (repeat ((first | with_reducible refine abr_true rfl ?_ | with_reducible refine abr_false rfl ?_ | with_reducible refine abr_yes rfl ?_ | refine abr_yes (by decide) ?_ | refine abr_no (by decide) ?_ | with_reducible refine abr_same_ne ?_); (conv => whnf))))))
      refine aloop_from ?_ (hK () ha (by omega))
      (repeat' first | with_reducible exact EnvLe.refl _ | (refine EnvLe.node ?_ (by first | exact Or.inl rfl | exact Or.inr (Or.inl rfl) | exact Or.inr (Or.inr ⟨nofun, VLe.slice _ _ _⟩)) ?_))
  case k =>
    intro ha h32
    have hS : stOk w (ack, l) = l.all (missOk w) := by unfold stOk; dsimp only; rw [hsw, ha, decide_eq_true h32]; rfl
    rw [hS]
    (conv => whnf)
    refine aloop (α := Nat) (fun i => [(s5, i64v i)]) (fun _ => τ) (fun i => i ≤ l.length ∧ (l.take i).all (missOk w) = true) (fun i => l.length - i) 0 ⟨Nat.zero_le _, rfl⟩ (Sub.refl _) ?_ ?_
    · ((conv => whnf); (repeat ((first | with_reducible refine abr_true rfl ?_ | with_reducible refine abr_false rfl ?_ | with_reducible refine abr_yes rfl ?_ | refine abr_yes (by decide) ?_ | refine abr_no (by decide) ?_ | with_reducible refine abr_same_ne ?_); (conv => whnf))))
      (repeat' first | with_reducible exact EnvLe.refl _ | (refine EnvLe.node ?_ (by first | exact Or.inl rfl | exact Or.inr (Or.inl rfl) | exact Or.inr (Or.inr ⟨nofun, VLe.slice _ _ _⟩)) ?_))
    rintro i ⟨hi, hall⟩
    by_cases h : i < l.length
    · ((conv => whnf); (repeat ((first | with_reducible refine abr_true rfl ?_ | with_reducible refine abr_false rfl ?_ | with_reducible refine abr_yes rfl ?_ | refine abr_yes (by decide) ?_ | refine abr_no (by decide) ?_ | with_reducible refine abr_same_ne ?_); (conv => whnf))))
      (repeat ((first | refine aload (by (repeat (first | with_reducible exact upd_same _ _ _ | assumption | rw [upd_ne _ _ (by first | assumption | (apply Ne.symm; assumption))]))) rfl ?_ | refine afit_i64 (by omega) ?_ | refine arem_nonneg (by omega) (by omega) ?_ | refine adiv_i64 (by omega) (by omega) ?_ | refine abr_yes (by omega) ?_ | refine abr_no (by omega) ?_ | refine amin ?_ | refine amax ?_ | refine afit_u64 (by omega) ?_ | refine afit_u8 (by omega) ?_ | rw [List.length_map]); ((conv => whnf); (repeat ((first | with_reducible refine abr_true rfl ?_ | with_reducible refine abr_false rfl ?_ | with_reducible refine abr_yes rfl ?_ | refine abr_yes (by decide) ?_ | refine abr_no (by decide) ?_ | with_reducible refine abr_same_ne ?_); (conv => whnf))))))
      refine aget (by omega) (get_ms h) ?_
      ((conv => whnf); (repeat ((first | with_reducible refine abr_true rfl ?_ | with_reducible refine abr_false rfl ?_ | with_reducible refine abr_yes rfl ?_ | refine abr_yes (by decide) ?_ | refine abr_no (by decide) ?_ | with_reducible refine abr_same_ne ?_); (conv => whnf))))
      refine acells (l := (msV l[i]).cells) (by exact Nat.le_refl 4) rfl ?_
      ((conv => whnf); (repeat ((first | with_reducible refine abr_true rfl ?_ | with_reducible refine abr_false rfl ?_ | with_reducible refine abr_yes rfl ?_ | refine abr_yes (by decide) ?_ | refine abr_no (by decide) ?_ | with_reducible refine abr_same_ne ?_); (conv => whnf))))
      refine acall (refIsMiss l[i] w _) ?_
      rintro _ σ_ ⟨rfl, e_⟩
      obtain rfl := e_.symm
      refine ⟨?_, Ext.refl _⟩
      ((conv => whnf); (repeat ((first | with_reducible refine abr_true rfl ?_ | with_reducible refine abr_false rfl ?_ | with_reducible refine abr_yes rfl ?_ | refine abr_yes (by decide) ?_ | refine abr_no (by decide) ?_ | with_reducible refine abr_same_ne ?_); (conv => whnf))))
      cases hm : missOk w l[i]
      · ((conv => whnf); (repeat ((first | with_reducible refine abr_true rfl ?_ | with_reducible refine abr_false rfl ?_ | with_reducible refine abr_yes rfl ?_ | refine abr_yes (by decide) ?_ | refine abr_no (by decide) ?_ | with_reducible refine abr_same_ne ?_); (conv => whnf))))
        refine aret (VLe.refl _) hs ⟨?_, rfl⟩
        have : l.all (missOk w) = false := Bool.eq_false_iff.2 fun h2 => by rw [List.all_eq_true.1 h2 _ (List.getElem_mem h)] at hm; cases hm
        rw [this]
      · ((conv => whnf); (repeat ((first | with_reducible refine abr_true rfl ?_ | with_reducible refine abr_false rfl ?_ | with_reducible refine abr_yes rfl ?_ | refine abr_yes (by decide) ?_ | refine abr_no (by decide) ?_ | with_reducible refine abr_same_ne ?_); (conv => whnf))))
        (repeat ((first | refine aload (by (repeat (first | with_reducible exact upd_same _ _ _ | assumption | rw [upd_ne _ _ (by first | assumption | (apply Ne.symm; assumption))]))) rfl ?_ | refine afit_i64 (by omega) ?_ | refine arem_nonneg (by omega) (by omega) ?_ | refine adiv_i64 (by omega) (by omega) ?_ | refine abr_yes (by omega) ?_ | refine abr_no (by omega) ?_ | refine amin ?_ | refine amax ?_ | refine afit_u64 (by omega) ?_ | refine afit_u8 (by omega) ?_ | rw [List.length_map]); ((conv => whnf); (repeat ((first | with_reducible refine abr_true rfl ?_ | with_reducible refine abr_false rfl ?_ | with_reducible refine abr_yes rfl ?_ | refine abr_yes (by decide) ?_ | refine abr_no (by decide) ?_ | with_reducible refine abr_same_ne ?_); (conv => whnf))))))
        refine ⟨i + 1, ⟨h, ?_⟩, by omega, Sub.refl _, ?_⟩
        · rw [List.take_add_one, List.getElem?_eq_getElem h, List.all_append, hall]; simp [hm]
        · ((conv => whnf); (repeat ((first | with_reducible refine abr_true rfl ?_ | with_reducible refine abr_false rfl ?_ | with_reducible refine abr_yes rfl ?_ | refine abr_yes (by decide) ?_ | refine abr_no (by decide) ?_ | with_reducible refine abr_same_ne ?_); (conv => whnf))))
          (repeat' first | with_reducible exact EnvLe.refl _ | (refine EnvLe.node ?_ (by first | exact Or.inl rfl | exact Or.inr (Or.inl rfl) | exact Or.inr (Or.inr ⟨nofun, VLe.slice _ _ _⟩)) ?_))
    · rw [List.take_of_length_le (by omega)] at hall
      ((conv => whnf); (repeat ((first | with_reducible refine abr_true rfl ?_ | with_reducible refine abr_false rfl ?_ | with_reducible refine abr_yes rfl ?_ | refine abr_yes (by decide) ?_ | refine abr_no (by decide) ?_ | with_reducible refine abr_same_ne ?_); (conv => whnf))))
      (repeat ((first | refine aload (by (repeat (first | with_reducible exact upd_same _ _ _ | assumption | rw [upd_ne _ _ (by first | assumption | (apply Ne.symm; assumption))]))) rfl ?_ | refine afit_i64 (by omega) ?_ | refine arem_nonneg (by omega) (by omega) ?_ | refine adiv_i64 (by omega) (by omega) ?_ | refine abr_yes (by omega) ?_ | refine abr_no (by omega) ?_ | refine amin ?_ | refine amax ?_ | refine afit_u64 (by omega) ?_ | refine afit_u8 (by omega) ?_ | rw [List.length_map]); ((conv => whnf); (repeat ((first | with_reducible refine abr_true rfl ?_ | with_reducible refine abr_false rfl ?_ | with_reducible refine abr_yes rfl ?_ | refine abr_yes (by decide) ?_ | refine abr_no (by decide) ?_ | with_reducible refine abr_same_ne ?_); (conv => whnf))))))
      exact aret (VLe.refl _) hs ⟨by rw [hall], rfl⟩
end Go.Proofs.Ytnfdgccmpglbhaa
/-
  Two rights to append, apart.
-/
namespace Go.Proofs.Ytnfdgccmpglbhaa
set_option linter.unusedVariables false
set_option linter.unusedSimpArgs false
open Go Go.Am

structure Tok2 (σ σb : AHeap) (a b : Tok) : Prop where
  fa : TokIn σ σb a
  fb : TokIn σ σb b
  ne : ∀ t, a = Tok.tip t → b ≠ Tok.tip t
theorem Tok2.symm {σ σb : AHeap} {a b : Tok} (h : Tok2 σ σb a b) : Tok2 σ σb b a := ⟨h.fb, h.fa, fun t e k => h.ne t k e⟩
theorem Tok2.ext {σ σ' σb : AHeap} {a b : Tok} (h : Tok2 σ σb a b) (k : ∀ t, σ t = some .tip → σ' t = some .tip) : Tok2 σ' σb a b := ⟨h.fa.ext k, h.fb.ext k, h.ne⟩
theorem Tok2.set {σ σb : AHeap} {a b : Tok} {id : Nat} {o : AObj} (x : AObj) (h : Tok2 σ σb a b) (k : σ id = some o) (ho : o.isTip = false) : Tok2 (upd σ id x) σb a b := ⟨h.fa.set x k ho, h.fb.set x k ho, h.ne⟩
theorem Tok2.full (σ σb : AHeap) : Tok2 σ σb .full .full := ⟨.full _ _, .full _ _, nofun⟩
theorem Tok2.fresh {σ σb : AHeap} {a b : Tok} {id : Nat} (x : AObj) (h : Tok2 σ σb a b) (k : σ id = none) : Tok2 (upd σ id x) σb a b :=
  h.ext fun t ht => by rw [upd_ne]; exact ht; intro e; subst e; rw [k] at ht; cases ht
theorem aapp_2 {σ σb : AHeap} {s bytes : Nat} {xs ys : List AVal} {a b : Tok} {K : AVal → AHeap → Prop} (h : Tok2 σ σb a b) (hs : Sub σ σb) (hl : (xs.length + ys.length) * bytes ≤ 140737488355328)
    (k : ∀ t' σ', Ext σ σ' → Sub σ' σb → Tok2 σ' σb (.tip t') b → K (.slice s (xs ++ ys) (.tip t')) σ') : AApp σ s bytes xs a ys K := by
  obtain ⟨ha, hb, hne⟩ := h
  rcases ha with rfl | ⟨t, rfl, h1, h2⟩
  · refine aapp_full hl fun t ht => k t _ (Ext.upd_fresh _ ht) (sub_upd _ hs (sub_none hs ht)) ⟨.inr ⟨t, rfl, upd_same _ _ _, sub_none hs ht⟩, hb.ext fun t2 h2 => ?_, fun t2 e1 e2 => ?_⟩
    · rw [upd_ne]; exact h2; intro e; subst e; rw [ht] at h2; cases h2
    · cases e1
      rcases hb with rfl | ⟨t3, rfl, h3, _⟩
      · cases e2
      · cases e2; rw [ht] at h3; cases h3
  · refine aapp_tip h1 hl fun t' ht' => ?_
    have hb' : σb t' = none := sub_none hs ht'
    refine k t' _ (fun id o ho e => ?_) (sub_upd _ (sub_del hs h2) hb') ⟨.inr ⟨t', rfl, upd_same _ _ _, hb'⟩, ?_, fun t2 e1 e2 => ?_⟩
    · have hne : id ≠ t := fun q => by subst q; rw [h1] at e; cases e; cases ho
      have e2 : del σ t id = some o := by rw [del_ne _ hne]; exact e
      rw [upd_ne]; exact e2
      intro q; subst q; rw [e] at ht'; cases ht'
    · rcases hb with rfl | ⟨t3, rfl, h3, h4⟩
      · exact .inl rfl
      · have n1 : t3 ≠ t := fun e => hne t rfl (by rw [e])
        have n2 : t3 ≠ t' := fun e => by subst e; rw [ht'] at h3; cases h3
        exact .inr ⟨t3, rfl, by rw [upd_ne _ _ n2, del_ne _ n1]; exact h3, h4⟩
    · cases e1
      rcases hb with rfl | ⟨t3, rfl, h3, _⟩
      · cases e2
      · cases e2; rw [ht'] at h3; cases h3
end Go.Proofs.Ytnfdgccmpglbhaa
/-
  Statuses that are equal; the document's form of one.
-/
namespace Go.Proofs.Ytnfdgccmpglbhaa
set_option linter.unusedVariables false
set_option linter.unusedSimpArgs false
open Go Go.Am

def msEq (a b : Ms) : Bool := decide (a.1 = b.1) && (a.2.1 == b.2.1 && (decide (a.2.2.1 = b.2.2.1) && (decide (a.2.2.2 = b.2.2.2) && true)))
theorem msEq_iff {a b : Ms} : msEq a b = true ↔ a = b := by
  obtain ⟨a1, a2, a3, a4⟩ := a
  obtain ⟨b1, b2, b3, b4⟩ := b
  simp [msEq]
theorem take_succ_eq {l m : List Ms} {i : Nat} (h : i < l.length) (h2 : i < m.length) (ht : l.take i = m.take i) : l.take (i + 1) = m.take (i + 1) ↔ l[i] = m[i] := by
  rw [show l.take (i + 1) = l.take i ++ [l[i]] from (List.take_append_getElem h).symm, show m.take (i + 1) = m.take i ++ [m[i]] from (List.take_append_getElem h2).symm, ht, List.append_cancel_left_eq]
  simp only [List.cons.injEq, and_true]

set_option maxRecDepth 20000 in
theorem tEqual (l m : List Ms) (t u : Tok) (σ : AHeap) (hl : l.length ≤ 9223372036854775807) : ACalls Try.prog i_status_Miss_109 [missV t l, missV u m] σ fun v σ' => v = boolv (decide (l = m)) ∧ σ' = σ := by
  refine k_status_Miss_109 rfl ?_
  ((conv => whnf); (repeat ((first | with_reducible refine abr_true rfl ?_ | with_reducible refine abr_false rfl ?_ | with_reducible refine abr_yes rfl ?_ | refine abr_yes (by decide) ?_ | refine abr_no (by decide) ?_ | with_reducible refine abr_same_ne ?_); (conv => whnf))))
  rw [List.length_map, List.length_map]
  by_cases hlm : l.length = m.length
  case neg =>
    (repeat ((first | refine aload (by (repeat (first | with_reducible exact upd_same _ _ _ | assumption | rw [upd_ne _ _ (by first | assumption | (apply Ne.symm; assumption))]))) rfl ?_ | refine afit_i64 (by omega) ?_ | refine arem_nonneg (by omega) (by omega) ?_ | refine adiv_i64 (by omega) (by omega) ?_ | refine abr_yes (by omega) ?_ | refine abr_no (by omega) ?_ | refine amin ?_ | refine amax ?_ | refine afit_u64 (by omega) ?_ | refine afit_u8 (by omega) ?_ | rw [List.length_map]); ((conv => whnf); (repeat ((first | with_reducible refine abr_true rfl ?_ | with_reducible refine abr_false rfl ?_ | with_reducible refine abr_yes rfl ?_ | refine abr_yes (by decide) ?_ | refine abr_no (by decide) ?_ | with_reducible refine abr_same_ne ?_); (conv => whnf))))))
    exact aret_same ⟨congrArg boolv (decide_eq_false fun e => hlm (by rw [e])).symm, rfl⟩
  (repeat ((first | refine aload (by (repeat (first | with_reducible exact upd_same _ _ _ | assumption | rw [upd_ne _ _ (by first | assumption | (apply Ne.symm; assumption))]))) rfl ?_ | refine afit_i64 (by omega) ?_ | refine arem_nonneg (by omega) (by omega) ?_ | refine adiv_i64 (by omega) (by omega) ?_ | refine abr_yes (by omega) ?_ | refine abr_no (by omega) ?_ | refine amin ?_ | refine amax ?_ | refine afit_u64 (by omega) ?_ | refine afit_u8 (by omega) ?_ | rw [List.length_map]); ((conv => whnf); (repeat ((first | with_reducible refine abr_true rfl ?_ | with_reducible refine abr_false rfl ?_ | with_reducible refine abr_yes rfl ?_ | refine abr_yes (by decide) ?_ | refine abr_no (by decide) ?_ | with_reducible refine abr_same_ne ?_); (conv => whnf))))))
  refine aloop (α := Nat) (fun i => [(s13, i64v i)]) (fun _ => σ) (fun i => i ≤ l.length ∧ l.take i = m.take i) (fun i => l.length - i) 0 ⟨Nat.zero_le _, rfl⟩ (Sub.refl _) ?_ ?_
  · ((conv => whnf); (repeat ((first | with_reducible refine abr_true rfl ?_ | with_reducible refine abr_false rfl ?_ | with_reducible refine abr_yes rfl ?_ | refine abr_yes (by decide) ?_ | refine abr_no (by decide) ?_ | with_reducible refine abr_same_ne ?_); (conv => whnf))))
    (repeat' first | with_reducible exact EnvLe.refl _ | (refine EnvLe.node ?_ (by first | exact Or.inl rfl | exact Or.inr (Or.inl rfl) | exact Or.inr (Or.inr ⟨nofun, VLe.slice _ _ _⟩)) ?_))
  rintro i ⟨hi, ht⟩
  by_cases h : i < l.length
  · have h2 : i < m.length := by omega
    have hte := take_succ_eq h h2 ht
    ((conv => whnf); (repeat ((first | with_reducible refine abr_true rfl ?_ | with_reducible refine abr_false rfl ?_ | with_reducible refine abr_yes rfl ?_ | refine abr_yes (by decide) ?_ | refine abr_no (by decide) ?_ | with_reducible refine abr_same_ne ?_); (conv => whnf))))
    (repeat ((first | refine aload (by (repeat (first | with_reducible exact upd_same _ _ _ | assumption | rw [upd_ne _ _ (by first | assumption | (apply Ne.symm; assumption))]))) rfl ?_ | refine afit_i64 (by omega) ?_ | refine arem_nonneg (by omega) (by omega) ?_ | refine adiv_i64 (by omega) (by omega) ?_ | refine abr_yes (by omega) ?_ | refine abr_no (by omega) ?_ | refine amin ?_ | refine amax ?_ | refine afit_u64 (by omega) ?_ | refine afit_u8 (by omega) ?_ | rw [List.length_map]); ((conv => whnf); (repeat ((first | with_reducible refine abr_true rfl ?_ | with_reducible refine abr_false rfl ?_ | with_reducible refine abr_yes rfl ?_ | refine abr_yes (by decide) ?_ | refine abr_no (by decide) ?_ | with_reducible refine abr_same_ne ?_); (conv => whnf))))))
    refine aget (by omega) (get_ms h) ?_
    ((conv => whnf); (repeat ((first | with_reducible refine abr_true rfl ?_ | with_reducible refine abr_false rfl ?_ | with_reducible refine abr_yes rfl ?_ | refine abr_yes (by decide) ?_ | refine abr_no (by decide) ?_ | with_reducible refine abr_same_ne ?_); (conv => whnf))))
    refine acells (l := (msV l[i]).cells) (by exact Nat.le_refl 4) rfl ?_
    ((conv => whnf); (repeat ((first | with_reducible refine abr_true rfl ?_ | with_reducible refine abr_false rfl ?_ | with_reducible refine abr_yes rfl ?_ | refine abr_yes (by decide) ?_ | refine abr_no (by decide) ?_ | with_reducible refine abr_same_ne ?_); (conv => whnf))))
    refine aget (by omega) (get_ms h2) ?_
    ((conv => whnf); (repeat ((first | with_reducible refine abr_true rfl ?_ | with_reducible refine abr_false rfl ?_ | with_reducible refine abr_yes rfl ?_ | refine abr_yes (by decide) ?_ | refine abr_no (by decide) ?_ | with_reducible refine abr_same_ne ?_); (conv => whnf))))
    refine acells (l := (msV m[i]).cells) (by exact Nat.le_refl 4) rfl ?_
    ((conv => whnf); (repeat ((first | with_reducible refine abr_true rfl ?_ | with_reducible refine abr_false rfl ?_ | with_reducible refine abr_yes rfl ?_ | refine abr_yes (by decide) ?_ | refine abr_no (by decide) ?_ | with_reducible refine abr_same_ne ?_); (conv => whnf))))
    by_cases e : l[i] = m[i]
    · have hq : msEq l[i] m[i] = true := msEq_iff.2 e
      refine abr_false (show (msEq l[i] m[i] != true) = false by rw [hq]; rfl) ?_
      ((conv => whnf); (repeat ((first | with_reducible refine abr_true rfl ?_ | with_reducible refine abr_false rfl ?_ | with_reducible refine abr_yes rfl ?_ | refine abr_yes (by decide) ?_ | refine abr_no (by decide) ?_ | with_reducible refine abr_same_ne ?_); (conv => whnf))))
      (repeat ((first | refine aload (by (repeat (first | with_reducible exact upd_same _ _ _ | assumption | rw [upd_ne _ _ (by first | assumption | (apply Ne.symm; assumption))]))) rfl ?_ | refine afit_i64 (by omega) ?_ | refine arem_nonneg (by omega) (by omega) ?_ | refine adiv_i64 (by omega) (by omega) ?_ | refine abr_yes (by omega) ?_ | refine abr_no (by omega) ?_ | refine amin ?_ | refine amax ?_ | refine afit_u64 (by omega) ?_ | refine afit_u8 (by omega) ?_ | rw [List.length_map]); ((conv => whnf); (repeat ((first | with_reducible refine abr_true rfl ?_ | with_reducible refine abr_false rfl ?_ | with_reducible refine abr_yes rfl ?_ | refine abr_yes (by decide) ?_ | refine abr_no (by decide) ?_ | with_reducible refine abr_same_ne ?_); (conv => whnf))))))
      refine ⟨i + 1, ⟨h, hte.2 e⟩, by omega, Sub.refl _, ?_⟩
      ((conv => whnf); (repeat ((first | with_reducible refine abr_true rfl ?_ | with_reducible refine abr_false rfl ?_ | with_reducible refine abr_yes rfl ?_ | refine abr_yes (by decide) ?_ | refine abr_no (by decide) ?_ | with_reducible refine abr_same_ne ?_); (conv => whnf))))
      (repeat' first | with_reducible exact EnvLe.refl _ | (refine EnvLe.node ?_ (by first | exact Or.inl rfl | exact Or.inr (Or.inl rfl) | exact Or.inr (Or.inr ⟨nofun, VLe.slice _ _ _⟩)) ?_))
    · have hq : msEq l[i] m[i] = false := Bool.eq_false_iff.2 fun h => e (msEq_iff.1 h)
      refine abr_true (show (msEq l[i] m[i] != true) = true by rw [hq]; rfl) ?_
      ((conv => whnf); (repeat ((first | with_reducible refine abr_true rfl ?_ | with_reducible refine abr_false rfl ?_ | with_reducible refine abr_yes rfl ?_ | refine abr_yes (by decide) ?_ | refine abr_no (by decide) ?_ | with_reducible refine abr_same_ne ?_); (conv => whnf))))
      exact aret_same ⟨congrArg boolv (decide_eq_false fun e2 => e (hte.1 (by rw [e2]))).symm, rfl⟩
  · rw [List.take_of_length_le (by omega), List.take_of_length_le (by omega)] at ht
    ((conv => whnf); (repeat ((first | with_reducible refine abr_true rfl ?_ | with_reducible refine abr_false rfl ?_ | with_reducible refine abr_yes rfl ?_ | refine abr_yes (by decide) ?_ | refine abr_no (by decide) ?_ | with_reducible refine abr_same_ne ?_); (conv => whnf))))
    (repeat ((first | refine aload (by (repeat (first | with_reducible exact upd_same _ _ _ | assumption | rw [upd_ne _ _ (by first | assumption | (apply Ne.symm; assumption))]))) rfl ?_ | refine afit_i64 (by omega) ?_ | refine arem_nonneg (by omega) (by omega) ?_ | refine adiv_i64 (by omega) (by omega) ?_ | refine abr_yes (by omega) ?_ | refine abr_no (by omega) ?_ | refine amin ?_ | refine amax ?_ | refine afit_u64 (by omega) ?_ | refine afit_u8 (by omega) ?_ | rw [List.length_map]); ((conv => whnf); (repeat ((first | with_reducible refine abr_true rfl ?_ | with_reducible refine abr_false rfl ?_ | with_reducible refine abr_yes rfl ?_ | refine abr_yes (by decide) ?_ | refine abr_no (by decide) ?_ | with_reducible refine abr_same_ne ?_); (conv => whnf))))))
    exact aret_same ⟨congrArg boolv (decide_eq_true ht).symm, rfl⟩
set_option maxRecDepth 20000 in
theorem tSame (a b : Int × List Ms) (t u : Tok) (σ : AHeap) (hl : a.2.length ≤ 9223372036854775807) : ACalls Try.prog i_status_Same [stV t a, stV u b] σ fun v σ' => v = boolv (decide (a = b)) ∧ σ' = σ := by
  obtain ⟨x, l⟩ := a
  obtain ⟨y, m⟩ := b
  dsimp only at hl
  refine k_status_Same rfl ?_
  ((conv => whnf); (repeat ((first | with_reducible refine abr_true rfl ?_ | with_reducible refine abr_false rfl ?_ | with_reducible refine abr_yes rfl ?_ | refine abr_yes (by decide) ?_ | refine abr_no (by decide) ?_ | with_reducible refine abr_same_ne ?_); (conv => whnf))))
  refine anew rfl fun i1 h1 => ?_
  ((conv => whnf); (repeat ((first | with_reducible refine abr_true rfl ?_ | with_reducible refine abr_false rfl ?_ | with_reducible refine abr_yes rfl ?_ | refine abr_yes (by decide) ?_ | refine abr_no (by decide) ?_ | with_reducible refine abr_same_ne ?_); (conv => whnf))))
  refine anew rfl fun i2 h2 => ?_
  have n12 : i1 ≠ i2 := fun e => by subst e; rw [upd_same] at h2; cases h2
  have b2 : σ i2 = none := sub_none (Sub.upd_fresh _ h1) h2
  have hs : Sub (upd (upd σ i1 (.cells (stV t (x, l)).cells)) i2 (.cells (stV u (y, m)).cells)) σ := sub_upd _ (Sub.upd_fresh _ h1) b2
  have k1 : upd (upd σ i1 (.cells (stV t (x, l)).cells)) i2 (.cells (stV u (y, m)).cells) i1 = some (.cells [i64v x, missV t l]) := by rw [upd_ne _ _ n12]; exact upd_same _ _ _
  have k2 : upd (upd σ i1 (.cells (stV t (x, l)).cells)) i2 (.cells (stV u (y, m)).cells) i2 = some (.cells [i64v y, missV u m]) := upd_same _ _ _
  generalize upd (upd σ i1 (.cells (stV t (x, l)).cells)) i2 (.cells (stV u (y, m)).cells) = τ at *
  ((conv => whnf); (repeat ((first | with_reducible refine abr_true rfl ?_ | with_reducible refine abr_false rfl ?_ | with_reducible refine abr_yes rfl ?_ | refine abr_yes (by decide) ?_ | refine abr_no (by decide) ?_ | with_reducible refine abr_same_ne ?_); (conv => whnf))))
  refine aload k1 rfl ?_
  ((conv => whnf); (repeat ((first | with_reducible refine abr_true rfl ?_ | with_reducible refine abr_false rfl ?_ | with_reducible refine abr_yes rfl ?_ | refine abr_yes (by decide) ?_ | refine abr_no (by decide) ?_ | with_reducible refine abr_same_ne ?_); (conv => whnf))))
  refine aload k2 rfl ?_
  ((conv => whnf); (repeat ((first | with_reducible refine abr_true rfl ?_ | with_reducible refine abr_false rfl ?_ | with_reducible refine abr_yes rfl ?_ | refine abr_yes (by decide) ?_ | refine abr_no (by decide) ?_ | with_reducible refine abr_same_ne ?_); (conv => whnf))))
  by_cases e : x = y
  · refine abr_yes e ?_
    ((conv => whnf); (repeat ((first | with_reducible refine abr_true rfl ?_ | with_reducible refine abr_false rfl ?_ | with_reducible refine abr_yes rfl ?_ | refine abr_yes (by decide) ?_ | refine abr_no (by decide) ?_ | with_reducible refine abr_same_ne ?_); (conv => whnf))))
    refine aload k1 rfl ?_
    ((conv => whnf); (repeat ((first | with_reducible refine abr_true rfl ?_ | with_reducible refine abr_false rfl ?_ | with_reducible refine abr_yes rfl ?_ | refine abr_yes (by decide) ?_ | refine abr_no (by decide) ?_ | with_reducible refine abr_same_ne ?_); (conv => whnf))))
    refine aload k2 rfl ?_
    ((conv => whnf); (repeat ((first | with_reducible refine abr_true rfl ?_ | with_reducible refine abr_false rfl ?_ | with_reducible refine abr_yes rfl ?_ | refine abr_yes (by decide) ?_ | refine abr_no (by decide) ?_ | with_reducible refine abr_same_ne ?_); (conv => whnf))))
    refine acall (tEqual l m t u _ hl) ?_
    rintro _ σ_ ⟨rfl, e_⟩
    obtain rfl := e_.symm
    refine ⟨?_, Ext.refl _⟩
    ((conv => whnf); (repeat ((first | with_reducible refine abr_true rfl ?_ | with_reducible refine abr_false rfl ?_ | with_reducible refine abr_yes rfl ?_ | refine abr_yes (by decide) ?_ | refine abr_no (by decide) ?_ | with_reducible refine abr_same_ne ?_); (conv => whnf))))
    exact aret (VLe.refl _) hs ⟨congrArg boolv (dec_congr (by rw [Prod.mk.injEq]; exact ⟨fun h => ⟨e, h⟩, fun h => h.2⟩)), rfl⟩
  · refine abr_no e ?_
    ((conv => whnf); (repeat ((first | with_reducible refine abr_true rfl ?_ | with_reducible refine abr_false rfl ?_ | with_reducible refine abr_yes rfl ?_ | refine abr_yes (by decide) ?_ | refine abr_no (by decide) ?_ | with_reducible refine abr_same_ne ?_); (conv => whnf))))
    exact aret (VLe.refl _) hs ⟨congrArg boolv (decide_eq_false fun h => e (congrArg Prod.fst h)).symm, rfl⟩
set_option maxRecDepth 20000 in
theorem refSame (a b : Int × List Ms) (t u : Tok) (σ : AHeap) (hl : a.2.length ≤ 9223372036854775807) : ACalls Try.prog i_bowlineref11_Same [stV t a, stV u b] σ fun v σ' => v = boolv (decide (a = b)) ∧ σ' = σ := by
  obtain ⟨x, l⟩ := a
  obtain ⟨y, m⟩ := b
  dsimp only at hl
  refine k_bowlineref11_Same rfl ?_
  ((conv => whnf); (repeat ((first | with_reducible refine abr_true rfl ?_ | with_reducible refine abr_false rfl ?_ | with_reducible refine abr_yes rfl ?_ | refine abr_yes (by decide) ?_ | refine abr_no (by decide) ?_ | with_reducible refine abr_same_ne ?_); (conv => whnf))))
  refine anew rfl fun i1 h1 => ?_
  ((conv => whnf); (repeat ((first | with_reducible refine abr_true rfl ?_ | with_reducible refine abr_false rfl ?_ | with_reducible refine abr_yes rfl ?_ | refine abr_yes (by decide) ?_ | refine abr_no (by decide) ?_ | with_reducible refine abr_same_ne ?_); (conv => whnf))))
  refine anew rfl fun i2 h2 => ?_
  have n12 : i1 ≠ i2 := fun e => by subst e; rw [upd_same] at h2; cases h2
  have b2 : σ i2 = none := sub_none (Sub.upd_fresh _ h1) h2
  have hs : Sub (upd (upd σ i1 (.cells (stV t (x, l)).cells)) i2 (.cells (stV u (y, m)).cells)) σ := sub_upd _ (Sub.upd_fresh _ h1) b2
  have k1 : upd (upd σ i1 (.cells (stV t (x, l)).cells)) i2 (.cells (stV u (y, m)).cells) i1 = some (.cells [i64v x, missV t l]) := by rw [upd_ne _ _ n12]; exact upd_same _ _ _
  have k2 : upd (upd σ i1 (.cells (stV t (x, l)).cells)) i2 (.cells (stV u (y, m)).cells) i2 = some (.cells [i64v y, missV u m]) := upd_same _ _ _
  generalize upd (upd σ i1 (.cells (stV t (x, l)).cells)) i2 (.cells (stV u (y, m)).cells) = τ at *
  ((conv => whnf); (repeat ((first | with_reducible refine abr_true rfl ?_ | with_reducible refine abr_false rfl ?_ | with_reducible refine abr_yes rfl ?_ | refine abr_yes (by decide) ?_ | refine abr_no (by decide) ?_ | with_reducible refine abr_same_ne ?_); (conv => whnf))))
  refine aload k1 rfl ?_
  ((conv => whnf); (repeat ((first | with_reducible refine abr_true rfl ?_ | with_reducible refine abr_false rfl ?_ | with_reducible refine abr_yes rfl ?_ | refine abr_yes (by decide) ?_ | refine abr_no (by decide) ?_ | with_reducible refine abr_same_ne ?_); (conv => whnf))))
  refine aload k2 rfl ?_
  ((conv => whnf); (repeat ((first | with_reducible refine abr_true rfl ?_ | with_reducible refine abr_false rfl ?_ | with_reducible refine abr_yes rfl ?_ | refine abr_yes (by decide) ?_ | refine abr_no (by decide) ?_ | with_reducible refine abr_same_ne ?_); (conv => whnf))))
  by_cases e : x = y
  case neg =>
    (repeat ((first | refine aload (by (repeat (first | with_reducible exact upd_same _ _ _ | assumption | rw [upd_ne _ _ (by first | assumption | (apply Ne.symm; assumption))]))) rfl ?_ | refine afit_i64 (by omega) ?_ | refine arem_nonneg (by omega) (by omega) ?_ | refine adiv_i64 (by omega) (by omega) ?_ | refine abr_yes (by omega) ?_ | refine abr_no (by omega) ?_ | refine amin ?_ | refine amax ?_ | refine afit_u64 (by omega) ?_ | refine afit_u8 (by omega) ?_ | rw [List.length_map]); ((conv => whnf); (repeat ((first | with_reducible refine abr_true rfl ?_ | with_reducible refine abr_false rfl ?_ | with_reducible refine abr_yes rfl ?_ | refine abr_yes (by decide) ?_ | refine abr_no (by decide) ?_ | with_reducible refine abr_same_ne ?_); (conv => whnf))))))
    exact aret (VLe.refl _) hs ⟨congrArg boolv (decide_eq_false fun h => e (congrArg Prod.fst h)).symm, rfl⟩
  have hdec : decide ((x, l) = (y, m)) = decide (l = m) := dec_congr (by rw [Prod.mk.injEq]; exact ⟨fun h => h.2, fun h => ⟨e, h⟩⟩)
  rw [hdec]
  (repeat ((first | refine aload (by (repeat (first | with_reducible exact upd_same _ _ _ | assumption | rw [upd_ne _ _ (by first | assumption | (apply Ne.symm; assumption))]))) rfl ?_ | refine afit_i64 (by omega) ?_ | refine arem_nonneg (by omega) (by omega) ?_ | refine adiv_i64 (by omega) (by omega) ?_ | refine abr_yes (by omega) ?_ | refine abr_no (by omega) ?_ | refine amin ?_ | refine amax ?_ | refine afit_u64 (by omega) ?_ | refine afit_u8 (by omega) ?_ | rw [List.length_map]); ((conv => whnf); (repeat ((first | with_reducible refine abr_true rfl ?_ | with_reducible refine abr_false rfl ?_ | with_reducible refine abr_yes rfl ?_ | refine abr_yes (by decide) ?_ | refine abr_no (by decide) ?_ | with_reducible refine abr_same_ne ?_); (conv => whnf))))))
  by_cases hlm : l.length = m.length
  case neg =>
    (repeat ((first | refine aload (by (repeat (first | with_reducible exact upd_same _ _ _ | assumption | rw [upd_ne _ _ (by first | assumption | (apply Ne.symm; assumption))]))) rfl ?_ | refine afit_i64 (by omega) ?_ | refine arem_nonneg (by omega) (by omega) ?_ | refine adiv_i64 (by omega) (by omega) ?_ | refine abr_yes (by omega) ?_ | refine abr_no (by omega) ?_ | refine amin ?_ | refine amax ?_ | refine afit_u64 (by omega) ?_ | refine afit_u8 (by omega) ?_ | rw [List.length_map]); ((conv => whnf); (repeat ((first | with_reducible refine abr_true rfl ?_ | with_reducible refine abr_false rfl ?_ | with_reducible refine abr_yes rfl ?_ | refine abr_yes (by decide) ?_ | refine abr_no (by decide) ?_ | with_reducible refine abr_same_ne ?_); (conv => whnf))))))
    exact aret (VLe.refl _) hs ⟨congrArg boolv (decide_eq_false fun e => hlm (by rw [e])).symm, rfl⟩
  (repeat ((first | refine aload (by (repeat (first | with_reducible exact upd_same _ _ _ | assumption | rw [upd_ne _ _ (by first | assumption | (apply Ne.symm; assumption))]))) rfl ?_ | refine afit_i64 (by omega) ?_ | refine arem_nonneg (by omega) (by omega) ?_ | refine adiv_i64 (by omega) (by omega) ?_ | refine abr_yes (by omega) ?_ | refine abr_no (by omega) ?_ | refine amin ?_ | refine amax ?_ | refine afit_u64 (by omega) ?_ | refine afit_u8 (by omega) ?_ | rw [List.length_map]); ((conv => whnf); (repeat ((first | with_reducible refine abr_true rfl ?_ | with_reducible refine abr_false rfl ?_ | with_reducible refine abr_yes rfl ?_ | refine abr_yes (by decide) ?_ | refine abr_no (by decide) ?_ | with_reducible refine abr_same_ne ?_); (conv => whnf))))))
  refine aloop (α := Nat) (fun i => [(s5, i64v i)]) (fun _ => τ) (fun i => i ≤ l.length ∧ l.take i = m.take i) (fun i => l.length - i) 0 ⟨Nat.zero_le _, rfl⟩ (Sub.refl _) ?_ ?_
  · ((conv => whnf); (repeat ((first | with_reducible refine abr_true rfl ?_ | with_reducible refine abr_false rfl ?_ | with_reducible refine abr_yes rfl ?_ | refine abr_yes (by decide) ?_ | refine abr_no (by decide) ?_ | with_reducible refine abr_same_ne ?_); (conv => whnf))))
    (repeat' first | with_reducible exact EnvLe.refl _ | (refine EnvLe.node ?_ (by first | exact Or.inl rfl | exact Or.inr (Or.inl rfl) | exact Or.inr (Or.inr ⟨nofun, VLe.slice _ _ _⟩)) ?_))
  rintro i ⟨hi, ht⟩
  by_cases h : i < l.length
  · have h2 : i < m.length := by omega
    have hte := take_succ_eq h h2 ht
    ((conv => whnf); (repeat ((first | with_reducible refine abr_true rfl ?_ | with_reducible refine abr_false rfl ?_ | with_reducible refine abr_yes rfl ?_ | refine abr_yes (by decide) ?_ | refine abr_no (by decide) ?_ | with_reducible refine abr_same_ne ?_); (conv => whnf))))
    (repeat ((first | refine aload (by (repeat (first | with_reducible exact upd_same _ _ _ | assumption | rw [upd_ne _ _ (by first | assumption | (apply Ne.symm; assumption))]))) rfl ?_ | refine afit_i64 (by omega) ?_ | refine arem_nonneg (by omega) (by omega) ?_ | refine adiv_i64 (by omega) (by omega) ?_ | refine abr_yes (by omega) ?_ | refine abr_no (by omega) ?_ | refine amin ?_ | refine amax ?_ | refine afit_u64 (by omega) ?_ | refine afit_u8 (by omega) ?_ | rw [List.length_map]); ((conv => whnf); (repeat ((first | with_reducible refine abr_true rfl ?_ | with_reducible refine abr_false rfl ?_ | with_reducible refine abr_yes rfl ?_ | refine abr_yes (by decide) ?_ | refine abr_no (by decide) ?_ | with_reducible refine abr_same_ne ?_); (conv => whnf))))))
    refine aget (by omega) (get_ms h) ?_
    ((conv => whnf); (repeat ((first | with_reducible refine abr_true rfl ?_ | with_reducible refine abr_false rfl ?_ | with_reducible refine abr_yes rfl ?_ | refine abr_yes (by decide) ?_ | refine abr_no (by decide) ?_ | with_reducible refine abr_same_ne ?_); (conv => whnf))))
    refine acells (l := (msV l[i]).cells) (by exact Nat.le_refl 4) rfl ?_
    ((conv => whnf); (repeat ((first | with_reducible refine abr_true rfl ?_ | with_reducible refine abr_false rfl ?_ | with_reducible refine abr_yes rfl ?_ | refine abr_yes (by decide) ?_ | refine abr_no (by decide) ?_ | with_reducible refine abr_same_ne ?_); (conv => whnf))))
    refine aload k2 rfl ?_
    ((conv => whnf); (repeat ((first | with_reducible refine abr_true rfl ?_ | with_reducible refine abr_false rfl ?_ | with_reducible refine abr_yes rfl ?_ | refine abr_yes (by decide) ?_ | refine abr_no (by decide) ?_ | with_reducible refine abr_same_ne ?_); (conv => whnf))))
    refine aget (by omega) (get_ms h2) ?_
    ((conv => whnf); (repeat ((first | with_reducible refine abr_true rfl ?_ | with_reducible refine abr_false rfl ?_ | with_reducible refine abr_yes rfl ?_ | refine abr_yes (by decide) ?_ | refine abr_no (by decide) ?_ | with_reducible refine abr_same_ne ?_); (conv => whnf))))
    refine acells (l := (msV m[i]).cells) (by exact Nat.le_refl 4) rfl ?_
    ((conv => whnf); (repeat ((first | with_reducible refine abr_true rfl ?_ | with_reducible refine abr_false rfl ?_ | with_reducible refine abr_yes rfl ?_ | refine abr_yes (by decide) ?_ | refine abr_no (by decide) ?_ | with_reducible refine abr_same_ne ?_); (conv => whnf))))
    by_cases e : l[i] = m[i]
    · have hq : msEq l[i] m[i] = true := msEq_iff.2 e
      refine abr_false (show (msEq l[i] m[i] != true) = false by rw [hq]; rfl) ?_
      ((conv => whnf); (repeat ((first | with_reducible refine abr_true rfl ?_ | with_reducible refine abr_false rfl ?_ | with_reducible refine abr_yes rfl ?_ | refine abr_yes (by decide) ?_ | refine abr_no (by decide) ?_ | with_reducible refine abr_same_ne ?_); (conv => whnf))))
      (repeat ((first | refine aload (by (repeat (first | with_reducible exact upd_same _ _ _ | assumption | rw [upd_ne _ _ (by first | assumption | (apply Ne.symm; assumption))]))) rfl ?_ | refine afit_i64 (by omega) ?_ | refine arem_nonneg (by omega) (by omega) ?_ | refine adiv_i64 (by omega) (by omega) ?_ | refine abr_yes (by omega) ?_ | refine abr_no (by omega) ?_ | refine amin ?_ | refine amax ?_ | refine afit_u64 (by omega) ?_ | refine afit_u8 (by omega) ?_ | rw [List.length_map]); ((conv => whnf); (repeat ((first | with_reducible refine abr_true rfl ?_ | with_reducible refine abr_false rfl ?_ | with_reducible refine abr_yes rfl ?_ | refine abr_yes (by decide) ?_ | refine abr_no (by decide) ?_ | with_reducible refine abr_same_ne ?_); (conv => whnf))))))
      refine ⟨i + 1, ⟨h, hte.2 e⟩, by omega, Sub.refl _, ?_⟩
      ((conv => whnf); (repeat ((first | with_reducible refine abr_true rfl ?_ | with_reducible refine abr_false rfl ?_ | with_reducible refine abr_yes rfl ?_ | refine abr_yes (by decide) ?_ | refine abr_no (by decide) ?_ | with_reducible refine abr_same_ne ?_); (conv => whnf))))
      (repeat' first | with_reducible exact EnvLe.refl _ | (refine EnvLe.node ?_ (by first | exact Or.inl rfl | exact Or.inr (Or.inl rfl) | exact Or.inr (Or.inr ⟨nofun, VLe.slice _ _ _⟩)) ?_))
    · have hq : msEq l[i] m[i] = false := Bool.eq_false_iff.2 fun h => e (msEq_iff.1 h)
      refine abr_true (show (msEq l[i] m[i] != true) = true by rw [hq]; rfl) ?_
      ((conv => whnf); (repeat ((first | with_reducible refine abr_true rfl ?_ | with_reducible refine abr_false rfl ?_ | with_reducible refine abr_yes rfl ?_ | refine abr_yes (by decide) ?_ | refine abr_no (by decide) ?_ | with_reducible refine abr_same_ne ?_); (conv => whnf))))
      exact aret (VLe.refl _) hs ⟨congrArg boolv (decide_eq_false fun e2 => e (hte.1 (by rw [e2]))).symm, rfl⟩
  · rw [List.take_of_length_le (by omega), List.take_of_length_le (by omega)] at ht
    ((conv => whnf); (repeat ((first | with_reducible refine abr_true rfl ?_ | with_reducible refine abr_false rfl ?_ | with_reducible refine abr_yes rfl ?_ | refine abr_yes (by decide) ?_ | refine abr_no (by decide) ?_ | with_reducible refine abr_same_ne ?_); (conv => whnf))))
    (repeat ((first | refine aload (by (repeat (first | with_reducible exact upd_same _ _ _ | assumption | rw [upd_ne _ _ (by first | assumption | (apply Ne.symm; assumption))]))) rfl ?_ | refine afit_i64 (by omega) ?_ | refine arem_nonneg (by omega) (by omega) ?_ | refine adiv_i64 (by omega) (by omega) ?_ | refine abr_yes (by omega) ?_ | refine abr_no (by omega) ?_ | refine amin ?_ | refine amax ?_ | refine afit_u64 (by omega) ?_ | refine afit_u8 (by omega) ?_ | rw [List.length_map]); ((conv => whnf); (repeat ((first | with_reducible refine abr_true rfl ?_ | with_reducible refine abr_false rfl ?_ | with_reducible refine abr_yes rfl ?_ | refine abr_yes (by decide) ?_ | refine abr_no (by decide) ?_ | with_reducible refine abr_same_ne ?_); (conv => whnf))))))
    exact aret (VLe.refl _) hs ⟨congrArg boolv (decide_eq_true ht).symm, rfl⟩
end Go.Proofs.Ytnfdgccmpglbhaa
/-
  The document's form of a status.
-/
namespace Go.Proofs.Ytnfdgccmpglbhaa
set_option linter.unusedVariables false
set_option linter.unusedSimpArgs false
open Go Go.Am

theorem vle_st {x : Int} {l : List Ms} {t : Tok} : VLe (stV t (x, l)) (stV .none (x, l)) := fun κ v k => by
  cases k with
  | agg k => exact .agg (VLe.cons (VLe.refl _) (VLe.cons (VLe.slice _ _ _) fun _ _ h => h) _ _ k)
set_option maxRecDepth 20000 in
theorem tAs (s : Int × List Ms) (t : Tok) (σ : AHeap) (hl : s.2.length * 32 ≤ 140737488351232) : ACalls Try.prog i_bowlinelaw11_As [stV t s] σ fun v σ' => v = stV .none s ∧ σ' = σ := by
  obtain ⟨x, l⟩ := s
  dsimp only at hl
  refine k_bowlinelaw11_As rfl ?_
  ((conv => whnf); (repeat ((first | with_reducible refine abr_true rfl ?_ | with_reducible refine abr_false rfl ?_ | with_reducible refine abr_yes rfl ?_ | refine abr_yes (by decide) ?_ | refine abr_no (by decide) ?_ | with_reducible refine abr_same_ne ?_); (conv => whnf))))
  refine anew rfl fun i1 h1 => ?_
  ((conv => whnf); (repeat ((first | with_reducible refine abr_true rfl ?_ | with_reducible refine abr_false rfl ?_ | with_reducible refine abr_yes rfl ?_ | refine abr_yes (by decide) ?_ | refine abr_no (by decide) ?_ | with_reducible refine abr_same_ne ?_); (conv => whnf))))
  refine anew rfl fun i2 h2 => ?_
  have n12 : i1 ≠ i2 := fun e => by subst e; rw [upd_same] at h2; cases h2
  have b2 : σ i2 = none := sub_none (Sub.upd_fresh _ h1) h2
  have hs : Sub (upd (upd σ i1 (.cells (stV t (x, l)).cells)) i2 (.cells [i64v 0, .slice 4 [] .full])) σ := sub_upd _ (Sub.upd_fresh _ h1) b2
  have k1 : upd (upd σ i1 (.cells (stV t (x, l)).cells)) i2 (.cells [i64v 0, .slice 4 [] .full]) i1 = some (.cells [i64v x, missV t l]) := by rw [upd_ne _ _ n12]; exact upd_same _ _ _
  have k2 : upd (upd σ i1 (.cells (stV t (x, l)).cells)) i2 (.cells [i64v 0, .slice 4 [] .full]) i2 = some (.cells [i64v 0, .slice 4 [] .full]) := upd_same _ _ _
  generalize upd (upd σ i1 (.cells (stV t (x, l)).cells)) i2 (.cells [i64v 0, .slice 4 [] .full]) = τ at *
  ((conv => whnf); (repeat ((first | with_reducible refine abr_true rfl ?_ | with_reducible refine abr_false rfl ?_ | with_reducible refine abr_yes rfl ?_ | refine abr_yes (by decide) ?_ | refine abr_no (by decide) ?_ | with_reducible refine abr_same_ne ?_); (conv => whnf))))
  refine aload k1 rfl ?_
  ((conv => whnf); (repeat ((first | with_reducible refine abr_true rfl ?_ | with_reducible refine abr_false rfl ?_ | with_reducible refine abr_yes rfl ?_ | refine abr_yes (by decide) ?_ | refine abr_no (by decide) ?_ | with_reducible refine abr_same_ne ?_); (conv => whnf))))
  refine anew rfl fun i3 h3 => ?_
  have n13 : i1 ≠ i3 := fun e => by subst e; rw [k1] at h3; cases h3
  have n23 : i2 ≠ i3 := fun e => by subst e; rw [k2] at h3; cases h3
  ((conv => whnf); (repeat ((first | with_reducible refine abr_true rfl ?_ | with_reducible refine abr_false rfl ?_ | with_reducible refine abr_yes rfl ?_ | refine abr_yes (by decide) ?_ | refine abr_no (by decide) ?_ | with_reducible refine abr_same_ne ?_); (conv => whnf))))
  refine astore (xs := [i64v x, .slice 4 [] .full]) (l := [i64v x, .slice 4 [] .full]) (upd_same _ _ _) (by exact Nat.le_refl 2) rfl rfl ?_
  rw [upd_upd]
  have b3 : σ i3 = none := sub_none hs h3
  have k1 : upd τ i3 (.cells [i64v x, .slice 4 [] .full]) i1 = some (.cells [i64v x, missV t l]) := (upd_ne _ _ n13).trans k1
  have k2 : upd τ i3 (.cells [i64v x, .slice 4 [] .full]) i2 = some (.cells [i64v 0, .slice 4 [] .full]) := (upd_ne _ _ n23).trans k2
  have k3 : upd τ i3 (.cells [i64v x, .slice 4 [] .full]) i3 = some (.cells [i64v x, missV .full []]) := upd_same _ _ _
  have hs : Sub (upd τ i3 (.cells [i64v x, .slice 4 [] .full])) σ := sub_upd _ hs b3
  generalize upd τ i3 (.cells [i64v x, .slice 4 [] .full]) = υ at *
  ((conv => whnf); (repeat ((first | with_reducible refine abr_true rfl ?_ | with_reducible refine abr_false rfl ?_ | with_reducible refine abr_yes rfl ?_ | refine abr_yes (by decide) ?_ | refine abr_no (by decide) ?_ | with_reducible refine abr_same_ne ?_); (conv => whnf))))
  refine aloop (α := Nat × Tok × AHeap) (fun z => [(s4, i64v z.1)]) (fun z => z.2.2) (fun z => z.1 ≤ l.length ∧ z.2.2 i1 = some (.cells [i64v x, missV t l]) ∧ z.2.2 i2 = some (.cells [i64v 0, .slice 4 [] .full]) ∧ z.2.2 i3 = some (.cells [i64v x, missV z.2.1 (l.take z.1)]) ∧ TokIn z.2.2 σ z.2.1 ∧ Sub z.2.2 σ) (fun z => l.length - z.1) (0, .full, υ) ⟨Nat.zero_le _, k1, k2, k3, .full _ _, hs⟩ (Sub.refl _) ?_ ?_
  · ((conv => whnf); (repeat ((first | with_reducible refine abr_true rfl ?_ | with_reducible refine abr_false rfl ?_ | with_reducible refine abr_yes rfl ?_ | refine abr_yes (by decide) ?_ | refine abr_no (by decide) ?_ | with_reducible refine abr_same_ne ?_); (conv => whnf))))
    (repeat' first | with_reducible exact EnvLe.refl _ | (refine EnvLe.node ?_ (by first | exact Or.inl rfl | exact Or.inr (Or.inl rfl) | exact Or.inr (Or.inr ⟨nofun, VLe.slice _ _ _⟩)) ?_))
  rintro ⟨i, tk, υ2⟩ ⟨hi, q1, q2, q3, hto, hs2⟩
  dsimp only at hi q1 q2 q3 hto hs2 ⊢
  by_cases h : i < l.length
  · ((conv => whnf); (repeat ((first | with_reducible refine abr_true rfl ?_ | with_reducible refine abr_false rfl ?_ | with_reducible refine abr_yes rfl ?_ | refine abr_yes (by decide) ?_ | refine abr_no (by decide) ?_ | with_reducible refine abr_same_ne ?_); (conv => whnf))))
    (repeat ((first | refine aload (by (repeat (first | with_reducible exact upd_same _ _ _ | assumption | rw [upd_ne _ _ (by first | assumption | (apply Ne.symm; assumption))]))) rfl ?_ | refine afit_i64 (by omega) ?_ | refine arem_nonneg (by omega) (by omega) ?_ | refine adiv_i64 (by omega) (by omega) ?_ | refine abr_yes (by omega) ?_ | refine abr_no (by omega) ?_ | refine amin ?_ | refine amax ?_ | refine afit_u64 (by omega) ?_ | refine afit_u8 (by omega) ?_ | rw [List.length_map]); ((conv => whnf); (repeat ((first | with_reducible refine abr_true rfl ?_ | with_reducible refine abr_false rfl ?_ | with_reducible refine abr_yes rfl ?_ | refine abr_yes (by decide) ?_ | refine abr_no (by decide) ?_ | with_reducible refine abr_same_ne ?_); (conv => whnf))))))
    refine aget (by omega) (get_ms h) ?_
    ((conv => whnf); (repeat ((first | with_reducible refine abr_true rfl ?_ | with_reducible refine abr_false rfl ?_ | with_reducible refine abr_yes rfl ?_ | refine abr_yes (by decide) ?_ | refine abr_no (by decide) ?_ | with_reducible refine abr_same_ne ?_); (conv => whnf))))
    refine acells (l := (msV l[i]).cells) (by exact Nat.le_refl 4) rfl ?_
    ((conv => whnf); (repeat ((first | with_reducible refine abr_true rfl ?_ | with_reducible refine abr_false rfl ?_ | with_reducible refine abr_yes rfl ?_ | refine abr_yes (by decide) ?_ | refine abr_no (by decide) ?_ | with_reducible refine abr_same_ne ?_); (conv => whnf))))
    refine anew rfl fun i5 h5 => ?_
    ((conv => whnf); (repeat ((first | with_reducible refine abr_true rfl ?_ | with_reducible refine abr_false rfl ?_ | with_reducible refine abr_yes rfl ?_ | refine abr_yes (by decide) ?_ | refine abr_no (by decide) ?_ | with_reducible refine abr_same_ne ?_); (conv => whnf))))
    refine astore (xs := (msV l[i]).cells) (l := [i64v l[i].1, boolv l[i].2.1, i64v l[i].2.2.1, i64v l[i].2.2.2]) (upd_same _ _ _) (by exact Nat.le_refl 4) rfl rfl ?_
    rw [upd_upd]
    have n15 : i1 ≠ i5 := fun e => by subst e; rw [q1] at h5; cases h5
    have n25 : i2 ≠ i5 := fun e => by subst e; rw [q2] at h5; cases h5
    have n35 : i3 ≠ i5 := fun e => by subst e; rw [q3] at h5; cases h5
    have m1 : upd υ2 i5 (.cells [i64v l[i].1, boolv l[i].2.1, i64v l[i].2.2.1, i64v l[i].2.2.2]) i1 = some (.cells [i64v x, missV t l]) := (upd_ne _ _ n15).trans q1
    have m2 : upd υ2 i5 (.cells [i64v l[i].1, boolv l[i].2.1, i64v l[i].2.2.1, i64v l[i].2.2.2]) i2 = some (.cells [i64v 0, .slice 4 [] .full]) := (upd_ne _ _ n25).trans q2
    have m3 : upd υ2 i5 (.cells [i64v l[i].1, boolv l[i].2.1, i64v l[i].2.2.1, i64v l[i].2.2.2]) i3 = some (.cells [i64v x, missV tk (l.take i)]) := (upd_ne _ _ n35).trans q3
    have m5 : upd υ2 i5 (.cells [i64v l[i].1, boolv l[i].2.1, i64v l[i].2.2.1, i64v l[i].2.2.2]) i5 = some (.cells [i64v l[i].1, boolv l[i].2.1, i64v l[i].2.2.1, i64v l[i].2.2.2]) := upd_same _ _ _
    have hs5 : Sub (upd υ2 i5 (.cells [i64v l[i].1, boolv l[i].2.1, i64v l[i].2.2.1, i64v l[i].2.2.2])) σ := sub_upd _ hs2 (sub_none hs2 h5)
    have hto5 : TokIn (upd υ2 i5 (.cells [i64v l[i].1, boolv l[i].2.1, i64v l[i].2.2.1, i64v l[i].2.2.2])) σ tk := by
      rcases hto with rfl | ⟨u, rfl, h1, h2⟩
      · exact .inl rfl
      · exact .inr ⟨u, rfl, by rw [upd_ne _ _ (fun e => by subst e; rw [h1] at h5; cases h5)]; exact h1, h2⟩
    generalize upd υ2 i5 (.cells [i64v l[i].1, boolv l[i].2.1, i64v l[i].2.2.1, i64v l[i].2.2.2]) = υ3 at *
    ((conv => whnf); (repeat ((first | with_reducible refine abr_true rfl ?_ | with_reducible refine abr_false rfl ?_ | with_reducible refine abr_yes rfl ?_ | refine abr_yes (by decide) ?_ | refine abr_no (by decide) ?_ | with_reducible refine abr_same_ne ?_); (conv => whnf))))
    (repeat ((first | refine aload (by (repeat (first | with_reducible exact upd_same _ _ _ | assumption | rw [upd_ne _ _ (by first | assumption | (apply Ne.symm; assumption))]))) rfl ?_ | refine afit_i64 (by omega) ?_ | refine arem_nonneg (by omega) (by omega) ?_ | refine adiv_i64 (by omega) (by omega) ?_ | refine abr_yes (by omega) ?_ | refine abr_no (by omega) ?_ | refine amin ?_ | refine amax ?_ | refine afit_u64 (by omega) ?_ | refine afit_u8 (by omega) ?_ | rw [List.length_map]); ((conv => whnf); (repeat ((first | with_reducible refine abr_true rfl ?_ | with_reducible refine abr_false rfl ?_ | with_reducible refine abr_yes rfl ?_ | refine abr_yes (by decide) ?_ | refine abr_no (by decide) ?_ | with_reducible refine abr_same_ne ?_); (conv => whnf))))))
    refine aapp_in (ys := [msV l[i]]) hto5 hs5 (by rw [List.length_map, List.length_take]; show (_ + 1) * 32 ≤ _; omega) fun t5 σ5 hx5 hs6 hto6 => ?_
    have p1 := hx5 i1 _ rfl m1
    have p2 := hx5 i2 _ rfl m2
    have p3 := hx5 i3 _ rfl m3
    rw [show (l.take i).map msV ++ [msV l[i]] = (l.take (i + 1)).map msV by rw [show l.take (i + 1) = l.take i ++ [l[i]] from (List.take_append_getElem h).symm, List.map_append]; rfl]
    ((conv => whnf); (repeat ((first | with_reducible refine abr_true rfl ?_ | with_reducible refine abr_false rfl ?_ | with_reducible refine abr_yes rfl ?_ | refine abr_yes (by decide) ?_ | refine abr_no (by decide) ?_ | with_reducible refine abr_same_ne ?_); (conv => whnf))))
    refine astore (xs := [missV (.tip t5) (l.take (i + 1))]) (l := [i64v x, missV (.tip t5) (l.take (i + 1))]) p3 (by exact Nat.le_refl 2) rfl rfl ?_
    have hn3 : i3 ≠ t5 := hto6.ne_of p3 rfl t5 rfl
    ((conv => whnf); (repeat ((first | with_reducible refine abr_true rfl ?_ | with_reducible refine abr_false rfl ?_ | with_reducible refine abr_yes rfl ?_ | refine abr_yes (by decide) ?_ | refine abr_no (by decide) ?_ | with_reducible refine abr_same_ne ?_); (conv => whnf))))
    (repeat ((first | refine aload (by (repeat (first | with_reducible exact upd_same _ _ _ | assumption | rw [upd_ne _ _ (by first | assumption | (apply Ne.symm; assumption))]))) rfl ?_ | refine afit_i64 (by omega) ?_ | refine arem_nonneg (by omega) (by omega) ?_ | refine adiv_i64 (by omega) (by omega) ?_ | refine abr_yes (by omega) ?_ | refine abr_no (by omega) ?_ | refine amin ?_ | refine amax ?_ | refine afit_u64 (by omega) ?_ | refine afit_u8 (by omega) ?_ | rw [List.length_map]); ((conv => whnf); (repeat ((first | with_reducible refine abr_true rfl ?_ | with_reducible refine abr_false rfl ?_ | with_reducible refine abr_yes rfl ?_ | refine abr_yes (by decide) ?_ | refine abr_no (by decide) ?_ | with_reducible refine abr_same_ne ?_); (conv => whnf))))))
    refine ⟨(i + 1, .tip t5, upd σ5 i3 (.cells [i64v x, missV (.tip t5) (l.take (i + 1))])), ⟨h, (upd_ne _ _ n13).trans p1, (upd_ne _ _ n23).trans p2, upd_same _ _ _, hto6.ne _ (fun u e => by cases e; exact hn3), sub_upd _ hs6 b3⟩, by dsimp only; omega, Sub.refl _, ?_⟩
    ((conv => whnf); (repeat ((first | with_reducible refine abr_true rfl ?_ | with_reducible refine abr_false rfl ?_ | with_reducible refine abr_yes rfl ?_ | refine abr_yes (by decide) ?_ | refine abr_no (by decide) ?_ | with_reducible refine abr_same_ne ?_); (conv => whnf))))
    (repeat' first | with_reducible exact EnvLe.refl _ | (refine EnvLe.node ?_ (by first | exact Or.inl rfl | exact Or.inr (Or.inl rfl) | exact Or.inr (Or.inr ⟨nofun, VLe.slice _ _ _⟩)) ?_))
  · obtain rfl : i = l.length := by omega
    rw [List.take_length] at q3
    ((conv => whnf); (repeat ((first | with_reducible refine abr_true rfl ?_ | with_reducible refine abr_false rfl ?_ | with_reducible refine abr_yes rfl ?_ | refine abr_yes (by decide) ?_ | refine abr_no (by decide) ?_ | with_reducible refine abr_same_ne ?_); (conv => whnf))))
    (repeat ((first | refine aload (by (repeat (first | with_reducible exact upd_same _ _ _ | assumption | rw [upd_ne _ _ (by first | assumption | (apply Ne.symm; assumption))]))) rfl ?_ | refine afit_i64 (by omega) ?_ | refine arem_nonneg (by omega) (by omega) ?_ | refine adiv_i64 (by omega) (by omega) ?_ | refine abr_yes (by omega) ?_ | refine abr_no (by omega) ?_ | refine amin ?_ | refine amax ?_ | refine afit_u64 (by omega) ?_ | refine afit_u8 (by omega) ?_ | rw [List.length_map]); ((conv => whnf); (repeat ((first | with_reducible refine abr_true rfl ?_ | with_reducible refine abr_false rfl ?_ | with_reducible refine abr_yes rfl ?_ | refine abr_yes (by decide) ?_ | refine abr_no (by decide) ?_ | with_reducible refine abr_same_ne ?_); (conv => whnf))))))
    refine aloads (l := [i64v x, missV tk l]) q3 (by exact Nat.le_refl 2) rfl ?_
    ((conv => whnf); (repeat ((first | with_reducible refine abr_true rfl ?_ | with_reducible refine abr_false rfl ?_ | with_reducible refine abr_yes rfl ?_ | refine abr_yes (by decide) ?_ | refine abr_no (by decide) ?_ | with_reducible refine abr_same_ne ?_); (conv => whnf))))
    refine astore (xs := [i64v x, missV tk l]) (l := [i64v x, missV tk l]) q2 (by exact Nat.le_refl 2) rfl rfl ?_
    ((conv => whnf); (repeat ((first | with_reducible refine abr_true rfl ?_ | with_reducible refine abr_false rfl ?_ | with_reducible refine abr_yes rfl ?_ | refine abr_yes (by decide) ?_ | refine abr_no (by decide) ?_ | with_reducible refine abr_same_ne ?_); (conv => whnf))))
    refine aloads (l := [i64v x, missV tk l]) (upd_same _ _ _) (by exact Nat.le_refl 2) rfl ?_
    ((conv => whnf); (repeat ((first | with_reducible refine abr_true rfl ?_ | with_reducible refine abr_false rfl ?_ | with_reducible refine abr_yes rfl ?_ | refine abr_yes (by decide) ?_ | refine abr_no (by decide) ?_ | with_reducible refine abr_same_ne ?_); (conv => whnf))))
    exact aret vle_st (sub_upd _ hs2 b2) ⟨rfl, rfl⟩
end Go.Proofs.Ytnfdgccmpglbhaa
