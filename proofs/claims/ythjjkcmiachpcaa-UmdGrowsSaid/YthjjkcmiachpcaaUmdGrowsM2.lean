/-
  Texts of this claim, part 3: Cbitsc, Cbitsd, Cown, Irlens, Clensz, Clens, Irseqnum, Irref02, Cseq, Irumd, Cumd, Cjoin, Cgrow, Cumdb, Clensp.
-/
import Derived.Test.YthjjkcmiachpcaaUmdGrowsM1
import Derived.Shelf.Lay
import Derived.Ground.SlbNamesProg
import Derived.Shelf.Bytes.SlJoin
/-
  A writer's number put.
-/
namespace Go.Proofs.Ythjjkcmiachpcaa
set_option linter.unusedVariables false
set_option linter.unusedSimpArgs false
open Go Go.Am

theorem wPutNil (v : Nat) (n : Int) (σ : AHeap) : ACalls Try.prog i_bits_Writer_Put [.v (.pointer none), u64v v, i64v n] σ fun x σ' => x = i64v 6 ∧ σ' = σ := by
  refine k_bits_Writer_Put rfl ?_
  ((conv => whnf); (repeat ((first | with_reducible refine abr_true rfl ?_ | with_reducible refine abr_false rfl ?_ | with_reducible refine abr_yes rfl ?_ | refine abr_yes (by decide) ?_ | refine abr_no (by decide) ?_ | with_reducible refine abr_same_ne ?_); (conv => whnf))))
  refine ascope' (α := Unit) (fun _ => []) (fun _ => σ) (fun _ => 0) (fun _ => False) (fun _ => 0) ?_ (fun _ h => h.elim)
  ((conv => whnf); (repeat ((first | with_reducible refine abr_true rfl ?_ | with_reducible refine abr_false rfl ?_ | with_reducible refine abr_yes rfl ?_ | refine abr_yes (by decide) ?_ | refine abr_no (by decide) ?_ | with_reducible refine abr_same_ne ?_); (conv => whnf))))
  intro hl
  ((conv => whnf); (repeat ((first | with_reducible refine abr_true rfl ?_ | with_reducible refine abr_false rfl ?_ | with_reducible refine abr_yes rfl ?_ | refine abr_yes (by decide) ?_ | refine abr_no (by decide) ?_ | with_reducible refine abr_same_ne ?_); (conv => whnf))))
  exact aret_same ⟨rfl, rfl⟩

theorem Wr.cell {σ σb : AHeap} {id : Nat} {bs : List Bool} (h : Wr σ id bs σb) : ∃ c, σ id = some (.cells [c, i64v bs.length]) := by
  obtain ⟨hid, h⟩ := h
  rcases h with ⟨hnil, rfl⟩ | ⟨hne, r, hri, hr, rfl⟩
  · exact ⟨_, upd_same _ _ _⟩
  · exact ⟨_, upd_same _ _ _⟩

theorem bit_u8 (v i : Nat) : IntKind.u8.wrap ((v / 2 ^ i % 2 : Nat) : Int) = ((v.testBit i).toNat : Int) := by
  rw [testBit_nat]; exact wrap_u8 (by omega) (by omega)
theorem and1_u64 (x : Nat) (hx : x < 18446744073709551616) : bitsOp .and .u64 (x : Int) 1 = ((x % 2 : Nat) : Int) := by
  have h1 : BitVec.ofInt 64 (x : Int) = BitVec.ofNat 64 x := by simp
  show IntKind.u64.wrap ((BitVec.ofInt 64 (x : Int) &&& BitVec.ofInt 64 1).toNat) = _
  rw [h1]
  have : (BitVec.ofNat 64 x &&& BitVec.ofInt 64 1).toNat = x % 2 := by
    rw [BitVec.toNat_and, BitVec.toNat_ofNat, Nat.mod_eq_of_lt hx]
    exact Nat.and_one_is_mod x
  rw [this]; exact wrap_u64 (by omega) (by omega)

theorem putCode_bad {k v : Nat} {n : Int} (h : putBad v n = true) : putCode k v n = 1 := if_pos h
theorem putBits_bad {bs : List Bool} {v : Nat} {n : Int} (h : putBad v n = true) : putBits bs v n = bs := putBits_no (by rw [putCode_bad h]; decide)
theorem putCode_full {k v : Nat} {n : Int} (h : putBad v n = false) (hn : n > 65536 - (k : Int)) : putCode k v n = 5 := by unfold putCode; rw [h]; simp; omega
theorem putCode_fine {k v : Nat} {n : Int} (h : putBad v n = false) (hn : ¬ n > 65536 - (k : Int)) : putCode k v n = 0 := by unfold putCode; rw [h]; simp; omega

set_option maxRecDepth 10000 in
theorem wPut (id : Nat) (bs : List Bool) (v : Nat) (n : Int) (σ σb : AHeap) (h : Wr σ id bs σb) (hv : v < 18446744073709551616) (hl : bs.length ≤ 65536) :
    ACalls Try.prog i_bits_Writer_Put [.ptr id 0, u64v v, i64v n] σ fun x σ' => x = i64v (putCode bs.length v n) ∧ Wr σ' id (putBits bs v n) σb := by
  obtain ⟨c, hcell⟩ := h.cell
  refine k_bits_Writer_Put rfl ?_
  ((conv => whnf); (repeat ((first | with_reducible refine abr_true rfl ?_ | with_reducible refine abr_false rfl ?_ | with_reducible refine abr_yes rfl ?_ | refine abr_yes (by decide) ?_ | refine abr_no (by decide) ?_ | with_reducible refine abr_same_ne ?_); (conv => whnf))))
  refine ascope' (α := Nat × List Bool × AHeap) (fun x => [(s7, i64v x.1)]) (fun x => x.2.2) (fun _ => 0) (fun x => putCode bs.length v n = 0 ∧ Wr x.2.2 id (bs ++ x.2.1) σb ∧ x.2.1 ++ numBits v x.1 = numBits v n.toNat) (fun x => x.1) ?_ ?_
  · ((conv => whnf); (repeat ((first | with_reducible refine abr_true rfl ?_ | with_reducible refine abr_false rfl ?_ | with_reducible refine abr_yes rfl ?_ | refine abr_yes (by decide) ?_ | refine abr_no (by decide) ?_ | with_reducible refine abr_same_ne ?_); (conv => whnf))))
    intro hlab
    have fin (hp : putBad v n = false) (hle : n ≤ 64) (h0 : 0 ≤ n) (hroom : ¬ n > 65536 - (bs.length : Int)) : putCode bs.length v n = 0 ∧ Wr σ id (bs ++ []) σb ∧ [] ++ numBits v n.toNat = numBits v n.toNat := by
      refine ⟨putCode_fine hp hroom, ?_, rfl⟩
      rw [List.append_nil]; exact h
    by_cases h1 : n < 0
    · have hp : putBad v n = true := by simp [putBad, h1]
      ((conv => whnf); (repeat ((first | with_reducible refine abr_true rfl ?_ | with_reducible refine abr_false rfl ?_ | with_reducible refine abr_yes rfl ?_ | refine abr_yes (by decide) ?_ | refine abr_no (by decide) ?_ | with_reducible refine abr_same_ne ?_); (conv => whnf))))
      (repeat ((first | refine aload (by (repeat (first | with_reducible exact upd_same _ _ _ | assumption | rw [upd_ne _ _ (by first | assumption | (apply Ne.symm; assumption))]))) rfl ?_ | refine afit_i64 (by omega) ?_ | refine arem_nonneg (by omega) (by omega) ?_ | refine adiv_i64 (by omega) (by omega) ?_ | refine abr_yes (by omega) ?_ | refine abr_no (by omega) ?_ | refine amin ?_ | refine amax ?_ | refine afit_u64 (by omega) ?_ | refine afit_u8 (by omega) ?_ | rw [List.length_map]); ((conv => whnf); (repeat ((first | with_reducible refine abr_true rfl ?_ | with_reducible refine abr_false rfl ?_ | with_reducible refine abr_yes rfl ?_ | refine abr_yes (by decide) ?_ | refine abr_no (by decide) ?_ | with_reducible refine abr_same_ne ?_); (conv => whnf))))))
      exact aret_same ⟨by rw [putCode_bad hp], by rw [putBits_bad hp]; exact h⟩
    · by_cases h2 : n > 64
      · have hp : putBad v n = true := by simp [putBad, h2]
        ((conv => whnf); (repeat ((first | with_reducible refine abr_true rfl ?_ | with_reducible refine abr_false rfl ?_ | with_reducible refine abr_yes rfl ?_ | refine abr_yes (by decide) ?_ | refine abr_no (by decide) ?_ | with_reducible refine abr_same_ne ?_); (conv => whnf))))
        (repeat ((first | refine aload (by (repeat (first | with_reducible exact upd_same _ _ _ | assumption | rw [upd_ne _ _ (by first | assumption | (apply Ne.symm; assumption))]))) rfl ?_ | refine afit_i64 (by omega) ?_ | refine arem_nonneg (by omega) (by omega) ?_ | refine adiv_i64 (by omega) (by omega) ?_ | refine abr_yes (by omega) ?_ | refine abr_no (by omega) ?_ | refine amin ?_ | refine amax ?_ | refine afit_u64 (by omega) ?_ | refine afit_u8 (by omega) ?_ | rw [List.length_map]); ((conv => whnf); (repeat ((first | with_reducible refine abr_true rfl ?_ | with_reducible refine abr_false rfl ?_ | with_reducible refine abr_yes rfl ?_ | refine abr_yes (by decide) ?_ | refine abr_no (by decide) ?_ | with_reducible refine abr_same_ne ?_); (conv => whnf))))))
        exact aret_same ⟨by rw [putCode_bad hp], by rw [putBits_bad hp]; exact h⟩
      · obtain ⟨k, rfl⟩ : ∃ k : Nat, n = k := ⟨n.toNat, by omega⟩
        by_cases h3 : k = 64
        · have hp : putBad v ((k : Nat) : Int) = false := by
            unfold putBad
            rw [decide_eq_false h1, decide_eq_false h2, decide_eq_false (by subst h3; simp; omega)]; rfl
          by_cases h4 : (k : Int) > 65536 - (bs.length : Int)
          · ((conv => whnf); (repeat ((first | with_reducible refine abr_true rfl ?_ | with_reducible refine abr_false rfl ?_ | with_reducible refine abr_yes rfl ?_ | refine abr_yes (by decide) ?_ | refine abr_no (by decide) ?_ | with_reducible refine abr_same_ne ?_); (conv => whnf))))
            (repeat ((first | refine aload (by (repeat (first | with_reducible exact upd_same _ _ _ | assumption | rw [upd_ne _ _ (by first | assumption | (apply Ne.symm; assumption))]))) rfl ?_ | refine afit_i64 (by omega) ?_ | refine arem_nonneg (by omega) (by omega) ?_ | refine adiv_i64 (by omega) (by omega) ?_ | refine abr_yes (by omega) ?_ | refine abr_no (by omega) ?_ | refine amin ?_ | refine amax ?_ | refine afit_u64 (by omega) ?_ | refine afit_u8 (by omega) ?_ | rw [List.length_map]); ((conv => whnf); (repeat ((first | with_reducible refine abr_true rfl ?_ | with_reducible refine abr_false rfl ?_ | with_reducible refine abr_yes rfl ?_ | refine abr_yes (by decide) ?_ | refine abr_no (by decide) ?_ | with_reducible refine abr_same_ne ?_); (conv => whnf))))))
            exact aret_same ⟨by rw [putCode_full hp h4], by rw [putBits_no (by rw [putCode_full hp h4]; decide)]; exact h⟩
          · ((conv => whnf); (repeat ((first | with_reducible refine abr_true rfl ?_ | with_reducible refine abr_false rfl ?_ | with_reducible refine abr_yes rfl ?_ | refine abr_yes (by decide) ?_ | refine abr_no (by decide) ?_ | with_reducible refine abr_same_ne ?_); (conv => whnf))))
            (repeat ((first | refine aload (by (repeat (first | with_reducible exact upd_same _ _ _ | assumption | rw [upd_ne _ _ (by first | assumption | (apply Ne.symm; assumption))]))) rfl ?_ | refine afit_i64 (by omega) ?_ | refine arem_nonneg (by omega) (by omega) ?_ | refine adiv_i64 (by omega) (by omega) ?_ | refine abr_yes (by omega) ?_ | refine abr_no (by omega) ?_ | refine amin ?_ | refine amax ?_ | refine afit_u64 (by omega) ?_ | refine afit_u8 (by omega) ?_ | rw [List.length_map]); ((conv => whnf); (repeat ((first | with_reducible refine abr_true rfl ?_ | with_reducible refine abr_false rfl ?_ | with_reducible refine abr_yes rfl ?_ | refine abr_yes (by decide) ?_ | refine abr_no (by decide) ?_ | with_reducible refine abr_same_ne ?_); (conv => whnf))))))
            refine hlab _ (fun _ _ _ h => h) _ _ _ _ ⟨(k, [], σ), rfl, fin hp (by omega) (by omega) h4, rfl, Sub.refl _, ?_⟩
            ((conv => whnf); (repeat ((first | with_reducible refine abr_true rfl ?_ | with_reducible refine abr_false rfl ?_ | with_reducible refine abr_yes rfl ?_ | refine abr_yes (by decide) ?_ | refine abr_no (by decide) ?_ | with_reducible refine abr_same_ne ?_); (conv => whnf))))
            (repeat' first | with_reducible exact EnvLe.refl _ | (refine EnvLe.node ?_ (by first | exact Or.inl rfl | exact Or.inr (Or.inl rfl) | exact Or.inr (Or.inr ⟨nofun, VLe.slice _ _ _⟩)) ?_))
        · by_cases h5 : v / 2 ^ k = 0
          · have hp : putBad v ((k : Nat) : Int) = false := by
              unfold putBad
              rw [decide_eq_false h1, decide_eq_false h2, decide_eq_false (by simpa using h5)]; rfl
            by_cases h4 : (k : Int) > 65536 - (bs.length : Int)
            · ((conv => whnf); (repeat ((first | with_reducible refine abr_true rfl ?_ | with_reducible refine abr_false rfl ?_ | with_reducible refine abr_yes rfl ?_ | refine abr_yes (by decide) ?_ | refine abr_no (by decide) ?_ | with_reducible refine abr_same_ne ?_); (conv => whnf))))
              (repeat ((first | refine aload (by (repeat (first | with_reducible exact upd_same _ _ _ | assumption | rw [upd_ne _ _ (by first | assumption | (apply Ne.symm; assumption))]))) rfl ?_ | refine afit_i64 (by omega) ?_ | refine arem_nonneg (by omega) (by omega) ?_ | refine adiv_i64 (by omega) (by omega) ?_ | refine abr_yes (by omega) ?_ | refine abr_no (by omega) ?_ | refine amin ?_ | refine amax ?_ | refine afit_u64 (by omega) ?_ | refine afit_u8 (by omega) ?_ | rw [List.length_map]); ((conv => whnf); (repeat ((first | with_reducible refine abr_true rfl ?_ | with_reducible refine abr_false rfl ?_ | with_reducible refine abr_yes rfl ?_ | refine abr_yes (by decide) ?_ | refine abr_no (by decide) ?_ | with_reducible refine abr_same_ne ?_); (conv => whnf))))))
              refine ashr_nat (by show k ≤ 64; omega) ?_
              ((conv => whnf); (repeat ((first | with_reducible refine abr_true rfl ?_ | with_reducible refine abr_false rfl ?_ | with_reducible refine abr_yes rfl ?_ | refine abr_yes (by decide) ?_ | refine abr_no (by decide) ?_ | with_reducible refine abr_same_ne ?_); (conv => whnf))))
              (repeat ((first | refine aload (by (repeat (first | with_reducible exact upd_same _ _ _ | assumption | rw [upd_ne _ _ (by first | assumption | (apply Ne.symm; assumption))]))) rfl ?_ | refine afit_i64 (by omega) ?_ | refine arem_nonneg (by omega) (by omega) ?_ | refine adiv_i64 (by omega) (by omega) ?_ | refine abr_yes (by omega) ?_ | refine abr_no (by omega) ?_ | refine amin ?_ | refine amax ?_ | refine afit_u64 (by omega) ?_ | refine afit_u8 (by omega) ?_ | rw [List.length_map]); ((conv => whnf); (repeat ((first | with_reducible refine abr_true rfl ?_ | with_reducible refine abr_false rfl ?_ | with_reducible refine abr_yes rfl ?_ | refine abr_yes (by decide) ?_ | refine abr_no (by decide) ?_ | with_reducible refine abr_same_ne ?_); (conv => whnf))))))
              exact aret_same ⟨by rw [putCode_full hp h4], by rw [putBits_no (by rw [putCode_full hp h4]; decide)]; exact h⟩
            · ((conv => whnf); (repeat ((first | with_reducible refine abr_true rfl ?_ | with_reducible refine abr_false rfl ?_ | with_reducible refine abr_yes rfl ?_ | refine abr_yes (by decide) ?_ | refine abr_no (by decide) ?_ | with_reducible refine abr_same_ne ?_); (conv => whnf))))
              (repeat ((first | refine aload (by (repeat (first | with_reducible exact upd_same _ _ _ | assumption | rw [upd_ne _ _ (by first | assumption | (apply Ne.symm; assumption))]))) rfl ?_ | refine afit_i64 (by omega) ?_ | refine arem_nonneg (by omega) (by omega) ?_ | refine adiv_i64 (by omega) (by omega) ?_ | refine abr_yes (by omega) ?_ | refine abr_no (by omega) ?_ | refine amin ?_ | refine amax ?_ | refine afit_u64 (by omega) ?_ | refine afit_u8 (by omega) ?_ | rw [List.length_map]); ((conv => whnf); (repeat ((first | with_reducible refine abr_true rfl ?_ | with_reducible refine abr_false rfl ?_ | with_reducible refine abr_yes rfl ?_ | refine abr_yes (by decide) ?_ | refine abr_no (by decide) ?_ | with_reducible refine abr_same_ne ?_); (conv => whnf))))))
              refine ashr_nat (by show k ≤ 64; omega) ?_
              ((conv => whnf); (repeat ((first | with_reducible refine abr_true rfl ?_ | with_reducible refine abr_false rfl ?_ | with_reducible refine abr_yes rfl ?_ | refine abr_yes (by decide) ?_ | refine abr_no (by decide) ?_ | with_reducible refine abr_same_ne ?_); (conv => whnf))))
              (repeat ((first | refine aload (by (repeat (first | with_reducible exact upd_same _ _ _ | assumption | rw [upd_ne _ _ (by first | assumption | (apply Ne.symm; assumption))]))) rfl ?_ | refine afit_i64 (by omega) ?_ | refine arem_nonneg (by omega) (by omega) ?_ | refine adiv_i64 (by omega) (by omega) ?_ | refine abr_yes (by omega) ?_ | refine abr_no (by omega) ?_ | refine amin ?_ | refine amax ?_ | refine afit_u64 (by omega) ?_ | refine afit_u8 (by omega) ?_ | rw [List.length_map]); ((conv => whnf); (repeat ((first | with_reducible refine abr_true rfl ?_ | with_reducible refine abr_false rfl ?_ | with_reducible refine abr_yes rfl ?_ | refine abr_yes (by decide) ?_ | refine abr_no (by decide) ?_ | with_reducible refine abr_same_ne ?_); (conv => whnf))))))
              refine hlab _ (fun _ _ _ h => h) _ _ _ _ ⟨(k, [], σ), rfl, fin hp (by omega) (by omega) h4, rfl, Sub.refl _, ?_⟩
              ((conv => whnf); (repeat ((first | with_reducible refine abr_true rfl ?_ | with_reducible refine abr_false rfl ?_ | with_reducible refine abr_yes rfl ?_ | refine abr_yes (by decide) ?_ | refine abr_no (by decide) ?_ | with_reducible refine abr_same_ne ?_); (conv => whnf))))
              (repeat' first | with_reducible exact EnvLe.refl _ | (refine EnvLe.node ?_ (by first | exact Or.inl rfl | exact Or.inr (Or.inl rfl) | exact Or.inr (Or.inr ⟨nofun, VLe.slice _ _ _⟩)) ?_))
          · have hp : putBad v ((k : Nat) : Int) = true := by
              unfold putBad
              rw [decide_eq_true (show v / 2 ^ (Int.toNat (k : Int)) ≠ 0 from h5)]; simp
            ((conv => whnf); (repeat ((first | with_reducible refine abr_true rfl ?_ | with_reducible refine abr_false rfl ?_ | with_reducible refine abr_yes rfl ?_ | refine abr_yes (by decide) ?_ | refine abr_no (by decide) ?_ | with_reducible refine abr_same_ne ?_); (conv => whnf))))
            (repeat ((first | refine aload (by (repeat (first | with_reducible exact upd_same _ _ _ | assumption | rw [upd_ne _ _ (by first | assumption | (apply Ne.symm; assumption))]))) rfl ?_ | refine afit_i64 (by omega) ?_ | refine arem_nonneg (by omega) (by omega) ?_ | refine adiv_i64 (by omega) (by omega) ?_ | refine abr_yes (by omega) ?_ | refine abr_no (by omega) ?_ | refine amin ?_ | refine amax ?_ | refine afit_u64 (by omega) ?_ | refine afit_u8 (by omega) ?_ | rw [List.length_map]); ((conv => whnf); (repeat ((first | with_reducible refine abr_true rfl ?_ | with_reducible refine abr_false rfl ?_ | with_reducible refine abr_yes rfl ?_ | refine abr_yes (by decide) ?_ | refine abr_no (by decide) ?_ | with_reducible refine abr_same_ne ?_); (conv => whnf))))))
            refine ashr_nat (by show k ≤ 64; omega) ?_
            ((conv => whnf); (repeat ((first | with_reducible refine abr_true rfl ?_ | with_reducible refine abr_false rfl ?_ | with_reducible refine abr_yes rfl ?_ | refine abr_yes (by decide) ?_ | refine abr_no (by decide) ?_ | with_reducible refine abr_same_ne ?_); (conv => whnf))))
            (repeat ((first | refine aload (by (repeat (first | with_reducible exact upd_same _ _ _ | assumption | rw [upd_ne _ _ (by first | assumption | (apply Ne.symm; assumption))]))) rfl ?_ | refine afit_i64 (by omega) ?_ | refine arem_nonneg (by omega) (by omega) ?_ | refine adiv_i64 (by omega) (by omega) ?_ | refine abr_yes (by omega) ?_ | refine abr_no (by omega) ?_ | refine amin ?_ | refine amax ?_ | refine afit_u64 (by omega) ?_ | refine afit_u8 (by omega) ?_ | rw [List.length_map]); ((conv => whnf); (repeat ((first | with_reducible refine abr_true rfl ?_ | with_reducible refine abr_false rfl ?_ | with_reducible refine abr_yes rfl ?_ | refine abr_yes (by decide) ?_ | refine abr_no (by decide) ?_ | with_reducible refine abr_same_ne ?_); (conv => whnf))))))
            exact aret_same ⟨by rw [putCode_bad hp], by rw [putBits_bad hp]; exact h⟩
  · rintro ⟨i, d, σ1⟩ ⟨h1, h2, h3⟩
    refine ⟨_, rfl, ?_⟩
    ((conv => whnf); (repeat ((first | with_reducible refine abr_true rfl ?_ | with_reducible refine abr_false rfl ?_ | with_reducible refine abr_yes rfl ?_ | refine abr_yes (by decide) ?_ | refine abr_no (by decide) ?_ | with_reducible refine abr_same_ne ?_); (conv => whnf))))
    intro hlab
    simp only at h1 h2 h3
    obtain ⟨p1, p2, p3, p4⟩ := putCode_ok h1
    have hlen : d.length + i = n.toNat := by
      have := congrArg List.length h3
      rw [List.length_append, numBits_length, numBits_length] at this; exact this
    cases i with
    | zero =>
      ((conv => whnf); (repeat ((first | with_reducible refine abr_true rfl ?_ | with_reducible refine abr_false rfl ?_ | with_reducible refine abr_yes rfl ?_ | refine abr_yes (by decide) ?_ | refine abr_no (by decide) ?_ | with_reducible refine abr_same_ne ?_); (conv => whnf))))
      (repeat ((first | refine aload (by (repeat (first | with_reducible exact upd_same _ _ _ | assumption | rw [upd_ne _ _ (by first | assumption | (apply Ne.symm; assumption))]))) rfl ?_ | refine afit_i64 (by omega) ?_ | refine arem_nonneg (by omega) (by omega) ?_ | refine adiv_i64 (by omega) (by omega) ?_ | refine abr_yes (by omega) ?_ | refine abr_no (by omega) ?_ | refine amin ?_ | refine amax ?_ | refine afit_u64 (by omega) ?_ | refine afit_u8 (by omega) ?_ | rw [List.length_map]); ((conv => whnf); (repeat ((first | with_reducible refine abr_true rfl ?_ | with_reducible refine abr_false rfl ?_ | with_reducible refine abr_yes rfl ?_ | refine abr_yes (by decide) ?_ | refine abr_no (by decide) ?_ | with_reducible refine abr_same_ne ?_); (conv => whnf))))))
      refine aret_same ⟨by rw [h1], ?_⟩
      rw [putBits_ok h1, ← h3]
      simpa [numBits] using h2
    | succ i =>
      ((conv => whnf); (repeat ((first | with_reducible refine abr_true rfl ?_ | with_reducible refine abr_false rfl ?_ | with_reducible refine abr_yes rfl ?_ | refine abr_yes (by decide) ?_ | refine abr_no (by decide) ?_ | with_reducible refine abr_same_ne ?_); (conv => whnf))))
      (repeat ((first | refine aload (by (repeat (first | with_reducible exact upd_same _ _ _ | assumption | rw [upd_ne _ _ (by first | assumption | (apply Ne.symm; assumption))]))) rfl ?_ | refine afit_i64 (by omega) ?_ | refine arem_nonneg (by omega) (by omega) ?_ | refine adiv_i64 (by omega) (by omega) ?_ | refine abr_yes (by omega) ?_ | refine abr_no (by omega) ?_ | refine amin ?_ | refine amax ?_ | refine afit_u64 (by omega) ?_ | refine afit_u8 (by omega) ?_ | rw [List.length_map]); ((conv => whnf); (repeat ((first | with_reducible refine abr_true rfl ?_ | with_reducible refine abr_false rfl ?_ | with_reducible refine abr_yes rfl ?_ | refine abr_yes (by decide) ?_ | refine abr_no (by decide) ?_ | with_reducible refine abr_same_ne ?_); (conv => whnf))))))
      rw [show ((i + 1 : Nat) : Int) - 1 = (i : Int) by omega]
      ((conv => whnf); (repeat ((first | with_reducible refine abr_true rfl ?_ | with_reducible refine abr_false rfl ?_ | with_reducible refine abr_yes rfl ?_ | refine abr_yes (by decide) ?_ | refine abr_no (by decide) ?_ | with_reducible refine abr_same_ne ?_); (conv => whnf))))
      refine ashr_nat (by show i ≤ 64; omega) ?_
      ((conv => whnf); (repeat ((first | with_reducible refine abr_true rfl ?_ | with_reducible refine abr_false rfl ?_ | with_reducible refine abr_yes rfl ?_ | refine abr_yes (by decide) ?_ | refine abr_no (by decide) ?_ | with_reducible refine abr_same_ne ?_); (conv => whnf))))
      refine abits_eq (and1_u64 _ (Nat.lt_of_le_of_lt (Nat.div_le_self _ _) hv)) ?_
      ((conv => whnf); (repeat ((first | with_reducible refine abr_true rfl ?_ | with_reducible refine abr_false rfl ?_ | with_reducible refine abr_yes rfl ?_ | refine abr_yes (by decide) ?_ | refine abr_no (by decide) ?_ | with_reducible refine abr_same_ne ?_); (conv => whnf))))
      refine afit_eq (bit_u8 v i) ?_
      ((conv => whnf); (repeat ((first | with_reducible refine abr_true rfl ?_ | with_reducible refine abr_false rfl ?_ | with_reducible refine abr_yes rfl ?_ | refine abr_yes (by decide) ?_ | refine abr_no (by decide) ?_ | with_reducible refine abr_same_ne ?_); (conv => whnf))))
      refine acall (one id (bs ++ d) (v.testBit i) _ σb h2 (by rw [List.length_append]; omega)) ?_
      rintro x σ' ⟨rfl, hw⟩
      ((conv => whnf); (repeat ((first | with_reducible refine abr_true rfl ?_ | with_reducible refine abr_false rfl ?_ | with_reducible refine abr_yes rfl ?_ | refine abr_yes (by decide) ?_ | refine abr_no (by decide) ?_ | with_reducible refine abr_same_ne ?_); (conv => whnf))))
      refine ⟨(i, d ++ [v.testBit i], σ'), rfl, ⟨h1, ?_, ?_⟩, by simp only; omega, Sub.refl _, ?_⟩
      · simp only; rw [← List.append_assoc]; exact hw
      · simp only; rw [← h3]; simp [numBits]
      · ((conv => whnf); (repeat ((first | with_reducible refine abr_true rfl ?_ | with_reducible refine abr_false rfl ?_ | with_reducible refine abr_yes rfl ?_ | refine abr_yes (by decide) ?_ | refine abr_no (by decide) ?_ | with_reducible refine abr_same_ne ?_); (conv => whnf))))
        (repeat' first | with_reducible exact EnvLe.refl _ | (refine EnvLe.node ?_ (by first | exact Or.inl rfl | exact Or.inr (Or.inl rfl) | exact Or.inr (Or.inr ⟨nofun, VLe.slice _ _ _⟩)) ?_))
end Go.Proofs.Ythjjkcmiachpcaa
/-
  What a reader does.
-/
namespace Go.Proofs.Ythjjkcmiachpcaa
set_option linter.unusedVariables false
set_option linter.unusedSimpArgs false
open Go Go.Am

/-- A reader at an object, with its bytes and its place; the heap without it. -/
def Rd (σ : AHeap) (id : Nat) (b : List UInt8) (k : Nat) (σb : AHeap) : Prop :=
  σb id = none ∧ k ≤ 8 * b.length ∧ b.length ≤ 8192 ∧ ∃ tk, σ = upd σb id (.cells [sl tk b, i64v k])

theorem rRead (b : List UInt8) (t : Tok) (σ : AHeap) (hl : b.length ≤ 140737488355328) : ACalls Try.prog i_bits_Read [sl t b] σ fun v σ' => ∃ id, v = .ptr id 0 ∧ Rd σ' id (b.take 8192) 0 σ := by
  refine k_bits_Read rfl ?_
  ((conv => whnf); (repeat ((first | with_reducible refine abr_true rfl ?_ | with_reducible refine abr_false rfl ?_ | with_reducible refine abr_yes rfl ?_ | refine abr_yes (by decide) ?_ | refine abr_no (by decide) ?_ | with_reducible refine abr_same_ne ?_); (conv => whnf))))
  try rw [List.length_map]
  (repeat ((first | refine aload (by (repeat (first | with_reducible exact upd_same _ _ _ | assumption | rw [upd_ne _ _ (by first | assumption | (apply Ne.symm; assumption))]))) rfl ?_ | refine afit_i64 (by omega) ?_ | refine arem_nonneg (by omega) (by omega) ?_ | refine adiv_i64 (by omega) (by omega) ?_ | refine abr_yes (by omega) ?_ | refine abr_no (by omega) ?_ | refine amin ?_ | refine amax ?_ | refine afit_u64 (by omega) ?_ | refine afit_u8 (by omega) ?_ | rw [List.length_map]); ((conv => whnf); (repeat ((first | with_reducible refine abr_true rfl ?_ | with_reducible refine abr_false rfl ?_ | with_reducible refine abr_yes rfl ?_ | refine abr_yes (by decide) ?_ | refine abr_no (by decide) ?_ | with_reducible refine abr_same_ne ?_); (conv => whnf))))))
  refine acut (by omega) (by omega) (by omega) ?_
  ((conv => whnf); (repeat ((first | with_reducible refine abr_true rfl ?_ | with_reducible refine abr_false rfl ?_ | with_reducible refine abr_yes rfl ?_ | refine abr_yes (by decide) ?_ | refine abr_no (by decide) ?_ | with_reducible refine abr_same_ne ?_); (conv => whnf))))
  refine ⟨rfl, rfl, ?_⟩
  ((conv => whnf); (repeat ((first | with_reducible refine abr_true rfl ?_ | with_reducible refine abr_false rfl ?_ | with_reducible refine abr_yes rfl ?_ | refine abr_yes (by decide) ?_ | refine abr_no (by decide) ?_ | with_reducible refine abr_same_ne ?_); (conv => whnf))))
  rw [show (min (b.length : Int) 8192).toNat = min b.length 8192 by omega, ← List.map_take]
  have e : b.take (min b.length 8192) = b.take 8192 := by
    by_cases h : b.length ≤ 8192
    · rw [Nat.min_eq_left h, List.take_of_length_le (Nat.le_refl _), List.take_of_length_le h]
    · rw [Nat.min_eq_right (by omega)]
  rw [e]
  refine acall (Clone (b.take 8192) _ _ (by rw [List.length_take]; omega)) ?_
  rintro v σ' ⟨tk, ho, rfl⟩
  refine ⟨?_, ho.ext⟩
  ((conv => whnf); (repeat ((first | with_reducible refine abr_true rfl ?_ | with_reducible refine abr_false rfl ?_ | with_reducible refine abr_yes rfl ?_ | refine abr_yes (by decide) ?_ | refine abr_no (by decide) ?_ | with_reducible refine abr_same_ne ?_); (conv => whnf))))
  refine anew rfl fun id hid => ?_
  ((conv => whnf); (repeat ((first | with_reducible refine abr_true rfl ?_ | with_reducible refine abr_false rfl ?_ | with_reducible refine abr_yes rfl ?_ | refine abr_yes (by decide) ?_ | refine abr_no (by decide) ?_ | with_reducible refine abr_same_ne ?_); (conv => whnf))))
  have hσ : σ id = none := by
    rcases ho with ⟨_, rfl⟩ | ⟨t', h0, _, rfl⟩
    · exact hid
    · by_cases e : id = t'
      · subst e; rw [upd_same] at hid; cases hid
      · rw [upd_ne _ _ e] at hid; exact hid
  refine aret (VLe.refl _) (σ' := upd σ id (.cells [sl tk (b.take 8192), i64v 0])) ?_ ⟨id, rfl, hσ, by omega, by rw [List.length_take]; omega, tk, rfl⟩
  exact Sub.upd ho.sub id _

theorem rLeft (id : Nat) (b : List UInt8) (k : Nat) (σ σb : AHeap) (h : Rd σ id b k σb) : ACalls Try.prog i_bits_Reader_Left [.ptr id 0] σ fun v σ' => v = i64v ((8 * b.length - k : Nat) : Int) ∧ σ' = σ := by
  refine k_bits_Reader_Left rfl ?_
  obtain ⟨hid, hk, hb, tk, rfl⟩ := h
  ((conv => whnf); (repeat ((first | with_reducible refine abr_true rfl ?_ | with_reducible refine abr_false rfl ?_ | with_reducible refine abr_yes rfl ?_ | refine abr_yes (by decide) ?_ | refine abr_no (by decide) ?_ | with_reducible refine abr_same_ne ?_); (conv => whnf))))
  (repeat ((first | refine aload (by (repeat (first | with_reducible exact upd_same _ _ _ | assumption | rw [upd_ne _ _ (by first | assumption | (apply Ne.symm; assumption))]))) rfl ?_ | refine afit_i64 (by omega) ?_ | refine arem_nonneg (by omega) (by omega) ?_ | refine adiv_i64 (by omega) (by omega) ?_ | refine abr_yes (by omega) ?_ | refine abr_no (by omega) ?_ | refine amin ?_ | refine amax ?_ | refine afit_u64 (by omega) ?_ | refine afit_u8 (by omega) ?_ | rw [List.length_map]); ((conv => whnf); (repeat ((first | with_reducible refine abr_true rfl ?_ | with_reducible refine abr_false rfl ?_ | with_reducible refine abr_yes rfl ?_ | refine abr_yes (by decide) ?_ | refine abr_no (by decide) ?_ | with_reducible refine abr_same_ne ?_); (conv => whnf))))))
  try rw [List.length_map]
  (repeat ((first | refine aload (by (repeat (first | with_reducible exact upd_same _ _ _ | assumption | rw [upd_ne _ _ (by first | assumption | (apply Ne.symm; assumption))]))) rfl ?_ | refine afit_i64 (by omega) ?_ | refine arem_nonneg (by omega) (by omega) ?_ | refine adiv_i64 (by omega) (by omega) ?_ | refine abr_yes (by omega) ?_ | refine abr_no (by omega) ?_ | refine amin ?_ | refine amax ?_ | refine afit_u64 (by omega) ?_ | refine afit_u8 (by omega) ?_ | rw [List.length_map]); ((conv => whnf); (repeat ((first | with_reducible refine abr_true rfl ?_ | with_reducible refine abr_false rfl ?_ | with_reducible refine abr_yes rfl ?_ | refine abr_yes (by decide) ?_ | refine abr_no (by decide) ?_ | with_reducible refine abr_same_ne ?_); (conv => whnf))))))
  refine aret_same ⟨?_, rfl⟩
  rw [show ((8 * b.length - k : Nat) : Int) = (b.length : Int) * 8 - k by omega]
theorem rLeftNil (σ : AHeap) : ACalls Try.prog i_bits_Reader_Left [.v (.pointer none)] σ fun v σ' => v = i64v 0 ∧ σ' = σ := by
  refine k_bits_Reader_Left rfl ?_
  ((conv => whnf); (repeat ((first | with_reducible refine abr_true rfl ?_ | with_reducible refine abr_false rfl ?_ | with_reducible refine abr_yes rfl ?_ | refine abr_yes (by decide) ?_ | refine abr_no (by decide) ?_ | with_reducible refine abr_same_ne ?_); (conv => whnf))))
  exact aret_same ⟨rfl, rfl⟩

theorem rGetNil (n : Int) (σ : AHeap) : ACalls Try.prog i_bits_Reader_Get [.v (.pointer none), i64v n] σ fun x σ' => x = .tup [u64v 0, i64v 6] ∧ σ' = σ := by
  refine k_bits_Reader_Get rfl ?_
  ((conv => whnf); (repeat ((first | with_reducible refine abr_true rfl ?_ | with_reducible refine abr_false rfl ?_ | with_reducible refine abr_yes rfl ?_ | refine abr_yes (by decide) ?_ | refine abr_no (by decide) ?_ | with_reducible refine abr_same_ne ?_); (conv => whnf))))
  refine ascope' (α := Unit) (fun _ => []) (fun _ => σ) (fun _ => 0) (fun _ => False) (fun _ => 0) ?_ (fun _ h => h.elim)
  ((conv => whnf); (repeat ((first | with_reducible refine abr_true rfl ?_ | with_reducible refine abr_false rfl ?_ | with_reducible refine abr_yes rfl ?_ | refine abr_yes (by decide) ?_ | refine abr_no (by decide) ?_ | with_reducible refine abr_same_ne ?_); (conv => whnf))))
  intro hlab
  ((conv => whnf); (repeat ((first | with_reducible refine abr_true rfl ?_ | with_reducible refine abr_false rfl ?_ | with_reducible refine abr_yes rfl ?_ | refine abr_yes (by decide) ?_ | refine abr_no (by decide) ?_ | with_reducible refine abr_same_ne ?_); (conv => whnf))))
  exact aret_same ⟨rfl, rfl⟩

theorem and1_u8 (x : Nat) (hx : x < 256) : bitsOp .and .u8 (x : Int) 1 = ((x % 2 : Nat) : Int) := by
  have h1 : BitVec.ofInt 8 (x : Int) = BitVec.ofNat 8 x := by simp
  show IntKind.u8.wrap ((BitVec.ofInt 8 (x : Int) &&& BitVec.ofInt 8 1).toNat) = _
  rw [h1]
  have : (BitVec.ofNat 8 x &&& BitVec.ofInt 8 1).toNat = x % 2 := by
    rw [BitVec.toNat_and, BitVec.toNat_ofNat, Nat.mod_eq_of_lt hx]
    exact Nat.and_one_is_mod x
  rw [this]; exact wrap_u8 (by omega) (by omega)
theorem or1_u64 (x : Nat) (b : Bool) (hx : 2 * x < 18446744073709551616) : bitsOp .or .u64 ((2 * x : Nat) : Int) ((b.toNat : Nat) : Int) = ((2 * x + b.toNat : Nat) : Int) := by
  have h1 : ∀ y : Nat, BitVec.ofInt 64 (y : Int) = BitVec.ofNat 64 y := by intro y; simp
  show IntKind.u64.wrap ((BitVec.ofInt 64 ((2 * x : Nat) : Int) ||| BitVec.ofInt 64 ((b.toNat : Nat) : Int)).toNat) = _
  rw [h1, h1]
  have hb : b.toNat ≤ 1 := by cases b <;> decide
  have : (BitVec.ofNat 64 (2 * x) ||| BitVec.ofNat 64 b.toNat).toNat = 2 * x + b.toNat := by
    rw [BitVec.toNat_or, BitVec.toNat_ofNat, BitVec.toNat_ofNat, Nat.mod_eq_of_lt hx, Nat.mod_eq_of_lt (by omega)]
    have e := Nat.two_pow_add_eq_or_of_lt (i := 1) (b := b.toNat) (by omega) x
    rw [Nat.pow_one] at e
    exact e.symm
  rw [this]; exact wrap_u64 (by omega) (by omega)
theorem shl1_u64 (x : Nat) (hx : 2 * x < 18446744073709551616) : IntKind.u64.wrap ((x : Int) * 2 ^ (min (1 : Int).toNat IntKind.u64.bits)) = ((2 * x : Nat) : Int) := by
  have e : (x : Int) * 2 ^ (min (1 : Int).toNat IntKind.u64.bits) = ((2 * x : Nat) : Int) := by
    show (x : Int) * 2 ^ 1 = _
    omega
  rw [e]; exact wrap_u64 (by omega) (by omega)
theorem take_snoc {α : Type} {l : List α} {i : Nat} {x : α} (h : l[i]? = some x) : l.take (i + 1) = l.take i ++ [x] := by rw [List.take_add_one, h]; rfl

set_option maxRecDepth 10000 in
theorem rGet (id : Nat) (b : List UInt8) (k : Nat) (n : Int) (σ σb : AHeap) (h : Rd σ id b k σb) :
    ACalls Try.prog i_bits_Reader_Get [.ptr id 0, i64v n] σ fun x σ' => x = .tup [u64v (getVal (unpack b) k n), i64v (getCode (8 * b.length) k n)] ∧ Rd σ' id b (getAt (8 * b.length) k n) σb := by
  have hR := h
  obtain ⟨hid, hk, hb, tk, rfl⟩ := h
  have hul := unpack_length b
  refine k_bits_Reader_Get rfl ?_
  ((conv => whnf); (repeat ((first | with_reducible refine abr_true rfl ?_ | with_reducible refine abr_false rfl ?_ | with_reducible refine abr_yes rfl ?_ | refine abr_yes (by decide) ?_ | refine abr_no (by decide) ?_ | with_reducible refine abr_same_ne ?_); (conv => whnf))))
  refine ascope' (α := Nat) (fun j => [(s6, u64v (val 0 (((unpack b).drop k).take j))), (s7, i64v ((k : Int) + n))]) (fun j => upd σb id (.cells [sl tk b, i64v ((k + j : Nat) : Int)])) (fun _ => 0) (fun j => getCode (8 * b.length) k n = 0 ∧ j ≤ n.toNat) (fun j => n.toNat - j) ?_ ?_
  · ((conv => whnf); (repeat ((first | with_reducible refine abr_true rfl ?_ | with_reducible refine abr_false rfl ?_ | with_reducible refine abr_yes rfl ?_ | refine abr_yes (by decide) ?_ | refine abr_no (by decide) ?_ | with_reducible refine abr_same_ne ?_); (conv => whnf))))
    intro hlab
    by_cases h1 : n < 0
    · have hc : getCode (8 * b.length) k n = 1 := by unfold getCode; rw [if_pos (.inl h1)]
      ((conv => whnf); (repeat ((first | with_reducible refine abr_true rfl ?_ | with_reducible refine abr_false rfl ?_ | with_reducible refine abr_yes rfl ?_ | refine abr_yes (by decide) ?_ | refine abr_no (by decide) ?_ | with_reducible refine abr_same_ne ?_); (conv => whnf))))
      (repeat ((first | refine aload (by (repeat (first | with_reducible exact upd_same _ _ _ | assumption | rw [upd_ne _ _ (by first | assumption | (apply Ne.symm; assumption))]))) rfl ?_ | refine afit_i64 (by omega) ?_ | refine arem_nonneg (by omega) (by omega) ?_ | refine adiv_i64 (by omega) (by omega) ?_ | refine abr_yes (by omega) ?_ | refine abr_no (by omega) ?_ | refine amin ?_ | refine amax ?_ | refine afit_u64 (by omega) ?_ | refine afit_u8 (by omega) ?_ | rw [List.length_map]); ((conv => whnf); (repeat ((first | with_reducible refine abr_true rfl ?_ | with_reducible refine abr_false rfl ?_ | with_reducible refine abr_yes rfl ?_ | refine abr_yes (by decide) ?_ | refine abr_no (by decide) ?_ | with_reducible refine abr_same_ne ?_); (conv => whnf))))))
      refine aret_same ⟨?_, ?_⟩
      · unfold getVal; rw [hul, hc]; rfl
      · unfold getAt; rw [hc]; exact hR
    · by_cases h2 : n > 64
      · have hc : getCode (8 * b.length) k n = 1 := by unfold getCode; rw [if_pos (.inr h2)]
        ((conv => whnf); (repeat ((first | with_reducible refine abr_true rfl ?_ | with_reducible refine abr_false rfl ?_ | with_reducible refine abr_yes rfl ?_ | refine abr_yes (by decide) ?_ | refine abr_no (by decide) ?_ | with_reducible refine abr_same_ne ?_); (conv => whnf))))
        (repeat ((first | refine aload (by (repeat (first | with_reducible exact upd_same _ _ _ | assumption | rw [upd_ne _ _ (by first | assumption | (apply Ne.symm; assumption))]))) rfl ?_ | refine afit_i64 (by omega) ?_ | refine arem_nonneg (by omega) (by omega) ?_ | refine adiv_i64 (by omega) (by omega) ?_ | refine abr_yes (by omega) ?_ | refine abr_no (by omega) ?_ | refine amin ?_ | refine amax ?_ | refine afit_u64 (by omega) ?_ | refine afit_u8 (by omega) ?_ | rw [List.length_map]); ((conv => whnf); (repeat ((first | with_reducible refine abr_true rfl ?_ | with_reducible refine abr_false rfl ?_ | with_reducible refine abr_yes rfl ?_ | refine abr_yes (by decide) ?_ | refine abr_no (by decide) ?_ | with_reducible refine abr_same_ne ?_); (conv => whnf))))))
        refine aret_same ⟨?_, ?_⟩
        · unfold getVal; rw [hul, hc]; rfl
        · unfold getAt; rw [hc]; exact hR
      · ((conv => whnf); (repeat ((first | with_reducible refine abr_true rfl ?_ | with_reducible refine abr_false rfl ?_ | with_reducible refine abr_yes rfl ?_ | refine abr_yes (by decide) ?_ | refine abr_no (by decide) ?_ | with_reducible refine abr_same_ne ?_); (conv => whnf))))
        (repeat ((first | refine aload (by (repeat (first | with_reducible exact upd_same _ _ _ | assumption | rw [upd_ne _ _ (by first | assumption | (apply Ne.symm; assumption))]))) rfl ?_ | refine afit_i64 (by omega) ?_ | refine arem_nonneg (by omega) (by omega) ?_ | refine adiv_i64 (by omega) (by omega) ?_ | refine abr_yes (by omega) ?_ | refine abr_no (by omega) ?_ | refine amin ?_ | refine amax ?_ | refine afit_u64 (by omega) ?_ | refine afit_u8 (by omega) ?_ | rw [List.length_map]); ((conv => whnf); (repeat ((first | with_reducible refine abr_true rfl ?_ | with_reducible refine abr_false rfl ?_ | with_reducible refine abr_yes rfl ?_ | refine abr_yes (by decide) ?_ | refine abr_no (by decide) ?_ | with_reducible refine abr_same_ne ?_); (conv => whnf))))))
        refine acall (rLeft id b k _ σb hR) ?_
        rintro x σ' ⟨rfl, rfl⟩
        refine ⟨?_, Ext.refl _⟩
        by_cases h3 : n > ((8 * b.length - k : Nat) : Int)
        · have hc : getCode (8 * b.length) k n = 8 := by unfold getCode; rw [if_neg (by omega), if_pos (by omega)]
          ((conv => whnf); (repeat ((first | with_reducible refine abr_true rfl ?_ | with_reducible refine abr_false rfl ?_ | with_reducible refine abr_yes rfl ?_ | refine abr_yes (by decide) ?_ | refine abr_no (by decide) ?_ | with_reducible refine abr_same_ne ?_); (conv => whnf))))
          (repeat ((first | refine aload (by (repeat (first | with_reducible exact upd_same _ _ _ | assumption | rw [upd_ne _ _ (by first | assumption | (apply Ne.symm; assumption))]))) rfl ?_ | refine afit_i64 (by omega) ?_ | refine arem_nonneg (by omega) (by omega) ?_ | refine adiv_i64 (by omega) (by omega) ?_ | refine abr_yes (by omega) ?_ | refine abr_no (by omega) ?_ | refine amin ?_ | refine amax ?_ | refine afit_u64 (by omega) ?_ | refine afit_u8 (by omega) ?_ | rw [List.length_map]); ((conv => whnf); (repeat ((first | with_reducible refine abr_true rfl ?_ | with_reducible refine abr_false rfl ?_ | with_reducible refine abr_yes rfl ?_ | refine abr_yes (by decide) ?_ | refine abr_no (by decide) ?_ | with_reducible refine abr_same_ne ?_); (conv => whnf))))))
          refine aret_same ⟨?_, ?_⟩
          · unfold getVal; rw [hul, hc]; rfl
          · unfold getAt; rw [hc]; exact hR
        · have hc : getCode (8 * b.length) k n = 0 := by unfold getCode; rw [if_neg (by omega), if_neg (by omega)]
          ((conv => whnf); (repeat ((first | with_reducible refine abr_true rfl ?_ | with_reducible refine abr_false rfl ?_ | with_reducible refine abr_yes rfl ?_ | refine abr_yes (by decide) ?_ | refine abr_no (by decide) ?_ | with_reducible refine abr_same_ne ?_); (conv => whnf))))
          (repeat ((first | refine aload (by (repeat (first | with_reducible exact upd_same _ _ _ | assumption | rw [upd_ne _ _ (by first | assumption | (apply Ne.symm; assumption))]))) rfl ?_ | refine afit_i64 (by omega) ?_ | refine arem_nonneg (by omega) (by omega) ?_ | refine adiv_i64 (by omega) (by omega) ?_ | refine abr_yes (by omega) ?_ | refine abr_no (by omega) ?_ | refine amin ?_ | refine amax ?_ | refine afit_u64 (by omega) ?_ | refine afit_u8 (by omega) ?_ | rw [List.length_map]); ((conv => whnf); (repeat ((first | with_reducible refine abr_true rfl ?_ | with_reducible refine abr_false rfl ?_ | with_reducible refine abr_yes rfl ?_ | refine abr_yes (by decide) ?_ | refine abr_no (by decide) ?_ | with_reducible refine abr_same_ne ?_); (conv => whnf))))))
          refine hlab _ (fun _ _ _ h => h) _ _ _ _ ⟨0, rfl, ⟨hc, by omega⟩, rfl, Sub.refl _, ?_⟩
          ((conv => whnf); (repeat ((first | with_reducible refine abr_true rfl ?_ | with_reducible refine abr_false rfl ?_ | with_reducible refine abr_yes rfl ?_ | refine abr_yes (by decide) ?_ | refine abr_no (by decide) ?_ | with_reducible refine abr_same_ne ?_); (conv => whnf))))
          (repeat' first | with_reducible exact EnvLe.refl _ | (refine EnvLe.node ?_ (by first | exact Or.inl rfl | exact Or.inr (Or.inl rfl) | exact Or.inr (Or.inr ⟨nofun, VLe.slice _ _ _⟩)) ?_))
  · rintro j ⟨hc, hj⟩
    obtain ⟨p1, p2, p3⟩ := getCode_ok hc
    refine ⟨_, rfl, ?_⟩
    ((conv => whnf); (repeat ((first | with_reducible refine abr_true rfl ?_ | with_reducible refine abr_false rfl ?_ | with_reducible refine abr_yes rfl ?_ | refine abr_yes (by decide) ?_ | refine abr_no (by decide) ?_ | with_reducible refine abr_same_ne ?_); (conv => whnf))))
    intro hlab
    by_cases h1 : j = n.toNat
    · ((conv => whnf); (repeat ((first | with_reducible refine abr_true rfl ?_ | with_reducible refine abr_false rfl ?_ | with_reducible refine abr_yes rfl ?_ | refine abr_yes (by decide) ?_ | refine abr_no (by decide) ?_ | with_reducible refine abr_same_ne ?_); (conv => whnf))))
      (repeat ((first | refine aload (by (repeat (first | with_reducible exact upd_same _ _ _ | assumption | rw [upd_ne _ _ (by first | assumption | (apply Ne.symm; assumption))]))) rfl ?_ | refine afit_i64 (by omega) ?_ | refine arem_nonneg (by omega) (by omega) ?_ | refine adiv_i64 (by omega) (by omega) ?_ | refine abr_yes (by omega) ?_ | refine abr_no (by omega) ?_ | refine amin ?_ | refine amax ?_ | refine afit_u64 (by omega) ?_ | refine afit_u8 (by omega) ?_ | rw [List.length_map]); ((conv => whnf); (repeat ((first | with_reducible refine abr_true rfl ?_ | with_reducible refine abr_false rfl ?_ | with_reducible refine abr_yes rfl ?_ | refine abr_yes (by decide) ?_ | refine abr_no (by decide) ?_ | with_reducible refine abr_same_ne ?_); (conv => whnf))))))
      refine aret_same ⟨?_, ?_⟩
      · unfold getVal; rw [hul, if_pos hc, hc, h1]
      · unfold getAt; rw [if_pos hc, ← h1]
        exact ⟨hid, by omega, hb, tk, rfl⟩
    · have hlt : k + j < 8 * b.length := by omega
      have hq : (k + j) / 8 < b.length := by omega
      have hg : b[(k + j) / 8]? = some b[(k + j) / 8] := List.getElem?_eq_getElem hq
      have hbit := unpack_get b (k + j) _ hg
      have hv2 : val 0 (((unpack b).drop k).take j) < 2 ^ 63 := by
        have h1 := val_lt (((unpack b).drop k).take j)
        have h2 : (((unpack b).drop k).take j).length ≤ 63 := by rw [List.length_take]; omega
        exact Nat.lt_of_lt_of_le h1 (Nat.pow_le_pow_right (by omega) h2)
      have hx := b[(k + j) / 8].toNat_lt
      ((conv => whnf); (repeat ((first | with_reducible refine abr_true rfl ?_ | with_reducible refine abr_false rfl ?_ | with_reducible refine abr_yes rfl ?_ | refine abr_yes (by decide) ?_ | refine abr_no (by decide) ?_ | with_reducible refine abr_same_ne ?_); (conv => whnf))))
      (repeat ((first | refine aload (by (repeat (first | with_reducible exact upd_same _ _ _ | assumption | rw [upd_ne _ _ (by first | assumption | (apply Ne.symm; assumption))]))) rfl ?_ | refine afit_i64 (by omega) ?_ | refine arem_nonneg (by omega) (by omega) ?_ | refine adiv_i64 (by omega) (by omega) ?_ | refine abr_yes (by omega) ?_ | refine abr_no (by omega) ?_ | refine amin ?_ | refine amax ?_ | refine afit_u64 (by omega) ?_ | refine afit_u8 (by omega) ?_ | rw [List.length_map]); ((conv => whnf); (repeat ((first | with_reducible refine abr_true rfl ?_ | with_reducible refine abr_false rfl ?_ | with_reducible refine abr_yes rfl ?_ | refine abr_yes (by decide) ?_ | refine abr_no (by decide) ?_ | with_reducible refine abr_same_ne ?_); (conv => whnf))))))
      refine ashl_eq (by omega) (shl1_u64 _ (by omega)) ?_
      ((conv => whnf); (repeat ((first | with_reducible refine abr_true rfl ?_ | with_reducible refine abr_false rfl ?_ | with_reducible refine abr_yes rfl ?_ | refine abr_yes (by decide) ?_ | refine abr_no (by decide) ?_ | with_reducible refine abr_same_ne ?_); (conv => whnf))))
      (repeat ((first | refine aload (by (repeat (first | with_reducible exact upd_same _ _ _ | assumption | rw [upd_ne _ _ (by first | assumption | (apply Ne.symm; assumption))]))) rfl ?_ | refine afit_i64 (by omega) ?_ | refine arem_nonneg (by omega) (by omega) ?_ | refine adiv_i64 (by omega) (by omega) ?_ | refine abr_yes (by omega) ?_ | refine abr_no (by omega) ?_ | refine amin ?_ | refine amax ?_ | refine afit_u64 (by omega) ?_ | refine afit_u8 (by omega) ?_ | rw [List.length_map]); ((conv => whnf); (repeat ((first | with_reducible refine abr_true rfl ?_ | with_reducible refine abr_false rfl ?_ | with_reducible refine abr_yes rfl ?_ | refine abr_yes (by decide) ?_ | refine abr_no (by decide) ?_ | with_reducible refine abr_same_ne ?_); (conv => whnf))))))
      rw [show ((k + j : Nat) : Int) / 8 = (((k + j) / 8 : Nat) : Int) by omega]
      refine aget (by omega) (get_bytes hq) ?_
      ((conv => whnf); (repeat ((first | with_reducible refine abr_true rfl ?_ | with_reducible refine abr_false rfl ?_ | with_reducible refine abr_yes rfl ?_ | refine abr_yes (by decide) ?_ | refine abr_no (by decide) ?_ | with_reducible refine abr_same_ne ?_); (conv => whnf))))
      refine acell rfl ?_
      ((conv => whnf); (repeat ((first | with_reducible refine abr_true rfl ?_ | with_reducible refine abr_false rfl ?_ | with_reducible refine abr_yes rfl ?_ | refine abr_yes (by decide) ?_ | refine abr_no (by decide) ?_ | with_reducible refine abr_same_ne ?_); (conv => whnf))))
      (repeat ((first | refine aload (by (repeat (first | with_reducible exact upd_same _ _ _ | assumption | rw [upd_ne _ _ (by first | assumption | (apply Ne.symm; assumption))]))) rfl ?_ | refine afit_i64 (by omega) ?_ | refine arem_nonneg (by omega) (by omega) ?_ | refine adiv_i64 (by omega) (by omega) ?_ | refine abr_yes (by omega) ?_ | refine abr_no (by omega) ?_ | refine amin ?_ | refine amax ?_ | refine afit_u64 (by omega) ?_ | refine afit_u8 (by omega) ?_ | rw [List.length_map]); ((conv => whnf); (repeat ((first | with_reducible refine abr_true rfl ?_ | with_reducible refine abr_false rfl ?_ | with_reducible refine abr_yes rfl ?_ | refine abr_yes (by decide) ?_ | refine abr_no (by decide) ?_ | with_reducible refine abr_same_ne ?_); (conv => whnf))))))
      rw [show (7 : Int) - ((k + j : Nat) : Int) % 8 = ((7 - (k + j) % 8 : Nat) : Int) by omega]
      refine ashr_nat (by show _ ≤ 8; omega) ?_
      ((conv => whnf); (repeat ((first | with_reducible refine abr_true rfl ?_ | with_reducible refine abr_false rfl ?_ | with_reducible refine abr_yes rfl ?_ | refine abr_yes (by decide) ?_ | refine abr_no (by decide) ?_ | with_reducible refine abr_same_ne ?_); (conv => whnf))))
      refine abits_eq (and1_u8 _ (Nat.lt_of_le_of_lt (Nat.div_le_self _ _) hx)) ?_
      rw [← testBit_nat]
      ((conv => whnf); (repeat ((first | with_reducible refine abr_true rfl ?_ | with_reducible refine abr_false rfl ?_ | with_reducible refine abr_yes rfl ?_ | refine abr_yes (by decide) ?_ | refine abr_no (by decide) ?_ | with_reducible refine abr_same_ne ?_); (conv => whnf))))
      have hb1 : (b[(k + j) / 8].toNat.testBit (7 - (k + j) % 8)).toNat ≤ 1 := by cases b[(k + j) / 8].toNat.testBit (7 - (k + j) % 8) <;> decide
      refine afit_u64 (by omega) ?_
      ((conv => whnf); (repeat ((first | with_reducible refine abr_true rfl ?_ | with_reducible refine abr_false rfl ?_ | with_reducible refine abr_yes rfl ?_ | refine abr_yes (by decide) ?_ | refine abr_no (by decide) ?_ | with_reducible refine abr_same_ne ?_); (conv => whnf))))
      refine abits_eq (or1_u64 _ _ (by omega)) ?_
      ((conv => whnf); (repeat ((first | with_reducible refine abr_true rfl ?_ | with_reducible refine abr_false rfl ?_ | with_reducible refine abr_yes rfl ?_ | refine abr_yes (by decide) ?_ | refine abr_no (by decide) ?_ | with_reducible refine abr_same_ne ?_); (conv => whnf))))
      (repeat ((first | refine aload (by (repeat (first | with_reducible exact upd_same _ _ _ | assumption | rw [upd_ne _ _ (by first | assumption | (apply Ne.symm; assumption))]))) rfl ?_ | refine afit_i64 (by omega) ?_ | refine arem_nonneg (by omega) (by omega) ?_ | refine adiv_i64 (by omega) (by omega) ?_ | refine abr_yes (by omega) ?_ | refine abr_no (by omega) ?_ | refine amin ?_ | refine amax ?_ | refine afit_u64 (by omega) ?_ | refine afit_u8 (by omega) ?_ | rw [List.length_map]); ((conv => whnf); (repeat ((first | with_reducible refine abr_true rfl ?_ | with_reducible refine abr_false rfl ?_ | with_reducible refine abr_yes rfl ?_ | refine abr_yes (by decide) ?_ | refine abr_no (by decide) ?_ | with_reducible refine abr_same_ne ?_); (conv => whnf))))))
      refine astore (upd_same _ _ _) (Nat.le_of_ble_eq_true rfl) rfl rfl ?_
      rw [upd_upd]
      ((conv => whnf); (repeat ((first | with_reducible refine abr_true rfl ?_ | with_reducible refine abr_false rfl ?_ | with_reducible refine abr_yes rfl ?_ | refine abr_yes (by decide) ?_ | refine abr_no (by decide) ?_ | with_reducible refine abr_same_ne ?_); (conv => whnf))))
      refine ⟨j + 1, rfl, ⟨hc, by omega⟩, by omega, ?_, ?_⟩
      · rw [show (((k + j : Nat) : Int) + 1) = ((k + (j + 1) : Nat) : Int) by omega]
        exact Sub.refl _
      · have e : val 0 (((unpack b).drop k).take (j + 1)) = 2 * val 0 (((unpack b).drop k).take j) + (b[(k + j) / 8].toNat.testBit (7 - (k + j) % 8)).toNat := by
          rw [take_snoc (l := (unpack b).drop k) (i := j) (x := b[(k + j) / 8].toNat.testBit (7 - (k + j) % 8)) (by rw [List.getElem?_drop]; exact hbit), val_snoc]
        ((conv => whnf); (repeat ((first | with_reducible refine abr_true rfl ?_ | with_reducible refine abr_false rfl ?_ | with_reducible refine abr_yes rfl ?_ | refine abr_yes (by decide) ?_ | refine abr_no (by decide) ?_ | with_reducible refine abr_same_ne ?_); (conv => whnf))))
        rw [e]
        (repeat' first | with_reducible exact EnvLe.refl _ | (refine EnvLe.node ?_ (by first | exact Or.inl rfl | exact Or.inr (Or.inl rfl) | exact Or.inr (Or.inr ⟨nofun, VLe.slice _ _ _⟩)) ?_))

theorem rRestNil (σ : AHeap) : ACalls Try.prog i_bits_Reader_Rest [.v (.pointer none)] σ fun x σ' => x = .tup [sl .none [], i64v 6] ∧ σ' = σ := by
  refine k_bits_Reader_Rest rfl ?_
  ((conv => whnf); (repeat ((first | with_reducible refine abr_true rfl ?_ | with_reducible refine abr_false rfl ?_ | with_reducible refine abr_yes rfl ?_ | refine abr_yes (by decide) ?_ | refine abr_no (by decide) ?_ | with_reducible refine abr_same_ne ?_); (conv => whnf))))
  exact aret VLe.tup_sl (Sub.refl _) ⟨rfl, rfl⟩

theorem pad_le (k : Nat) : pad k ≤ 7 := by unfold pad; omega
set_option maxRecDepth 10000 in
theorem rRest (id : Nat) (b : List UInt8) (k : Nat) (σ σb : AHeap) (h : Rd σ id b k σb) :
    ACalls Try.prog i_bits_Reader_Rest [.ptr id 0] σ fun x σ' => x = .tup [sl .none (if restOk (unpack b) k then b.drop ((k + 7) / 8) else []), i64v (if restOk (unpack b) k then 0 else 3)] ∧
      Rd σ' id b (if restOk (unpack b) k then 8 * b.length else k) σb := by
  have hR := h
  obtain ⟨hid, hk, hb, tk, rfl⟩ := h
  have hul := unpack_length b
  have hp7 := pad_le k
  refine k_bits_Reader_Rest rfl ?_
  ((conv => whnf); (repeat ((first | with_reducible refine abr_true rfl ?_ | with_reducible refine abr_false rfl ?_ | with_reducible refine abr_yes rfl ?_ | refine abr_yes (by decide) ?_ | refine abr_no (by decide) ?_ | with_reducible refine abr_same_ne ?_); (conv => whnf))))
  (repeat ((first | refine aload (by (repeat (first | with_reducible exact upd_same _ _ _ | assumption | rw [upd_ne _ _ (by first | assumption | (apply Ne.symm; assumption))]))) rfl ?_ | refine afit_i64 (by omega) ?_ | refine arem_nonneg (by omega) (by omega) ?_ | refine adiv_i64 (by omega) (by omega) ?_ | refine abr_yes (by omega) ?_ | refine abr_no (by omega) ?_ | refine amin ?_ | refine amax ?_ | refine afit_u64 (by omega) ?_ | refine afit_u8 (by omega) ?_ | rw [List.length_map]); ((conv => whnf); (repeat ((first | with_reducible refine abr_true rfl ?_ | with_reducible refine abr_false rfl ?_ | with_reducible refine abr_yes rfl ?_ | refine abr_yes (by decide) ?_ | refine abr_no (by decide) ?_ | with_reducible refine abr_same_ne ?_); (conv => whnf))))))
  rw [show ((8 : Int) - (k : Int) % 8) % 8 = ((pad k : Nat) : Int) by unfold pad; omega]
  refine acall (rGet id b k (pad k) _ σb hR) ?_
  rintro x σ' ⟨rfl, hR2⟩
  have hc : getCode (8 * b.length) k (pad k) = 0 := by
    unfold getCode
    rw [if_neg (by omega), if_neg]
    have : k % 8 = 0 ∨ k + (8 - k % 8) ≤ 8 * b.length := by omega
    unfold pad
    omega
  have ha : getAt (8 * b.length) k (pad k) = k + pad k := by unfold getAt; rw [if_pos hc]; rfl
  have hv : getVal (unpack b) k (pad k) = val 0 (((unpack b).drop k).take (pad k)) := by unfold getVal; rw [hul, if_pos hc]; rfl
  rw [ha] at hR2
  rw [hc, hv]
  obtain ⟨hid2, hk2, hb2, tk2, rfl⟩ := hR2
  ((conv => whnf); (repeat ((first | with_reducible refine abr_true rfl ?_ | with_reducible refine abr_false rfl ?_ | with_reducible refine abr_yes rfl ?_ | refine abr_yes (by decide) ?_ | refine abr_no (by decide) ?_ | with_reducible refine abr_same_ne ?_); (conv => whnf))))
  by_cases hz : val 0 (((unpack b).drop k).take (pad k)) = 0
  · have hok : restOk (unpack b) k = true := decide_eq_true hz
    rw [hok]
    simp only [if_true]
    (repeat ((first | refine aload (by (repeat (first | with_reducible exact upd_same _ _ _ | assumption | rw [upd_ne _ _ (by first | assumption | (apply Ne.symm; assumption))]))) rfl ?_ | refine afit_i64 (by omega) ?_ | refine arem_nonneg (by omega) (by omega) ?_ | refine adiv_i64 (by omega) (by omega) ?_ | refine abr_yes (by omega) ?_ | refine abr_no (by omega) ?_ | refine amin ?_ | refine amax ?_ | refine afit_u64 (by omega) ?_ | refine afit_u8 (by omega) ?_ | rw [List.length_map]); ((conv => whnf); (repeat ((first | with_reducible refine abr_true rfl ?_ | with_reducible refine abr_false rfl ?_ | with_reducible refine abr_yes rfl ?_ | refine abr_yes (by decide) ?_ | refine abr_no (by decide) ?_ | with_reducible refine abr_same_ne ?_); (conv => whnf))))))
    try rw [List.length_map]
    refine acut (by omega) (by omega) (by omega) ?_
    ((conv => whnf); (repeat ((first | with_reducible refine abr_true rfl ?_ | with_reducible refine abr_false rfl ?_ | with_reducible refine abr_yes rfl ?_ | refine abr_yes (by decide) ?_ | refine abr_no (by decide) ?_ | with_reducible refine abr_same_ne ?_); (conv => whnf))))
    rw [show (((k + pad k : Nat) : Int) / 8).toNat = (k + 7) / 8 by unfold pad; omega, show (b.length : Int).toNat = b.length by omega, List.take_of_length_le (by simp), ← List.map_drop]
    refine acall (Clone (b.drop ((k + 7) / 8)) _ _ (by rw [List.length_drop]; omega)) ?_
    rintro v σ' ⟨tk3, ho, rfl⟩
    refine ⟨?_, ho.ext⟩
    have hσ : σ' id = some (.cells [sl tk2 b, i64v ((k + pad k : Nat) : Int)]) := by
      rcases ho with ⟨_, rfl⟩ | ⟨t', h0, _, rfl⟩
      · exact upd_same _ _ _
      · by_cases e : id = t'
        · subst e; rw [upd_same] at h0; cases h0
        · rw [upd_ne _ _ e]; exact upd_same _ _ _
    ((conv => whnf); (repeat ((first | with_reducible refine abr_true rfl ?_ | with_reducible refine abr_false rfl ?_ | with_reducible refine abr_yes rfl ?_ | refine abr_yes (by decide) ?_ | refine abr_no (by decide) ?_ | with_reducible refine abr_same_ne ?_); (conv => whnf))))
    (repeat ((first | refine aload (by (repeat (first | with_reducible exact upd_same _ _ _ | assumption | rw [upd_ne _ _ (by first | assumption | (apply Ne.symm; assumption))]))) rfl ?_ | refine afit_i64 (by omega) ?_ | refine arem_nonneg (by omega) (by omega) ?_ | refine adiv_i64 (by omega) (by omega) ?_ | refine abr_yes (by omega) ?_ | refine abr_no (by omega) ?_ | refine amin ?_ | refine amax ?_ | refine afit_u64 (by omega) ?_ | refine afit_u8 (by omega) ?_ | rw [List.length_map]); ((conv => whnf); (repeat ((first | with_reducible refine abr_true rfl ?_ | with_reducible refine abr_false rfl ?_ | with_reducible refine abr_yes rfl ?_ | refine abr_yes (by decide) ?_ | refine abr_no (by decide) ?_ | with_reducible refine abr_same_ne ?_); (conv => whnf))))))
    try rw [List.length_map]
    (repeat ((first | refine aload (by (repeat (first | with_reducible exact upd_same _ _ _ | assumption | rw [upd_ne _ _ (by first | assumption | (apply Ne.symm; assumption))]))) rfl ?_ | refine afit_i64 (by omega) ?_ | refine arem_nonneg (by omega) (by omega) ?_ | refine adiv_i64 (by omega) (by omega) ?_ | refine abr_yes (by omega) ?_ | refine abr_no (by omega) ?_ | refine amin ?_ | refine amax ?_ | refine afit_u64 (by omega) ?_ | refine afit_u8 (by omega) ?_ | rw [List.length_map]); ((conv => whnf); (repeat ((first | with_reducible refine abr_true rfl ?_ | with_reducible refine abr_false rfl ?_ | with_reducible refine abr_yes rfl ?_ | refine abr_yes (by decide) ?_ | refine abr_no (by decide) ?_ | with_reducible refine abr_same_ne ?_); (conv => whnf))))))
    refine astore hσ (Nat.le_of_ble_eq_true rfl) rfl rfl ?_
    ((conv => whnf); (repeat ((first | with_reducible refine abr_true rfl ?_ | with_reducible refine abr_false rfl ?_ | with_reducible refine abr_yes rfl ?_ | refine abr_yes (by decide) ?_ | refine abr_no (by decide) ?_ | with_reducible refine abr_same_ne ?_); (conv => whnf))))
    refine aret VLe.tup_sl (σ' := upd σb id (.cells [sl tk2 b, i64v ((b.length : Int) * 8)])) ?_ ⟨rfl, hid, Nat.le_refl _, hb, tk2, ?_⟩
    · have := Sub.upd ho.sub id (.cells [sl tk2 b, i64v ((b.length : Int) * 8)])
      rw [upd_upd] at this
      exact this
    · rw [show (b.length : Int) * 8 = ((8 * b.length : Nat) : Int) by omega]
  · have hok : restOk (unpack b) k = false := decide_eq_false hz
    rw [hok]
    simp only [Bool.false_eq_true, if_false]
    (repeat ((first | refine aload (by (repeat (first | with_reducible exact upd_same _ _ _ | assumption | rw [upd_ne _ _ (by first | assumption | (apply Ne.symm; assumption))]))) rfl ?_ | refine afit_i64 (by omega) ?_ | refine arem_nonneg (by omega) (by omega) ?_ | refine adiv_i64 (by omega) (by omega) ?_ | refine abr_yes (by omega) ?_ | refine abr_no (by omega) ?_ | refine amin ?_ | refine amax ?_ | refine afit_u64 (by omega) ?_ | refine afit_u8 (by omega) ?_ | rw [List.length_map]); ((conv => whnf); (repeat ((first | with_reducible refine abr_true rfl ?_ | with_reducible refine abr_false rfl ?_ | with_reducible refine abr_yes rfl ?_ | refine abr_yes (by decide) ?_ | refine abr_no (by decide) ?_ | with_reducible refine abr_same_ne ?_); (conv => whnf))))))
    refine astore (upd_same _ _ _) (Nat.le_of_ble_eq_true rfl) rfl rfl ?_
    rw [upd_upd]
    ((conv => whnf); (repeat ((first | with_reducible refine abr_true rfl ?_ | with_reducible refine abr_false rfl ?_ | with_reducible refine abr_yes rfl ?_ | refine abr_yes (by decide) ?_ | refine abr_no (by decide) ?_ | with_reducible refine abr_same_ne ?_); (conv => whnf))))
    exact aret VLe.tup_sl (Sub.refl _) ⟨rfl, hid, hk, hb, tk2, rfl⟩
end Go.Proofs.Ythjjkcmiachpcaa
/-
  Parts of the objects' heap that stand side by side.
-/
namespace Go.Proofs.Ythjjkcmiachpcaa
set_option linter.unusedVariables false
set_option linter.unusedSimpArgs false
open Go Go.Am

def join (A σ : AHeap) : AHeap := fun j => match A j with | some o => some o | none => σ j
/-- A heap is another one, and a part of its own beside. -/
def Has (S : AHeap → Prop) (σ σb : AHeap) : Prop := ∃ A, S A ∧ (∀ j, A j ≠ none → σb j = none) ∧ σ = join A σb

theorem Has.sub {S : AHeap → Prop} {σ σb : AHeap} (h : Has S σ σb) : Sub σ σb := by
  obtain ⟨A, _, h2, rfl⟩ := h
  intro j o e
  unfold join
  cases hA : A j with
  | none => exact e
  | some x => rw [h2 j (by rw [hA]; nofun)] at e; cases e
theorem Has.gone {S : AHeap → Prop} {σ σb : AHeap} (h : Has S σ σb) {j : Nat} (hj : σ j = none) : σb j = none := by
  obtain ⟨A, _, h2, rfl⟩ := h
  unfold join at hj
  cases hA : A j with
  | none => rw [hA] at hj; exact hj
  | some x => rw [hA] at hj; cases hj
theorem Has.swap {S T : AHeap → Prop} {σ2 σ1 σ0 : AHeap} (h : Has S σ2 σ1) (k : Has T σ1 σ0) : ∃ σ', Has T σ2 σ' ∧ Has S σ' σ0 := by
  obtain ⟨A, hS, hA, rfl⟩ := h
  obtain ⟨B, hT, hB, rfl⟩ := k
  have hAB : ∀ j, A j ≠ none → B j = none ∧ σ0 j = none := by
    intro j hj
    have := hA j hj
    unfold join at this
    cases hb : B j with
    | none => rw [hb] at this; exact ⟨rfl, this⟩
    | some x => rw [hb] at this; cases this
  refine ⟨join A σ0, ⟨B, hT, ?_, ?_⟩, A, hS, fun j hj => (hAB j hj).2, rfl⟩
  · intro j hj
    unfold join
    cases ha : A j with
    | none => exact hB j hj
    | some x => exact absurd (hAB j (by rw [ha]; nofun)).1 hj
  · funext j
    unfold join
    cases ha : A j with
    | none => rfl
    | some x => rw [(hAB j (by rw [ha]; nofun)).1]

theorem Has.ext {S : AHeap → Prop} {σ σb : AHeap} (h : Has S σ σb) : Ext σb σ := by
  obtain ⟨A, _, h2, rfl⟩ := h
  intro j o _ e
  unfold join
  cases hA : A j with
  | none => exact e
  | some x => rw [h2 j (by rw [hA]; nofun)] at e; cases e

theorem join_upd (A σ : AHeap) (id : Nat) (o : AObj) : join (upd A id o) σ = upd (join A σ) id o := by
  funext j
  unfold join
  by_cases e : j = id
  · subst e; rw [upd_same, upd_same]
  · rw [upd_ne _ _ e, upd_ne _ _ e]
theorem join_none (σ : AHeap) : join (fun _ => none) σ = σ := rfl

theorem Wr.has {σ σb : AHeap} {id : Nat} {bs : List Bool} : Wr σ id bs σb ↔ Has (fun A => Wr A id bs fun _ => none) σ σb := by
  constructor
  · rintro ⟨hid, ⟨hnil, rfl⟩ | ⟨hne, r, hri, hr, rfl⟩⟩
    · refine ⟨_, ⟨rfl, .inl ⟨hnil, rfl⟩⟩, ?_, ?_⟩
      · intro j hj
        by_cases e : j = id
        · subst e; exact hid
        · rw [upd_ne _ _ e] at hj; exact absurd rfl hj
      · rw [join_upd, join_none]
    · refine ⟨_, ⟨rfl, .inr ⟨hne, r, hri, rfl, rfl⟩⟩, ?_, ?_⟩
      · intro j hj
        by_cases e : j = id
        · subst e; exact hid
        · rw [upd_ne _ _ e] at hj
          by_cases e2 : j = r
          · subst e2; exact hr
          · rw [upd_ne _ _ e2] at hj; exact absurd rfl hj
      · rw [join_upd, join_upd, join_none]
  · rintro ⟨A, ⟨_, ⟨hnil, rfl⟩ | ⟨hne, r, hri, _, rfl⟩⟩, hd, rfl⟩
    · have hid := hd id (by rw [upd_same]; nofun)
      exact ⟨hid, .inl ⟨hnil, by rw [join_upd, join_none]⟩⟩
    · have hid := hd id (by rw [upd_same]; nofun)
      have hr := hd r (by rw [upd_ne _ _ hri, upd_same]; nofun)
      exact ⟨hid, .inr ⟨hne, r, hri, hr, by rw [join_upd, join_upd, join_none]⟩⟩
theorem Rd.has {σ σb : AHeap} {id : Nat} {b : List UInt8} {k : Nat} : Rd σ id b k σb ↔ Has (fun A => Rd A id b k fun _ => none) σ σb := by
  constructor
  · rintro ⟨hid, h1, h2, tk, rfl⟩
    refine ⟨_, ⟨rfl, h1, h2, tk, rfl⟩, ?_, ?_⟩
    · intro j hj
      by_cases e : j = id
      · subst e; exact hid
      · rw [upd_ne _ _ e] at hj; exact absurd rfl hj
    · rw [join_upd, join_none]
  · rintro ⟨A, ⟨_, h1, h2, tk, rfl⟩, hd, rfl⟩
    exact ⟨hd id (by rw [upd_same]; nofun), h1, h2, tk, by rw [join_upd, join_none]⟩
theorem Wr.sub {σ σb : AHeap} {id : Nat} {bs : List Bool} (h : Wr σ id bs σb) : Sub σ σb := (Wr.has.1 h).sub
theorem Rd.sub {σ σb : AHeap} {id : Nat} {b : List UInt8} {k : Nat} (h : Rd σ id b k σb) : Sub σ σb := (Rd.has.1 h).sub
theorem swap_rw {σ2 σ1 σ0 : AHeap} {i j : Nat} {b : List UInt8} {k : Nat} {bs : List Bool} (h : Rd σ2 i b k σ1) (h' : Wr σ1 j bs σ0) : ∃ σ', Wr σ2 j bs σ' ∧ Rd σ' i b k σ0 := by
  obtain ⟨σ', h1, h2⟩ := (Rd.has.1 h).swap (Wr.has.1 h'); exact ⟨σ', Wr.has.2 h1, Rd.has.2 h2⟩
theorem swap_wr {σ2 σ1 σ0 : AHeap} {i j : Nat} {b : List UInt8} {k : Nat} {bs : List Bool} (h : Wr σ2 j bs σ1) (h' : Rd σ1 i b k σ0) : ∃ σ', Rd σ2 i b k σ' ∧ Wr σ' j bs σ0 := by
  obtain ⟨σ', h1, h2⟩ := (Wr.has.1 h).swap (Rd.has.1 h'); exact ⟨σ', Rd.has.2 h1, Wr.has.2 h2⟩
theorem swap_ww {σ2 σ1 σ0 : AHeap} {i j : Nat} {cs bs : List Bool} (h : Wr σ2 i cs σ1) (h' : Wr σ1 j bs σ0) : ∃ σ', Wr σ2 j bs σ' ∧ Wr σ' i cs σ0 := by
  obtain ⟨σ', h1, h2⟩ := (Wr.has.1 h).swap (Wr.has.1 h'); exact ⟨σ', Wr.has.2 h1, Wr.has.2 h2⟩
theorem swap_rr {σ2 σ1 σ0 : AHeap} {i j : Nat} {b b' : List UInt8} {k k' : Nat} (h : Rd σ2 i b k σ1) (h' : Rd σ1 j b' k' σ0) : ∃ σ', Rd σ2 j b' k' σ' ∧ Rd σ' i b k σ0 := by
  obtain ⟨σ', h1, h2⟩ := (Rd.has.1 h).swap (Rd.has.1 h'); exact ⟨σ', Rd.has.2 h1, Rd.has.2 h2⟩
theorem Wr.ext {σ σb : AHeap} {id : Nat} {bs : List Bool} (h : Wr σ id bs σb) : Ext σb σ := (Wr.has.1 h).ext
theorem Rd.ext {σ σb : AHeap} {id : Nat} {b : List UInt8} {k : Nat} (h : Rd σ id b k σb) : Ext σb σ := (Rd.has.1 h).ext
end Go.Proofs.Ythjjkcmiachpcaa
/-
  The bodies of one package, compiled to the framework's language (printed by a program of this session).
-/
namespace Go.Proofs.Ythjjkcmiachpcaa
set_option linter.unusedVariables false
set_option linter.unusedSimpArgs false
open Go Go.Am
/- lens.Read -/
def c23 : Cfg := ⟨qs, [], 69, []⟩
def ir23 : IFun := ⟨2, [.tmp s4, .tmp s5, .tmp s6],
  (.seq (.reg (.one ⟨some s4, none, (.mv (.c (.slice 1 [] .full)))⟩
    (.one ⟨some s5, none, (.mv (.c (.v (.int .i64 0))))⟩
    (.one ⟨some s6, none, (.mv (.c (.v (.int .i64 0))))⟩
    .done))))
  (.scope (.seq (.seq (.reg (.one ⟨some s14, none, (.mv (.t s1))⟩
    (.one ⟨some s15, none, (.callq 46 [(.t s14)])⟩
    (.one ⟨some s16, none, (.not (.t s15))⟩
    .done))))
  (.cond (.t s16) (.seq (.reg (.one ⟨some s4, none, (.mv (.c (.slice 1 [] .full)))⟩
    (.one ⟨some s5, none, (.mv (.c (.v (.int .i64 0))))⟩
    (.one ⟨some s6, none, (.mv (.c (.v (.int .i64 9))))⟩
    .done))))
  .ret) .skip))
  (.seq (.reg (.one ⟨some s7, none, (.mv (.c (.slice 1 [] .full)))⟩
    .done))
  (.seq (.reg (.one ⟨some s17, none, (.mv (.t s0))⟩
    (.one ⟨some s18, none, (.mv (.t s0))⟩
    (.one ⟨some s19, none, (.len false (.t s18))⟩
    (.one ⟨some s20, none, (.mv (.t s1))⟩
    (.one ⟨some s21, none, (.callq 47 [(.c (.v (.int .i64 23))), (.t s20)])⟩
    (.one ⟨some s22, none, (.mxmn false (.t s19) (.t s21))⟩
    (.one ⟨some s23, none, (.cut 1 (.t s17) none (some (.t s22)) none)⟩
    (.one ⟨some s24, none, (.callq 21 [(.t s23)])⟩
    (.one ⟨some s8, none, (.mv (.t s24))⟩
    .done))))))))))
  (.seq (.label 0)
  (.seq (.reg (.one ⟨some s26, none, (.mv (.t s8))⟩
    (.one ⟨some s27, none, (.call 22 [(.t s26), (.c (.v (.int .i64 1)))])⟩
    (.one ⟨some s25, none, (.mv (.t s27))⟩
    (.one ⟨some s28, none, (.ext (.t s25) 0)⟩
    (.one ⟨some s29, none, (.ext (.t s25) 1)⟩
    (.one ⟨some s9, none, (.mv (.t s28))⟩
    (.one ⟨some s10, none, (.mv (.t s29))⟩
    .done))))))))
  (.seq (.seq (.reg (.one ⟨some s30, none, (.mv (.t s10))⟩
    (.one ⟨some s31, none, (.bin false .neq (.t s30) (.c (.v (.int .i64 0))))⟩
    .done)))
  (.cond (.t s31) (.seq (.reg (.one ⟨some s32, none, (.mv (.t s10))⟩
    (.one ⟨some s4, none, (.mv (.c (.slice 1 [] .full)))⟩
    (.one ⟨some s5, none, (.mv (.c (.v (.int .i64 0))))⟩
    (.one ⟨some s6, none, (.mv (.t s32))⟩
    .done)))))
  .ret) .skip))
  (.seq (.reg (.one ⟨some s34, none, (.mv (.t s8))⟩
    (.one ⟨some s35, none, (.mv (.t s1))⟩
    (.one ⟨some s36, none, (.call 22 [(.t s34), (.t s35)])⟩
    (.one ⟨some s33, none, (.mv (.t s36))⟩
    (.one ⟨some s37, none, (.ext (.t s33) 0)⟩
    (.one ⟨some s38, none, (.ext (.t s33) 1)⟩
    (.one ⟨some s11, none, (.mv (.t s37))⟩
    (.one ⟨some s10, none, (.mv (.t s38))⟩
    .done)))))))))
  (.seq (.block 0 (.seq (.reg (.one ⟨some s40, none, (.mv (.t s10))⟩
    (.one ⟨some s41, none, (.bin false .neq (.t s40) (.c (.v (.int .i64 0))))⟩
    (.one ⟨some s39, none, (.mv (.t s41))⟩
    .done))))
  (.cond (.t s39) (.seq (.reg (.one ⟨some s42, none, (.mv (.t s10))⟩
    (.one ⟨some s4, none, (.mv (.c (.slice 1 [] .full)))⟩
    (.one ⟨some s5, none, (.mv (.c (.v (.int .i64 0))))⟩
    (.one ⟨some s6, none, (.mv (.t s42))⟩
    .done)))))
  .ret) (.seq (.reg (.one ⟨some s44, none, (.mv (.t s11))⟩
    (.one ⟨some s45, none, (.bin false .eql (.t s44) (.c (.v (.int .u64 0))))⟩
    (.one ⟨some s43, none, (.mv (.t s45))⟩
    .done))))
  (.cond (.t s43) (.seq (.reg (.one ⟨some s4, none, (.mv (.c (.slice 1 [] .full)))⟩
    (.one ⟨some s5, none, (.mv (.c (.v (.int .i64 0))))⟩
    (.one ⟨some s6, none, (.mv (.c (.v (.int .i64 3))))⟩
    .done))))
  .ret) .skip)))))
  (.seq (.reg (.one ⟨some s46, none, (.mv (.t s7))⟩
    (.one ⟨some s47, none, (.mv (.t s11))⟩
    (.one ⟨some s48, none, (.conv .i64 (.t s47))⟩
    (.one ⟨some s49, none, (.row 1 [(.t s48)])⟩
    (.one ⟨some s50, none, (.app 1 8 (.t s46) (.t s49))⟩
    (.one ⟨some s7, none, (.mv (.t s50))⟩
    .done)))))))
  (.seq (.seq (.reg (.one ⟨some s51, none, (.mv (.t s9))⟩
    (.one ⟨some s52, none, (.bin false .eql (.t s51) (.c (.v (.int .u64 1))))⟩
    .done)))
  (.cond (.t s52) (.seq (.seq (.reg (.one ⟨some s53, none, (.mv (.t s7))⟩
    (.one ⟨some s54, none, (.len false (.t s53))⟩
    (.one ⟨some s55, none, (.bin false .eql (.t s54) (.c (.v (.int .i64 23))))⟩
    .done))))
  (.cond (.t s55) (.seq (.reg (.one ⟨some s4, none, (.mv (.c (.slice 1 [] .full)))⟩
    (.one ⟨some s5, none, (.mv (.c (.v (.int .i64 0))))⟩
    (.one ⟨some s6, none, (.mv (.c (.v (.int .i64 2))))⟩
    .done))))
  .ret) .skip))
  (.goto 0)) .skip))
  (.seq (.seq (.reg (.one ⟨some s57, none, (.mv (.t s8))⟩
    (.one ⟨some s58, none, (.call 48 [(.t s57)])⟩
    (.one ⟨some s56, none, (.mv (.t s58))⟩
    (.one ⟨some s59, none, (.ext (.t s56) 0)⟩
    (.one ⟨some s60, none, (.ext (.t s56) 1)⟩
    (.one ⟨some s12, none, (.mv (.t s59))⟩
    (.one ⟨some s13, none, (.mv (.t s60))⟩
    .done))))))))
  (.seq (.reg (.one ⟨some s61, none, (.mv (.t s13))⟩
    (.one ⟨some s62, none, (.bin false .neq (.t s61) (.c (.v (.int .i64 0))))⟩
    .done)))
  (.cond (.t s62) (.seq (.reg (.one ⟨some s63, none, (.mv (.t s13))⟩
    (.one ⟨some s4, none, (.mv (.c (.slice 1 [] .full)))⟩
    (.one ⟨some s5, none, (.mv (.c (.v (.int .i64 0))))⟩
    (.one ⟨some s6, none, (.mv (.t s63))⟩
    .done)))))
  .ret) .skip)))
  (.seq (.reg (.one ⟨some s64, none, (.mv (.t s7))⟩
    (.one ⟨some s65, none, (.mv (.t s7))⟩
    (.one ⟨some s66, none, (.len false (.t s65))⟩
    (.one ⟨some s67, none, (.mv (.t s1))⟩
    (.one ⟨some s68, none, (.callq 47 [(.t s66), (.t s67)])⟩
    (.one ⟨some s4, none, (.mv (.t s64))⟩
    (.one ⟨some s5, none, (.mv (.t s68))⟩
    (.one ⟨some s6, none, (.mv (.c (.v (.int .i64 0))))⟩
    .done)))))))))
  .ret))))))))))))))⟩
theorem ok23 : compF Try.prog c23 Try.f23 = some ir23 := by kernel_rfl
theorem k_lens_Read {args : List AVal} {σ : AHeap} {Q : AVal → AHeap → Prop} (hl : Nat.ble args.length 69 = true) (h : argsK (Env.full 9) 0 args fun env => evC Try.prog c23 ir23.body env σ (retQ ir23 Q)) : ACalls Try.prog 23 args σ Q :=
  acalls_of Try.func23 ok23 rfl (Nat.le_of_ble_eq_true hl) h
/- lens.Write -/
def c32 : Cfg := ⟨qs, [], 54, []⟩
def ir32 : IFun := ⟨2, [.tmp s4, .tmp s5],
  (.seq (.reg (.one ⟨some s4, none, (.mv (.c (.slice 1 [] .full)))⟩
    (.one ⟨some s5, none, (.mv (.c (.v (.int .i64 0))))⟩
    .done)))
  (.seq (.block 0 (.seq (.reg (.one ⟨some s11, none, (.mv (.t s1))⟩
    (.one ⟨some s12, none, (.callq 46 [(.t s11)])⟩
    (.one ⟨some s13, none, (.not (.t s12))⟩
    (.one ⟨some s10, none, (.mv (.t s13))⟩
    .done)))))
  (.cond (.t s10) (.seq (.reg (.one ⟨some s4, none, (.mv (.c (.slice 1 [] .full)))⟩
    (.one ⟨some s5, none, (.mv (.c (.v (.int .i64 9))))⟩
    .done)))
  .ret) (.seq (.reg (.one ⟨some s15, none, (.mv (.t s0))⟩
    (.one ⟨some s16, none, (.len false (.t s15))⟩
    (.one ⟨some s17, none, (.bin false .eql (.t s16) (.c (.v (.int .i64 0))))⟩
    (.one ⟨some s14, none, (.mv (.t s17))⟩
    .done)))))
  (.cond (.t s14) (.seq (.reg (.one ⟨some s4, none, (.mv (.c (.slice 1 [] .full)))⟩
    (.one ⟨some s5, none, (.mv (.c (.v (.int .i64 4))))⟩
    .done)))
  .ret) (.seq (.reg (.one ⟨some s19, none, (.mv (.t s0))⟩
    (.one ⟨some s20, none, (.len false (.t s19))⟩
    (.one ⟨some s21, none, (.bin false .gtr (.t s20) (.c (.v (.int .i64 23))))⟩
    (.one ⟨some s18, none, (.mv (.t s21))⟩
    .done)))))
  (.cond (.t s18) (.seq (.reg (.one ⟨some s4, none, (.mv (.c (.slice 1 [] .full)))⟩
    (.one ⟨some s5, none, (.mv (.c (.v (.int .i64 2))))⟩
    .done)))
  .ret) .skip)))))))
  (.seq (.reg (.one ⟨some s22, none, (.callq 29 [])⟩
    (.one ⟨some s6, none, (.mv (.t s22))⟩
    .done)))
  (.seq (.seq (.reg (.one ⟨some s23, none, (.mv (.t s0))⟩
    (.one ⟨some s24, none, (.len false (.t s23))⟩
    (.one ⟨some s25, none, (.mv (.c (.v (.int .i64 0))))⟩
    .done))))
  (.block 1 (.loop (.seq (.reg (.one ⟨some s26, none, (.bin false .lss (.t s25) (.t s24))⟩
    .done))
  (.seq (.cond (.t s26) .skip (.exit 1))
  (.seq (.block 2 (.seq (.reg (.one ⟨some s27, none, (.mv (.t s25))⟩
    (.one ⟨some s28, none, (.iaddr 1 (.t s23) (.t s25))⟩
    (.one ⟨some s29, none, (.load none (.t s28))⟩
    (.one ⟨some s7, none, (.mv (.t s27))⟩
    (.one ⟨some s8, none, (.mv (.t s29))⟩
    .done))))))
  (.seq (.seq (.reg (.one ⟨some s30, none, (.mv (.t s8))⟩
    (.one ⟨some s31, none, (.bin false .lss (.t s30) (.c (.v (.int .i64 1))))⟩
    (.one ⟨some s32, none, (.mv (.t s31))⟩
    (.one ⟨some s33, some (s32, false), (.mv (.t s8))⟩
    (.one ⟨some s34, some (s32, false), (.mv (.t s1))⟩
    (.one ⟨some s35, some (s32, false), (.bin false .shl (.c (.v (.int .i64 1))) (.t s34))⟩
    (.one ⟨some s36, some (s32, false), (.bin false .geq (.t s33) (.t s35))⟩
    (.one ⟨some s37, none, (.pick (.t s32) (.c (.v (.bool true))) (.t s36))⟩
    .done)))))))))
  (.cond (.t s37) (.seq (.reg (.one ⟨some s4, none, (.mv (.c (.slice 1 [] .full)))⟩
    (.one ⟨some s5, none, (.mv (.c (.v (.int .i64 1))))⟩
    .done)))
  .ret) .skip))
  (.seq (.reg (.one ⟨some s9, none, (.mv (.c (.v (.int .u64 0))))⟩
    .done))
  (.seq (.seq (.reg (.one ⟨some s38, none, (.mv (.t s7))⟩
    (.one ⟨some s39, none, (.mv (.t s0))⟩
    (.one ⟨some s40, none, (.len false (.t s39))⟩
    (.one ⟨some s41, none, (.bin false .sub (.t s40) (.c (.v (.int .i64 1))))⟩
    (.one ⟨some s42, none, (.bin false .lss (.t s38) (.t s41))⟩
    .done))))))
  (.cond (.t s42) (.reg (.one ⟨some s9, none, (.mv (.c (.v (.int .u64 1))))⟩
    .done)) .skip))
  (.seq (.reg (.one ⟨some s43, none, (.mv (.t s6))⟩
    (.one ⟨some s44, none, (.mv (.t s9))⟩
    (.one ⟨some s45, none, (.call 30 [(.t s43), (.t s44), (.c (.v (.int .i64 1)))])⟩
    .done))))
  (.reg (.one ⟨some s46, none, (.mv (.t s6))⟩
    (.one ⟨some s47, none, (.mv (.t s8))⟩
    (.one ⟨some s48, none, (.conv .u64 (.t s47))⟩
    (.one ⟨some s49, none, (.mv (.t s1))⟩
    (.one ⟨some s50, none, (.call 30 [(.t s46), (.t s48), (.t s49)])⟩
    .done))))))))))))
  (.reg (.one ⟨some s51, none, (.bin false .add (.t s25) (.c (.v (.int .i64 1))))⟩
    (.one ⟨some s25, none, (.mv (.t s51))⟩
    .done)))))))))
  (.seq (.reg (.one ⟨some s52, none, (.mv (.t s6))⟩
    (.one ⟨some s53, none, (.callq 31 [(.t s52)])⟩
    (.one ⟨some s4, none, (.mv (.t s53))⟩
    (.one ⟨some s5, none, (.mv (.c (.v (.int .i64 0))))⟩
    .done)))))
  .ret)))))⟩
theorem ok32 : compF Try.prog c32 Try.f32 = some ir32 := by kernel_rfl
theorem k_lens_Write {args : List AVal} {σ : AHeap} {Q : AVal → AHeap → Prop} (hl : Nat.ble args.length 54 = true) (h : argsK (Env.full 9) 0 args fun env => evC Try.prog c32 ir32.body env σ (retQ ir32 Q)) : ACalls Try.prog 32 args σ Q :=
  acalls_of Try.func32 ok32 rfl (Nat.le_of_ble_eq_true hl) h
/- lens.isWidth -/
def c46 : Cfg := ⟨qs, [], 9, []⟩
def ir46 : IFun := ⟨1, [.tmp s2],
  (.seq (.reg (.one ⟨some s2, none, (.mv (.c (.v (.bool false))))⟩
    .done))
  (.seq (.reg (.one ⟨some s3, none, (.mv (.t s0))⟩
    (.one ⟨some s4, none, (.bin false .eql (.t s3) (.c (.v (.int .i64 11))))⟩
    (.one ⟨some s5, none, (.mv (.t s4))⟩
    (.one ⟨some s6, some (s5, false), (.mv (.t s0))⟩
    (.one ⟨some s7, some (s5, false), (.bin false .eql (.t s6) (.c (.v (.int .i64 15))))⟩
    (.one ⟨some s8, none, (.pick (.t s5) (.c (.v (.bool true))) (.t s7))⟩
    (.one ⟨some s2, none, (.mv (.t s8))⟩
    .done))))))))
  .ret))⟩
theorem ok46 : compF Try.prog c46 Try.f46 = some ir46 := by kernel_rfl
theorem k_lens_isWidth {args : List AVal} {σ : AHeap} {Q : AVal → AHeap → Prop} (hl : Nat.ble args.length 9 = true) (h : argsK (Env.full 9) 0 args fun env => evC Try.prog c46 ir46.body env σ (retQ ir46 Q)) : ACalls Try.prog 46 args σ Q :=
  acalls_of Try.func46 ok46 rfl (Nat.le_of_ble_eq_true hl) h
/- lens.Size -/
def c47 : Cfg := ⟨qs, [], 23, []⟩
def ir47 : IFun := ⟨2, [.tmp s4],
  (.seq (.reg (.one ⟨some s4, none, (.mv (.c (.v (.int .i64 0))))⟩
    .done))
  (.seq (.seq (.reg (.one ⟨some s5, none, (.mv (.t s1))⟩
    (.one ⟨some s6, none, (.callq 46 [(.t s5)])⟩
    (.one ⟨some s7, none, (.not (.t s6))⟩
    (.one ⟨some s8, none, (.mv (.t s7))⟩
    (.one ⟨some s9, some (s8, false), (.mv (.t s0))⟩
    (.one ⟨some s10, some (s8, false), (.bin false .lss (.t s9) (.c (.v (.int .i64 1))))⟩
    (.one ⟨some s11, none, (.pick (.t s8) (.c (.v (.bool true))) (.t s10))⟩
    (.one ⟨some s12, none, (.mv (.t s11))⟩
    (.one ⟨some s13, some (s12, false), (.mv (.t s0))⟩
    (.one ⟨some s14, some (s12, false), (.bin false .gtr (.t s13) (.c (.v (.int .i64 23))))⟩
    (.one ⟨some s15, none, (.pick (.t s12) (.c (.v (.bool true))) (.t s14))⟩
    .done))))))))))))
  (.cond (.t s15) (.seq (.reg (.one ⟨some s4, none, (.mv (.c (.v (.int .i64 0))))⟩
    .done))
  .ret) .skip))
  (.seq (.reg (.one ⟨some s16, none, (.mv (.t s0))⟩
    (.one ⟨some s17, none, (.mv (.t s1))⟩
    (.one ⟨some s18, none, (.bin false .add (.t s17) (.c (.v (.int .i64 1))))⟩
    (.one ⟨some s19, none, (.bin false .mul (.t s16) (.t s18))⟩
    (.one ⟨some s20, none, (.bin false .add (.t s19) (.c (.v (.int .i64 8))))⟩
    (.one ⟨some s21, none, (.bin false .sub (.t s20) (.c (.v (.int .i64 1))))⟩
    (.one ⟨some s22, none, (.bin false .quo (.t s21) (.c (.v (.int .i64 8))))⟩
    (.one ⟨some s4, none, (.mv (.t s22))⟩
    .done)))))))))
  .ret)))⟩
theorem ok47 : compF Try.prog c47 Try.f47 = some ir47 := by kernel_rfl
theorem k_lens_Size {args : List AVal} {σ : AHeap} {Q : AVal → AHeap → Prop} (hl : Nat.ble args.length 23 = true) (h : argsK (Env.full 9) 0 args fun env => evC Try.prog c47 ir47.body env σ (retQ ir47 Q)) : ACalls Try.prog 47 args σ Q :=
  acalls_of Try.func47 ok47 rfl (Nat.le_of_ble_eq_true hl) h
end Go.Proofs.Ythjjkcmiachpcaa
/-
  How many bytes lengths have.
-/
namespace Go.Proofs.Ythjjkcmiachpcaa
set_option linter.unusedVariables false
set_option linter.unusedSimpArgs false
open Go Go.Am

abbrev ints (t : Tok) (l : List Int) : AVal := .slice 1 (l.map i64v) t
theorem get_ints {l : List Int} {i : Nat} (h : i < l.length) : (l.map i64v)[((i : Nat) : Int).toNat]? = some (i64v l[i]) := by
  rw [Int.toNat_natCast, List.getElem?_map, List.getElem?_eq_getElem h]; rfl

def widthOk (w : Int) : Bool := decide (w = 11) || decide (w = 15)
theorem widthOk_iff {w : Int} : widthOk w = true ↔ w = 11 ∨ w = 15 := by simp [widthOk]
theorem widthNo {w : Int} (h : ¬ (w = 11 ∨ w = 15)) : widthOk w = false := by simp only [← widthOk_iff] at h; simpa using h

def sizeV (n w : Int) : Int := if widthOk w = false ∨ n < 1 ∨ n > 23 then 0 else (n * (w + 1) + 7) / 8

theorem lIsWidth (w : Int) (σ : AHeap) : ACalls Try.prog i_lens_isWidth [i64v w] σ fun v σ' => v = boolv (widthOk w) ∧ σ' = σ := by
  refine k_lens_isWidth rfl ?_
  ((conv => whnf); (repeat ((first | with_reducible refine abr_true rfl ?_ | with_reducible refine abr_false rfl ?_ | with_reducible refine abr_yes rfl ?_ | refine abr_yes (by decide) ?_ | refine abr_no (by decide) ?_ | with_reducible refine abr_same_ne ?_); (conv => whnf))))
  by_cases h : w = 11
  · subst h
    ((conv => whnf); (repeat ((first | with_reducible refine abr_true rfl ?_ | with_reducible refine abr_false rfl ?_ | with_reducible refine abr_yes rfl ?_ | refine abr_yes (by decide) ?_ | refine abr_no (by decide) ?_ | with_reducible refine abr_same_ne ?_); (conv => whnf))))
    exact aret_same ⟨rfl, rfl⟩
  · refine abr_no h ?_
    ((conv => whnf); (repeat ((first | with_reducible refine abr_true rfl ?_ | with_reducible refine abr_false rfl ?_ | with_reducible refine abr_yes rfl ?_ | refine abr_yes (by decide) ?_ | refine abr_no (by decide) ?_ | with_reducible refine abr_same_ne ?_); (conv => whnf))))
    refine aret_same ⟨?_, rfl⟩
    unfold widthOk
    rw [decide_eq_false h, Bool.false_or]

theorem lSize (n w : Int) (σ : AHeap) : ACalls Try.prog i_lens_Size [i64v n, i64v w] σ fun v σ' => v = i64v (sizeV n w) ∧ σ' = σ := by
  refine k_lens_Size rfl ?_
  ((conv => whnf); (repeat ((first | with_reducible refine abr_true rfl ?_ | with_reducible refine abr_false rfl ?_ | with_reducible refine abr_yes rfl ?_ | refine abr_yes (by decide) ?_ | refine abr_no (by decide) ?_ | with_reducible refine abr_same_ne ?_); (conv => whnf))))
  refine acall (lIsWidth w _) ?_
  rintro _ σ_ ⟨rfl, e_⟩
  obtain rfl := e_.symm
  refine ⟨?_, Ext.refl _⟩
  ((conv => whnf); (repeat ((first | with_reducible refine abr_true rfl ?_ | with_reducible refine abr_false rfl ?_ | with_reducible refine abr_yes rfl ?_ | refine abr_yes (by decide) ?_ | refine abr_no (by decide) ?_ | with_reducible refine abr_same_ne ?_); (conv => whnf))))
  by_cases hw : w = 11 ∨ w = 15
  · rw [widthOk_iff.2 hw]
    ((conv => whnf); (repeat ((first | with_reducible refine abr_true rfl ?_ | with_reducible refine abr_false rfl ?_ | with_reducible refine abr_yes rfl ?_ | refine abr_yes (by decide) ?_ | refine abr_no (by decide) ?_ | with_reducible refine abr_same_ne ?_); (conv => whnf))))
    by_cases h1 : n < 1
    · (repeat ((first | refine aload (by (repeat (first | with_reducible exact upd_same _ _ _ | assumption | rw [upd_ne _ _ (by first | assumption | (apply Ne.symm; assumption))]))) rfl ?_ | refine afit_i64 (by omega) ?_ | refine arem_nonneg (by omega) (by omega) ?_ | refine adiv_i64 (by omega) (by omega) ?_ | refine abr_yes (by omega) ?_ | refine abr_no (by omega) ?_ | refine amin ?_ | refine amax ?_ | refine afit_u64 (by omega) ?_ | refine afit_u8 (by omega) ?_ | rw [List.length_map]); ((conv => whnf); (repeat ((first | with_reducible refine abr_true rfl ?_ | with_reducible refine abr_false rfl ?_ | with_reducible refine abr_yes rfl ?_ | refine abr_yes (by decide) ?_ | refine abr_no (by decide) ?_ | with_reducible refine abr_same_ne ?_); (conv => whnf))))))
      exact aret_same ⟨by unfold sizeV; rw [if_pos (.inr (.inl h1))], rfl⟩
    · by_cases h2 : n > 23
      · (repeat ((first | refine aload (by (repeat (first | with_reducible exact upd_same _ _ _ | assumption | rw [upd_ne _ _ (by first | assumption | (apply Ne.symm; assumption))]))) rfl ?_ | refine afit_i64 (by omega) ?_ | refine arem_nonneg (by omega) (by omega) ?_ | refine adiv_i64 (by omega) (by omega) ?_ | refine abr_yes (by omega) ?_ | refine abr_no (by omega) ?_ | refine amin ?_ | refine amax ?_ | refine afit_u64 (by omega) ?_ | refine afit_u8 (by omega) ?_ | rw [List.length_map]); ((conv => whnf); (repeat ((first | with_reducible refine abr_true rfl ?_ | with_reducible refine abr_false rfl ?_ | with_reducible refine abr_yes rfl ?_ | refine abr_yes (by decide) ?_ | refine abr_no (by decide) ?_ | with_reducible refine abr_same_ne ?_); (conv => whnf))))))
        exact aret_same ⟨by unfold sizeV; rw [if_pos (.inr (.inr h2))], rfl⟩
      · (repeat ((first | refine aload (by (repeat (first | with_reducible exact upd_same _ _ _ | assumption | rw [upd_ne _ _ (by first | assumption | (apply Ne.symm; assumption))]))) rfl ?_ | refine afit_i64 (by omega) ?_ | refine arem_nonneg (by omega) (by omega) ?_ | refine adiv_i64 (by omega) (by omega) ?_ | refine abr_yes (by omega) ?_ | refine abr_no (by omega) ?_ | refine amin ?_ | refine amax ?_ | refine afit_u64 (by omega) ?_ | refine afit_u8 (by omega) ?_ | rw [List.length_map]); ((conv => whnf); (repeat ((first | with_reducible refine abr_true rfl ?_ | with_reducible refine abr_false rfl ?_ | with_reducible refine abr_yes rfl ?_ | refine abr_yes (by decide) ?_ | refine abr_no (by decide) ?_ | with_reducible refine abr_same_ne ?_); (conv => whnf))))))
        have e : sizeV n w = (n * (w + 1) + 7) / 8 := by
          unfold sizeV; rw [if_neg]; rw [widthOk_iff.2 hw]
          rintro (h | h | h)
          · cases h
          · exact h1 h
          · exact h2 h
        have hb : 0 ≤ n * (w + 1) ∧ n * (w + 1) ≤ 368 := by
          rcases hw with rfl | rfl <;> omega
        generalize n * (w + 1) = q at hb e
        refine afit_i64 (by omega) ?_
        ((conv => whnf); (repeat ((first | with_reducible refine abr_true rfl ?_ | with_reducible refine abr_false rfl ?_ | with_reducible refine abr_yes rfl ?_ | refine abr_yes (by decide) ?_ | refine abr_no (by decide) ?_ | with_reducible refine abr_same_ne ?_); (conv => whnf))))
        (repeat ((first | refine aload (by (repeat (first | with_reducible exact upd_same _ _ _ | assumption | rw [upd_ne _ _ (by first | assumption | (apply Ne.symm; assumption))]))) rfl ?_ | refine afit_i64 (by omega) ?_ | refine arem_nonneg (by omega) (by omega) ?_ | refine adiv_i64 (by omega) (by omega) ?_ | refine abr_yes (by omega) ?_ | refine abr_no (by omega) ?_ | refine amin ?_ | refine amax ?_ | refine afit_u64 (by omega) ?_ | refine afit_u8 (by omega) ?_ | rw [List.length_map]); ((conv => whnf); (repeat ((first | with_reducible refine abr_true rfl ?_ | with_reducible refine abr_false rfl ?_ | with_reducible refine abr_yes rfl ?_ | refine abr_yes (by decide) ?_ | refine abr_no (by decide) ?_ | with_reducible refine abr_same_ne ?_); (conv => whnf))))))
        refine aret_same ⟨?_, rfl⟩
        rw [e, show q + 8 - 1 = q + 7 by omega]
  · rw [widthNo hw]
    ((conv => whnf); (repeat ((first | with_reducible refine abr_true rfl ?_ | with_reducible refine abr_false rfl ?_ | with_reducible refine abr_yes rfl ?_ | refine abr_yes (by decide) ?_ | refine abr_no (by decide) ?_ | with_reducible refine abr_same_ne ?_); (conv => whnf))))
    exact aret_same ⟨by unfold sizeV; rw [if_pos (.inl (widthNo hw))], rfl⟩

theorem sizeV_range (n w : Int) : 0 ≤ sizeV n w ∧ sizeV n w ≤ 50 := by
  unfold sizeV
  split
  · omega
  · rename_i h
    have hw : w = 11 ∨ w = 15 := by
      refine Classical.byContradiction fun hn => h (.inl (widthNo hn))
    have h1 : ¬ n < 1 := fun k => h (.inr (.inl k))
    have h2 : ¬ n > 23 := fun k => h (.inr (.inr k))
    rcases hw with rfl | rfl <;> omega
end Go.Proofs.Ythjjkcmiachpcaa
/-
  How long fields are: sizes, and what is written.
-/
namespace Go.Proofs.Ythjjkcmiachpcaa
set_option linter.unusedVariables false
set_option linter.unusedSimpArgs false
open Go Go.Am

def badLen (W : Nat) (n : Int) : Bool := decide (n < 1 ∨ n ≥ ((2 ^ W : Nat) : Int))
/-- The bits of the first lengths. -/
def lenBits (l : List Int) (W : Nat) (i : Nat) : List Bool := (List.range i).flatMap fun j => decide (j + 1 < l.length) :: numBits ((l[j]?.getD 0).toNat) W
theorem lenBits_succ (l : List Int) (W i : Nat) : lenBits l W (i + 1) = lenBits l W i ++ (decide (i + 1 < l.length) :: numBits ((l[i]?.getD 0).toNat) W) := by
  unfold lenBits; rw [List.range_succ, List.flatMap_append]; simp
theorem lenBits_length (l : List Int) (W i : Nat) : (lenBits l W i).length = i * (W + 1) := by
  induction i with
  | zero => rw [Nat.zero_mul]; rfl
  | succ i ih => rw [lenBits_succ, List.length_append, ih, List.length_cons, numBits_length, Nat.succ_mul]
def writeCode (l : List Int) (w : Int) : Int := if widthOk w = false then 9 else if l.length = 0 then 4 else if l.length > 23 then 2 else if l.any (badLen w.toNat) = true then 1 else 0
def writeBytes (l : List Int) (w : Int) : List UInt8 := if writeCode l w = 0 then pack (lenBits l w.toNat l.length) else []

theorem shl1_i64 {W : Nat} (h : W = 11 ∨ W = 15) : IntKind.i64.wrap ((1 : Int) * 2 ^ (min ((W : Nat) : Int).toNat IntKind.i64.bits)) = ((2 ^ W : Nat) : Int) := by
  rcases h with rfl | rfl <;> decide
theorem put_bit (bs : List Bool) (b : Bool) (h : bs.length < 65536) : putCode bs.length b.toNat 1 = 0 ∧ putBits bs b.toNat 1 = bs ++ [b] := by
  have hc : putCode bs.length b.toNat 1 = 0 := putCode_fine (by cases b <;> decide) (by omega)
  refine ⟨hc, ?_⟩
  rw [putBits_ok hc]
  cases b <;> rfl
theorem put_num (bs : List Bool) (v W : Nat) (h : bs.length + W ≤ 65536) (hW : W ≤ 64) (hv : v < 2 ^ W) : putCode bs.length v W = 0 ∧ putBits bs v W = bs ++ numBits v W := by
  have hc : putCode bs.length v W = 0 := by
    refine putCode_fine ?_ (by omega)
    unfold putBad
    rw [decide_eq_false (by omega), decide_eq_false (by omega), decide_eq_false]
    · rfl
    · rw [Int.toNat_natCast]; exact fun h => h (Nat.div_eq_of_lt hv)
  exact ⟨hc, putBits_ok hc⟩

set_option maxRecDepth 10000 in
theorem lWrite (l : List Int) (t : Tok) (w : Int) (σ : AHeap) (hl : l.length ≤ 4611686018427387904) : ACalls Try.prog i_lens_Write [ints t l, i64v w] σ fun v σ' => v = .tup [sl .none (writeBytes l w), i64v (writeCode l w)] ∧ σ' = σ := by
  refine k_lens_Write rfl ?_
  ((conv => whnf); (repeat ((first | with_reducible refine abr_true rfl ?_ | with_reducible refine abr_false rfl ?_ | with_reducible refine abr_yes rfl ?_ | refine abr_yes (by decide) ?_ | refine abr_no (by decide) ?_ | with_reducible refine abr_same_ne ?_); (conv => whnf))))
  refine acall (lIsWidth w _) ?_
  rintro _ σ_ ⟨rfl, e_⟩
  obtain rfl := e_.symm
  refine ⟨?_, Ext.refl _⟩
  ((conv => whnf); (repeat ((first | with_reducible refine abr_true rfl ?_ | with_reducible refine abr_false rfl ?_ | with_reducible refine abr_yes rfl ?_ | refine abr_yes (by decide) ?_ | refine abr_no (by decide) ?_ | with_reducible refine abr_same_ne ?_); (conv => whnf))))
  by_cases hw : w = 11 ∨ w = 15
  · have hok := widthOk_iff.2 hw
    obtain ⟨W, rfl⟩ : ∃ W : Nat, w = W := ⟨w.toNat, by omega⟩
    have hW : W = 11 ∨ W = 15 := by omega
    have hp := shl1_i64 hW
    have hpw : 2 ^ W ≤ 32768 := by rcases hW with rfl | rfl <;> decide
    rw [hok]
    ((conv => whnf); (repeat ((first | with_reducible refine abr_true rfl ?_ | with_reducible refine abr_false rfl ?_ | with_reducible refine abr_yes rfl ?_ | refine abr_yes (by decide) ?_ | refine abr_no (by decide) ?_ | with_reducible refine abr_same_ne ?_); (conv => whnf))))
    by_cases h0 : l.length = 0
    · have hc : writeCode l ((W : Nat) : Int) = 4 := by unfold writeCode; rw [hok]; simp [h0]
      (repeat ((first | refine aload (by (repeat (first | with_reducible exact upd_same _ _ _ | assumption | rw [upd_ne _ _ (by first | assumption | (apply Ne.symm; assumption))]))) rfl ?_ | refine afit_i64 (by omega) ?_ | refine arem_nonneg (by omega) (by omega) ?_ | refine adiv_i64 (by omega) (by omega) ?_ | refine abr_yes (by omega) ?_ | refine abr_no (by omega) ?_ | refine amin ?_ | refine amax ?_ | refine afit_u64 (by omega) ?_ | refine afit_u8 (by omega) ?_ | rw [List.length_map]); ((conv => whnf); (repeat ((first | with_reducible refine abr_true rfl ?_ | with_reducible refine abr_false rfl ?_ | with_reducible refine abr_yes rfl ?_ | refine abr_yes (by decide) ?_ | refine abr_no (by decide) ?_ | with_reducible refine abr_same_ne ?_); (conv => whnf))))))
      exact aret VLe.tup_sl (Sub.refl _) ⟨by unfold writeBytes; rw [hc]; rfl, rfl⟩
    · by_cases h23 : l.length > 23
      · have hc : writeCode l ((W : Nat) : Int) = 2 := by unfold writeCode; rw [hok]; simp [h0, h23]
        (repeat ((first | refine aload (by (repeat (first | with_reducible exact upd_same _ _ _ | assumption | rw [upd_ne _ _ (by first | assumption | (apply Ne.symm; assumption))]))) rfl ?_ | refine afit_i64 (by omega) ?_ | refine arem_nonneg (by omega) (by omega) ?_ | refine adiv_i64 (by omega) (by omega) ?_ | refine abr_yes (by omega) ?_ | refine abr_no (by omega) ?_ | refine amin ?_ | refine amax ?_ | refine afit_u64 (by omega) ?_ | refine afit_u8 (by omega) ?_ | rw [List.length_map]); ((conv => whnf); (repeat ((first | with_reducible refine abr_true rfl ?_ | with_reducible refine abr_false rfl ?_ | with_reducible refine abr_yes rfl ?_ | refine abr_yes (by decide) ?_ | refine abr_no (by decide) ?_ | with_reducible refine abr_same_ne ?_); (conv => whnf))))))
        exact aret VLe.tup_sl (Sub.refl _) ⟨by unfold writeBytes; rw [hc]; rfl, rfl⟩
      · (repeat ((first | refine aload (by (repeat (first | with_reducible exact upd_same _ _ _ | assumption | rw [upd_ne _ _ (by first | assumption | (apply Ne.symm; assumption))]))) rfl ?_ | refine afit_i64 (by omega) ?_ | refine arem_nonneg (by omega) (by omega) ?_ | refine adiv_i64 (by omega) (by omega) ?_ | refine abr_yes (by omega) ?_ | refine abr_no (by omega) ?_ | refine amin ?_ | refine amax ?_ | refine afit_u64 (by omega) ?_ | refine afit_u8 (by omega) ?_ | rw [List.length_map]); ((conv => whnf); (repeat ((first | with_reducible refine abr_true rfl ?_ | with_reducible refine abr_false rfl ?_ | with_reducible refine abr_yes rfl ?_ | refine abr_yes (by decide) ?_ | refine abr_no (by decide) ?_ | with_reducible refine abr_same_ne ?_); (conv => whnf))))))
        refine acall (wNew _) ?_
        rintro _ σ1 ⟨id, rfl, w1⟩
        refine ⟨?_, w1.ext⟩
        ((conv => whnf); (repeat ((first | with_reducible refine abr_true rfl ?_ | with_reducible refine abr_false rfl ?_ | with_reducible refine abr_yes rfl ?_ | refine abr_yes (by decide) ?_ | refine abr_no (by decide) ?_ | with_reducible refine abr_same_ne ?_); (conv => whnf))))
        try rw [List.length_map]
        refine aloop (α := Nat × AHeap) (fun x => [(s25, i64v x.1)]) (fun x => x.2) (fun x => x.1 ≤ l.length ∧ Wr x.2 id (lenBits l W x.1) σ ∧ ∀ j (h : j < l.length), j < x.1 → badLen W l[j] = false) (fun x => l.length - x.1) (0, σ1) ⟨Nat.zero_le _, w1, fun _ _ h => by omega⟩ (Sub.refl _) ?_ ?_
        · ((conv => whnf); (repeat ((first | with_reducible refine abr_true rfl ?_ | with_reducible refine abr_false rfl ?_ | with_reducible refine abr_yes rfl ?_ | refine abr_yes (by decide) ?_ | refine abr_no (by decide) ?_ | with_reducible refine abr_same_ne ?_); (conv => whnf))))
          (repeat' first | with_reducible exact EnvLe.refl _ | (refine EnvLe.node ?_ (by first | exact Or.inl rfl | exact Or.inr (Or.inl rfl) | exact Or.inr (Or.inr ⟨nofun, VLe.slice _ _ _⟩)) ?_))
        · rintro ⟨i, σ2⟩ ⟨hi, w2, hgood⟩
          dsimp only at hi w2 hgood ⊢
          have hbl := lenBits_length l W i
          have hbl2 : i * (W + 1) ≤ 23 * 16 := Nat.mul_le_mul (by omega) (by omega)
          by_cases h : i < l.length
          · ((conv => whnf); (repeat ((first | with_reducible refine abr_true rfl ?_ | with_reducible refine abr_false rfl ?_ | with_reducible refine abr_yes rfl ?_ | refine abr_yes (by decide) ?_ | refine abr_no (by decide) ?_ | with_reducible refine abr_same_ne ?_); (conv => whnf))))
            (repeat ((first | refine aload (by (repeat (first | with_reducible exact upd_same _ _ _ | assumption | rw [upd_ne _ _ (by first | assumption | (apply Ne.symm; assumption))]))) rfl ?_ | refine afit_i64 (by omega) ?_ | refine arem_nonneg (by omega) (by omega) ?_ | refine adiv_i64 (by omega) (by omega) ?_ | refine abr_yes (by omega) ?_ | refine abr_no (by omega) ?_ | refine amin ?_ | refine amax ?_ | refine afit_u64 (by omega) ?_ | refine afit_u8 (by omega) ?_ | rw [List.length_map]); ((conv => whnf); (repeat ((first | with_reducible refine abr_true rfl ?_ | with_reducible refine abr_false rfl ?_ | with_reducible refine abr_yes rfl ?_ | refine abr_yes (by decide) ?_ | refine abr_no (by decide) ?_ | with_reducible refine abr_same_ne ?_); (conv => whnf))))))
            refine aget (by omega) (get_ints h) ?_
            ((conv => whnf); (repeat ((first | with_reducible refine abr_true rfl ?_ | with_reducible refine abr_false rfl ?_ | with_reducible refine abr_yes rfl ?_ | refine abr_yes (by decide) ?_ | refine abr_no (by decide) ?_ | with_reducible refine abr_same_ne ?_); (conv => whnf))))
            refine acell rfl ?_
            ((conv => whnf); (repeat ((first | with_reducible refine abr_true rfl ?_ | with_reducible refine abr_false rfl ?_ | with_reducible refine abr_yes rfl ?_ | refine abr_yes (by decide) ?_ | refine abr_no (by decide) ?_ | with_reducible refine abr_same_ne ?_); (conv => whnf))))
            have bad (hbad : badLen W l[i] = true) : writeCode l ((W : Nat) : Int) = 1 := by
              unfold writeCode
              rw [hok, if_neg (by simp), if_neg h0, if_neg h23, if_pos]
              rw [Int.toNat_natCast, List.any_eq_true]
              exact ⟨_, List.getElem_mem h, hbad⟩
            by_cases h1 : l[i] < 1
            · have hc := bad (decide_eq_true (.inl h1))
              (repeat ((first | refine aload (by (repeat (first | with_reducible exact upd_same _ _ _ | assumption | rw [upd_ne _ _ (by first | assumption | (apply Ne.symm; assumption))]))) rfl ?_ | refine afit_i64 (by omega) ?_ | refine arem_nonneg (by omega) (by omega) ?_ | refine adiv_i64 (by omega) (by omega) ?_ | refine abr_yes (by omega) ?_ | refine abr_no (by omega) ?_ | refine amin ?_ | refine amax ?_ | refine afit_u64 (by omega) ?_ | refine afit_u8 (by omega) ?_ | rw [List.length_map]); ((conv => whnf); (repeat ((first | with_reducible refine abr_true rfl ?_ | with_reducible refine abr_false rfl ?_ | with_reducible refine abr_yes rfl ?_ | refine abr_yes (by decide) ?_ | refine abr_no (by decide) ?_ | with_reducible refine abr_same_ne ?_); (conv => whnf))))))
              exact aret VLe.tup_sl w2.sub ⟨by unfold writeBytes; rw [hc]; rfl, rfl⟩
            · refine abr_no h1 ?_
              ((conv => whnf); (repeat ((first | with_reducible refine abr_true rfl ?_ | with_reducible refine abr_false rfl ?_ | with_reducible refine abr_yes rfl ?_ | refine abr_yes (by decide) ?_ | refine abr_no (by decide) ?_ | with_reducible refine abr_same_ne ?_); (conv => whnf))))
              refine ashl_eq (by omega) hp ?_
              ((conv => whnf); (repeat ((first | with_reducible refine abr_true rfl ?_ | with_reducible refine abr_false rfl ?_ | with_reducible refine abr_yes rfl ?_ | refine abr_yes (by decide) ?_ | refine abr_no (by decide) ?_ | with_reducible refine abr_same_ne ?_); (conv => whnf))))
              by_cases h2 : l[i] ≥ ((2 ^ W : Nat) : Int)
              · have hc := bad (decide_eq_true (.inr h2))
                refine abr_yes h2 ?_
                ((conv => whnf); (repeat ((first | with_reducible refine abr_true rfl ?_ | with_reducible refine abr_false rfl ?_ | with_reducible refine abr_yes rfl ?_ | refine abr_yes (by decide) ?_ | refine abr_no (by decide) ?_ | with_reducible refine abr_same_ne ?_); (conv => whnf))))
                exact aret VLe.tup_sl w2.sub ⟨by unfold writeBytes; rw [hc]; rfl, rfl⟩
              · have hg : badLen W l[i] = false := decide_eq_false (by omega)
                refine abr_no h2 ?_
                ((conv => whnf); (repeat ((first | with_reducible refine abr_true rfl ?_ | with_reducible refine abr_false rfl ?_ | with_reducible refine abr_yes rfl ?_ | refine abr_yes (by decide) ?_ | refine abr_no (by decide) ?_ | with_reducible refine abr_same_ne ?_); (conv => whnf))))
                (repeat ((first | refine aload (by (repeat (first | with_reducible exact upd_same _ _ _ | assumption | rw [upd_ne _ _ (by first | assumption | (apply Ne.symm; assumption))]))) rfl ?_ | refine afit_i64 (by omega) ?_ | refine arem_nonneg (by omega) (by omega) ?_ | refine adiv_i64 (by omega) (by omega) ?_ | refine abr_yes (by omega) ?_ | refine abr_no (by omega) ?_ | refine amin ?_ | refine amax ?_ | refine afit_u64 (by omega) ?_ | refine afit_u8 (by omega) ?_ | rw [List.length_map]); ((conv => whnf); (repeat ((first | with_reducible refine abr_true rfl ?_ | with_reducible refine abr_false rfl ?_ | with_reducible refine abr_yes rfl ?_ | refine abr_yes (by decide) ?_ | refine abr_no (by decide) ?_ | with_reducible refine abr_same_ne ?_); (conv => whnf))))))
                have hlt : l[i].toNat < 2 ^ W := by omega
                have hnat : ((l[i].toNat : Nat) : Int) = l[i] := by omega
                have hget : l[i]?.getD 0 = l[i] := by rw [List.getElem?_eq_getElem h]; rfl
                have b1 := put_bit (lenBits l W i) (decide (i + 1 < l.length)) (by omega)
                have b2 := put_num (lenBits l W i ++ [decide (i + 1 < l.length)]) l[i].toNat W (by rw [List.length_append, hbl]; show _ + 1 + W ≤ _; omega) (by omega) hlt
                have next : lenBits l W (i + 1) = lenBits l W i ++ [decide (i + 1 < l.length)] ++ numBits l[i].toNat W := by
                  rw [lenBits_succ, hget]; simp
                have good2 : ∀ j (h : j < l.length), j < i + 1 → badLen W l[j] = false := by
                  intro j hj hji
                  by_cases e : j = i
                  · subst e; exact hg
                  · exact hgood j hj (by omega)
                by_cases hlast : i + 1 < l.length
                all_goals
                  first
                    | rw [decide_eq_true hlast] at b1 b2 next
                    | rw [decide_eq_false hlast] at b1 b2 next
                  first
                    | refine abr_yes (by omega) ?_
                    | refine abr_no (by omega) ?_
                  ((conv => whnf); (repeat ((first | with_reducible refine abr_true rfl ?_ | with_reducible refine abr_false rfl ?_ | with_reducible refine abr_yes rfl ?_ | refine abr_yes (by decide) ?_ | refine abr_no (by decide) ?_ | with_reducible refine abr_same_ne ?_); (conv => whnf))))
                  refine acall (wPut id _ _ 1 _ _ w2 (by decide) (by omega)) ?_
                  rintro _ σ3 ⟨rfl, w3⟩
                  first
                    | rw [show putBits (lenBits l W i) 1 1 = _ from b1.2] at w3
                    | rw [show putBits (lenBits l W i) 0 1 = _ from b1.2] at w3
                  ((conv => whnf); (repeat ((first | with_reducible refine abr_true rfl ?_ | with_reducible refine abr_false rfl ?_ | with_reducible refine abr_yes rfl ?_ | refine abr_yes (by decide) ?_ | refine abr_no (by decide) ?_ | with_reducible refine abr_same_ne ?_); (conv => whnf))))
                  refine afit_eq (m := ((l[i].toNat : Nat) : Int)) (by rw [← hnat]; exact wrap_u64 (by omega) (by omega)) ?_
                  ((conv => whnf); (repeat ((first | with_reducible refine abr_true rfl ?_ | with_reducible refine abr_false rfl ?_ | with_reducible refine abr_yes rfl ?_ | refine abr_yes (by decide) ?_ | refine abr_no (by decide) ?_ | with_reducible refine abr_same_ne ?_); (conv => whnf))))
                  refine acall (wPut id _ l[i].toNat _ _ _ w3 (by omega) (by rw [List.length_append, hbl]; show _ + 1 ≤ _; omega)) ?_
                  rintro _ σ4 ⟨rfl, w4⟩
                  rw [b2.2, ← next] at w4
                  ((conv => whnf); (repeat ((first | with_reducible refine abr_true rfl ?_ | with_reducible refine abr_false rfl ?_ | with_reducible refine abr_yes rfl ?_ | refine abr_yes (by decide) ?_ | refine abr_no (by decide) ?_ | with_reducible refine abr_same_ne ?_); (conv => whnf))))
                  (repeat ((first | refine aload (by (repeat (first | with_reducible exact upd_same _ _ _ | assumption | rw [upd_ne _ _ (by first | assumption | (apply Ne.symm; assumption))]))) rfl ?_ | refine afit_i64 (by omega) ?_ | refine arem_nonneg (by omega) (by omega) ?_ | refine adiv_i64 (by omega) (by omega) ?_ | refine abr_yes (by omega) ?_ | refine abr_no (by omega) ?_ | refine amin ?_ | refine amax ?_ | refine afit_u64 (by omega) ?_ | refine afit_u8 (by omega) ?_ | rw [List.length_map]); ((conv => whnf); (repeat ((first | with_reducible refine abr_true rfl ?_ | with_reducible refine abr_false rfl ?_ | with_reducible refine abr_yes rfl ?_ | refine abr_yes (by decide) ?_ | refine abr_no (by decide) ?_ | with_reducible refine abr_same_ne ?_); (conv => whnf))))))
                  refine ⟨(i + 1, σ4), ⟨by dsimp only; omega, w4, good2⟩, by dsimp only; omega, Sub.refl _, ?_⟩
                  ((conv => whnf); (repeat ((first | with_reducible refine abr_true rfl ?_ | with_reducible refine abr_false rfl ?_ | with_reducible refine abr_yes rfl ?_ | refine abr_yes (by decide) ?_ | refine abr_no (by decide) ?_ | with_reducible refine abr_same_ne ?_); (conv => whnf))))
                  (repeat' first | with_reducible exact EnvLe.refl _ | (refine EnvLe.node ?_ (by first | exact Or.inl rfl | exact Or.inr (Or.inl rfl) | exact Or.inr (Or.inr ⟨nofun, VLe.slice _ _ _⟩)) ?_))
          · have hil : i = l.length := by omega
            have hc : writeCode l ((W : Nat) : Int) = 0 := by
              unfold writeCode
              rw [hok, if_neg (by simp), if_neg h0, if_neg h23, if_neg]
              rw [Int.toNat_natCast, List.any_eq_true]
              rintro ⟨x, hx, hb⟩
              obtain ⟨j, hj, rfl⟩ := List.getElem_of_mem hx
              rw [hgood j hj (by omega)] at hb; cases hb
            ((conv => whnf); (repeat ((first | with_reducible refine abr_true rfl ?_ | with_reducible refine abr_false rfl ?_ | with_reducible refine abr_yes rfl ?_ | refine abr_yes (by decide) ?_ | refine abr_no (by decide) ?_ | with_reducible refine abr_same_ne ?_); (conv => whnf))))
            (repeat ((first | refine aload (by (repeat (first | with_reducible exact upd_same _ _ _ | assumption | rw [upd_ne _ _ (by first | assumption | (apply Ne.symm; assumption))]))) rfl ?_ | refine afit_i64 (by omega) ?_ | refine arem_nonneg (by omega) (by omega) ?_ | refine adiv_i64 (by omega) (by omega) ?_ | refine abr_yes (by omega) ?_ | refine abr_no (by omega) ?_ | refine amin ?_ | refine amax ?_ | refine afit_u64 (by omega) ?_ | refine afit_u8 (by omega) ?_ | rw [List.length_map]); ((conv => whnf); (repeat ((first | with_reducible refine abr_true rfl ?_ | with_reducible refine abr_false rfl ?_ | with_reducible refine abr_yes rfl ?_ | refine abr_yes (by decide) ?_ | refine abr_no (by decide) ?_ | with_reducible refine abr_same_ne ?_); (conv => whnf))))))
            refine acall (wBytes id _ _ _ w2 (by omega)) ?_
            rintro _ σ_ ⟨rfl, e_⟩
            obtain rfl := e_.symm
            refine ⟨?_, Ext.refl _⟩
            ((conv => whnf); (repeat ((first | with_reducible refine abr_true rfl ?_ | with_reducible refine abr_false rfl ?_ | with_reducible refine abr_yes rfl ?_ | refine abr_yes (by decide) ?_ | refine abr_no (by decide) ?_ | with_reducible refine abr_same_ne ?_); (conv => whnf))))
            exact aret VLe.tup_sl w2.sub ⟨by unfold writeBytes; rw [hc, if_pos rfl, Int.toNat_natCast, hil], rfl⟩
  · have hno := widthNo hw
    have hc : writeCode l w = 9 := by unfold writeCode; rw [if_pos hno]
    rw [hno]
    ((conv => whnf); (repeat ((first | with_reducible refine abr_true rfl ?_ | with_reducible refine abr_false rfl ?_ | with_reducible refine abr_yes rfl ?_ | refine abr_yes (by decide) ?_ | refine abr_no (by decide) ?_ | with_reducible refine abr_same_ne ?_); (conv => whnf))))
    exact aret VLe.tup_sl (Sub.refl _) ⟨by unfold writeBytes; rw [hc]; rfl, rfl⟩
end Go.Proofs.Ythjjkcmiachpcaa
/-
  The bodies of one package, compiled to the framework's language (printed by a program of this session).
-/
namespace Go.Proofs.Ythjjkcmiachpcaa
set_option linter.unusedVariables false
set_option linter.unusedSimpArgs false
open Go Go.Am
/- seqnum.Space).Is -/
def c35 : Cfg := ⟨qs, [], 13, []⟩
def ir35 : IFun := ⟨2, [.tmp s4],
  (.seq (.reg (.one ⟨some s2, none, (.box 1 (.t s0))⟩
    (.one ⟨some s4, none, (.mv (.c (.v (.bool false))))⟩
    .done)))
  (.seq (.reg (.one ⟨some s5, none, (.mv (.t s1))⟩
    (.one ⟨some s6, none, (.bin false .geq (.t s5) (.c (.v (.int .i64 0))))⟩
    (.one ⟨some s7, none, (.mv (.t s6))⟩
    (.one ⟨some s8, some (s7, true), (.mv (.t s1))⟩
    (.one ⟨some s9, some (s7, true), (.load (some 1) (.t s2))⟩
    (.one ⟨some s10, some (s7, true), (.callq 52 [(.t s9)])⟩
    (.one ⟨some s11, some (s7, true), (.bin false .lss (.t s8) (.t s10))⟩
    (.one ⟨some s12, none, (.pick (.t s7) (.t s11) (.c (.v (.bool false))))⟩
    (.one ⟨some s4, none, (.mv (.t s12))⟩
    .done))))))))))
  .ret))⟩
theorem ok35 : compF Try.prog c35 Try.f35 = some ir35 := by kernel_rfl
theorem k_seqnum_Space_Is {args : List AVal} {σ : AHeap} {Q : AVal → AHeap → Prop} (hl : Nat.ble args.length 13 = true) (h : argsK (Env.full 9) 0 args fun env => evC Try.prog c35 ir35.body env σ (retQ ir35 Q)) : ACalls Try.prog 35 args σ Q :=
  acalls_of Try.func35 ok35 rfl (Nat.le_of_ble_eq_true hl) h
/- seqnum.Space).Size -/
def c52 : Cfg := ⟨qs, [], 9, []⟩
def ir52 : IFun := ⟨1, [.tmp s2],
  (.seq (.reg (.one ⟨some s1, none, (.box 1 (.t s0))⟩
    (.one ⟨some s2, none, (.mv (.c (.v (.int .i64 0))))⟩
    .done)))
  (.seq (.seq (.reg (.one ⟨some s3, none, (.load (some 1) (.t s1))⟩
    (.one ⟨some s4, none, (.callq 57 [(.t s3)])⟩
    (.one ⟨some s5, none, (.not (.t s4))⟩
    .done))))
  (.cond (.t s5) (.seq (.reg (.one ⟨some s2, none, (.mv (.c (.v (.int .i64 0))))⟩
    .done))
  .ret) .skip))
  (.seq (.reg (.one ⟨some s6, none, (.faddr 0 (.t s1))⟩
    (.one ⟨some s7, none, (.load none (.t s6))⟩
    (.one ⟨some s8, none, (.bin false .shl (.c (.v (.int .i64 1))) (.t s7))⟩
    (.one ⟨some s2, none, (.mv (.t s8))⟩
    .done)))))
  .ret)))⟩
theorem ok52 : compF Try.prog c52 Try.f52 = some ir52 := by kernel_rfl
theorem k_seqnum_Space_Size {args : List AVal} {σ : AHeap} {Q : AVal → AHeap → Prop} (hl : Nat.ble args.length 9 = true) (h : argsK (Env.full 9) 0 args fun env => evC Try.prog c52 ir52.body env σ (retQ ir52 Q)) : ACalls Try.prog 52 args σ Q :=
  acalls_of Try.func52 ok52 rfl (Nat.le_of_ble_eq_true hl) h
/- seqnum.Right -/
def c57 : Cfg := ⟨qs, [], 16, []⟩
def ir57 : IFun := ⟨1, [.tmp s2],
  (.seq (.reg (.one ⟨some s1, none, (.box 1 (.t s0))⟩
    (.one ⟨some s2, none, (.mv (.c (.v (.bool false))))⟩
    .done)))
  (.seq (.reg (.one ⟨some s3, none, (.load (some 1) (.t s1))⟩
    (.one ⟨some s4, none, (.build [(.v (.int .i64 0))] [])⟩
    (.one ⟨some s5, none, (.eqAgg true [false] (.t s3) (.t s4))⟩
    (.one ⟨some s6, none, (.mv (.t s5))⟩
    (.one ⟨some s7, some (s6, true), (.faddr 0 (.t s1))⟩
    (.one ⟨some s8, some (s6, true), (.load none (.t s7))⟩
    (.one ⟨some s9, some (s6, true), (.bin false .geq (.t s8) (.c (.v (.int .i64 1))))⟩
    (.one ⟨some s10, none, (.pick (.t s6) (.t s9) (.c (.v (.bool false))))⟩
    (.one ⟨some s11, none, (.mv (.t s10))⟩
    (.one ⟨some s12, some (s11, true), (.faddr 0 (.t s1))⟩
    (.one ⟨some s13, some (s11, true), (.load none (.t s12))⟩
    (.one ⟨some s14, some (s11, true), (.bin false .leq (.t s13) (.c (.v (.int .i64 16))))⟩
    (.one ⟨some s15, none, (.pick (.t s11) (.t s14) (.c (.v (.bool false))))⟩
    (.one ⟨some s2, none, (.mv (.t s15))⟩
    .done)))))))))))))))
  .ret))⟩
theorem ok57 : compF Try.prog c57 Try.f57 = some ir57 := by kernel_rfl
theorem k_seqnum_Right {args : List AVal} {σ : AHeap} {Q : AVal → AHeap → Prop} (hl : Nat.ble args.length 16 = true) (h : argsK (Env.full 9) 0 args fun env => evC Try.prog c57 ir57.body env σ (retQ ir57 Q)) : ACalls Try.prog 57 args σ Q :=
  acalls_of Try.func57 ok57 rfl (Nat.le_of_ble_eq_true hl) h
end Go.Proofs.Ythjjkcmiachpcaa
/-
  The bodies of one package, compiled to the framework's language (printed by a program of this session).
-/
namespace Go.Proofs.Ythjjkcmiachpcaa
set_option linter.unusedVariables false
set_option linter.unusedSimpArgs false
open Go Go.Am
/- bowlineref02.Is -/
def c37 : Cfg := ⟨qs, [], 13, []⟩
def ir37 : IFun := ⟨2, [.tmp s4],
  (.seq (.reg (.one ⟨some s4, none, (.mv (.c (.v (.bool false))))⟩
    .done))
  (.seq (.reg (.one ⟨some s5, none, (.mv (.t s1))⟩
    (.one ⟨some s6, none, (.bin false .geq (.t s5) (.c (.v (.int .i64 0))))⟩
    (.one ⟨some s7, none, (.mv (.t s6))⟩
    (.one ⟨some s8, some (s7, true), (.mv (.t s1))⟩
    (.one ⟨some s9, some (s7, true), (.mv (.t s0))⟩
    (.one ⟨some s10, some (s7, true), (.callq 53 [(.t s9)])⟩
    (.one ⟨some s11, some (s7, true), (.bin false .lss (.t s8) (.t s10))⟩
    (.one ⟨some s12, none, (.pick (.t s7) (.t s11) (.c (.v (.bool false))))⟩
    (.one ⟨some s4, none, (.mv (.t s12))⟩
    .done))))))))))
  .ret))⟩
theorem ok37 : compF Try.prog c37 Try.f37 = some ir37 := by kernel_rfl
theorem k_bowlineref02_Is {args : List AVal} {σ : AHeap} {Q : AVal → AHeap → Prop} (hl : Nat.ble args.length 13 = true) (h : argsK (Env.full 9) 0 args fun env => evC Try.prog c37 ir37.body env σ (retQ ir37 Q)) : ACalls Try.prog 37 args σ Q :=
  acalls_of Try.func37 ok37 rfl (Nat.le_of_ble_eq_true hl) h
/- bowlineref02.Size -/
def c53 : Cfg := ⟨qs, [], 19, []⟩
def ir53 : IFun := ⟨1, [.tmp s2],
  (.seq (.reg (.one ⟨some s2, none, (.mv (.c (.v (.int .i64 0))))⟩
    .done))
  (.seq (.seq (.reg (.one ⟨some s5, none, (.mv (.t s0))⟩
    (.one ⟨some s6, none, (.bin false .lss (.t s5) (.c (.v (.int .i64 1))))⟩
    (.one ⟨some s7, none, (.mv (.t s6))⟩
    (.one ⟨some s8, some (s7, false), (.mv (.t s0))⟩
    (.one ⟨some s9, some (s7, false), (.bin false .gtr (.t s8) (.c (.v (.int .i64 16))))⟩
    (.one ⟨some s10, none, (.pick (.t s7) (.c (.v (.bool true))) (.t s9))⟩
    .done)))))))
  (.cond (.t s10) (.seq (.reg (.one ⟨some s2, none, (.mv (.c (.v (.int .i64 0))))⟩
    .done))
  .ret) .skip))
  (.seq (.reg (.one ⟨some s3, none, (.mv (.c (.v (.int .i64 1))))⟩
    .done))
  (.seq (.seq (.reg (.one ⟨some s4, none, (.mv (.c (.v (.int .i64 0))))⟩
    .done))
  (.block 0 (.loop (.seq (.seq (.reg (.one ⟨some s11, none, (.mv (.t s4))⟩
    (.one ⟨some s12, none, (.mv (.t s0))⟩
    (.one ⟨some s13, none, (.bin false .lss (.t s11) (.t s12))⟩
    .done))))
  (.cond (.t s13) .skip (.exit 0)))
  (.seq (.block 1 (.reg (.one ⟨some s16, none, (.mv (.t s3))⟩
    (.one ⟨some s17, none, (.bin false .mul (.c (.v (.int .i64 2))) (.t s16))⟩
    (.one ⟨some s3, none, (.mv (.t s17))⟩
    .done)))))
  (.reg (.one ⟨some s14, none, (.mv (.t s4))⟩
    (.one ⟨some s15, none, (.bin false .add (.t s14) (.c (.v (.int .i64 1))))⟩
    (.one ⟨some s4, none, (.mv (.t s15))⟩
    .done)))))))))
  (.seq (.reg (.one ⟨some s18, none, (.mv (.t s3))⟩
    (.one ⟨some s2, none, (.mv (.t s18))⟩
    .done)))
  .ret)))))⟩
theorem ok53 : compF Try.prog c53 Try.f53 = some ir53 := by kernel_rfl
theorem k_bowlineref02_Size {args : List AVal} {σ : AHeap} {Q : AVal → AHeap → Prop} (hl : Nat.ble args.length 19 = true) (h : argsK (Env.full 9) 0 args fun env => evC Try.prog c53 ir53.body env σ (retQ ir53 Q)) : ACalls Try.prog 53 args σ Q :=
  acalls_of Try.func53 ok53 rfl (Nat.le_of_ble_eq_true hl) h
end Go.Proofs.Ythjjkcmiachpcaa
/-
  Numbers that (repeat ((first | refine aload (by (repeat (first | with_reducible exact upd_same _ _ _ | assumption | rw [upd_ne _ _ (by first | assumption | (apply Ne.symm; assumption))]))) rfl ?_ | refine afit_i64 (by omega) ?_ | refine arem_nonneg (by omega) (by omega) ?_ | refine adiv_i64 (by omega) (by omega) ?_ | refine abr_yes (by omega) ?_ | refine abr_no (by omega) ?_ | refine amin ?_ | refine amax ?_ | refine afit_u64 (by omega) ?_ | refine afit_u8 (by omega) ?_ | rw [List.length_map]); ((conv => whnf); (repeat ((first | with_reducible refine abr_true rfl ?_ | with_reducible refine abr_false rfl ?_ | with_reducible refine abr_yes rfl ?_ | refine abr_yes (by decide) ?_ | refine abr_no (by decide) ?_ | with_reducible refine abr_same_ne ?_); (conv => whnf)))))) round: which they are.
-/
namespace Go.Proofs.Ythjjkcmiachpcaa
set_option linter.unusedVariables false
set_option linter.unusedSimpArgs false
open Go Go.Am

def spaceOk (w : Int) : Prop := 1 ≤ w ∧ w ≤ 16
instance (w : Int) : Decidable (spaceOk w) := by unfold spaceOk; infer_instance
def spaceSize (w : Int) : Int := if spaceOk w then ((2 ^ w.toNat : Nat) : Int) else 0
def isNum (w n : Int) : Bool := decide (0 ≤ n ∧ n < spaceSize w)
theorem spaceSize_le (w : Int) : 0 ≤ spaceSize w ∧ spaceSize w ≤ 65536 := by
  unfold spaceSize
  split
  · rename_i h
    have h1 : 2 ^ w.toNat ≤ 2 ^ 16 := Nat.pow_le_pow_right (by omega) (by unfold spaceOk at h; omega)
    generalize 2 ^ w.toNat = q at *
    omega
  · omega
theorem shl1_nat {w : Nat} (h : w ≤ 62) : IntKind.i64.wrap ((1 : Int) * 2 ^ (min ((w : Nat) : Int).toNat IntKind.i64.bits)) = ((2 ^ w : Nat) : Int) := by
  have h1 : 2 ^ w ≤ 2 ^ 62 := Nat.pow_le_pow_right (by omega) h
  rw [Int.toNat_natCast, Nat.min_eq_left (show w ≤ IntKind.i64.bits by show w ≤ 64; omega), Int.one_mul]
  have e : (2 : Int) ^ w = ((2 ^ w : Nat) : Int) := by simp
  rw [e]
  generalize 2 ^ w = q at *
  exact wrap_i64 (by omega) (by omega)

theorem sqRight (w : Int) (σ : AHeap) : ACalls Try.prog i_seqnum_Right [.agg [i64v w]] σ fun v σ' => v = boolv (decide (spaceOk w)) ∧ σ' = σ := by
  refine k_seqnum_Right rfl ?_
  ((conv => whnf); (repeat ((first | with_reducible refine abr_true rfl ?_ | with_reducible refine abr_false rfl ?_ | with_reducible refine abr_yes rfl ?_ | refine abr_yes (by decide) ?_ | refine abr_no (by decide) ?_ | with_reducible refine abr_same_ne ?_); (conv => whnf))))
  refine anew rfl fun id hid => ?_
  ((conv => whnf); (repeat ((first | with_reducible refine abr_true rfl ?_ | with_reducible refine abr_false rfl ?_ | with_reducible refine abr_yes rfl ?_ | refine abr_yes (by decide) ?_ | refine abr_no (by decide) ?_ | with_reducible refine abr_same_ne ?_); (conv => whnf))))
  refine aloads (l := [i64v w]) (upd_same _ _ _) (by exact Nat.le_refl 1) rfl ?_
  ((conv => whnf); (repeat ((first | with_reducible refine abr_true rfl ?_ | with_reducible refine abr_false rfl ?_ | with_reducible refine abr_yes rfl ?_ | refine abr_yes (by decide) ?_ | refine abr_no (by decide) ?_ | with_reducible refine abr_same_ne ?_); (conv => whnf))))
  have hs : Sub (upd σ id (.cells (AVal.agg [i64v w]).cells)) σ := Sub.upd_fresh _ hid
  by_cases h0 : w = 0
  · subst h0
    ((conv => whnf); (repeat ((first | with_reducible refine abr_true rfl ?_ | with_reducible refine abr_false rfl ?_ | with_reducible refine abr_yes rfl ?_ | refine abr_yes (by decide) ?_ | refine abr_no (by decide) ?_ | with_reducible refine abr_same_ne ?_); (conv => whnf))))
    exact aret (VLe.refl _) hs ⟨rfl, rfl⟩
  · refine abr_true (by rw [decide_eq_false h0]; rfl) ?_
    ((conv => whnf); (repeat ((first | with_reducible refine abr_true rfl ?_ | with_reducible refine abr_false rfl ?_ | with_reducible refine abr_yes rfl ?_ | refine abr_yes (by decide) ?_ | refine abr_no (by decide) ?_ | with_reducible refine abr_same_ne ?_); (conv => whnf))))
    (repeat ((first | refine aload (by (repeat (first | with_reducible exact upd_same _ _ _ | assumption | rw [upd_ne _ _ (by first | assumption | (apply Ne.symm; assumption))]))) rfl ?_ | refine afit_i64 (by omega) ?_ | refine arem_nonneg (by omega) (by omega) ?_ | refine adiv_i64 (by omega) (by omega) ?_ | refine abr_yes (by omega) ?_ | refine abr_no (by omega) ?_ | refine amin ?_ | refine amax ?_ | refine afit_u64 (by omega) ?_ | refine afit_u8 (by omega) ?_ | rw [List.length_map]); ((conv => whnf); (repeat ((first | with_reducible refine abr_true rfl ?_ | with_reducible refine abr_false rfl ?_ | with_reducible refine abr_yes rfl ?_ | refine abr_yes (by decide) ?_ | refine abr_no (by decide) ?_ | with_reducible refine abr_same_ne ?_); (conv => whnf))))))
    by_cases h1 : 1 ≤ w
    · (repeat ((first | refine aload (by (repeat (first | with_reducible exact upd_same _ _ _ | assumption | rw [upd_ne _ _ (by first | assumption | (apply Ne.symm; assumption))]))) rfl ?_ | refine afit_i64 (by omega) ?_ | refine arem_nonneg (by omega) (by omega) ?_ | refine adiv_i64 (by omega) (by omega) ?_ | refine abr_yes (by omega) ?_ | refine abr_no (by omega) ?_ | refine amin ?_ | refine amax ?_ | refine afit_u64 (by omega) ?_ | refine afit_u8 (by omega) ?_ | rw [List.length_map]); ((conv => whnf); (repeat ((first | with_reducible refine abr_true rfl ?_ | with_reducible refine abr_false rfl ?_ | with_reducible refine abr_yes rfl ?_ | refine abr_yes (by decide) ?_ | refine abr_no (by decide) ?_ | with_reducible refine abr_same_ne ?_); (conv => whnf))))))
      exact aret (VLe.refl _) hs ⟨congrArg boolv (dec_congr ⟨fun h => ⟨h1, h⟩, fun h => h.2⟩), rfl⟩
    · (repeat ((first | refine aload (by (repeat (first | with_reducible exact upd_same _ _ _ | assumption | rw [upd_ne _ _ (by first | assumption | (apply Ne.symm; assumption))]))) rfl ?_ | refine afit_i64 (by omega) ?_ | refine arem_nonneg (by omega) (by omega) ?_ | refine adiv_i64 (by omega) (by omega) ?_ | refine abr_yes (by omega) ?_ | refine abr_no (by omega) ?_ | refine amin ?_ | refine amax ?_ | refine afit_u64 (by omega) ?_ | refine afit_u8 (by omega) ?_ | rw [List.length_map]); ((conv => whnf); (repeat ((first | with_reducible refine abr_true rfl ?_ | with_reducible refine abr_false rfl ?_ | with_reducible refine abr_yes rfl ?_ | refine abr_yes (by decide) ?_ | refine abr_no (by decide) ?_ | with_reducible refine abr_same_ne ?_); (conv => whnf))))))
      exact aret (VLe.refl _) hs ⟨congrArg boolv (decide_eq_false fun h => h1 h.1).symm, rfl⟩

theorem sqSize (w : Int) (σ : AHeap) : ACalls Try.prog i_seqnum_Space_Size [.agg [i64v w]] σ fun v σ' => v = i64v (spaceSize w) ∧ σ' = σ := by
  refine k_seqnum_Space_Size rfl ?_
  ((conv => whnf); (repeat ((first | with_reducible refine abr_true rfl ?_ | with_reducible refine abr_false rfl ?_ | with_reducible refine abr_yes rfl ?_ | refine abr_yes (by decide) ?_ | refine abr_no (by decide) ?_ | with_reducible refine abr_same_ne ?_); (conv => whnf))))
  refine anew rfl fun id hid => ?_
  ((conv => whnf); (repeat ((first | with_reducible refine abr_true rfl ?_ | with_reducible refine abr_false rfl ?_ | with_reducible refine abr_yes rfl ?_ | refine abr_yes (by decide) ?_ | refine abr_no (by decide) ?_ | with_reducible refine abr_same_ne ?_); (conv => whnf))))
  refine aloads (l := [i64v w]) (upd_same _ _ _) (by exact Nat.le_refl 1) rfl ?_
  ((conv => whnf); (repeat ((first | with_reducible refine abr_true rfl ?_ | with_reducible refine abr_false rfl ?_ | with_reducible refine abr_yes rfl ?_ | refine abr_yes (by decide) ?_ | refine abr_no (by decide) ?_ | with_reducible refine abr_same_ne ?_); (conv => whnf))))
  have hs : Sub (upd σ id (.cells (AVal.agg [i64v w]).cells)) σ := Sub.upd_fresh _ hid
  refine acall (sqRight w _) ?_
  rintro _ σ_ ⟨rfl, e_⟩
  obtain rfl := e_.symm
  refine ⟨?_, Ext.refl _⟩
  ((conv => whnf); (repeat ((first | with_reducible refine abr_true rfl ?_ | with_reducible refine abr_false rfl ?_ | with_reducible refine abr_yes rfl ?_ | refine abr_yes (by decide) ?_ | refine abr_no (by decide) ?_ | with_reducible refine abr_same_ne ?_); (conv => whnf))))
  by_cases h : spaceOk w
  · obtain ⟨k, rfl⟩ : ∃ k : Nat, w = k := ⟨w.toNat, by unfold spaceOk at h; omega⟩
    refine abr_false (by rw [decide_eq_true h]; rfl) ?_
    ((conv => whnf); (repeat ((first | with_reducible refine abr_true rfl ?_ | with_reducible refine abr_false rfl ?_ | with_reducible refine abr_yes rfl ?_ | refine abr_yes (by decide) ?_ | refine abr_no (by decide) ?_ | with_reducible refine abr_same_ne ?_); (conv => whnf))))
    (repeat ((first | refine aload (by (repeat (first | with_reducible exact upd_same _ _ _ | assumption | rw [upd_ne _ _ (by first | assumption | (apply Ne.symm; assumption))]))) rfl ?_ | refine afit_i64 (by omega) ?_ | refine arem_nonneg (by omega) (by omega) ?_ | refine adiv_i64 (by omega) (by omega) ?_ | refine abr_yes (by omega) ?_ | refine abr_no (by omega) ?_ | refine amin ?_ | refine amax ?_ | refine afit_u64 (by omega) ?_ | refine afit_u8 (by omega) ?_ | rw [List.length_map]); ((conv => whnf); (repeat ((first | with_reducible refine abr_true rfl ?_ | with_reducible refine abr_false rfl ?_ | with_reducible refine abr_yes rfl ?_ | refine abr_yes (by decide) ?_ | refine abr_no (by decide) ?_ | with_reducible refine abr_same_ne ?_); (conv => whnf))))))
    refine ashl_eq (by omega) (shl1_nat (by unfold spaceOk at h; omega)) ?_
    ((conv => whnf); (repeat ((first | with_reducible refine abr_true rfl ?_ | with_reducible refine abr_false rfl ?_ | with_reducible refine abr_yes rfl ?_ | refine abr_yes (by decide) ?_ | refine abr_no (by decide) ?_ | with_reducible refine abr_same_ne ?_); (conv => whnf))))
    exact aret (VLe.refl _) hs ⟨by unfold spaceSize; rw [if_pos h, Int.toNat_natCast], rfl⟩
  · refine abr_true (by rw [decide_eq_false h]; rfl) ?_
    ((conv => whnf); (repeat ((first | with_reducible refine abr_true rfl ?_ | with_reducible refine abr_false rfl ?_ | with_reducible refine abr_yes rfl ?_ | refine abr_yes (by decide) ?_ | refine abr_no (by decide) ?_ | with_reducible refine abr_same_ne ?_); (conv => whnf))))
    exact aret (VLe.refl _) hs ⟨by unfold spaceSize; rw [if_neg h], rfl⟩

theorem sqIs (w n : Int) (σ : AHeap) : ACalls Try.prog i_seqnum_Space_Is [.agg [i64v w], i64v n] σ fun v σ' => v = boolv (isNum w n) ∧ σ' = σ := by
  refine k_seqnum_Space_Is rfl ?_
  ((conv => whnf); (repeat ((first | with_reducible refine abr_true rfl ?_ | with_reducible refine abr_false rfl ?_ | with_reducible refine abr_yes rfl ?_ | refine abr_yes (by decide) ?_ | refine abr_no (by decide) ?_ | with_reducible refine abr_same_ne ?_); (conv => whnf))))
  refine anew rfl fun id hid => ?_
  have hs : Sub (upd σ id (.cells (AVal.agg [i64v w]).cells)) σ := Sub.upd_fresh _ hid
  ((conv => whnf); (repeat ((first | with_reducible refine abr_true rfl ?_ | with_reducible refine abr_false rfl ?_ | with_reducible refine abr_yes rfl ?_ | refine abr_yes (by decide) ?_ | refine abr_no (by decide) ?_ | with_reducible refine abr_same_ne ?_); (conv => whnf))))
  by_cases h : 0 ≤ n
  · (repeat ((first | refine aload (by (repeat (first | with_reducible exact upd_same _ _ _ | assumption | rw [upd_ne _ _ (by first | assumption | (apply Ne.symm; assumption))]))) rfl ?_ | refine afit_i64 (by omega) ?_ | refine arem_nonneg (by omega) (by omega) ?_ | refine adiv_i64 (by omega) (by omega) ?_ | refine abr_yes (by omega) ?_ | refine abr_no (by omega) ?_ | refine amin ?_ | refine amax ?_ | refine afit_u64 (by omega) ?_ | refine afit_u8 (by omega) ?_ | rw [List.length_map]); ((conv => whnf); (repeat ((first | with_reducible refine abr_true rfl ?_ | with_reducible refine abr_false rfl ?_ | with_reducible refine abr_yes rfl ?_ | refine abr_yes (by decide) ?_ | refine abr_no (by decide) ?_ | with_reducible refine abr_same_ne ?_); (conv => whnf))))))
    refine aloads (l := [i64v w]) (upd_same _ _ _) (by exact Nat.le_refl 1) rfl ?_
    ((conv => whnf); (repeat ((first | with_reducible refine abr_true rfl ?_ | with_reducible refine abr_false rfl ?_ | with_reducible refine abr_yes rfl ?_ | refine abr_yes (by decide) ?_ | refine abr_no (by decide) ?_ | with_reducible refine abr_same_ne ?_); (conv => whnf))))
    refine acall (sqSize w _) ?_
    rintro _ σ_ ⟨rfl, e_⟩
    obtain rfl := e_.symm
    refine ⟨?_, Ext.refl _⟩
    ((conv => whnf); (repeat ((first | with_reducible refine abr_true rfl ?_ | with_reducible refine abr_false rfl ?_ | with_reducible refine abr_yes rfl ?_ | refine abr_yes (by decide) ?_ | refine abr_no (by decide) ?_ | with_reducible refine abr_same_ne ?_); (conv => whnf))))
    exact aret (VLe.refl _) hs ⟨congrArg boolv (dec_congr ⟨fun h2 => ⟨h, h2⟩, fun h2 => h2.2⟩), rfl⟩
  · (repeat ((first | refine aload (by (repeat (first | with_reducible exact upd_same _ _ _ | assumption | rw [upd_ne _ _ (by first | assumption | (apply Ne.symm; assumption))]))) rfl ?_ | refine afit_i64 (by omega) ?_ | refine arem_nonneg (by omega) (by omega) ?_ | refine adiv_i64 (by omega) (by omega) ?_ | refine abr_yes (by omega) ?_ | refine abr_no (by omega) ?_ | refine amin ?_ | refine amax ?_ | refine afit_u64 (by omega) ?_ | refine afit_u8 (by omega) ?_ | rw [List.length_map]); ((conv => whnf); (repeat ((first | with_reducible refine abr_true rfl ?_ | with_reducible refine abr_false rfl ?_ | with_reducible refine abr_yes rfl ?_ | refine abr_yes (by decide) ?_ | refine abr_no (by decide) ?_ | with_reducible refine abr_same_ne ?_); (conv => whnf))))))
    exact aret (VLe.refl _) hs ⟨congrArg boolv (decide_eq_false fun h2 => h h2.1).symm, rfl⟩

theorem refSize02 (w : Int) (σ : AHeap) : ACalls Try.prog i_bowlineref02_Size [i64v w] σ fun v σ' => v = i64v (spaceSize w) ∧ σ' = σ := by
  refine k_bowlineref02_Size rfl ?_
  ((conv => whnf); (repeat ((first | with_reducible refine abr_true rfl ?_ | with_reducible refine abr_false rfl ?_ | with_reducible refine abr_yes rfl ?_ | refine abr_yes (by decide) ?_ | refine abr_no (by decide) ?_ | with_reducible refine abr_same_ne ?_); (conv => whnf))))
  by_cases h1 : w < 1
  · (repeat ((first | refine aload (by (repeat (first | with_reducible exact upd_same _ _ _ | assumption | rw [upd_ne _ _ (by first | assumption | (apply Ne.symm; assumption))]))) rfl ?_ | refine afit_i64 (by omega) ?_ | refine arem_nonneg (by omega) (by omega) ?_ | refine adiv_i64 (by omega) (by omega) ?_ | refine abr_yes (by omega) ?_ | refine abr_no (by omega) ?_ | refine amin ?_ | refine amax ?_ | refine afit_u64 (by omega) ?_ | refine afit_u8 (by omega) ?_ | rw [List.length_map]); ((conv => whnf); (repeat ((first | with_reducible refine abr_true rfl ?_ | with_reducible refine abr_false rfl ?_ | with_reducible refine abr_yes rfl ?_ | refine abr_yes (by decide) ?_ | refine abr_no (by decide) ?_ | with_reducible refine abr_same_ne ?_); (conv => whnf))))))
    exact aret_same ⟨by unfold spaceSize; rw [if_neg (fun h => by unfold spaceOk at h; omega)], rfl⟩
  · by_cases h2 : w > 16
    · (repeat ((first | refine aload (by (repeat (first | with_reducible exact upd_same _ _ _ | assumption | rw [upd_ne _ _ (by first | assumption | (apply Ne.symm; assumption))]))) rfl ?_ | refine afit_i64 (by omega) ?_ | refine arem_nonneg (by omega) (by omega) ?_ | refine adiv_i64 (by omega) (by omega) ?_ | refine abr_yes (by omega) ?_ | refine abr_no (by omega) ?_ | refine amin ?_ | refine amax ?_ | refine afit_u64 (by omega) ?_ | refine afit_u8 (by omega) ?_ | rw [List.length_map]); ((conv => whnf); (repeat ((first | with_reducible refine abr_true rfl ?_ | with_reducible refine abr_false rfl ?_ | with_reducible refine abr_yes rfl ?_ | refine abr_yes (by decide) ?_ | refine abr_no (by decide) ?_ | with_reducible refine abr_same_ne ?_); (conv => whnf))))))
      exact aret_same ⟨by unfold spaceSize; rw [if_neg (fun h => by unfold spaceOk at h; omega)], rfl⟩
    · obtain ⟨k, rfl⟩ : ∃ k : Nat, w = k := ⟨w.toNat, by omega⟩
      (repeat ((first | refine aload (by (repeat (first | with_reducible exact upd_same _ _ _ | assumption | rw [upd_ne _ _ (by first | assumption | (apply Ne.symm; assumption))]))) rfl ?_ | refine afit_i64 (by omega) ?_ | refine arem_nonneg (by omega) (by omega) ?_ | refine adiv_i64 (by omega) (by omega) ?_ | refine abr_yes (by omega) ?_ | refine abr_no (by omega) ?_ | refine amin ?_ | refine amax ?_ | refine afit_u64 (by omega) ?_ | refine afit_u8 (by omega) ?_ | rw [List.length_map]); ((conv => whnf); (repeat ((first | with_reducible refine abr_true rfl ?_ | with_reducible refine abr_false rfl ?_ | with_reducible refine abr_yes rfl ?_ | refine abr_yes (by decide) ?_ | refine abr_no (by decide) ?_ | with_reducible refine abr_same_ne ?_); (conv => whnf))))))
      refine aloop (α := Nat) (fun i => [(s3, i64v ((2 ^ i : Nat) : Int)), (s4, i64v i)]) (fun _ => σ) (fun i => i ≤ k) (fun i => k - i) 0 (Nat.zero_le _) (Sub.refl _) ?_ ?_
      · ((conv => whnf); (repeat ((first | with_reducible refine abr_true rfl ?_ | with_reducible refine abr_false rfl ?_ | with_reducible refine abr_yes rfl ?_ | refine abr_yes (by decide) ?_ | refine abr_no (by decide) ?_ | with_reducible refine abr_same_ne ?_); (conv => whnf))))
        (repeat' first | with_reducible exact EnvLe.refl _ | (refine EnvLe.node ?_ (by first | exact Or.inl rfl | exact Or.inr (Or.inl rfl) | exact Or.inr (Or.inr ⟨nofun, VLe.slice _ _ _⟩)) ?_))
      intro i hi
      have hp : 2 ^ i ≤ 2 ^ 16 := Nat.pow_le_pow_right (by omega) (by omega)
      have hsucc : 2 ^ (i + 1) = 2 * 2 ^ i := by rw [Nat.pow_succ, Nat.mul_comm]
      by_cases h : i < k
      · generalize hq : 2 ^ i = q at *
        ((conv => whnf); (repeat ((first | with_reducible refine abr_true rfl ?_ | with_reducible refine abr_false rfl ?_ | with_reducible refine abr_yes rfl ?_ | refine abr_yes (by decide) ?_ | refine abr_no (by decide) ?_ | with_reducible refine abr_same_ne ?_); (conv => whnf))))
        (repeat ((first | refine aload (by (repeat (first | with_reducible exact upd_same _ _ _ | assumption | rw [upd_ne _ _ (by first | assumption | (apply Ne.symm; assumption))]))) rfl ?_ | refine afit_i64 (by omega) ?_ | refine arem_nonneg (by omega) (by omega) ?_ | refine adiv_i64 (by omega) (by omega) ?_ | refine abr_yes (by omega) ?_ | refine abr_no (by omega) ?_ | refine amin ?_ | refine amax ?_ | refine afit_u64 (by omega) ?_ | refine afit_u8 (by omega) ?_ | rw [List.length_map]); ((conv => whnf); (repeat ((first | with_reducible refine abr_true rfl ?_ | with_reducible refine abr_false rfl ?_ | with_reducible refine abr_yes rfl ?_ | refine abr_yes (by decide) ?_ | refine abr_no (by decide) ?_ | with_reducible refine abr_same_ne ?_); (conv => whnf))))))
        refine ⟨i + 1, h, by omega, Sub.refl _, ?_⟩
        rw [hsucc, show (2 : Int) * (q : Int) = ((2 * q : Nat) : Int) by omega]
        ((conv => whnf); (repeat ((first | with_reducible refine abr_true rfl ?_ | with_reducible refine abr_false rfl ?_ | with_reducible refine abr_yes rfl ?_ | refine abr_yes (by decide) ?_ | refine abr_no (by decide) ?_ | with_reducible refine abr_same_ne ?_); (conv => whnf))))
        (repeat' first | with_reducible exact EnvLe.refl _ | (refine EnvLe.node ?_ (by first | exact Or.inl rfl | exact Or.inr (Or.inl rfl) | exact Or.inr (Or.inr ⟨nofun, VLe.slice _ _ _⟩)) ?_))
      · obtain rfl : i = k := by omega
        have he : spaceSize (i : Int) = ((2 ^ i : Nat) : Int) := by unfold spaceSize; rw [if_pos (by unfold spaceOk; omega), Int.toNat_natCast]
        generalize hq : 2 ^ i = q at *
        ((conv => whnf); (repeat ((first | with_reducible refine abr_true rfl ?_ | with_reducible refine abr_false rfl ?_ | with_reducible refine abr_yes rfl ?_ | refine abr_yes (by decide) ?_ | refine abr_no (by decide) ?_ | with_reducible refine abr_same_ne ?_); (conv => whnf))))
        (repeat ((first | refine aload (by (repeat (first | with_reducible exact upd_same _ _ _ | assumption | rw [upd_ne _ _ (by first | assumption | (apply Ne.symm; assumption))]))) rfl ?_ | refine afit_i64 (by omega) ?_ | refine arem_nonneg (by omega) (by omega) ?_ | refine adiv_i64 (by omega) (by omega) ?_ | refine abr_yes (by omega) ?_ | refine abr_no (by omega) ?_ | refine amin ?_ | refine amax ?_ | refine afit_u64 (by omega) ?_ | refine afit_u8 (by omega) ?_ | rw [List.length_map]); ((conv => whnf); (repeat ((first | with_reducible refine abr_true rfl ?_ | with_reducible refine abr_false rfl ?_ | with_reducible refine abr_yes rfl ?_ | refine abr_yes (by decide) ?_ | refine abr_no (by decide) ?_ | with_reducible refine abr_same_ne ?_); (conv => whnf))))))
        exact aret_same ⟨by rw [he], rfl⟩

theorem refIs02 (w n : Int) (σ : AHeap) : ACalls Try.prog i_bowlineref02_Is [i64v w, i64v n] σ fun v σ' => v = boolv (isNum w n) ∧ σ' = σ := by
  refine k_bowlineref02_Is rfl ?_
  ((conv => whnf); (repeat ((first | with_reducible refine abr_true rfl ?_ | with_reducible refine abr_false rfl ?_ | with_reducible refine abr_yes rfl ?_ | refine abr_yes (by decide) ?_ | refine abr_no (by decide) ?_ | with_reducible refine abr_same_ne ?_); (conv => whnf))))
  by_cases h : 0 ≤ n
  · (repeat ((first | refine aload (by (repeat (first | with_reducible exact upd_same _ _ _ | assumption | rw [upd_ne _ _ (by first | assumption | (apply Ne.symm; assumption))]))) rfl ?_ | refine afit_i64 (by omega) ?_ | refine arem_nonneg (by omega) (by omega) ?_ | refine adiv_i64 (by omega) (by omega) ?_ | refine abr_yes (by omega) ?_ | refine abr_no (by omega) ?_ | refine amin ?_ | refine amax ?_ | refine afit_u64 (by omega) ?_ | refine afit_u8 (by omega) ?_ | rw [List.length_map]); ((conv => whnf); (repeat ((first | with_reducible refine abr_true rfl ?_ | with_reducible refine abr_false rfl ?_ | with_reducible refine abr_yes rfl ?_ | refine abr_yes (by decide) ?_ | refine abr_no (by decide) ?_ | with_reducible refine abr_same_ne ?_); (conv => whnf))))))
    refine acall (refSize02 w _) ?_
    rintro _ σ_ ⟨rfl, e_⟩
    obtain rfl := e_.symm
    refine ⟨?_, Ext.refl _⟩
    ((conv => whnf); (repeat ((first | with_reducible refine abr_true rfl ?_ | with_reducible refine abr_false rfl ?_ | with_reducible refine abr_yes rfl ?_ | refine abr_yes (by decide) ?_ | refine abr_no (by decide) ?_ | with_reducible refine abr_same_ne ?_); (conv => whnf))))
    exact aret_same ⟨congrArg boolv (dec_congr ⟨fun h2 => ⟨h, h2⟩, fun h2 => h2.2⟩), rfl⟩
  · (repeat ((first | refine aload (by (repeat (first | with_reducible exact upd_same _ _ _ | assumption | rw [upd_ne _ _ (by first | assumption | (apply Ne.symm; assumption))]))) rfl ?_ | refine afit_i64 (by omega) ?_ | refine arem_nonneg (by omega) (by omega) ?_ | refine adiv_i64 (by omega) (by omega) ?_ | refine abr_yes (by omega) ?_ | refine abr_no (by omega) ?_ | refine amin ?_ | refine amax ?_ | refine afit_u64 (by omega) ?_ | refine afit_u8 (by omega) ?_ | rw [List.length_map]); ((conv => whnf); (repeat ((first | with_reducible refine abr_true rfl ?_ | with_reducible refine abr_false rfl ?_ | with_reducible refine abr_yes rfl ?_ | refine abr_yes (by decide) ?_ | refine abr_no (by decide) ?_ | with_reducible refine abr_same_ne ?_); (conv => whnf))))))
    exact aret_same ⟨congrArg boolv (decide_eq_false fun h2 => h h2.1).symm, rfl⟩
end Go.Proofs.Ythjjkcmiachpcaa
/-
  The bodies of one package, compiled to the framework's language (printed by a program of this session).
-/
namespace Go.Proofs.Ythjjkcmiachpcaa
set_option linter.unusedVariables false
set_option linter.unusedSimpArgs false
open Go Go.Am
/- umd.Read -/
def c8 : Cfg := ⟨qs, [], 107, []⟩
def ir8 : IFun := ⟨2, [.cell s4 (some 3), .tmp s5],
  (.seq (.reg (.one ⟨some s4, none, (.new [(.v (.int .i64 0)), (.v (.int .i64 0)), (.slice 1 [] .full)])⟩
    (.one ⟨some s5, none, (.mv (.c (.v (.int .i64 0))))⟩
    .done)))
  (.seq (.block 0 (.seq (.reg (.one ⟨some s23, none, (.mv (.t s1))⟩
    (.one ⟨some s24, none, (.callq 19 [(.t s23)])⟩
    (.one ⟨some s25, none, (.not (.t s24))⟩
    (.one ⟨some s22, none, (.mv (.t s25))⟩
    .done)))))
  (.cond (.t s22) (.seq (.reg (.one ⟨some s26, none, (.build [(.v (.int .i64 0)), (.v (.int .i64 0)), (.slice 1 [] .full)] [])⟩
    (.one ⟨none, none, (.store 3 (.t s4) (.t s26))⟩
    (.one ⟨some s5, none, (.mv (.c (.v (.int .i64 9))))⟩
    .done))))
  .ret) (.seq (.reg (.one ⟨some s28, none, (.mv (.t s0))⟩
    (.one ⟨some s29, none, (.len false (.t s28))⟩
    (.one ⟨some s30, none, (.bin false .gtr (.t s29) (.c (.v (.int .i64 4000))))⟩
    (.one ⟨some s27, none, (.mv (.t s30))⟩
    .done)))))
  (.cond (.t s27) (.seq (.reg (.one ⟨some s31, none, (.build [(.v (.int .i64 0)), (.v (.int .i64 0)), (.slice 1 [] .full)] [])⟩
    (.one ⟨none, none, (.store 3 (.t s4) (.t s31))⟩
    (.one ⟨some s5, none, (.mv (.c (.v (.int .i64 2))))⟩
    .done))))
  .ret) (.seq (.reg (.one ⟨some s33, none, (.mv (.t s0))⟩
    (.one ⟨some s34, none, (.len false (.t s33))⟩
    (.one ⟨some s35, none, (.mv (.t s1))⟩
    (.one ⟨some s36, none, (.callq 20 [(.t s35)])⟩
    (.one ⟨some s37, none, (.bin false .lss (.t s34) (.t s36))⟩
    (.one ⟨some s32, none, (.mv (.t s37))⟩
    .done)))))))
  (.cond (.t s32) (.seq (.reg (.one ⟨some s38, none, (.build [(.v (.int .i64 0)), (.v (.int .i64 0)), (.slice 1 [] .full)] [])⟩
    (.one ⟨none, none, (.store 3 (.t s4) (.t s38))⟩
    (.one ⟨some s5, none, (.mv (.c (.v (.int .i64 8))))⟩
    .done))))
  .ret) .skip)))))))
  (.seq (.reg (.one ⟨some s39, none, (.mv (.t s0))⟩
    (.one ⟨some s40, none, (.callq 21 [(.t s39)])⟩
    (.one ⟨some s6, none, (.mv (.t s40))⟩
    .done))))
  (.seq (.reg (.one ⟨some s42, none, (.mv (.t s6))⟩
    (.one ⟨some s43, none, (.mv (.t s1))⟩
    (.one ⟨some s44, none, (.callq 20 [(.t s43)])⟩
    (.one ⟨some s45, none, (.bin false .mul (.c (.v (.int .i64 8))) (.t s44))⟩
    (.one ⟨some s46, none, (.bin false .sub (.t s45) (.c (.v (.int .i64 3))))⟩
    (.one ⟨some s47, none, (.mv (.t s1))⟩
    (.one ⟨some s48, none, (.bin false .sub (.t s46) (.t s47))⟩
    (.one ⟨some s49, none, (.call 22 [(.t s42), (.t s48)])⟩
    (.one ⟨some s41, none, (.mv (.t s49))⟩
    (.one ⟨some s50, none, (.ext (.t s41) 0)⟩
    (.one ⟨some s51, none, (.ext (.t s41) 1)⟩
    (.one ⟨some s7, none, (.mv (.t s50))⟩
    (.one ⟨some s8, none, (.mv (.t s51))⟩
    .done))))))))))))))
  (.seq (.reg (.one ⟨some s53, none, (.mv (.t s6))⟩
    (.one ⟨some s54, none, (.call 22 [(.t s53), (.c (.v (.int .i64 2)))])⟩
    (.one ⟨some s52, none, (.mv (.t s54))⟩
    (.one ⟨some s55, none, (.ext (.t s52) 0)⟩
    (.one ⟨some s56, none, (.ext (.t s52) 1)⟩
    (.one ⟨some s9, none, (.mv (.t s55))⟩
    (.one ⟨some s10, none, (.mv (.t s56))⟩
    .done))))))))
  (.seq (.reg (.one ⟨some s58, none, (.mv (.t s6))⟩
    (.one ⟨some s59, none, (.call 22 [(.t s58), (.c (.v (.int .i64 1)))])⟩
    (.one ⟨some s57, none, (.mv (.t s59))⟩
    (.one ⟨some s60, none, (.ext (.t s57) 0)⟩
    (.one ⟨some s61, none, (.ext (.t s57) 1)⟩
    (.one ⟨some s11, none, (.mv (.t s60))⟩
    (.one ⟨some s12, none, (.mv (.t s61))⟩
    .done))))))))
  (.seq (.reg (.one ⟨some s63, none, (.mv (.t s6))⟩
    (.one ⟨some s64, none, (.mv (.t s1))⟩
    (.one ⟨some s65, none, (.call 22 [(.t s63), (.t s64)])⟩
    (.one ⟨some s62, none, (.mv (.t s65))⟩
    (.one ⟨some s66, none, (.ext (.t s62) 0)⟩
    (.one ⟨some s67, none, (.ext (.t s62) 1)⟩
    (.one ⟨some s13, none, (.mv (.t s66))⟩
    (.one ⟨some s14, none, (.mv (.t s67))⟩
    .done)))))))))
  (.seq (.seq (.reg (.one ⟨some s68, none, (.mv (.t s7))⟩
    (.one ⟨some s69, none, (.bin false .neq (.t s68) (.c (.v (.int .u64 0))))⟩
    .done)))
  (.cond (.t s69) (.seq (.reg (.one ⟨some s70, none, (.build [(.v (.int .i64 0)), (.v (.int .i64 0)), (.slice 1 [] .full)] [])⟩
    (.one ⟨none, none, (.store 3 (.t s4) (.t s70))⟩
    (.one ⟨some s5, none, (.mv (.c (.v (.int .i64 3))))⟩
    .done))))
  .ret) .skip))
  (.seq (.reg (.one ⟨some s71, none, (.mv (.t s0))⟩
    (.one ⟨some s72, none, (.mv (.t s1))⟩
    (.one ⟨some s73, none, (.callq 20 [(.t s72)])⟩
    (.one ⟨some s74, none, (.cut 1 (.t s71) (some (.t s73)) none none)⟩
    (.one ⟨some s15, none, (.mv (.t s74))⟩
    .done))))))
  (.seq (.reg (.one ⟨some s16, none, (.mv (.c (.slice 1 [] .full)))⟩
    .done))
  (.seq (.seq (.reg (.one ⟨some s75, none, (.mv (.t s11))⟩
    (.one ⟨some s76, none, (.bin false .eql (.t s75) (.c (.v (.int .u64 1))))⟩
    .done)))
  (.cond (.t s76) (.seq (.reg (.one ⟨some s78, none, (.mv (.t s15))⟩
    (.one ⟨some s79, none, (.callq 23 [(.t s78), (.c (.v (.int .i64 11)))])⟩
    (.one ⟨some s77, none, (.mv (.t s79))⟩
    (.one ⟨some s80, none, (.ext (.t s77) 0)⟩
    (.one ⟨some s81, none, (.ext (.t s77) 1)⟩
    (.one ⟨some s82, none, (.ext (.t s77) 2)⟩
    (.one ⟨some s17, none, (.mv (.t s80))⟩
    (.one ⟨some s18, none, (.mv (.t s81))⟩
    (.one ⟨some s19, none, (.mv (.t s82))⟩
    .done))))))))))
  (.seq (.seq (.reg (.one ⟨some s83, none, (.mv (.t s19))⟩
    (.one ⟨some s84, none, (.bin false .neq (.t s83) (.c (.v (.int .i64 0))))⟩
    .done)))
  (.cond (.t s84) (.seq (.reg (.one ⟨some s85, none, (.build [(.v (.int .i64 0)), (.v (.int .i64 0)), (.slice 1 [] .full)] [])⟩
    (.one ⟨some s86, none, (.mv (.t s19))⟩
    (.one ⟨none, none, (.store 3 (.t s4) (.t s85))⟩
    (.one ⟨some s5, none, (.mv (.t s86))⟩
    .done)))))
  .ret) .skip))
  (.reg (.one ⟨some s87, none, (.mv (.t s17))⟩
    (.one ⟨some s88, none, (.mv (.t s15))⟩
    (.one ⟨some s89, none, (.mv (.t s18))⟩
    (.one ⟨some s90, none, (.cut 1 (.t s88) (some (.t s89)) none none)⟩
    (.one ⟨some s16, none, (.mv (.t s87))⟩
    (.one ⟨some s15, none, (.mv (.t s90))⟩
    .done))))))))) .skip))
  (.seq (.reg (.one ⟨some s92, none, (.mv (.t s15))⟩
    (.one ⟨some s93, none, (.mv (.t s16))⟩
    (.one ⟨some s94, none, (.callq 24 [(.t s92), (.t s93)])⟩
    (.one ⟨some s91, none, (.mv (.t s94))⟩
    (.one ⟨some s95, none, (.ext (.t s91) 0)⟩
    (.one ⟨some s96, none, (.ext (.t s91) 1)⟩
    (.one ⟨some s20, none, (.mv (.t s95))⟩
    (.one ⟨some s21, none, (.mv (.t s96))⟩
    .done)))))))))
  (.seq (.seq (.reg (.one ⟨some s97, none, (.mv (.t s21))⟩
    (.one ⟨some s98, none, (.bin false .neq (.t s97) (.c (.v (.int .i64 0))))⟩
    .done)))
  (.cond (.t s98) (.seq (.reg (.one ⟨some s99, none, (.build [(.v (.int .i64 0)), (.v (.int .i64 0)), (.slice 1 [] .full)] [])⟩
    (.one ⟨some s100, none, (.mv (.t s21))⟩
    (.one ⟨none, none, (.store 3 (.t s4) (.t s99))⟩
    (.one ⟨some s5, none, (.mv (.t s100))⟩
    .done)))))
  .ret) .skip))
  (.seq (.reg (.one ⟨some s101, none, (.mv (.t s9))⟩
    (.one ⟨some s102, none, (.conv .i64 (.t s101))⟩
    (.one ⟨some s103, none, (.mv (.t s13))⟩
    (.one ⟨some s104, none, (.conv .i64 (.t s103))⟩
    (.one ⟨some s105, none, (.mv (.t s20))⟩
    (.one ⟨some s106, none, (.build [(.v (.int .i64 0)), (.v (.int .i64 0)), (.slice 1 [] .full)] [(0, 1, (.t s102)), (1, 1, (.t s104)), (2, 1, (.t s105))])⟩
    (.one ⟨none, none, (.store 3 (.t s4) (.t s106))⟩
    (.one ⟨some s5, none, (.mv (.c (.v (.int .i64 0))))⟩
    .done)))))))))
  .ret))))))))))))))⟩
theorem ok8 : compF Try.prog c8 Try.f8 = some ir8 := by kernel_rfl
theorem k_umd_Read {args : List AVal} {σ : AHeap} {Q : AVal → AHeap → Prop} (hl : Nat.ble args.length 107 = true) (h : argsK (Env.full 9) 0 args fun env => evC Try.prog c8 ir8.body env σ (retQ ir8 Q)) : ACalls Try.prog 8 args σ Q :=
  acalls_of Try.func8 ok8 rfl (Nat.le_of_ble_eq_true hl) h
/- umd.Write -/
def c13 : Cfg := ⟨qs, [], 71, []⟩
def ir13 : IFun := ⟨2, [.tmp s4, .tmp s5],
  (.seq (.reg (.one ⟨some s2, none, (.box 3 (.t s0))⟩
    (.one ⟨some s4, none, (.mv (.c (.slice 1 [] .full)))⟩
    (.one ⟨some s5, none, (.mv (.c (.v (.int .i64 0))))⟩
    .done))))
  (.seq (.block 0 (.seq (.reg (.one ⟨some s12, none, (.mv (.t s1))⟩
    (.one ⟨some s13, none, (.callq 19 [(.t s12)])⟩
    (.one ⟨some s14, none, (.not (.t s13))⟩
    (.one ⟨some s11, none, (.mv (.t s14))⟩
    .done)))))
  (.cond (.t s11) (.seq (.reg (.one ⟨some s4, none, (.mv (.c (.slice 1 [] .full)))⟩
    (.one ⟨some s5, none, (.mv (.c (.v (.int .i64 9))))⟩
    .done)))
  .ret) (.seq (.reg (.one ⟨some s16, none, (.load (some 3) (.t s2))⟩
    (.one ⟨some s17, none, (.mv (.t s1))⟩
    (.one ⟨some s18, none, (.callq 15 [(.t s16), (.t s17)])⟩
    (.one ⟨some s19, none, (.not (.t s18))⟩
    (.one ⟨some s15, none, (.mv (.t s19))⟩
    .done))))))
  (.cond (.t s15) (.seq (.reg (.one ⟨some s4, none, (.mv (.c (.slice 1 [] .full)))⟩
    (.one ⟨some s5, none, (.mv (.c (.v (.int .i64 3))))⟩
    .done)))
  .ret) .skip)))))
  (.seq (.reg (.one ⟨some s20, none, (.callq 29 [])⟩
    (.one ⟨some s6, none, (.mv (.t s20))⟩
    .done)))
  (.seq (.reg (.one ⟨some s21, none, (.faddr 2 (.t s2))⟩
    (.one ⟨some s22, none, (.load none (.t s21))⟩
    (.one ⟨some s23, none, (.len false (.t s22))⟩
    (.one ⟨some s24, none, (.bin false .sub (.t s23) (.c (.v (.int .i64 1))))⟩
    (.one ⟨some s25, none, (.mxmn false (.t s24) (.c (.v (.int .i64 1))))⟩
    (.one ⟨some s26, none, (.conv .u64 (.t s25))⟩
    (.one ⟨some s7, none, (.mv (.t s26))⟩
    .done))))))))
  (.seq (.reg (.one ⟨some s27, none, (.mv (.t s6))⟩
    (.one ⟨some s28, none, (.mv (.t s1))⟩
    (.one ⟨some s29, none, (.callq 20 [(.t s28)])⟩
    (.one ⟨some s30, none, (.bin false .mul (.c (.v (.int .i64 8))) (.t s29))⟩
    (.one ⟨some s31, none, (.bin false .sub (.t s30) (.c (.v (.int .i64 3))))⟩
    (.one ⟨some s32, none, (.mv (.t s1))⟩
    (.one ⟨some s33, none, (.bin false .sub (.t s31) (.t s32))⟩
    (.one ⟨some s34, none, (.call 30 [(.t s27), (.c (.v (.int .u64 0))), (.t s33)])⟩
    .done)))))))))
  (.seq (.reg (.one ⟨some s35, none, (.mv (.t s6))⟩
    (.one ⟨some s36, none, (.faddr 0 (.t s2))⟩
    (.one ⟨some s37, none, (.load none (.t s36))⟩
    (.one ⟨some s38, none, (.conv .u64 (.t s37))⟩
    (.one ⟨some s39, none, (.call 30 [(.t s35), (.t s38), (.c (.v (.int .i64 2)))])⟩
    .done))))))
  (.seq (.reg (.one ⟨some s40, none, (.mv (.t s6))⟩
    (.one ⟨some s41, none, (.mv (.t s7))⟩
    (.one ⟨some s42, none, (.call 30 [(.t s40), (.t s41), (.c (.v (.int .i64 1)))])⟩
    .done))))
  (.seq (.reg (.one ⟨some s43, none, (.mv (.t s6))⟩
    (.one ⟨some s44, none, (.faddr 1 (.t s2))⟩
    (.one ⟨some s45, none, (.load none (.t s44))⟩
    (.one ⟨some s46, none, (.conv .u64 (.t s45))⟩
    (.one ⟨some s47, none, (.mv (.t s1))⟩
    (.one ⟨some s48, none, (.call 30 [(.t s43), (.t s46), (.t s47)])⟩
    .done)))))))
  (.seq (.reg (.one ⟨some s49, none, (.mv (.t s6))⟩
    (.one ⟨some s50, none, (.callq 31 [(.t s49)])⟩
    (.one ⟨some s8, none, (.mv (.t s50))⟩
    .done))))
  (.seq (.seq (.reg (.one ⟨some s51, none, (.mv (.t s7))⟩
    (.one ⟨some s52, none, (.bin false .eql (.t s51) (.c (.v (.int .u64 1))))⟩
    .done)))
  (.cond (.t s52) (.seq (.reg (.one ⟨some s54, none, (.faddr 2 (.t s2))⟩
    (.one ⟨some s55, none, (.load none (.t s54))⟩
    (.one ⟨some s56, none, (.callq 33 [(.t s55)])⟩
    (.one ⟨some s57, none, (.callq 32 [(.t s56), (.c (.v (.int .i64 11)))])⟩
    (.one ⟨some s53, none, (.mv (.t s57))⟩
    (.one ⟨some s58, none, (.ext (.t s53) 0)⟩
    (.one ⟨some s59, none, (.ext (.t s53) 1)⟩
    (.one ⟨some s9, none, (.mv (.t s58))⟩
    (.one ⟨some s10, none, (.mv (.t s59))⟩
    .done))))))))))
  (.seq (.seq (.reg (.one ⟨some s60, none, (.mv (.t s10))⟩
    (.one ⟨some s61, none, (.bin false .neq (.t s60) (.c (.v (.int .i64 0))))⟩
    .done)))
  (.cond (.t s61) (.seq (.reg (.one ⟨some s62, none, (.mv (.t s10))⟩
    (.one ⟨some s4, none, (.mv (.c (.slice 1 [] .full)))⟩
    (.one ⟨some s5, none, (.mv (.t s62))⟩
    .done))))
  .ret) .skip))
  (.reg (.one ⟨some s63, none, (.mv (.t s8))⟩
    (.one ⟨some s64, none, (.mv (.t s9))⟩
    (.one ⟨some s65, none, (.app 1 1 (.t s63) (.t s64))⟩
    (.one ⟨some s8, none, (.mv (.t s65))⟩
    .done))))))) .skip))
  (.seq (.reg (.one ⟨some s66, none, (.mv (.t s8))⟩
    (.one ⟨some s67, none, (.faddr 2 (.t s2))⟩
    (.one ⟨some s68, none, (.load none (.t s67))⟩
    (.one ⟨some s69, none, (.callq 34 [(.t s68), (.c (.slice 1 [] .full))])⟩
    (.one ⟨some s70, none, (.app 1 1 (.t s66) (.t s69))⟩
    (.one ⟨some s4, none, (.mv (.t s70))⟩
    (.one ⟨some s5, none, (.mv (.c (.v (.int .i64 0))))⟩
    .done))))))))
  .ret)))))))))))⟩
theorem ok13 : compF Try.prog c13 Try.f13 = some ir13 := by kernel_rfl
theorem k_umd_Write {args : List AVal} {σ : AHeap} {Q : AVal → AHeap → Prop} (hl : Nat.ble args.length 71 = true) (h : argsK (Env.full 9) 0 args fun env => evC Try.prog c13 ir13.body env σ (retQ ir13 Q)) : ACalls Try.prog 13 args σ Q :=
  acalls_of Try.func13 ok13 rfl (Nat.le_of_ble_eq_true hl) h
/- umd.Size -/
def c14 : Cfg := ⟨qs, [], 31, []⟩
def ir14 : IFun := ⟨2, [.tmp s4],
  (.seq (.reg (.one ⟨some s2, none, (.box 3 (.t s0))⟩
    (.one ⟨some s4, none, (.mv (.c (.v (.int .i64 0))))⟩
    .done)))
  (.seq (.reg (.one ⟨some s6, none, (.mv (.t s1))⟩
    (.one ⟨some s7, none, (.build [(.v (.int .i64 0))] [(0, 1, (.t s6))])⟩
    (.one ⟨some s5, none, (.new [(.v (.int .i64 0))])⟩
    (.one ⟨none, none, (.store 1 (.t s5) (.t s7))⟩
    .done)))))
  (.seq (.seq (.reg (.one ⟨some s8, none, (.mv (.t s1))⟩
    (.one ⟨some s9, none, (.callq 19 [(.t s8)])⟩
    (.one ⟨some s10, none, (.not (.t s9))⟩
    (.one ⟨some s11, none, (.mv (.t s10))⟩
    (.one ⟨some s12, some (s11, false), (.faddr 0 (.t s2))⟩
    (.one ⟨some s13, some (s11, false), (.load none (.t s12))⟩
    (.one ⟨some s14, some (s11, false), (.bin false .lss (.t s13) (.c (.v (.int .i64 0))))⟩
    (.one ⟨some s15, none, (.pick (.t s11) (.c (.v (.bool true))) (.t s14))⟩
    (.one ⟨some s16, none, (.mv (.t s15))⟩
    (.one ⟨some s17, some (s16, false), (.faddr 0 (.t s2))⟩
    (.one ⟨some s18, some (s16, false), (.load none (.t s17))⟩
    (.one ⟨some s19, some (s16, false), (.bin false .gtr (.t s18) (.c (.v (.int .i64 3))))⟩
    (.one ⟨some s20, none, (.pick (.t s16) (.c (.v (.bool true))) (.t s19))⟩
    (.one ⟨some s21, none, (.mv (.t s20))⟩
    (.one ⟨some s22, some (s21, false), (.load (some 1) (.t s5))⟩
    (.one ⟨some s23, some (s21, false), (.faddr 1 (.t s2))⟩
    (.one ⟨some s24, some (s21, false), (.load none (.t s23))⟩
    (.one ⟨some s25, some (s21, false), (.callq 35 [(.t s22), (.t s24)])⟩
    (.one ⟨some s26, some (s21, false), (.not (.t s25))⟩
    (.one ⟨some s27, none, (.pick (.t s21) (.c (.v (.bool true))) (.t s26))⟩
    .done)))))))))))))))))))))
  (.cond (.t s27) (.seq (.reg (.one ⟨some s4, none, (.mv (.c (.v (.int .i64 0))))⟩
    .done))
  .ret) .skip))
  (.seq (.reg (.one ⟨some s28, none, (.load (some 3) (.t s2))⟩
    (.one ⟨some s29, none, (.mv (.t s1))⟩
    (.one ⟨some s30, none, (.callq 36 [(.t s28), (.t s29)])⟩
    (.one ⟨some s4, none, (.mv (.t s30))⟩
    .done)))))
  .ret))))⟩
theorem ok14 : compF Try.prog c14 Try.f14 = some ir14 := by kernel_rfl
theorem k_umd_Size {args : List AVal} {σ : AHeap} {Q : AVal → AHeap → Prop} (hl : Nat.ble args.length 31 = true) (h : argsK (Env.full 9) 0 args fun env => evC Try.prog c14 ir14.body env σ (retQ ir14 Q)) : ACalls Try.prog 14 args σ Q :=
  acalls_of Try.func14 ok14 rfl (Nat.le_of_ble_eq_true hl) h
/- umd.Right -/
def c15 : Cfg := ⟨qs, [], 9, []⟩
def ir15 : IFun := ⟨2, [.tmp s4],
  (.seq (.reg (.one ⟨some s2, none, (.box 3 (.t s0))⟩
    (.one ⟨some s4, none, (.mv (.c (.v (.bool false))))⟩
    .done)))
  (.seq (.reg (.one ⟨some s5, none, (.load (some 3) (.t s2))⟩
    (.one ⟨some s6, none, (.mv (.t s1))⟩
    (.one ⟨some s7, none, (.callq 14 [(.t s5), (.t s6)])⟩
    (.one ⟨some s8, none, (.bin false .gtr (.t s7) (.c (.v (.int .i64 0))))⟩
    (.one ⟨some s4, none, (.mv (.t s8))⟩
    .done))))))
  .ret))⟩
theorem ok15 : compF Try.prog c15 Try.f15 = some ir15 := by kernel_rfl
theorem k_umd_Right {args : List AVal} {σ : AHeap} {Q : AVal → AHeap → Prop} (hl : Nat.ble args.length 9 = true) (h : argsK (Env.full 9) 0 args fun env => evC Try.prog c15 ir15.body env σ (retQ ir15 Q)) : ACalls Try.prog 15 args σ Q :=
  acalls_of Try.func15 ok15 rfl (Nat.le_of_ble_eq_true hl) h
/- umd.Same -/
def c17 : Cfg := ⟨qs, [], 24, []⟩
def ir17 : IFun := ⟨2, [.tmp s4],
  (.seq (.reg (.one ⟨some s2, none, (.box 3 (.t s0))⟩
    (.one ⟨some s3, none, (.box 3 (.t s1))⟩
    (.one ⟨some s4, none, (.mv (.c (.v (.bool false))))⟩
    .done))))
  (.seq (.reg (.one ⟨some s5, none, (.faddr 0 (.t s2))⟩
    (.one ⟨some s6, none, (.load none (.t s5))⟩
    (.one ⟨some s7, none, (.faddr 0 (.t s3))⟩
    (.one ⟨some s8, none, (.load none (.t s7))⟩
    (.one ⟨some s9, none, (.bin false .eql (.t s6) (.t s8))⟩
    (.one ⟨some s10, none, (.mv (.t s9))⟩
    (.one ⟨some s11, some (s10, true), (.faddr 1 (.t s2))⟩
    (.one ⟨some s12, some (s10, true), (.load none (.t s11))⟩
    (.one ⟨some s13, some (s10, true), (.faddr 1 (.t s3))⟩
    (.one ⟨some s14, some (s10, true), (.load none (.t s13))⟩
    (.one ⟨some s15, some (s10, true), (.bin false .eql (.t s12) (.t s14))⟩
    (.one ⟨some s16, none, (.pick (.t s10) (.t s15) (.c (.v (.bool false))))⟩
    (.one ⟨some s17, none, (.mv (.t s16))⟩
    (.one ⟨some s18, some (s17, true), (.faddr 2 (.t s2))⟩
    (.one ⟨some s19, some (s17, true), (.load none (.t s18))⟩
    (.one ⟨some s20, some (s17, true), (.faddr 2 (.t s3))⟩
    (.one ⟨some s21, some (s17, true), (.load none (.t s20))⟩
    (.one ⟨some s22, some (s17, true), (.callq 39 [(.t s19), (.t s21), (.c (.func 40 [] []))])⟩
    (.one ⟨some s23, none, (.pick (.t s17) (.t s22) (.c (.v (.bool false))))⟩
    (.one ⟨some s4, none, (.mv (.t s23))⟩
    .done)))))))))))))))))))))
  .ret))⟩
theorem ok17 : compF Try.prog c17 Try.f17 = some ir17 := by kernel_rfl
theorem k_umd_Same {args : List AVal} {σ : AHeap} {Q : AVal → AHeap → Prop} (hl : Nat.ble args.length 24 = true) (h : argsK (Env.full 9) 0 args fun env => evC Try.prog c17 ir17.body env σ (retQ ir17 Q)) : ACalls Try.prog 17 args σ Q :=
  acalls_of Try.func17 ok17 rfl (Nat.le_of_ble_eq_true hl) h
/- umd.isWidth -/
def c19 : Cfg := ⟨qs, [], 9, []⟩
def ir19 : IFun := ⟨1, [.tmp s2],
  (.seq (.reg (.one ⟨some s2, none, (.mv (.c (.v (.bool false))))⟩
    .done))
  (.seq (.reg (.one ⟨some s3, none, (.mv (.t s0))⟩
    (.one ⟨some s4, none, (.bin false .eql (.t s3) (.c (.v (.int .i64 5))))⟩
    (.one ⟨some s5, none, (.mv (.t s4))⟩
    (.one ⟨some s6, some (s5, false), (.mv (.t s0))⟩
    (.one ⟨some s7, some (s5, false), (.bin false .eql (.t s6) (.c (.v (.int .i64 10))))⟩
    (.one ⟨some s8, none, (.pick (.t s5) (.c (.v (.bool true))) (.t s7))⟩
    (.one ⟨some s2, none, (.mv (.t s8))⟩
    .done))))))))
  .ret))⟩
theorem ok19 : compF Try.prog c19 Try.f19 = some ir19 := by kernel_rfl
theorem k_umd_isWidth {args : List AVal} {σ : AHeap} {Q : AVal → AHeap → Prop} (hl : Nat.ble args.length 9 = true) (h : argsK (Env.full 9) 0 args fun env => evC Try.prog c19 ir19.body env σ (retQ ir19 Q)) : ACalls Try.prog 19 args σ Q :=
  acalls_of Try.func19 ok19 rfl (Nat.le_of_ble_eq_true hl) h
/- umd.head -/
def c20 : Cfg := ⟨qs, [], 5, []⟩
def ir20 : IFun := ⟨1, [.tmp s2],
  (.seq (.reg (.one ⟨some s2, none, (.mv (.c (.v (.int .i64 0))))⟩
    .done))
  (.seq (.reg (.one ⟨some s3, none, (.mv (.t s0))⟩
    (.one ⟨some s4, none, (.bin false .quo (.t s3) (.c (.v (.int .i64 5))))⟩
    (.one ⟨some s2, none, (.mv (.t s4))⟩
    .done))))
  .ret))⟩
theorem ok20 : compF Try.prog c20 Try.f20 = some ir20 := by kernel_rfl
theorem k_umd_head {args : List AVal} {σ : AHeap} {Q : AVal → AHeap → Prop} (hl : Nat.ble args.length 5 = true) (h : argsK (Env.full 9) 0 args fun env => evC Try.prog c20 ir20.body env σ (retQ ir20 Q)) : ACalls Try.prog 20 args σ Q :=
  acalls_of Try.func20 ok20 rfl (Nat.le_of_ble_eq_true hl) h
/- umd.fields -/
def c24 : Cfg := ⟨qs, [], 49, []⟩
def ir24 : IFun := ⟨2, [.tmp s4, .tmp s5],
  (.seq (.reg (.one ⟨some s4, none, (.mv (.c (.slice 1 [] .full)))⟩
    (.one ⟨some s5, none, (.mv (.c (.v (.int .i64 0))))⟩
    .done)))
  (.scope (.seq (.reg (.one ⟨some s6, none, (.mv (.c (.slice 1 [] .full)))⟩
    .done))
  (.seq (.reg (.one ⟨some s7, none, (.mv (.c (.v (.int .i64 0))))⟩
    .done))
  (.seq (.label 0)
  (.seq (.seq (.reg (.one ⟨some s8, none, (.mv (.t s7))⟩
    (.one ⟨some s9, none, (.mv (.t s1))⟩
    (.one ⟨some s10, none, (.len false (.t s9))⟩
    (.one ⟨some s11, none, (.bin false .lss (.t s8) (.t s10))⟩
    .done)))))
  (.cond (.t s11) (.seq (.seq (.reg (.one ⟨some s12, none, (.mv (.t s1))⟩
    (.one ⟨some s13, none, (.mv (.t s7))⟩
    (.one ⟨some s14, none, (.iaddr 1 (.t s12) (.t s13))⟩
    (.one ⟨some s15, none, (.load none (.t s14))⟩
    (.one ⟨some s16, none, (.mv (.t s0))⟩
    (.one ⟨some s17, none, (.len false (.t s16))⟩
    (.one ⟨some s18, none, (.bin false .gtr (.t s15) (.t s17))⟩
    .done))))))))
  (.cond (.t s18) (.seq (.reg (.one ⟨some s4, none, (.mv (.c (.slice 1 [] .full)))⟩
    (.one ⟨some s5, none, (.mv (.c (.v (.int .i64 8))))⟩
    .done)))
  .ret) .skip))
  (.seq (.reg (.one ⟨some s19, none, (.mv (.t s6))⟩
    (.one ⟨some s20, none, (.mv (.t s0))⟩
    (.one ⟨some s21, none, (.mv (.t s1))⟩
    (.one ⟨some s22, none, (.mv (.t s7))⟩
    (.one ⟨some s23, none, (.iaddr 1 (.t s21) (.t s22))⟩
    (.one ⟨some s24, none, (.load none (.t s23))⟩
    (.one ⟨some s25, none, (.mv (.t s1))⟩
    (.one ⟨some s26, none, (.mv (.t s7))⟩
    (.one ⟨some s27, none, (.iaddr 1 (.t s25) (.t s26))⟩
    (.one ⟨some s28, none, (.load none (.t s27))⟩
    (.one ⟨some s29, none, (.cut 1 (.t s20) none (some (.t s24)) (some (.t s28)))⟩
    (.one ⟨some s30, none, (.callq 44 [(.t s29)])⟩
    (.one ⟨some s31, none, (.row 1 [(.t s30)])⟩
    (.one ⟨some s32, none, (.app 1 24 (.t s19) (.t s31))⟩
    (.one ⟨some s6, none, (.mv (.t s32))⟩
    .done))))))))))))))))
  (.seq (.reg (.one ⟨some s33, none, (.mv (.t s0))⟩
    (.one ⟨some s34, none, (.mv (.t s1))⟩
    (.one ⟨some s35, none, (.mv (.t s7))⟩
    (.one ⟨some s36, none, (.iaddr 1 (.t s34) (.t s35))⟩
    (.one ⟨some s37, none, (.load none (.t s36))⟩
    (.one ⟨some s38, none, (.cut 1 (.t s33) (some (.t s37)) none none)⟩
    (.one ⟨some s0, none, (.mv (.t s38))⟩
    .done))))))))
  (.seq (.reg (.one ⟨some s39, none, (.mv (.t s7))⟩
    (.one ⟨some s40, none, (.bin false .add (.t s39) (.c (.v (.int .i64 1))))⟩
    (.one ⟨some s7, none, (.mv (.t s40))⟩
    .done))))
  (.goto 0))))) .skip))
  (.seq (.seq (.reg (.one ⟨some s41, none, (.mv (.t s0))⟩
    (.one ⟨some s42, none, (.len false (.t s41))⟩
    (.one ⟨some s43, none, (.bin false .eql (.t s42) (.c (.v (.int .i64 0))))⟩
    .done))))
  (.cond (.t s43) (.seq (.reg (.one ⟨some s4, none, (.mv (.c (.slice 1 [] .full)))⟩
    (.one ⟨some s5, none, (.mv (.c (.v (.int .i64 8))))⟩
    .done)))
  .ret) .skip))
  (.seq (.reg (.one ⟨some s44, none, (.mv (.t s6))⟩
    (.one ⟨some s45, none, (.mv (.t s0))⟩
    (.one ⟨some s46, none, (.callq 44 [(.t s45)])⟩
    (.one ⟨some s47, none, (.row 1 [(.t s46)])⟩
    (.one ⟨some s48, none, (.app 1 24 (.t s44) (.t s47))⟩
    (.one ⟨some s4, none, (.mv (.t s48))⟩
    (.one ⟨some s5, none, (.mv (.c (.v (.int .i64 0))))⟩
    .done))))))))
  .ret))))))))⟩
theorem ok24 : compF Try.prog c24 Try.f24 = some ir24 := by kernel_rfl
theorem k_umd_fields {args : List AVal} {σ : AHeap} {Q : AVal → AHeap → Prop} (hl : Nat.ble args.length 49 = true) (h : argsK (Env.full 9) 0 args fun env => evC Try.prog c24 ir24.body env σ (retQ ir24 Q)) : ACalls Try.prog 24 args σ Q :=
  acalls_of Try.func24 ok24 rfl (Nat.le_of_ble_eq_true hl) h
/- umd.lengths -/
def c33 : Cfg := ⟨qs, [], 23, []⟩
def ir33 : IFun := ⟨1, [.tmp s2],
  (.seq (.reg (.one ⟨some s2, none, (.mv (.c (.slice 1 [] .full)))⟩
    .done))
  (.seq (.reg (.one ⟨some s3, none, (.mv (.c (.slice 1 [] .full)))⟩
    .done))
  (.seq (.seq (.reg (.one ⟨some s6, none, (.mv (.t s0))⟩
    (.one ⟨some s7, none, (.mv (.t s0))⟩
    (.one ⟨some s8, none, (.len false (.t s7))⟩
    (.one ⟨some s9, none, (.bin false .sub (.t s8) (.c (.v (.int .i64 1))))⟩
    (.one ⟨some s10, none, (.cut 1 (.t s6) none (some (.t s9)) none)⟩
    (.one ⟨some s11, none, (.len false (.t s10))⟩
    (.one ⟨some s12, none, (.mv (.c (.v (.int .i64 0))))⟩
    .done))))))))
  (.block 0 (.loop (.seq (.reg (.one ⟨some s13, none, (.bin false .lss (.t s12) (.t s11))⟩
    .done))
  (.seq (.cond (.t s13) .skip (.exit 0))
  (.seq (.block 1 (.seq (.reg (.one ⟨some s14, none, (.iaddr 1 (.t s10) (.t s12))⟩
    (.one ⟨some s15, none, (.load none (.t s14))⟩
    (.one ⟨some s5, none, (.mv (.t s15))⟩
    .done))))
  (.reg (.one ⟨some s16, none, (.mv (.t s3))⟩
    (.one ⟨some s17, none, (.mv (.t s5))⟩
    (.one ⟨some s18, none, (.len false (.t s17))⟩
    (.one ⟨some s19, none, (.row 1 [(.t s18)])⟩
    (.one ⟨some s20, none, (.app 1 8 (.t s16) (.t s19))⟩
    (.one ⟨some s3, none, (.mv (.t s20))⟩
    .done)))))))))
  (.reg (.one ⟨some s21, none, (.bin false .add (.t s12) (.c (.v (.int .i64 1))))⟩
    (.one ⟨some s12, none, (.mv (.t s21))⟩
    .done)))))))))
  (.seq (.reg (.one ⟨some s22, none, (.mv (.t s3))⟩
    (.one ⟨some s2, none, (.mv (.t s22))⟩
    .done)))
  .ret))))⟩
theorem ok33 : compF Try.prog c33 Try.f33 = some ir33 := by kernel_rfl
theorem k_umd_lengths {args : List AVal} {σ : AHeap} {Q : AVal → AHeap → Prop} (hl : Nat.ble args.length 23 = true) (h : argsK (Env.full 9) 0 args fun env => evC Try.prog c33 ir33.body env σ (retQ ir33 Q)) : ACalls Try.prog 33 args σ Q :=
  acalls_of Try.func33 ok33 rfl (Nat.le_of_ble_eq_true hl) h
/- umd.size -/
def c36 : Cfg := ⟨qs, [], 63, []⟩
def ir36 : IFun := ⟨2, [.tmp s4],
  (.seq (.reg (.one ⟨some s2, none, (.box 3 (.t s0))⟩
    (.one ⟨some s4, none, (.mv (.c (.v (.int .i64 0))))⟩
    .done)))
  (.seq (.seq (.reg (.one ⟨some s8, none, (.faddr 2 (.t s2))⟩
    (.one ⟨some s9, none, (.load none (.t s8))⟩
    (.one ⟨some s10, none, (.len false (.t s9))⟩
    (.one ⟨some s11, none, (.bin false .lss (.t s10) (.c (.v (.int .i64 1))))⟩
    (.one ⟨some s12, none, (.mv (.t s11))⟩
    (.one ⟨some s13, some (s12, false), (.faddr 2 (.t s2))⟩
    (.one ⟨some s14, some (s12, false), (.load none (.t s13))⟩
    (.one ⟨some s15, some (s12, false), (.len false (.t s14))⟩
    (.one ⟨some s16, some (s12, false), (.bin false .gtr (.t s15) (.c (.v (.int .i64 24))))⟩
    (.one ⟨some s17, none, (.pick (.t s12) (.c (.v (.bool true))) (.t s16))⟩
    .done)))))))))))
  (.cond (.t s17) (.seq (.reg (.one ⟨some s4, none, (.mv (.c (.v (.int .i64 0))))⟩
    .done))
  .ret) .skip))
  (.seq (.reg (.one ⟨some s18, none, (.mv (.t s1))⟩
    (.one ⟨some s20, none, (.faddr 2 (.t s2))⟩
    (.one ⟨some s21, none, (.load none (.t s20))⟩
    (.one ⟨some s22, none, (.len false (.t s21))⟩
    (.one ⟨some s23, none, (.bin false .sub (.t s22) (.c (.v (.int .i64 1))))⟩
    (.one ⟨some s19, none, (.callq 20 [(.t s18)])⟩
    (.one ⟨some s24, none, (.callq 47 [(.t s23), (.c (.v (.int .i64 11)))])⟩
    (.one ⟨some s25, none, (.bin false .add (.t s19) (.t s24))⟩
    (.one ⟨some s5, none, (.mv (.t s25))⟩
    .done))))))))))
  (.seq (.seq (.reg (.one ⟨some s26, none, (.faddr 2 (.t s2))⟩
    (.one ⟨some s27, none, (.load none (.t s26))⟩
    (.one ⟨some s28, none, (.len false (.t s27))⟩
    (.one ⟨some s29, none, (.mv (.c (.v (.int .i64 0))))⟩
    .done)))))
  (.block 0 (.loop (.seq (.reg (.one ⟨some s30, none, (.bin false .lss (.t s29) (.t s28))⟩
    .done))
  (.seq (.cond (.t s30) .skip (.exit 0))
  (.seq (.block 1 (.seq (.reg (.one ⟨some s31, none, (.mv (.t s29))⟩
    (.one ⟨some s32, none, (.iaddr 1 (.t s27) (.t s29))⟩
    (.one ⟨some s33, none, (.load none (.t s32))⟩
    (.one ⟨some s6, none, (.mv (.t s31))⟩
    (.one ⟨some s7, none, (.mv (.t s33))⟩
    .done))))))
  (.seq (.seq (.reg (.one ⟨some s34, none, (.mv (.t s7))⟩
    (.one ⟨some s35, none, (.len false (.t s34))⟩
    (.one ⟨some s36, none, (.bin false .eql (.t s35) (.c (.v (.int .i64 0))))⟩
    (.one ⟨some s37, none, (.mv (.t s36))⟩
    (.one ⟨some s38, some (s37, false), (.mv (.t s7))⟩
    (.one ⟨some s39, some (s37, false), (.len false (.t s38))⟩
    (.one ⟨some s40, some (s37, false), (.bin false .gtr (.t s39) (.c (.v (.int .i64 2047))))⟩
    (.one ⟨some s41, some (s37, false), (.mv (.t s40))⟩
    (.one ⟨some s42, some (s41, true), (.mv (.t s6))⟩
    (.one ⟨some s43, some (s41, true), (.faddr 2 (.t s2))⟩
    (.one ⟨some s44, some (s41, true), (.load none (.t s43))⟩
    (.one ⟨some s45, some (s41, true), (.len false (.t s44))⟩
    (.one ⟨some s46, some (s41, true), (.bin false .sub (.t s45) (.c (.v (.int .i64 1))))⟩
    (.one ⟨some s47, some (s41, true), (.bin false .lss (.t s42) (.t s46))⟩
    (.one ⟨some s48, some (s37, false), (.pick (.t s41) (.t s47) (.c (.v (.bool false))))⟩
    (.one ⟨some s49, none, (.pick (.t s37) (.c (.v (.bool true))) (.t s48))⟩
    (.one ⟨some s50, none, (.mv (.t s49))⟩
    (.one ⟨some s51, some (s50, false), (.mv (.t s7))⟩
    (.one ⟨some s52, some (s50, false), (.len false (.t s51))⟩
    (.one ⟨some s53, some (s50, false), (.mv (.t s5))⟩
    (.one ⟨some s54, some (s50, false), (.bin false .sub (.c (.v (.int .i64 4000))) (.t s53))⟩
    (.one ⟨some s55, some (s50, false), (.bin false .gtr (.t s52) (.t s54))⟩
    (.one ⟨some s56, none, (.pick (.t s50) (.c (.v (.bool true))) (.t s55))⟩
    .done))))))))))))))))))))))))
  (.cond (.t s56) (.seq (.reg (.one ⟨some s4, none, (.mv (.c (.v (.int .i64 0))))⟩
    .done))
  .ret) .skip))
  (.reg (.one ⟨some s57, none, (.mv (.t s5))⟩
    (.one ⟨some s58, none, (.mv (.t s7))⟩
    (.one ⟨some s59, none, (.len false (.t s58))⟩
    (.one ⟨some s60, none, (.bin false .add (.t s57) (.t s59))⟩
    (.one ⟨some s5, none, (.mv (.t s60))⟩
    .done)))))))))
  (.reg (.one ⟨some s61, none, (.bin false .add (.t s29) (.c (.v (.int .i64 1))))⟩
    (.one ⟨some s29, none, (.mv (.t s61))⟩
    .done)))))))))
  (.seq (.reg (.one ⟨some s62, none, (.mv (.t s5))⟩
    (.one ⟨some s4, none, (.mv (.t s62))⟩
    .done)))
  .ret)))))⟩
theorem ok36 : compF Try.prog c36 Try.f36 = some ir36 := by kernel_rfl
theorem k_umd_size {args : List AVal} {σ : AHeap} {Q : AVal → AHeap → Prop} (hl : Nat.ble args.length 63 = true) (h : argsK (Env.full 9) 0 args fun env => evC Try.prog c36 ir36.body env σ (retQ ir36 Q)) : ACalls Try.prog 36 args σ Q :=
  acalls_of Try.func36 ok36 rfl (Nat.le_of_ble_eq_true hl) h
end Go.Proofs.Ythjjkcmiachpcaa
/-
  Packets that are not acknowledged: how many bytes they have.
-/
namespace Go.Proofs.Ythjjkcmiachpcaa
set_option linter.unusedVariables false
set_option linter.unusedSimpArgs false
open Go Go.Am

abbrev pkV (fi sn : Int) (l : List (List UInt8)) : AVal := .agg [i64v fi, i64v sn, lists .none l]
def umWidth (w : Int) : Bool := decide (w = 5) || decide (w = 10)
theorem umWidth_iff {w : Int} : umWidth w = true ↔ w = 5 ∨ w = 10 := by simp [umWidth]
theorem umWidth_no {w : Int} (h : ¬ (w = 5 ∨ w = 10)) : umWidth w = false := by simp only [← umWidth_iff] at h; simpa using h

/-- May a field be so long? -/
def fieldBad (l : List (List UInt8)) (i : Nat) : Bool := decide ((l[i]?.getD []).length = 0 ∨ ((l[i]?.getD []).length > 2047 ∧ i + 1 < l.length))
def fieldsBad (l : List (List UInt8)) (i : Nat) : Bool := (List.range i).any (fieldBad l)
theorem fieldsBad_succ (l : List (List UInt8)) (i : Nat) : fieldsBad l (i + 1) = (fieldsBad l i || fieldBad l i) := by unfold fieldsBad; rw [List.range_succ, List.any_append]; simp
theorem fieldsBad_of {l : List (List UInt8)} {i n : Nat} (h : i < n) (hb : fieldBad l i = true) : fieldsBad l n = true := List.any_eq_true.2 ⟨i, List.mem_range.2 h, hb⟩
theorem fieldBad_get {l : List (List UInt8)} {i : Nat} (h : i < l.length) : fieldBad l i = decide (l[i].length = 0 ∨ (l[i].length > 2047 ∧ i + 1 < l.length)) := by
  unfold fieldBad; rw [List.getElem?_eq_getElem h]; rfl
/-- How many bytes fields have, behind a head, with lengths of a width. -/
def fieldsV (l : List (List UInt8)) (h w : Int) : Int :=
  if l.length < 1 ∨ l.length > 24 then 0 else if fieldsBad l l.length = true then 0
  else if h + sizeV ((l.length : Int) - 1) w + (total l : Int) > 4000 then 0 else h + sizeV ((l.length : Int) - 1) w + (total l : Int)
def umSize (fi sn : Int) (l : List (List UInt8)) (w : Int) : Int := if umWidth w = false ∨ fi < 0 ∨ fi > 3 ∨ isNum w sn = false then 0 else fieldsV l (w / 5) 11

theorem uIsWidth (w : Int) (σ : AHeap) : ACalls Try.prog i_umd_isWidth [i64v w] σ fun v σ' => v = boolv (umWidth w) ∧ σ' = σ := by
  refine k_umd_isWidth rfl ?_
  ((conv => whnf); (repeat ((first | with_reducible refine abr_true rfl ?_ | with_reducible refine abr_false rfl ?_ | with_reducible refine abr_yes rfl ?_ | refine abr_yes (by decide) ?_ | refine abr_no (by decide) ?_ | with_reducible refine abr_same_ne ?_); (conv => whnf))))
  by_cases h : w = 5
  · subst h
    ((conv => whnf); (repeat ((first | with_reducible refine abr_true rfl ?_ | with_reducible refine abr_false rfl ?_ | with_reducible refine abr_yes rfl ?_ | refine abr_yes (by decide) ?_ | refine abr_no (by decide) ?_ | with_reducible refine abr_same_ne ?_); (conv => whnf))))
    exact aret_same ⟨rfl, rfl⟩
  · refine abr_no h ?_
    ((conv => whnf); (repeat ((first | with_reducible refine abr_true rfl ?_ | with_reducible refine abr_false rfl ?_ | with_reducible refine abr_yes rfl ?_ | refine abr_yes (by decide) ?_ | refine abr_no (by decide) ?_ | with_reducible refine abr_same_ne ?_); (conv => whnf))))
    refine aret_same ⟨?_, rfl⟩
    unfold umWidth
    rw [decide_eq_false h, Bool.false_or]

theorem uHead (w : Int) (σ : AHeap) (h : 0 ≤ w ∧ w ≤ 9223372036854775807) : ACalls Try.prog i_umd_head [i64v w] σ fun v σ' => v = i64v (w / 5) ∧ σ' = σ := by
  refine k_umd_head rfl ?_
  ((conv => whnf); (repeat ((first | with_reducible refine abr_true rfl ?_ | with_reducible refine abr_false rfl ?_ | with_reducible refine abr_yes rfl ?_ | refine abr_yes (by decide) ?_ | refine abr_no (by decide) ?_ | with_reducible refine abr_same_ne ?_); (conv => whnf))))
  (repeat ((first | refine aload (by (repeat (first | with_reducible exact upd_same _ _ _ | assumption | rw [upd_ne _ _ (by first | assumption | (apply Ne.symm; assumption))]))) rfl ?_ | refine afit_i64 (by omega) ?_ | refine arem_nonneg (by omega) (by omega) ?_ | refine adiv_i64 (by omega) (by omega) ?_ | refine abr_yes (by omega) ?_ | refine abr_no (by omega) ?_ | refine amin ?_ | refine amax ?_ | refine afit_u64 (by omega) ?_ | refine afit_u8 (by omega) ?_ | rw [List.length_map]); ((conv => whnf); (repeat ((first | with_reducible refine abr_true rfl ?_ | with_reducible refine abr_false rfl ?_ | with_reducible refine abr_yes rfl ?_ | refine abr_yes (by decide) ?_ | refine abr_no (by decide) ?_ | with_reducible refine abr_same_ne ?_); (conv => whnf))))))
  exact aret_same ⟨rfl, rfl⟩

set_option maxRecDepth 20000 in
theorem usize (fi sn : Int) (l : List (List UInt8)) (w : Int) (σ : AHeap) (hw : umWidth w = true) : ACalls Try.prog i_umd_size [pkV fi sn l, i64v w] σ fun v σ' => v = i64v (fieldsV l (w / 5) 11) ∧ σ' = σ := by
  have hw2 := umWidth_iff.1 hw
  refine k_umd_size rfl ?_
  ((conv => whnf); (repeat ((first | with_reducible refine abr_true rfl ?_ | with_reducible refine abr_false rfl ?_ | with_reducible refine abr_yes rfl ?_ | refine abr_yes (by decide) ?_ | refine abr_no (by decide) ?_ | with_reducible refine abr_same_ne ?_); (conv => whnf))))
  refine anew rfl fun id hid => ?_
  have hs : Sub (upd σ id (.cells (pkV fi sn l).cells)) σ := Sub.upd_fresh _ hid
  ((conv => whnf); (repeat ((first | with_reducible refine abr_true rfl ?_ | with_reducible refine abr_false rfl ?_ | with_reducible refine abr_yes rfl ?_ | refine abr_yes (by decide) ?_ | refine abr_no (by decide) ?_ | with_reducible refine abr_same_ne ?_); (conv => whnf))))
  by_cases h1 : l.length < 1
  · (repeat ((first | refine aload (by (repeat (first | with_reducible exact upd_same _ _ _ | assumption | rw [upd_ne _ _ (by first | assumption | (apply Ne.symm; assumption))]))) rfl ?_ | refine afit_i64 (by omega) ?_ | refine arem_nonneg (by omega) (by omega) ?_ | refine adiv_i64 (by omega) (by omega) ?_ | refine abr_yes (by omega) ?_ | refine abr_no (by omega) ?_ | refine amin ?_ | refine amax ?_ | refine afit_u64 (by omega) ?_ | refine afit_u8 (by omega) ?_ | rw [List.length_map]); ((conv => whnf); (repeat ((first | with_reducible refine abr_true rfl ?_ | with_reducible refine abr_false rfl ?_ | with_reducible refine abr_yes rfl ?_ | refine abr_yes (by decide) ?_ | refine abr_no (by decide) ?_ | with_reducible refine abr_same_ne ?_); (conv => whnf))))))
    exact aret (VLe.refl _) hs ⟨by unfold fieldsV; rw [if_pos (.inl h1)], rfl⟩
  by_cases h2 : l.length > 24
  · (repeat ((first | refine aload (by (repeat (first | with_reducible exact upd_same _ _ _ | assumption | rw [upd_ne _ _ (by first | assumption | (apply Ne.symm; assumption))]))) rfl ?_ | refine afit_i64 (by omega) ?_ | refine arem_nonneg (by omega) (by omega) ?_ | refine adiv_i64 (by omega) (by omega) ?_ | refine abr_yes (by omega) ?_ | refine abr_no (by omega) ?_ | refine amin ?_ | refine amax ?_ | refine afit_u64 (by omega) ?_ | refine afit_u8 (by omega) ?_ | rw [List.length_map]); ((conv => whnf); (repeat ((first | with_reducible refine abr_true rfl ?_ | with_reducible refine abr_false rfl ?_ | with_reducible refine abr_yes rfl ?_ | refine abr_yes (by decide) ?_ | refine abr_no (by decide) ?_ | with_reducible refine abr_same_ne ?_); (conv => whnf))))))
    exact aret (VLe.refl _) hs ⟨by unfold fieldsV; rw [if_pos (.inr h2)], rfl⟩
  (repeat ((first | refine aload (by (repeat (first | with_reducible exact upd_same _ _ _ | assumption | rw [upd_ne _ _ (by first | assumption | (apply Ne.symm; assumption))]))) rfl ?_ | refine afit_i64 (by omega) ?_ | refine arem_nonneg (by omega) (by omega) ?_ | refine adiv_i64 (by omega) (by omega) ?_ | refine abr_yes (by omega) ?_ | refine abr_no (by omega) ?_ | refine amin ?_ | refine amax ?_ | refine afit_u64 (by omega) ?_ | refine afit_u8 (by omega) ?_ | rw [List.length_map]); ((conv => whnf); (repeat ((first | with_reducible refine abr_true rfl ?_ | with_reducible refine abr_false rfl ?_ | with_reducible refine abr_yes rfl ?_ | refine abr_yes (by decide) ?_ | refine abr_no (by decide) ?_ | with_reducible refine abr_same_ne ?_); (conv => whnf))))))
  refine acall (uHead w _ (by omega)) ?_
  rintro _ σ_ ⟨rfl, e_⟩
  obtain rfl := e_.symm
  refine ⟨?_, Ext.refl _⟩
  ((conv => whnf); (repeat ((first | with_reducible refine abr_true rfl ?_ | with_reducible refine abr_false rfl ?_ | with_reducible refine abr_yes rfl ?_ | refine abr_yes (by decide) ?_ | refine abr_no (by decide) ?_ | with_reducible refine abr_same_ne ?_); (conv => whnf))))
  refine acall (lSize ((l.length : Int) - 1) 11 _) ?_
  rintro _ σ_ ⟨rfl, e_⟩
  obtain rfl := e_.symm
  refine ⟨?_, Ext.refl _⟩
  ((conv => whnf); (repeat ((first | with_reducible refine abr_true rfl ?_ | with_reducible refine abr_false rfl ?_ | with_reducible refine abr_yes rfl ?_ | refine abr_yes (by decide) ?_ | refine abr_no (by decide) ?_ | with_reducible refine abr_same_ne ?_); (conv => whnf))))
  have hsz := sizeV_range ((l.length : Int) - 1) 11
  generalize hSZ : sizeV ((l.length : Int) - 1) 11 = sz at *
  (repeat ((first | refine aload (by (repeat (first | with_reducible exact upd_same _ _ _ | assumption | rw [upd_ne _ _ (by first | assumption | (apply Ne.symm; assumption))]))) rfl ?_ | refine afit_i64 (by omega) ?_ | refine arem_nonneg (by omega) (by omega) ?_ | refine adiv_i64 (by omega) (by omega) ?_ | refine abr_yes (by omega) ?_ | refine abr_no (by omega) ?_ | refine amin ?_ | refine amax ?_ | refine afit_u64 (by omega) ?_ | refine afit_u8 (by omega) ?_ | rw [List.length_map]); ((conv => whnf); (repeat ((first | with_reducible refine abr_true rfl ?_ | with_reducible refine abr_false rfl ?_ | with_reducible refine abr_yes rfl ?_ | refine abr_yes (by decide) ?_ | refine abr_no (by decide) ?_ | with_reducible refine abr_same_ne ?_); (conv => whnf))))))
  refine aloop (α := Nat × Int) (fun x => [(s5, i64v x.2), (s29, i64v x.1)]) (fun _ => upd σ id (.cells (pkV fi sn l).cells)) (fun x => x.1 ≤ l.length ∧ fieldsBad l x.1 = false ∧ x.2 = w / 5 + sz + (total (l.take x.1) : Int) ∧ x.2 ≤ 4000) (fun x => l.length - x.1) (0, w / 5 + sz) ⟨Nat.zero_le _, rfl, by show w / 5 + sz = w / 5 + sz + ((0 : Nat) : Int); omega, by dsimp only; omega⟩ (Sub.refl _) ?_ ?_
  · ((conv => whnf); (repeat ((first | with_reducible refine abr_true rfl ?_ | with_reducible refine abr_false rfl ?_ | with_reducible refine abr_yes rfl ?_ | refine abr_yes (by decide) ?_ | refine abr_no (by decide) ?_ | with_reducible refine abr_same_ne ?_); (conv => whnf))))
    (repeat' first | with_reducible exact EnvLe.refl _ | (refine EnvLe.node ?_ (by first | exact Or.inl rfl | exact Or.inr (Or.inl rfl) | exact Or.inr (Or.inr ⟨nofun, VLe.slice _ _ _⟩)) ?_))
  rintro ⟨i, n⟩ ⟨hi, hbad, hn, hle⟩
  dsimp only at hi hbad hn hle ⊢
  have hV (h : fieldsBad l l.length = true ∨ w / 5 + sz + (total l : Int) > 4000) : fieldsV l (w / 5) 11 = 0 := by
    unfold fieldsV
    rw [if_neg (by omega), hSZ]
    by_cases hb : fieldsBad l l.length = true
    · rw [if_pos hb]
    · rw [if_neg hb, if_pos (h.resolve_left hb)]
  by_cases h : i < l.length
  · have hts := total_take_succ l i h
    have htl := total_take_le l (i + 1)
    have hfb := fieldBad_get h
    have hsucc := fieldsBad_succ l i
    rw [hbad, Bool.false_or] at hsucc
    ((conv => whnf); (repeat ((first | with_reducible refine abr_true rfl ?_ | with_reducible refine abr_false rfl ?_ | with_reducible refine abr_yes rfl ?_ | refine abr_yes (by decide) ?_ | refine abr_no (by decide) ?_ | with_reducible refine abr_same_ne ?_); (conv => whnf))))
    (repeat ((first | refine aload (by (repeat (first | with_reducible exact upd_same _ _ _ | assumption | rw [upd_ne _ _ (by first | assumption | (apply Ne.symm; assumption))]))) rfl ?_ | refine afit_i64 (by omega) ?_ | refine arem_nonneg (by omega) (by omega) ?_ | refine adiv_i64 (by omega) (by omega) ?_ | refine abr_yes (by omega) ?_ | refine abr_no (by omega) ?_ | refine amin ?_ | refine amax ?_ | refine afit_u64 (by omega) ?_ | refine afit_u8 (by omega) ?_ | rw [List.length_map]); ((conv => whnf); (repeat ((first | with_reducible refine abr_true rfl ?_ | with_reducible refine abr_false rfl ?_ | with_reducible refine abr_yes rfl ?_ | refine abr_yes (by decide) ?_ | refine abr_no (by decide) ?_ | with_reducible refine abr_same_ne ?_); (conv => whnf))))))
    refine aget (by omega) (get_lists h) ?_
    ((conv => whnf); (repeat ((first | with_reducible refine abr_true rfl ?_ | with_reducible refine abr_false rfl ?_ | with_reducible refine abr_yes rfl ?_ | refine abr_yes (by decide) ?_ | refine abr_no (by decide) ?_ | with_reducible refine abr_same_ne ?_); (conv => whnf))))
    refine acell rfl ?_
    ((conv => whnf); (repeat ((first | with_reducible refine abr_true rfl ?_ | with_reducible refine abr_false rfl ?_ | with_reducible refine abr_yes rfl ?_ | refine abr_yes (by decide) ?_ | refine abr_no (by decide) ?_ | with_reducible refine abr_same_ne ?_); (conv => whnf))))
    rw [List.length_map]
    by_cases c1 : l[i].length = 0
    · (repeat ((first | refine aload (by (repeat (first | with_reducible exact upd_same _ _ _ | assumption | rw [upd_ne _ _ (by first | assumption | (apply Ne.symm; assumption))]))) rfl ?_ | refine afit_i64 (by omega) ?_ | refine arem_nonneg (by omega) (by omega) ?_ | refine adiv_i64 (by omega) (by omega) ?_ | refine abr_yes (by omega) ?_ | refine abr_no (by omega) ?_ | refine amin ?_ | refine amax ?_ | refine afit_u64 (by omega) ?_ | refine afit_u8 (by omega) ?_ | rw [List.length_map]); ((conv => whnf); (repeat ((first | with_reducible refine abr_true rfl ?_ | with_reducible refine abr_false rfl ?_ | with_reducible refine abr_yes rfl ?_ | refine abr_yes (by decide) ?_ | refine abr_no (by decide) ?_ | with_reducible refine abr_same_ne ?_); (conv => whnf))))))
      have hbd : fieldBad l i = true := by rw [hfb, decide_eq_true (.inl c1)]
      exact aret (VLe.refl _) hs ⟨by rw [hV (.inl (fieldsBad_of h hbd))], rfl⟩
    (repeat ((first | refine aload (by (repeat (first | with_reducible exact upd_same _ _ _ | assumption | rw [upd_ne _ _ (by first | assumption | (apply Ne.symm; assumption))]))) rfl ?_ | refine afit_i64 (by omega) ?_ | refine arem_nonneg (by omega) (by omega) ?_ | refine adiv_i64 (by omega) (by omega) ?_ | refine abr_yes (by omega) ?_ | refine abr_no (by omega) ?_ | refine amin ?_ | refine amax ?_ | refine afit_u64 (by omega) ?_ | refine afit_u8 (by omega) ?_ | rw [List.length_map]); ((conv => whnf); (repeat ((first | with_reducible refine abr_true rfl ?_ | with_reducible refine abr_false rfl ?_ | with_reducible refine abr_yes rfl ?_ | refine abr_yes (by decide) ?_ | refine abr_no (by decide) ?_ | with_reducible refine abr_same_ne ?_); (conv => whnf))))))
    by_cases c2 : l[i].length > 2047
    · (repeat ((first | refine aload (by (repeat (first | with_reducible exact upd_same _ _ _ | assumption | rw [upd_ne _ _ (by first | assumption | (apply Ne.symm; assumption))]))) rfl ?_ | refine afit_i64 (by omega) ?_ | refine arem_nonneg (by omega) (by omega) ?_ | refine adiv_i64 (by omega) (by omega) ?_ | refine abr_yes (by omega) ?_ | refine abr_no (by omega) ?_ | refine amin ?_ | refine amax ?_ | refine afit_u64 (by omega) ?_ | refine afit_u8 (by omega) ?_ | rw [List.length_map]); ((conv => whnf); (repeat ((first | with_reducible refine abr_true rfl ?_ | with_reducible refine abr_false rfl ?_ | with_reducible refine abr_yes rfl ?_ | refine abr_yes (by decide) ?_ | refine abr_no (by decide) ?_ | with_reducible refine abr_same_ne ?_); (conv => whnf))))))
      by_cases c3 : (i : Int) < (l.length : Int) - 1
      · (repeat ((first | refine aload (by (repeat (first | with_reducible exact upd_same _ _ _ | assumption | rw [upd_ne _ _ (by first | assumption | (apply Ne.symm; assumption))]))) rfl ?_ | refine afit_i64 (by omega) ?_ | refine arem_nonneg (by omega) (by omega) ?_ | refine adiv_i64 (by omega) (by omega) ?_ | refine abr_yes (by omega) ?_ | refine abr_no (by omega) ?_ | refine amin ?_ | refine amax ?_ | refine afit_u64 (by omega) ?_ | refine afit_u8 (by omega) ?_ | rw [List.length_map]); ((conv => whnf); (repeat ((first | with_reducible refine abr_true rfl ?_ | with_reducible refine abr_false rfl ?_ | with_reducible refine abr_yes rfl ?_ | refine abr_yes (by decide) ?_ | refine abr_no (by decide) ?_ | with_reducible refine abr_same_ne ?_); (conv => whnf))))))
        have hbd : fieldBad l i = true := by rw [hfb, decide_eq_true (.inr ⟨c2, by omega⟩)]
        exact aret (VLe.refl _) hs ⟨by rw [hV (.inl (fieldsBad_of h hbd))], rfl⟩
      · (repeat ((first | refine aload (by (repeat (first | with_reducible exact upd_same _ _ _ | assumption | rw [upd_ne _ _ (by first | assumption | (apply Ne.symm; assumption))]))) rfl ?_ | refine afit_i64 (by omega) ?_ | refine arem_nonneg (by omega) (by omega) ?_ | refine adiv_i64 (by omega) (by omega) ?_ | refine abr_yes (by omega) ?_ | refine abr_no (by omega) ?_ | refine amin ?_ | refine amax ?_ | refine afit_u64 (by omega) ?_ | refine afit_u8 (by omega) ?_ | rw [List.length_map]); ((conv => whnf); (repeat ((first | with_reducible refine abr_true rfl ?_ | with_reducible refine abr_false rfl ?_ | with_reducible refine abr_yes rfl ?_ | refine abr_yes (by decide) ?_ | refine abr_no (by decide) ?_ | with_reducible refine abr_same_ne ?_); (conv => whnf))))))
        have hbd : fieldBad l i = false := by rw [hfb]; exact decide_eq_false (by omega)
        by_cases c4 : (l[i].length : Int) > 4000 - n
        · (repeat ((first | refine aload (by (repeat (first | with_reducible exact upd_same _ _ _ | assumption | rw [upd_ne _ _ (by first | assumption | (apply Ne.symm; assumption))]))) rfl ?_ | refine afit_i64 (by omega) ?_ | refine arem_nonneg (by omega) (by omega) ?_ | refine adiv_i64 (by omega) (by omega) ?_ | refine abr_yes (by omega) ?_ | refine abr_no (by omega) ?_ | refine amin ?_ | refine amax ?_ | refine afit_u64 (by omega) ?_ | refine afit_u8 (by omega) ?_ | rw [List.length_map]); ((conv => whnf); (repeat ((first | with_reducible refine abr_true rfl ?_ | with_reducible refine abr_false rfl ?_ | with_reducible refine abr_yes rfl ?_ | refine abr_yes (by decide) ?_ | refine abr_no (by decide) ?_ | with_reducible refine abr_same_ne ?_); (conv => whnf))))))
          exact aret (VLe.refl _) hs ⟨by rw [hV (.inr (by omega))], rfl⟩
        · (repeat ((first | refine aload (by (repeat (first | with_reducible exact upd_same _ _ _ | assumption | rw [upd_ne _ _ (by first | assumption | (apply Ne.symm; assumption))]))) rfl ?_ | refine afit_i64 (by omega) ?_ | refine arem_nonneg (by omega) (by omega) ?_ | refine adiv_i64 (by omega) (by omega) ?_ | refine abr_yes (by omega) ?_ | refine abr_no (by omega) ?_ | refine amin ?_ | refine amax ?_ | refine afit_u64 (by omega) ?_ | refine afit_u8 (by omega) ?_ | rw [List.length_map]); ((conv => whnf); (repeat ((first | with_reducible refine abr_true rfl ?_ | with_reducible refine abr_false rfl ?_ | with_reducible refine abr_yes rfl ?_ | refine abr_yes (by decide) ?_ | refine abr_no (by decide) ?_ | with_reducible refine abr_same_ne ?_); (conv => whnf))))))
          refine ⟨(i + 1, n + l[i].length), ⟨h, by dsimp only; rw [hsucc, hbd], by dsimp only; omega, by dsimp only; omega⟩, by dsimp only; omega, Sub.refl _, ?_⟩
          ((conv => whnf); (repeat ((first | with_reducible refine abr_true rfl ?_ | with_reducible refine abr_false rfl ?_ | with_reducible refine abr_yes rfl ?_ | refine abr_yes (by decide) ?_ | refine abr_no (by decide) ?_ | with_reducible refine abr_same_ne ?_); (conv => whnf))))
          (repeat' first | with_reducible exact EnvLe.refl _ | (refine EnvLe.node ?_ (by first | exact Or.inl rfl | exact Or.inr (Or.inl rfl) | exact Or.inr (Or.inr ⟨nofun, VLe.slice _ _ _⟩)) ?_))
    · (repeat ((first | refine aload (by (repeat (first | with_reducible exact upd_same _ _ _ | assumption | rw [upd_ne _ _ (by first | assumption | (apply Ne.symm; assumption))]))) rfl ?_ | refine afit_i64 (by omega) ?_ | refine arem_nonneg (by omega) (by omega) ?_ | refine adiv_i64 (by omega) (by omega) ?_ | refine abr_yes (by omega) ?_ | refine abr_no (by omega) ?_ | refine amin ?_ | refine amax ?_ | refine afit_u64 (by omega) ?_ | refine afit_u8 (by omega) ?_ | rw [List.length_map]); ((conv => whnf); (repeat ((first | with_reducible refine abr_true rfl ?_ | with_reducible refine abr_false rfl ?_ | with_reducible refine abr_yes rfl ?_ | refine abr_yes (by decide) ?_ | refine abr_no (by decide) ?_ | with_reducible refine abr_same_ne ?_); (conv => whnf))))))
      have hbd : fieldBad l i = false := by rw [hfb]; exact decide_eq_false (by omega)
      by_cases c4 : (l[i].length : Int) > 4000 - n
      · (repeat ((first | refine aload (by (repeat (first | with_reducible exact upd_same _ _ _ | assumption | rw [upd_ne _ _ (by first | assumption | (apply Ne.symm; assumption))]))) rfl ?_ | refine afit_i64 (by omega) ?_ | refine arem_nonneg (by omega) (by omega) ?_ | refine adiv_i64 (by omega) (by omega) ?_ | refine abr_yes (by omega) ?_ | refine abr_no (by omega) ?_ | refine amin ?_ | refine amax ?_ | refine afit_u64 (by omega) ?_ | refine afit_u8 (by omega) ?_ | rw [List.length_map]); ((conv => whnf); (repeat ((first | with_reducible refine abr_true rfl ?_ | with_reducible refine abr_false rfl ?_ | with_reducible refine abr_yes rfl ?_ | refine abr_yes (by decide) ?_ | refine abr_no (by decide) ?_ | with_reducible refine abr_same_ne ?_); (conv => whnf))))))
        exact aret (VLe.refl _) hs ⟨by rw [hV (.inr (by omega))], rfl⟩
      · (repeat ((first | refine aload (by (repeat (first | with_reducible exact upd_same _ _ _ | assumption | rw [upd_ne _ _ (by first | assumption | (apply Ne.symm; assumption))]))) rfl ?_ | refine afit_i64 (by omega) ?_ | refine arem_nonneg (by omega) (by omega) ?_ | refine adiv_i64 (by omega) (by omega) ?_ | refine abr_yes (by omega) ?_ | refine abr_no (by omega) ?_ | refine amin ?_ | refine amax ?_ | refine afit_u64 (by omega) ?_ | refine afit_u8 (by omega) ?_ | rw [List.length_map]); ((conv => whnf); (repeat ((first | with_reducible refine abr_true rfl ?_ | with_reducible refine abr_false rfl ?_ | with_reducible refine abr_yes rfl ?_ | refine abr_yes (by decide) ?_ | refine abr_no (by decide) ?_ | with_reducible refine abr_same_ne ?_); (conv => whnf))))))
        refine ⟨(i + 1, n + l[i].length), ⟨h, by dsimp only; rw [hsucc, hbd], by dsimp only; omega, by dsimp only; omega⟩, by dsimp only; omega, Sub.refl _, ?_⟩
        ((conv => whnf); (repeat ((first | with_reducible refine abr_true rfl ?_ | with_reducible refine abr_false rfl ?_ | with_reducible refine abr_yes rfl ?_ | refine abr_yes (by decide) ?_ | refine abr_no (by decide) ?_ | with_reducible refine abr_same_ne ?_); (conv => whnf))))
        (repeat' first | with_reducible exact EnvLe.refl _ | (refine EnvLe.node ?_ (by first | exact Or.inl rfl | exact Or.inr (Or.inl rfl) | exact Or.inr (Or.inr ⟨nofun, VLe.slice _ _ _⟩)) ?_))
  · obtain rfl : i = l.length := by omega
    rw [List.take_of_length_le (Nat.le_refl _)] at hn
    ((conv => whnf); (repeat ((first | with_reducible refine abr_true rfl ?_ | with_reducible refine abr_false rfl ?_ | with_reducible refine abr_yes rfl ?_ | refine abr_yes (by decide) ?_ | refine abr_no (by decide) ?_ | with_reducible refine abr_same_ne ?_); (conv => whnf))))
    (repeat ((first | refine aload (by (repeat (first | with_reducible exact upd_same _ _ _ | assumption | rw [upd_ne _ _ (by first | assumption | (apply Ne.symm; assumption))]))) rfl ?_ | refine afit_i64 (by omega) ?_ | refine arem_nonneg (by omega) (by omega) ?_ | refine adiv_i64 (by omega) (by omega) ?_ | refine abr_yes (by omega) ?_ | refine abr_no (by omega) ?_ | refine amin ?_ | refine amax ?_ | refine afit_u64 (by omega) ?_ | refine afit_u8 (by omega) ?_ | rw [List.length_map]); ((conv => whnf); (repeat ((first | with_reducible refine abr_true rfl ?_ | with_reducible refine abr_false rfl ?_ | with_reducible refine abr_yes rfl ?_ | refine abr_yes (by decide) ?_ | refine abr_no (by decide) ?_ | with_reducible refine abr_same_ne ?_); (conv => whnf))))))
    refine aret (VLe.refl _) hs ⟨?_, rfl⟩
    unfold fieldsV
    rw [if_neg (by omega), hbad, hSZ, if_neg (by simp), if_neg (by omega), hn]

set_option maxRecDepth 20000 in
theorem uSize (fi sn : Int) (l : List (List UInt8)) (w : Int) (σ : AHeap) : ACalls Try.prog i_umd_Size [pkV fi sn l, i64v w] σ fun v σ' => v = i64v (umSize fi sn l w) ∧ σ' = σ := by
  refine k_umd_Size rfl ?_
  ((conv => whnf); (repeat ((first | with_reducible refine abr_true rfl ?_ | with_reducible refine abr_false rfl ?_ | with_reducible refine abr_yes rfl ?_ | refine abr_yes (by decide) ?_ | refine abr_no (by decide) ?_ | with_reducible refine abr_same_ne ?_); (conv => whnf))))
  refine anew rfl fun id hid => ?_
  ((conv => whnf); (repeat ((first | with_reducible refine abr_true rfl ?_ | with_reducible refine abr_false rfl ?_ | with_reducible refine abr_yes rfl ?_ | refine abr_yes (by decide) ?_ | refine abr_no (by decide) ?_ | with_reducible refine abr_same_ne ?_); (conv => whnf))))
  refine anew rfl fun id2 hid2 => ?_
  have hne : id ≠ id2 := fun e => by subst e; rw [upd_same] at hid2; cases hid2
  ((conv => whnf); (repeat ((first | with_reducible refine abr_true rfl ?_ | with_reducible refine abr_false rfl ?_ | with_reducible refine abr_yes rfl ?_ | refine abr_yes (by decide) ?_ | refine abr_no (by decide) ?_ | with_reducible refine abr_same_ne ?_); (conv => whnf))))
  refine astore (xs := [i64v w]) (l := [i64v w]) (upd_same _ _ _) (Nat.le_of_ble_eq_true rfl) rfl rfl ?_
  rw [upd_upd]
  have hs : Sub (upd (upd σ id (.cells (pkV fi sn l).cells)) id2 (.cells [i64v w])) σ := (Sub.upd_fresh _ hid2).trans (Sub.upd_fresh _ hid)
  ((conv => whnf); (repeat ((first | with_reducible refine abr_true rfl ?_ | with_reducible refine abr_false rfl ?_ | with_reducible refine abr_yes rfl ?_ | refine abr_yes (by decide) ?_ | refine abr_no (by decide) ?_ | with_reducible refine abr_same_ne ?_); (conv => whnf))))
  refine acall (uIsWidth w _) ?_
  rintro _ σ_ ⟨rfl, e_⟩
  obtain rfl := e_.symm
  refine ⟨?_, Ext.refl _⟩
  ((conv => whnf); (repeat ((first | with_reducible refine abr_true rfl ?_ | with_reducible refine abr_false rfl ?_ | with_reducible refine abr_yes rfl ?_ | refine abr_yes (by decide) ?_ | refine abr_no (by decide) ?_ | with_reducible refine abr_same_ne ?_); (conv => whnf))))
  by_cases hw : umWidth w = true
  · rw [hw]
    ((conv => whnf); (repeat ((first | with_reducible refine abr_true rfl ?_ | with_reducible refine abr_false rfl ?_ | with_reducible refine abr_yes rfl ?_ | refine abr_yes (by decide) ?_ | refine abr_no (by decide) ?_ | with_reducible refine abr_same_ne ?_); (conv => whnf))))
    (repeat ((first | refine aload (by (repeat (first | with_reducible exact upd_same _ _ _ | assumption | rw [upd_ne _ _ (by first | assumption | (apply Ne.symm; assumption))]))) rfl ?_ | refine afit_i64 (by omega) ?_ | refine arem_nonneg (by omega) (by omega) ?_ | refine adiv_i64 (by omega) (by omega) ?_ | refine abr_yes (by omega) ?_ | refine abr_no (by omega) ?_ | refine amin ?_ | refine amax ?_ | refine afit_u64 (by omega) ?_ | refine afit_u8 (by omega) ?_ | rw [List.length_map]); ((conv => whnf); (repeat ((first | with_reducible refine abr_true rfl ?_ | with_reducible refine abr_false rfl ?_ | with_reducible refine abr_yes rfl ?_ | refine abr_yes (by decide) ?_ | refine abr_no (by decide) ?_ | with_reducible refine abr_same_ne ?_); (conv => whnf))))))
    by_cases h1 : fi < 0
    · (repeat ((first | refine aload (by (repeat (first | with_reducible exact upd_same _ _ _ | assumption | rw [upd_ne _ _ (by first | assumption | (apply Ne.symm; assumption))]))) rfl ?_ | refine afit_i64 (by omega) ?_ | refine arem_nonneg (by omega) (by omega) ?_ | refine adiv_i64 (by omega) (by omega) ?_ | refine abr_yes (by omega) ?_ | refine abr_no (by omega) ?_ | refine amin ?_ | refine amax ?_ | refine afit_u64 (by omega) ?_ | refine afit_u8 (by omega) ?_ | rw [List.length_map]); ((conv => whnf); (repeat ((first | with_reducible refine abr_true rfl ?_ | with_reducible refine abr_false rfl ?_ | with_reducible refine abr_yes rfl ?_ | refine abr_yes (by decide) ?_ | refine abr_no (by decide) ?_ | with_reducible refine abr_same_ne ?_); (conv => whnf))))))
      exact aret (VLe.refl _) hs ⟨by unfold umSize; rw [if_pos (.inr (.inl h1))], rfl⟩
    (repeat ((first | refine aload (by (repeat (first | with_reducible exact upd_same _ _ _ | assumption | rw [upd_ne _ _ (by first | assumption | (apply Ne.symm; assumption))]))) rfl ?_ | refine afit_i64 (by omega) ?_ | refine arem_nonneg (by omega) (by omega) ?_ | refine adiv_i64 (by omega) (by omega) ?_ | refine abr_yes (by omega) ?_ | refine abr_no (by omega) ?_ | refine amin ?_ | refine amax ?_ | refine afit_u64 (by omega) ?_ | refine afit_u8 (by omega) ?_ | rw [List.length_map]); ((conv => whnf); (repeat ((first | with_reducible refine abr_true rfl ?_ | with_reducible refine abr_false rfl ?_ | with_reducible refine abr_yes rfl ?_ | refine abr_yes (by decide) ?_ | refine abr_no (by decide) ?_ | with_reducible refine abr_same_ne ?_); (conv => whnf))))))
    by_cases h2 : fi > 3
    · (repeat ((first | refine aload (by (repeat (first | with_reducible exact upd_same _ _ _ | assumption | rw [upd_ne _ _ (by first | assumption | (apply Ne.symm; assumption))]))) rfl ?_ | refine afit_i64 (by omega) ?_ | refine arem_nonneg (by omega) (by omega) ?_ | refine adiv_i64 (by omega) (by omega) ?_ | refine abr_yes (by omega) ?_ | refine abr_no (by omega) ?_ | refine amin ?_ | refine amax ?_ | refine afit_u64 (by omega) ?_ | refine afit_u8 (by omega) ?_ | rw [List.length_map]); ((conv => whnf); (repeat ((first | with_reducible refine abr_true rfl ?_ | with_reducible refine abr_false rfl ?_ | with_reducible refine abr_yes rfl ?_ | refine abr_yes (by decide) ?_ | refine abr_no (by decide) ?_ | with_reducible refine abr_same_ne ?_); (conv => whnf))))))
      exact aret (VLe.refl _) hs ⟨by unfold umSize; rw [if_pos (.inr (.inr (.inl h2)))], rfl⟩
    (repeat ((first | refine aload (by (repeat (first | with_reducible exact upd_same _ _ _ | assumption | rw [upd_ne _ _ (by first | assumption | (apply Ne.symm; assumption))]))) rfl ?_ | refine afit_i64 (by omega) ?_ | refine arem_nonneg (by omega) (by omega) ?_ | refine adiv_i64 (by omega) (by omega) ?_ | refine abr_yes (by omega) ?_ | refine abr_no (by omega) ?_ | refine amin ?_ | refine amax ?_ | refine afit_u64 (by omega) ?_ | refine afit_u8 (by omega) ?_ | rw [List.length_map]); ((conv => whnf); (repeat ((first | with_reducible refine abr_true rfl ?_ | with_reducible refine abr_false rfl ?_ | with_reducible refine abr_yes rfl ?_ | refine abr_yes (by decide) ?_ | refine abr_no (by decide) ?_ | with_reducible refine abr_same_ne ?_); (conv => whnf))))))
    refine aloads (l := [i64v w]) (upd_same _ _ _) (by exact Nat.le_refl 1) rfl ?_
    ((conv => whnf); (repeat ((first | with_reducible refine abr_true rfl ?_ | with_reducible refine abr_false rfl ?_ | with_reducible refine abr_yes rfl ?_ | refine abr_yes (by decide) ?_ | refine abr_no (by decide) ?_ | with_reducible refine abr_same_ne ?_); (conv => whnf))))
    (repeat ((first | refine aload (by (repeat (first | with_reducible exact upd_same _ _ _ | assumption | rw [upd_ne _ _ (by first | assumption | (apply Ne.symm; assumption))]))) rfl ?_ | refine afit_i64 (by omega) ?_ | refine arem_nonneg (by omega) (by omega) ?_ | refine adiv_i64 (by omega) (by omega) ?_ | refine abr_yes (by omega) ?_ | refine abr_no (by omega) ?_ | refine amin ?_ | refine amax ?_ | refine afit_u64 (by omega) ?_ | refine afit_u8 (by omega) ?_ | rw [List.length_map]); ((conv => whnf); (repeat ((first | with_reducible refine abr_true rfl ?_ | with_reducible refine abr_false rfl ?_ | with_reducible refine abr_yes rfl ?_ | refine abr_yes (by decide) ?_ | refine abr_no (by decide) ?_ | with_reducible refine abr_same_ne ?_); (conv => whnf))))))
    refine acall (sqIs w sn _) ?_
    rintro _ σ_ ⟨rfl, e_⟩
    obtain rfl := e_.symm
    refine ⟨?_, Ext.refl _⟩
    ((conv => whnf); (repeat ((first | with_reducible refine abr_true rfl ?_ | with_reducible refine abr_false rfl ?_ | with_reducible refine abr_yes rfl ?_ | refine abr_yes (by decide) ?_ | refine abr_no (by decide) ?_ | with_reducible refine abr_same_ne ?_); (conv => whnf))))
    by_cases h3 : isNum w sn = true
    · rw [h3]
      ((conv => whnf); (repeat ((first | with_reducible refine abr_true rfl ?_ | with_reducible refine abr_false rfl ?_ | with_reducible refine abr_yes rfl ?_ | refine abr_yes (by decide) ?_ | refine abr_no (by decide) ?_ | with_reducible refine abr_same_ne ?_); (conv => whnf))))
      refine aloads (l := [i64v fi, i64v sn, lists .none l]) (by (repeat (first | with_reducible exact upd_same _ _ _ | assumption | rw [upd_ne _ _ (by first | assumption | (apply Ne.symm; assumption))]))) (by exact Nat.le_refl 3) rfl ?_
      ((conv => whnf); (repeat ((first | with_reducible refine abr_true rfl ?_ | with_reducible refine abr_false rfl ?_ | with_reducible refine abr_yes rfl ?_ | refine abr_yes (by decide) ?_ | refine abr_no (by decide) ?_ | with_reducible refine abr_same_ne ?_); (conv => whnf))))
      refine acall (usize fi sn l w _ hw) ?_
      rintro _ σ_ ⟨rfl, e_⟩
      obtain rfl := e_.symm
      refine ⟨?_, Ext.refl _⟩
      ((conv => whnf); (repeat ((first | with_reducible refine abr_true rfl ?_ | with_reducible refine abr_false rfl ?_ | with_reducible refine abr_yes rfl ?_ | refine abr_yes (by decide) ?_ | refine abr_no (by decide) ?_ | with_reducible refine abr_same_ne ?_); (conv => whnf))))
      refine aret (VLe.refl _) hs ⟨?_, rfl⟩
      unfold umSize
      rw [hw, h3, if_neg]
      rintro (h | h | h | h)
      · cases h
      · exact h1 h
      · exact h2 h
      · cases h
    · rw [Bool.eq_false_iff.2 h3]
      ((conv => whnf); (repeat ((first | with_reducible refine abr_true rfl ?_ | with_reducible refine abr_false rfl ?_ | with_reducible refine abr_yes rfl ?_ | refine abr_yes (by decide) ?_ | refine abr_no (by decide) ?_ | with_reducible refine abr_same_ne ?_); (conv => whnf))))
      exact aret (VLe.refl _) hs ⟨by unfold umSize; rw [if_pos (.inr (.inr (.inr (Bool.eq_false_iff.2 h3))))], rfl⟩
  · rw [Bool.eq_false_iff.2 hw]
    ((conv => whnf); (repeat ((first | with_reducible refine abr_true rfl ?_ | with_reducible refine abr_false rfl ?_ | with_reducible refine abr_yes rfl ?_ | refine abr_yes (by decide) ?_ | refine abr_no (by decide) ?_ | with_reducible refine abr_same_ne ?_); (conv => whnf))))
    exact aret (VLe.refl _) hs ⟨by unfold umSize; rw [if_pos (.inl (Bool.eq_false_iff.2 hw))], rfl⟩

theorem uRight (fi sn : Int) (l : List (List UInt8)) (w : Int) (σ : AHeap) : ACalls Try.prog i_umd_Right [pkV fi sn l, i64v w] σ fun v σ' => v = boolv (decide (umSize fi sn l w > 0)) ∧ σ' = σ := by
  refine k_umd_Right rfl ?_
  ((conv => whnf); (repeat ((first | with_reducible refine abr_true rfl ?_ | with_reducible refine abr_false rfl ?_ | with_reducible refine abr_yes rfl ?_ | refine abr_yes (by decide) ?_ | refine abr_no (by decide) ?_ | with_reducible refine abr_same_ne ?_); (conv => whnf))))
  refine anew rfl fun id hid => ?_
  have hs : Sub (upd σ id (.cells (pkV fi sn l).cells)) σ := Sub.upd_fresh _ hid
  ((conv => whnf); (repeat ((first | with_reducible refine abr_true rfl ?_ | with_reducible refine abr_false rfl ?_ | with_reducible refine abr_yes rfl ?_ | refine abr_yes (by decide) ?_ | refine abr_no (by decide) ?_ | with_reducible refine abr_same_ne ?_); (conv => whnf))))
  refine aloads (l := [i64v fi, i64v sn, lists .none l]) (upd_same _ _ _) (by exact Nat.le_refl 3) rfl ?_
  ((conv => whnf); (repeat ((first | with_reducible refine abr_true rfl ?_ | with_reducible refine abr_false rfl ?_ | with_reducible refine abr_yes rfl ?_ | refine abr_yes (by decide) ?_ | refine abr_no (by decide) ?_ | with_reducible refine abr_same_ne ?_); (conv => whnf))))
  refine acall (uSize fi sn l w _) ?_
  rintro _ σ_ ⟨rfl, e_⟩
  obtain rfl := e_.symm
  refine ⟨?_, Ext.refl _⟩
  ((conv => whnf); (repeat ((first | with_reducible refine abr_true rfl ?_ | with_reducible refine abr_false rfl ?_ | with_reducible refine abr_yes rfl ?_ | refine abr_yes (by decide) ?_ | refine abr_no (by decide) ?_ | with_reducible refine abr_same_ne ?_); (conv => whnf))))
  exact aret (VLe.refl _) hs ⟨congrArg boolv (dec_congr Iff.rfl), rfl⟩
end Go.Proofs.Ythjjkcmiachpcaa
/-
  bytes.Join, out of the library's own contract.
-/
namespace Go.Proofs.Ythjjkcmiachpcaa
set_option linter.unusedVariables false
set_option linter.unusedSimpArgs false
open Go Go.Am Go.Shelf Go.Lib
open Go.RowKit (Below)

theorem Inv_fresh {κ : Ghost} {σ : AHeap} {w w' : World} (h : Inv κ σ w) (hb : Below w.heap.size w w') {g : Nat} (hg : w.heap.size ≤ g) {vs : List Value} (ho : Ones vs) (hc : ∀ i v, vs[i]? = some v → w'.cell? ⟨g, i, none⟩ = some v) :
    ∃ κ', κ.le κ' ∧ Inv κ' σ w' ∧ ∀ i v, vs[i]? = some v → κ'.cell g i = some v := by
  have old : ∀ b o v, κ.cell b o = some v → b < w.heap.size := by
    intro b o v e
    have := (h.cell b o v e).1
    unfold World.cell? at this
    refine Classical.byContradiction fun hn => ?_
    rw [show w.heap[b]? = none from Array.getElem?_eq_none (by omega)] at this
    cases this
  have hle : κ.le { κ with cell := fun b o => if b = g then vs[o]? else κ.cell b o } := by
    refine ⟨rfl, rfl, fun b o v e => ?_, fun _ _ e => e, fun _ _ e => e, fun _ _ e => e⟩
    have := old b o v e
    dsimp only
    rw [if_neg (by omega)]; exact e
  refine ⟨_, hle, ?_, fun i v e => ?_⟩
  · refine ⟨h.below.trans (hb.mono h.base), Nat.le_trans h.base hb.size, ?_, ?_, ?_, h.inj, ?_, ?_, ?_, h.fin⟩
    · intro b o v e
      dsimp only at e
      by_cases hbg : b = g
      · rw [if_pos hbg] at e
        subst hbg
        exact ⟨hc o v e, ho v (List.mem_of_getElem? e)⟩
      · rw [if_neg hbg] at e
        obtain ⟨h1, h2⟩ := h.cell b o v e
        exact ⟨by rw [hb.cell (p := ⟨b, o, none⟩) (old b o v e)]; exact h1, h2⟩
    · intro b n e
      obtain ⟨c, ety, f, h1, h2⟩ := h.size b n e
      have hlt : b < w.heap.size := (Array.getElem?_eq_some_iff.1 h1).1
      exact ⟨c, ety, f, by rw [hb.block b hlt]; exact h1, h2⟩
    · intro i b e
      obtain ⟨h1, h2, h3⟩ := h.obj i b e
      refine ⟨h1, Nat.lt_of_lt_of_le h2 hb.size, fun hl o => ?_⟩
      dsimp only
      rw [if_neg (by omega)]; exact h3 hl o
    · intro i cs e
      obtain ⟨b, c, ety, vs', us, h1, h2, h3, h4, h5, h6, h7⟩ := h.cells i cs e
      have hlt := (h.obj i b h1).2.1
      refine ⟨b, c, ety, vs', us, h1, by rw [hb.block b hlt]; exact h2, h3, h4, RepL.mono hle h5, h6, h7⟩
    · intro i es e
      obtain ⟨b, c, clk, h1, h2, h3, h4⟩ := h.map i es e
      have hlt := (h.obj i b h1).2.1
      refine ⟨b, c, clk, h1, by rw [hb.block b hlt]; exact h2, h3, RepL.mono hle h4⟩
    · intro t b p e k
      obtain ⟨h1, ⟨c, ety, h2, h3⟩, h4, h5, h6⟩ := h.tip t b p e k
      have hlt : b < w.heap.size := (Array.getElem?_eq_some_iff.1 h2).1
      refine ⟨h1, ⟨c, ety, by rw [hb.block b hlt]; exact h2, h3⟩, fun o ho => ?_, h5, h6⟩
      dsimp only
      rw [if_neg (by omega)]; exact h4 o ho
  · dsimp only; rw [if_pos rfl]; exact e

theorem bytes_reps (κ : Ghost) : ∀ (l : List UInt8), RepL κ ((l.map byteV).flatMap AVal.cells) (l.map fun x => Value.int .u8 (x.toNat : Int))
  | [] => .nil
  | x :: l => .cons (.v rfl) (bytes_reps κ l)
theorem bytes_vals {κ : Ghost} : ∀ {l : List UInt8} {vs : List Value}, RepL κ ((l.map byteV).flatMap AVal.cells) vs → vs = l.map fun x => Value.int .u8 (x.toNat : Int)
  | [], _, h => by cases h; rfl
  | x :: l, _, h => by
    have h : RepL κ (byteV x :: (l.map byteV).flatMap AVal.cells) _ := h
    cases h with
    | cons h1 h2 =>
      obtain ⟨rfl, _⟩ := h1.v_inv
      rw [bytes_vals h2]; rfl

/-- A fresh slice of bytes, as the framework's. -/
theorem of_fresh {κ : Ghost} {σ : AHeap} {w w' : World} (h : Inv κ σ w) (hb : Below w.heap.size w w') {v : Value} {l : List UInt8} (hf : FreshBytes w.heap.size w' v l) : ∃ κ', κ.le κ' ∧ Inv κ' σ w' ∧ RepV κ' (sl .none l) v := by
  obtain ⟨g, cap, zs, rfl, hg, hcap, _, hz, hr, hbs, hcell, _⟩ := hf
  have hl : (zs.take l.length).length = l.length := by rw [List.length_take]; omega
  obtain ⟨κ', k1, k2, k3⟩ := Inv_fresh h hb hg (vs := l.map fun x => Value.int .u8 (x.toNat : Int)) (by intro v hv; obtain ⟨x, _, rfl⟩ := List.mem_map.1 hv; rfl) (by
    intro i v hv
    rw [List.getElem?_map] at hv
    obtain ⟨x, hx, rfl⟩ := Option.map_eq_some_iff.1 hv
    have hi : i < l.length := (List.getElem?_eq_some_iff.1 hx).1
    rw [hcell i (by omega)]
    rw [← hbs] at hx
    unfold bytesOf at hx
    rw [List.getElem?_map, List.getElem?_take_of_lt hi] at hx
    obtain ⟨z, hz2, rfl⟩ := Option.map_eq_some_iff.1 hx
    have hzr := hr z (List.mem_of_getElem? hz2)
    rw [List.getD_eq_getElem?_getD, hz2, Option.getD_some, UInt8.toNat_ofNat']
    congr 2; omega)
  refine ⟨κ', k1, k2, .slice (vs := l.map fun x => Value.int .u8 (x.toNat : Int)) (by rw [List.length_map]) hcap (bytes_one l) (bytes_reps κ' l) (fun i v hv => ?_) trivial⟩
  rw [Nat.zero_add]; exact k3 i v hv

theorem holds_of {κ : Ghost} {σ : AHeap} {w : World} (h : Inv κ σ w) {l : List UInt8} {t : Tok} {v : Value} (hr : RepV κ (sl t l) v) : HoldsBytes w v l := by
  rcases hr.slice_inv with ⟨⟨a, rfl⟩, hn⟩ | ⟨b, off, cap, vs, rfl, g2, g3, g4, g5, g6⟩
  · have hn : l = [] := by simpa using hn
    subst hn
    exact ⟨a, 0, rfl, fun _ => rfl, fun a h i x hx => by simp at hx⟩
  · rw [List.length_map] at g2 ⊢
    refine ⟨some ⟨b, off, none⟩, cap, rfl, nofun, fun a ha i x hx => ?_⟩
    cases ha
    rw [addr_eq]
    have := bytes_vals g4
    subst this
    exact (h.cell b (off + i) _ (g5 i _ (by rw [List.getElem?_map, hx]; rfl))).1

theorem parts_reps {κ : Ghost} {σ : AHeap} {w : World} (h : Inv κ σ w) : ∀ {l : List (List UInt8)} {vs : List Value}, RepL κ ((l.map (sl .none)).flatMap AVal.cells) vs → vs.length = l.length ∧ ∀ (i : Nat) v x, vs[i]? = some v → l[i]? = some x → HoldsBytes w v x
  | [], _, hr => by cases hr; exact ⟨rfl, fun i v x h => by simp at h⟩
  | a :: l, _, hr => by
    have hr : RepL κ (sl .none a :: (l.map (sl .none)).flatMap AVal.cells) _ := hr
    cases hr with
    | cons h1 h2 =>
      obtain ⟨e1, e2⟩ := parts_reps h h2
      refine ⟨by rw [List.length_cons, List.length_cons, e1], fun i v x hv hx => ?_⟩
      cases i with
      | zero => simp at hv hx; subst hv; subst hx; exact holds_of h h1
      | succ i => simp at hv hx; exact e2 i v x hv hx

theorem join_flatten : ∀ (l : List (List UInt8)), Lib.join l [] = l.flatten
  | [] => rfl
  | a :: l => by rw [Lib.join_cons]; unfold joinTail; simp

shelf_lay SlLaysJ.n14 Slb 14 at Try as Try.lays14

abbrev i_bytes_Join : FuncId := Try.lays14_ren.f 14
theorem Join (l : List (List UInt8)) (t u : Tok) (σ : AHeap) (hn : l.length ≤ 140737488355328) (hlen : l.flatten.length ≤ 140737488355328) :
    ACalls Try.prog i_bytes_Join [.slice 1 (l.map (sl .none)) t, .slice 1 [] u] σ fun v σ' => v = sl .none l.flatten ∧ σ' = σ := by
  rw [ACalls_def]
  intro κ w cargs hI hr
  cases hr with | cons h1 hr =>
  cases hr with | cons h2 hr =>
  cases hr
  have hS : HoldsBytes w _ [] := holds_of (l := []) hI h2
  rename_i v1 v2
  rcases h1.slice_inv with ⟨⟨a, rfl⟩, hl⟩ | ⟨b, off, cap, vs, rfl, g2, g3, g4, g5, g6⟩
  · have hl : l = [] := by simpa using hl
    subst hl
    refine (Any.bytes_Join_none Try.lays14 a 0 v2 w).mono fun e w' ⟨he, hw⟩ => ?_
    subst he; subst hw
    have hb : Below w.heap.size w (w.alloc (.cells #[] (Try.lays14_ren.t 5))) := (Below.refl _ w).alloc (Nat.le_refl _) _
    obtain ⟨κ', k1, k2, _⟩ := Inv_fresh hI hb (Nat.le_refl _) (vs := []) (by intro v hv; simp at hv) (by intro i v hv; simp at hv)
    exact ⟨_, κ', σ, _, rfl, k1, k2, .nil, rfl, rfl⟩
  · rw [List.length_map] at g2 ⊢
    obtain ⟨e1, e2⟩ := parts_reps hI g4
    have hcell : ∀ (i : Nat) v, vs[i]? = some v → w.cell? (Addr.add ⟨b, off, none⟩ i) = some v := fun i v hv => by rw [addr_eq]; exact (hI.cell b (off + i) v (g5 i v hv)).1
    match l, vs, e1 with
    | [], _, _ =>
      refine (Any.bytes_Join_none Try.lays14 (some ⟨b, off, none⟩) cap v2 w).mono fun e w' ⟨he, hw⟩ => ?_
      subst he; subst hw
      have hb : Below w.heap.size w (w.alloc (.cells #[] (Try.lays14_ren.t 5))) := (Below.refl _ w).alloc (Nat.le_refl _) _
      obtain ⟨κ', k1, k2, _⟩ := Inv_fresh hI hb (Nat.le_refl _) (vs := []) (by intro v hv; simp at hv) (by intro i v hv; simp at hv)
      exact ⟨_, κ', σ, _, rfl, k1, k2, .nil, rfl, rfl⟩
    | [x], [v0], _ =>
      obtain ⟨p, c0, rfl, hp, hbytes⟩ := e2 0 v0 x rfl rfl
      have hc0 := hcell 0 _ rfl
      rw [addr_eq, Nat.add_zero] at hc0
      by_cases hx : x.length = 0
      · have hx : x = [] := List.length_eq_zero_iff.1 hx
        subst hx
        refine (Any.bytes_Join_one_empty Try.lays14 b off cap p c0 v2 w hc0).mono fun e w' ⟨he, hw⟩ => ?_
        subst he; subst hw
        exact ⟨_, κ, σ, _, rfl, Ghost.le.refl κ, hI, .nil, rfl, rfl⟩
      · cases p with
        | none => rw [hp rfl] at hx; exact absurd rfl hx
        | some a =>
          simp only [List.flatten_cons, List.flatten_nil, List.append_nil] at hlen ⊢
          refine (Any.bytes_Join_one Try.lays14 b off cap a c0 x v2 w hc0 (hbytes a rfl) (by omega) hlen).mono fun e w' ⟨v', he, hf, hb⟩ => ?_
          subst he
          obtain ⟨κ', k1, k2, k3⟩ := of_fresh hI hb hf
          exact ⟨_, κ', σ, _, rfl, k1, k2, k3, rfl, rfl⟩
    | x :: y :: l, vs, e1 =>
      have hlens : Lib.lens (x :: y :: l) = (x :: y :: l).flatten.length := by unfold Lib.lens; rw [List.length_flatten]
      refine (Any.bytes_Join_many Try.lays14 b off (x :: y :: l).length cap vs (x :: y :: l) v2 [] w rfl (by simp) ⟨e1, hcell, e2⟩ g2 hS hn (by rw [hlens]; simpa using hlen)).mono fun e w' ⟨v', he, hf, hb⟩ => ?_
      subst he
      rw [join_flatten] at hf
      obtain ⟨κ', k1, k2, k3⟩ := of_fresh hI hb hf
      exact ⟨_, κ', σ, _, rfl, k1, k2, k3, rfl, rfl⟩
end Go.Proofs.Ythjjkcmiachpcaa
/-
  Appending to a slice with the right to, whatever else stands beside it.
-/
namespace Go.Proofs.Ythjjkcmiachpcaa
set_option linter.unusedVariables false
open Go Go.Am

theorem aapp_sub {σ σa σ2 : AHeap} {s bytes : Nat} {xs ys : List AVal} {tk : Tok} {K : AVal → AHeap → Prop} (ho : Owned σ σa tk) (hs : Sub σ2 σa) (hl : (xs.length + ys.length) * bytes ≤ 140737488355328)
    (h : ∀ tk' σ3 σ4, Owned σ σ4 tk' → Sub σ3 σ4 → K (.slice s (xs ++ ys) tk') σ3) : AApp σ2 s bytes xs tk ys K := by
  have fresh : ∀ t', σ2 t' = none → σ t' = none := by
    intro t' ht'
    cases e : σ t' with
    | none => rfl
    | some o => rw [hs _ _ (ho.same_of e)] at ht'; cases ht'
  rcases ho with ⟨rfl, rfl⟩ | ⟨t, h0, rfl, rfl⟩
  · exact aapp_full hl fun t ht => h _ _ _ (.tip (fresh t ht)) (Sub.upd hs _ _)
  · refine aapp_tip (hs _ _ (upd_same _ _ _)) hl fun t' ht' => ?_
    refine h _ _ _ (.tip (fresh t' ht')) (Sub.upd ?_ _ _)
    intro i o e
    have hit : i ≠ t := fun k => by subst k; rw [h0] at e; cases e
    rw [del_ne _ hit]
    exact hs _ _ (by rw [upd_ne _ _ hit]; exact e)
/-- What stands above what has the right to append may (repeat ((first | refine aload (by (repeat (first | with_reducible exact upd_same _ _ _ | assumption | rw [upd_ne _ _ (by first | assumption | (apply Ne.symm; assumption))]))) rfl ?_ | refine afit_i64 (by omega) ?_ | refine arem_nonneg (by omega) (by omega) ?_ | refine adiv_i64 (by omega) (by omega) ?_ | refine abr_yes (by omega) ?_ | refine abr_no (by omega) ?_ | refine amin ?_ | refine amax ?_ | refine afit_u64 (by omega) ?_ | refine afit_u8 (by omega) ?_ | rw [List.length_map]); ((conv => whnf); (repeat ((first | with_reducible refine abr_true rfl ?_ | with_reducible refine abr_false rfl ?_ | with_reducible refine abr_yes rfl ?_ | refine abr_yes (by decide) ?_ | refine abr_no (by decide) ?_ | with_reducible refine abr_same_ne ?_); (conv => whnf)))))). -/
theorem Owned.less {σ σx σ3 : AHeap} {tk : Tok} (h : Owned σx σ3 tk) (hs : Sub σx σ) : ∃ σ4, Owned σ σ4 tk ∧ Sub σ3 σ4 := by
  rcases h with ⟨rfl, rfl⟩ | ⟨t, h0, rfl, rfl⟩
  · exact ⟨σ, .full _, hs⟩
  · refine ⟨upd σ t .tip, .tip ?_, Sub.upd hs _ _⟩
    cases e : σ t with
    | none => rfl
    | some o => rw [hs _ _ e] at h0; cases h0
theorem aret_sl1 {s : Nat} {xs : List AVal} {t : Tok} {ys : List AVal} {σ σ2 : AHeap} {Q : AVal → AHeap → Prop} (hs : Sub σ σ2) (h : Q (.tup (.slice s xs .none :: ys)) σ2) : ARet (.tup (.slice s xs t :: ys)) σ Q :=
  aret (VLe.tup (VLe.cons (VLe.slice _ _ _) fun _ _ h => h)) hs h
end Go.Proofs.Ythjjkcmiachpcaa
/-
  Packets that are not acknowledged: their bytes.
-/
namespace Go.Proofs.Ythjjkcmiachpcaa
set_option linter.unusedVariables false
set_option linter.unusedSimpArgs false
open Go Go.Am

/-- The lengths of all fields but the last. -/
def lensOf (l : List (List UInt8)) : List Int := (l.take (l.length - 1)).map fun f => (f.length : Int)
theorem lensOf_length (l : List (List UInt8)) : (lensOf l).length = l.length - 1 := by unfold lensOf; rw [List.length_map, List.length_take]; omega

theorem uLengths (l : List (List UInt8)) (t : Tok) (σ : AHeap) (h1 : 1 ≤ l.length) (h2 : l.length ≤ 1000) : ACalls Try.prog i_umd_lengths [lists t l] σ fun v σ' => v = ints .none (lensOf l) ∧ σ' = σ := by
  refine k_umd_lengths rfl ?_
  ((conv => whnf); (repeat ((first | with_reducible refine abr_true rfl ?_ | with_reducible refine abr_false rfl ?_ | with_reducible refine abr_yes rfl ?_ | refine abr_yes (by decide) ?_ | refine abr_no (by decide) ?_ | with_reducible refine abr_same_ne ?_); (conv => whnf))))
  (repeat ((first | refine aload (by (repeat (first | with_reducible exact upd_same _ _ _ | assumption | rw [upd_ne _ _ (by first | assumption | (apply Ne.symm; assumption))]))) rfl ?_ | refine afit_i64 (by omega) ?_ | refine arem_nonneg (by omega) (by omega) ?_ | refine adiv_i64 (by omega) (by omega) ?_ | refine abr_yes (by omega) ?_ | refine abr_no (by omega) ?_ | refine amin ?_ | refine amax ?_ | refine afit_u64 (by omega) ?_ | refine afit_u8 (by omega) ?_ | rw [List.length_map]); ((conv => whnf); (repeat ((first | with_reducible refine abr_true rfl ?_ | with_reducible refine abr_false rfl ?_ | with_reducible refine abr_yes rfl ?_ | refine abr_yes (by decide) ?_ | refine abr_no (by decide) ?_ | with_reducible refine abr_same_ne ?_); (conv => whnf))))))
  refine acut (by omega) (by omega) (by omega) ?_
  ((conv => whnf); (repeat ((first | with_reducible refine abr_true rfl ?_ | with_reducible refine abr_false rfl ?_ | with_reducible refine abr_yes rfl ?_ | refine abr_yes (by decide) ?_ | refine abr_no (by decide) ?_ | with_reducible refine abr_same_ne ?_); (conv => whnf))))
  have e1 : ((l.length : Int) - 1).toNat = l.length - 1 := by omega
  rw [e1, show (0 : Int).toNat = 0 from rfl, List.drop_zero, ← List.map_take]
  have hl2 : (l.take (l.length - 1)).length = l.length - 1 := by rw [List.length_take]; omega
  have hle : lensOf l = (l.take (l.length - 1)).map fun f => (f.length : Int) := rfl
  generalize l.take (l.length - 1) = m at *
  (repeat ((first | refine aload (by (repeat (first | with_reducible exact upd_same _ _ _ | assumption | rw [upd_ne _ _ (by first | assumption | (apply Ne.symm; assumption))]))) rfl ?_ | refine afit_i64 (by omega) ?_ | refine arem_nonneg (by omega) (by omega) ?_ | refine adiv_i64 (by omega) (by omega) ?_ | refine abr_yes (by omega) ?_ | refine abr_no (by omega) ?_ | refine amin ?_ | refine amax ?_ | refine afit_u64 (by omega) ?_ | refine afit_u8 (by omega) ?_ | rw [List.length_map]); ((conv => whnf); (repeat ((first | with_reducible refine abr_true rfl ?_ | with_reducible refine abr_false rfl ?_ | with_reducible refine abr_yes rfl ?_ | refine abr_yes (by decide) ?_ | refine abr_no (by decide) ?_ | with_reducible refine abr_same_ne ?_); (conv => whnf))))))
  refine aloop (α := Nat × Tok × AHeap) (fun x => [(s3, ints x.2.1 ((m.take x.1).map fun f => (f.length : Int))), (s12, i64v x.1)]) (fun x => x.2.2) (fun x => x.1 ≤ m.length ∧ Owned σ x.2.2 x.2.1) (fun x => m.length - x.1) (0, .full, σ) ⟨Nat.zero_le _, .full _⟩ (Sub.refl _) ?_ ?_
  · ((conv => whnf); (repeat ((first | with_reducible refine abr_true rfl ?_ | with_reducible refine abr_false rfl ?_ | with_reducible refine abr_yes rfl ?_ | refine abr_yes (by decide) ?_ | refine abr_no (by decide) ?_ | with_reducible refine abr_same_ne ?_); (conv => whnf))))
    (repeat' first | with_reducible exact EnvLe.refl _ | (refine EnvLe.node ?_ (by first | exact Or.inl rfl | exact Or.inr (Or.inl rfl) | exact Or.inr (Or.inr ⟨nofun, VLe.slice _ _ _⟩)) ?_))
  rintro ⟨i, tk, σa⟩ ⟨hi, ho⟩
  dsimp only at hi ho ⊢
  by_cases h : i < m.length
  · ((conv => whnf); (repeat ((first | with_reducible refine abr_true rfl ?_ | with_reducible refine abr_false rfl ?_ | with_reducible refine abr_yes rfl ?_ | refine abr_yes (by decide) ?_ | refine abr_no (by decide) ?_ | with_reducible refine abr_same_ne ?_); (conv => whnf))))
    (repeat ((first | refine aload (by (repeat (first | with_reducible exact upd_same _ _ _ | assumption | rw [upd_ne _ _ (by first | assumption | (apply Ne.symm; assumption))]))) rfl ?_ | refine afit_i64 (by omega) ?_ | refine arem_nonneg (by omega) (by omega) ?_ | refine adiv_i64 (by omega) (by omega) ?_ | refine abr_yes (by omega) ?_ | refine abr_no (by omega) ?_ | refine amin ?_ | refine amax ?_ | refine afit_u64 (by omega) ?_ | refine afit_u8 (by omega) ?_ | rw [List.length_map]); ((conv => whnf); (repeat ((first | with_reducible refine abr_true rfl ?_ | with_reducible refine abr_false rfl ?_ | with_reducible refine abr_yes rfl ?_ | refine abr_yes (by decide) ?_ | refine abr_no (by decide) ?_ | with_reducible refine abr_same_ne ?_); (conv => whnf))))))
    refine aget (by omega) (get_lists h) ?_
    ((conv => whnf); (repeat ((first | with_reducible refine abr_true rfl ?_ | with_reducible refine abr_false rfl ?_ | with_reducible refine abr_yes rfl ?_ | refine abr_yes (by decide) ?_ | refine abr_no (by decide) ?_ | with_reducible refine abr_same_ne ?_); (conv => whnf))))
    refine acell rfl ?_
    ((conv => whnf); (repeat ((first | with_reducible refine abr_true rfl ?_ | with_reducible refine abr_false rfl ?_ | with_reducible refine abr_yes rfl ?_ | refine abr_yes (by decide) ?_ | refine abr_no (by decide) ?_ | with_reducible refine abr_same_ne ?_); (conv => whnf))))
    rw [List.length_map]
    refine aapp_sub (ys := [i64v m[i].length]) ho (Sub.refl _) (by rw [List.length_map, List.length_map, List.length_take]; show (_ + 1) * 8 ≤ _; omega) fun tk2 σ3 σ4 ho2 hs2 => ?_
    rw [show List.map i64v ((m.take i).map fun f => (f.length : Int)) ++ [i64v m[i].length] = List.map i64v ((m.take (i + 1)).map fun f => (f.length : Int)) by rw [List.take_add_one, List.getElem?_eq_getElem h, List.map_append, List.map_append]; rfl]
    ((conv => whnf); (repeat ((first | with_reducible refine abr_true rfl ?_ | with_reducible refine abr_false rfl ?_ | with_reducible refine abr_yes rfl ?_ | refine abr_yes (by decide) ?_ | refine abr_no (by decide) ?_ | with_reducible refine abr_same_ne ?_); (conv => whnf))))
    (repeat ((first | refine aload (by (repeat (first | with_reducible exact upd_same _ _ _ | assumption | rw [upd_ne _ _ (by first | assumption | (apply Ne.symm; assumption))]))) rfl ?_ | refine afit_i64 (by omega) ?_ | refine arem_nonneg (by omega) (by omega) ?_ | refine adiv_i64 (by omega) (by omega) ?_ | refine abr_yes (by omega) ?_ | refine abr_no (by omega) ?_ | refine amin ?_ | refine amax ?_ | refine afit_u64 (by omega) ?_ | refine afit_u8 (by omega) ?_ | rw [List.length_map]); ((conv => whnf); (repeat ((first | with_reducible refine abr_true rfl ?_ | with_reducible refine abr_false rfl ?_ | with_reducible refine abr_yes rfl ?_ | refine abr_yes (by decide) ?_ | refine abr_no (by decide) ?_ | with_reducible refine abr_same_ne ?_); (conv => whnf))))))
    refine ⟨(i + 1, tk2, σ4), ⟨h, ho2⟩, by dsimp only; omega, hs2, ?_⟩
    ((conv => whnf); (repeat ((first | with_reducible refine abr_true rfl ?_ | with_reducible refine abr_false rfl ?_ | with_reducible refine abr_yes rfl ?_ | refine abr_yes (by decide) ?_ | refine abr_no (by decide) ?_ | with_reducible refine abr_same_ne ?_); (conv => whnf))))
    (repeat' first | with_reducible exact EnvLe.refl _ | (refine EnvLe.node ?_ (by first | exact Or.inl rfl | exact Or.inr (Or.inl rfl) | exact Or.inr (Or.inr ⟨nofun, VLe.slice _ _ _⟩)) ?_))
  · rw [List.take_of_length_le (by omega)]
    ((conv => whnf); (repeat ((first | with_reducible refine abr_true rfl ?_ | with_reducible refine abr_false rfl ?_ | with_reducible refine abr_yes rfl ?_ | refine abr_yes (by decide) ?_ | refine abr_no (by decide) ?_ | with_reducible refine abr_same_ne ?_); (conv => whnf))))
    (repeat ((first | refine aload (by (repeat (first | with_reducible exact upd_same _ _ _ | assumption | rw [upd_ne _ _ (by first | assumption | (apply Ne.symm; assumption))]))) rfl ?_ | refine afit_i64 (by omega) ?_ | refine arem_nonneg (by omega) (by omega) ?_ | refine adiv_i64 (by omega) (by omega) ?_ | refine abr_yes (by omega) ?_ | refine abr_no (by omega) ?_ | refine amin ?_ | refine amax ?_ | refine afit_u64 (by omega) ?_ | refine afit_u8 (by omega) ?_ | rw [List.length_map]); ((conv => whnf); (repeat ((first | with_reducible refine abr_true rfl ?_ | with_reducible refine abr_false rfl ?_ | with_reducible refine abr_yes rfl ?_ | refine abr_yes (by decide) ?_ | refine abr_no (by decide) ?_ | with_reducible refine abr_same_ne ?_); (conv => whnf))))))
    exact aret_sl ho.sub ⟨by rw [hle], rfl⟩

def zeros (w : Int) : Nat := if w = 10 then 3 else 0
def umMore (l : List (List UInt8)) : Bool := decide (l.length > 1)
def umBits (fi sn : Int) (l : List (List UInt8)) (w : Int) : List Bool := numBits 0 (zeros w) ++ numBits fi.toNat 2 ++ [umMore l] ++ numBits sn.toNat w.toNat
def tailB (l : List (List UInt8)) (W : Int) : List UInt8 := (if l.length > 1 then writeBytes (lensOf l) W else []) ++ l.flatten
def umCode (fi sn : Int) (l : List (List UInt8)) (w : Int) : Int := if umWidth w = false then 9 else if umSize fi sn l w > 0 then 0 else 3
def umWrite (fi sn : Int) (l : List (List UInt8)) (w : Int) : List UInt8 := if umCode fi sn l w = 0 then pack (umBits fi sn l w) ++ tailB l 11 else []

structure FieldsOk (l : List (List UInt8)) (h w : Int) : Prop where
  one : 1 ≤ l.length
  most : l.length ≤ 24
  each : ∀ i, (hi : i < l.length) → 1 ≤ l[i].length ∧ (i + 1 < l.length → l[i].length ≤ 2047)
  fits : h + sizeV ((l.length : Int) - 1) w + (total l : Int) ≤ 4000
theorem fieldsV_ok {l : List (List UInt8)} {h w : Int} (k : fieldsV l h w > 0) : FieldsOk l h w := by
  unfold fieldsV at k
  split at k
  · omega
  · rename_i h1
    split at k
    · omega
    · rename_i h2
      split at k
      · omega
      · rename_i h3
        refine ⟨by omega, by omega, fun i hi => ?_, by omega⟩
        have hb : fieldBad l i = false := Bool.eq_false_iff.2 fun hb => h2 (fieldsBad_of hi hb)
        rw [fieldBad_get hi] at hb
        have := of_decide_eq_false hb
        omega
theorem umSize_ok {fi sn : Int} {l : List (List UInt8)} {w : Int} (k : umSize fi sn l w > 0) : (w = 5 ∨ w = 10) ∧ 0 ≤ fi ∧ fi ≤ 3 ∧ (0 ≤ sn ∧ sn < ((2 ^ w.toNat : Nat) : Int)) ∧ fieldsV l (w / 5) 11 > 0 := by
  unfold umSize at k
  split at k
  · omega
  · rename_i h
    have h1 : umWidth w = true := by
      cases e : umWidth w with
      | true => rfl
      | false => exact absurd (.inl e) h
    have h2 : isNum w sn = true := by
      cases e : isNum w sn with
      | true => rfl
      | false => exact absurd (.inr (.inr (.inr e))) h
    have hw := umWidth_iff.1 h1
    have h3 := of_decide_eq_true h2
    have h4 : spaceSize w = ((2 ^ w.toNat : Nat) : Int) := by unfold spaceSize; rw [if_pos (by unfold spaceOk; omega)]
    rw [h4] at h3
    exact ⟨hw, Classical.byContradiction fun k2 => h (.inr (.inl (by omega))), Classical.byContradiction fun k2 => h (.inr (.inr (.inl (by omega)))), h3, k⟩
theorem lensOf_code {l : List (List UInt8)} {h w : Int} {W : Int} (hW : W = 11 ∨ W = 15) (k : FieldsOk l h w) (h2 : 1 < l.length) : writeCode (lensOf l) W = 0 := by
  have h24 := k.most
  have hlen := lensOf_length l
  unfold writeCode
  rw [widthOk_iff.2 hW, if_neg (by simp), if_neg (by omega), if_neg (by omega), if_neg]
  intro hb
  obtain ⟨x, hx, hbad⟩ := List.any_eq_true.1 hb
  unfold lensOf at hx
  obtain ⟨f, hf, rfl⟩ := List.mem_map.1 hx
  obtain ⟨i, hi, rfl⟩ := List.getElem_of_mem hf
  rw [List.length_take] at hi
  have he := k.each i (by omega)
  have := of_decide_eq_true hbad
  rw [List.getElem_take] at this
  have hp : 2 ^ 11 ≤ 2 ^ W.toNat := Nat.pow_le_pow_right (by omega) (by omega)
  generalize 2 ^ W.toNat = q at *
  omega

set_option maxRecDepth 20000 in
theorem uWrite (fi sn : Int) (l : List (List UInt8)) (w : Int) (σ : AHeap) : ACalls Try.prog i_umd_Write [pkV fi sn l, i64v w] σ fun v σ' => v = .tup [sl .none (umWrite fi sn l w), i64v (umCode fi sn l w)] ∧ σ' = σ := by
  refine k_umd_Write rfl ?_
  ((conv => whnf); (repeat ((first | with_reducible refine abr_true rfl ?_ | with_reducible refine abr_false rfl ?_ | with_reducible refine abr_yes rfl ?_ | refine abr_yes (by decide) ?_ | refine abr_no (by decide) ?_ | with_reducible refine abr_same_ne ?_); (conv => whnf))))
  refine anew rfl fun id hid => ?_
  have hs : Sub (upd σ id (.cells (pkV fi sn l).cells)) σ := Sub.upd_fresh _ hid
  ((conv => whnf); (repeat ((first | with_reducible refine abr_true rfl ?_ | with_reducible refine abr_false rfl ?_ | with_reducible refine abr_yes rfl ?_ | refine abr_yes (by decide) ?_ | refine abr_no (by decide) ?_ | with_reducible refine abr_same_ne ?_); (conv => whnf))))
  refine acall (uIsWidth w _) ?_
  rintro _ σ_ ⟨rfl, e_⟩
  obtain rfl := e_.symm
  refine ⟨?_, Ext.refl _⟩
  ((conv => whnf); (repeat ((first | with_reducible refine abr_true rfl ?_ | with_reducible refine abr_false rfl ?_ | with_reducible refine abr_yes rfl ?_ | refine abr_yes (by decide) ?_ | refine abr_no (by decide) ?_ | with_reducible refine abr_same_ne ?_); (conv => whnf))))
  by_cases hw : umWidth w = true
  · rw [hw]
    ((conv => whnf); (repeat ((first | with_reducible refine abr_true rfl ?_ | with_reducible refine abr_false rfl ?_ | with_reducible refine abr_yes rfl ?_ | refine abr_yes (by decide) ?_ | refine abr_no (by decide) ?_ | with_reducible refine abr_same_ne ?_); (conv => whnf))))
    refine aloads (l := [i64v fi, i64v sn, lists .none l]) (upd_same _ _ _) (by exact Nat.le_refl 3) rfl ?_
    ((conv => whnf); (repeat ((first | with_reducible refine abr_true rfl ?_ | with_reducible refine abr_false rfl ?_ | with_reducible refine abr_yes rfl ?_ | refine abr_yes (by decide) ?_ | refine abr_no (by decide) ?_ | with_reducible refine abr_same_ne ?_); (conv => whnf))))
    refine acall (uRight fi sn l w _) ?_
    rintro _ σ_ ⟨rfl, e_⟩
    obtain rfl := e_.symm
    refine ⟨?_, Ext.refl _⟩
    ((conv => whnf); (repeat ((first | with_reducible refine abr_true rfl ?_ | with_reducible refine abr_false rfl ?_ | with_reducible refine abr_yes rfl ?_ | refine abr_yes (by decide) ?_ | refine abr_no (by decide) ?_ | with_reducible refine abr_same_ne ?_); (conv => whnf))))
    by_cases hr : umSize fi sn l w > 0
    · refine abr_false (by rw [decide_eq_true hr]; rfl) ?_
      have hc : umCode fi sn l w = 0 := by unfold umCode; rw [hw, if_neg (by simp), if_pos hr]
      obtain ⟨hw2, hf1, hf2, hsn, hfv⟩ := umSize_ok hr
      have hfo := fieldsV_ok hfv
      have g1 := hfo.one
      have g2 := hfo.most
      have g3 := hfo.fits
      have gs := sizeV_range ((l.length : Int) - 1) 11
      have hz : zeros w ≤ 3 := by unfold zeros; split <;> omega
      have hz2 : (8 : Int) * (w / 5) - 3 - w = ((zeros w : Nat) : Int) := by
        unfold zeros
        rcases hw2 with rfl | rfl
        · rfl
        · rfl
      obtain ⟨f, rfl⟩ : ∃ f : Nat, fi = f := ⟨fi.toNat, by omega⟩
      obtain ⟨m, rfl⟩ : ∃ m : Nat, sn = m := ⟨sn.toNat, by omega⟩
      obtain ⟨W, rfl⟩ : ∃ W : Nat, w = W := ⟨w.toNat, by omega⟩
      rw [Int.toNat_natCast] at hsn
      have hsn2 : m < 2 ^ W := by
        have := hsn.2
        generalize 2 ^ W = q at *
        omega
      have hpow : 2 ^ W ≤ 2 ^ 10 := Nat.pow_le_pow_right (by omega) (by omega)
      have hmore : min ((l.length : Int) - 1) 1 = (((umMore l).toNat : Nat) : Int) := by
        unfold umMore
        by_cases h : l.length > 1
        · rw [decide_eq_true h, show (Bool.toNat true) = 1 from rfl]; omega
        · rw [decide_eq_false h, show (Bool.toNat false) = 0 from rfl]; omega
      ((conv => whnf); (repeat ((first | with_reducible refine abr_true rfl ?_ | with_reducible refine abr_false rfl ?_ | with_reducible refine abr_yes rfl ?_ | refine abr_yes (by decide) ?_ | refine abr_no (by decide) ?_ | with_reducible refine abr_same_ne ?_); (conv => whnf))))
      refine acall (wNew _) ?_
      rintro _ σ1 ⟨iw, rfl, w1⟩
      refine ⟨?_, w1.ext⟩
      ((conv => whnf); (repeat ((first | with_reducible refine abr_true rfl ?_ | with_reducible refine abr_false rfl ?_ | with_reducible refine abr_yes rfl ?_ | refine abr_yes (by decide) ?_ | refine abr_no (by decide) ?_ | with_reducible refine abr_same_ne ?_); (conv => whnf))))
      refine aload (w1.sub _ _ (upd_same _ _ _)) rfl ?_
      ((conv => whnf); (repeat ((first | with_reducible refine abr_true rfl ?_ | with_reducible refine abr_false rfl ?_ | with_reducible refine abr_yes rfl ?_ | refine abr_yes (by decide) ?_ | refine abr_no (by decide) ?_ | with_reducible refine abr_same_ne ?_); (conv => whnf))))
      (repeat ((first | refine aload (by (repeat (first | with_reducible exact upd_same _ _ _ | assumption | rw [upd_ne _ _ (by first | assumption | (apply Ne.symm; assumption))]))) rfl ?_ | refine afit_i64 (by omega) ?_ | refine arem_nonneg (by omega) (by omega) ?_ | refine adiv_i64 (by omega) (by omega) ?_ | refine abr_yes (by omega) ?_ | refine abr_no (by omega) ?_ | refine amin ?_ | refine amax ?_ | refine afit_u64 (by omega) ?_ | refine afit_u8 (by omega) ?_ | rw [List.length_map]); ((conv => whnf); (repeat ((first | with_reducible refine abr_true rfl ?_ | with_reducible refine abr_false rfl ?_ | with_reducible refine abr_yes rfl ?_ | refine abr_yes (by decide) ?_ | refine abr_no (by decide) ?_ | with_reducible refine abr_same_ne ?_); (conv => whnf))))))
      rw [hmore]
      refine acall (uHead (W : Int) _ (by omega)) ?_
      rintro _ σ_ ⟨rfl, e_⟩
      obtain rfl := e_.symm
      refine ⟨?_, Ext.refl _⟩
      ((conv => whnf); (repeat ((first | with_reducible refine abr_true rfl ?_ | with_reducible refine abr_false rfl ?_ | with_reducible refine abr_yes rfl ?_ | refine abr_yes (by decide) ?_ | refine abr_no (by decide) ?_ | with_reducible refine abr_same_ne ?_); (conv => whnf))))
      (repeat ((first | refine aload (by (repeat (first | with_reducible exact upd_same _ _ _ | assumption | rw [upd_ne _ _ (by first | assumption | (apply Ne.symm; assumption))]))) rfl ?_ | refine afit_i64 (by omega) ?_ | refine arem_nonneg (by omega) (by omega) ?_ | refine adiv_i64 (by omega) (by omega) ?_ | refine abr_yes (by omega) ?_ | refine abr_no (by omega) ?_ | refine amin ?_ | refine amax ?_ | refine afit_u64 (by omega) ?_ | refine afit_u8 (by omega) ?_ | rw [List.length_map]); ((conv => whnf); (repeat ((first | with_reducible refine abr_true rfl ?_ | with_reducible refine abr_false rfl ?_ | with_reducible refine abr_yes rfl ?_ | refine abr_yes (by decide) ?_ | refine abr_no (by decide) ?_ | with_reducible refine abr_same_ne ?_); (conv => whnf))))))
      rw [hz2]
      refine acall (wPut iw [] 0 ((zeros (W : Int) : Nat) : Int) _ _ w1 (by omega) (by simp)) ?_
      rintro _ σ2 ⟨rfl, w2⟩
      rw [(put_num [] 0 (zeros (W : Int)) (by simp; omega) (by omega) (Nat.pow_pos (by omega))).2, List.nil_append] at w2
      ((conv => whnf); (repeat ((first | with_reducible refine abr_true rfl ?_ | with_reducible refine abr_false rfl ?_ | with_reducible refine abr_yes rfl ?_ | refine abr_yes (by decide) ?_ | refine abr_no (by decide) ?_ | with_reducible refine abr_same_ne ?_); (conv => whnf))))
      refine aload (w2.sub _ _ (upd_same _ _ _)) rfl ?_
      ((conv => whnf); (repeat ((first | with_reducible refine abr_true rfl ?_ | with_reducible refine abr_false rfl ?_ | with_reducible refine abr_yes rfl ?_ | refine abr_yes (by decide) ?_ | refine abr_no (by decide) ?_ | with_reducible refine abr_same_ne ?_); (conv => whnf))))
      (repeat ((first | refine aload (by (repeat (first | with_reducible exact upd_same _ _ _ | assumption | rw [upd_ne _ _ (by first | assumption | (apply Ne.symm; assumption))]))) rfl ?_ | refine afit_i64 (by omega) ?_ | refine arem_nonneg (by omega) (by omega) ?_ | refine adiv_i64 (by omega) (by omega) ?_ | refine abr_yes (by omega) ?_ | refine abr_no (by omega) ?_ | refine amin ?_ | refine amax ?_ | refine afit_u64 (by omega) ?_ | refine afit_u8 (by omega) ?_ | rw [List.length_map]); ((conv => whnf); (repeat ((first | with_reducible refine abr_true rfl ?_ | with_reducible refine abr_false rfl ?_ | with_reducible refine abr_yes rfl ?_ | refine abr_yes (by decide) ?_ | refine abr_no (by decide) ?_ | with_reducible refine abr_same_ne ?_); (conv => whnf))))))
      refine acall (wPut iw _ f ((2 : Nat) : Int) _ _ w2 (by omega) (by rw [numBits_length]; omega)) ?_
      rintro _ σ3 ⟨rfl, w3⟩
      rw [(put_num _ f 2 (by rw [numBits_length]; omega) (by omega) (by omega)).2] at w3
      ((conv => whnf); (repeat ((first | with_reducible refine abr_true rfl ?_ | with_reducible refine abr_false rfl ?_ | with_reducible refine abr_yes rfl ?_ | refine abr_yes (by decide) ?_ | refine abr_no (by decide) ?_ | with_reducible refine abr_same_ne ?_); (conv => whnf))))
      refine acall (wPut iw _ (umMore l).toNat 1 _ _ w3 (by cases umMore l <;> decide) (by rw [List.length_append, numBits_length, numBits_length]; omega)) ?_
      rintro _ σ4 ⟨rfl, w4⟩
      rw [(put_bit _ (umMore l) (by rw [List.length_append, numBits_length, numBits_length]; omega)).2] at w4
      ((conv => whnf); (repeat ((first | with_reducible refine abr_true rfl ?_ | with_reducible refine abr_false rfl ?_ | with_reducible refine abr_yes rfl ?_ | refine abr_yes (by decide) ?_ | refine abr_no (by decide) ?_ | with_reducible refine abr_same_ne ?_); (conv => whnf))))
      refine aload (w4.sub _ _ (upd_same _ _ _)) rfl ?_
      ((conv => whnf); (repeat ((first | with_reducible refine abr_true rfl ?_ | with_reducible refine abr_false rfl ?_ | with_reducible refine abr_yes rfl ?_ | refine abr_yes (by decide) ?_ | refine abr_no (by decide) ?_ | with_reducible refine abr_same_ne ?_); (conv => whnf))))
      (repeat ((first | refine aload (by (repeat (first | with_reducible exact upd_same _ _ _ | assumption | rw [upd_ne _ _ (by first | assumption | (apply Ne.symm; assumption))]))) rfl ?_ | refine afit_i64 (by omega) ?_ | refine arem_nonneg (by omega) (by omega) ?_ | refine adiv_i64 (by omega) (by omega) ?_ | refine abr_yes (by omega) ?_ | refine abr_no (by omega) ?_ | refine amin ?_ | refine amax ?_ | refine afit_u64 (by omega) ?_ | refine afit_u8 (by omega) ?_ | rw [List.length_map]); ((conv => whnf); (repeat ((first | with_reducible refine abr_true rfl ?_ | with_reducible refine abr_false rfl ?_ | with_reducible refine abr_yes rfl ?_ | refine abr_yes (by decide) ?_ | refine abr_no (by decide) ?_ | with_reducible refine abr_same_ne ?_); (conv => whnf))))))
      refine acall (wPut iw _ m ((W : Nat) : Int) _ _ w4 (by omega) (by rw [List.length_append, List.length_append, numBits_length, numBits_length]; show _ + 1 ≤ _; omega)) ?_
      rintro _ σ5 ⟨rfl, w5⟩
      rw [(put_num _ m W (by rw [List.length_append, List.length_append, numBits_length, numBits_length]; show _ + 1 + _ ≤ _; omega) (by omega) hsn2).2] at w5
      have hbits : numBits 0 (zeros (W : Int)) ++ numBits f 2 ++ [umMore l] ++ numBits m W = umBits (f : Int) (m : Int) l (W : Int) := by unfold umBits; rw [Int.toNat_natCast, Int.toNat_natCast, Int.toNat_natCast]
      rw [hbits] at w5
      have hbl : (umBits (f : Int) (m : Int) l (W : Int)).length ≤ 16 := by rw [← hbits, List.length_append, List.length_append, List.length_append, numBits_length, numBits_length, numBits_length]; show _ + 1 + _ ≤ _; omega
      have hpl := pack_length (umBits (f : Int) (m : Int) l (W : Int))
      ((conv => whnf); (repeat ((first | with_reducible refine abr_true rfl ?_ | with_reducible refine abr_false rfl ?_ | with_reducible refine abr_yes rfl ?_ | refine abr_yes (by decide) ?_ | refine abr_no (by decide) ?_ | with_reducible refine abr_same_ne ?_); (conv => whnf))))
      refine acall (wBytesO iw _ _ _ w5 (by omega)) ?_
      rintro _ σ6 ⟨tk, ho, rfl⟩
      refine ⟨?_, ho.ext⟩
      have hsub : Sub σ6 σ := ho.sub.trans (w5.sub.trans hs)
      have hcell : σ6 id = some (.cells (pkV (f : Int) (m : Int) l).cells) := ho.same_of (w5.sub _ _ (upd_same _ _ _))
      obtain ⟨σ7, ho7, hs7⟩ := Owned.less ho w5.sub
      ((conv => whnf); (repeat ((first | with_reducible refine abr_true rfl ?_ | with_reducible refine abr_false rfl ?_ | with_reducible refine abr_yes rfl ?_ | refine abr_yes (by decide) ?_ | refine abr_no (by decide) ?_ | with_reducible refine abr_same_ne ?_); (conv => whnf))))
      cases hm : umMore l with
      | true =>
        have h2 : l.length > 1 := of_decide_eq_true hm
        have hlc := lensOf_code (W := 11) (.inl rfl) hfo h2
        have hwl : (writeBytes (lensOf l) 11).length ≤ 100 := by
          unfold writeBytes
          rw [if_pos hlc, pack_length, lenBits_length, lensOf_length]
          show ((l.length - 1) * (11 + 1) + 7) / 8 ≤ 100
          omega
        ((conv => whnf); (repeat ((first | with_reducible refine abr_true rfl ?_ | with_reducible refine abr_false rfl ?_ | with_reducible refine abr_yes rfl ?_ | refine abr_yes (by decide) ?_ | refine abr_no (by decide) ?_ | with_reducible refine abr_same_ne ?_); (conv => whnf))))
        (repeat ((first | refine aload (by (repeat (first | with_reducible exact upd_same _ _ _ | assumption | rw [upd_ne _ _ (by first | assumption | (apply Ne.symm; assumption))]))) rfl ?_ | refine afit_i64 (by omega) ?_ | refine arem_nonneg (by omega) (by omega) ?_ | refine adiv_i64 (by omega) (by omega) ?_ | refine abr_yes (by omega) ?_ | refine abr_no (by omega) ?_ | refine amin ?_ | refine amax ?_ | refine afit_u64 (by omega) ?_ | refine afit_u8 (by omega) ?_ | rw [List.length_map]); ((conv => whnf); (repeat ((first | with_reducible refine abr_true rfl ?_ | with_reducible refine abr_false rfl ?_ | with_reducible refine abr_yes rfl ?_ | refine abr_yes (by decide) ?_ | refine abr_no (by decide) ?_ | with_reducible refine abr_same_ne ?_); (conv => whnf))))))
        refine acall (uLengths l .none _ g1 (by omega)) ?_
        rintro _ σ_ ⟨rfl, e_⟩
        obtain rfl := e_.symm
        refine ⟨?_, Ext.refl _⟩
        ((conv => whnf); (repeat ((first | with_reducible refine abr_true rfl ?_ | with_reducible refine abr_false rfl ?_ | with_reducible refine abr_yes rfl ?_ | refine abr_yes (by decide) ?_ | refine abr_no (by decide) ?_ | with_reducible refine abr_same_ne ?_); (conv => whnf))))
        refine acall (lWrite (lensOf l) .none 11 _ (by rw [lensOf_length]; omega)) ?_
        rintro _ σ_ ⟨rfl, e_⟩
        obtain rfl := e_.symm
        refine ⟨?_, Ext.refl _⟩
        ((conv => whnf); (repeat ((first | with_reducible refine abr_true rfl ?_ | with_reducible refine abr_false rfl ?_ | with_reducible refine abr_yes rfl ?_ | refine abr_yes (by decide) ?_ | refine abr_no (by decide) ?_ | with_reducible refine abr_same_ne ?_); (conv => whnf))))
        rw [hlc]
        ((conv => whnf); (repeat ((first | with_reducible refine abr_true rfl ?_ | with_reducible refine abr_false rfl ?_ | with_reducible refine abr_yes rfl ?_ | refine abr_yes (by decide) ?_ | refine abr_no (by decide) ?_ | with_reducible refine abr_same_ne ?_); (conv => whnf))))
        refine aapp_sub ho7 hs7 (by rw [List.length_map, List.length_map]; omega) fun tk2 σ8 σ9 ho2 hs2 => ?_
        rw [← List.map_append]
        ((conv => whnf); (repeat ((first | with_reducible refine abr_true rfl ?_ | with_reducible refine abr_false rfl ?_ | with_reducible refine abr_yes rfl ?_ | refine abr_yes (by decide) ?_ | refine abr_no (by decide) ?_ | with_reducible refine abr_same_ne ?_); (conv => whnf))))
        refine aload (hs2 _ _ (ho2.same_of (upd_same _ _ _))) rfl ?_
        ((conv => whnf); (repeat ((first | with_reducible refine abr_true rfl ?_ | with_reducible refine abr_false rfl ?_ | with_reducible refine abr_yes rfl ?_ | refine abr_yes (by decide) ?_ | refine abr_no (by decide) ?_ | with_reducible refine abr_same_ne ?_); (conv => whnf))))
        refine acall (Join l .none .full _ (by omega) (show total l ≤ _ by omega)) ?_
        rintro _ σ_ ⟨rfl, e_⟩
        obtain rfl := e_.symm
        refine ⟨?_, Ext.refl _⟩
        ((conv => whnf); (repeat ((first | with_reducible refine abr_true rfl ?_ | with_reducible refine abr_false rfl ?_ | with_reducible refine abr_yes rfl ?_ | refine abr_yes (by decide) ?_ | refine abr_no (by decide) ?_ | with_reducible refine abr_same_ne ?_); (conv => whnf))))
        refine aapp_sub ho2 hs2 (by rw [List.length_map, List.length_map, List.length_append]; show (_ + total l) * 1 ≤ _; omega) fun tk3 σ10 σ11 ho3 hs3 => ?_
        rw [← List.map_append]
        ((conv => whnf); (repeat ((first | with_reducible refine abr_true rfl ?_ | with_reducible refine abr_false rfl ?_ | with_reducible refine abr_yes rfl ?_ | refine abr_yes (by decide) ?_ | refine abr_no (by decide) ?_ | with_reducible refine abr_same_ne ?_); (conv => whnf))))
        refine aret_sl1 ((hs3.trans ho3.sub).trans hs) ⟨?_, rfl⟩
        unfold umWrite tailB
        rw [hc, if_pos rfl, if_pos h2, List.append_assoc]
      | false =>
        have h2 : ¬ l.length > 1 := of_decide_eq_false hm
        ((conv => whnf); (repeat ((first | with_reducible refine abr_true rfl ?_ | with_reducible refine abr_false rfl ?_ | with_reducible refine abr_yes rfl ?_ | refine abr_yes (by decide) ?_ | refine abr_no (by decide) ?_ | with_reducible refine abr_same_ne ?_); (conv => whnf))))
        (repeat ((first | refine aload (by (repeat (first | with_reducible exact upd_same _ _ _ | assumption | rw [upd_ne _ _ (by first | assumption | (apply Ne.symm; assumption))]))) rfl ?_ | refine afit_i64 (by omega) ?_ | refine arem_nonneg (by omega) (by omega) ?_ | refine adiv_i64 (by omega) (by omega) ?_ | refine abr_yes (by omega) ?_ | refine abr_no (by omega) ?_ | refine amin ?_ | refine amax ?_ | refine afit_u64 (by omega) ?_ | refine afit_u8 (by omega) ?_ | rw [List.length_map]); ((conv => whnf); (repeat ((first | with_reducible refine abr_true rfl ?_ | with_reducible refine abr_false rfl ?_ | with_reducible refine abr_yes rfl ?_ | refine abr_yes (by decide) ?_ | refine abr_no (by decide) ?_ | with_reducible refine abr_same_ne ?_); (conv => whnf))))))
        refine acall (Join l .none .full _ (by omega) (show total l ≤ _ by omega)) ?_
        rintro _ σ_ ⟨rfl, e_⟩
        obtain rfl := e_.symm
        refine ⟨?_, Ext.refl _⟩
        ((conv => whnf); (repeat ((first | with_reducible refine abr_true rfl ?_ | with_reducible refine abr_false rfl ?_ | with_reducible refine abr_yes rfl ?_ | refine abr_yes (by decide) ?_ | refine abr_no (by decide) ?_ | with_reducible refine abr_same_ne ?_); (conv => whnf))))
        refine aapp_sub ho7 hs7 (by rw [List.length_map, List.length_map]; show (_ + total l) * 1 ≤ _; omega) fun tk2 σ8 σ9 ho2 hs2 => ?_
        rw [← List.map_append]
        ((conv => whnf); (repeat ((first | with_reducible refine abr_true rfl ?_ | with_reducible refine abr_false rfl ?_ | with_reducible refine abr_yes rfl ?_ | refine abr_yes (by decide) ?_ | refine abr_no (by decide) ?_ | with_reducible refine abr_same_ne ?_); (conv => whnf))))
        refine aret_sl1 ((hs2.trans ho2.sub).trans hs) ⟨?_, rfl⟩
        unfold umWrite tailB
        rw [hc, if_pos rfl, if_neg h2, List.nil_append]
    · refine abr_true (by rw [decide_eq_false hr]; rfl) ?_
      ((conv => whnf); (repeat ((first | with_reducible refine abr_true rfl ?_ | with_reducible refine abr_false rfl ?_ | with_reducible refine abr_yes rfl ?_ | refine abr_yes (by decide) ?_ | refine abr_no (by decide) ?_ | with_reducible refine abr_same_ne ?_); (conv => whnf))))
      have hc : umCode fi sn l w = 3 := by unfold umCode; rw [hw, if_neg (by simp), if_neg hr]
      exact aret_sl1 hs ⟨by unfold umWrite; rw [hc]; rfl, rfl⟩
  · rw [Bool.eq_false_iff.2 hw]
    ((conv => whnf); (repeat ((first | with_reducible refine abr_true rfl ?_ | with_reducible refine abr_false rfl ?_ | with_reducible refine abr_yes rfl ?_ | refine abr_yes (by decide) ?_ | refine abr_no (by decide) ?_ | with_reducible refine abr_same_ne ?_); (conv => whnf))))
    have hc : umCode fi sn l w = 9 := by unfold umCode; rw [if_pos (Bool.eq_false_iff.2 hw)]
    exact aret_sl1 hs ⟨by unfold umWrite; rw [hc]; rfl, rfl⟩
end Go.Proofs.Ythjjkcmiachpcaa
/-
  What lengths bits begin with: plain laws.
-/
namespace Go.Proofs.Ythjjkcmiachpcaa
set_option linter.unusedVariables false
set_option linter.unusedSimpArgs false
open Go Go.Am

def rdLens (x : List Bool) (W : Nat) : Nat → List Int → Nat → List Int × Int × Int
  | 0, _, _ => ([], 0, 2)
  | f + 1, out, k =>
    if x.length < k + (W + 1) then ([], 0, 8)
    else if val 0 ((x.drop (k + 1)).take W) = 0 then ([], 0, 3)
    else if bitD x k = true then (if f = 0 then ([], 0, 2) else rdLens x W f (out ++ [((val 0 ((x.drop (k + 1)).take W) : Nat) : Int)]) (k + (W + 1)))
    else if restOk x (k + (W + 1)) = true then (out ++ [((val 0 ((x.drop (k + 1)).take W) : Nat) : Int)], ((k + (W + 1) + 7) / 8 : Nat), 0) else ([], 0, 3)

theorem bitD_take {l : List Bool} {i M : Nat} (h : i < M) : bitD (l.take M) i = bitD l i := by unfold bitD; rw [List.getElem?_take_of_lt h]
theorem restOk_take {l : List Bool} {k M : Nat} (hk : k ≤ M) (h8 : M % 8 = 0) : restOk (l.take M) k = restOk l k := by
  unfold restOk
  have hp : k + pad k ≤ M := by unfold pad; omega
  rw [List.drop_take, List.take_take, Nat.min_eq_left (by omega)]
theorem rdLens_take (x : List Bool) (W M : Nat) (h8 : M % 8 = 0) : ∀ (f : Nat) (out : List Int) (k : Nat), k + f * (W + 1) ≤ M → rdLens (x.take M) W f out k = rdLens x W f out k
  | 0, _, _, _ => rfl
  | f + 1, out, k, h => by
    rw [Nat.succ_mul] at h
    simp only [rdLens]
    rw [rdLens_take x W M h8 f _ (k + (W + 1)) (by omega), bitD_take (by omega), restOk_take (by omega) h8]
    rw [List.drop_take, List.take_take, Nat.min_eq_left (by omega), List.length_take]
    have e : (min M x.length < k + (W + 1)) ↔ (x.length < k + (W + 1)) := by omega
    by_cases hx : x.length < k + (W + 1)
    · rw [if_pos (e.2 hx), if_pos hx]
    · rw [if_neg (fun h => hx (e.1 h)), if_neg hx]

def readV (b : List UInt8) (w : Int) : List Int × Int × Int := if widthOk w = false then ([], 0, 9) else rdLens (unpack b) w.toNat 23 [] 0
abbrev rdRes (r : List Int × Int × Int) : AVal := .tup [ints .none r.1, i64v r.2.1, i64v r.2.2]

theorem rdLens_len (x : List Bool) (W : Nat) : ∀ (f : Nat) (out : List Int) (k : Nat), out.length + f ≤ 23 → (rdLens x W f out k).1.length ≤ 23
  | 0, _, _, _ => by simp [rdLens]
  | f + 1, out, k, h => by
    simp only [rdLens]
    split
    · simp
    · split
      · simp
      · split
        · split
          · simp
          · exact rdLens_len x W f _ _ (by rw [List.length_append]; show _ + 1 + f ≤ 23; omega)
        · split
          · rw [List.length_append]; show _ + 1 ≤ 23; omega
          · simp
theorem readV_len (b : List UInt8) (w : Int) : (readV b w).1.length ≤ 23 := by
  unfold readV; split
  · simp
  · exact rdLens_len _ _ 23 [] 0 (by simp)

theorem take_one {x : List Bool} {k : Nat} (h : k < x.length) : val 0 ((x.drop k).take 1) = (bitD x k).toNat := by
  rw [List.drop_eq_getElem_cons h, List.take_succ_cons, List.take_zero]
  rw [bitD_get h]
  show 2 * 0 + _ = _
  omega
theorem sizeV_ok {n W : Nat} (hW : W = 11 ∨ W = 15) (h1 : 1 ≤ n) (h2 : n ≤ 23) : sizeV (n : Int) (W : Int) = ((n * (W + 1) + 7) / 8 : Nat) := by
  unfold sizeV
  rw [if_neg]
  · rcases hW with rfl | rfl
    · show (((n : Int) * 12 + 7) / 8) = _
      omega
    · show (((n : Int) * 16 + 7) / 8) = _
      omega
  · rw [widthOk_iff.2 (by omega)]
    rintro (h | h | h)
    · cases h
    · omega
    · omega
end Go.Proofs.Ythjjkcmiachpcaa
