/-
  Texts of this claim, pack 4: Cbase, Cseq, Ctok, Chp, Cseqb, Crxa, Crxwin.
-/
import Derived.Test.YtnfdgccmpglbhaaK2
import Derived.Test.YtnfdgccmpglbhaaK3
/-
  Words and contracts that all packages share.
-/
namespace Go.Proofs.Ytnfdgccmpglbhaa
set_option linter.unusedVariables false
set_option linter.unusedSimpArgs false
open Go Go.Am

abbrev u16v (b : BitVec 16) : AVal := .v (.int .u16 b.toNat)

abbrev i64v (n : Int) : AVal := .v (.int .i64 n)

abbrev boolv (b : Bool) : AVal := .v (.bool b)

abbrev sl (t : Tok) (bs : List UInt8) : AVal := .slice 1 (bs.map byteV) t

abbrev u64v (n : Nat) : AVal := .v (.int .u64 n)
abbrev u8v (n : Nat) : AVal := .v (.int .u8 n)

theorem get_bytes {bs : List UInt8} {i : Nat} (h : i < bs.length) : (bs.map byteV)[((i : Nat) : Int).toNat]? = some (byteV bs[i]) := by
  rw [Int.toNat_natCast, List.getElem?_map, List.getElem?_eq_getElem h]; rfl

theorem Clone (bs : List UInt8) (t : Tok) (σ : AHeap) (hl : bs.length ≤ 140737488355328) : ACalls Try.prog i_slices_Clone_byte_byte [sl t bs] σ fun v σ' => ∃ tk, Owned σ σ' tk ∧ v = sl tk bs := by
  refine k_slices_Clone_byte_byte rfl ?_
  (conv => whnf)
  refine anil ?_ ?_
  · (conv => whnf)
    refine abr_false rfl ?_
    (conv => whnf)
    refine aapp_full (by simp; omega) fun t' ht' => ?_
    (conv => whnf)
    exact aret_same ⟨_, .tip ht', rfl⟩
  · intro h0
    (conv => whnf)
    refine abr_true rfl ?_
    (conv => whnf)
    have : bs = [] := by simpa using h0
    subst this
    exact aret_same ⟨_, .full σ, rfl⟩

theorem byte_ofNat {n : Nat} (h : n < 256) : byteV (UInt8.ofNat n) = .v (.int .u8 n) := by
  unfold byteV; rw [UInt8.toNat_ofNat']; simp [Nat.mod_eq_of_lt h]

theorem sl_app (t : Tok) (a b : List UInt8) : sl t (a ++ b) = .slice 1 (a.map byteV ++ b.map byteV) t := by simp

theorem byteV_ne (a b : UInt8) : ((a.toNat : Int) ≠ (b.toNat : Int)) ↔ a ≠ b := by
  constructor
  · intro h k; exact h (by rw [k])
  · intro h k; exact h (UInt8.toNat_inj.1 (by omega))

theorem VLe.tup_sl {s : Nat} {xs : List AVal} {t : Tok} {ys : List AVal} : VLe (.tup (.slice s xs t :: ys)) (.tup (.slice s xs .none :: ys)) := VLe.tup (VLe.cons (VLe.slice _ _ _) fun _ _ h => h)

theorem VLe.tup_nil {s : Nat} {ys : List AVal} : VLe (.tup (.slice s [] .full :: ys)) (.tup (.slice s [] .none :: ys)) := VLe.tup_sl

theorem bytes_ok (l : List UInt8) : (l.map byteV).all (okElem 1) = true := by
  rw [List.all_eq_true]; intro x hx; obtain ⟨b, _, rfl⟩ := List.mem_map.1 hx; rfl

theorem bytes_flat (l : List UInt8) : (l.map byteV).flatMap AVal.cells = l.map byteV := by
  induction l with
  | nil => rfl
  | cons x l ih => rw [List.map_cons, List.flatMap_cons, ih]; rfl

theorem bytes_one (l : List UInt8) : ∀ x ∈ l.map byteV, x.cells.length = 1 := by
  intro x hx; obtain ⟨b, _, rfl⟩ := List.mem_map.1 hx; rfl

theorem CloneM (bs : List UInt8) (t : Tok) (σ : AHeap) (hl : bs.length ≤ 140737488355328) : ACalls Try.prog i_slices_Clone_byte_byte [sl t bs] σ fun v σ' => (bs = [] ∧ v = sl .full [] ∧ σ' = σ) ∨ (bs ≠ [] ∧ ∃ r, σ r = none ∧ v = .ms r 1 0 bs.length ∧ σ' = upd σ r (.cells (bs.map byteV))) := by
  refine km_slices_Clone_byte_byte rfl ?_
  (conv => whnf)
  refine anil ?_ ?_
  · (conv => whnf)
    refine abr_false rfl ?_
    (conv => whnf)
    by_cases h0 : bs = []
    · subst h0
      refine aappnew_none (by simp) ?_
      (conv => whnf)
      exact aret_same (.inl ⟨rfl, rfl, rfl⟩)
    · refine aappnew (by simpa using h0) (by simp; omega) (bytes_ok bs) fun r hr => ?_
      rw [bytes_flat, List.length_map]
      (conv => whnf)
      exact aret_same (.inr ⟨h0, r, hr, rfl, rfl⟩)
  · intro h0
    (conv => whnf)
    refine abr_true rfl ?_
    (conv => whnf)
    have : bs = [] := by simpa using h0
    subst this
    exact aret_same (.inl ⟨rfl, rfl, rfl⟩)

theorem xor8 (x y : UInt8) : bitsOp .xor .u8 (x.toNat : Int) (y.toNat : Int) = ((x ^^^ y).toNat : Int) := by
  have h1 : BitVec.ofInt 8 (x.toNat : Int) = x.toBitVec := by
    apply BitVec.eq_of_toNat_eq
    have := x.toNat_lt
    simp
  have h2 : BitVec.ofInt 8 (y.toNat : Int) = y.toBitVec := by
    apply BitVec.eq_of_toNat_eq
    have := y.toNat_lt
    simp
  show IntKind.u8.wrap ((BitVec.ofInt 8 (x.toNat : Int) ^^^ BitVec.ofInt 8 (y.toNat : Int)).toNat) = _
  rw [h1, h2]; exact wrap_u8 (by omega) (by have := (x.toBitVec ^^^ y.toBitVec).isLt; omega)

theorem splice_set {F : List UInt8} {p : Nat} {x : UInt8} (h : p < F.length) : splice (F.map byteV) p [byteV x] = (F.set p x).map byteV := by
  unfold splice
  rw [List.set_eq_take_append_cons_drop, if_pos h]
  simp [List.map_take, List.map_drop]

theorem get_bytesD {bs : List UInt8} {i : Nat} (h : i < bs.length) : (bs.map byteV)[i]? = some (byteV (bs[i]?.getD 0)) := by
  rw [List.getElem?_map, List.getElem?_eq_getElem h]; rfl

end Go.Proofs.Ytnfdgccmpglbhaa
/-
  Numbers that (repeat ((first | refine aload (by (repeat (first | with_reducible exact upd_same _ _ _ | assumption | rw [upd_ne _ _ (by first | assumption | (apply Ne.symm; assumption))]))) rfl ?_ | refine afit_i64 (by omega) ?_ | refine arem_nonneg (by omega) (by omega) ?_ | refine adiv_i64 (by omega) (by omega) ?_ | refine abr_yes (by omega) ?_ | refine abr_no (by omega) ?_ | refine amin ?_ | refine amax ?_ | refine afit_u64 (by omega) ?_ | refine afit_u8 (by omega) ?_ | rw [List.length_map]); ((conv => whnf); (repeat ((first | with_reducible (first | refine zT rfl ?_ | refine zF rfl ?_ | refine zY rfl ?_) | refine zY (by decide) ?_ | refine zN (by decide) ?_ | with_reducible refine zQ ?_); (conv => whnf)))))) round: which they are.
-/
namespace Go.Proofs.Ytnfdgccmpglbhaa
set_option linter.unusedVariables false
set_option linter.unusedSimpArgs false
open Go Go.Am

def spaceOk (w : Int) : Prop := 1 ≤ w ∧ w ≤ 16
instance (w : Int) : Decidable (spaceOk w) := by unfold spaceOk; infer_instance
def spaceSize (w : Int) : Int := if spaceOk w then ((2 ^ w.toNat : Nat) : Int) else 0
def isNum (w n : Int) : Bool := decide (0 ≤ n ∧ n < spaceSize w)
theorem spaceSize_le (w : Int) : 0 ≤ spaceSize w ∧ spaceSize w ≤ 65536 := by
  unfold spaceSize
  split
  · rename_i h
    have h1 : 2 ^ w.toNat ≤ 2 ^ 16 := Nat.pow_le_pow_right (by omega) (by unfold spaceOk at h; omega)
    generalize 2 ^ w.toNat = q at *
    omega
  · omega
theorem shl1_nat {w : Nat} (h : w ≤ 62) : IntKind.i64.wrap ((1 : Int) * 2 ^ (min ((w : Nat) : Int).toNat IntKind.i64.bits)) = ((2 ^ w : Nat) : Int) := by
  have h1 : 2 ^ w ≤ 2 ^ 62 := Nat.pow_le_pow_right (by omega) h
  rw [Int.toNat_natCast, Nat.min_eq_left (show w ≤ IntKind.i64.bits by show w ≤ 64; omega), Int.one_mul]
  have e : (2 : Int) ^ w = ((2 ^ w : Nat) : Int) := by simp
  rw [e]
  generalize 2 ^ w = q at *
  exact wrap_i64 (by omega) (by omega)

theorem sqRight (w : Int) (σ : AHeap) : ACalls Try.prog i_seqnum_Right [.agg [i64v w]] σ fun v σ' => v = boolv (decide (spaceOk w)) ∧ σ' = σ := by
  refine k_seqnum_Right rfl ?_
  ((conv => whnf); (repeat ((first | with_reducible (first | refine zT rfl ?_ | refine zF rfl ?_ | refine zY rfl ?_) | refine zY (by decide) ?_ | refine zN (by decide) ?_ | with_reducible refine zQ ?_); (conv => whnf))))
  refine anew rfl fun id hid => ?_
  ((conv => whnf); (repeat ((first | with_reducible (first | refine zT rfl ?_ | refine zF rfl ?_ | refine zY rfl ?_) | refine zY (by decide) ?_ | refine zN (by decide) ?_ | with_reducible refine zQ ?_); (conv => whnf))))
  refine aloads (l := [i64v w]) (upd_same _ _ _) (by exact Nat.le_refl 1) rfl ?_
  ((conv => whnf); (repeat ((first | with_reducible (first | refine zT rfl ?_ | refine zF rfl ?_ | refine zY rfl ?_) | refine zY (by decide) ?_ | refine zN (by decide) ?_ | with_reducible refine zQ ?_); (conv => whnf))))
  have hs : Sub (upd σ id (.cells (AVal.agg [i64v w]).cells)) σ := Sub.upd_fresh _ hid
  by_cases h0 : w = 0
  · subst h0
    ((conv => whnf); (repeat ((first | with_reducible (first | refine zT rfl ?_ | refine zF rfl ?_ | refine zY rfl ?_) | refine zY (by decide) ?_ | refine zN (by decide) ?_ | with_reducible refine zQ ?_); (conv => whnf))))
    exact aret (VLe.refl _) hs ⟨rfl, rfl⟩
  · refine abr_true (by rw [decide_eq_false h0]; rfl) ?_
    ((conv => whnf); (repeat ((first | with_reducible (first | refine zT rfl ?_ | refine zF rfl ?_ | refine zY rfl ?_) | refine zY (by decide) ?_ | refine zN (by decide) ?_ | with_reducible refine zQ ?_); (conv => whnf))))
    (repeat ((first | refine aload (by (repeat (first | with_reducible exact upd_same _ _ _ | assumption | rw [upd_ne _ _ (by first | assumption | (apply Ne.symm; assumption))]))) rfl ?_ | refine afit_i64 (by omega) ?_ | refine arem_nonneg (by omega) (by omega) ?_ | refine adiv_i64 (by omega) (by omega) ?_ | refine abr_yes (by omega) ?_ | refine abr_no (by omega) ?_ | refine amin ?_ | refine amax ?_ | refine afit_u64 (by omega) ?_ | refine afit_u8 (by omega) ?_ | rw [List.length_map]); ((conv => whnf); (repeat ((first | with_reducible (first | refine zT rfl ?_ | refine zF rfl ?_ | refine zY rfl ?_) | refine zY (by decide) ?_ | refine zN (by decide) ?_ | with_reducible refine zQ ?_); (conv => whnf))))))
    by_cases h1 : 1 ≤ w
    · (repeat ((first | refine aload (by (repeat (first | with_reducible exact upd_same _ _ _ | assumption | rw [upd_ne _ _ (by first | assumption | (apply Ne.symm; assumption))]))) rfl ?_ | refine afit_i64 (by omega) ?_ | refine arem_nonneg (by omega) (by omega) ?_ | refine adiv_i64 (by omega) (by omega) ?_ | refine abr_yes (by omega) ?_ | refine abr_no (by omega) ?_ | refine amin ?_ | refine amax ?_ | refine afit_u64 (by omega) ?_ | refine afit_u8 (by omega) ?_ | rw [List.length_map]); ((conv => whnf); (repeat ((first | with_reducible (first | refine zT rfl ?_ | refine zF rfl ?_ | refine zY rfl ?_) | refine zY (by decide) ?_ | refine zN (by decide) ?_ | with_reducible refine zQ ?_); (conv => whnf))))))
      exact aret (VLe.refl _) hs ⟨congrArg boolv (dec_congr ⟨fun h => ⟨h1, h⟩, fun h => h.2⟩), rfl⟩
    · (repeat ((first | refine aload (by (repeat (first | with_reducible exact upd_same _ _ _ | assumption | rw [upd_ne _ _ (by first | assumption | (apply Ne.symm; assumption))]))) rfl ?_ | refine afit_i64 (by omega) ?_ | refine arem_nonneg (by omega) (by omega) ?_ | refine adiv_i64 (by omega) (by omega) ?_ | refine abr_yes (by omega) ?_ | refine abr_no (by omega) ?_ | refine amin ?_ | refine amax ?_ | refine afit_u64 (by omega) ?_ | refine afit_u8 (by omega) ?_ | rw [List.length_map]); ((conv => whnf); (repeat ((first | with_reducible (first | refine zT rfl ?_ | refine zF rfl ?_ | refine zY rfl ?_) | refine zY (by decide) ?_ | refine zN (by decide) ?_ | with_reducible refine zQ ?_); (conv => whnf))))))
      exact aret (VLe.refl _) hs ⟨congrArg boolv (decide_eq_false fun h => h1 h.1).symm, rfl⟩

theorem sqSize (w : Int) (σ : AHeap) : ACalls Try.prog i_seqnum_Space_Size [.agg [i64v w]] σ fun v σ' => v = i64v (spaceSize w) ∧ σ' = σ := by
  refine k_seqnum_Space_Size rfl ?_
  ((conv => whnf); (repeat ((first | with_reducible (first | refine zT rfl ?_ | refine zF rfl ?_ | refine zY rfl ?_) | refine zY (by decide) ?_ | refine zN (by decide) ?_ | with_reducible refine zQ ?_); (conv => whnf))))
  refine anew rfl fun id hid => ?_
  ((conv => whnf); (repeat ((first | with_reducible (first | refine zT rfl ?_ | refine zF rfl ?_ | refine zY rfl ?_) | refine zY (by decide) ?_ | refine zN (by decide) ?_ | with_reducible refine zQ ?_); (conv => whnf))))
  refine aloads (l := [i64v w]) (upd_same _ _ _) (by exact Nat.le_refl 1) rfl ?_
  ((conv => whnf); (repeat ((first | with_reducible (first | refine zT rfl ?_ | refine zF rfl ?_ | refine zY rfl ?_) | refine zY (by decide) ?_ | refine zN (by decide) ?_ | with_reducible refine zQ ?_); (conv => whnf))))
  have hs : Sub (upd σ id (.cells (AVal.agg [i64v w]).cells)) σ := Sub.upd_fresh _ hid
  refine acall (sqRight w _) ?_
  rintro _ σ_ ⟨rfl, e_⟩
  obtain rfl := e_.symm
  refine ⟨?_, Ext.refl _⟩
  ((conv => whnf); (repeat ((first | with_reducible (first | refine zT rfl ?_ | refine zF rfl ?_ | refine zY rfl ?_) | refine zY (by decide) ?_ | refine zN (by decide) ?_ | with_reducible refine zQ ?_); (conv => whnf))))
  by_cases h : spaceOk w
  · obtain ⟨k, rfl⟩ : ∃ k : Nat, w = k := ⟨w.toNat, by unfold spaceOk at h; omega⟩
    refine abr_false (by rw [decide_eq_true h]; rfl) ?_
    ((conv => whnf); (repeat ((first | with_reducible (first | refine zT rfl ?_ | refine zF rfl ?_ | refine zY rfl ?_) | refine zY (by decide) ?_ | refine zN (by decide) ?_ | with_reducible refine zQ ?_); (conv => whnf))))
    (repeat ((first | refine aload (by (repeat (first | with_reducible exact upd_same _ _ _ | assumption | rw [upd_ne _ _ (by first | assumption | (apply Ne.symm; assumption))]))) rfl ?_ | refine afit_i64 (by omega) ?_ | refine arem_nonneg (by omega) (by omega) ?_ | refine adiv_i64 (by omega) (by omega) ?_ | refine abr_yes (by omega) ?_ | refine abr_no (by omega) ?_ | refine amin ?_ | refine amax ?_ | refine afit_u64 (by omega) ?_ | refine afit_u8 (by omega) ?_ | rw [List.length_map]); ((conv => whnf); (repeat ((first | with_reducible (first | refine zT rfl ?_ | refine zF rfl ?_ | refine zY rfl ?_) | refine zY (by decide) ?_ | refine zN (by decide) ?_ | with_reducible refine zQ ?_); (conv => whnf))))))
    refine ashl_eq (by omega) (shl1_nat (by unfold spaceOk at h; omega)) ?_
    ((conv => whnf); (repeat ((first | with_reducible (first | refine zT rfl ?_ | refine zF rfl ?_ | refine zY rfl ?_) | refine zY (by decide) ?_ | refine zN (by decide) ?_ | with_reducible refine zQ ?_); (conv => whnf))))
    exact aret (VLe.refl _) hs ⟨by unfold spaceSize; rw [if_pos h, Int.toNat_natCast], rfl⟩
  · refine abr_true (by rw [decide_eq_false h]; rfl) ?_
    ((conv => whnf); (repeat ((first | with_reducible (first | refine zT rfl ?_ | refine zF rfl ?_ | refine zY rfl ?_) | refine zY (by decide) ?_ | refine zN (by decide) ?_ | with_reducible refine zQ ?_); (conv => whnf))))
    exact aret (VLe.refl _) hs ⟨by unfold spaceSize; rw [if_neg h], rfl⟩

theorem sqIs (w n : Int) (σ : AHeap) : ACalls Try.prog i_seqnum_Space_Is [.agg [i64v w], i64v n] σ fun v σ' => v = boolv (isNum w n) ∧ σ' = σ := by
  refine k_seqnum_Space_Is rfl ?_
  ((conv => whnf); (repeat ((first | with_reducible (first | refine zT rfl ?_ | refine zF rfl ?_ | refine zY rfl ?_) | refine zY (by decide) ?_ | refine zN (by decide) ?_ | with_reducible refine zQ ?_); (conv => whnf))))
  refine anew rfl fun id hid => ?_
  have hs : Sub (upd σ id (.cells (AVal.agg [i64v w]).cells)) σ := Sub.upd_fresh _ hid
  ((conv => whnf); (repeat ((first | with_reducible (first | refine zT rfl ?_ | refine zF rfl ?_ | refine zY rfl ?_) | refine zY (by decide) ?_ | refine zN (by decide) ?_ | with_reducible refine zQ ?_); (conv => whnf))))
  by_cases h : 0 ≤ n
  · (repeat ((first | refine aload (by (repeat (first | with_reducible exact upd_same _ _ _ | assumption | rw [upd_ne _ _ (by first | assumption | (apply Ne.symm; assumption))]))) rfl ?_ | refine afit_i64 (by omega) ?_ | refine arem_nonneg (by omega) (by omega) ?_ | refine adiv_i64 (by omega) (by omega) ?_ | refine abr_yes (by omega) ?_ | refine abr_no (by omega) ?_ | refine amin ?_ | refine amax ?_ | refine afit_u64 (by omega) ?_ | refine afit_u8 (by omega) ?_ | rw [List.length_map]); ((conv => whnf); (repeat ((first | with_reducible (first | refine zT rfl ?_ | refine zF rfl ?_ | refine zY rfl ?_) | refine zY (by decide) ?_ | refine zN (by decide) ?_ | with_reducible refine zQ ?_); (conv => whnf))))))
    refine aloads (l := [i64v w]) (upd_same _ _ _) (by exact Nat.le_refl 1) rfl ?_
    ((conv => whnf); (repeat ((first | with_reducible (first | refine zT rfl ?_ | refine zF rfl ?_ | refine zY rfl ?_) | refine zY (by decide) ?_ | refine zN (by decide) ?_ | with_reducible refine zQ ?_); (conv => whnf))))
    refine acall (sqSize w _) ?_
    rintro _ σ_ ⟨rfl, e_⟩
    obtain rfl := e_.symm
    refine ⟨?_, Ext.refl _⟩
    ((conv => whnf); (repeat ((first | with_reducible (first | refine zT rfl ?_ | refine zF rfl ?_ | refine zY rfl ?_) | refine zY (by decide) ?_ | refine zN (by decide) ?_ | with_reducible refine zQ ?_); (conv => whnf))))
    exact aret (VLe.refl _) hs ⟨congrArg boolv (dec_congr ⟨fun h2 => ⟨h, h2⟩, fun h2 => h2.2⟩), rfl⟩
  · (repeat ((first | refine aload (by (repeat (first | with_reducible exact upd_same _ _ _ | assumption | rw [upd_ne _ _ (by first | assumption | (apply Ne.symm; assumption))]))) rfl ?_ | refine afit_i64 (by omega) ?_ | refine arem_nonneg (by omega) (by omega) ?_ | refine adiv_i64 (by omega) (by omega) ?_ | refine abr_yes (by omega) ?_ | refine abr_no (by omega) ?_ | refine amin ?_ | refine amax ?_ | refine afit_u64 (by omega) ?_ | refine afit_u8 (by omega) ?_ | rw [List.length_map]); ((conv => whnf); (repeat ((first | with_reducible (first | refine zT rfl ?_ | refine zF rfl ?_ | refine zY rfl ?_) | refine zY (by decide) ?_ | refine zN (by decide) ?_ | with_reducible refine zQ ?_); (conv => whnf))))))
    exact aret (VLe.refl _) hs ⟨congrArg boolv (decide_eq_false fun h2 => h h2.1).symm, rfl⟩

theorem refSize02 (w : Int) (σ : AHeap) : ACalls Try.prog i_bowlineref02_Size [i64v w] σ fun v σ' => v = i64v (spaceSize w) ∧ σ' = σ := by
  refine k_bowlineref02_Size rfl ?_
  ((conv => whnf); (repeat ((first | with_reducible (first | refine zT rfl ?_ | refine zF rfl ?_ | refine zY rfl ?_) | refine zY (by decide) ?_ | refine zN (by decide) ?_ | with_reducible refine zQ ?_); (conv => whnf))))
  by_cases h1 : w < 1
  · (repeat ((first | refine aload (by (repeat (first | with_reducible exact upd_same _ _ _ | assumption | rw [upd_ne _ _ (by first | assumption | (apply Ne.symm; assumption))]))) rfl ?_ | refine afit_i64 (by omega) ?_ | refine arem_nonneg (by omega) (by omega) ?_ | refine adiv_i64 (by omega) (by omega) ?_ | refine abr_yes (by omega) ?_ | refine abr_no (by omega) ?_ | refine amin ?_ | refine amax ?_ | refine afit_u64 (by omega) ?_ | refine afit_u8 (by omega) ?_ | rw [List.length_map]); ((conv => whnf); (repeat ((first | with_reducible (first | refine zT rfl ?_ | refine zF rfl ?_ | refine zY rfl ?_) | refine zY (by decide) ?_ | refine zN (by decide) ?_ | with_reducible refine zQ ?_); (conv => whnf))))))
    exact aret_same ⟨by unfold spaceSize; rw [if_neg (fun h => by unfold spaceOk at h; omega)], rfl⟩
  · by_cases h2 : w > 16
    · (repeat ((first | refine aload (by (repeat (first | with_reducible exact upd_same _ _ _ | assumption | rw [upd_ne _ _ (by first | assumption | (apply Ne.symm; assumption))]))) rfl ?_ | refine afit_i64 (by omega) ?_ | refine arem_nonneg (by omega) (by omega) ?_ | refine adiv_i64 (by omega) (by omega) ?_ | refine abr_yes (by omega) ?_ | refine abr_no (by omega) ?_ | refine amin ?_ | refine amax ?_ | refine afit_u64 (by omega) ?_ | refine afit_u8 (by omega) ?_ | rw [List.length_map]); ((conv => whnf); (repeat ((first | with_reducible (first | refine zT rfl ?_ | refine zF rfl ?_ | refine zY rfl ?_) | refine zY (by decide) ?_ | refine zN (by decide) ?_ | with_reducible refine zQ ?_); (conv => whnf))))))
      exact aret_same ⟨by unfold spaceSize; rw [if_neg (fun h => by unfold spaceOk at h; omega)], rfl⟩
    · obtain ⟨k, rfl⟩ : ∃ k : Nat, w = k := ⟨w.toNat, by omega⟩
      (repeat ((first | refine aload (by (repeat (first | with_reducible exact upd_same _ _ _ | assumption | rw [upd_ne _ _ (by first | assumption | (apply Ne.symm; assumption))]))) rfl ?_ | refine afit_i64 (by omega) ?_ | refine arem_nonneg (by omega) (by omega) ?_ | refine adiv_i64 (by omega) (by omega) ?_ | refine abr_yes (by omega) ?_ | refine abr_no (by omega) ?_ | refine amin ?_ | refine amax ?_ | refine afit_u64 (by omega) ?_ | refine afit_u8 (by omega) ?_ | rw [List.length_map]); ((conv => whnf); (repeat ((first | with_reducible (first | refine zT rfl ?_ | refine zF rfl ?_ | refine zY rfl ?_) | refine zY (by decide) ?_ | refine zN (by decide) ?_ | with_reducible refine zQ ?_); (conv => whnf))))))
      refine aloop (α := Nat) (fun i => [(s3, i64v ((2 ^ i : Nat) : Int)), (s4, i64v i)]) (fun _ => σ) (fun i => i ≤ k) (fun i => k - i) 0 (Nat.zero_le _) (Sub.refl _) ?_ ?_
      · ((conv => whnf); (repeat ((first | with_reducible (first | refine zT rfl ?_ | refine zF rfl ?_ | refine zY rfl ?_) | refine zY (by decide) ?_ | refine zN (by decide) ?_ | with_reducible refine zQ ?_); (conv => whnf))))
        (repeat' first | with_reducible exact EnvLe.refl _ | (refine EnvLe.node ?_ (by first | exact Or.inl rfl | exact Or.inr (Or.inl rfl) | exact Or.inr (Or.inr ⟨nofun, VLe.slice _ _ _⟩)) ?_))
      intro i hi
      have hp : 2 ^ i ≤ 2 ^ 16 := Nat.pow_le_pow_right (by omega) (by omega)
      have hsucc : 2 ^ (i + 1) = 2 * 2 ^ i := by rw [Nat.pow_succ, Nat.mul_comm]
      by_cases h : i < k
      · generalize hq : 2 ^ i = q at *
        ((conv => whnf); (repeat ((first | with_reducible (first | refine zT rfl ?_ | refine zF rfl ?_ | refine zY rfl ?_) | refine zY (by decide) ?_ | refine zN (by decide) ?_ | with_reducible refine zQ ?_); (conv => whnf))))
        (repeat ((first | refine aload (by (repeat (first | with_reducible exact upd_same _ _ _ | assumption | rw [upd_ne _ _ (by first | assumption | (apply Ne.symm; assumption))]))) rfl ?_ | refine afit_i64 (by omega) ?_ | refine arem_nonneg (by omega) (by omega) ?_ | refine adiv_i64 (by omega) (by omega) ?_ | refine abr_yes (by omega) ?_ | refine abr_no (by omega) ?_ | refine amin ?_ | refine amax ?_ | refine afit_u64 (by omega) ?_ | refine afit_u8 (by omega) ?_ | rw [List.length_map]); ((conv => whnf); (repeat ((first | with_reducible (first | refine zT rfl ?_ | refine zF rfl ?_ | refine zY rfl ?_) | refine zY (by decide) ?_ | refine zN (by decide) ?_ | with_reducible refine zQ ?_); (conv => whnf))))))
        refine ⟨i + 1, h, by omega, Sub.refl _, ?_⟩
        rw [hsucc, show (2 : Int) * (q : Int) = ((2 * q : Nat) : Int) by omega]
        ((conv => whnf); (repeat ((first | with_reducible (first | refine zT rfl ?_ | refine zF rfl ?_ | refine zY rfl ?_) | refine zY (by decide) ?_ | refine zN (by decide) ?_ | with_reducible refine zQ ?_); (conv => whnf))))
        (repeat' first | with_reducible exact EnvLe.refl _ | (refine EnvLe.node ?_ (by first | exact Or.inl rfl | exact Or.inr (Or.inl rfl) | exact Or.inr (Or.inr ⟨nofun, VLe.slice _ _ _⟩)) ?_))
      · obtain rfl : i = k := by omega
        have he : spaceSize (i : Int) = ((2 ^ i : Nat) : Int) := by unfold spaceSize; rw [if_pos (by unfold spaceOk; omega), Int.toNat_natCast]
        generalize hq : 2 ^ i = q at *
        ((conv => whnf); (repeat ((first | with_reducible (first | refine zT rfl ?_ | refine zF rfl ?_ | refine zY rfl ?_) | refine zY (by decide) ?_ | refine zN (by decide) ?_ | with_reducible refine zQ ?_); (conv => whnf))))
        (repeat ((first | refine aload (by (repeat (first | with_reducible exact upd_same _ _ _ | assumption | rw [upd_ne _ _ (by first | assumption | (apply Ne.symm; assumption))]))) rfl ?_ | refine afit_i64 (by omega) ?_ | refine arem_nonneg (by omega) (by omega) ?_ | refine adiv_i64 (by omega) (by omega) ?_ | refine abr_yes (by omega) ?_ | refine abr_no (by omega) ?_ | refine amin ?_ | refine amax ?_ | refine afit_u64 (by omega) ?_ | refine afit_u8 (by omega) ?_ | rw [List.length_map]); ((conv => whnf); (repeat ((first | with_reducible (first | refine zT rfl ?_ | refine zF rfl ?_ | refine zY rfl ?_) | refine zY (by decide) ?_ | refine zN (by decide) ?_ | with_reducible refine zQ ?_); (conv => whnf))))))
        exact aret_same ⟨by rw [he], rfl⟩

theorem refIs02 (w n : Int) (σ : AHeap) : ACalls Try.prog i_bowlineref02_Is [i64v w, i64v n] σ fun v σ' => v = boolv (isNum w n) ∧ σ' = σ := by
  refine k_bowlineref02_Is rfl ?_
  ((conv => whnf); (repeat ((first | with_reducible (first | refine zT rfl ?_ | refine zF rfl ?_ | refine zY rfl ?_) | refine zY (by decide) ?_ | refine zN (by decide) ?_ | with_reducible refine zQ ?_); (conv => whnf))))
  by_cases h : 0 ≤ n
  · (repeat ((first | refine aload (by (repeat (first | with_reducible exact upd_same _ _ _ | assumption | rw [upd_ne _ _ (by first | assumption | (apply Ne.symm; assumption))]))) rfl ?_ | refine afit_i64 (by omega) ?_ | refine arem_nonneg (by omega) (by omega) ?_ | refine adiv_i64 (by omega) (by omega) ?_ | refine abr_yes (by omega) ?_ | refine abr_no (by omega) ?_ | refine amin ?_ | refine amax ?_ | refine afit_u64 (by omega) ?_ | refine afit_u8 (by omega) ?_ | rw [List.length_map]); ((conv => whnf); (repeat ((first | with_reducible (first | refine zT rfl ?_ | refine zF rfl ?_ | refine zY rfl ?_) | refine zY (by decide) ?_ | refine zN (by decide) ?_ | with_reducible refine zQ ?_); (conv => whnf))))))
    refine acall (refSize02 w _) ?_
    rintro _ σ_ ⟨rfl, e_⟩
    obtain rfl := e_.symm
    refine ⟨?_, Ext.refl _⟩
    ((conv => whnf); (repeat ((first | with_reducible (first | refine zT rfl ?_ | refine zF rfl ?_ | refine zY rfl ?_) | refine zY (by decide) ?_ | refine zN (by decide) ?_ | with_reducible refine zQ ?_); (conv => whnf))))
    exact aret_same ⟨congrArg boolv (dec_congr ⟨fun h2 => ⟨h, h2⟩, fun h2 => h2.2⟩), rfl⟩
  · (repeat ((first | refine aload (by (repeat (first | with_reducible exact upd_same _ _ _ | assumption | rw [upd_ne _ _ (by first | assumption | (apply Ne.symm; assumption))]))) rfl ?_ | refine afit_i64 (by omega) ?_ | refine arem_nonneg (by omega) (by omega) ?_ | refine adiv_i64 (by omega) (by omega) ?_ | refine abr_yes (by omega) ?_ | refine abr_no (by omega) ?_ | refine amin ?_ | refine amax ?_ | refine afit_u64 (by omega) ?_ | refine afit_u8 (by omega) ?_ | rw [List.length_map]); ((conv => whnf); (repeat ((first | with_reducible (first | refine zT rfl ?_ | refine zF rfl ?_ | refine zY rfl ?_) | refine zY (by decide) ?_ | refine zN (by decide) ?_ | with_reducible refine zQ ?_); (conv => whnf))))))
    exact aret_same ⟨congrArg boolv (decide_eq_false fun h2 => h h2.1).symm, rfl⟩
end Go.Proofs.Ytnfdgccmpglbhaa
/-
  The right to append, beside whatever else is known of the heap.
-/
namespace Go.Proofs.Ytnfdgccmpglbhaa
set_option linter.unusedVariables false
set_option linter.unusedSimpArgs false
open Go Go.Am

theorem sub_none {σ σ' : AHeap} (h : Sub σ σ') {id : Nat} (k : σ id = none) : σ' id = none := by
  cases e : σ' id with
  | none => rfl
  | some o => rw [h _ _ e] at k; cases k
theorem sub_del {σ σb : AHeap} {id : Nat} (h : Sub σ σb) (h1 : σb id = none) : Sub (del σ id) σb := fun j o hj => by
  have hne : j ≠ id := fun e => by subst e; rw [h1] at hj; cases hj
  rw [del_ne _ hne]; exact h _ _ hj
theorem sub_upd {σ σb : AHeap} {id : Nat} (o : AObj) (h : Sub σ σb) (h1 : σb id = none) : Sub (upd σ id o) σb := fun j x hj => by
  have hne : j ≠ id := fun e => by subst e; rw [h1] at hj; cases hj
  rw [upd_ne _ _ hne]; exact h _ _ hj
/-- A token that is there, and is not of the heap below. -/
def TokIn (σ σb : AHeap) (tk : Tok) : Prop := tk = .full ∨ ∃ t, tk = .tip t ∧ σ t = some .tip ∧ σb t = none
theorem TokIn.full (σ σb : AHeap) : TokIn σ σb .full := .inl rfl
theorem TokIn.ne {σ σb : AHeap} {tk : Tok} {id : Nat} (o : AObj) (h : TokIn σ σb tk) (k : ∀ t, tk = .tip t → id ≠ t) : TokIn (upd σ id o) σb tk := by
  rcases h with rfl | ⟨t, rfl, h1, h2⟩
  · exact .inl rfl
  · exact .inr ⟨t, rfl, by rw [upd_ne _ _ (Ne.symm (k t rfl))]; exact h1, h2⟩
theorem TokIn.ne_of {σ σb : AHeap} {tk : Tok} {id : Nat} {o : AObj} (h : TokIn σ σb tk) (k : σ id = some o) (ho : o.isTip = false) : ∀ t, tk = .tip t → id ≠ t := by
  rintro t rfl e
  subst e
  rcases h with h | ⟨t', h0, h1, h2⟩
  · cases h
  · cases h0; rw [h1] at k; cases k; cases ho
/-- Something of the heap below is set. -/
theorem TokIn.set {σ σb : AHeap} {tk : Tok} {id : Nat} {o : AObj} (x : AObj) (h : TokIn σ σb tk) (k : σ id = some o) (ho : o.isTip = false) : TokIn (upd σ id x) σb tk := h.ne x (h.ne_of k ho)
theorem TokIn.ext {σ σ' σb : AHeap} {tk : Tok} (h : TokIn σ σb tk) (k : ∀ t, σ t = some .tip → σ' t = some .tip) : TokIn σ' σb tk := by
  rcases h with rfl | ⟨t, rfl, h1, h2⟩
  · exact .inl rfl
  · exact .inr ⟨t, rfl, k t h1, h2⟩
theorem Owned.tokIn {σ σb σ' : AHeap} {tk : Tok} (hs : Sub σ σb) (h : Owned σ σ' tk) : TokIn σ' σb tk := by
  rcases h with ⟨rfl, rfl⟩ | ⟨t, h0, rfl, rfl⟩
  · exact .inl rfl
  · exact .inr ⟨t, rfl, upd_same _ _ _, sub_none hs h0⟩
theorem aapp_in {σ σb : AHeap} {s bytes : Nat} {xs ys : List AVal} {tk : Tok} {K : AVal → AHeap → Prop} (h : TokIn σ σb tk) (hs : Sub σ σb) (hl : (xs.length + ys.length) * bytes ≤ 140737488355328)
    (k : ∀ t' σ', Ext σ σ' → Sub σ' σb → TokIn σ' σb (.tip t') → K (.slice s (xs ++ ys) (.tip t')) σ') : AApp σ s bytes xs tk ys K := by
  rcases h with rfl | ⟨t, rfl, h1, h2⟩
  · refine aapp_full hl fun t ht => k t _ (Ext.upd_fresh _ ht) (sub_upd _ hs (sub_none hs ht)) (.inr ⟨t, rfl, upd_same _ _ _, sub_none hs ht⟩)
  · refine aapp_tip h1 hl fun t' ht' => ?_
    have hb : σb t' = none := sub_none hs ht'
    refine k t' _ (fun id o ho e => ?_) (sub_upd _ (sub_del hs h2) hb) (.inr ⟨t', rfl, upd_same _ _ _, hb⟩)
    have hne : id ≠ t := fun q => by subst q; rw [h1] at e; cases e; cases ho
    have e2 : del σ t id = some o := by rw [del_ne _ hne]; exact e
    rw [upd_ne]; exact e2
    intro q; subst q; rw [e] at ht'; cases ht'
end Go.Proofs.Ytnfdgccmpglbhaa
/-
  A heap by what is known of it: objects and rights to append that are new, each apart from the others.
-/
namespace Go.Proofs.Ytnfdgccmpglbhaa
set_option linter.unusedVariables false
set_option linter.unusedSimpArgs false
open Go Go.Am

inductive HE where
  | o (i : Nat) (x : AObj)
  | t (k : Tok)
def HE.id : HE → Option Nat
  | .o i _ => some i
  | .t (.tip k) => some k
  | .t _ => none
def HE.ok (σ : AHeap) : HE → Prop
  | .o i x => σ i = some x
  | .t .full => True
  | .t (.tip k) => σ k = some .tip
  | .t _ => False
def ids (L : List HE) : List Nat := L.filterMap HE.id
theorem mem_ids {L : List HE} {i : Nat} : i ∈ ids L ↔ ∃ e ∈ L, e.id = some i := List.mem_filterMap
structure Hp (σb : AHeap) (L : List HE) (σ : AHeap) : Prop where
  sub : Sub σ σb
  nd : (ids L).Nodup
  ok : ∀ e ∈ L, e.ok σ
  new : ∀ i ∈ ids L, σb i = none

theorem HE.ok_ne {e : HE} {σ σ' : AHeap} (h : e.ok σ) (k : ∀ j, e.id = some j → σ' j = σ j) : e.ok σ' := by
  cases e with
  | o j y => exact (k j rfl).trans h
  | t q => cases q with
    | none => exact h
    | full => exact h
    | own _ => exact h
    | tip j => exact (k j rfl).trans h
theorem HE.ok_sub {e : HE} {σ σ' : AHeap} (h : e.ok σ) (k : Sub σ' σ) : e.ok σ' := by
  cases e with
  | o j y => exact k _ _ h
  | t q => cases q with
    | none => exact h
    | full => exact h
    | own _ => exact h
    | tip j => exact k _ _ h
theorem HE.live {e : HE} {σ : AHeap} {i : Nat} (h : e.ok σ) (hi : e.id = some i) : σ i ≠ none := by
  cases e with
  | o j y => cases hi; intro e; rw [show σ i = some y from h] at e; cases e
  | t q => cases q with
    | none => cases hi
    | full => cases hi
    | own _ => cases hi
    | tip j => cases hi; intro e; rw [show σ i = some .tip from h] at e; cases e

theorem perm_erase : ∀ {L : List HE} {k : Nat} {e : HE}, L[k]? = some e → L.Perm (e :: L.eraseIdx k)
  | [], _, _, h => by simp at h
  | a :: l, 0, e, h => by simp at h; subst h; exact .refl _
  | a :: l, k + 1, e, h => ((perm_erase (L := l) (by simpa using h)).cons a).trans (.swap ..)
theorem perm_set : ∀ {L : List HE} {k : Nat} {e : HE}, k < L.length → (e :: L.eraseIdx k).Perm (L.set k e)
  | [], _, _, h => by simp at h
  | a :: l, 0, e, h => .refl _
  | a :: l, k + 1, e, h => (List.Perm.swap ..).trans ((perm_set (L := l) (by simpa using h)).cons a)
theorem del_none {σ : AHeap} {i j : Nat} (h : σ j = none) : del σ i j = none := by unfold del; split <;> simp [h]
namespace Hp
variable {σb σ : AHeap} {L : List HE}
theorem nil (σ : AHeap) : Hp σ [] σ := ⟨Sub.refl _, .nil, nofun, nofun⟩
theorem fresh (H : Hp σb L σ) {i : Nat} (h : σ i = none) : i ∉ ids L ∧ σb i = none :=
  ⟨fun hm => let ⟨e, he, hi⟩ := mem_ids.1 hm; HE.live (H.ok e he) hi h, sub_none H.sub h⟩
theorem cons_o (H : Hp σb L σ) {i : Nat} (h : σ i = none) (x : AObj) : Hp σb (.o i x :: L) (upd σ i x) := by
  obtain ⟨h1, h2⟩ := H.fresh h
  refine ⟨sub_upd _ H.sub h2, List.nodup_cons.2 ⟨h1, H.nd⟩, fun e he => ?_, fun j hj => ?_⟩
  · rcases List.mem_cons.1 he with rfl | he
    · exact upd_same _ _ _
    · exact HE.ok_ne (H.ok e he) fun j hj => upd_ne _ _ fun e' => h1 (mem_ids.2 ⟨e, he, e' ▸ hj⟩)
  · rcases List.mem_cons.1 (show j ∈ i :: ids L from hj) with rfl | hj
    · exact h2
    · exact H.new j hj
theorem cons_tip (H : Hp σb L σ) {i : Nat} (h : σ i = none) : Hp σb (.t (.tip i) :: L) (upd σ i .tip) := by
  obtain ⟨h1, h2⟩ := H.fresh h
  refine ⟨sub_upd _ H.sub h2, List.nodup_cons.2 ⟨h1, H.nd⟩, fun e he => ?_, fun j hj => ?_⟩
  · rcases List.mem_cons.1 he with rfl | he
    · exact upd_same _ _ _
    · exact HE.ok_ne (H.ok e he) fun j hj => upd_ne _ _ fun e' => h1 (mem_ids.2 ⟨e, he, e' ▸ hj⟩)
  · rcases List.mem_cons.1 (show j ∈ i :: ids L from hj) with rfl | hj
    · exact h2
    · exact H.new j hj
theorem cons_full (H : Hp σb L σ) : Hp σb (.t .full :: L) σ :=
  ⟨H.sub, H.nd, fun e he => (List.mem_cons.1 he).elim (fun h => by subst h; trivial) (H.ok e), H.new⟩
theorem perm {L' : List HE} (H : Hp σb L σ) (p : L.Perm L') : Hp σb L' σ :=
  ⟨H.sub, (p.filterMap _).nodup_iff.1 H.nd, fun e he => H.ok e (p.mem_iff.2 he), fun i hi => H.new i ((p.filterMap _).mem_iff.2 hi)⟩
theorem tail {e : HE} (H : Hp σb (e :: L) σ) : Hp σb L σ := by
  refine ⟨H.sub, ?_, fun x hx => H.ok x (List.mem_cons_of_mem _ hx), fun i hi => H.new i ?_⟩
  · have := H.nd
    unfold ids at *
    rw [List.filterMap_cons] at this
    split at this
    · exact this
    · exact (List.nodup_cons.1 this).2
  · obtain ⟨x, hx, hi⟩ := mem_ids.1 hi
    exact mem_ids.2 ⟨x, List.mem_cons_of_mem _ hx, hi⟩
theorem front (H : Hp σb L σ) {k : Nat} {e : HE} (hk : L[k]? = some e) : Hp σb (e :: L.eraseIdx k) σ := by
  exact H.perm (perm_erase hk)
theorem back {k : Nat} {e : HE} (hk : k < L.length) (H : Hp σb (e :: L.eraseIdx k) σ) : Hp σb (L.set k e) σ := H.perm (perm_set hk)
theorem get (H : Hp σb L σ) {k i : Nat} {x : AObj} (hk : L[k]? = some (.o i x)) : σ i = some x := H.ok _ (List.mem_of_getElem? hk)
theorem upd_head {i : Nat} {x : AObj} (H : Hp σb (.o i x :: L) σ) (y : AObj) : Hp σb (.o i y :: L) (upd σ i y) := by
  have h1 : i ∉ ids L := (List.nodup_cons.1 (show (i :: ids L).Nodup from H.nd)).1
  have h2 : σb i = none := H.new i (List.mem_cons_self ..)
  refine ⟨sub_upd _ H.sub h2, H.nd, fun e he => ?_, H.new⟩
  rcases List.mem_cons.1 he with rfl | he
  · exact upd_same _ _ _
  · exact HE.ok_ne (H.ok e (List.mem_cons_of_mem _ he)) fun j hj => upd_ne _ _ fun e' => h1 (mem_ids.2 ⟨e, he, e' ▸ hj⟩)
theorem set (H : Hp σb L σ) {k i : Nat} {x : AObj} (hk : L[k]? = some (.o i x)) (y : AObj) : Hp σb (L.set k (.o i y)) (upd σ i y) :=
  back (List.getElem?_eq_some_iff.1 hk).1 ((H.front hk).upd_head y)
theorem more {σ' : AHeap} (H : Hp σb L σ) (s : Sub σ' σ) : Hp σb L σ' := ⟨s.trans H.sub, H.nd, fun e he => HE.ok_sub (H.ok e he) s, H.new⟩
theorem rebase {σ0 : AHeap} (H : Hp σb L σ) (s : Sub σb σ0) : Hp σ0 L σ := ⟨H.sub.trans s, H.nd, H.ok, fun i hi => sub_none s (H.new i hi)⟩
theorem join {M : List HE} {σ' : AHeap} (H : Hp σb L σ) (N : Hp σ M σ') : Hp σb (M ++ L) σ' := by
  refine ⟨N.sub.trans H.sub, ?_, fun e he => ?_, fun i hi => ?_⟩
  · unfold ids; rw [List.filterMap_append]
    refine List.nodup_append.2 ⟨N.nd, H.nd, fun a ha b hb e => ?_⟩
    subst e
    obtain ⟨x, hx, hi⟩ := mem_ids.1 hb
    exact HE.live (H.ok x hx) hi (N.new a ha)
  · rcases List.mem_append.1 he with he | he
    · exact N.ok e he
    · exact HE.ok_sub (H.ok e he) N.sub
  · unfold ids at hi; rw [List.filterMap_append] at hi
    rcases List.mem_append.1 hi with hi | hi
    · exact sub_none H.sub (N.new i hi)
    · exact H.new i hi
theorem ext {M : List HE} {σ' : AHeap} (N : Hp σ M σ') : Ext σ σ' := fun i o _ e => N.sub i o e
theorem owned {σ' : AHeap} {tk : Tok} (H : Hp σb L σ) (h : Owned σ σ' tk) : Hp σb (.t tk :: L) σ' := by
  rcases h with ⟨rfl, rfl⟩ | ⟨t, h0, rfl, rfl⟩
  · exact H.cons_full
  · exact H.cons_tip h0
theorem toOwned {tk : Tok} {σ' : AHeap} (H : Hp σ [.t tk] σ') : ∃ σ2, Owned σ σ2 tk ∧ Sub σ' σ2 := by
  have := H.ok _ (List.mem_cons_self ..)
  cases tk with
  | none => exact this.elim
  | full => exact ⟨σ, .full _, H.sub⟩
  | own _ => exact this.elim
  | tip t => exact ⟨upd σ t .tip, .tip (H.new t (List.mem_cons_self ..)), fun i o e => by
      by_cases h : i = t
      · subst h; rw [upd_same] at e; cases e; exact this
      · rw [upd_ne _ _ h] at e; exact H.sub _ _ e⟩
/-- The first of two lists alone. -/
theorem left {L M : List HE} (H : Hp σb (L ++ M) σ) : Hp σb L σ := by
  refine ⟨H.sub, ?_, fun e he => H.ok e (List.mem_append_left _ he), fun i hi => H.new i ?_⟩
  · have := H.nd
    unfold ids at this ⊢
    rw [List.filterMap_append] at this
    exact (List.nodup_append.1 this).1
  · obtain ⟨x, hx, hi⟩ := mem_ids.1 hi
    exact mem_ids.2 ⟨x, List.mem_append_left _ hx, hi⟩
theorem comm (L M : List HE) (H : Hp σb (L ++ M) σ) : Hp σb (M ++ L) σ := H.perm List.perm_append_comm
/-- An object is given up. -/
theorem del_head {i : Nat} {x : AObj} (H : Hp σb (.o i x :: L) σ) : Hp σb L (del σ i) := by
  have h1 : i ∉ ids L := (List.nodup_cons.1 (show (i :: ids L).Nodup from H.nd)).1
  have h2 : σb i = none := H.new i (List.mem_cons_self ..)
  refine ⟨sub_del H.sub h2, H.tail.nd, fun e he => ?_, H.tail.new⟩
  exact HE.ok_ne (H.ok e (List.mem_cons_of_mem _ he)) fun j hj => del_ne _ fun e' => h1 (mem_ids.2 ⟨e, he, e' ▸ hj⟩)
theorem del_tip {i : Nat} (H : Hp σb (.t (.tip i) :: L) σ) : Hp σb L (del σ i) := by
  have h1 : i ∉ ids L := (List.nodup_cons.1 (show (i :: ids L).Nodup from H.nd)).1
  have h2 : σb i = none := H.new i (List.mem_cons_self ..)
  refine ⟨sub_del H.sub h2, H.tail.nd, fun e he => ?_, H.tail.new⟩
  exact HE.ok_ne (H.ok e (List.mem_cons_of_mem _ he)) fun j hj => del_ne _ fun e' => h1 (mem_ids.2 ⟨e, he, e' ▸ hj⟩)
end Hp

def setLK : List HE → Nat → HE → (List HE → Prop) → Prop
  | _ :: l, 0, x, k => k (x :: l)
  | e :: l, n + 1, x, k => setLK l n x fun l' => k (e :: l')
  | [], _, _, _ => False
theorem setLK_spec : ∀ {L : List HE} {n : Nat} {x : HE} {k : List HE → Prop}, setLK L n x k → n < L.length ∧ k (L.set n x)
  | [], _, _, _, h => h.elim
  | _ :: _, 0, _, _, h => ⟨Nat.zero_lt_succ _, h⟩
  | e :: l, n + 1, x, k, h => let ⟨a, b⟩ := setLK_spec (L := l) h; ⟨Nat.succ_lt_succ a, b⟩
def eraLK : List HE → Nat → (List HE → Prop) → Prop
  | _ :: l, 0, k => k l
  | e :: l, n + 1, k => eraLK l n fun l' => k (e :: l')
  | [], _, _ => False
theorem eraLK_spec : ∀ {L : List HE} {n : Nat} {k : List HE → Prop}, eraLK L n k → n < L.length ∧ k (L.eraseIdx n)
  | [], _, _, h => h.elim
  | _ :: _, 0, _, h => ⟨Nat.zero_lt_succ _, h⟩
  | e :: l, n + 1, k, h => let ⟨a, b⟩ := eraLK_spec (L := l) h; ⟨Nat.succ_lt_succ a, b⟩
theorem splice_cons {z : AVal} {zs xs : List AVal} {n : Nat} : splice (z :: zs) (n + 1) xs = z :: splice zs n xs := by
  unfold splice; rw [List.take_succ_cons, show n + 1 + xs.length = (n + xs.length) + 1 by omega, List.drop_succ_cons]; rfl
theorem putK_spec : ∀ {cs : List AVal} {off : Nat} {xs : List AVal} {k : List AVal → Prop}, putK cs off xs k → off + xs.length ≤ cs.length ∧ k (splice cs off xs)
  | cs, 0, [], k, h => ⟨Nat.zero_le _, by unfold splice; simpa [putK] using h⟩
  | z :: zs, 0, x :: xs, k, h => by
    have h : putK zs 0 xs fun l => k (x :: l) := h
    obtain ⟨a, b⟩ := putK_spec h
    refine ⟨by simp only [List.length_cons] at *; omega, ?_⟩
    have e : splice (z :: zs) 0 (x :: xs) = x :: splice zs 0 xs := by unfold splice; simp
    rw [e]; exact b
  | z :: zs, n + 1, xs, k, h => by
    have h : putK zs n xs fun l => k (z :: l) := by cases xs <;> exact h
    obtain ⟨a, b⟩ := putK_spec h
    refine ⟨by simp only [List.length_cons] at *; omega, ?_⟩
    rw [splice_cons]; exact b
  | [], 0, x :: xs, k, h => by exact (show False from h).elim
  | [], n + 1, xs, k, h => by cases xs <;> exact (show False from h).elim
def dtK : List AVal → Nat → Nat → (List AVal → Prop) → Prop
  | _ :: l, o + 1, n, k => dtK l o n k
  | x :: l, 0, n + 1, k => dtK l 0 n fun m => k (x :: m)
  | _, 0, 0, k => k []
  | [], _ + 1, _, _ => False
  | [], 0, _ + 1, _ => False
theorem dtK_spec : ∀ {cs : List AVal} {off n : Nat} {k : List AVal → Prop}, dtK cs off n k → off + n ≤ cs.length ∧ k ((cs.drop off).take n)
  | c :: l, o + 1, n, k, h => by
    have h : dtK l o n k := h
    obtain ⟨a, b⟩ := dtK_spec h
    exact ⟨by simp only [List.length_cons]; omega, by rw [List.drop_succ_cons]; exact b⟩
  | x :: l, 0, n + 1, k, h => by
    have h : dtK l 0 n fun m => k (x :: m) := h
    obtain ⟨a, b⟩ := dtK_spec h
    exact ⟨by simp only [List.length_cons]; omega, by simpa using b⟩
  | c :: l, 0, 0, k, h => ⟨by simp, by simpa [dtK] using h⟩
  | [], 0, 0, k, h => ⟨by simp, by simpa [dtK] using h⟩
  | [], _ + 1, _, _, h => (show False from h).elim
  | [], 0, _ + 1, _, h => (show False from h).elim

theorem acellA {cs : List AVal} {off n : Nat} {K : AVal → Prop} (h : dtK cs off n fun l => K (.agg l)) : ACell cs off (some n) K := let ⟨a, b⟩ := dtK_spec h; acells a rfl b
/-- Where an entry stands in a list. -/
inductive AtK : List HE → Nat → HE → Prop
  | h {e : HE} {l : List HE} : AtK (e :: l) 0 e
  | t {e d : HE} {l : List HE} {k : Nat} : AtK l k e → AtK (d :: l) (k + 1) e
theorem AtK.get {L : List HE} {k : Nat} {e : HE} (h : AtK L k e) : L[k]? = some e := by
  induction h with
  | h => rfl
  | t _ ih => rw [List.getElem?_cons_succ]; exact ih
section ops
variable {σb σ : AHeap} {L : List HE}
theorem hnew (H : Hp σb L σ) {xs : List AVal} {K : Nat → AHeap → Prop} (hc : xs.all AVal.isCell = true) (h : ∀ i σ', Hp σb (.o i (.cells xs) :: L) σ' → K i σ') : ANew σ xs K :=
  anew hc fun i hi => h i _ (H.cons_o hi _)
theorem hnewmap (H : Hp σb L σ) {K : Nat → AHeap → Prop} (h : ∀ i σ', Hp σb (.o i (.map []) :: L) σ' → K i σ') : ANewMap σ K :=
  ⟨fun i hi => h i _ (H.cons_o hi _)⟩
theorem hload (H : Hp σb L σ) {k i off : Nat} {cs : List AVal} {x : AVal} {K : AVal → Prop} (hk : L[k]? = some (.o i (.cells cs))) (hx : cs[off]? = some x) (h : K x) : ALoad σ i off none K :=
  aload (H.get hk) hx h
theorem hloadA (H : Hp σb L σ) {k i off n : Nat} {cs : List AVal} {K : AVal → Prop} (hk : L[k]? = some (.o i (.cells cs))) (h : dtK cs off n fun l => K (.agg l)) : ALoad σ i off (some n) K :=
  let ⟨a, b⟩ := dtK_spec h; aloads (H.get hk) a rfl b
theorem hstore (H : Hp σb L σ) {k i off : Nat} {cs xs : List AVal} {K : AHeap → Prop} (hk : L[k]? = some (.o i (.cells cs))) (hc : xs.all AVal.isCell = true)
    (h : putK cs off xs fun l => setLK L k (.o i (.cells l)) fun L' => ∀ σ', Hp σb L' σ' → K σ') : AStore σ i off xs K :=
  let ⟨a, b⟩ := putK_spec h; let ⟨_, d⟩ := setLK_spec b; astore (H.get hk) a hc rfl (d _ (H.set hk _))
theorem hloadB {σ0 : AHeap} {L : List HE} (H : Hp σ0 L σ) {i off : Nat} {cs : List AVal} {x : AVal} {K : AVal → Prop} (b : σ0 i = some (.cells cs)) (hx : cs[off]? = some x) (h : K x) : ALoad σ i off none K :=
  aload (H.sub _ _ b) hx h
theorem hloadAB {σ0 : AHeap} {L : List HE} (H : Hp σ0 L σ) {i off n : Nat} {cs : List AVal} {K : AVal → Prop} (b : σ0 i = some (.cells cs)) (h : dtK cs off n fun l => K (.agg l)) : ALoad σ i off (some n) K :=
  let ⟨a, c⟩ := dtK_spec h; aloads (H.sub _ _ b) a rfl c
theorem hlookB {σ0 : AHeap} {L : List HE} (H : Hp σ0 L σ) {i : Nat} {es : List (Int × AVal)} {n : Int} {zero : AVal} {K : AVal → Prop} (b : σ0 i = some (.map es)) (h : K (((es.find? fun e => e.1 == n).map (·.2)).getD zero)) : ALook σ i n zero K :=
  ⟨es, H.sub _ _ b, h⟩
theorem hlook (H : Hp σb L σ) {k i : Nat} {es : List (Int × AVal)} {n : Int} {zero : AVal} {K : AVal → Prop} (hk : L[k]? = some (.o i (.map es))) (h : K (((es.find? fun e => e.1 == n).map (·.2)).getD zero)) : ALook σ i n zero K :=
  ⟨es, H.get hk, h⟩
theorem hmset (H : Hp σb L σ) {k i : Nat} {es : List (Int × AVal)} {n : Int} {x : AVal} {K : AHeap → Prop} (hk : L[k]? = some (.o i (.map es))) (hx : x.isCell = true)
    (h : setLK L k (.o i (.map (mapSet es n x))) fun L' => ∀ σ', Hp σb L' σ' → K σ') : AMset σ i n x K :=
  let ⟨_, d⟩ := setLK_spec h; ⟨es, H.get hk, hx, d _ (H.set hk _)⟩
theorem hmdel (H : Hp σb L σ) {k i : Nat} {es : List (Int × AVal)} {n : Int} {K : AHeap → Prop} (hk : L[k]? = some (.o i (.map es)))
    (h : setLK L k (.o i (.map (mapDel es n))) fun L' => ∀ σ', Hp σb L' σ' → K σ') : AMdel σ i n K :=
  let ⟨_, d⟩ := setLK_spec h; ⟨es, H.get hk, d _ (H.set hk _)⟩
theorem happ0 {s bytes : Nat} {xs ys : List AVal} {tk : Tok} {K : AVal → AHeap → Prop} (H : Hp σb (.t tk :: L) σ) (hl : (xs.length + ys.length) * bytes ≤ 140737488355328)
    (h : ∀ tk' σ', Hp σb (.t tk' :: L) σ' → K (.slice s (xs ++ ys) tk') σ') : AApp σ s bytes xs tk ys K := by
  have h0 := H.ok _ (List.mem_cons_self ..)
  cases tk with
  | none => exact h0.elim
  | own _ => exact h0.elim
  | full => exact aapp_full hl fun t ht => h _ _ (H.tail.cons_tip ht)
  | tip t =>
    refine aapp_tip h0 hl fun t' ht' => h _ _ ?_
    exact H.del_tip.cons_tip (del_none ht')
theorem happ {k : Nat} {s bytes : Nat} {xs ys : List AVal} {tk : Tok} {K : AVal → AHeap → Prop} (H : Hp σb L σ) (hk : L[k]? = some (.t tk)) (hl : (xs.length + ys.length) * bytes ≤ 140737488355328)
    (h : ∀ tk', setLK L k (.t tk') fun L' => ∀ σ', Hp σb L' σ' → K (.slice s (xs ++ ys) tk') σ') : AApp σ s bytes xs tk ys K :=
  happ0 (H.front hk) hl fun tk' σ' H' => (setLK_spec (h tk')).2 σ' (H'.back (List.getElem?_eq_some_iff.1 hk).1)
/-- An append to a slice that no right is known of yet but is full. -/
theorem happF {s bytes : Nat} {xs ys : List AVal} {K : AVal → AHeap → Prop} (H : Hp σb L σ) (hl : (xs.length + ys.length) * bytes ≤ 140737488355328)
    (h : ∀ tk' σ', Hp σb (.t tk' :: L) σ' → K (.slice s (xs ++ ys) tk') σ') : AApp σ s bytes xs .full ys K := happ0 H.cons_full hl h
theorem happnew (H : Hp σb L σ) {s bytes : Nat} {ys : List AVal} {K : AVal → AHeap → Prop} (hy : ys ≠ []) (hl : ys.length * bytes ≤ 140737488355328) (ho : ys.all (okElem s) = true)
    (h : ∀ r σ', Hp σb (.o r (.cells (ys.flatMap AVal.cells)) :: L) σ' → K (.ms r s 0 ys.length) σ') : AAppNew σ s bytes [] .full ys K :=
  aappnew hy hl ho fun r hr => h r _ (H.cons_o hr _)
theorem happm (H : Hp σb L σ) {k r s len bytes : Nat} {ys cs : List AVal} {K : AVal → AHeap → Prop} (hk : L[k]? = some (.o r (.cells cs))) (hc : len * s = cs.length) (hl : (len + ys.length) * bytes ≤ 140737488355328) (ho : ys.all (okElem s) = true)
    (h : ∀ r', setLK L k (.o r' (.cells (cs ++ ys.flatMap AVal.cells))) fun L' => ∀ σ', Hp σb L' σ' → K (.ms r' s 0 (len + ys.length)) σ') : AAppM σ r s 0 len bytes ys K := by
  refine aappm (H.get hk) hc hl ho fun r' hr' => (setLK_spec (h r')).2 _ ?_
  refine Hp.back (List.getElem?_eq_some_iff.1 hk).1 ?_
  exact ((H.front hk).del_head).cons_o (del_none hr') _
theorem zL (H : Hp σb L σ) {k i off : Nat} {cs : List AVal} {x : AVal} {K : AVal → Prop} (hk : AtK L k (.o i (.cells cs))) (hx : cs[off]? = some x) (h : K x) : ALoad σ i off none K := hload H hk.get hx h
theorem zA (H : Hp σb L σ) {k i off n : Nat} {cs : List AVal} {K : AVal → Prop} (hk : AtK L k (.o i (.cells cs))) (h : dtK cs off n fun l => K (.agg l)) : ALoad σ i off (some n) K := hloadA H hk.get h
theorem zS (H : Hp σb L σ) {k i off : Nat} {cs xs : List AVal} {K : AHeap → Prop} (hk : AtK L k (.o i (.cells cs))) (hc : xs.all AVal.isCell = true)
    (h : putK cs off xs fun l => setLK L k (.o i (.cells l)) fun L' => ∀ σ', Hp σb L' σ' → K σ') : AStore σ i off xs K := hstore H hk.get hc h
theorem zB {σ0 : AHeap} {L : List HE} (H : Hp σ0 L σ) {i off : Nat} {cs : List AVal} {x : AVal} {K : AVal → Prop} (b : σ0 i = some (.cells cs)) (hx : cs[off]? = some x) (h : K x) : ALoad σ i off none K := hloadB H b hx h
theorem zC {σ0 : AHeap} {L : List HE} (H : Hp σ0 L σ) {i off n : Nat} {cs : List AVal} {K : AVal → Prop} (b : σ0 i = some (.cells cs)) (h : dtK cs off n fun l => K (.agg l)) : ALoad σ i off (some n) K := hloadAB H b h
theorem zMs (H : Hp σb L σ) {k i : Nat} {es : List (Int × AVal)} {n : Int} {x : AVal} {K : AHeap → Prop} (hk : AtK L k (.o i (.map es))) (hx : x.isCell = true)
    (h : setLK L k (.o i (.map (mapSet es n x))) fun L' => ∀ σ', Hp σb L' σ' → K σ') : AMset σ i n x K := hmset H hk.get hx h
theorem zMd (H : Hp σb L σ) {k i : Nat} {es : List (Int × AVal)} {n : Int} {K : AHeap → Prop} (hk : AtK L k (.o i (.map es)))
    (h : setLK L k (.o i (.map (mapDel es n))) fun L' => ∀ σ', Hp σb L' σ' → K σ') : AMdel σ i n K := hmdel H hk.get h
theorem zP {k : Nat} {s bytes : Nat} {xs ys : List AVal} {tk : Tok} {K : AVal → AHeap → Prop} (H : Hp σb L σ) (hk : AtK L k (.t tk)) (hl : (xs.length + ys.length) * bytes ≤ 140737488355328)
    (h : ∀ tk', setLK L k (.t tk') fun L' => ∀ σ', Hp σb L' σ' → K (.slice s (xs ++ ys) tk') σ') : AApp σ s bytes xs tk ys K := happ H hk.get hl h
theorem zR {cs : List AVal} {off : Nat} {x : AVal} {K : AVal → Prop} (hx : cs[off]? = some x) (h : K x) : ACell cs off none K := acell hx h
end ops
end Go.Proofs.Ytnfdgccmpglbhaa
/-
  Numbers that (repeat ((first | refine aload (by (repeat (first | with_reducible exact upd_same _ _ _ | assumption | rw [upd_ne _ _ (by first | assumption | (apply Ne.symm; assumption))]))) rfl ?_ | refine afit_i64 (by omega) ?_ | refine arem_nonneg (by omega) (by omega) ?_ | refine adiv_i64 (by omega) (by omega) ?_ | refine abr_yes (by omega) ?_ | refine abr_no (by omega) ?_ | refine amin ?_ | refine amax ?_ | refine afit_u64 (by omega) ?_ | refine afit_u8 (by omega) ?_ | rw [List.length_map]); ((conv => whnf); (repeat ((first | with_reducible (first | refine zT rfl ?_ | refine zF rfl ?_ | refine zY rfl ?_) | refine zY (by decide) ?_ | refine zN (by decide) ?_ | with_reducible refine zQ ?_); (conv => whnf)))))) round: how far, and on.
-/
namespace Go.Proofs.Ytnfdgccmpglbhaa
set_option linter.unusedVariables false
set_option linter.unusedSimpArgs false
open Go Go.Am

theorem and_mask_int (x : Int) (k : Nat) (hk : k ≤ 61) : bitsOp .and .i64 x ((2 ^ k : Nat) - 1 : Int) = x % ((2 ^ k : Nat) : Int) := by
  have h62 : 2 ^ k ≤ 2 ^ 61 := Nat.pow_le_pow_right (by omega) hk
  have p61 : (2 : Nat) ^ 61 = 2305843009213693952 := by decide
  have hpos : 0 < 2 ^ k := Nat.two_pow_pos k
  have e0 : (((2 ^ k : Nat) : Int) - 1) = ((2 ^ k - 1 : Nat) : Int) := by omega
  have h2 : BitVec.ofInt 64 (((2 ^ k : Nat) : Int) - 1) = BitVec.ofNat 64 (2 ^ k - 1) := by rw [e0]; exact BitVec.ofInt_natCast _ _
  show IntKind.i64.wrap ((BitVec.ofInt 64 x &&& BitVec.ofInt 64 _).toNat) = _
  rw [h2]
  have : (BitVec.ofInt 64 x &&& BitVec.ofNat 64 (2 ^ k - 1)).toNat = (x % 18446744073709551616).toNat % 2 ^ k := by
    rw [BitVec.toNat_and, BitVec.toNat_ofNat, BitVec.toNat_ofInt, Nat.mod_eq_of_lt (show 2 ^ k - 1 < 2 ^ 64 from Nat.lt_of_le_of_lt (Nat.sub_le _ _) (Nat.lt_of_le_of_lt h62 (by decide)))]
    exact Nat.and_two_pow_sub_one_eq_mod _ k
  rw [this]
  have hd : ((2 ^ k : Nat) : Int) ∣ 18446744073709551616 := by
    have : (2 ^ k) ∣ 2 ^ 64 := Nat.pow_dvd_pow 2 (by omega)
    have := Int.natCast_dvd_natCast.2 this
    exact this
  have e1 : (((x % 18446744073709551616).toNat % 2 ^ k : Nat) : Int) = x % ((2 ^ k : Nat) : Int) := by
    rw [Int.natCast_emod, Int.toNat_of_nonneg (Int.emod_nonneg _ (by decide)), Int.emod_emod_of_dvd _ hd]
  rw [e1]
  have h1 := Int.emod_nonneg x (show ((2 ^ k : Nat) : Int) ≠ 0 by omega)
  have h3 := Int.emod_lt_of_pos x (show 0 < ((2 ^ k : Nat) : Int) by omega)
  exact wrap_i64 (by omega) (by omega)
theorem spaceSize_pow {w : Int} (h : spaceOk w) : spaceSize w = ((2 ^ w.toNat : Nat) : Int) := by unfold spaceSize; rw [if_pos h]
theorem and_space {w : Int} (h : spaceOk w) (x : Int) : bitsOp .and .i64 x (spaceSize w - 1) = x % spaceSize w := by
  rw [spaceSize_pow h]; exact and_mask_int x _ (by unfold spaceOk at h; omega)
theorem space_div {w : Int} (h : spaceOk w) : spaceSize w ∣ 65536 := by
  rw [spaceSize_pow h]
  have : (2 ^ w.toNat) ∣ 2 ^ 16 := Nat.pow_dvd_pow 2 (by unfold spaceOk at h; omega)
  exact Int.natCast_dvd_natCast.2 this
theorem space_pos {w : Int} (h : spaceOk w) : 2 ≤ spaceSize w := by
  rw [spaceSize_pow h]
  have : 2 ^ 1 ≤ 2 ^ w.toNat := Nat.pow_le_pow_right (by omega) (by unfold spaceOk at h; omega)
  omega
abbrev ints (t : Tok) (l : List Int) : AVal := .slice 1 (l.map i64v) t
theorem get_ints {l : List Int} {i : Nat} (h : i < l.length) : (l.map i64v)[((i : Nat) : Int).toNat]? = some (i64v l[i]) := by
  rw [Int.toNat_natCast, List.getElem?_map, List.getElem?_eq_getElem h]; rfl
def askCode (w : Int) (l : List Int) : Int := if spaceOk w then (if l.all (isNum w) = true then 0 else 1) else 3
set_option maxRecDepth 10000 in
theorem sqAsk (w : Int) (l : List Int) (t : Tok) (σ : AHeap) (hl : l.length ≤ 1000000) : ACalls Try.prog i_seqnum_Space_ask [.agg [i64v w], ints t l] σ fun v σ' => v = i64v (askCode w l) ∧ σ' = σ := by
  refine k_seqnum_Space_ask rfl ?_
  have H := Hp.nil σ
  ((conv => whnf); (repeat ((first | with_reducible (first | refine zT rfl ?_ | refine zF rfl ?_ | refine zY rfl ?_) | refine zY (by decide) ?_ | refine zN (by decide) ?_ | with_reducible refine zQ ?_); (conv => whnf))))
  refine hnew H rfl ?_
  clear H
  intro i2 τ H
  ((conv => whnf); (repeat ((first | with_reducible (first | refine zT rfl ?_ | refine zF rfl ?_ | refine zY rfl ?_) | refine zY (by decide) ?_ | refine zN (by decide) ?_ | with_reducible refine zQ ?_); (conv => whnf))))
  refine ascope' (α := Nat) (fun i => [(s5, i64v i)]) (fun _ => τ) (fun _ => 0) (fun i => spaceOk w ∧ i ≤ l.length ∧ ∀ j (h : j < l.length), j < i → isNum w l[j] = true) (fun i => l.length - i) ?_ ?_
  · ((conv => whnf); (repeat ((first | with_reducible (first | refine zT rfl ?_ | refine zF rfl ?_ | refine zY rfl ?_) | refine zY (by decide) ?_ | refine zN (by decide) ?_ | with_reducible refine zQ ?_); (conv => whnf))))
    intro hlab
    ((conv => whnf); (repeat ((first | with_reducible (first | refine zT rfl ?_ | refine zF rfl ?_ | refine zY rfl ?_) | refine zY (by decide) ?_ | refine zN (by decide) ?_ | with_reducible refine zQ ?_); (conv => whnf))))
    (repeat ((first | refine zI (by omega) ?_ | refine zE (by omega) (by omega) ?_ | refine zD (by omega) (by omega) ?_ | refine zY (by omega) ?_ | refine zN (by omega) ?_ | refine amin ?_ | refine amax ?_ | refine zU (by omega) ?_ | refine z8 (by omega) ?_ | refine zX (by omega) (by omega) ?_ | refine zR rfl ?_ | refine acellA ?_ | refine zB H b1 rfl ?_ | refine zC H b1 ?_ | refine zB H b2 rfl ?_ | refine zC H b2 ?_ | refine zB H b3 rfl ?_ | refine zC H b3 ?_ | refine zB H b4 rfl ?_ | refine zC H b4 ?_ | (apply zL H; (· repeat first | exact .h | apply AtK.t); (· rfl)) | (apply zA H; (· repeat first | exact .h | apply AtK.t)) | (apply zS H; (· repeat first | exact .h | apply AtK.t); (· rfl); (conv => whnf); clear H; intro τ H) | rw [List.length_map]); ((conv => whnf); (repeat ((first | with_reducible (first | refine zT rfl ?_ | refine zF rfl ?_ | refine zY rfl ?_) | refine zY (by decide) ?_ | refine zN (by decide) ?_ | with_reducible refine zQ ?_); (conv => whnf))))))
    refine acall (sqRight w τ) ?_
    rintro _ σ_ ⟨rfl, e_⟩
    obtain rfl := e_.symm
    refine ⟨?_, Ext.refl _⟩
    ((conv => whnf); (repeat ((first | with_reducible (first | refine zT rfl ?_ | refine zF rfl ?_ | refine zY rfl ?_) | refine zY (by decide) ?_ | refine zN (by decide) ?_ | with_reducible refine zQ ?_); (conv => whnf))))
    by_cases h : spaceOk w
    · refine abr_false (by rw [decide_eq_true h]; rfl) ?_
      ((conv => whnf); (repeat ((first | with_reducible (first | refine zT rfl ?_ | refine zF rfl ?_ | refine zY rfl ?_) | refine zY (by decide) ?_ | refine zN (by decide) ?_ | with_reducible refine zQ ?_); (conv => whnf))))
      refine hlab _ (fun _ _ _ h => h) _ _ _ _ ⟨0, rfl, ⟨h, Nat.zero_le _, fun j _ h => by omega⟩, rfl, Sub.refl _, ?_⟩
      ((conv => whnf); (repeat ((first | with_reducible (first | refine zT rfl ?_ | refine zF rfl ?_ | refine zY rfl ?_) | refine zY (by decide) ?_ | refine zN (by decide) ?_ | with_reducible refine zQ ?_); (conv => whnf))))
      (repeat' first | with_reducible exact EnvLe.refl _ | (refine EnvLe.node ?_ (by first | exact Or.inl rfl | exact Or.inr (Or.inl rfl) | exact Or.inr (Or.inr ⟨nofun, VLe.slice _ _ _⟩)) ?_))
    · refine abr_true (by rw [decide_eq_false h]; rfl) ?_
      ((conv => whnf); (repeat ((first | with_reducible (first | refine zT rfl ?_ | refine zF rfl ?_ | refine zY rfl ?_) | refine zY (by decide) ?_ | refine zN (by decide) ?_ | with_reducible refine zQ ?_); (conv => whnf))))
      exact aret (VLe.refl _) H.sub ⟨by unfold askCode; rw [if_neg h], rfl⟩
  · rintro i ⟨hw, hi, hz⟩
    refine ⟨_, rfl, ?_⟩
    ((conv => whnf); (repeat ((first | with_reducible (first | refine zT rfl ?_ | refine zF rfl ?_ | refine zY rfl ?_) | refine zY (by decide) ?_ | refine zN (by decide) ?_ | with_reducible refine zQ ?_); (conv => whnf))))
    intro hlab
    ((conv => whnf); (repeat ((first | with_reducible (first | refine zT rfl ?_ | refine zF rfl ?_ | refine zY rfl ?_) | refine zY (by decide) ?_ | refine zN (by decide) ?_ | with_reducible refine zQ ?_); (conv => whnf))))
    rw [List.length_map]
    by_cases h : i < l.length
    · (repeat ((first | refine zI (by omega) ?_ | refine zE (by omega) (by omega) ?_ | refine zD (by omega) (by omega) ?_ | refine zY (by omega) ?_ | refine zN (by omega) ?_ | refine amin ?_ | refine amax ?_ | refine zU (by omega) ?_ | refine z8 (by omega) ?_ | refine zX (by omega) (by omega) ?_ | refine zR rfl ?_ | refine acellA ?_ | refine zB H b1 rfl ?_ | refine zC H b1 ?_ | refine zB H b2 rfl ?_ | refine zC H b2 ?_ | refine zB H b3 rfl ?_ | refine zC H b3 ?_ | refine zB H b4 rfl ?_ | refine zC H b4 ?_ | (apply zL H; (· repeat first | exact .h | apply AtK.t); (· rfl)) | (apply zA H; (· repeat first | exact .h | apply AtK.t)) | (apply zS H; (· repeat first | exact .h | apply AtK.t); (· rfl); (conv => whnf); clear H; intro τ H) | rw [List.length_map]); ((conv => whnf); (repeat ((first | with_reducible (first | refine zT rfl ?_ | refine zF rfl ?_ | refine zY rfl ?_) | refine zY (by decide) ?_ | refine zN (by decide) ?_ | with_reducible refine zQ ?_); (conv => whnf))))))
      refine aget (by omega) (get_ints h) ?_
      ((conv => whnf); (repeat ((first | with_reducible (first | refine zT rfl ?_ | refine zF rfl ?_ | refine zY rfl ?_) | refine zY (by decide) ?_ | refine zN (by decide) ?_ | with_reducible refine zQ ?_); (conv => whnf))))
      (repeat ((first | refine zI (by omega) ?_ | refine zE (by omega) (by omega) ?_ | refine zD (by omega) (by omega) ?_ | refine zY (by omega) ?_ | refine zN (by omega) ?_ | refine amin ?_ | refine amax ?_ | refine zU (by omega) ?_ | refine z8 (by omega) ?_ | refine zX (by omega) (by omega) ?_ | refine zR rfl ?_ | refine acellA ?_ | refine zB H b1 rfl ?_ | refine zC H b1 ?_ | refine zB H b2 rfl ?_ | refine zC H b2 ?_ | refine zB H b3 rfl ?_ | refine zC H b3 ?_ | refine zB H b4 rfl ?_ | refine zC H b4 ?_ | (apply zL H; (· repeat first | exact .h | apply AtK.t); (· rfl)) | (apply zA H; (· repeat first | exact .h | apply AtK.t)) | (apply zS H; (· repeat first | exact .h | apply AtK.t); (· rfl); (conv => whnf); clear H; intro τ H) | rw [List.length_map]); ((conv => whnf); (repeat ((first | with_reducible (first | refine zT rfl ?_ | refine zF rfl ?_ | refine zY rfl ?_) | refine zY (by decide) ?_ | refine zN (by decide) ?_ | with_reducible refine zQ ?_); (conv => whnf))))))
      refine acall (sqIs w l[i] τ) ?_
      rintro _ σ_ ⟨rfl, e_⟩
      obtain rfl := e_.symm
      refine ⟨?_, Ext.refl _⟩
      ((conv => whnf); (repeat ((first | with_reducible (first | refine zT rfl ?_ | refine zF rfl ?_ | refine zY rfl ?_) | refine zY (by decide) ?_ | refine zN (by decide) ?_ | with_reducible refine zQ ?_); (conv => whnf))))
      cases hn : isNum w l[i]
      · ((conv => whnf); (repeat ((first | with_reducible (first | refine zT rfl ?_ | refine zF rfl ?_ | refine zY rfl ?_) | refine zY (by decide) ?_ | refine zN (by decide) ?_ | with_reducible refine zQ ?_); (conv => whnf))))
        refine aret (VLe.refl _) H.sub ⟨?_, rfl⟩
        unfold askCode
        rw [if_pos hw, if_neg]
        intro ha
        rw [List.all_eq_true.1 ha l[i] (List.getElem_mem h)] at hn; cases hn
      · ((conv => whnf); (repeat ((first | with_reducible (first | refine zT rfl ?_ | refine zF rfl ?_ | refine zY rfl ?_) | refine zY (by decide) ?_ | refine zN (by decide) ?_ | with_reducible refine zQ ?_); (conv => whnf))))
        (repeat ((first | refine zI (by omega) ?_ | refine zE (by omega) (by omega) ?_ | refine zD (by omega) (by omega) ?_ | refine zY (by omega) ?_ | refine zN (by omega) ?_ | refine amin ?_ | refine amax ?_ | refine zU (by omega) ?_ | refine z8 (by omega) ?_ | refine zX (by omega) (by omega) ?_ | refine zR rfl ?_ | refine acellA ?_ | refine zB H b1 rfl ?_ | refine zC H b1 ?_ | refine zB H b2 rfl ?_ | refine zC H b2 ?_ | refine zB H b3 rfl ?_ | refine zC H b3 ?_ | refine zB H b4 rfl ?_ | refine zC H b4 ?_ | (apply zL H; (· repeat first | exact .h | apply AtK.t); (· rfl)) | (apply zA H; (· repeat first | exact .h | apply AtK.t)) | (apply zS H; (· repeat first | exact .h | apply AtK.t); (· rfl); (conv => whnf); clear H; intro τ H) | rw [List.length_map]); ((conv => whnf); (repeat ((first | with_reducible (first | refine zT rfl ?_ | refine zF rfl ?_ | refine zY rfl ?_) | refine zY (by decide) ?_ | refine zN (by decide) ?_ | with_reducible refine zQ ?_); (conv => whnf))))))
        refine ⟨i + 1, rfl, ⟨hw, h, fun j h1 h2 => ?_⟩, by omega, Sub.refl _, ?_⟩
        · by_cases e : j = i
          · subst e; exact hn
          · exact hz j h1 (by omega)
        · ((conv => whnf); (repeat ((first | with_reducible (first | refine zT rfl ?_ | refine zF rfl ?_ | refine zY rfl ?_) | refine zY (by decide) ?_ | refine zN (by decide) ?_ | with_reducible refine zQ ?_); (conv => whnf))))
          (repeat' first | with_reducible exact EnvLe.refl _ | (refine EnvLe.node ?_ (by first | exact Or.inl rfl | exact Or.inr (Or.inl rfl) | exact Or.inr (Or.inr ⟨nofun, VLe.slice _ _ _⟩)) ?_))
    · (repeat ((first | refine zI (by omega) ?_ | refine zE (by omega) (by omega) ?_ | refine zD (by omega) (by omega) ?_ | refine zY (by omega) ?_ | refine zN (by omega) ?_ | refine amin ?_ | refine amax ?_ | refine zU (by omega) ?_ | refine z8 (by omega) ?_ | refine zX (by omega) (by omega) ?_ | refine zR rfl ?_ | refine acellA ?_ | refine zB H b1 rfl ?_ | refine zC H b1 ?_ | refine zB H b2 rfl ?_ | refine zC H b2 ?_ | refine zB H b3 rfl ?_ | refine zC H b3 ?_ | refine zB H b4 rfl ?_ | refine zC H b4 ?_ | (apply zL H; (· repeat first | exact .h | apply AtK.t); (· rfl)) | (apply zA H; (· repeat first | exact .h | apply AtK.t)) | (apply zS H; (· repeat first | exact .h | apply AtK.t); (· rfl); (conv => whnf); clear H; intro τ H) | rw [List.length_map]); ((conv => whnf); (repeat ((first | with_reducible (first | refine zT rfl ?_ | refine zF rfl ?_ | refine zY rfl ?_) | refine zY (by decide) ?_ | refine zN (by decide) ?_ | with_reducible refine zQ ?_); (conv => whnf))))))
      refine aret (VLe.refl _) H.sub ⟨?_, rfl⟩
      unfold askCode
      rw [if_pos hw, if_pos]
      refine List.all_eq_true.2 fun x hx => ?_
      obtain ⟨j, hj, rfl⟩ := List.mem_iff_getElem.1 hx
      exact hz j hj (by omega)
def farV (w a b : Int) : Int := if spaceOk w ∧ isNum w a = true ∧ isNum w b = true then (b - a) % spaceSize w else 0
def farC (w a b : Int) : Int := askCode w [a, b]
theorem askCode_zero {w : Int} {l : List Int} : askCode w l = 0 ↔ spaceOk w ∧ ∀ x ∈ l, isNum w x = true := by
  unfold askCode
  by_cases h : spaceOk w
  · rw [if_pos h]
    by_cases h2 : l.all (isNum w) = true
    · rw [if_pos h2]; exact ⟨fun _ => ⟨h, List.all_eq_true.1 h2⟩, fun _ => rfl⟩
    · rw [if_neg h2]; exact ⟨fun e => (by cases e), fun e => (h2 (List.all_eq_true.2 e.2)).elim⟩
  · rw [if_neg h]; exact ⟨fun e => (by cases e), fun e => (h e.1).elim⟩
theorem isNum_bound {w n : Int} (h : isNum w n = true) : 0 ≤ n ∧ n < spaceSize w ∧ n < 65536 := by
  have h := of_decide_eq_true h
  have := spaceSize_le w
  omega
theorem sqFar (w a b : Int) (σ : AHeap) : ACalls Try.prog i_seqnum_Space_Far [.agg [i64v w], i64v a, i64v b] σ fun v σ' => v = .tup [i64v (farV w a b), i64v (farC w a b)] ∧ σ' = σ := by
  refine k_seqnum_Space_Far rfl ?_
  have H := Hp.nil σ
  ((conv => whnf); (repeat ((first | with_reducible (first | refine zT rfl ?_ | refine zF rfl ?_ | refine zY rfl ?_) | refine zY (by decide) ?_ | refine zN (by decide) ?_ | with_reducible refine zQ ?_); (conv => whnf))))
  refine hnew H rfl ?_
  clear H
  intro i3 τ H
  ((conv => whnf); (repeat ((first | with_reducible (first | refine zT rfl ?_ | refine zF rfl ?_ | refine zY rfl ?_) | refine zY (by decide) ?_ | refine zN (by decide) ?_ | with_reducible refine zQ ?_); (conv => whnf))))
  (repeat ((first | refine zI (by omega) ?_ | refine zE (by omega) (by omega) ?_ | refine zD (by omega) (by omega) ?_ | refine zY (by omega) ?_ | refine zN (by omega) ?_ | refine amin ?_ | refine amax ?_ | refine zU (by omega) ?_ | refine z8 (by omega) ?_ | refine zX (by omega) (by omega) ?_ | refine zR rfl ?_ | refine acellA ?_ | refine zB H b1 rfl ?_ | refine zC H b1 ?_ | refine zB H b2 rfl ?_ | refine zC H b2 ?_ | refine zB H b3 rfl ?_ | refine zC H b3 ?_ | refine zB H b4 rfl ?_ | refine zC H b4 ?_ | (apply zL H; (· repeat first | exact .h | apply AtK.t); (· rfl)) | (apply zA H; (· repeat first | exact .h | apply AtK.t)) | (apply zS H; (· repeat first | exact .h | apply AtK.t); (· rfl); (conv => whnf); clear H; intro τ H) | rw [List.length_map]); ((conv => whnf); (repeat ((first | with_reducible (first | refine zT rfl ?_ | refine zF rfl ?_ | refine zY rfl ?_) | refine zY (by decide) ?_ | refine zN (by decide) ?_ | with_reducible refine zQ ?_); (conv => whnf))))))
  refine acall (sqAsk w [a, b] .full τ (by simp)) ?_
  rintro _ σ_ ⟨rfl, e_⟩
  obtain rfl := e_.symm
  refine ⟨?_, Ext.refl _⟩
  ((conv => whnf); (repeat ((first | with_reducible (first | refine zT rfl ?_ | refine zF rfl ?_ | refine zY rfl ?_) | refine zY (by decide) ?_ | refine zN (by decide) ?_ | with_reducible refine zQ ?_); (conv => whnf))))
  unfold farC
  by_cases h : askCode w [a, b] = 0
  · obtain ⟨hw, hn⟩ := askCode_zero.1 h
    have ha := hn a (by simp)
    have hb := hn b (by simp)
    have h1 := isNum_bound ha
    have h2 := isNum_bound hb
    have h3 := space_pos hw
    have h4 := spaceSize_le w
    rw [h]
    ((conv => whnf); (repeat ((first | with_reducible (first | refine zT rfl ?_ | refine zF rfl ?_ | refine zY rfl ?_) | refine zY (by decide) ?_ | refine zN (by decide) ?_ | with_reducible refine zQ ?_); (conv => whnf))))
    (repeat ((first | refine zI (by omega) ?_ | refine zE (by omega) (by omega) ?_ | refine zD (by omega) (by omega) ?_ | refine zY (by omega) ?_ | refine zN (by omega) ?_ | refine amin ?_ | refine amax ?_ | refine zU (by omega) ?_ | refine z8 (by omega) ?_ | refine zX (by omega) (by omega) ?_ | refine zR rfl ?_ | refine acellA ?_ | refine zB H b1 rfl ?_ | refine zC H b1 ?_ | refine zB H b2 rfl ?_ | refine zC H b2 ?_ | refine zB H b3 rfl ?_ | refine zC H b3 ?_ | refine zB H b4 rfl ?_ | refine zC H b4 ?_ | (apply zL H; (· repeat first | exact .h | apply AtK.t); (· rfl)) | (apply zA H; (· repeat first | exact .h | apply AtK.t)) | (apply zS H; (· repeat first | exact .h | apply AtK.t); (· rfl); (conv => whnf); clear H; intro τ H) | rw [List.length_map]); ((conv => whnf); (repeat ((first | with_reducible (first | refine zT rfl ?_ | refine zF rfl ?_ | refine zY rfl ?_) | refine zY (by decide) ?_ | refine zN (by decide) ?_ | with_reducible refine zQ ?_); (conv => whnf))))))
    refine acall (sqSize w τ) ?_
    rintro _ σ_ ⟨rfl, e_⟩
    obtain rfl := e_.symm
    refine ⟨?_, Ext.refl _⟩
    ((conv => whnf); (repeat ((first | with_reducible (first | refine zT rfl ?_ | refine zF rfl ?_ | refine zY rfl ?_) | refine zY (by decide) ?_ | refine zN (by decide) ?_ | with_reducible refine zQ ?_); (conv => whnf))))
    (repeat ((first | refine zI (by omega) ?_ | refine zE (by omega) (by omega) ?_ | refine zD (by omega) (by omega) ?_ | refine zY (by omega) ?_ | refine zN (by omega) ?_ | refine amin ?_ | refine amax ?_ | refine zU (by omega) ?_ | refine z8 (by omega) ?_ | refine zX (by omega) (by omega) ?_ | refine zR rfl ?_ | refine acellA ?_ | refine zB H b1 rfl ?_ | refine zC H b1 ?_ | refine zB H b2 rfl ?_ | refine zC H b2 ?_ | refine zB H b3 rfl ?_ | refine zC H b3 ?_ | refine zB H b4 rfl ?_ | refine zC H b4 ?_ | (apply zL H; (· repeat first | exact .h | apply AtK.t); (· rfl)) | (apply zA H; (· repeat first | exact .h | apply AtK.t)) | (apply zS H; (· repeat first | exact .h | apply AtK.t); (· rfl); (conv => whnf); clear H; intro τ H) | rw [List.length_map]); ((conv => whnf); (repeat ((first | with_reducible (first | refine zT rfl ?_ | refine zF rfl ?_ | refine zY rfl ?_) | refine zY (by decide) ?_ | refine zN (by decide) ?_ | with_reducible refine zQ ?_); (conv => whnf))))))
    refine abits_eq (and_space hw _) ?_
    ((conv => whnf); (repeat ((first | with_reducible (first | refine zT rfl ?_ | refine zF rfl ?_ | refine zY rfl ?_) | refine zY (by decide) ?_ | refine zN (by decide) ?_ | with_reducible refine zQ ?_); (conv => whnf))))
    exact aret (VLe.refl _) H.sub ⟨by unfold farV; rw [if_pos ⟨hw, ha, hb⟩], rfl⟩
  · refine abr_yes h ?_
    ((conv => whnf); (repeat ((first | with_reducible (first | refine zT rfl ?_ | refine zF rfl ?_ | refine zY rfl ?_) | refine zY (by decide) ?_ | refine zN (by decide) ?_ | with_reducible refine zQ ?_); (conv => whnf))))
    exact aret (VLe.refl _) H.sub ⟨by unfold farV; rw [if_neg (fun e => h (askCode_zero.2 ⟨e.1, by simp [e.2]⟩))], rfl⟩
def goV (w n by' : Int) : Int := if askCode w [n] = 0 ∧ -65536 ≤ by' ∧ by' ≤ 65536 then (n + by') % spaceSize w else 0
def goC (w n by' : Int) : Int := if askCode w [n] = 0 then (if -65536 ≤ by' ∧ by' ≤ 65536 then 0 else 1) else askCode w [n]
theorem sqGo (w n d : Int) (σ : AHeap) : ACalls Try.prog i_seqnum_Space_Go [.agg [i64v w], i64v n, i64v d] σ fun v σ' => v = .tup [i64v (goV w n d), i64v (goC w n d)] ∧ σ' = σ := by
  refine k_seqnum_Space_Go rfl ?_
  have H := Hp.nil σ
  ((conv => whnf); (repeat ((first | with_reducible (first | refine zT rfl ?_ | refine zF rfl ?_ | refine zY rfl ?_) | refine zY (by decide) ?_ | refine zN (by decide) ?_ | with_reducible refine zQ ?_); (conv => whnf))))
  refine hnew H rfl ?_
  clear H
  intro i3 τ H
  ((conv => whnf); (repeat ((first | with_reducible (first | refine zT rfl ?_ | refine zF rfl ?_ | refine zY rfl ?_) | refine zY (by decide) ?_ | refine zN (by decide) ?_ | with_reducible refine zQ ?_); (conv => whnf))))
  (repeat ((first | refine zI (by omega) ?_ | refine zE (by omega) (by omega) ?_ | refine zD (by omega) (by omega) ?_ | refine zY (by omega) ?_ | refine zN (by omega) ?_ | refine amin ?_ | refine amax ?_ | refine zU (by omega) ?_ | refine z8 (by omega) ?_ | refine zX (by omega) (by omega) ?_ | refine zR rfl ?_ | refine acellA ?_ | refine zB H b1 rfl ?_ | refine zC H b1 ?_ | refine zB H b2 rfl ?_ | refine zC H b2 ?_ | refine zB H b3 rfl ?_ | refine zC H b3 ?_ | refine zB H b4 rfl ?_ | refine zC H b4 ?_ | (apply zL H; (· repeat first | exact .h | apply AtK.t); (· rfl)) | (apply zA H; (· repeat first | exact .h | apply AtK.t)) | (apply zS H; (· repeat first | exact .h | apply AtK.t); (· rfl); (conv => whnf); clear H; intro τ H) | rw [List.length_map]); ((conv => whnf); (repeat ((first | with_reducible (first | refine zT rfl ?_ | refine zF rfl ?_ | refine zY rfl ?_) | refine zY (by decide) ?_ | refine zN (by decide) ?_ | with_reducible refine zQ ?_); (conv => whnf))))))
  refine acall (sqAsk w [n] .full τ (by simp)) ?_
  rintro _ σ_ ⟨rfl, e_⟩
  obtain rfl := e_.symm
  refine ⟨?_, Ext.refl _⟩
  ((conv => whnf); (repeat ((first | with_reducible (first | refine zT rfl ?_ | refine zF rfl ?_ | refine zY rfl ?_) | refine zY (by decide) ?_ | refine zN (by decide) ?_ | with_reducible refine zQ ?_); (conv => whnf))))
  by_cases h : askCode w [n] = 0
  · obtain ⟨hw, hn⟩ := askCode_zero.1 h
    have ha := hn n (by simp)
    have h1 := isNum_bound ha
    have h3 := space_pos hw
    have h4 := spaceSize_le w
    rw [h]
    ((conv => whnf); (repeat ((first | with_reducible (first | refine zT rfl ?_ | refine zF rfl ?_ | refine zY rfl ?_) | refine zY (by decide) ?_ | refine zN (by decide) ?_ | with_reducible refine zQ ?_); (conv => whnf))))
    by_cases c1 : d < -65536
    · (repeat ((first | refine zI (by omega) ?_ | refine zE (by omega) (by omega) ?_ | refine zD (by omega) (by omega) ?_ | refine zY (by omega) ?_ | refine zN (by omega) ?_ | refine amin ?_ | refine amax ?_ | refine zU (by omega) ?_ | refine z8 (by omega) ?_ | refine zX (by omega) (by omega) ?_ | refine zR rfl ?_ | refine acellA ?_ | refine zB H b1 rfl ?_ | refine zC H b1 ?_ | refine zB H b2 rfl ?_ | refine zC H b2 ?_ | refine zB H b3 rfl ?_ | refine zC H b3 ?_ | refine zB H b4 rfl ?_ | refine zC H b4 ?_ | (apply zL H; (· repeat first | exact .h | apply AtK.t); (· rfl)) | (apply zA H; (· repeat first | exact .h | apply AtK.t)) | (apply zS H; (· repeat first | exact .h | apply AtK.t); (· rfl); (conv => whnf); clear H; intro τ H) | rw [List.length_map]); ((conv => whnf); (repeat ((first | with_reducible (first | refine zT rfl ?_ | refine zF rfl ?_ | refine zY rfl ?_) | refine zY (by decide) ?_ | refine zN (by decide) ?_ | with_reducible refine zQ ?_); (conv => whnf))))))
      exact aret (VLe.refl _) H.sub ⟨by unfold goV goC; rw [if_neg (by omega), if_pos h, if_neg (by omega)], rfl⟩
    by_cases c2 : d > 65536
    · (repeat ((first | refine zI (by omega) ?_ | refine zE (by omega) (by omega) ?_ | refine zD (by omega) (by omega) ?_ | refine zY (by omega) ?_ | refine zN (by omega) ?_ | refine amin ?_ | refine amax ?_ | refine zU (by omega) ?_ | refine z8 (by omega) ?_ | refine zX (by omega) (by omega) ?_ | refine zR rfl ?_ | refine acellA ?_ | refine zB H b1 rfl ?_ | refine zC H b1 ?_ | refine zB H b2 rfl ?_ | refine zC H b2 ?_ | refine zB H b3 rfl ?_ | refine zC H b3 ?_ | refine zB H b4 rfl ?_ | refine zC H b4 ?_ | (apply zL H; (· repeat first | exact .h | apply AtK.t); (· rfl)) | (apply zA H; (· repeat first | exact .h | apply AtK.t)) | (apply zS H; (· repeat first | exact .h | apply AtK.t); (· rfl); (conv => whnf); clear H; intro τ H) | rw [List.length_map]); ((conv => whnf); (repeat ((first | with_reducible (first | refine zT rfl ?_ | refine zF rfl ?_ | refine zY rfl ?_) | refine zY (by decide) ?_ | refine zN (by decide) ?_ | with_reducible refine zQ ?_); (conv => whnf))))))
      exact aret (VLe.refl _) H.sub ⟨by unfold goV goC; rw [if_neg (by omega), if_pos h, if_neg (by omega)], rfl⟩
    (repeat ((first | refine zI (by omega) ?_ | refine zE (by omega) (by omega) ?_ | refine zD (by omega) (by omega) ?_ | refine zY (by omega) ?_ | refine zN (by omega) ?_ | refine amin ?_ | refine amax ?_ | refine zU (by omega) ?_ | refine z8 (by omega) ?_ | refine zX (by omega) (by omega) ?_ | refine zR rfl ?_ | refine acellA ?_ | refine zB H b1 rfl ?_ | refine zC H b1 ?_ | refine zB H b2 rfl ?_ | refine zC H b2 ?_ | refine zB H b3 rfl ?_ | refine zC H b3 ?_ | refine zB H b4 rfl ?_ | refine zC H b4 ?_ | (apply zL H; (· repeat first | exact .h | apply AtK.t); (· rfl)) | (apply zA H; (· repeat first | exact .h | apply AtK.t)) | (apply zS H; (· repeat first | exact .h | apply AtK.t); (· rfl); (conv => whnf); clear H; intro τ H) | rw [List.length_map]); ((conv => whnf); (repeat ((first | with_reducible (first | refine zT rfl ?_ | refine zF rfl ?_ | refine zY rfl ?_) | refine zY (by decide) ?_ | refine zN (by decide) ?_ | with_reducible refine zQ ?_); (conv => whnf))))))
    refine acall (sqSize w τ) ?_
    rintro _ σ_ ⟨rfl, e_⟩
    obtain rfl := e_.symm
    refine ⟨?_, Ext.refl _⟩
    ((conv => whnf); (repeat ((first | with_reducible (first | refine zT rfl ?_ | refine zF rfl ?_ | refine zY rfl ?_) | refine zY (by decide) ?_ | refine zN (by decide) ?_ | with_reducible refine zQ ?_); (conv => whnf))))
    (repeat ((first | refine zI (by omega) ?_ | refine zE (by omega) (by omega) ?_ | refine zD (by omega) (by omega) ?_ | refine zY (by omega) ?_ | refine zN (by omega) ?_ | refine amin ?_ | refine amax ?_ | refine zU (by omega) ?_ | refine z8 (by omega) ?_ | refine zX (by omega) (by omega) ?_ | refine zR rfl ?_ | refine acellA ?_ | refine zB H b1 rfl ?_ | refine zC H b1 ?_ | refine zB H b2 rfl ?_ | refine zC H b2 ?_ | refine zB H b3 rfl ?_ | refine zC H b3 ?_ | refine zB H b4 rfl ?_ | refine zC H b4 ?_ | (apply zL H; (· repeat first | exact .h | apply AtK.t); (· rfl)) | (apply zA H; (· repeat first | exact .h | apply AtK.t)) | (apply zS H; (· repeat first | exact .h | apply AtK.t); (· rfl); (conv => whnf); clear H; intro τ H) | rw [List.length_map]); ((conv => whnf); (repeat ((first | with_reducible (first | refine zT rfl ?_ | refine zF rfl ?_ | refine zY rfl ?_) | refine zY (by decide) ?_ | refine zN (by decide) ?_ | with_reducible refine zQ ?_); (conv => whnf))))))
    refine abits_eq (and_space hw _) ?_
    ((conv => whnf); (repeat ((first | with_reducible (first | refine zT rfl ?_ | refine zF rfl ?_ | refine zY rfl ?_) | refine zY (by decide) ?_ | refine zN (by decide) ?_ | with_reducible refine zQ ?_); (conv => whnf))))
    refine aret (VLe.refl _) H.sub ⟨?_, rfl⟩
    unfold goV goC
    rw [if_pos ⟨h, by omega, by omega⟩, if_pos h, if_pos ⟨by omega, by omega⟩]
    obtain ⟨q, hq⟩ := space_div hw
    rw [show n + d + 65536 = n + d + spaceSize w * q by omega, Int.add_mul_emod_self_left]
  · refine abr_yes h ?_
    ((conv => whnf); (repeat ((first | with_reducible (first | refine zT rfl ?_ | refine zF rfl ?_ | refine zY rfl ?_) | refine zY (by decide) ?_ | refine zN (by decide) ?_ | with_reducible refine zQ ?_); (conv => whnf))))
    exact aret (VLe.refl _) H.sub ⟨by unfold goV goC; rw [if_neg (fun e => h e.1), if_neg h], rfl⟩
end Go.Proofs.Ytnfdgccmpglbhaa
/-
  A window of what comes: its numbers, counted on, and what is whole.
-/
namespace Go.Proofs.Ytnfdgccmpglbhaa
set_option linter.unusedVariables false
set_option linter.unusedSimpArgs false
open Go Go.Am

structure RxA where
  R : Nat
  MS : Nat
  H : Nat
  D : List Nat
/-- What a window's bits and size are. -/
structure RxP (n N size : Nat) : Prop where
  ok : spaceOk n
  sz : spaceSize n = (N : Int)
  s1 : 1 ≤ size
  s2 : 2 * size ≤ N
theorem RxP.le {n N size : Nat} (p : RxP n N size) : N ≤ 65536 := by
  have := spaceSize_le n; have := p.sz; omega
structure RxOk (N size : Nat) (A : RxA) : Prop where
  rm : A.R ≤ A.MS
  mh : A.MS ≤ A.H
  hr : A.H ≤ A.R + size
  dR : ∀ i ∈ A.D, A.R < i ∧ i < A.H
  nd : A.D.Nodup
def keysV (N : Nat) (D : List Nat) : List (Int × AVal) := D.map fun i => (((i % N : Nat) : Int), boolv true)
/-- The place, counted on, of a number. -/
def posN (N R : Nat) (k : Int) : Nat := R + ((k - ((R % N : Nat) : Int)) % (N : Int)).toNat
def numOk (N : Nat) (k : Int) : Bool := decide (0 ≤ k ∧ k < N)
theorem isNum_numOk {n N size : Nat} (p : RxP n N size) (k : Int) : isNum n k = numOk N k := by unfold isNum numOk; rw [p.sz]
theorem posN_bound {N R : Nat} (k : Int) (hN : 0 < N) : R ≤ posN N R k ∧ posN N R k < R + N := by
  unfold posN
  have h1 := Int.emod_nonneg (k - ((R % N : Nat) : Int)) (show (N : Int) ≠ 0 by omega)
  have h2 := Int.emod_lt_of_pos (k - ((R % N : Nat) : Int)) (show 0 < (N : Int) by omega)
  omega
theorem posN_mod {N R : Nat} {k : Int} (hN : 0 < N) (hk : numOk N k = true) : ((posN N R k % N : Nat) : Int) = k := by
  have hk := of_decide_eq_true hk
  unfold posN
  have h1 := Int.emod_nonneg (k - ((R % N : Nat) : Int)) (show (N : Int) ≠ 0 by omega)
  rw [Int.natCast_emod, Int.natCast_add, Int.toNat_of_nonneg h1, Int.natCast_emod, Int.add_emod, Int.emod_emod_of_dvd _ (Int.dvd_refl _), ← Int.add_emod, Int.add_comm]
  rw [show k - (R : Int) % (N : Int) + (R : Int) = k + (N : Int) * ((R : Int) / (N : Int)) by have := Int.emod_add_mul_ediv (R : Int) N; omega, Int.add_mul_emod_self_left]
  exact Int.emod_eq_of_lt hk.1 hk.2
theorem mod_inj {N R i j : Nat} (hi : R ≤ i ∧ i < R + N) (hj : R ≤ j ∧ j < R + N) (h : i % N = j % N) : i = j := by
  have h1 := Nat.div_add_mod i N
  have h2 := Nat.div_add_mod j N
  have h3 : i / N = j / N := by
    rcases Nat.lt_trichotomy (i / N) (j / N) with h | h | h
    · have : N * (i / N) + N ≤ N * (j / N) := by rw [← Nat.mul_succ]; exact Nat.mul_le_mul_left _ h
      omega
    · exact h
    · have : N * (j / N) + N ≤ N * (i / N) := by rw [← Nat.mul_succ]; exact Nat.mul_le_mul_left _ h
      omega
  rw [h3] at h1; omega
theorem posN_eq {N R i : Nat} (hi : R ≤ i ∧ i < R + N) : posN N R ((i % N : Nat) : Int) = i := by
  have hN : 0 < N := by omega
  refine mod_inj (posN_bound _ hN) hi ?_
  have hk : numOk N ((i % N : Nat) : Int) = true := decide_eq_true ⟨Int.natCast_nonneg _, Int.ofNat_lt.2 (Nat.mod_lt _ hN)⟩
  have := posN_mod (R := R) hN hk
  omega
theorem numOk_mod {N : Nat} (i : Nat) (hN : 0 < N) : numOk N ((i % N : Nat) : Int) = true := decide_eq_true ⟨Int.natCast_nonneg _, Int.ofNat_lt.2 (Nat.mod_lt _ hN)⟩
theorem keys_look {N R i : Nat} (hi : R ≤ i ∧ i < R + N) : ∀ {D : List Nat}, (∀ j ∈ D, R ≤ j ∧ j < R + N) →
    (((keysV N D).find? fun e => e.1 == ((i % N : Nat) : Int)).map (·.2)).getD (boolv false) = boolv (decide (i ∈ D))
  | [], _ => rfl
  | d :: D, h => by
    unfold keysV
    rw [List.map_cons, List.find?_cons]
    by_cases e : d = i
    · subst e
      have e2 : (((((d % N : Nat) : Int), boolv true) : Int × AVal).1 == ((d % N : Nat) : Int)) = true := by simp
      rw [e2]
      exact congrArg boolv (decide_eq_true (List.mem_cons_self ..)).symm
    · have e2 : (((((d % N : Nat) : Int), boolv true) : Int × AVal).1 == ((i % N : Nat) : Int)) = false := by
        rw [beq_eq_false_iff_ne]
        intro h2
        exact e (mod_inj (h d (List.mem_cons_self ..)) hi (Int.ofNat.inj h2))
      rw [e2]
      refine (keys_look hi fun j hj => h j (List.mem_cons_of_mem _ hj)).trans (congrArg boolv (dec_congr ?_))
      rw [List.mem_cons]
      exact ⟨.inr, fun h => h.resolve_left fun q => e q.symm⟩
theorem keys_set {N R i : Nat} (hi : R ≤ i ∧ i < R + N) : ∀ {D : List Nat}, (∀ j ∈ D, R ≤ j ∧ j < R + N) → i ∉ D → mapSet (keysV N D) ((i % N : Nat) : Int) (boolv true) = keysV N (D ++ [i])
  | [], _, _ => rfl
  | d :: D, h, hn => by
    unfold keysV
    rw [List.map_cons, List.cons_append, List.map_cons]
    unfold mapSet
    have e2 : (((((d % N : Nat) : Int), boolv true) : Int × AVal).1 == ((i % N : Nat) : Int)) = false := by
      rw [beq_eq_false_iff_ne]
      intro h2
      exact hn (mod_inj (h d (List.mem_cons_self ..)) hi (Int.ofNat.inj h2) ▸ List.mem_cons_self ..)
    rw [e2]
    show _ :: mapSet (keysV N D) _ _ = _
    rw [keys_set hi (fun j hj => h j (List.mem_cons_of_mem _ hj)) (fun hm => hn (List.mem_cons_of_mem _ hm))]
    rfl
theorem keys_del {N R i : Nat} (hi : R ≤ i ∧ i < R + N) : ∀ {D : List Nat}, (∀ j ∈ D, R ≤ j ∧ j < R + N) → D.Nodup → mapDel (keysV N D) ((i % N : Nat) : Int) = keysV N (D.filter fun j => j != i)
  | [], _, _ => rfl
  | d :: D, h, hn => by
    have hn' := List.nodup_cons.1 hn
    unfold keysV
    rw [List.map_cons]
    unfold mapDel
    by_cases e : d = i
    · subst e
      have e2 : (((((d % N : Nat) : Int), boolv true) : Int × AVal).1 == ((d % N : Nat) : Int)) = true := by simp
      rw [e2, if_pos rfl, List.filter_cons, if_neg (show ¬ (d != d) = true by simp), List.filter_eq_self.2]
      intro j hj
      rw [bne_iff_ne]
      intro e; subst e; exact hn'.1 hj
    · have e2 : (((((d % N : Nat) : Int), boolv true) : Int × AVal).1 == ((i % N : Nat) : Int)) = false := by
        rw [beq_eq_false_iff_ne]
        intro h2
        exact e (mod_inj (h d (List.mem_cons_self ..)) hi (Int.ofNat.inj h2))
      rw [e2, if_neg (show ¬ false = true by decide), List.filter_cons, if_pos (show (d != i) = true by rw [bne_iff_ne]; exact e)]
      show _ :: mapDel (keysV N D) _ = _
      rw [keys_del hi (fun j hj => h j (List.mem_cons_of_mem _ hj)) hn'.2]
      rfl

def mx (D : List Nat) : Nat := D.foldr (fun x m => max (x + 1) m) 0
theorem mx_gt : ∀ {D : List Nat} {i : Nat}, i ∈ D → i < mx D
  | d :: D, i, h => by
    show i < max (d + 1) (mx D)
    rcases List.mem_cons.1 h with rfl | h
    · omega
    · have := mx_gt h; omega
theorem mx_le {b : Nat} : ∀ {D : List Nat}, (∀ i ∈ D, i < b) → mx D ≤ b
  | [], _ => Nat.zero_le _
  | d :: D, h => by
    show max (d + 1) (mx D) ≤ b
    have h1 := h d (List.mem_cons_self ..)
    have h2 := mx_le (D := D) fun i hi => h i (List.mem_cons_of_mem _ hi)
    omega
def skipA (D : List Nat) : Nat → Nat → Nat
  | 0, i => i
  | f + 1, i => if i ∈ D then skipA D f (i + 1) else i
/-- The first place from one on that is not whole. -/
def skipF (D : List Nat) (i : Nat) : Nat := skipA D (mx D - i) i
structure IsSkip (D : List Nat) (i j : Nat) : Prop where
  le : i ≤ j
  all : ∀ m, i ≤ m → m < j → m ∈ D
  no : j ∉ D
theorem skipA_is (D : List Nat) : ∀ (f i : Nat), mx D ≤ f + i → IsSkip D i (skipA D f i)
  | 0, i, h => show IsSkip D i i from ⟨Nat.le_refl _, fun m h1 h2 => absurd (Nat.lt_of_le_of_lt h1 h2) (Nat.lt_irrefl _), fun hm => by have := mx_gt hm; omega⟩
  | f + 1, i, h => by
    unfold skipA
    split
    · rename_i hm
      obtain ⟨a, b, c⟩ := skipA_is D f (i + 1) (by omega)
      refine ⟨by omega, fun m h1 h2 => ?_, c⟩
      by_cases e : m = i
      · subst e; exact hm
      · exact b m (by omega) h2
    · rename_i hm
      exact ⟨Nat.le_refl _, fun m h1 h2 => absurd (Nat.lt_of_le_of_lt h1 h2) (Nat.lt_irrefl _), hm⟩
theorem skipF_is (D : List Nat) (i : Nat) : IsSkip D i (skipF D i) := skipA_is D _ i (by omega)
theorem IsSkip.uniq {D : List Nat} {i j k : Nat} (h : IsSkip D i j) (h' : IsSkip D i k) : j = k := by
  rcases Nat.lt_trichotomy j k with e | e | e
  · exact absurd (h'.all j h.le e) h.no
  · exact e
  · exact absurd (h.all k h'.le e) h'.no
theorem IsSkip.eq {D : List Nat} {i j : Nat} (h : IsSkip D i j) : skipF D i = j := (skipF_is D i).uniq h
theorem skipF_le {D : List Nat} {i b : Nat} (hi : i ≤ b) (h : ∀ j ∈ D, j < b) : skipF D i ≤ b := by
  have hs := skipF_is D i
  refine Nat.le_of_not_lt fun e => ?_
  have := h b (hs.all b hi e)
  omega
theorem skipF_mono {D : List Nat} {i j : Nat} (h : i ≤ j) : skipF D i ≤ skipF D j := by
  have hi := skipF_is D i
  have hj := skipF_is D j
  refine Nat.le_of_not_lt fun e => ?_
  exact hj.no (hi.all _ (Nat.le_trans h hj.le) e)

/-! What calls come to. -/
def RxA.far (N : Nat) (A : RxA) (k : Int) : Int := if numOk N k = true then ((posN N A.R k - A.R : Nat) : Int) else -1
def RxA.inW (N size : Nat) (A : RxA) (k : Int) : Bool := numOk N k && decide (posN N A.R k < A.R + size)
def RxA.isW (N size : Nat) (A : RxA) (k : Int) : Bool := A.inW N size k && decide (posN N A.R k ∈ A.D)
def RxA.ask (N size : Nat) (A : RxA) (k : Int) : Int := if numOk N k = true then (if posN N A.R k < A.R + size then 0 else 11) else 1
def RxA.came (N size : Nat) (A : RxA) (k : Int) : RxA := if A.ask N size k = 0 ∧ A.H ≤ posN N A.R k then { A with H := posN N A.R k + 1 } else A
def RxA.done (A : RxA) (i : Nat) : RxA := ⟨skipF (A.D ++ [i]) A.R, skipF (A.D ++ [i]) A.MS, A.H, (A.D ++ [i]).filter fun j => decide (skipF (A.D ++ [i]) A.R ≤ j)⟩
def RxA.whole (N size : Nat) (A : RxA) (k : Int) : RxA := if A.ask N size k = 0 ∧ posN N A.R k ∉ A.D then (A.came N size k).done (posN N A.R k) else A
def RxA.wholeC (N size : Nat) (A : RxA) (k : Int) : Int := if A.ask N size k = 0 then (if posN N A.R k ∈ A.D then 12 else 0) else A.ask N size k
def numsV (N : Nat) (l : List Nat) : List Int := l.map fun i => ((i % N : Nat) : Int)
def RxA.wholeL (N size : Nat) (A : RxA) (k : Int) : List Int := if A.wholeC N size k = 0 then numsV N (List.range' A.R ((A.whole N size k).R - A.R)) else []
def RxA.lateC (N : Nat) (A : RxA) (k : Int) : Int := if numOk N k = true then (if A.H < posN N A.R k then 11 else 0) else 1
def RxA.late (N : Nat) (A : RxA) (k : Int) : RxA := if A.lateC N k = 0 ∧ A.MS ≤ posN N A.R k then { A with MS := skipF A.D (posN N A.R k) } else A
def RxA.missing (N : Nat) (A : RxA) : List Int := numsV N ((List.range' A.R (A.MS - A.R)).filter fun i => decide (i ∉ A.D))

theorem RxA.ask_zero {N size : Nat} {A : RxA} {k : Int} (h : A.ask N size k = 0) : numOk N k = true ∧ posN N A.R k < A.R + size := by
  unfold RxA.ask at h
  split at h
  · split at h
    · exact ⟨by assumption, by assumption⟩
    · cases h
  · cases h
theorem RxOk.came {N size : Nat} {A : RxA} (h : RxOk N size A) (k : Int) : RxOk N size (A.came N size k) := by
  unfold RxA.came
  split
  · rename_i hc
    obtain ⟨_, h2⟩ := RxA.ask_zero hc.1
    exact ⟨h.rm, by have := h.mh; dsimp only; omega, by dsimp only; omega, fun i hi => by have := h.dR i hi; dsimp only; omega, h.nd⟩
  · exact h
theorem RxA.came_R {N size : Nat} {A : RxA} {k : Int} : (A.came N size k).R = A.R ∧ (A.came N size k).MS = A.MS ∧ (A.came N size k).D = A.D := by
  unfold RxA.came; split <;> exact ⟨rfl, rfl, rfl⟩
theorem RxOk.done {N size : Nat} {A : RxA} (h : RxOk N size A) {i : Nat} (hi : A.R ≤ i ∧ i < A.H) (hn : i ∉ A.D) : RxOk N size (A.done i) := by
  have hR := skipF_is (A.D ++ [i]) A.R
  have hd : ∀ j ∈ A.D ++ [i], A.R ≤ j ∧ j < A.H := fun j hj => by
    rcases List.mem_append.1 hj with hj | hj
    · have := h.dR j hj; omega
    · rw [List.mem_singleton.1 hj]; exact hi
  unfold RxA.done
  refine ⟨skipF_mono h.rm, skipF_le h.mh fun j hj => (hd j hj).2, ?_, fun j hj => ?_, ?_⟩
  · dsimp only; have := h.hr; have := hR.le; omega
  · obtain ⟨h1, h2⟩ := List.mem_filter.1 hj
    have h2 := of_decide_eq_true h2
    refine ⟨?_, (hd j h1).2⟩
    dsimp only
    rcases Nat.lt_or_eq_of_le h2 with h3 | h3
    · exact h3
    · exact absurd (h3 ▸ h1) hR.no
  · refine List.Pairwise.filter _ ?_
    exact List.nodup_append.2 ⟨h.nd, by simp, fun a ha b hb e => by
      subst e; rw [List.mem_singleton.1 hb] at ha; exact hn ha⟩
theorem RxA.came_H {N size : Nat} {A : RxA} {k : Int} (h : A.ask N size k = 0) : posN N A.R k < (A.came N size k).H := by
  unfold RxA.came
  split
  · exact Nat.lt_succ_self _
  · rename_i hc
    exact Nat.lt_of_not_le fun e => hc ⟨h, e⟩
theorem RxOk.whole {N size : Nat} {A : RxA} (hN : 0 < N) (h : RxOk N size A) (k : Int) : RxOk N size (A.whole N size k) := by
  unfold RxA.whole
  split
  · rename_i hc
    obtain ⟨r1, r2, r3⟩ := RxA.came_R (N := N) (size := size) (A := A) (k := k)
    exact (h.came k).done ⟨by rw [r1]; exact (posN_bound k hN).1, RxA.came_H hc.1⟩ (by rw [r3]; exact hc.2)
  · exact h
theorem RxOk.late {N size : Nat} {A : RxA} (h : RxOk N size A) (k : Int) : RxOk N size (A.late N k) := by
  unfold RxA.late
  split
  · rename_i hc
    have hs := skipF_is A.D (posN N A.R k)
    have hle : posN N A.R k ≤ A.H := by
      have := hc.1
      unfold RxA.lateC at this
      split at this
      · split at this
        · cases this
        · omega
      · cases this
    exact ⟨by have := h.rm; have := hs.le; have := hc.2; dsimp only; omega, skipF_le hle fun j hj => (h.dR j hj).2, h.hr, h.dR, h.nd⟩
  · exact h
theorem RxOk.zero (N size : Nat) : RxOk N size ⟨0, 0, 0, []⟩ := ⟨Nat.le_refl _, Nat.le_refl _, Nat.zero_le _, nofun, .nil⟩
end Go.Proofs.Ytnfdgccmpglbhaa
/-
  The window of what comes: what its functions tell.
-/
namespace Go.Proofs.Ytnfdgccmpglbhaa
set_option linter.unusedVariables false
set_option linter.unusedSimpArgs false
open Go Go.Am

abbrev rxC (n N size : Nat) (A : RxA) (im : Nat) : List AVal := [i64v n, i64v size, i64v ((A.R % N : Nat) : Int), i64v ((A.MS % N : Nat) : Int), i64v ((A.H % N : Nat) : Int), .map im]
abbrev rxL (n N size : Nat) (A : RxA) (iw im : Nat) (F : List HE) : List HE := .o iw (.cells (rxC n N size A im)) :: .o im (.map (keysV N A.D)) :: F

section
variable {σ : AHeap} {n N size iw im : Nat} {A : RxA}
theorem wMade (b1 : σ iw = some (.cells (rxC n N size A im))) : ACalls Try.prog i_rxwin_Window_made [.ptr iw 0] σ fun v σ' => v = boolv true ∧ σ' = σ := by
  refine k_rxwin_Window_made rfl ?_
  have H := Hp.nil σ
  ((conv => whnf); (repeat ((first | with_reducible (first | refine zT rfl ?_ | refine zF rfl ?_ | refine zY rfl ?_) | refine zY (by decide) ?_ | refine zN (by decide) ?_ | with_reducible refine zQ ?_); (conv => whnf))))
  (repeat ((first | refine zI (by omega) ?_ | refine zE (by omega) (by omega) ?_ | refine zD (by omega) (by omega) ?_ | refine zY (by omega) ?_ | refine zN (by omega) ?_ | refine amin ?_ | refine amax ?_ | refine zU (by omega) ?_ | refine z8 (by omega) ?_ | refine zX (by omega) (by omega) ?_ | refine zR rfl ?_ | refine acellA ?_ | refine zB H b1 rfl ?_ | refine zC H b1 ?_ | refine zB H b2 rfl ?_ | refine zC H b2 ?_ | refine zB H b3 rfl ?_ | refine zC H b3 ?_ | refine zB H b4 rfl ?_ | refine zC H b4 ?_ | (apply zL H; (· repeat first | exact .h | apply AtK.t); (· rfl)) | (apply zA H; (· repeat first | exact .h | apply AtK.t)) | (apply zS H; (· repeat first | exact .h | apply AtK.t); (· rfl); (conv => whnf); clear H; intro τ H) | rw [List.length_map]); ((conv => whnf); (repeat ((first | with_reducible (first | refine zT rfl ?_ | refine zF rfl ?_ | refine zY rfl ?_) | refine zY (by decide) ?_ | refine zN (by decide) ?_ | with_reducible refine zQ ?_); (conv => whnf))))))
  exact aret (VLe.refl _) H.sub ⟨rfl, rfl⟩
theorem wState (b1 : σ iw = some (.cells (rxC n N size A im))) : ACalls Try.prog i_rxwin_Window_State [.ptr iw 0] σ fun v σ' => v = .agg [i64v ((A.R % N : Nat) : Int), i64v ((A.MS % N : Nat) : Int), i64v ((A.H % N : Nat) : Int)] ∧ σ' = σ := by
  refine k_rxwin_Window_State rfl ?_
  have H := Hp.nil σ
  ((conv => whnf); (repeat ((first | with_reducible (first | refine zT rfl ?_ | refine zF rfl ?_ | refine zY rfl ?_) | refine zY (by decide) ?_ | refine zN (by decide) ?_ | with_reducible refine zQ ?_); (conv => whnf))))
  refine hnew H rfl ?_
  clear H
  intro i2 τ H
  ((conv => whnf); (repeat ((first | with_reducible (first | refine zT rfl ?_ | refine zF rfl ?_ | refine zY rfl ?_) | refine zY (by decide) ?_ | refine zN (by decide) ?_ | with_reducible refine zQ ?_); (conv => whnf))))
  refine acall (wMade (H.sub _ _ b1)) ?_
  rintro _ σ_ ⟨rfl, e_⟩
  obtain rfl := e_.symm
  refine ⟨?_, Ext.refl _⟩
  ((conv => whnf); (repeat ((first | with_reducible (first | refine zT rfl ?_ | refine zF rfl ?_ | refine zY rfl ?_) | refine zY (by decide) ?_ | refine zN (by decide) ?_ | with_reducible refine zQ ?_); (conv => whnf))))
  (repeat ((first | refine zI (by omega) ?_ | refine zE (by omega) (by omega) ?_ | refine zD (by omega) (by omega) ?_ | refine zY (by omega) ?_ | refine zN (by omega) ?_ | refine amin ?_ | refine amax ?_ | refine zU (by omega) ?_ | refine z8 (by omega) ?_ | refine zX (by omega) (by omega) ?_ | refine zR rfl ?_ | refine acellA ?_ | refine zB H b1 rfl ?_ | refine zC H b1 ?_ | refine zB H b2 rfl ?_ | refine zC H b2 ?_ | refine zB H b3 rfl ?_ | refine zC H b3 ?_ | refine zB H b4 rfl ?_ | refine zC H b4 ?_ | (apply zL H; (· repeat first | exact .h | apply AtK.t); (· rfl)) | (apply zA H; (· repeat first | exact .h | apply AtK.t)) | (apply zS H; (· repeat first | exact .h | apply AtK.t); (· rfl); (conv => whnf); clear H; intro τ H) | rw [List.length_map]); ((conv => whnf); (repeat ((first | with_reducible (first | refine zT rfl ?_ | refine zF rfl ?_ | refine zY rfl ?_) | refine zY (by decide) ?_ | refine zN (by decide) ?_ | with_reducible refine zQ ?_); (conv => whnf))))))
  exact aret (VLe.refl _) H.sub ⟨rfl, rfl⟩
theorem wFar (p : RxP n N size) (b1 : σ iw = some (.cells (rxC n N size A im))) (k : Int) : ACalls Try.prog i_rxwin_Window_Far [.ptr iw 0, i64v k] σ fun v σ' => v = i64v (A.far N k) ∧ σ' = σ := by
  have hN : 0 < N := by have := p.s1; have := p.s2; omega
  refine k_rxwin_Window_Far rfl ?_
  have H := Hp.nil σ
  ((conv => whnf); (repeat ((first | with_reducible (first | refine zT rfl ?_ | refine zF rfl ?_ | refine zY rfl ?_) | refine zY (by decide) ?_ | refine zN (by decide) ?_ | with_reducible refine zQ ?_); (conv => whnf))))
  refine acall (wMade b1) ?_
  rintro _ σ_ ⟨rfl, e_⟩
  obtain rfl := e_.symm
  refine ⟨?_, Ext.refl _⟩
  ((conv => whnf); (repeat ((first | with_reducible (first | refine zT rfl ?_ | refine zF rfl ?_ | refine zY rfl ?_) | refine zY (by decide) ?_ | refine zN (by decide) ?_ | with_reducible refine zQ ?_); (conv => whnf))))
  (repeat ((first | refine zI (by omega) ?_ | refine zE (by omega) (by omega) ?_ | refine zD (by omega) (by omega) ?_ | refine zY (by omega) ?_ | refine zN (by omega) ?_ | refine amin ?_ | refine amax ?_ | refine zU (by omega) ?_ | refine z8 (by omega) ?_ | refine zX (by omega) (by omega) ?_ | refine zR rfl ?_ | refine acellA ?_ | refine zB H b1 rfl ?_ | refine zC H b1 ?_ | refine zB H b2 rfl ?_ | refine zC H b2 ?_ | refine zB H b3 rfl ?_ | refine zC H b3 ?_ | refine zB H b4 rfl ?_ | refine zC H b4 ?_ | (apply zL H; (· repeat first | exact .h | apply AtK.t); (· rfl)) | (apply zA H; (· repeat first | exact .h | apply AtK.t)) | (apply zS H; (· repeat first | exact .h | apply AtK.t); (· rfl); (conv => whnf); clear H; intro τ H) | rw [List.length_map]); ((conv => whnf); (repeat ((first | with_reducible (first | refine zT rfl ?_ | refine zF rfl ?_ | refine zY rfl ?_) | refine zY (by decide) ?_ | refine zN (by decide) ?_ | with_reducible refine zQ ?_); (conv => whnf))))))
  refine acall (sqFar n ((A.R % N : Nat) : Int) k σ) ?_
  rintro _ σ_ ⟨rfl, e_⟩
  obtain rfl := e_.symm
  refine ⟨?_, Ext.refl _⟩
  ((conv => whnf); (repeat ((first | with_reducible (first | refine zT rfl ?_ | refine zF rfl ?_ | refine zY rfl ?_) | refine zY (by decide) ?_ | refine zN (by decide) ?_ | with_reducible refine zQ ?_); (conv => whnf))))
  have hr : isNum n ((A.R % N : Nat) : Int) = true := by rw [isNum_numOk p]; exact numOk_mod _ hN
  have hc : farC n ((A.R % N : Nat) : Int) k = if numOk N k = true then 0 else 1 := by
    unfold farC askCode
    rw [if_pos p.ok, List.all_cons, List.all_cons, List.all_nil, hr, isNum_numOk p]
    cases numOk N k <;> rfl
  have hv : numOk N k = true → farV n ((A.R % N : Nat) : Int) k = ((posN N A.R k - A.R : Nat) : Int) := fun h => by
    unfold farV
    rw [if_pos ⟨p.ok, hr, by rw [isNum_numOk p]; exact h⟩, p.sz]
    unfold posN
    have h1 := Int.emod_nonneg (k - ((A.R % N : Nat) : Int)) (show (N : Int) ≠ 0 by omega)
    omega
  rw [hc]
  unfold RxA.far
  by_cases h : numOk N k = true
  · rw [if_pos h, if_pos h, hv h]
    ((conv => whnf); (repeat ((first | with_reducible (first | refine zT rfl ?_ | refine zF rfl ?_ | refine zY rfl ?_) | refine zY (by decide) ?_ | refine zN (by decide) ?_ | with_reducible refine zQ ?_); (conv => whnf))))
    exact aret (VLe.refl _) H.sub ⟨rfl, rfl⟩
  · rw [if_neg h, if_neg h]
    ((conv => whnf); (repeat ((first | with_reducible (first | refine zT rfl ?_ | refine zF rfl ?_ | refine zY rfl ?_) | refine zY (by decide) ?_ | refine zN (by decide) ?_ | with_reducible refine zQ ?_); (conv => whnf))))
    exact aret (VLe.refl _) H.sub ⟨rfl, rfl⟩
theorem far_bound (hN : 0 < N) (k : Int) : -1 ≤ A.far N k ∧ A.far N k < N := by
  have := posN_bound (N := N) (R := A.R) k hN
  unfold RxA.far; split <;> omega
theorem wIn (p : RxP n N size) (b1 : σ iw = some (.cells (rxC n N size A im))) (k : Int) : ACalls Try.prog i_rxwin_Window_In [.ptr iw 0, i64v k] σ fun v σ' => v = boolv (A.inW N size k) ∧ σ' = σ := by
  have hN : 0 < N := by have := p.s1; have := p.s2; omega
  have hb := posN_bound (N := N) (R := A.R) k hN
  refine k_rxwin_Window_In rfl ?_
  have H := Hp.nil σ
  ((conv => whnf); (repeat ((first | with_reducible (first | refine zT rfl ?_ | refine zF rfl ?_ | refine zY rfl ?_) | refine zY (by decide) ?_ | refine zN (by decide) ?_ | with_reducible refine zQ ?_); (conv => whnf))))
  refine acall (wMade b1) ?_
  rintro _ σ_ ⟨rfl, e_⟩
  obtain rfl := e_.symm
  refine ⟨?_, Ext.refl _⟩
  ((conv => whnf); (repeat ((first | with_reducible (first | refine zT rfl ?_ | refine zF rfl ?_ | refine zY rfl ?_) | refine zY (by decide) ?_ | refine zN (by decide) ?_ | with_reducible refine zQ ?_); (conv => whnf))))
  refine acall (wFar p b1 k) ?_
  rintro _ σ_ ⟨rfl, e_⟩
  obtain rfl := e_.symm
  refine ⟨?_, Ext.refl _⟩
  ((conv => whnf); (repeat ((first | with_reducible (first | refine zT rfl ?_ | refine zF rfl ?_ | refine zY rfl ?_) | refine zY (by decide) ?_ | refine zN (by decide) ?_ | with_reducible refine zQ ?_); (conv => whnf))))
  unfold RxA.inW
  by_cases h : numOk N k = true
  · have hf : A.far N k = ((posN N A.R k - A.R : Nat) : Int) := by unfold RxA.far; rw [if_pos h]
    rw [hf, h]
    (repeat ((first | refine zI (by omega) ?_ | refine zE (by omega) (by omega) ?_ | refine zD (by omega) (by omega) ?_ | refine zY (by omega) ?_ | refine zN (by omega) ?_ | refine amin ?_ | refine amax ?_ | refine zU (by omega) ?_ | refine z8 (by omega) ?_ | refine zX (by omega) (by omega) ?_ | refine zR rfl ?_ | refine acellA ?_ | refine zB H b1 rfl ?_ | refine zC H b1 ?_ | refine zB H b2 rfl ?_ | refine zC H b2 ?_ | refine zB H b3 rfl ?_ | refine zC H b3 ?_ | refine zB H b4 rfl ?_ | refine zC H b4 ?_ | (apply zL H; (· repeat first | exact .h | apply AtK.t); (· rfl)) | (apply zA H; (· repeat first | exact .h | apply AtK.t)) | (apply zS H; (· repeat first | exact .h | apply AtK.t); (· rfl); (conv => whnf); clear H; intro τ H) | rw [List.length_map]); ((conv => whnf); (repeat ((first | with_reducible (first | refine zT rfl ?_ | refine zF rfl ?_ | refine zY rfl ?_) | refine zY (by decide) ?_ | refine zN (by decide) ?_ | with_reducible refine zQ ?_); (conv => whnf))))))
    refine acall (wFar p b1 k) ?_
    rintro _ σ_ ⟨rfl, e_⟩
    obtain rfl := e_.symm
    refine ⟨?_, Ext.refl _⟩
    ((conv => whnf); (repeat ((first | with_reducible (first | refine zT rfl ?_ | refine zF rfl ?_ | refine zY rfl ?_) | refine zY (by decide) ?_ | refine zN (by decide) ?_ | with_reducible refine zQ ?_); (conv => whnf))))
    rw [hf]
    exact aret (VLe.refl _) H.sub ⟨congrArg boolv (by rw [Bool.true_and]; exact dec_congr (by omega)), rfl⟩
  · have hf : A.far N k = -1 := by unfold RxA.far; rw [if_neg h]
    have h2 : numOk N k = false := by simpa using h
    rw [hf, h2]
    (repeat ((first | refine zI (by omega) ?_ | refine zE (by omega) (by omega) ?_ | refine zD (by omega) (by omega) ?_ | refine zY (by omega) ?_ | refine zN (by omega) ?_ | refine amin ?_ | refine amax ?_ | refine zU (by omega) ?_ | refine z8 (by omega) ?_ | refine zX (by omega) (by omega) ?_ | refine zR rfl ?_ | refine acellA ?_ | refine zB H b1 rfl ?_ | refine zC H b1 ?_ | refine zB H b2 rfl ?_ | refine zC H b2 ?_ | refine zB H b3 rfl ?_ | refine zC H b3 ?_ | refine zB H b4 rfl ?_ | refine zC H b4 ?_ | (apply zL H; (· repeat first | exact .h | apply AtK.t); (· rfl)) | (apply zA H; (· repeat first | exact .h | apply AtK.t)) | (apply zS H; (· repeat first | exact .h | apply AtK.t); (· rfl); (conv => whnf); clear H; intro τ H) | rw [List.length_map]); ((conv => whnf); (repeat ((first | with_reducible (first | refine zT rfl ?_ | refine zF rfl ?_ | refine zY rfl ?_) | refine zY (by decide) ?_ | refine zN (by decide) ?_ | with_reducible refine zQ ?_); (conv => whnf))))))
    exact aret (VLe.refl _) H.sub ⟨rfl, rfl⟩
theorem inW_iff {k : Int} : A.inW N size k = true ↔ numOk N k = true ∧ posN N A.R k < A.R + size := by
  unfold RxA.inW; rw [Bool.and_eq_true, decide_eq_true_iff]
theorem dR_all (ok : RxOk N size A) (h : size ≤ N) : ∀ j ∈ A.D, A.R ≤ j ∧ j < A.R + N := fun j hj => by
  have := ok.dR j hj; have := ok.hr; omega
theorem wIs (p : RxP n N size) (ok : RxOk N size A) (b1 : σ iw = some (.cells (rxC n N size A im))) (b2 : σ im = some (.map (keysV N A.D))) (k : Int) :
    ACalls Try.prog i_rxwin_Window_Is [.ptr iw 0, i64v k] σ fun v σ' => v = boolv (A.isW N size k) ∧ σ' = σ := by
  have hN : 0 < N := by have := p.s1; have := p.s2; omega
  have hb := posN_bound (N := N) (R := A.R) k hN
  have hs := p.s2
  refine k_rxwin_Window_Is rfl ?_
  have H := Hp.nil σ
  ((conv => whnf); (repeat ((first | with_reducible (first | refine zT rfl ?_ | refine zF rfl ?_ | refine zY rfl ?_) | refine zY (by decide) ?_ | refine zN (by decide) ?_ | with_reducible refine zQ ?_); (conv => whnf))))
  refine ⟨⟨_, fun σx hx => wIn p (hx _ _ rfl b1) k, ?_⟩⟩
  ((conv => whnf); (repeat ((first | with_reducible (first | refine zT rfl ?_ | refine zF rfl ?_ | refine zY rfl ?_) | refine zY (by decide) ?_ | refine zN (by decide) ?_ | with_reducible refine zQ ?_); (conv => whnf))))
  unfold RxA.isW
  cases h : A.inW N size k
  · ((conv => whnf); (repeat ((first | with_reducible (first | refine zT rfl ?_ | refine zF rfl ?_ | refine zY rfl ?_) | refine zY (by decide) ?_ | refine zN (by decide) ?_ | with_reducible refine zQ ?_); (conv => whnf))))
    exact aret (VLe.refl _) H.sub ⟨rfl, rfl⟩
  · obtain ⟨h1, h2⟩ := inW_iff.1 h
    ((conv => whnf); (repeat ((first | with_reducible (first | refine zT rfl ?_ | refine zF rfl ?_ | refine zY rfl ?_) | refine zY (by decide) ?_ | refine zN (by decide) ?_ | with_reducible refine zQ ?_); (conv => whnf))))
    (repeat ((first | refine zI (by omega) ?_ | refine zE (by omega) (by omega) ?_ | refine zD (by omega) (by omega) ?_ | refine zY (by omega) ?_ | refine zN (by omega) ?_ | refine amin ?_ | refine amax ?_ | refine zU (by omega) ?_ | refine z8 (by omega) ?_ | refine zX (by omega) (by omega) ?_ | refine zR rfl ?_ | refine acellA ?_ | refine zB H b1 rfl ?_ | refine zC H b1 ?_ | refine zB H b2 rfl ?_ | refine zC H b2 ?_ | refine zB H b3 rfl ?_ | refine zC H b3 ?_ | refine zB H b4 rfl ?_ | refine zC H b4 ?_ | (apply zL H; (· repeat first | exact .h | apply AtK.t); (· rfl)) | (apply zA H; (· repeat first | exact .h | apply AtK.t)) | (apply zS H; (· repeat first | exact .h | apply AtK.t); (· rfl); (conv => whnf); clear H; intro τ H) | rw [List.length_map]); ((conv => whnf); (repeat ((first | with_reducible (first | refine zT rfl ?_ | refine zF rfl ?_ | refine zY rfl ?_) | refine zY (by decide) ?_ | refine zN (by decide) ?_ | with_reducible refine zQ ?_); (conv => whnf))))))
    refine hlookB H b2 ?_
    have e := keys_look (N := N) (R := A.R) (i := posN N A.R k) hb (dR_all ok (by omega))
    rw [posN_mod hN h1] at e
    rw [e]
    ((conv => whnf); (repeat ((first | with_reducible (first | refine zT rfl ?_ | refine zF rfl ?_ | refine zY rfl ?_) | refine zY (by decide) ?_ | refine zN (by decide) ?_ | with_reducible refine zQ ?_); (conv => whnf))))
    exact aret (VLe.refl _) H.sub ⟨rfl, rfl⟩
theorem wAfter (p : RxP n N size) (b1 : σ iw = some (.cells (rxC n N size A im))) (i : Nat) : ACalls Try.prog i_rxwin_Window_after [.ptr iw 0, i64v ((i % N : Nat) : Int)] σ fun v σ' => v = i64v (((i + 1) % N : Nat) : Int) ∧ σ' = σ := by
  have hN : 0 < N := by have := p.s1; have := p.s2; omega
  refine k_rxwin_Window_after rfl ?_
  have H := Hp.nil σ
  ((conv => whnf); (repeat ((first | with_reducible (first | refine zT rfl ?_ | refine zF rfl ?_ | refine zY rfl ?_) | refine zY (by decide) ?_ | refine zN (by decide) ?_ | with_reducible refine zQ ?_); (conv => whnf))))
  (repeat ((first | refine zI (by omega) ?_ | refine zE (by omega) (by omega) ?_ | refine zD (by omega) (by omega) ?_ | refine zY (by omega) ?_ | refine zN (by omega) ?_ | refine amin ?_ | refine amax ?_ | refine zU (by omega) ?_ | refine z8 (by omega) ?_ | refine zX (by omega) (by omega) ?_ | refine zR rfl ?_ | refine acellA ?_ | refine zB H b1 rfl ?_ | refine zC H b1 ?_ | refine zB H b2 rfl ?_ | refine zC H b2 ?_ | refine zB H b3 rfl ?_ | refine zC H b3 ?_ | refine zB H b4 rfl ?_ | refine zC H b4 ?_ | (apply zL H; (· repeat first | exact .h | apply AtK.t); (· rfl)) | (apply zA H; (· repeat first | exact .h | apply AtK.t)) | (apply zS H; (· repeat first | exact .h | apply AtK.t); (· rfl); (conv => whnf); clear H; intro τ H) | rw [List.length_map]); ((conv => whnf); (repeat ((first | with_reducible (first | refine zT rfl ?_ | refine zF rfl ?_ | refine zY rfl ?_) | refine zY (by decide) ?_ | refine zN (by decide) ?_ | with_reducible refine zQ ?_); (conv => whnf))))))
  refine acall (sqGo n ((i % N : Nat) : Int) 1 σ) ?_
  rintro _ σ_ ⟨rfl, e_⟩
  obtain rfl := e_.symm
  refine ⟨?_, Ext.refl _⟩
  ((conv => whnf); (repeat ((first | with_reducible (first | refine zT rfl ?_ | refine zF rfl ?_ | refine zY rfl ?_) | refine zY (by decide) ?_ | refine zN (by decide) ?_ | with_reducible refine zQ ?_); (conv => whnf))))
  have hr : isNum n ((i % N : Nat) : Int) = true := by rw [isNum_numOk p]; exact numOk_mod _ hN
  have ha : askCode n [((i % N : Nat) : Int)] = 0 := askCode_zero.2 ⟨p.ok, fun x hx => by rw [List.mem_singleton.1 hx]; exact hr⟩
  have hg : goV n ((i % N : Nat) : Int) 1 = (((i + 1) % N : Nat) : Int) := by
    unfold goV
    rw [if_pos ⟨ha, by decide, by decide⟩, p.sz, Int.natCast_emod, Int.natCast_emod, Int.natCast_add, Int.emod_add_emod]
    rfl
  rw [hg]
  exact aret (VLe.refl _) H.sub ⟨rfl, rfl⟩
theorem wAsk (p : RxP n N size) (b1 : σ iw = some (.cells (rxC n N size A im))) (k : Int) : ACalls Try.prog i_rxwin_Window_ask [.ptr iw 0, i64v k] σ fun v σ' => v = i64v (A.ask N size k) ∧ σ' = σ := by
  refine k_rxwin_Window_ask rfl ?_
  have H := Hp.nil σ
  ((conv => whnf); (repeat ((first | with_reducible (first | refine zT rfl ?_ | refine zF rfl ?_ | refine zY rfl ?_) | refine zY (by decide) ?_ | refine zN (by decide) ?_ | with_reducible refine zQ ?_); (conv => whnf))))
  refine acall (wMade b1) ?_
  rintro _ σ_ ⟨rfl, e_⟩
  obtain rfl := e_.symm
  refine ⟨?_, Ext.refl _⟩
  ((conv => whnf); (repeat ((first | with_reducible (first | refine zT rfl ?_ | refine zF rfl ?_ | refine zY rfl ?_) | refine zY (by decide) ?_ | refine zN (by decide) ?_ | with_reducible refine zQ ?_); (conv => whnf))))
  refine acall (wFar p b1 k) ?_
  rintro _ σ_ ⟨rfl, e_⟩
  obtain rfl := e_.symm
  refine ⟨?_, Ext.refl _⟩
  ((conv => whnf); (repeat ((first | with_reducible (first | refine zT rfl ?_ | refine zF rfl ?_ | refine zY rfl ?_) | refine zY (by decide) ?_ | refine zN (by decide) ?_ | with_reducible refine zQ ?_); (conv => whnf))))
  unfold RxA.ask
  by_cases h : numOk N k = true
  · have hf : A.far N k = ((posN N A.R k - A.R : Nat) : Int) := by unfold RxA.far; rw [if_pos h]
    rw [hf, if_pos h]
    (repeat ((first | refine zI (by omega) ?_ | refine zE (by omega) (by omega) ?_ | refine zD (by omega) (by omega) ?_ | refine zY (by omega) ?_ | refine zN (by omega) ?_ | refine amin ?_ | refine amax ?_ | refine zU (by omega) ?_ | refine z8 (by omega) ?_ | refine zX (by omega) (by omega) ?_ | refine zR rfl ?_ | refine acellA ?_ | refine zB H b1 rfl ?_ | refine zC H b1 ?_ | refine zB H b2 rfl ?_ | refine zC H b2 ?_ | refine zB H b3 rfl ?_ | refine zC H b3 ?_ | refine zB H b4 rfl ?_ | refine zC H b4 ?_ | (apply zL H; (· repeat first | exact .h | apply AtK.t); (· rfl)) | (apply zA H; (· repeat first | exact .h | apply AtK.t)) | (apply zS H; (· repeat first | exact .h | apply AtK.t); (· rfl); (conv => whnf); clear H; intro τ H) | rw [List.length_map]); ((conv => whnf); (repeat ((first | with_reducible (first | refine zT rfl ?_ | refine zF rfl ?_ | refine zY rfl ?_) | refine zY (by decide) ?_ | refine zN (by decide) ?_ | with_reducible refine zQ ?_); (conv => whnf))))))
    refine ⟨⟨_, fun σx hx => wIn p (hx _ _ rfl b1) k, ?_⟩⟩
    ((conv => whnf); (repeat ((first | with_reducible (first | refine zT rfl ?_ | refine zF rfl ?_ | refine zY rfl ?_) | refine zY (by decide) ?_ | refine zN (by decide) ?_ | with_reducible refine zQ ?_); (conv => whnf))))
    by_cases h2 : posN N A.R k < A.R + size
    · rw [inW_iff.2 ⟨h, h2⟩, if_pos h2]
      ((conv => whnf); (repeat ((first | with_reducible (first | refine zT rfl ?_ | refine zF rfl ?_ | refine zY rfl ?_) | refine zY (by decide) ?_ | refine zN (by decide) ?_ | with_reducible refine zQ ?_); (conv => whnf))))
      exact aret (VLe.refl _) H.sub ⟨rfl, rfl⟩
    · rw [show A.inW N size k = false by cases e : A.inW N size k; rfl; exact (h2 (inW_iff.1 e).2).elim, if_neg h2]
      ((conv => whnf); (repeat ((first | with_reducible (first | refine zT rfl ?_ | refine zF rfl ?_ | refine zY rfl ?_) | refine zY (by decide) ?_ | refine zN (by decide) ?_ | with_reducible refine zQ ?_); (conv => whnf))))
      exact aret (VLe.refl _) H.sub ⟨rfl, rfl⟩
  · have hf : A.far N k = -1 := by unfold RxA.far; rw [if_neg h]
    rw [hf, if_neg h]
    (repeat ((first | refine zI (by omega) ?_ | refine zE (by omega) (by omega) ?_ | refine zD (by omega) (by omega) ?_ | refine zY (by omega) ?_ | refine zN (by omega) ?_ | refine amin ?_ | refine amax ?_ | refine zU (by omega) ?_ | refine z8 (by omega) ?_ | refine zX (by omega) (by omega) ?_ | refine zR rfl ?_ | refine acellA ?_ | refine zB H b1 rfl ?_ | refine zC H b1 ?_ | refine zB H b2 rfl ?_ | refine zC H b2 ?_ | refine zB H b3 rfl ?_ | refine zC H b3 ?_ | refine zB H b4 rfl ?_ | refine zC H b4 ?_ | (apply zL H; (· repeat first | exact .h | apply AtK.t); (· rfl)) | (apply zA H; (· repeat first | exact .h | apply AtK.t)) | (apply zS H; (· repeat first | exact .h | apply AtK.t); (· rfl); (conv => whnf); clear H; intro τ H) | rw [List.length_map]); ((conv => whnf); (repeat ((first | with_reducible (first | refine zT rfl ?_ | refine zF rfl ?_ | refine zY rfl ?_) | refine zY (by decide) ?_ | refine zN (by decide) ?_ | with_reducible refine zQ ?_); (conv => whnf))))))
    exact aret (VLe.refl _) H.sub ⟨rfl, rfl⟩
theorem wSkip (p : RxP n N size) {D : List Nat} (hd : ∀ j ∈ D, A.R ≤ j ∧ j < A.R + size) (b1 : σ iw = some (.cells (rxC n N size A im))) (b2 : σ im = some (.map (keysV N D))) (i : Nat) (hi : A.R ≤ i ∧ i ≤ A.R + size) :
    ACalls Try.prog i_rxwin_Window_skip [.ptr iw 0, i64v ((i % N : Nat) : Int)] σ fun v σ' => v = i64v ((skipF D i % N : Nat) : Int) ∧ σ' = σ := by
  have hs := p.s2
  have hs1 := p.s1
  refine k_rxwin_Window_skip rfl ?_
  have H := Hp.nil σ
  ((conv => whnf); (repeat ((first | with_reducible (first | refine zT rfl ?_ | refine zF rfl ?_ | refine zY rfl ?_) | refine zY (by decide) ?_ | refine zN (by decide) ?_ | with_reducible refine zQ ?_); (conv => whnf))))
  refine aloop (α := Nat) (fun j => [(s1, i64v ((j % N : Nat) : Int))]) (fun _ => σ) (fun j => i ≤ j ∧ j ≤ A.R + size ∧ ∀ m, i ≤ m → m < j → m ∈ D) (fun j => A.R + size - j) i ⟨Nat.le_refl _, hi.2, fun m h1 h2 => by omega⟩ (Sub.refl _) ?_ ?_
  · ((conv => whnf); (repeat ((first | with_reducible (first | refine zT rfl ?_ | refine zF rfl ?_ | refine zY rfl ?_) | refine zY (by decide) ?_ | refine zN (by decide) ?_ | with_reducible refine zQ ?_); (conv => whnf))))
    (repeat' first | with_reducible exact EnvLe.refl _ | (refine EnvLe.node ?_ (by first | exact Or.inl rfl | exact Or.inr (Or.inl rfl) | exact Or.inr (Or.inr ⟨nofun, VLe.slice _ _ _⟩)) ?_))
  rintro j ⟨h1, h2, h3⟩
  ((conv => whnf); (repeat ((first | with_reducible (first | refine zT rfl ?_ | refine zF rfl ?_ | refine zY rfl ?_) | refine zY (by decide) ?_ | refine zN (by decide) ?_ | with_reducible refine zQ ?_); (conv => whnf))))
  (repeat ((first | refine zI (by omega) ?_ | refine zE (by omega) (by omega) ?_ | refine zD (by omega) (by omega) ?_ | refine zY (by omega) ?_ | refine zN (by omega) ?_ | refine amin ?_ | refine amax ?_ | refine zU (by omega) ?_ | refine z8 (by omega) ?_ | refine zX (by omega) (by omega) ?_ | refine zR rfl ?_ | refine acellA ?_ | refine zB H b1 rfl ?_ | refine zC H b1 ?_ | refine zB H b2 rfl ?_ | refine zC H b2 ?_ | refine zB H b3 rfl ?_ | refine zC H b3 ?_ | refine zB H b4 rfl ?_ | refine zC H b4 ?_ | (apply zL H; (· repeat first | exact .h | apply AtK.t); (· rfl)) | (apply zA H; (· repeat first | exact .h | apply AtK.t)) | (apply zS H; (· repeat first | exact .h | apply AtK.t); (· rfl); (conv => whnf); clear H; intro τ H) | rw [List.length_map]); ((conv => whnf); (repeat ((first | with_reducible (first | refine zT rfl ?_ | refine zF rfl ?_ | refine zY rfl ?_) | refine zY (by decide) ?_ | refine zN (by decide) ?_ | with_reducible refine zQ ?_); (conv => whnf))))))
  refine hlookB H b2 ?_
  rw [keys_look (N := N) (R := A.R) (i := j) (by omega) (fun m hm => by have := hd m hm; omega)]
  by_cases hm : j ∈ D
  · have hlt := (hd j hm).2
    rw [decide_eq_true hm]
    ((conv => whnf); (repeat ((first | with_reducible (first | refine zT rfl ?_ | refine zF rfl ?_ | refine zY rfl ?_) | refine zY (by decide) ?_ | refine zN (by decide) ?_ | with_reducible refine zQ ?_); (conv => whnf))))
    refine acall (wAfter p b1 j) ?_
    rintro _ σ_ ⟨rfl, e_⟩
    obtain rfl := e_.symm
    refine ⟨?_, Ext.refl _⟩
    ((conv => whnf); (repeat ((first | with_reducible (first | refine zT rfl ?_ | refine zF rfl ?_ | refine zY rfl ?_) | refine zY (by decide) ?_ | refine zN (by decide) ?_ | with_reducible refine zQ ?_); (conv => whnf))))
    refine ⟨j + 1, ⟨by omega, by omega, fun m a b => ?_⟩, by omega, Sub.refl _, ?_⟩
    · by_cases e : m = j
      · rw [e]; exact hm
      · exact h3 m a (by omega)
    · ((conv => whnf); (repeat ((first | with_reducible (first | refine zT rfl ?_ | refine zF rfl ?_ | refine zY rfl ?_) | refine zY (by decide) ?_ | refine zN (by decide) ?_ | with_reducible refine zQ ?_); (conv => whnf))))
      (repeat' first | with_reducible exact EnvLe.refl _ | (refine EnvLe.node ?_ (by first | exact Or.inl rfl | exact Or.inr (Or.inl rfl) | exact Or.inr (Or.inr ⟨nofun, VLe.slice _ _ _⟩)) ?_))
  · rw [decide_eq_false hm, IsSkip.eq ⟨h1, h3, hm⟩]
    ((conv => whnf); (repeat ((first | with_reducible (first | refine zT rfl ?_ | refine zF rfl ?_ | refine zY rfl ?_) | refine zY (by decide) ?_ | refine zN (by decide) ?_ | with_reducible refine zQ ?_); (conv => whnf))))
    exact aret (VLe.refl _) H.sub ⟨rfl, rfl⟩
theorem nums_snoc (l : List Nat) (i : Nat) : (numsV N l).map i64v ++ [i64v ((i % N : Nat) : Int)] = (numsV N (l ++ [i])).map i64v := by unfold numsV; rw [List.map_append, List.map_append]; rfl
theorem filter_snoc {p : Nat → Bool} {R j : Nat} : (List.range' R (j + 1)).filter p = (List.range' R j).filter p ++ if p (R + j) = true then [R + j] else [] := by
  rw [List.range'_concat, List.filter_append, Nat.one_mul, List.filter_cons, List.filter_nil]
set_option maxRecDepth 10000 in
theorem wMissing (p : RxP n N size) (ok : RxOk N size A) (b1 : σ iw = some (.cells (rxC n N size A im))) (b2 : σ im = some (.map (keysV N A.D))) :
    ACalls Try.prog i_rxwin_Window_Missing [.ptr iw 0] σ fun v σ' => v = ints .none (A.missing N) ∧ σ' = σ := by
  have hs := p.s2
  have hs1 := p.s1
  have hle := p.le
  have h1 := ok.rm; have h2 := ok.mh; have h3 := ok.hr
  refine k_rxwin_Window_Missing rfl ?_
  have H := Hp.nil σ
  ((conv => whnf); (repeat ((first | with_reducible (first | refine zT rfl ?_ | refine zF rfl ?_ | refine zY rfl ?_) | refine zY (by decide) ?_ | refine zN (by decide) ?_ | with_reducible refine zQ ?_); (conv => whnf))))
  refine acall (wMade b1) ?_
  rintro _ σ_ ⟨rfl, e_⟩
  obtain rfl := e_.symm
  refine ⟨?_, Ext.refl _⟩
  ((conv => whnf); (repeat ((first | with_reducible (first | refine zT rfl ?_ | refine zF rfl ?_ | refine zY rfl ?_) | refine zY (by decide) ?_ | refine zN (by decide) ?_ | with_reducible refine zQ ?_); (conv => whnf))))
  (repeat ((first | refine zI (by omega) ?_ | refine zE (by omega) (by omega) ?_ | refine zD (by omega) (by omega) ?_ | refine zY (by omega) ?_ | refine zN (by omega) ?_ | refine amin ?_ | refine amax ?_ | refine zU (by omega) ?_ | refine z8 (by omega) ?_ | refine zX (by omega) (by omega) ?_ | refine zR rfl ?_ | refine acellA ?_ | refine zB H b1 rfl ?_ | refine zC H b1 ?_ | refine zB H b2 rfl ?_ | refine zC H b2 ?_ | refine zB H b3 rfl ?_ | refine zC H b3 ?_ | refine zB H b4 rfl ?_ | refine zC H b4 ?_ | (apply zL H; (· repeat first | exact .h | apply AtK.t); (· rfl)) | (apply zA H; (· repeat first | exact .h | apply AtK.t)) | (apply zS H; (· repeat first | exact .h | apply AtK.t); (· rfl); (conv => whnf); clear H; intro τ H) | rw [List.length_map]); ((conv => whnf); (repeat ((first | with_reducible (first | refine zT rfl ?_ | refine zF rfl ?_ | refine zY rfl ?_) | refine zY (by decide) ?_ | refine zN (by decide) ?_ | with_reducible refine zQ ?_); (conv => whnf))))))
  have H := H.cons_full
  refine aloop (α := Nat × Tok × AHeap) (fun y => [(s4, i64v (((A.R + y.1) % N : Nat) : Int)), (s3, ints y.2.1 (numsV N ((List.range' A.R y.1).filter fun i => decide (i ∉ A.D))))]) (fun y => y.2.2)
    (fun y => A.R + y.1 ≤ A.MS ∧ Hp σ [.t y.2.1] y.2.2) (fun y => A.MS - A.R - y.1) (0, .full, σ) ⟨by simpa using h1, H⟩ (Sub.refl _) ?_ ?_
  · ((conv => whnf); (repeat ((first | with_reducible (first | refine zT rfl ?_ | refine zF rfl ?_ | refine zY rfl ?_) | refine zY (by decide) ?_ | refine zN (by decide) ?_ | with_reducible refine zQ ?_); (conv => whnf))))
    (repeat' first | with_reducible exact EnvLe.refl _ | (refine EnvLe.node ?_ (by first | exact Or.inl rfl | exact Or.inr (Or.inl rfl) | exact Or.inr (Or.inr ⟨nofun, VLe.slice _ _ _⟩)) ?_))
  rintro ⟨j, tk, τ⟩ ⟨hj, H⟩
  dsimp only at hj H ⊢
  have hlen : (numsV N ((List.range' A.R j).filter fun i => decide (i ∉ A.D))).length ≤ j := by
    unfold numsV; rw [List.length_map]
    exact Nat.le_trans (List.length_filter_le _ _) (by rw [List.length_range']; exact Nat.le_refl _)
  ((conv => whnf); (repeat ((first | with_reducible (first | refine zT rfl ?_ | refine zF rfl ?_ | refine zY rfl ?_) | refine zY (by decide) ?_ | refine zN (by decide) ?_ | with_reducible refine zQ ?_); (conv => whnf))))
  (repeat ((first | refine zI (by omega) ?_ | refine zE (by omega) (by omega) ?_ | refine zD (by omega) (by omega) ?_ | refine zY (by omega) ?_ | refine zN (by omega) ?_ | refine amin ?_ | refine amax ?_ | refine zU (by omega) ?_ | refine z8 (by omega) ?_ | refine zX (by omega) (by omega) ?_ | refine zR rfl ?_ | refine acellA ?_ | refine zB H b1 rfl ?_ | refine zC H b1 ?_ | refine zB H b2 rfl ?_ | refine zC H b2 ?_ | refine zB H b3 rfl ?_ | refine zC H b3 ?_ | refine zB H b4 rfl ?_ | refine zC H b4 ?_ | (apply zL H; (· repeat first | exact .h | apply AtK.t); (· rfl)) | (apply zA H; (· repeat first | exact .h | apply AtK.t)) | (apply zS H; (· repeat first | exact .h | apply AtK.t); (· rfl); (conv => whnf); clear H; intro τ H) | rw [List.length_map]); ((conv => whnf); (repeat ((first | with_reducible (first | refine zT rfl ?_ | refine zF rfl ?_ | refine zY rfl ?_) | refine zY (by decide) ?_ | refine zN (by decide) ?_ | with_reducible refine zQ ?_); (conv => whnf))))))
  by_cases e : A.R + j = A.MS
  · refine abr_no (by rw [e]; exact fun h => h rfl) ?_
    ((conv => whnf); (repeat ((first | with_reducible (first | refine zT rfl ?_ | refine zF rfl ?_ | refine zY rfl ?_) | refine zY (by decide) ?_ | refine zN (by decide) ?_ | with_reducible refine zQ ?_); (conv => whnf))))
    refine aret (VLe.slice _ _ _) H.sub ⟨?_, rfl⟩
    unfold RxA.missing
    rw [show A.MS - A.R = j by omega]
  · refine abr_yes (fun h => e (mod_inj (N := N) (R := A.R) (by omega) (by omega) (Int.ofNat.inj h))) ?_
    ((conv => whnf); (repeat ((first | with_reducible (first | refine zT rfl ?_ | refine zF rfl ?_ | refine zY rfl ?_) | refine zY (by decide) ?_ | refine zN (by decide) ?_ | with_reducible refine zQ ?_); (conv => whnf))))
    (repeat ((first | refine zI (by omega) ?_ | refine zE (by omega) (by omega) ?_ | refine zD (by omega) (by omega) ?_ | refine zY (by omega) ?_ | refine zN (by omega) ?_ | refine amin ?_ | refine amax ?_ | refine zU (by omega) ?_ | refine z8 (by omega) ?_ | refine zX (by omega) (by omega) ?_ | refine zR rfl ?_ | refine acellA ?_ | refine zB H b1 rfl ?_ | refine zC H b1 ?_ | refine zB H b2 rfl ?_ | refine zC H b2 ?_ | refine zB H b3 rfl ?_ | refine zC H b3 ?_ | refine zB H b4 rfl ?_ | refine zC H b4 ?_ | (apply zL H; (· repeat first | exact .h | apply AtK.t); (· rfl)) | (apply zA H; (· repeat first | exact .h | apply AtK.t)) | (apply zS H; (· repeat first | exact .h | apply AtK.t); (· rfl); (conv => whnf); clear H; intro τ H) | rw [List.length_map]); ((conv => whnf); (repeat ((first | with_reducible (first | refine zT rfl ?_ | refine zF rfl ?_ | refine zY rfl ?_) | refine zY (by decide) ?_ | refine zN (by decide) ?_ | with_reducible refine zQ ?_); (conv => whnf))))))
    refine hlookB H b2 ?_
    rw [keys_look (N := N) (R := A.R) (i := A.R + j) (by omega) (dR_all ok (by omega))]
    by_cases hm : A.R + j ∈ A.D
    · rw [decide_eq_true hm]
      ((conv => whnf); (repeat ((first | with_reducible (first | refine zT rfl ?_ | refine zF rfl ?_ | refine zY rfl ?_) | refine zY (by decide) ?_ | refine zN (by decide) ?_ | with_reducible refine zQ ?_); (conv => whnf))))
      refine acall (wAfter p (H.sub _ _ b1) (A.R + j)) ?_
      rintro _ σ_ ⟨rfl, e_⟩
      obtain rfl := e_.symm
      refine ⟨?_, Ext.refl _⟩
      ((conv => whnf); (repeat ((first | with_reducible (first | refine zT rfl ?_ | refine zF rfl ?_ | refine zY rfl ?_) | refine zY (by decide) ?_ | refine zN (by decide) ?_ | with_reducible refine zQ ?_); (conv => whnf))))
      refine ⟨(j + 1, tk, τ), ⟨by dsimp only; omega, H⟩, by dsimp only; omega, Sub.refl _, ?_⟩
      dsimp only
      rw [filter_snoc, if_neg (by simpa using hm), List.append_nil]
      ((conv => whnf); (repeat ((first | with_reducible (first | refine zT rfl ?_ | refine zF rfl ?_ | refine zY rfl ?_) | refine zY (by decide) ?_ | refine zN (by decide) ?_ | with_reducible refine zQ ?_); (conv => whnf))))
      (repeat' first | with_reducible exact EnvLe.refl _ | (refine EnvLe.node ?_ (by first | exact Or.inl rfl | exact Or.inr (Or.inl rfl) | exact Or.inr (Or.inr ⟨nofun, VLe.slice _ _ _⟩)) ?_))
    · rw [decide_eq_false hm]
      ((conv => whnf); (repeat ((first | with_reducible (first | refine zT rfl ?_ | refine zF rfl ?_ | refine zY rfl ?_) | refine zY (by decide) ?_ | refine zN (by decide) ?_ | with_reducible refine zQ ?_); (conv => whnf))))
      apply zP H
      · (repeat first | exact .h | apply AtK.t)
      · exact (by rw [List.length_map]; show (_ + 1) * 8 ≤ _; omega)
      intro tk2
      (conv => whnf)
      clear H
      intro τ H
      ((conv => whnf); (repeat ((first | with_reducible (first | refine zT rfl ?_ | refine zF rfl ?_ | refine zY rfl ?_) | refine zY (by decide) ?_ | refine zN (by decide) ?_ | with_reducible refine zQ ?_); (conv => whnf))))
      rw [nums_snoc]
      refine acall (wAfter p (H.sub _ _ b1) (A.R + j)) ?_
      rintro _ σ_ ⟨rfl, e_⟩
      obtain rfl := e_.symm
      refine ⟨?_, Ext.refl _⟩
      ((conv => whnf); (repeat ((first | with_reducible (first | refine zT rfl ?_ | refine zF rfl ?_ | refine zY rfl ?_) | refine zY (by decide) ?_ | refine zN (by decide) ?_ | with_reducible refine zQ ?_); (conv => whnf))))
      refine ⟨(j + 1, tk2, τ), ⟨by dsimp only; omega, H⟩, by dsimp only; omega, Sub.refl _, ?_⟩
      dsimp only
      rw [filter_snoc, if_pos (by simpa using hm)]
      ((conv => whnf); (repeat ((first | with_reducible (first | refine zT rfl ?_ | refine zF rfl ?_ | refine zY rfl ?_) | refine zY (by decide) ?_ | refine zN (by decide) ?_ | with_reducible refine zQ ?_); (conv => whnf))))
      (repeat' first | with_reducible exact EnvLe.refl _ | (refine EnvLe.node ?_ (by first | exact Or.inl rfl | exact Or.inr (Or.inl rfl) | exact Or.inr (Or.inr ⟨nofun, VLe.slice _ _ _⟩)) ?_))
end
end Go.Proofs.Ytnfdgccmpglbhaa
