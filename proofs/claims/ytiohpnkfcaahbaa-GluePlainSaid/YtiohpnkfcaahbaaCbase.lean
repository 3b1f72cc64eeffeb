/-
  Words and contracts that all packages share.
-/
import Derived.Test.YtiohpnkfcaahbaaIrslices
namespace Go.Proofs.Ytiohpnkfcaahbaa
set_option linter.unusedVariables false
set_option linter.unusedSimpArgs false
open Go Go.Am

abbrev u16v (b : BitVec 16) : AVal := .v (.int .u16 b.toNat)

abbrev i64v (n : Int) : AVal := .v (.int .i64 n)

abbrev boolv (b : Bool) : AVal := .v (.bool b)

abbrev sl (t : Tok) (bs : List UInt8) : AVal := .slice 1 (bs.map byteV) t

abbrev u64v (n : Nat) : AVal := .v (.int .u64 n)
abbrev u8v (n : Nat) : AVal := .v (.int .u8 n)

theorem get_bytes {bs : List UInt8} {i : Nat} (h : i < bs.length) : (bs.map byteV)[((i : Nat) : Int).toNat]? = some (byteV bs[i]) := by
  rw [Int.toNat_natCast, List.getElem?_map, List.getElem?_eq_getElem h]; rfl

theorem Clone (bs : List UInt8) (t : Tok) (σ : AHeap) (hl : bs.length ≤ 140737488355328) : ACalls Try.prog i_slices_Clone_byte_byte [sl t bs] σ fun v σ' => ∃ tk, Owned σ σ' tk ∧ v = sl tk bs := by
  refine k_slices_Clone_byte_byte rfl ?_
  (conv => whnf)
  refine anil ?_ ?_
  · (conv => whnf)
    refine abr_false rfl ?_
    (conv => whnf)
    refine aapp_full (by simp; omega) fun t' ht' => ?_
    (conv => whnf)
    exact aret_same ⟨_, .tip ht', rfl⟩
  · intro h0
    (conv => whnf)
    refine abr_true rfl ?_
    (conv => whnf)
    have : bs = [] := by simpa using h0
    subst this
    exact aret_same ⟨_, .full σ, rfl⟩

theorem byte_ofNat {n : Nat} (h : n < 256) : byteV (UInt8.ofNat n) = .v (.int .u8 n) := by
  unfold byteV; rw [UInt8.toNat_ofNat']; simp [Nat.mod_eq_of_lt h]

theorem sl_app (t : Tok) (a b : List UInt8) : sl t (a ++ b) = .slice 1 (a.map byteV ++ b.map byteV) t := by simp

theorem byteV_ne (a b : UInt8) : ((a.toNat : Int) ≠ (b.toNat : Int)) ↔ a ≠ b := by
  constructor
  · intro h k; exact h (by rw [k])
  · intro h k; exact h (UInt8.toNat_inj.1 (by omega))

theorem VLe.tup_sl {s : Nat} {xs : List AVal} {t : Tok} {ys : List AVal} : VLe (.tup (.slice s xs t :: ys)) (.tup (.slice s xs .none :: ys)) := VLe.tup (VLe.cons (VLe.slice _ _ _) fun _ _ h => h)

theorem VLe.tup_nil {s : Nat} {ys : List AVal} : VLe (.tup (.slice s [] .full :: ys)) (.tup (.slice s [] .none :: ys)) := VLe.tup_sl

theorem bytes_ok (l : List UInt8) : (l.map byteV).all (okElem 1) = true := by
  rw [List.all_eq_true]; intro x hx; obtain ⟨b, _, rfl⟩ := List.mem_map.1 hx; rfl

theorem bytes_flat (l : List UInt8) : (l.map byteV).flatMap AVal.cells = l.map byteV := by
  induction l with
  | nil => rfl
  | cons x l ih => rw [List.map_cons, List.flatMap_cons, ih]; rfl

theorem bytes_one (l : List UInt8) : ∀ x ∈ l.map byteV, x.cells.length = 1 := by
  intro x hx; obtain ⟨b, _, rfl⟩ := List.mem_map.1 hx; rfl

theorem CloneM (bs : List UInt8) (t : Tok) (σ : AHeap) (hl : bs.length ≤ 140737488355328) : ACalls Try.prog i_slices_Clone_byte_byte [sl t bs] σ fun v σ' => (bs = [] ∧ v = sl .full [] ∧ σ' = σ) ∨ (bs ≠ [] ∧ ∃ r, σ r = none ∧ v = .ms r 1 0 bs.length ∧ σ' = upd σ r (.cells (bs.map byteV))) := by
  refine km_slices_Clone_byte_byte rfl ?_
  (conv => whnf)
  refine anil ?_ ?_
  · (conv => whnf)
    refine abr_false rfl ?_
    (conv => whnf)
    by_cases h0 : bs = []
    · subst h0
      refine aappnew_none (by simp) ?_
      (conv => whnf)
      exact aret_same (.inl ⟨rfl, rfl, rfl⟩)
    · refine aappnew (by simpa using h0) (by simp; omega) (bytes_ok bs) fun r hr => ?_
      rw [bytes_flat, List.length_map]
      (conv => whnf)
      exact aret_same (.inr ⟨h0, r, hr, rfl, rfl⟩)
  · intro h0
    (conv => whnf)
    refine abr_true rfl ?_
    (conv => whnf)
    have : bs = [] := by simpa using h0
    subst this
    exact aret_same (.inl ⟨rfl, rfl, rfl⟩)

theorem xor8 (x y : UInt8) : bitsOp .xor .u8 (x.toNat : Int) (y.toNat : Int) = ((x ^^^ y).toNat : Int) := by
  have h1 : BitVec.ofInt 8 (x.toNat : Int) = x.toBitVec := by
    apply BitVec.eq_of_toNat_eq
    have := x.toNat_lt
    simp
  have h2 : BitVec.ofInt 8 (y.toNat : Int) = y.toBitVec := by
    apply BitVec.eq_of_toNat_eq
    have := y.toNat_lt
    simp
  show IntKind.u8.wrap ((BitVec.ofInt 8 (x.toNat : Int) ^^^ BitVec.ofInt 8 (y.toNat : Int)).toNat) = _
  rw [h1, h2]; exact wrap_u8 (by omega) (by have := (x.toBitVec ^^^ y.toBitVec).isLt; omega)

theorem splice_set {F : List UInt8} {p : Nat} {x : UInt8} (h : p < F.length) : splice (F.map byteV) p [byteV x] = (F.set p x).map byteV := by
  unfold splice
  rw [List.set_eq_take_append_cons_drop, if_pos h]
  simp [List.map_take, List.map_drop]

theorem get_bytesD {bs : List UInt8} {i : Nat} (h : i < bs.length) : (bs.map byteV)[i]? = some (byteV (bs[i]?.getD 0)) := by
  rw [List.getElem?_map, List.getElem?_eq_getElem h]; rfl

end Go.Proofs.Ytiohpnkfcaahbaa

