/-
  Texts of this claim, pack 4: Cbase, Clists, Cpack, Cbits, Cbitsp, Cbitsb, Cbitsc, Cbitsd, Cown, Clensz, Clens, Cseq.
-/
import Derived.Test.YtgipkpghabelkaaK2
import Derived.Test.YtgipkpghabelkaaK3
/-
  Words and contracts that all packages share.
-/
namespace Go.Proofs.Ytgipkpghabelkaa
set_option linter.unusedVariables false
set_option linter.unusedSimpArgs false
open Go Go.Am

abbrev u16v (b : BitVec 16) : AVal := .v (.int .u16 b.toNat)

abbrev i64v (n : Int) : AVal := .v (.int .i64 n)

abbrev boolv (b : Bool) : AVal := .v (.bool b)

abbrev sl (t : Tok) (bs : List UInt8) : AVal := .slice 1 (bs.map byteV) t

abbrev u64v (n : Nat) : AVal := .v (.int .u64 n)
abbrev u8v (n : Nat) : AVal := .v (.int .u8 n)

theorem get_bytes {bs : List UInt8} {i : Nat} (h : i < bs.length) : (bs.map byteV)[((i : Nat) : Int).toNat]? = some (byteV bs[i]) := by
  rw [Int.toNat_natCast, List.getElem?_map, List.getElem?_eq_getElem h]; rfl

theorem Clone (bs : List UInt8) (t : Tok) (σ : AHeap) (hl : bs.length ≤ 140737488355328) : ACalls Try.prog i_slices_Clone_byte_byte [sl t bs] σ fun v σ' => ∃ tk, Owned σ σ' tk ∧ v = sl tk bs := by
  refine k_slices_Clone_byte_byte rfl ?_
  (conv => whnf)
  refine anil ?_ ?_
  · (conv => whnf)
    refine abr_false rfl ?_
    (conv => whnf)
    refine aapp_full (by simp; omega) fun t' ht' => ?_
    (conv => whnf)
    exact aret_same ⟨_, .tip ht', rfl⟩
  · intro h0
    (conv => whnf)
    refine abr_true rfl ?_
    (conv => whnf)
    have : bs = [] := by simpa using h0
    subst this
    exact aret_same ⟨_, .full σ, rfl⟩

theorem byte_ofNat {n : Nat} (h : n < 256) : byteV (UInt8.ofNat n) = .v (.int .u8 n) := by
  unfold byteV; rw [UInt8.toNat_ofNat']; simp [Nat.mod_eq_of_lt h]

theorem sl_app (t : Tok) (a b : List UInt8) : sl t (a ++ b) = .slice 1 (a.map byteV ++ b.map byteV) t := by simp

theorem byteV_ne (a b : UInt8) : ((a.toNat : Int) ≠ (b.toNat : Int)) ↔ a ≠ b := by
  constructor
  · intro h k; exact h (by rw [k])
  · intro h k; exact h (UInt8.toNat_inj.1 (by omega))

theorem VLe.tup_sl {s : Nat} {xs : List AVal} {t : Tok} {ys : List AVal} : VLe (.tup (.slice s xs t :: ys)) (.tup (.slice s xs .none :: ys)) := VLe.tup (VLe.cons (VLe.slice _ _ _) fun _ _ h => h)

theorem VLe.tup_nil {s : Nat} {ys : List AVal} : VLe (.tup (.slice s [] .full :: ys)) (.tup (.slice s [] .none :: ys)) := VLe.tup_sl

theorem bytes_ok (l : List UInt8) : (l.map byteV).all (okElem 1) = true := by
  rw [List.all_eq_true]; intro x hx; obtain ⟨b, _, rfl⟩ := List.mem_map.1 hx; rfl

theorem bytes_flat (l : List UInt8) : (l.map byteV).flatMap AVal.cells = l.map byteV := by
  induction l with
  | nil => rfl
  | cons x l ih => rw [List.map_cons, List.flatMap_cons, ih]; rfl

theorem bytes_one (l : List UInt8) : ∀ x ∈ l.map byteV, x.cells.length = 1 := by
  intro x hx; obtain ⟨b, _, rfl⟩ := List.mem_map.1 hx; rfl

theorem CloneM (bs : List UInt8) (t : Tok) (σ : AHeap) (hl : bs.length ≤ 140737488355328) : ACalls Try.prog i_slices_Clone_byte_byte [sl t bs] σ fun v σ' => (bs = [] ∧ v = sl .full [] ∧ σ' = σ) ∨ (bs ≠ [] ∧ ∃ r, σ r = none ∧ v = .ms r 1 0 bs.length ∧ σ' = upd σ r (.cells (bs.map byteV))) := by
  refine km_slices_Clone_byte_byte rfl ?_
  (conv => whnf)
  refine anil ?_ ?_
  · (conv => whnf)
    refine abr_false rfl ?_
    (conv => whnf)
    by_cases h0 : bs = []
    · subst h0
      refine aappnew_none (by simp) ?_
      (conv => whnf)
      exact aret_same (.inl ⟨rfl, rfl, rfl⟩)
    · refine aappnew (by simpa using h0) (by simp; omega) (bytes_ok bs) fun r hr => ?_
      rw [bytes_flat, List.length_map]
      (conv => whnf)
      exact aret_same (.inr ⟨h0, r, hr, rfl, rfl⟩)
  · intro h0
    (conv => whnf)
    refine abr_true rfl ?_
    (conv => whnf)
    have : bs = [] := by simpa using h0
    subst this
    exact aret_same (.inl ⟨rfl, rfl, rfl⟩)

theorem xor8 (x y : UInt8) : bitsOp .xor .u8 (x.toNat : Int) (y.toNat : Int) = ((x ^^^ y).toNat : Int) := by
  have h1 : BitVec.ofInt 8 (x.toNat : Int) = x.toBitVec := by
    apply BitVec.eq_of_toNat_eq
    have := x.toNat_lt
    simp
  have h2 : BitVec.ofInt 8 (y.toNat : Int) = y.toBitVec := by
    apply BitVec.eq_of_toNat_eq
    have := y.toNat_lt
    simp
  show IntKind.u8.wrap ((BitVec.ofInt 8 (x.toNat : Int) ^^^ BitVec.ofInt 8 (y.toNat : Int)).toNat) = _
  rw [h1, h2]; exact wrap_u8 (by omega) (by have := (x.toBitVec ^^^ y.toBitVec).isLt; omega)

theorem splice_set {F : List UInt8} {p : Nat} {x : UInt8} (h : p < F.length) : splice (F.map byteV) p [byteV x] = (F.set p x).map byteV := by
  unfold splice
  rw [List.set_eq_take_append_cons_drop, if_pos h]
  simp [List.map_take, List.map_drop]

theorem get_bytesD {bs : List UInt8} {i : Nat} (h : i < bs.length) : (bs.map byteV)[i]? = some (byteV (bs[i]?.getD 0)) := by
  rw [List.getElem?_map, List.getElem?_eq_getElem h]; rfl

end Go.Proofs.Ytgipkpghabelkaa
/-
  Lists of byte strings.
-/
namespace Go.Proofs.Ytgipkpghabelkaa
set_option linter.unusedVariables false
open Go Go.Am

abbrev lists (t : Tok) (l : List (List UInt8)) : AVal := .slice 1 (l.map (sl .none)) t
abbrev u16n (n : Nat) : AVal := .v (.int .u16 n)
theorem get_lists {l : List (List UInt8)} {i : Nat} (h : i < l.length) : (l.map (sl .none))[((i : Nat) : Int).toNat]? = some (sl .none l[i]) := by
  rw [Int.toNat_natCast, List.getElem?_map, List.getElem?_eq_getElem h]; rfl
theorem get_u16n {l : List Nat} {i : Nat} (h : i < l.length) : (l.map u16n)[((i : Nat) : Int).toNat]? = some (u16n l[i]) := by
  rw [Int.toNat_natCast, List.getElem?_map, List.getElem?_eq_getElem h]; rfl

/-- How many bytes all are. -/
def total (l : List (List UInt8)) : Nat := l.flatten.length
theorem total_nil : total [] = 0 := rfl
theorem total_cons (a : List UInt8) (l : List (List UInt8)) : total (a :: l) = a.length + total l := by unfold total; simp
theorem total_append (a b : List (List UInt8)) : total (a ++ b) = total a + total b := by unfold total; simp
theorem total_take_succ (l : List (List UInt8)) (i : Nat) (h : i < l.length) : total (l.take (i + 1)) = total (l.take i) + l[i].length := by
  rw [List.take_add_one, List.getElem?_eq_getElem h, total_append]; unfold total; simp
theorem total_take_le (l : List (List UInt8)) (i : Nat) : total (l.take i) ≤ total l := by
  have := total_append (l.take i) (l.drop i)
  rw [List.take_append_drop] at this
  omega
theorem total_get {l : List (List UInt8)} {i : Nat} (h : i < l.length) : l[i].length ≤ total l := by
  have h1 := total_take_succ l i h
  have h2 := total_take_le l (i + 1)
  omega
end Go.Proofs.Ytgipkpghabelkaa
/-
  Bits in bytes: plain laws.
-/
namespace Go.Proofs.Ytgipkpghabelkaa
set_option linter.unusedVariables false
set_option linter.unusedSimpArgs false
open Go Go.Am

def byte8 (a b c d e f g h : Bool) : UInt8 :=
  UInt8.ofNat (a.toNat * 128 + b.toNat * 64 + c.toNat * 32 + d.toNat * 16 + e.toNat * 8 + f.toNat * 4 + g.toNat * 2 + h.toNat)
def bitD (l : List Bool) (i : Nat) : Bool := l[i]?.getD false
/-- The byte at a place of a list of bits, filled up with noughts. -/
def byteAt (l : List Bool) (i : Nat) : UInt8 := byte8 (bitD l (8 * i)) (bitD l (8 * i + 1)) (bitD l (8 * i + 2)) (bitD l (8 * i + 3)) (bitD l (8 * i + 4)) (bitD l (8 * i + 5)) (bitD l (8 * i + 6)) (bitD l (8 * i + 7))
/-- A list of bits, as bytes. -/
def pack (l : List Bool) : List UInt8 := (List.range ((l.length + 7) / 8)).map (byteAt l)
theorem pack_length (l : List Bool) : (pack l).length = (l.length + 7) / 8 := by unfold pack; simp

theorem bitD_snoc (l : List Bool) (b : Bool) (i : Nat) : bitD (l ++ [b]) i = if i = l.length then b else bitD l i := by
  unfold bitD
  by_cases h : i = l.length
  · subst h; simp
  · rw [if_neg h]
    by_cases h2 : i < l.length
    · rw [List.getElem?_append_left h2]
    · rw [List.getElem?_eq_none (by simp; omega), List.getElem?_eq_none (by omega)]
theorem bitD_out {l : List Bool} {i : Nat} (h : l.length ≤ i) : bitD l i = false := by unfold bitD; rw [List.getElem?_eq_none h]; rfl

def orBit (x : UInt8) (b : Bool) (k : Nat) : UInt8 := x ||| UInt8.ofNat (b.toNat * 2 ^ (7 - k))
theorem or_byte8 : ∀ (a b c d e f g h x : Bool), orBit (byte8 false false false false false false false false) x 0 = byte8 x false false false false false false false ∧
    orBit (byte8 a false false false false false false false) x 1 = byte8 a x false false false false false false ∧ orBit (byte8 a b false false false false false false) x 2 = byte8 a b x false false false false false ∧
    orBit (byte8 a b c false false false false false) x 3 = byte8 a b c x false false false false ∧ orBit (byte8 a b c d false false false false) x 4 = byte8 a b c d x false false false ∧
    orBit (byte8 a b c d e false false false) x 5 = byte8 a b c d e x false false ∧ orBit (byte8 a b c d e f false false) x 6 = byte8 a b c d e f x false ∧ orBit (byte8 a b c d e f g false) x 7 = byte8 a b c d e f g x := by decide +kernel

theorem byteAt_snoc (l : List Bool) (b : Bool) : byteAt (l ++ [b]) (l.length / 8) = orBit (byteAt l (l.length / 8)) b (l.length % 8) := by
  obtain ⟨q, k, hk, hl⟩ : ∃ q k, k < 8 ∧ l.length = 8 * q + k := ⟨l.length / 8, l.length % 8, by omega, by omega⟩
  have hq : l.length / 8 = q := by omega
  have hr : l.length % 8 = k := by omega
  rw [hq, hr]
  unfold byteAt
  have key : ∀ j, bitD (l ++ [b]) (8 * q + j) = if j = k then b else bitD l (8 * q + j) := by
    intro j; rw [bitD_snoc]
    by_cases h : j = k
    · rw [if_pos (by omega), if_pos h]
    · rw [if_neg (by omega), if_neg h]
  have hout : ∀ j, k ≤ j → bitD l (8 * q + j) = false := fun j hj => bitD_out (by omega)
  have k0 := key 0
  rw [Nat.add_zero] at k0
  have o0 := hout 0
  rw [Nat.add_zero] at o0
  have H := or_byte8 (bitD l (8 * q)) (bitD l (8 * q + 1)) (bitD l (8 * q + 2)) (bitD l (8 * q + 3)) (bitD l (8 * q + 4)) (bitD l (8 * q + 5)) (bitD l (8 * q + 6)) (bitD l (8 * q + 7)) b
  rw [k0, key 1, key 2, key 3, key 4, key 5, key 6, key 7]
  match k, hk with
  | 0, _ => simp [o0, hout]; exact H.1.symm
  | 1, _ => simp [hout]; exact H.2.1.symm
  | 2, _ => simp [hout]; exact H.2.2.1.symm
  | 3, _ => simp [hout]; exact H.2.2.2.1.symm
  | 4, _ => simp [hout]; exact H.2.2.2.2.1.symm
  | 5, _ => simp [hout]; exact H.2.2.2.2.2.1.symm
  | 6, _ => simp [hout]; exact H.2.2.2.2.2.2.1.symm
  | 7, _ => simp [hout]; exact H.2.2.2.2.2.2.2.symm

theorem byteAt_other (l : List Bool) (b : Bool) {i : Nat} (h : i ≠ l.length / 8) : byteAt (l ++ [b]) i = byteAt l i := by
  have key : ∀ j, j < 8 → bitD (l ++ [b]) (8 * i + j) = bitD l (8 * i + j) := fun j hj => by rw [bitD_snoc, if_neg (by omega)]
  have k0 := key 0 (by omega)
  rw [Nat.add_zero] at k0
  unfold byteAt
  rw [k0, key 1 (by omega), key 2 (by omega), key 3 (by omega), key 4 (by omega), key 5 (by omega), key 6 (by omega), key 7 (by omega)]

/-- One bit more, as the writer puts it. -/
def grow (l : List Bool) : List UInt8 := if l.length % 8 = 0 then pack l ++ [0] else pack l
theorem grow_length (l : List Bool) : (grow l).length = l.length / 8 + 1 := by
  unfold grow; split
  · rw [List.length_append, pack_length]; simp; omega
  · rw [pack_length]; omega
theorem grow_get (l : List Bool) (i : Nat) (h : i < l.length / 8 + 1) : (grow l)[i]? = some (byteAt l i) := by
  unfold grow pack; split
  · by_cases h2 : i < (l.length + 7) / 8
    · rw [List.getElem?_append_left (by simpa using h2)]; simp [h2]
    · have : i = (l.length + 7) / 8 := by omega
      subst this
      rw [List.getElem?_append_right (by simp)]
      simp
      have hout : ∀ j, bitD l (8 * ((l.length + 7) / 8) + j) = false := fun j => bitD_out (by omega)
      have h0 := hout 0
      rw [Nat.add_zero] at h0
      unfold byteAt
      rw [h0, hout, hout, hout, hout, hout, hout, hout]; rfl
  · have h2 : i < (l.length + 7) / 8 := by omega
    simp [h2]
theorem pack_get {l : List Bool} {i : Nat} (h : i < (l.length + 7) / 8) : (pack l)[i]? = some (byteAt l i) := by
  unfold pack; rw [List.getElem?_map, List.getElem?_range h]; rfl
theorem pack_snoc (l : List Bool) (b : Bool) : pack (l ++ [b]) = (grow l).set (l.length / 8) (orBit (byteAt l (l.length / 8)) b (l.length % 8)) := by
  apply List.ext_getElem?
  intro i
  rw [List.getElem?_set, grow_length]
  by_cases h : l.length / 8 = i
  · subst h
    rw [if_pos rfl, if_pos (by omega), ← byteAt_snoc]
    exact pack_get (by rw [List.length_append]; show _ < (l.length + 1 + 7) / 8; omega)
  · rw [if_neg h]
    by_cases h2 : i < l.length / 8 + 1
    · rw [grow_get l i h2, ← byteAt_other l b (Ne.symm h)]
      exact pack_get (by rw [List.length_append]; show _ < (l.length + 1 + 7) / 8; omega)
    · rw [List.getElem?_eq_none (by rw [pack_length, List.length_append]; show (l.length + 1 + 7) / 8 ≤ i; omega), List.getElem?_eq_none (by rw [grow_length]; omega)]
end Go.Proofs.Ytgipkpghabelkaa
/-
  What the functions of the package of bits do.
-/
namespace Go.Proofs.Ytgipkpghabelkaa
set_option linter.unusedVariables false
set_option linter.unusedSimpArgs false
open Go Go.Am

/-- A writer at an object, with its bits; the heap without it. -/
def Wr (σ : AHeap) (id : Nat) (bs : List Bool) (σb : AHeap) : Prop :=
  σb id = none ∧ ((bs = [] ∧ σ = upd σb id (.cells [.slice 1 [] .full, i64v bs.length])) ∨
    (bs ≠ [] ∧ ∃ r, r ≠ id ∧ σb r = none ∧ σ = upd (upd σb r (.cells ((pack bs).map byteV))) id (.cells [.ms r 1 0 (pack bs).length, i64v bs.length])))

theorem or8 (x : UInt8) (y : Nat) (hy : y < 256) : bitsOp .or .u8 (x.toNat : Int) (y : Int) = ((x ||| UInt8.ofNat y).toNat : Int) := by
  have h1 : BitVec.ofInt 8 (x.toNat : Int) = x.toBitVec := by
    apply BitVec.eq_of_toNat_eq
    have := x.toNat_lt
    simp
  have h2 : BitVec.ofInt 8 (y : Int) = (UInt8.ofNat y).toBitVec := by
    apply BitVec.eq_of_toNat_eq
    simp
  show IntKind.u8.wrap ((BitVec.ofInt 8 (x.toNat : Int) ||| BitVec.ofInt 8 (y : Int)).toNat) = _
  rw [h1, h2]; exact wrap_u8 (by omega) (by have := (x.toBitVec ||| (UInt8.ofNat y).toBitVec).isLt; omega)

theorem bit_lt (b : Bool) {k : Nat} (hk : k ≤ 7) : b.toNat * 2 ^ k < 256 := by
  have h1 : b.toNat ≤ 1 := by cases b <;> decide
  have h2 : 2 ^ k ≤ 2 ^ 7 := Nat.pow_le_pow_right (by omega) hk
  calc b.toNat * 2 ^ k ≤ 1 * 2 ^ 7 := Nat.mul_le_mul h1 h2
    _ < 256 := by decide
theorem shl_bit (b : Bool) {k : Nat} (hk : k ≤ 7) : IntKind.u8.wrap ((b.toNat : Int) * 2 ^ (min ((k : Nat) : Int).toNat IntKind.u8.bits)) = ((b.toNat * 2 ^ k : Nat) : Int) := by
  rw [Int.toNat_natCast, Nat.min_eq_left (show k ≤ IntKind.u8.bits from Nat.le_trans hk (by decide))]
  have := bit_lt b hk
  have e : (b.toNat : Int) * 2 ^ k = ((b.toNat * 2 ^ k : Nat) : Int) := by simp
  rw [e]; exact wrap_u8 (by omega) (by omega)

set_option maxRecDepth 10000 in
theorem one (id : Nat) (bs : List Bool) (b : Bool) (σ σb : AHeap) (h : Wr σ id bs σb) (hl : bs.length ≤ 70000) : ACalls Try.prog i_bits_Writer_one [.ptr id 0, u8v b.toNat] σ fun v σ' => v = .tup [] ∧ Wr σ' id (bs ++ [b]) σb := by
  obtain ⟨hid, h⟩ := h
  have hgl := grow_length bs
  refine km_bits_Writer_one rfl ?_
  ((conv => whnf); (repeat ((first | with_reducible (first | refine zT rfl ?_ | refine zF rfl ?_ | refine zY rfl ?_) | refine zY (by decide) ?_ | refine zN (by decide) ?_ | with_reducible refine zQ ?_); (conv => whnf))))
  rcases h with ⟨hnil, rfl⟩ | ⟨hne, r, hri, hr, rfl⟩
  · refine aload (upd_same _ _ _) rfl ?_
    ((conv => whnf); (repeat ((first | with_reducible (first | refine zT rfl ?_ | refine zF rfl ?_ | refine zY rfl ?_) | refine zY (by decide) ?_ | refine zN (by decide) ?_ | with_reducible refine zQ ?_); (conv => whnf))))
    refine arem_nonneg (by omega) (by omega) ?_
    ((conv => whnf); (repeat ((first | with_reducible (first | refine zT rfl ?_ | refine zF rfl ?_ | refine zY rfl ?_) | refine zY (by decide) ?_ | refine zN (by decide) ?_ | with_reducible refine zQ ?_); (conv => whnf))))
    refine abr_yes (by rw [hnil]; rfl) ?_
    ((conv => whnf); (repeat ((first | with_reducible (first | refine zT rfl ?_ | refine zF rfl ?_ | refine zY rfl ?_) | refine zY (by decide) ?_ | refine zN (by decide) ?_ | with_reducible refine zQ ?_); (conv => whnf))))
    refine aload (upd_same _ _ _) rfl ?_
    ((conv => whnf); (repeat ((first | with_reducible (first | refine zT rfl ?_ | refine zF rfl ?_ | refine zY rfl ?_) | refine zY (by decide) ?_ | refine zN (by decide) ?_ | with_reducible refine zQ ?_); (conv => whnf))))
    refine aappnew nofun (by decide) rfl fun r hr0 => ?_
    have hri : r ≠ id := fun e => by subst e; rw [upd_same] at hr0; cases hr0
    have hr : σb r = none := by rw [upd_ne _ _ hri] at hr0; exact hr0
    have hg : grow bs = [0] := by rw [hnil]; rfl
    have hgm : List.flatMap AVal.cells [AVal.v (Value.int IntKind.u8 0)] = (grow bs).map byteV := by rw [hg]; rfl
    have hgl2 : [AVal.v (Value.int IntKind.u8 0)].length = (grow bs).length := by rw [hg]; rfl
    rw [hgm, hgl2]
    ((conv => whnf); (repeat ((first | with_reducible (first | refine zT rfl ?_ | refine zF rfl ?_ | refine zY rfl ?_) | refine zY (by decide) ?_ | refine zN (by decide) ?_ | with_reducible refine zQ ?_); (conv => whnf))))
    refine astore (xs := [.ms r 1 0 (grow bs).length]) (l := [.ms r 1 0 (grow bs).length, i64v bs.length]) (by rw [upd_ne _ _ (Ne.symm hri)]; exact upd_same _ _ _) (Nat.le_of_ble_eq_true rfl) rfl rfl ?_
    rw [upd_comm _ _ _ hri, upd_upd, upd_comm _ _ _ (Ne.symm hri)]
    ((conv => whnf); (repeat ((first | with_reducible (first | refine zT rfl ?_ | refine zF rfl ?_ | refine zY rfl ?_) | refine zY (by decide) ?_ | refine zN (by decide) ?_ | with_reducible refine zQ ?_); (conv => whnf))))
    refine aload (upd_same _ _ _) rfl ?_
    ((conv => whnf); (repeat ((first | with_reducible (first | refine zT rfl ?_ | refine zF rfl ?_ | refine zY rfl ?_) | refine zY (by decide) ?_ | refine zN (by decide) ?_ | with_reducible refine zQ ?_); (conv => whnf))))
    refine aload (upd_same _ _ _) rfl ?_
    ((conv => whnf); (repeat ((first | with_reducible (first | refine zT rfl ?_ | refine zF rfl ?_ | refine zY rfl ?_) | refine zY (by decide) ?_ | refine zN (by decide) ?_ | with_reducible refine zQ ?_); (conv => whnf))))
    refine adiv_i64 (by omega) (by omega) ?_
    ((conv => whnf); (repeat ((first | with_reducible (first | refine zT rfl ?_ | refine zF rfl ?_ | refine zY rfl ?_) | refine zY (by decide) ?_ | refine zN (by decide) ?_ | with_reducible refine zQ ?_); (conv => whnf))))
    refine aidx (by omega) (by omega) ?_
    rw [show 0 + (((bs.length : Nat) : Int) / 8).toNat * 1 = bs.length / 8 by omega]
    ((conv => whnf); (repeat ((first | with_reducible (first | refine zT rfl ?_ | refine zF rfl ?_ | refine zY rfl ?_) | refine zY (by decide) ?_ | refine zN (by decide) ?_ | with_reducible refine zQ ?_); (conv => whnf))))
    refine aload (cs := (grow bs).map byteV) (by rw [upd_ne _ _ hri]; exact upd_same _ _ _) (by rw [List.getElem?_map, grow_get bs _ (by omega)]; rfl) ?_
    ((conv => whnf); (repeat ((first | with_reducible (first | refine zT rfl ?_ | refine zF rfl ?_ | refine zY rfl ?_) | refine zY (by decide) ?_ | refine zN (by decide) ?_ | with_reducible refine zQ ?_); (conv => whnf))))
    refine aload (upd_same _ _ _) rfl ?_
    ((conv => whnf); (repeat ((first | with_reducible (first | refine zT rfl ?_ | refine zF rfl ?_ | refine zY rfl ?_) | refine zY (by decide) ?_ | refine zN (by decide) ?_ | with_reducible refine zQ ?_); (conv => whnf))))
    refine arem_nonneg (by omega) (by omega) ?_
    rw [show (((bs.length : Nat) : Int) % 8) = ((bs.length % 8 : Nat) : Int) by omega]
    ((conv => whnf); (repeat ((first | with_reducible (first | refine zT rfl ?_ | refine zF rfl ?_ | refine zY rfl ?_) | refine zY (by decide) ?_ | refine zN (by decide) ?_ | with_reducible refine zQ ?_); (conv => whnf))))
    refine afit_i64 (by omega) ?_
    rw [show (7 : Int) - ((bs.length % 8 : Nat) : Int) = ((7 - bs.length % 8 : Nat) : Int) by omega]
    ((conv => whnf); (repeat ((first | with_reducible (first | refine zT rfl ?_ | refine zF rfl ?_ | refine zY rfl ?_) | refine zY (by decide) ?_ | refine zN (by decide) ?_ | with_reducible refine zQ ?_); (conv => whnf))))
    refine ashl_eq (m := ((b.toNat * 2 ^ (7 - bs.length % 8) : Nat) : Int)) (by omega) (shl_bit b (by omega)) ?_
    ((conv => whnf); (repeat ((first | with_reducible (first | refine zT rfl ?_ | refine zF rfl ?_ | refine zY rfl ?_) | refine zY (by decide) ?_ | refine zN (by decide) ?_ | with_reducible refine zQ ?_); (conv => whnf))))
    refine abits_eq (or8 _ _ (bit_lt b (by omega))) ?_
    ((conv => whnf); (repeat ((first | with_reducible (first | refine zT rfl ?_ | refine zF rfl ?_ | refine zY rfl ?_) | refine zY (by decide) ?_ | refine zN (by decide) ?_ | with_reducible refine zQ ?_); (conv => whnf))))
    refine aidx (by omega) (by omega) ?_
    rw [show 0 + (((bs.length : Nat) : Int) / 8).toNat * 1 = bs.length / 8 by omega]
    ((conv => whnf); (repeat ((first | with_reducible (first | refine zT rfl ?_ | refine zF rfl ?_ | refine zY rfl ?_) | refine zY (by decide) ?_ | refine zN (by decide) ?_ | with_reducible refine zQ ?_); (conv => whnf))))
    refine astore (by rw [upd_ne _ _ hri]; exact upd_same _ _ _) (by rw [List.length_map, hgl]; show bs.length / 8 + 1 ≤ _; omega) rfl (splice_set (x := orBit (byteAt bs (bs.length / 8)) b (bs.length % 8)) (by rw [hgl]; omega)) ?_
    rw [← pack_snoc, upd_comm _ _ _ (Ne.symm hri), upd_upd]
    ((conv => whnf); (repeat ((first | with_reducible (first | refine zT rfl ?_ | refine zF rfl ?_ | refine zY rfl ?_) | refine zY (by decide) ?_ | refine zN (by decide) ?_ | with_reducible refine zQ ?_); (conv => whnf))))
    refine aload (upd_same _ _ _) rfl ?_
    ((conv => whnf); (repeat ((first | with_reducible (first | refine zT rfl ?_ | refine zF rfl ?_ | refine zY rfl ?_) | refine zY (by decide) ?_ | refine zN (by decide) ?_ | with_reducible refine zQ ?_); (conv => whnf))))
    refine afit_i64 (by omega) ?_
    ((conv => whnf); (repeat ((first | with_reducible (first | refine zT rfl ?_ | refine zF rfl ?_ | refine zY rfl ?_) | refine zY (by decide) ?_ | refine zN (by decide) ?_ | with_reducible refine zQ ?_); (conv => whnf))))
    refine astore (l := [.ms r 1 0 (grow bs).length, i64v (((bs.length : Nat) : Int) + 1)]) (upd_same _ _ _) (Nat.le_of_ble_eq_true rfl) rfl rfl ?_
    rw [upd_upd]
    ((conv => whnf); (repeat ((first | with_reducible (first | refine zT rfl ?_ | refine zF rfl ?_ | refine zY rfl ?_) | refine zY (by decide) ?_ | refine zN (by decide) ?_ | with_reducible refine zQ ?_); (conv => whnf))))
    refine aret_same ⟨rfl, hid, .inr ⟨by simp, r, hri, hr, ?_⟩⟩
    have e1 : (pack (bs ++ [b])).length = (grow bs).length := by rw [hgl, pack_length, List.length_append]; show (bs.length + 1 + 7) / 8 = _; omega
    rw [e1, List.length_append]
    rfl
  · refine aload (upd_same _ _ _) rfl ?_
    ((conv => whnf); (repeat ((first | with_reducible (first | refine zT rfl ?_ | refine zF rfl ?_ | refine zY rfl ?_) | refine zY (by decide) ?_ | refine zN (by decide) ?_ | with_reducible refine zQ ?_); (conv => whnf))))
    refine arem_nonneg (by omega) (by omega) ?_
    ((conv => whnf); (repeat ((first | with_reducible (first | refine zT rfl ?_ | refine zF rfl ?_ | refine zY rfl ?_) | refine zY (by decide) ?_ | refine zN (by decide) ?_ | with_reducible refine zQ ?_); (conv => whnf))))
    refine abr_dec (fun h8 => ?_) (fun h8 => ?_)
    · ((conv => whnf); (repeat ((first | with_reducible (first | refine zT rfl ?_ | refine zF rfl ?_ | refine zY rfl ?_) | refine zY (by decide) ?_ | refine zN (by decide) ?_ | with_reducible refine zQ ?_); (conv => whnf))))
      refine aload (upd_same _ _ _) rfl ?_
      ((conv => whnf); (repeat ((first | with_reducible (first | refine zT rfl ?_ | refine zF rfl ?_ | refine zY rfl ?_) | refine zY (by decide) ?_ | refine zN (by decide) ?_ | with_reducible refine zQ ?_); (conv => whnf))))
      refine aappm (cs := (pack bs).map byteV) (by rw [upd_ne _ _ hri]; exact upd_same _ _ _) (by simp) (by rw [pack_length]; show ((bs.length + 7) / 8 + 1) * 1 ≤ _; omega) rfl fun r2 hr2 => ?_
      have hr2i : r2 ≠ id := fun e => by subst e; rw [upd_same] at hr2; cases hr2
      have hr2b : σb r2 = none := by
        rw [upd_ne _ _ hr2i] at hr2
        by_cases e : r2 = r
        · subst e; exact hr
        · rw [upd_ne _ _ e] at hr2; exact hr2
      have hg : pack bs ++ [0] = grow bs := by unfold grow; rw [if_pos (by omega)]
      have hgm : (pack bs).map byteV ++ List.flatMap AVal.cells [AVal.v (Value.int IntKind.u8 0)] = (grow bs).map byteV := by rw [← hg, List.map_append]; rfl
      have hgl2 : (pack bs).length + [AVal.v (Value.int IntKind.u8 0)].length = (grow bs).length := by rw [← hg, List.length_append]; rfl
      rw [hgm, hgl2, del_upd_comm _ _ (Ne.symm hri), del_upd _ _ _ hr]
      ((conv => whnf); (repeat ((first | with_reducible (first | refine zT rfl ?_ | refine zF rfl ?_ | refine zY rfl ?_) | refine zY (by decide) ?_ | refine zN (by decide) ?_ | with_reducible refine zQ ?_); (conv => whnf))))
      refine astore (xs := [.ms r2 1 0 (grow bs).length]) (l := [.ms r2 1 0 (grow bs).length, i64v bs.length]) (by rw [upd_ne _ _ (Ne.symm hr2i)]; exact upd_same _ _ _) (Nat.le_of_ble_eq_true rfl) rfl rfl ?_
      rw [upd_comm _ _ _ hr2i, upd_upd, upd_comm _ _ _ (Ne.symm hr2i)]
      clear hr hri
      have hri := hr2i
      have hr := hr2b
      ((conv => whnf); (repeat ((first | with_reducible (first | refine zT rfl ?_ | refine zF rfl ?_ | refine zY rfl ?_) | refine zY (by decide) ?_ | refine zN (by decide) ?_ | with_reducible refine zQ ?_); (conv => whnf))))
      refine aload (upd_same _ _ _) rfl ?_
      ((conv => whnf); (repeat ((first | with_reducible (first | refine zT rfl ?_ | refine zF rfl ?_ | refine zY rfl ?_) | refine zY (by decide) ?_ | refine zN (by decide) ?_ | with_reducible refine zQ ?_); (conv => whnf))))
      refine aload (upd_same _ _ _) rfl ?_
      ((conv => whnf); (repeat ((first | with_reducible (first | refine zT rfl ?_ | refine zF rfl ?_ | refine zY rfl ?_) | refine zY (by decide) ?_ | refine zN (by decide) ?_ | with_reducible refine zQ ?_); (conv => whnf))))
      refine adiv_i64 (by omega) (by omega) ?_
      ((conv => whnf); (repeat ((first | with_reducible (first | refine zT rfl ?_ | refine zF rfl ?_ | refine zY rfl ?_) | refine zY (by decide) ?_ | refine zN (by decide) ?_ | with_reducible refine zQ ?_); (conv => whnf))))
      refine aidx (by omega) (by omega) ?_
      rw [show 0 + (((bs.length : Nat) : Int) / 8).toNat * 1 = bs.length / 8 by omega]
      ((conv => whnf); (repeat ((first | with_reducible (first | refine zT rfl ?_ | refine zF rfl ?_ | refine zY rfl ?_) | refine zY (by decide) ?_ | refine zN (by decide) ?_ | with_reducible refine zQ ?_); (conv => whnf))))
      refine aload (cs := (grow bs).map byteV) (by rw [upd_ne _ _ hri]; exact upd_same _ _ _) (by rw [List.getElem?_map, grow_get bs _ (by omega)]; rfl) ?_
      ((conv => whnf); (repeat ((first | with_reducible (first | refine zT rfl ?_ | refine zF rfl ?_ | refine zY rfl ?_) | refine zY (by decide) ?_ | refine zN (by decide) ?_ | with_reducible refine zQ ?_); (conv => whnf))))
      refine aload (upd_same _ _ _) rfl ?_
      ((conv => whnf); (repeat ((first | with_reducible (first | refine zT rfl ?_ | refine zF rfl ?_ | refine zY rfl ?_) | refine zY (by decide) ?_ | refine zN (by decide) ?_ | with_reducible refine zQ ?_); (conv => whnf))))
      refine arem_nonneg (by omega) (by omega) ?_
      rw [show (((bs.length : Nat) : Int) % 8) = ((bs.length % 8 : Nat) : Int) by omega]
      ((conv => whnf); (repeat ((first | with_reducible (first | refine zT rfl ?_ | refine zF rfl ?_ | refine zY rfl ?_) | refine zY (by decide) ?_ | refine zN (by decide) ?_ | with_reducible refine zQ ?_); (conv => whnf))))
      refine afit_i64 (by omega) ?_
      rw [show (7 : Int) - ((bs.length % 8 : Nat) : Int) = ((7 - bs.length % 8 : Nat) : Int) by omega]
      ((conv => whnf); (repeat ((first | with_reducible (first | refine zT rfl ?_ | refine zF rfl ?_ | refine zY rfl ?_) | refine zY (by decide) ?_ | refine zN (by decide) ?_ | with_reducible refine zQ ?_); (conv => whnf))))
      refine ashl_eq (m := ((b.toNat * 2 ^ (7 - bs.length % 8) : Nat) : Int)) (by omega) (shl_bit b (by omega)) ?_
      ((conv => whnf); (repeat ((first | with_reducible (first | refine zT rfl ?_ | refine zF rfl ?_ | refine zY rfl ?_) | refine zY (by decide) ?_ | refine zN (by decide) ?_ | with_reducible refine zQ ?_); (conv => whnf))))
      refine abits_eq (or8 _ _ (bit_lt b (by omega))) ?_
      ((conv => whnf); (repeat ((first | with_reducible (first | refine zT rfl ?_ | refine zF rfl ?_ | refine zY rfl ?_) | refine zY (by decide) ?_ | refine zN (by decide) ?_ | with_reducible refine zQ ?_); (conv => whnf))))
      refine aidx (by omega) (by omega) ?_
      rw [show 0 + (((bs.length : Nat) : Int) / 8).toNat * 1 = bs.length / 8 by omega]
      ((conv => whnf); (repeat ((first | with_reducible (first | refine zT rfl ?_ | refine zF rfl ?_ | refine zY rfl ?_) | refine zY (by decide) ?_ | refine zN (by decide) ?_ | with_reducible refine zQ ?_); (conv => whnf))))
      refine astore (by rw [upd_ne _ _ hri]; exact upd_same _ _ _) (by rw [List.length_map, hgl]; show bs.length / 8 + 1 ≤ _; omega) rfl (splice_set (x := orBit (byteAt bs (bs.length / 8)) b (bs.length % 8)) (by rw [hgl]; omega)) ?_
      rw [← pack_snoc, upd_comm _ _ _ (Ne.symm hri), upd_upd]
      ((conv => whnf); (repeat ((first | with_reducible (first | refine zT rfl ?_ | refine zF rfl ?_ | refine zY rfl ?_) | refine zY (by decide) ?_ | refine zN (by decide) ?_ | with_reducible refine zQ ?_); (conv => whnf))))
      refine aload (upd_same _ _ _) rfl ?_
      ((conv => whnf); (repeat ((first | with_reducible (first | refine zT rfl ?_ | refine zF rfl ?_ | refine zY rfl ?_) | refine zY (by decide) ?_ | refine zN (by decide) ?_ | with_reducible refine zQ ?_); (conv => whnf))))
      refine afit_i64 (by omega) ?_
      ((conv => whnf); (repeat ((first | with_reducible (first | refine zT rfl ?_ | refine zF rfl ?_ | refine zY rfl ?_) | refine zY (by decide) ?_ | refine zN (by decide) ?_ | with_reducible refine zQ ?_); (conv => whnf))))
      refine astore (l := [.ms r2 1 0 (grow bs).length, i64v (((bs.length : Nat) : Int) + 1)]) (upd_same _ _ _) (Nat.le_of_ble_eq_true rfl) rfl rfl ?_
      rw [upd_upd]
      ((conv => whnf); (repeat ((first | with_reducible (first | refine zT rfl ?_ | refine zF rfl ?_ | refine zY rfl ?_) | refine zY (by decide) ?_ | refine zN (by decide) ?_ | with_reducible refine zQ ?_); (conv => whnf))))
      refine aret_same ⟨rfl, hid, .inr ⟨by simp, r2, hri, hr, ?_⟩⟩
      have e1 : (pack (bs ++ [b])).length = (grow bs).length := by rw [hgl, pack_length, List.length_append]; show (bs.length + 1 + 7) / 8 = _; omega
      rw [e1, List.length_append]
      rfl
    · have hg : pack bs = grow bs := by unfold grow; rw [if_neg (by omega)]
      rw [hg]
      ((conv => whnf); (repeat ((first | with_reducible (first | refine zT rfl ?_ | refine zF rfl ?_ | refine zY rfl ?_) | refine zY (by decide) ?_ | refine zN (by decide) ?_ | with_reducible refine zQ ?_); (conv => whnf))))
      refine aload (upd_same _ _ _) rfl ?_
      ((conv => whnf); (repeat ((first | with_reducible (first | refine zT rfl ?_ | refine zF rfl ?_ | refine zY rfl ?_) | refine zY (by decide) ?_ | refine zN (by decide) ?_ | with_reducible refine zQ ?_); (conv => whnf))))
      refine aload (upd_same _ _ _) rfl ?_
      ((conv => whnf); (repeat ((first | with_reducible (first | refine zT rfl ?_ | refine zF rfl ?_ | refine zY rfl ?_) | refine zY (by decide) ?_ | refine zN (by decide) ?_ | with_reducible refine zQ ?_); (conv => whnf))))
      refine adiv_i64 (by omega) (by omega) ?_
      ((conv => whnf); (repeat ((first | with_reducible (first | refine zT rfl ?_ | refine zF rfl ?_ | refine zY rfl ?_) | refine zY (by decide) ?_ | refine zN (by decide) ?_ | with_reducible refine zQ ?_); (conv => whnf))))
      refine aidx (by omega) (by omega) ?_
      rw [show 0 + (((bs.length : Nat) : Int) / 8).toNat * 1 = bs.length / 8 by omega]
      ((conv => whnf); (repeat ((first | with_reducible (first | refine zT rfl ?_ | refine zF rfl ?_ | refine zY rfl ?_) | refine zY (by decide) ?_ | refine zN (by decide) ?_ | with_reducible refine zQ ?_); (conv => whnf))))
      refine aload (cs := (grow bs).map byteV) (by rw [upd_ne _ _ hri]; exact upd_same _ _ _) (by rw [List.getElem?_map, grow_get bs _ (by omega)]; rfl) ?_
      ((conv => whnf); (repeat ((first | with_reducible (first | refine zT rfl ?_ | refine zF rfl ?_ | refine zY rfl ?_) | refine zY (by decide) ?_ | refine zN (by decide) ?_ | with_reducible refine zQ ?_); (conv => whnf))))
      refine aload (upd_same _ _ _) rfl ?_
      ((conv => whnf); (repeat ((first | with_reducible (first | refine zT rfl ?_ | refine zF rfl ?_ | refine zY rfl ?_) | refine zY (by decide) ?_ | refine zN (by decide) ?_ | with_reducible refine zQ ?_); (conv => whnf))))
      refine arem_nonneg (by omega) (by omega) ?_
      rw [show (((bs.length : Nat) : Int) % 8) = ((bs.length % 8 : Nat) : Int) by omega]
      ((conv => whnf); (repeat ((first | with_reducible (first | refine zT rfl ?_ | refine zF rfl ?_ | refine zY rfl ?_) | refine zY (by decide) ?_ | refine zN (by decide) ?_ | with_reducible refine zQ ?_); (conv => whnf))))
      refine afit_i64 (by omega) ?_
      rw [show (7 : Int) - ((bs.length % 8 : Nat) : Int) = ((7 - bs.length % 8 : Nat) : Int) by omega]
      ((conv => whnf); (repeat ((first | with_reducible (first | refine zT rfl ?_ | refine zF rfl ?_ | refine zY rfl ?_) | refine zY (by decide) ?_ | refine zN (by decide) ?_ | with_reducible refine zQ ?_); (conv => whnf))))
      refine ashl_eq (m := ((b.toNat * 2 ^ (7 - bs.length % 8) : Nat) : Int)) (by omega) (shl_bit b (by omega)) ?_
      ((conv => whnf); (repeat ((first | with_reducible (first | refine zT rfl ?_ | refine zF rfl ?_ | refine zY rfl ?_) | refine zY (by decide) ?_ | refine zN (by decide) ?_ | with_reducible refine zQ ?_); (conv => whnf))))
      refine abits_eq (or8 _ _ (bit_lt b (by omega))) ?_
      ((conv => whnf); (repeat ((first | with_reducible (first | refine zT rfl ?_ | refine zF rfl ?_ | refine zY rfl ?_) | refine zY (by decide) ?_ | refine zN (by decide) ?_ | with_reducible refine zQ ?_); (conv => whnf))))
      refine aidx (by omega) (by omega) ?_
      rw [show 0 + (((bs.length : Nat) : Int) / 8).toNat * 1 = bs.length / 8 by omega]
      ((conv => whnf); (repeat ((first | with_reducible (first | refine zT rfl ?_ | refine zF rfl ?_ | refine zY rfl ?_) | refine zY (by decide) ?_ | refine zN (by decide) ?_ | with_reducible refine zQ ?_); (conv => whnf))))
      refine astore (by rw [upd_ne _ _ hri]; exact upd_same _ _ _) (by rw [List.length_map, hgl]; show bs.length / 8 + 1 ≤ _; omega) rfl (splice_set (x := orBit (byteAt bs (bs.length / 8)) b (bs.length % 8)) (by rw [hgl]; omega)) ?_
      rw [← pack_snoc, upd_comm _ _ _ (Ne.symm hri), upd_upd]
      ((conv => whnf); (repeat ((first | with_reducible (first | refine zT rfl ?_ | refine zF rfl ?_ | refine zY rfl ?_) | refine zY (by decide) ?_ | refine zN (by decide) ?_ | with_reducible refine zQ ?_); (conv => whnf))))
      refine aload (upd_same _ _ _) rfl ?_
      ((conv => whnf); (repeat ((first | with_reducible (first | refine zT rfl ?_ | refine zF rfl ?_ | refine zY rfl ?_) | refine zY (by decide) ?_ | refine zN (by decide) ?_ | with_reducible refine zQ ?_); (conv => whnf))))
      refine afit_i64 (by omega) ?_
      ((conv => whnf); (repeat ((first | with_reducible (first | refine zT rfl ?_ | refine zF rfl ?_ | refine zY rfl ?_) | refine zY (by decide) ?_ | refine zN (by decide) ?_ | with_reducible refine zQ ?_); (conv => whnf))))
      refine astore (l := [.ms r 1 0 (grow bs).length, i64v (((bs.length : Nat) : Int) + 1)]) (upd_same _ _ _) (Nat.le_of_ble_eq_true rfl) rfl rfl ?_
      rw [upd_upd]
      ((conv => whnf); (repeat ((first | with_reducible (first | refine zT rfl ?_ | refine zF rfl ?_ | refine zY rfl ?_) | refine zY (by decide) ?_ | refine zN (by decide) ?_ | with_reducible refine zQ ?_); (conv => whnf))))
      refine aret_same ⟨rfl, hid, .inr ⟨by simp, r, hri, hr, ?_⟩⟩
      have e1 : (pack (bs ++ [b])).length = (grow bs).length := by rw [hgl, pack_length, List.length_append]; show (bs.length + 1 + 7) / 8 = _; omega
      rw [e1, List.length_append]
      rfl
end Go.Proofs.Ytgipkpghabelkaa
/-
  Numbers and their bits: plain laws.
-/
namespace Go.Proofs.Ytgipkpghabelkaa
set_option linter.unusedVariables false
set_option linter.unusedSimpArgs false
open Go Go.Am

/-- The bits of a number, the highest first. -/
def numBits (v : Nat) : Nat → List Bool
  | 0 => []
  | n + 1 => v.testBit n :: numBits v n
theorem numBits_length (v n : Nat) : (numBits v n).length = n := by
  induction n with
  | zero => rfl
  | succ n ih => simp [numBits, ih]
theorem testBit_nat (v i : Nat) : (v.testBit i).toNat = v / 2 ^ i % 2 := Nat.toNat_testBit v i

/-- The number that bits are, behind a number. -/
def val (a : Nat) : List Bool → Nat
  | [] => a
  | b :: l => val (2 * a + b.toNat) l
theorem val_append (a : Nat) (l m : List Bool) : val a (l ++ m) = val (val a l) m := by
  induction l generalizing a with
  | nil => rfl
  | cons b l ih => simp [val, ih]
theorem val_eq (a : Nat) (l : List Bool) : val a l = a * 2 ^ l.length + val 0 l := by
  induction l generalizing a with
  | nil => simp [val]
  | cons b l ih =>
    have h1 := ih (2 * a + b.toNat)
    have h2 := ih (2 * 0 + b.toNat)
    simp only [val, List.length_cons]
    rw [h1, h2, Nat.pow_succ, Nat.add_mul, Nat.add_mul]
    have e : 2 * a * 2 ^ l.length = a * (2 ^ l.length * 2) := by rw [Nat.mul_comm 2 a, Nat.mul_assoc, Nat.mul_comm 2]
    omega
theorem val_lt (l : List Bool) : val 0 l < 2 ^ l.length := by
  induction l with
  | nil => simp [val]
  | cons b l ih =>
    simp only [val, List.length_cons]
    rw [val_eq, Nat.pow_succ]
    have : b.toNat ≤ 1 := by cases b <;> decide
    have h2 : (2 * 0 + b.toNat) * 2 ^ l.length ≤ 1 * 2 ^ l.length := Nat.mul_le_mul (by omega) (Nat.le_refl _)
    omega
theorem val_numBits (v n : Nat) : val 0 (numBits v n) = v % 2 ^ n := by
  induction n with
  | zero => simp [numBits, val, Nat.mod_one]
  | succ n ih =>
    simp only [numBits, val]
    rw [val_eq, ih, numBits_length, testBit_nat]
    have h := Nat.mod_pow_succ (b := 2) (x := v) (k := n)
    rw [h, Nat.mul_zero, Nat.zero_add, Nat.mul_comm (v / 2 ^ n % 2), Nat.add_comm]
theorem numBits_mod (v n m : Nat) (h : n ≤ m) : numBits (v % 2 ^ m) n = numBits v n := by
  induction n with
  | zero => rfl
  | succ n ih =>
    simp only [numBits]
    rw [ih (by omega), Nat.testBit_mod_two_pow, decide_eq_true (show n < m by omega), Bool.true_and]
theorem numBits_parts (v n m : Nat) : numBits v (n + m) = numBits (v / 2 ^ m) n ++ numBits v m := by
  induction n with
  | zero => simp [numBits]
  | succ n ih =>
    rw [show n + 1 + m = (n + m) + 1 by omega]
    simp only [numBits, List.cons_append]
    rw [ih, Nat.testBit_div_two_pow, Nat.add_comm n m]

/-- What a writer does with a number: its bits, and how it answers. -/
def putBad (v : Nat) (n : Int) : Bool := decide (n < 0) || decide (n > 64) || decide (v / 2 ^ n.toNat ≠ 0)
def putCode (k : Nat) (v : Nat) (n : Int) : Int := if putBad v n = true then 1 else if n > 65536 - (k : Int) then 5 else 0
def putBits (bs : List Bool) (v : Nat) (n : Int) : List Bool := if putCode bs.length v n = 0 then bs ++ numBits v n.toNat else bs
theorem putCode_ok {k v : Nat} {n : Int} (h : putCode k v n = 0) : 0 ≤ n ∧ n ≤ 64 ∧ v / 2 ^ n.toNat = 0 ∧ n ≤ 65536 - (k : Int) := by
  unfold putCode at h
  by_cases hb : putBad v n = true
  · rw [if_pos hb] at h; cases h
  · rw [if_neg hb] at h
    split at h
    · cases h
    · simp [putBad] at hb; refine ⟨by omega, by omega, by simpa using hb.2, by omega⟩

theorem putBits_le (bs : List Bool) (v : Nat) (n : Int) (h : bs.length ≤ 65536) : (putBits bs v n).length ≤ 65536 := by
  by_cases hc : putCode bs.length v n = 0
  · unfold putBits
    rw [if_pos hc, List.length_append, numBits_length]
    have := putCode_ok hc
    omega
  · unfold putBits
    rw [if_neg hc]; exact h
theorem putBits_no {bs : List Bool} {v : Nat} {n : Int} (h : putCode bs.length v n ≠ 0) : putBits bs v n = bs := if_neg h
theorem putBits_ok {bs : List Bool} {v : Nat} {n : Int} (h : putCode bs.length v n = 0) : putBits bs v n = bs ++ numBits v n.toNat := if_pos h
/-- The bits of bytes. -/
def byteBits (x : UInt8) : List Bool := numBits x.toNat 8
def unpack (l : List UInt8) : List Bool := l.flatMap byteBits
theorem byteBits_length (x : UInt8) : (byteBits x).length = 8 := numBits_length _ _
theorem unpack_length (l : List UInt8) : (unpack l).length = 8 * l.length := by
  induction l with
  | nil => rfl
  | cons x l ih => unfold unpack at *; rw [List.flatMap_cons, List.length_append, ih, byteBits_length, List.length_cons]; omega
theorem unpack_cons (x : UInt8) (l : List UInt8) : unpack (x :: l) = byteBits x ++ unpack l := rfl
theorem unpack_append (a b : List UInt8) : unpack (a ++ b) = unpack a ++ unpack b := by unfold unpack; exact List.flatMap_append
theorem unpack_drop (l : List UInt8) (k : Nat) : (unpack l).drop (8 * k) = unpack (l.drop k) := by
  induction l generalizing k with
  | nil => simp [unpack]
  | cons x l ih =>
    cases k with
    | zero => simp
    | succ k =>
      rw [unpack_cons, List.drop_append, byteBits_length, List.drop_eq_nil_of_le (by rw [byteBits_length]; omega), List.nil_append, show 8 * (k + 1) - 8 = 8 * k by omega, ih, List.drop_succ_cons]
theorem byteBits_all : ∀ x : UInt8, byteBits x = [decide (x.toNat / 128 % 2 = 1), decide (x.toNat / 64 % 2 = 1), decide (x.toNat / 32 % 2 = 1), decide (x.toNat / 16 % 2 = 1), decide (x.toNat / 8 % 2 = 1), decide (x.toNat / 4 % 2 = 1), decide (x.toNat / 2 % 2 = 1), decide (x.toNat / 1 % 2 = 1)] := by
  have h : ∀ n : Fin 256, numBits n.val 8 = [decide (n.val / 128 % 2 = 1), decide (n.val / 64 % 2 = 1), decide (n.val / 32 % 2 = 1), decide (n.val / 16 % 2 = 1), decide (n.val / 8 % 2 = 1), decide (n.val / 4 % 2 = 1), decide (n.val / 2 % 2 = 1), decide (n.val / 1 % 2 = 1)] := by decide +kernel
  intro x
  exact h ⟨x.toNat, x.toNat_lt⟩
theorem byte8_bits : ∀ x : UInt8, byte8 (x.toNat.testBit 7) (x.toNat.testBit 6) (x.toNat.testBit 5) (x.toNat.testBit 4) (x.toNat.testBit 3) (x.toNat.testBit 2) (x.toNat.testBit 1) (x.toNat.testBit 0) = x := by
  have h : ∀ n : Fin 256, byte8 (n.val.testBit 7) (n.val.testBit 6) (n.val.testBit 5) (n.val.testBit 4) (n.val.testBit 3) (n.val.testBit 2) (n.val.testBit 1) (n.val.testBit 0) = UInt8.ofNat n.val := by decide +kernel
  intro x
  have := h ⟨x.toNat, x.toNat_lt⟩
  simpa using this
theorem bits_byte8 : ∀ a b c d e f g h : Bool, byteBits (byte8 a b c d e f g h) = [a, b, c, d, e, f, g, h] := by decide +kernel

theorem bitD_get {l : List Bool} {i : Nat} (h : i < l.length) : bitD l i = l[i] := by unfold bitD; rw [List.getElem?_eq_getElem h]; rfl
theorem bitD_append_left {a b : List Bool} {i : Nat} (h : i < a.length) : bitD (a ++ b) i = bitD a i := by unfold bitD; rw [List.getElem?_append_left h]
theorem bitD_append_right {a b : List Bool} {i : Nat} (h : a.length ≤ i) : bitD (a ++ b) i = bitD b (i - a.length) := by unfold bitD; rw [List.getElem?_append_right h]
theorem byteAt_unpack (x : UInt8) (l : List Bool) : byteAt (byteBits x ++ l) 0 = x := by
  unfold byteAt
  have e := byte8_bits x
  have key : ∀ j, j < 8 → bitD (byteBits x ++ l) j = x.toNat.testBit (7 - j) := by
    intro j hj
    rw [bitD_append_left (by rw [byteBits_length]; exact hj)]
    unfold bitD byteBits
    match j, hj with
    | 0, _ => rfl
    | 1, _ => rfl
    | 2, _ => rfl
    | 3, _ => rfl
    | 4, _ => rfl
    | 5, _ => rfl
    | 6, _ => rfl
    | 7, _ => rfl
  simp only [Nat.mul_zero, Nat.zero_add]
  rw [key 0 (by omega), key 1 (by omega), key 2 (by omega), key 3 (by omega), key 4 (by omega), key 5 (by omega), key 6 (by omega), key 7 (by omega)]
  exact e
theorem byteAt_shift (a : List Bool) (h : a.length = 8) (l : List Bool) (i : Nat) : byteAt (a ++ l) (i + 1) = byteAt l i := by
  have key : ∀ j, bitD (a ++ l) (8 * (i + 1) + j) = bitD l (8 * i + j) := by
    intro j
    rw [bitD_append_right (by omega), h]
    congr 1; omega
  have k0 := key 0
  simp only [Nat.add_zero] at k0
  unfold byteAt
  rw [k0, key 1, key 2, key 3, key 4, key 5, key 6, key 7]
theorem pack_cons (a : List Bool) (h : a.length = 8) (l : List Bool) : pack (a ++ l) = byteAt (a ++ l) 0 :: pack l := by
  unfold pack
  rw [List.length_append, h, show (8 + l.length + 7) / 8 = (l.length + 7) / 8 + 1 by omega, List.range_succ_eq_map, List.map_cons, List.map_map]
  congr 1
  apply List.map_congr_left
  intro i _
  exact byteAt_shift a h l i
theorem pack_nil : pack [] = [] := rfl
theorem pack_unpack (l : List UInt8) : pack (unpack l) = l := by
  induction l with
  | nil => rfl
  | cons x l ih => rw [unpack_cons, pack_cons _ (byteBits_length x), ih, byteAt_unpack]

theorem first_byte (l : List Bool) : byteBits (byteAt l 0) = l.take 8 ++ List.replicate (8 - l.length) false := by
  unfold byteAt
  rw [bits_byte8]
  match l with
  | [] => rfl
  | [_] => rfl
  | [_, _] => rfl
  | [_, _, _] => rfl
  | [_, _, _, _] => rfl
  | [_, _, _, _, _] => rfl
  | [_, _, _, _, _, _] => rfl
  | [_, _, _, _, _, _, _] => rfl
  | a :: b :: c :: d :: e :: f :: g :: h :: t =>
    rw [show 8 - (a :: b :: c :: d :: e :: f :: g :: h :: t).length = 0 by simp]
    rfl
/-- Bits, filled up to whole bytes. -/
theorem unpack_pack (l : List Bool) : unpack (pack l) = l ++ List.replicate (8 * ((l.length + 7) / 8) - l.length) false := by
  have H : ∀ n, ∀ l : List Bool, l.length = n → unpack (pack l) = l ++ List.replicate (8 * ((l.length + 7) / 8) - l.length) false := by
    intro n
    induction n using Nat.strongRecOn with
    | _ n ih =>
      intro l hl
      by_cases h0 : l = []
      · subst h0; rfl
      · have h1 : 0 < l.length := List.length_pos_iff.2 h0
        by_cases h8 : 8 ≤ l.length
        · have e : l = l.take 8 ++ l.drop 8 := (List.take_append_drop 8 l).symm
          have hp : pack l = byteAt l 0 :: pack (l.drop 8) := by
            have := pack_cons (l.take 8) (by rw [List.length_take]; omega) (l.drop 8)
            rw [← e] at this; exact this
          rw [hp, unpack_cons, first_byte, ih (n - 8) (by omega) (l.drop 8) (by rw [List.length_drop]; omega), List.length_drop, show 8 - l.length = 0 by omega]
          rw [List.replicate_zero, List.append_nil, ← List.append_assoc, List.take_append_drop]
          congr 2
          omega
        · have hp : pack l = [byteAt l 0] := by
            unfold pack
            rw [show (l.length + 7) / 8 = 1 by omega]; rfl
          rw [hp, unpack_cons, first_byte, List.take_of_length_le (by omega)]
          unfold unpack
          rw [List.flatMap_nil, List.append_nil]
          congr 2
          omega
  exact H _ l rfl

/-- What a reader answers. -/
def getCode (len k : Nat) (n : Int) : Int := if n < 0 ∨ n > 64 then 1 else if n > (len : Int) - k then 8 else 0
def getVal (l : List Bool) (k : Nat) (n : Int) : Nat := if getCode l.length k n = 0 then val 0 ((l.drop k).take n.toNat) else 0
def getAt (len k : Nat) (n : Int) : Nat := if getCode len k n = 0 then k + n.toNat else k
theorem getCode_ok {len k : Nat} {n : Int} (h : getCode len k n = 0) : 0 ≤ n ∧ n ≤ 64 ∧ n ≤ (len : Int) - k := by
  unfold getCode at h
  split at h
  · cases h
  · split at h
    · cases h
    · omega
theorem getAt_le {len k : Nat} {n : Int} (h : k ≤ len) : getAt len k n ≤ len := by
  unfold getAt; split
  · rename_i hc; have := getCode_ok hc; omega
  · exact h

theorem unpack_get : ∀ (l : List UInt8) (i : Nat) (x : UInt8), l[i / 8]? = some x → (unpack l)[i]? = some (x.toNat.testBit (7 - i % 8))
  | [], i, x, h => by simp at h
  | y :: l, i, x, h => by
    rw [unpack_cons]
    by_cases h8 : i < 8
    · rw [List.getElem?_append_left (by rw [byteBits_length]; exact h8)]
      rw [show i / 8 = 0 by omega] at h
      simp at h; subst h
      unfold byteBits
      match i, h8 with
      | 0, _ => rfl
      | 1, _ => rfl
      | 2, _ => rfl
      | 3, _ => rfl
      | 4, _ => rfl
      | 5, _ => rfl
      | 6, _ => rfl
      | 7, _ => rfl
    · rw [List.getElem?_append_right (by rw [byteBits_length]; omega), byteBits_length]
      have e1 : i / 8 = (i - 8) / 8 + 1 := by omega
      rw [e1, List.getElem?_cons_succ] at h
      rw [unpack_get l (i - 8) x h, show (i - 8) % 8 = i % 8 by omega]

theorem val_zero (l : List Bool) : val 0 l = 0 ↔ ∀ b ∈ l, b = false := by
  induction l with
  | nil => simp [val]
  | cons b l ih =>
    simp only [val]
    rw [val_eq]
    cases b with
    | false => simp [ih]
    | true =>
      have : 0 < 2 ^ l.length := Nat.pos_of_ne_zero (by simp)
      simp
theorem val_snoc (a : Nat) (l : List Bool) (b : Bool) : val a (l ++ [b]) = 2 * val a l + b.toNat := by rw [val_append]; rfl
/-- How many bits are put aside up to the next whole byte. -/
def pad (k : Nat) : Nat := (8 - k % 8) % 8
/-- What is left, in whole bytes. -/
def restOk (l : List Bool) (k : Nat) : Bool := decide (val 0 ((l.drop k).take (pad k)) = 0)
end Go.Proofs.Ytgipkpghabelkaa
/-
  What a writer does.
-/
namespace Go.Proofs.Ytgipkpghabelkaa
set_option linter.unusedVariables false
set_option linter.unusedSimpArgs false
open Go Go.Am

/-- A copy of a row that goes on being stored into. -/
theorem CloneV (r : Nat) (bs : List UInt8) (σ : AHeap) (hs : σ r = some (.cells (bs.map byteV))) (hl : bs.length ≤ 140737488355328) : ACalls Try.prog i_slices_Clone_byte_byte [.ms r 1 0 bs.length] σ fun v σ' => ∃ tk, Owned σ σ' tk ∧ v = sl tk bs := by
  refine k_slices_Clone_byte_byte rfl ?_
  ((conv => whnf); (repeat ((first | with_reducible (first | refine zT rfl ?_ | refine zF rfl ?_ | refine zY rfl ?_) | refine zY (by decide) ?_ | refine zN (by decide) ?_ | with_reducible refine zQ ?_); (conv => whnf))))
  refine ⟨⟨_, hs, by simp, ?_⟩⟩
  rw [List.drop_zero, List.take_of_length_le (by simp)]
  refine aapp_full (by simp; omega) fun t' ht' => ?_
  ((conv => whnf); (repeat ((first | with_reducible (first | refine zT rfl ?_ | refine zF rfl ?_ | refine zY rfl ?_) | refine zY (by decide) ?_ | refine zN (by decide) ?_ | with_reducible refine zQ ?_); (conv => whnf))))
  exact aret_same ⟨_, .tip ht', rfl⟩

theorem wNew (σ : AHeap) : ACalls Try.prog i_bits_New [] σ fun v σ' => ∃ id, v = .ptr id 0 ∧ Wr σ' id [] σ := by
  refine k_bits_New rfl ?_
  ((conv => whnf); (repeat ((first | with_reducible (first | refine zT rfl ?_ | refine zF rfl ?_ | refine zY rfl ?_) | refine zY (by decide) ?_ | refine zN (by decide) ?_ | with_reducible refine zQ ?_); (conv => whnf))))
  refine anew rfl fun id hid => ?_
  ((conv => whnf); (repeat ((first | with_reducible (first | refine zT rfl ?_ | refine zF rfl ?_ | refine zY rfl ?_) | refine zY (by decide) ?_ | refine zN (by decide) ?_ | with_reducible refine zQ ?_); (conv => whnf))))
  exact aret_same ⟨id, rfl, hid, .inl ⟨rfl, rfl⟩⟩

theorem wBytesO (id : Nat) (bs : List Bool) (σ σb : AHeap) (h : Wr σ id bs σb) (hl : bs.length ≤ 70000) : ACalls Try.prog i_bits_Writer_Bytes [.ptr id 0] σ fun v σ' => ∃ tk, Owned σ σ' tk ∧ v = sl tk (pack bs) := by
  refine k_bits_Writer_Bytes rfl ?_
  have hpl := pack_length bs
  obtain ⟨hid, h⟩ := h
  rcases h with ⟨hnil, rfl⟩ | ⟨hne, r, hri, hr, rfl⟩
  · ((conv => whnf); (repeat ((first | with_reducible (first | refine zT rfl ?_ | refine zF rfl ?_ | refine zY rfl ?_) | refine zY (by decide) ?_ | refine zN (by decide) ?_ | with_reducible refine zQ ?_); (conv => whnf))))
    (repeat ((first | refine aload (by (repeat (first | with_reducible exact upd_same _ _ _ | assumption | rw [upd_ne _ _ (by first | assumption | (apply Ne.symm; assumption))]))) rfl ?_ | refine afit_i64 (by omega) ?_ | refine arem_nonneg (by omega) (by omega) ?_ | refine adiv_i64 (by omega) (by omega) ?_ | refine abr_yes (by omega) ?_ | refine abr_no (by omega) ?_ | refine amin ?_ | refine amax ?_ | refine afit_u64 (by omega) ?_ | refine afit_u8 (by omega) ?_ | rw [List.length_map]); ((conv => whnf); (repeat ((first | with_reducible (first | refine zT rfl ?_ | refine zF rfl ?_ | refine zY rfl ?_) | refine zY (by decide) ?_ | refine zN (by decide) ?_ | with_reducible refine zQ ?_); (conv => whnf))))))
    refine acall (Clone [] _ _ (by simp)) ?_
    rintro v σ' ⟨tk, ho, rfl⟩
    refine ⟨?_, ho.ext⟩
    ((conv => whnf); (repeat ((first | with_reducible (first | refine zT rfl ?_ | refine zF rfl ?_ | refine zY rfl ?_) | refine zY (by decide) ?_ | refine zN (by decide) ?_ | with_reducible refine zQ ?_); (conv => whnf))))
    exact aret_same ⟨tk, ho, by rw [hnil]; rfl⟩
  · ((conv => whnf); (repeat ((first | with_reducible (first | refine zT rfl ?_ | refine zF rfl ?_ | refine zY rfl ?_) | refine zY (by decide) ?_ | refine zN (by decide) ?_ | with_reducible refine zQ ?_); (conv => whnf))))
    (repeat ((first | refine aload (by (repeat (first | with_reducible exact upd_same _ _ _ | assumption | rw [upd_ne _ _ (by first | assumption | (apply Ne.symm; assumption))]))) rfl ?_ | refine afit_i64 (by omega) ?_ | refine arem_nonneg (by omega) (by omega) ?_ | refine adiv_i64 (by omega) (by omega) ?_ | refine abr_yes (by omega) ?_ | refine abr_no (by omega) ?_ | refine amin ?_ | refine amax ?_ | refine afit_u64 (by omega) ?_ | refine afit_u8 (by omega) ?_ | rw [List.length_map]); ((conv => whnf); (repeat ((first | with_reducible (first | refine zT rfl ?_ | refine zF rfl ?_ | refine zY rfl ?_) | refine zY (by decide) ?_ | refine zN (by decide) ?_ | with_reducible refine zQ ?_); (conv => whnf))))))
    refine acall (CloneV r (pack bs) _ (by (repeat (first | with_reducible exact upd_same _ _ _ | assumption | rw [upd_ne _ _ (by first | assumption | (apply Ne.symm; assumption))]))) (by omega)) ?_
    rintro v σ' ⟨tk, ho, rfl⟩
    refine ⟨?_, ho.ext⟩
    ((conv => whnf); (repeat ((first | with_reducible (first | refine zT rfl ?_ | refine zF rfl ?_ | refine zY rfl ?_) | refine zY (by decide) ?_ | refine zN (by decide) ?_ | with_reducible refine zQ ?_); (conv => whnf))))
    exact aret_same ⟨tk, ho, rfl⟩
theorem wBytes (id : Nat) (bs : List Bool) (σ σb : AHeap) (h : Wr σ id bs σb) (hl : bs.length ≤ 70000) : ACalls Try.prog i_bits_Writer_Bytes [.ptr id 0] σ fun v σ' => v = sl .none (pack bs) ∧ σ' = σ := by
  refine acall_less (wBytesO id bs σ σb h hl) ?_
  rintro v σ' ⟨tk, ho, rfl⟩
  exact ⟨_, _, VLe.slice _ _ _, ho.sub, rfl, rfl⟩
theorem wBytesNil (σ : AHeap) : ACalls Try.prog i_bits_Writer_Bytes [.v (.pointer none)] σ fun v σ' => v = sl .none [] ∧ σ' = σ := by
  refine k_bits_Writer_Bytes rfl ?_
  ((conv => whnf); (repeat ((first | with_reducible (first | refine zT rfl ?_ | refine zF rfl ?_ | refine zY rfl ?_) | refine zY (by decide) ?_ | refine zN (by decide) ?_ | with_reducible refine zQ ?_); (conv => whnf))))
  exact aret (VLe.slice _ _ _) (Sub.refl _) ⟨rfl, rfl⟩
end Go.Proofs.Ytgipkpghabelkaa
/-
  A writer's number put.
-/
namespace Go.Proofs.Ytgipkpghabelkaa
set_option linter.unusedVariables false
set_option linter.unusedSimpArgs false
open Go Go.Am

theorem wPutNil (v : Nat) (n : Int) (σ : AHeap) : ACalls Try.prog i_bits_Writer_Put [.v (.pointer none), u64v v, i64v n] σ fun x σ' => x = i64v 6 ∧ σ' = σ := by
  refine k_bits_Writer_Put rfl ?_
  ((conv => whnf); (repeat ((first | with_reducible (first | refine zT rfl ?_ | refine zF rfl ?_ | refine zY rfl ?_) | refine zY (by decide) ?_ | refine zN (by decide) ?_ | with_reducible refine zQ ?_); (conv => whnf))))
  refine ascope' (α := Unit) (fun _ => []) (fun _ => σ) (fun _ => 0) (fun _ => False) (fun _ => 0) ?_ (fun _ h => h.elim)
  ((conv => whnf); (repeat ((first | with_reducible (first | refine zT rfl ?_ | refine zF rfl ?_ | refine zY rfl ?_) | refine zY (by decide) ?_ | refine zN (by decide) ?_ | with_reducible refine zQ ?_); (conv => whnf))))
  intro hl
  ((conv => whnf); (repeat ((first | with_reducible (first | refine zT rfl ?_ | refine zF rfl ?_ | refine zY rfl ?_) | refine zY (by decide) ?_ | refine zN (by decide) ?_ | with_reducible refine zQ ?_); (conv => whnf))))
  exact aret_same ⟨rfl, rfl⟩

theorem Wr.cell {σ σb : AHeap} {id : Nat} {bs : List Bool} (h : Wr σ id bs σb) : ∃ c, σ id = some (.cells [c, i64v bs.length]) := by
  obtain ⟨hid, h⟩ := h
  rcases h with ⟨hnil, rfl⟩ | ⟨hne, r, hri, hr, rfl⟩
  · exact ⟨_, upd_same _ _ _⟩
  · exact ⟨_, upd_same _ _ _⟩

theorem bit_u8 (v i : Nat) : IntKind.u8.wrap ((v / 2 ^ i % 2 : Nat) : Int) = ((v.testBit i).toNat : Int) := by
  rw [testBit_nat]; exact wrap_u8 (by omega) (by omega)
theorem and1_u64 (x : Nat) (hx : x < 18446744073709551616) : bitsOp .and .u64 (x : Int) 1 = ((x % 2 : Nat) : Int) := by
  have h1 : BitVec.ofInt 64 (x : Int) = BitVec.ofNat 64 x := by simp
  show IntKind.u64.wrap ((BitVec.ofInt 64 (x : Int) &&& BitVec.ofInt 64 1).toNat) = _
  rw [h1]
  have : (BitVec.ofNat 64 x &&& BitVec.ofInt 64 1).toNat = x % 2 := by
    rw [BitVec.toNat_and, BitVec.toNat_ofNat, Nat.mod_eq_of_lt hx]
    exact Nat.and_one_is_mod x
  rw [this]; exact wrap_u64 (by omega) (by omega)

theorem putCode_bad {k v : Nat} {n : Int} (h : putBad v n = true) : putCode k v n = 1 := if_pos h
theorem putBits_bad {bs : List Bool} {v : Nat} {n : Int} (h : putBad v n = true) : putBits bs v n = bs := putBits_no (by rw [putCode_bad h]; decide)
theorem putCode_full {k v : Nat} {n : Int} (h : putBad v n = false) (hn : n > 65536 - (k : Int)) : putCode k v n = 5 := by unfold putCode; rw [h]; simp; omega
theorem putCode_fine {k v : Nat} {n : Int} (h : putBad v n = false) (hn : ¬ n > 65536 - (k : Int)) : putCode k v n = 0 := by unfold putCode; rw [h]; simp; omega

set_option maxRecDepth 10000 in
theorem wPut (id : Nat) (bs : List Bool) (v : Nat) (n : Int) (σ σb : AHeap) (h : Wr σ id bs σb) (hv : v < 18446744073709551616) (hl : bs.length ≤ 65536) :
    ACalls Try.prog i_bits_Writer_Put [.ptr id 0, u64v v, i64v n] σ fun x σ' => x = i64v (putCode bs.length v n) ∧ Wr σ' id (putBits bs v n) σb := by
  obtain ⟨c, hcell⟩ := h.cell
  refine k_bits_Writer_Put rfl ?_
  ((conv => whnf); (repeat ((first | with_reducible (first | refine zT rfl ?_ | refine zF rfl ?_ | refine zY rfl ?_) | refine zY (by decide) ?_ | refine zN (by decide) ?_ | with_reducible refine zQ ?_); (conv => whnf))))
  refine ascope' (α := Nat × List Bool × AHeap) (fun x => [(s7, i64v x.1)]) (fun x => x.2.2) (fun _ => 0) (fun x => putCode bs.length v n = 0 ∧ Wr x.2.2 id (bs ++ x.2.1) σb ∧ x.2.1 ++ numBits v x.1 = numBits v n.toNat) (fun x => x.1) ?_ ?_
  · ((conv => whnf); (repeat ((first | with_reducible (first | refine zT rfl ?_ | refine zF rfl ?_ | refine zY rfl ?_) | refine zY (by decide) ?_ | refine zN (by decide) ?_ | with_reducible refine zQ ?_); (conv => whnf))))
    intro hlab
    have fin (hp : putBad v n = false) (hle : n ≤ 64) (h0 : 0 ≤ n) (hroom : ¬ n > 65536 - (bs.length : Int)) : putCode bs.length v n = 0 ∧ Wr σ id (bs ++ []) σb ∧ [] ++ numBits v n.toNat = numBits v n.toNat := by
      refine ⟨putCode_fine hp hroom, ?_, rfl⟩
      rw [List.append_nil]; exact h
    by_cases h1 : n < 0
    · have hp : putBad v n = true := by simp [putBad, h1]
      ((conv => whnf); (repeat ((first | with_reducible (first | refine zT rfl ?_ | refine zF rfl ?_ | refine zY rfl ?_) | refine zY (by decide) ?_ | refine zN (by decide) ?_ | with_reducible refine zQ ?_); (conv => whnf))))
      (repeat ((first | refine aload (by (repeat (first | with_reducible exact upd_same _ _ _ | assumption | rw [upd_ne _ _ (by first | assumption | (apply Ne.symm; assumption))]))) rfl ?_ | refine afit_i64 (by omega) ?_ | refine arem_nonneg (by omega) (by omega) ?_ | refine adiv_i64 (by omega) (by omega) ?_ | refine abr_yes (by omega) ?_ | refine abr_no (by omega) ?_ | refine amin ?_ | refine amax ?_ | refine afit_u64 (by omega) ?_ | refine afit_u8 (by omega) ?_ | rw [List.length_map]); ((conv => whnf); (repeat ((first | with_reducible (first | refine zT rfl ?_ | refine zF rfl ?_ | refine zY rfl ?_) | refine zY (by decide) ?_ | refine zN (by decide) ?_ | with_reducible refine zQ ?_); (conv => whnf))))))
      exact aret_same ⟨by rw [putCode_bad hp], by rw [putBits_bad hp]; exact h⟩
    · by_cases h2 : n > 64
      · have hp : putBad v n = true := by simp [putBad, h2]
        ((conv => whnf); (repeat ((first | with_reducible (first | refine zT rfl ?_ | refine zF rfl ?_ | refine zY rfl ?_) | refine zY (by decide) ?_ | refine zN (by decide) ?_ | with_reducible refine zQ ?_); (conv => whnf))))
        (repeat ((first | refine aload (by (repeat (first | with_reducible exact upd_same _ _ _ | assumption | rw [upd_ne _ _ (by first | assumption | (apply Ne.symm; assumption))]))) rfl ?_ | refine afit_i64 (by omega) ?_ | refine arem_nonneg (by omega) (by omega) ?_ | refine adiv_i64 (by omega) (by omega) ?_ | refine abr_yes (by omega) ?_ | refine abr_no (by omega) ?_ | refine amin ?_ | refine amax ?_ | refine afit_u64 (by omega) ?_ | refine afit_u8 (by omega) ?_ | rw [List.length_map]); ((conv => whnf); (repeat ((first | with_reducible (first | refine zT rfl ?_ | refine zF rfl ?_ | refine zY rfl ?_) | refine zY (by decide) ?_ | refine zN (by decide) ?_ | with_reducible refine zQ ?_); (conv => whnf))))))
        exact aret_same ⟨by rw [putCode_bad hp], by rw [putBits_bad hp]; exact h⟩
      · obtain ⟨k, rfl⟩ : ∃ k : Nat, n = k := ⟨n.toNat, by omega⟩
        by_cases h3 : k = 64
        · have hp : putBad v ((k : Nat) : Int) = false := by
            unfold putBad
            rw [decide_eq_false h1, decide_eq_false h2, decide_eq_false (by subst h3; simp; omega)]; rfl
          by_cases h4 : (k : Int) > 65536 - (bs.length : Int)
          · ((conv => whnf); (repeat ((first | with_reducible (first | refine zT rfl ?_ | refine zF rfl ?_ | refine zY rfl ?_) | refine zY (by decide) ?_ | refine zN (by decide) ?_ | with_reducible refine zQ ?_); (conv => whnf))))
            (repeat ((first | refine aload (by (repeat (first | with_reducible exact upd_same _ _ _ | assumption | rw [upd_ne _ _ (by first | assumption | (apply Ne.symm; assumption))]))) rfl ?_ | refine afit_i64 (by omega) ?_ | refine arem_nonneg (by omega) (by omega) ?_ | refine adiv_i64 (by omega) (by omega) ?_ | refine abr_yes (by omega) ?_ | refine abr_no (by omega) ?_ | refine amin ?_ | refine amax ?_ | refine afit_u64 (by omega) ?_ | refine afit_u8 (by omega) ?_ | rw [List.length_map]); ((conv => whnf); (repeat ((first | with_reducible (first | refine zT rfl ?_ | refine zF rfl ?_ | refine zY rfl ?_) | refine zY (by decide) ?_ | refine zN (by decide) ?_ | with_reducible refine zQ ?_); (conv => whnf))))))
            exact aret_same ⟨by rw [putCode_full hp h4], by rw [putBits_no (by rw [putCode_full hp h4]; decide)]; exact h⟩
          · ((conv => whnf); (repeat ((first | with_reducible (first | refine zT rfl ?_ | refine zF rfl ?_ | refine zY rfl ?_) | refine zY (by decide) ?_ | refine zN (by decide) ?_ | with_reducible refine zQ ?_); (conv => whnf))))
            (repeat ((first | refine aload (by (repeat (first | with_reducible exact upd_same _ _ _ | assumption | rw [upd_ne _ _ (by first | assumption | (apply Ne.symm; assumption))]))) rfl ?_ | refine afit_i64 (by omega) ?_ | refine arem_nonneg (by omega) (by omega) ?_ | refine adiv_i64 (by omega) (by omega) ?_ | refine abr_yes (by omega) ?_ | refine abr_no (by omega) ?_ | refine amin ?_ | refine amax ?_ | refine afit_u64 (by omega) ?_ | refine afit_u8 (by omega) ?_ | rw [List.length_map]); ((conv => whnf); (repeat ((first | with_reducible (first | refine zT rfl ?_ | refine zF rfl ?_ | refine zY rfl ?_) | refine zY (by decide) ?_ | refine zN (by decide) ?_ | with_reducible refine zQ ?_); (conv => whnf))))))
            refine hlab _ (fun _ _ _ h => h) _ _ _ _ ⟨(k, [], σ), rfl, fin hp (by omega) (by omega) h4, rfl, Sub.refl _, ?_⟩
            ((conv => whnf); (repeat ((first | with_reducible (first | refine zT rfl ?_ | refine zF rfl ?_ | refine zY rfl ?_) | refine zY (by decide) ?_ | refine zN (by decide) ?_ | with_reducible refine zQ ?_); (conv => whnf))))
            (repeat' first | with_reducible exact EnvLe.refl _ | (refine EnvLe.node ?_ (by first | exact Or.inl rfl | exact Or.inr (Or.inl rfl) | exact Or.inr (Or.inr ⟨nofun, VLe.slice _ _ _⟩)) ?_))
        · by_cases h5 : v / 2 ^ k = 0
          · have hp : putBad v ((k : Nat) : Int) = false := by
              unfold putBad
              rw [decide_eq_false h1, decide_eq_false h2, decide_eq_false (by simpa using h5)]; rfl
            by_cases h4 : (k : Int) > 65536 - (bs.length : Int)
            · ((conv => whnf); (repeat ((first | with_reducible (first | refine zT rfl ?_ | refine zF rfl ?_ | refine zY rfl ?_) | refine zY (by decide) ?_ | refine zN (by decide) ?_ | with_reducible refine zQ ?_); (conv => whnf))))
              (repeat ((first | refine aload (by (repeat (first | with_reducible exact upd_same _ _ _ | assumption | rw [upd_ne _ _ (by first | assumption | (apply Ne.symm; assumption))]))) rfl ?_ | refine afit_i64 (by omega) ?_ | refine arem_nonneg (by omega) (by omega) ?_ | refine adiv_i64 (by omega) (by omega) ?_ | refine abr_yes (by omega) ?_ | refine abr_no (by omega) ?_ | refine amin ?_ | refine amax ?_ | refine afit_u64 (by omega) ?_ | refine afit_u8 (by omega) ?_ | rw [List.length_map]); ((conv => whnf); (repeat ((first | with_reducible (first | refine zT rfl ?_ | refine zF rfl ?_ | refine zY rfl ?_) | refine zY (by decide) ?_ | refine zN (by decide) ?_ | with_reducible refine zQ ?_); (conv => whnf))))))
              refine ashr_nat (by show k ≤ 64; omega) ?_
              ((conv => whnf); (repeat ((first | with_reducible (first | refine zT rfl ?_ | refine zF rfl ?_ | refine zY rfl ?_) | refine zY (by decide) ?_ | refine zN (by decide) ?_ | with_reducible refine zQ ?_); (conv => whnf))))
              (repeat ((first | refine aload (by (repeat (first | with_reducible exact upd_same _ _ _ | assumption | rw [upd_ne _ _ (by first | assumption | (apply Ne.symm; assumption))]))) rfl ?_ | refine afit_i64 (by omega) ?_ | refine arem_nonneg (by omega) (by omega) ?_ | refine adiv_i64 (by omega) (by omega) ?_ | refine abr_yes (by omega) ?_ | refine abr_no (by omega) ?_ | refine amin ?_ | refine amax ?_ | refine afit_u64 (by omega) ?_ | refine afit_u8 (by omega) ?_ | rw [List.length_map]); ((conv => whnf); (repeat ((first | with_reducible (first | refine zT rfl ?_ | refine zF rfl ?_ | refine zY rfl ?_) | refine zY (by decide) ?_ | refine zN (by decide) ?_ | with_reducible refine zQ ?_); (conv => whnf))))))
              exact aret_same ⟨by rw [putCode_full hp h4], by rw [putBits_no (by rw [putCode_full hp h4]; decide)]; exact h⟩
            · ((conv => whnf); (repeat ((first | with_reducible (first | refine zT rfl ?_ | refine zF rfl ?_ | refine zY rfl ?_) | refine zY (by decide) ?_ | refine zN (by decide) ?_ | with_reducible refine zQ ?_); (conv => whnf))))
              (repeat ((first | refine aload (by (repeat (first | with_reducible exact upd_same _ _ _ | assumption | rw [upd_ne _ _ (by first | assumption | (apply Ne.symm; assumption))]))) rfl ?_ | refine afit_i64 (by omega) ?_ | refine arem_nonneg (by omega) (by omega) ?_ | refine adiv_i64 (by omega) (by omega) ?_ | refine abr_yes (by omega) ?_ | refine abr_no (by omega) ?_ | refine amin ?_ | refine amax ?_ | refine afit_u64 (by omega) ?_ | refine afit_u8 (by omega) ?_ | rw [List.length_map]); ((conv => whnf); (repeat ((first | with_reducible (first | refine zT rfl ?_ | refine zF rfl ?_ | refine zY rfl ?_) | refine zY (by decide) ?_ | refine zN (by decide) ?_ | with_reducible refine zQ ?_); (conv => whnf))))))
              refine ashr_nat (by show k ≤ 64; omega) ?_
              ((conv => whnf); (repeat ((first | with_reducible (first | refine zT rfl ?_ | refine zF rfl ?_ | refine zY rfl ?_) | refine zY (by decide) ?_ | refine zN (by decide) ?_ | with_reducible refine zQ ?_); (conv => whnf))))
              (repeat ((first | refine aload (by (repeat (first | with_reducible exact upd_same _ _ _ | assumption | rw [upd_ne _ _ (by first | assumption | (apply Ne.symm; assumption))]))) rfl ?_ | refine afit_i64 (by omega) ?_ | refine arem_nonneg (by omega) (by omega) ?_ | refine adiv_i64 (by omega) (by omega) ?_ | refine abr_yes (by omega) ?_ | refine abr_no (by omega) ?_ | refine amin ?_ | refine amax ?_ | refine afit_u64 (by omega) ?_ | refine afit_u8 (by omega) ?_ | rw [List.length_map]); ((conv => whnf); (repeat ((first | with_reducible (first | refine zT rfl ?_ | refine zF rfl ?_ | refine zY rfl ?_) | refine zY (by decide) ?_ | refine zN (by decide) ?_ | with_reducible refine zQ ?_); (conv => whnf))))))
              refine hlab _ (fun _ _ _ h => h) _ _ _ _ ⟨(k, [], σ), rfl, fin hp (by omega) (by omega) h4, rfl, Sub.refl _, ?_⟩
              ((conv => whnf); (repeat ((first | with_reducible (first | refine zT rfl ?_ | refine zF rfl ?_ | refine zY rfl ?_) | refine zY (by decide) ?_ | refine zN (by decide) ?_ | with_reducible refine zQ ?_); (conv => whnf))))
              (repeat' first | with_reducible exact EnvLe.refl _ | (refine EnvLe.node ?_ (by first | exact Or.inl rfl | exact Or.inr (Or.inl rfl) | exact Or.inr (Or.inr ⟨nofun, VLe.slice _ _ _⟩)) ?_))
          · have hp : putBad v ((k : Nat) : Int) = true := by
              unfold putBad
              rw [decide_eq_true (show v / 2 ^ (Int.toNat (k : Int)) ≠ 0 from h5)]; simp
            ((conv => whnf); (repeat ((first | with_reducible (first | refine zT rfl ?_ | refine zF rfl ?_ | refine zY rfl ?_) | refine zY (by decide) ?_ | refine zN (by decide) ?_ | with_reducible refine zQ ?_); (conv => whnf))))
            (repeat ((first | refine aload (by (repeat (first | with_reducible exact upd_same _ _ _ | assumption | rw [upd_ne _ _ (by first | assumption | (apply Ne.symm; assumption))]))) rfl ?_ | refine afit_i64 (by omega) ?_ | refine arem_nonneg (by omega) (by omega) ?_ | refine adiv_i64 (by omega) (by omega) ?_ | refine abr_yes (by omega) ?_ | refine abr_no (by omega) ?_ | refine amin ?_ | refine amax ?_ | refine afit_u64 (by omega) ?_ | refine afit_u8 (by omega) ?_ | rw [List.length_map]); ((conv => whnf); (repeat ((first | with_reducible (first | refine zT rfl ?_ | refine zF rfl ?_ | refine zY rfl ?_) | refine zY (by decide) ?_ | refine zN (by decide) ?_ | with_reducible refine zQ ?_); (conv => whnf))))))
            refine ashr_nat (by show k ≤ 64; omega) ?_
            ((conv => whnf); (repeat ((first | with_reducible (first | refine zT rfl ?_ | refine zF rfl ?_ | refine zY rfl ?_) | refine zY (by decide) ?_ | refine zN (by decide) ?_ | with_reducible refine zQ ?_); (conv => whnf))))
            (repeat ((first | refine aload (by (repeat (first | with_reducible exact upd_same _ _ _ | assumption | rw [upd_ne _ _ (by first | assumption | (apply Ne.symm; assumption))]))) rfl ?_ | refine afit_i64 (by omega) ?_ | refine arem_nonneg (by omega) (by omega) ?_ | refine adiv_i64 (by omega) (by omega) ?_ | refine abr_yes (by omega) ?_ | refine abr_no (by omega) ?_ | refine amin ?_ | refine amax ?_ | refine afit_u64 (by omega) ?_ | refine afit_u8 (by omega) ?_ | rw [List.length_map]); ((conv => whnf); (repeat ((first | with_reducible (first | refine zT rfl ?_ | refine zF rfl ?_ | refine zY rfl ?_) | refine zY (by decide) ?_ | refine zN (by decide) ?_ | with_reducible refine zQ ?_); (conv => whnf))))))
            exact aret_same ⟨by rw [putCode_bad hp], by rw [putBits_bad hp]; exact h⟩
  · rintro ⟨i, d, σ1⟩ ⟨h1, h2, h3⟩
    refine ⟨_, rfl, ?_⟩
    ((conv => whnf); (repeat ((first | with_reducible (first | refine zT rfl ?_ | refine zF rfl ?_ | refine zY rfl ?_) | refine zY (by decide) ?_ | refine zN (by decide) ?_ | with_reducible refine zQ ?_); (conv => whnf))))
    intro hlab
    simp only at h1 h2 h3
    obtain ⟨p1, p2, p3, p4⟩ := putCode_ok h1
    have hlen : d.length + i = n.toNat := by
      have := congrArg List.length h3
      rw [List.length_append, numBits_length, numBits_length] at this; exact this
    cases i with
    | zero =>
      ((conv => whnf); (repeat ((first | with_reducible (first | refine zT rfl ?_ | refine zF rfl ?_ | refine zY rfl ?_) | refine zY (by decide) ?_ | refine zN (by decide) ?_ | with_reducible refine zQ ?_); (conv => whnf))))
      (repeat ((first | refine aload (by (repeat (first | with_reducible exact upd_same _ _ _ | assumption | rw [upd_ne _ _ (by first | assumption | (apply Ne.symm; assumption))]))) rfl ?_ | refine afit_i64 (by omega) ?_ | refine arem_nonneg (by omega) (by omega) ?_ | refine adiv_i64 (by omega) (by omega) ?_ | refine abr_yes (by omega) ?_ | refine abr_no (by omega) ?_ | refine amin ?_ | refine amax ?_ | refine afit_u64 (by omega) ?_ | refine afit_u8 (by omega) ?_ | rw [List.length_map]); ((conv => whnf); (repeat ((first | with_reducible (first | refine zT rfl ?_ | refine zF rfl ?_ | refine zY rfl ?_) | refine zY (by decide) ?_ | refine zN (by decide) ?_ | with_reducible refine zQ ?_); (conv => whnf))))))
      refine aret_same ⟨by rw [h1], ?_⟩
      rw [putBits_ok h1, ← h3]
      simpa [numBits] using h2
    | succ i =>
      ((conv => whnf); (repeat ((first | with_reducible (first | refine zT rfl ?_ | refine zF rfl ?_ | refine zY rfl ?_) | refine zY (by decide) ?_ | refine zN (by decide) ?_ | with_reducible refine zQ ?_); (conv => whnf))))
      (repeat ((first | refine aload (by (repeat (first | with_reducible exact upd_same _ _ _ | assumption | rw [upd_ne _ _ (by first | assumption | (apply Ne.symm; assumption))]))) rfl ?_ | refine afit_i64 (by omega) ?_ | refine arem_nonneg (by omega) (by omega) ?_ | refine adiv_i64 (by omega) (by omega) ?_ | refine abr_yes (by omega) ?_ | refine abr_no (by omega) ?_ | refine amin ?_ | refine amax ?_ | refine afit_u64 (by omega) ?_ | refine afit_u8 (by omega) ?_ | rw [List.length_map]); ((conv => whnf); (repeat ((first | with_reducible (first | refine zT rfl ?_ | refine zF rfl ?_ | refine zY rfl ?_) | refine zY (by decide) ?_ | refine zN (by decide) ?_ | with_reducible refine zQ ?_); (conv => whnf))))))
      rw [show ((i + 1 : Nat) : Int) - 1 = (i : Int) by omega]
      ((conv => whnf); (repeat ((first | with_reducible (first | refine zT rfl ?_ | refine zF rfl ?_ | refine zY rfl ?_) | refine zY (by decide) ?_ | refine zN (by decide) ?_ | with_reducible refine zQ ?_); (conv => whnf))))
      refine ashr_nat (by show i ≤ 64; omega) ?_
      ((conv => whnf); (repeat ((first | with_reducible (first | refine zT rfl ?_ | refine zF rfl ?_ | refine zY rfl ?_) | refine zY (by decide) ?_ | refine zN (by decide) ?_ | with_reducible refine zQ ?_); (conv => whnf))))
      refine abits_eq (and1_u64 _ (Nat.lt_of_le_of_lt (Nat.div_le_self _ _) hv)) ?_
      ((conv => whnf); (repeat ((first | with_reducible (first | refine zT rfl ?_ | refine zF rfl ?_ | refine zY rfl ?_) | refine zY (by decide) ?_ | refine zN (by decide) ?_ | with_reducible refine zQ ?_); (conv => whnf))))
      refine afit_eq (bit_u8 v i) ?_
      ((conv => whnf); (repeat ((first | with_reducible (first | refine zT rfl ?_ | refine zF rfl ?_ | refine zY rfl ?_) | refine zY (by decide) ?_ | refine zN (by decide) ?_ | with_reducible refine zQ ?_); (conv => whnf))))
      refine acall (one id (bs ++ d) (v.testBit i) _ σb h2 (by rw [List.length_append]; omega)) ?_
      rintro x σ' ⟨rfl, hw⟩
      ((conv => whnf); (repeat ((first | with_reducible (first | refine zT rfl ?_ | refine zF rfl ?_ | refine zY rfl ?_) | refine zY (by decide) ?_ | refine zN (by decide) ?_ | with_reducible refine zQ ?_); (conv => whnf))))
      refine ⟨(i, d ++ [v.testBit i], σ'), rfl, ⟨h1, ?_, ?_⟩, by simp only; omega, Sub.refl _, ?_⟩
      · simp only; rw [← List.append_assoc]; exact hw
      · simp only; rw [← h3]; simp [numBits]
      · ((conv => whnf); (repeat ((first | with_reducible (first | refine zT rfl ?_ | refine zF rfl ?_ | refine zY rfl ?_) | refine zY (by decide) ?_ | refine zN (by decide) ?_ | with_reducible refine zQ ?_); (conv => whnf))))
        (repeat' first | with_reducible exact EnvLe.refl _ | (refine EnvLe.node ?_ (by first | exact Or.inl rfl | exact Or.inr (Or.inl rfl) | exact Or.inr (Or.inr ⟨nofun, VLe.slice _ _ _⟩)) ?_))
end Go.Proofs.Ytgipkpghabelkaa
/-
  What a reader does.
-/
namespace Go.Proofs.Ytgipkpghabelkaa
set_option linter.unusedVariables false
set_option linter.unusedSimpArgs false
open Go Go.Am

/-- A reader at an object, with its bytes and its place; the heap without it. -/
def Rd (σ : AHeap) (id : Nat) (b : List UInt8) (k : Nat) (σb : AHeap) : Prop :=
  σb id = none ∧ k ≤ 8 * b.length ∧ b.length ≤ 8192 ∧ ∃ tk, σ = upd σb id (.cells [sl tk b, i64v k])

theorem rRead (b : List UInt8) (t : Tok) (σ : AHeap) (hl : b.length ≤ 140737488355328) : ACalls Try.prog i_bits_Read [sl t b] σ fun v σ' => ∃ id, v = .ptr id 0 ∧ Rd σ' id (b.take 8192) 0 σ := by
  refine k_bits_Read rfl ?_
  ((conv => whnf); (repeat ((first | with_reducible (first | refine zT rfl ?_ | refine zF rfl ?_ | refine zY rfl ?_) | refine zY (by decide) ?_ | refine zN (by decide) ?_ | with_reducible refine zQ ?_); (conv => whnf))))
  try rw [List.length_map]
  (repeat ((first | refine aload (by (repeat (first | with_reducible exact upd_same _ _ _ | assumption | rw [upd_ne _ _ (by first | assumption | (apply Ne.symm; assumption))]))) rfl ?_ | refine afit_i64 (by omega) ?_ | refine arem_nonneg (by omega) (by omega) ?_ | refine adiv_i64 (by omega) (by omega) ?_ | refine abr_yes (by omega) ?_ | refine abr_no (by omega) ?_ | refine amin ?_ | refine amax ?_ | refine afit_u64 (by omega) ?_ | refine afit_u8 (by omega) ?_ | rw [List.length_map]); ((conv => whnf); (repeat ((first | with_reducible (first | refine zT rfl ?_ | refine zF rfl ?_ | refine zY rfl ?_) | refine zY (by decide) ?_ | refine zN (by decide) ?_ | with_reducible refine zQ ?_); (conv => whnf))))))
  refine acut (by omega) (by omega) (by omega) ?_
  ((conv => whnf); (repeat ((first | with_reducible (first | refine zT rfl ?_ | refine zF rfl ?_ | refine zY rfl ?_) | refine zY (by decide) ?_ | refine zN (by decide) ?_ | with_reducible refine zQ ?_); (conv => whnf))))
  refine ⟨rfl, rfl, ?_⟩
  ((conv => whnf); (repeat ((first | with_reducible (first | refine zT rfl ?_ | refine zF rfl ?_ | refine zY rfl ?_) | refine zY (by decide) ?_ | refine zN (by decide) ?_ | with_reducible refine zQ ?_); (conv => whnf))))
  rw [show (min (b.length : Int) 8192).toNat = min b.length 8192 by omega, ← List.map_take]
  have e : b.take (min b.length 8192) = b.take 8192 := by
    by_cases h : b.length ≤ 8192
    · rw [Nat.min_eq_left h, List.take_of_length_le (Nat.le_refl _), List.take_of_length_le h]
    · rw [Nat.min_eq_right (by omega)]
  rw [e]
  refine acall (Clone (b.take 8192) _ _ (by rw [List.length_take]; omega)) ?_
  rintro v σ' ⟨tk, ho, rfl⟩
  refine ⟨?_, ho.ext⟩
  ((conv => whnf); (repeat ((first | with_reducible (first | refine zT rfl ?_ | refine zF rfl ?_ | refine zY rfl ?_) | refine zY (by decide) ?_ | refine zN (by decide) ?_ | with_reducible refine zQ ?_); (conv => whnf))))
  refine anew rfl fun id hid => ?_
  ((conv => whnf); (repeat ((first | with_reducible (first | refine zT rfl ?_ | refine zF rfl ?_ | refine zY rfl ?_) | refine zY (by decide) ?_ | refine zN (by decide) ?_ | with_reducible refine zQ ?_); (conv => whnf))))
  have hσ : σ id = none := by
    rcases ho with ⟨_, rfl⟩ | ⟨t', h0, _, rfl⟩
    · exact hid
    · by_cases e : id = t'
      · subst e; rw [upd_same] at hid; cases hid
      · rw [upd_ne _ _ e] at hid; exact hid
  refine aret (VLe.refl _) (σ' := upd σ id (.cells [sl tk (b.take 8192), i64v 0])) ?_ ⟨id, rfl, hσ, by omega, by rw [List.length_take]; omega, tk, rfl⟩
  exact Sub.upd ho.sub id _

theorem rLeft (id : Nat) (b : List UInt8) (k : Nat) (σ σb : AHeap) (h : Rd σ id b k σb) : ACalls Try.prog i_bits_Reader_Left [.ptr id 0] σ fun v σ' => v = i64v ((8 * b.length - k : Nat) : Int) ∧ σ' = σ := by
  refine k_bits_Reader_Left rfl ?_
  obtain ⟨hid, hk, hb, tk, rfl⟩ := h
  ((conv => whnf); (repeat ((first | with_reducible (first | refine zT rfl ?_ | refine zF rfl ?_ | refine zY rfl ?_) | refine zY (by decide) ?_ | refine zN (by decide) ?_ | with_reducible refine zQ ?_); (conv => whnf))))
  (repeat ((first | refine aload (by (repeat (first | with_reducible exact upd_same _ _ _ | assumption | rw [upd_ne _ _ (by first | assumption | (apply Ne.symm; assumption))]))) rfl ?_ | refine afit_i64 (by omega) ?_ | refine arem_nonneg (by omega) (by omega) ?_ | refine adiv_i64 (by omega) (by omega) ?_ | refine abr_yes (by omega) ?_ | refine abr_no (by omega) ?_ | refine amin ?_ | refine amax ?_ | refine afit_u64 (by omega) ?_ | refine afit_u8 (by omega) ?_ | rw [List.length_map]); ((conv => whnf); (repeat ((first | with_reducible (first | refine zT rfl ?_ | refine zF rfl ?_ | refine zY rfl ?_) | refine zY (by decide) ?_ | refine zN (by decide) ?_ | with_reducible refine zQ ?_); (conv => whnf))))))
  try rw [List.length_map]
  (repeat ((first | refine aload (by (repeat (first | with_reducible exact upd_same _ _ _ | assumption | rw [upd_ne _ _ (by first | assumption | (apply Ne.symm; assumption))]))) rfl ?_ | refine afit_i64 (by omega) ?_ | refine arem_nonneg (by omega) (by omega) ?_ | refine adiv_i64 (by omega) (by omega) ?_ | refine abr_yes (by omega) ?_ | refine abr_no (by omega) ?_ | refine amin ?_ | refine amax ?_ | refine afit_u64 (by omega) ?_ | refine afit_u8 (by omega) ?_ | rw [List.length_map]); ((conv => whnf); (repeat ((first | with_reducible (first | refine zT rfl ?_ | refine zF rfl ?_ | refine zY rfl ?_) | refine zY (by decide) ?_ | refine zN (by decide) ?_ | with_reducible refine zQ ?_); (conv => whnf))))))
  refine aret_same ⟨?_, rfl⟩
  rw [show ((8 * b.length - k : Nat) : Int) = (b.length : Int) * 8 - k by omega]
theorem rLeftNil (σ : AHeap) : ACalls Try.prog i_bits_Reader_Left [.v (.pointer none)] σ fun v σ' => v = i64v 0 ∧ σ' = σ := by
  refine k_bits_Reader_Left rfl ?_
  ((conv => whnf); (repeat ((first | with_reducible (first | refine zT rfl ?_ | refine zF rfl ?_ | refine zY rfl ?_) | refine zY (by decide) ?_ | refine zN (by decide) ?_ | with_reducible refine zQ ?_); (conv => whnf))))
  exact aret_same ⟨rfl, rfl⟩

theorem rGetNil (n : Int) (σ : AHeap) : ACalls Try.prog i_bits_Reader_Get [.v (.pointer none), i64v n] σ fun x σ' => x = .tup [u64v 0, i64v 6] ∧ σ' = σ := by
  refine k_bits_Reader_Get rfl ?_
  ((conv => whnf); (repeat ((first | with_reducible (first | refine zT rfl ?_ | refine zF rfl ?_ | refine zY rfl ?_) | refine zY (by decide) ?_ | refine zN (by decide) ?_ | with_reducible refine zQ ?_); (conv => whnf))))
  refine ascope' (α := Unit) (fun _ => []) (fun _ => σ) (fun _ => 0) (fun _ => False) (fun _ => 0) ?_ (fun _ h => h.elim)
  ((conv => whnf); (repeat ((first | with_reducible (first | refine zT rfl ?_ | refine zF rfl ?_ | refine zY rfl ?_) | refine zY (by decide) ?_ | refine zN (by decide) ?_ | with_reducible refine zQ ?_); (conv => whnf))))
  intro hlab
  ((conv => whnf); (repeat ((first | with_reducible (first | refine zT rfl ?_ | refine zF rfl ?_ | refine zY rfl ?_) | refine zY (by decide) ?_ | refine zN (by decide) ?_ | with_reducible refine zQ ?_); (conv => whnf))))
  exact aret_same ⟨rfl, rfl⟩

theorem and1_u8 (x : Nat) (hx : x < 256) : bitsOp .and .u8 (x : Int) 1 = ((x % 2 : Nat) : Int) := by
  have h1 : BitVec.ofInt 8 (x : Int) = BitVec.ofNat 8 x := by simp
  show IntKind.u8.wrap ((BitVec.ofInt 8 (x : Int) &&& BitVec.ofInt 8 1).toNat) = _
  rw [h1]
  have : (BitVec.ofNat 8 x &&& BitVec.ofInt 8 1).toNat = x % 2 := by
    rw [BitVec.toNat_and, BitVec.toNat_ofNat, Nat.mod_eq_of_lt hx]
    exact Nat.and_one_is_mod x
  rw [this]; exact wrap_u8 (by omega) (by omega)
theorem or1_u64 (x : Nat) (b : Bool) (hx : 2 * x < 18446744073709551616) : bitsOp .or .u64 ((2 * x : Nat) : Int) ((b.toNat : Nat) : Int) = ((2 * x + b.toNat : Nat) : Int) := by
  have h1 : ∀ y : Nat, BitVec.ofInt 64 (y : Int) = BitVec.ofNat 64 y := by intro y; simp
  show IntKind.u64.wrap ((BitVec.ofInt 64 ((2 * x : Nat) : Int) ||| BitVec.ofInt 64 ((b.toNat : Nat) : Int)).toNat) = _
  rw [h1, h1]
  have hb : b.toNat ≤ 1 := by cases b <;> decide
  have : (BitVec.ofNat 64 (2 * x) ||| BitVec.ofNat 64 b.toNat).toNat = 2 * x + b.toNat := by
    rw [BitVec.toNat_or, BitVec.toNat_ofNat, BitVec.toNat_ofNat, Nat.mod_eq_of_lt hx, Nat.mod_eq_of_lt (by omega)]
    have e := Nat.two_pow_add_eq_or_of_lt (i := 1) (b := b.toNat) (by omega) x
    rw [Nat.pow_one] at e
    exact e.symm
  rw [this]; exact wrap_u64 (by omega) (by omega)
theorem shl1_u64 (x : Nat) (hx : 2 * x < 18446744073709551616) : IntKind.u64.wrap ((x : Int) * 2 ^ (min (1 : Int).toNat IntKind.u64.bits)) = ((2 * x : Nat) : Int) := by
  have e : (x : Int) * 2 ^ (min (1 : Int).toNat IntKind.u64.bits) = ((2 * x : Nat) : Int) := by
    show (x : Int) * 2 ^ 1 = _
    omega
  rw [e]; exact wrap_u64 (by omega) (by omega)
theorem take_snoc {α : Type} {l : List α} {i : Nat} {x : α} (h : l[i]? = some x) : l.take (i + 1) = l.take i ++ [x] := by rw [List.take_add_one, h]; rfl

set_option maxRecDepth 10000 in
theorem rGet (id : Nat) (b : List UInt8) (k : Nat) (n : Int) (σ σb : AHeap) (h : Rd σ id b k σb) :
    ACalls Try.prog i_bits_Reader_Get [.ptr id 0, i64v n] σ fun x σ' => x = .tup [u64v (getVal (unpack b) k n), i64v (getCode (8 * b.length) k n)] ∧ Rd σ' id b (getAt (8 * b.length) k n) σb := by
  have hR := h
  obtain ⟨hid, hk, hb, tk, rfl⟩ := h
  have hul := unpack_length b
  refine k_bits_Reader_Get rfl ?_
  ((conv => whnf); (repeat ((first | with_reducible (first | refine zT rfl ?_ | refine zF rfl ?_ | refine zY rfl ?_) | refine zY (by decide) ?_ | refine zN (by decide) ?_ | with_reducible refine zQ ?_); (conv => whnf))))
  refine ascope' (α := Nat) (fun j => [(s6, u64v (val 0 (((unpack b).drop k).take j))), (s7, i64v ((k : Int) + n))]) (fun j => upd σb id (.cells [sl tk b, i64v ((k + j : Nat) : Int)])) (fun _ => 0) (fun j => getCode (8 * b.length) k n = 0 ∧ j ≤ n.toNat) (fun j => n.toNat - j) ?_ ?_
  · ((conv => whnf); (repeat ((first | with_reducible (first | refine zT rfl ?_ | refine zF rfl ?_ | refine zY rfl ?_) | refine zY (by decide) ?_ | refine zN (by decide) ?_ | with_reducible refine zQ ?_); (conv => whnf))))
    intro hlab
    by_cases h1 : n < 0
    · have hc : getCode (8 * b.length) k n = 1 := by unfold getCode; rw [if_pos (.inl h1)]
      ((conv => whnf); (repeat ((first | with_reducible (first | refine zT rfl ?_ | refine zF rfl ?_ | refine zY rfl ?_) | refine zY (by decide) ?_ | refine zN (by decide) ?_ | with_reducible refine zQ ?_); (conv => whnf))))
      (repeat ((first | refine aload (by (repeat (first | with_reducible exact upd_same _ _ _ | assumption | rw [upd_ne _ _ (by first | assumption | (apply Ne.symm; assumption))]))) rfl ?_ | refine afit_i64 (by omega) ?_ | refine arem_nonneg (by omega) (by omega) ?_ | refine adiv_i64 (by omega) (by omega) ?_ | refine abr_yes (by omega) ?_ | refine abr_no (by omega) ?_ | refine amin ?_ | refine amax ?_ | refine afit_u64 (by omega) ?_ | refine afit_u8 (by omega) ?_ | rw [List.length_map]); ((conv => whnf); (repeat ((first | with_reducible (first | refine zT rfl ?_ | refine zF rfl ?_ | refine zY rfl ?_) | refine zY (by decide) ?_ | refine zN (by decide) ?_ | with_reducible refine zQ ?_); (conv => whnf))))))
      refine aret_same ⟨?_, ?_⟩
      · unfold getVal; rw [hul, hc]; rfl
      · unfold getAt; rw [hc]; exact hR
    · by_cases h2 : n > 64
      · have hc : getCode (8 * b.length) k n = 1 := by unfold getCode; rw [if_pos (.inr h2)]
        ((conv => whnf); (repeat ((first | with_reducible (first | refine zT rfl ?_ | refine zF rfl ?_ | refine zY rfl ?_) | refine zY (by decide) ?_ | refine zN (by decide) ?_ | with_reducible refine zQ ?_); (conv => whnf))))
        (repeat ((first | refine aload (by (repeat (first | with_reducible exact upd_same _ _ _ | assumption | rw [upd_ne _ _ (by first | assumption | (apply Ne.symm; assumption))]))) rfl ?_ | refine afit_i64 (by omega) ?_ | refine arem_nonneg (by omega) (by omega) ?_ | refine adiv_i64 (by omega) (by omega) ?_ | refine abr_yes (by omega) ?_ | refine abr_no (by omega) ?_ | refine amin ?_ | refine amax ?_ | refine afit_u64 (by omega) ?_ | refine afit_u8 (by omega) ?_ | rw [List.length_map]); ((conv => whnf); (repeat ((first | with_reducible (first | refine zT rfl ?_ | refine zF rfl ?_ | refine zY rfl ?_) | refine zY (by decide) ?_ | refine zN (by decide) ?_ | with_reducible refine zQ ?_); (conv => whnf))))))
        refine aret_same ⟨?_, ?_⟩
        · unfold getVal; rw [hul, hc]; rfl
        · unfold getAt; rw [hc]; exact hR
      · ((conv => whnf); (repeat ((first | with_reducible (first | refine zT rfl ?_ | refine zF rfl ?_ | refine zY rfl ?_) | refine zY (by decide) ?_ | refine zN (by decide) ?_ | with_reducible refine zQ ?_); (conv => whnf))))
        (repeat ((first | refine aload (by (repeat (first | with_reducible exact upd_same _ _ _ | assumption | rw [upd_ne _ _ (by first | assumption | (apply Ne.symm; assumption))]))) rfl ?_ | refine afit_i64 (by omega) ?_ | refine arem_nonneg (by omega) (by omega) ?_ | refine adiv_i64 (by omega) (by omega) ?_ | refine abr_yes (by omega) ?_ | refine abr_no (by omega) ?_ | refine amin ?_ | refine amax ?_ | refine afit_u64 (by omega) ?_ | refine afit_u8 (by omega) ?_ | rw [List.length_map]); ((conv => whnf); (repeat ((first | with_reducible (first | refine zT rfl ?_ | refine zF rfl ?_ | refine zY rfl ?_) | refine zY (by decide) ?_ | refine zN (by decide) ?_ | with_reducible refine zQ ?_); (conv => whnf))))))
        refine acall (rLeft id b k _ σb hR) ?_
        rintro x σ' ⟨rfl, rfl⟩
        refine ⟨?_, Ext.refl _⟩
        by_cases h3 : n > ((8 * b.length - k : Nat) : Int)
        · have hc : getCode (8 * b.length) k n = 8 := by unfold getCode; rw [if_neg (by omega), if_pos (by omega)]
          ((conv => whnf); (repeat ((first | with_reducible (first | refine zT rfl ?_ | refine zF rfl ?_ | refine zY rfl ?_) | refine zY (by decide) ?_ | refine zN (by decide) ?_ | with_reducible refine zQ ?_); (conv => whnf))))
          (repeat ((first | refine aload (by (repeat (first | with_reducible exact upd_same _ _ _ | assumption | rw [upd_ne _ _ (by first | assumption | (apply Ne.symm; assumption))]))) rfl ?_ | refine afit_i64 (by omega) ?_ | refine arem_nonneg (by omega) (by omega) ?_ | refine adiv_i64 (by omega) (by omega) ?_ | refine abr_yes (by omega) ?_ | refine abr_no (by omega) ?_ | refine amin ?_ | refine amax ?_ | refine afit_u64 (by omega) ?_ | refine afit_u8 (by omega) ?_ | rw [List.length_map]); ((conv => whnf); (repeat ((first | with_reducible (first | refine zT rfl ?_ | refine zF rfl ?_ | refine zY rfl ?_) | refine zY (by decide) ?_ | refine zN (by decide) ?_ | with_reducible refine zQ ?_); (conv => whnf))))))
          refine aret_same ⟨?_, ?_⟩
          · unfold getVal; rw [hul, hc]; rfl
          · unfold getAt; rw [hc]; exact hR
        · have hc : getCode (8 * b.length) k n = 0 := by unfold getCode; rw [if_neg (by omega), if_neg (by omega)]
          ((conv => whnf); (repeat ((first | with_reducible (first | refine zT rfl ?_ | refine zF rfl ?_ | refine zY rfl ?_) | refine zY (by decide) ?_ | refine zN (by decide) ?_ | with_reducible refine zQ ?_); (conv => whnf))))
          (repeat ((first | refine aload (by (repeat (first | with_reducible exact upd_same _ _ _ | assumption | rw [upd_ne _ _ (by first | assumption | (apply Ne.symm; assumption))]))) rfl ?_ | refine afit_i64 (by omega) ?_ | refine arem_nonneg (by omega) (by omega) ?_ | refine adiv_i64 (by omega) (by omega) ?_ | refine abr_yes (by omega) ?_ | refine abr_no (by omega) ?_ | refine amin ?_ | refine amax ?_ | refine afit_u64 (by omega) ?_ | refine afit_u8 (by omega) ?_ | rw [List.length_map]); ((conv => whnf); (repeat ((first | with_reducible (first | refine zT rfl ?_ | refine zF rfl ?_ | refine zY rfl ?_) | refine zY (by decide) ?_ | refine zN (by decide) ?_ | with_reducible refine zQ ?_); (conv => whnf))))))
          refine hlab _ (fun _ _ _ h => h) _ _ _ _ ⟨0, rfl, ⟨hc, by omega⟩, rfl, Sub.refl _, ?_⟩
          ((conv => whnf); (repeat ((first | with_reducible (first | refine zT rfl ?_ | refine zF rfl ?_ | refine zY rfl ?_) | refine zY (by decide) ?_ | refine zN (by decide) ?_ | with_reducible refine zQ ?_); (conv => whnf))))
          (repeat' first | with_reducible exact EnvLe.refl _ | (refine EnvLe.node ?_ (by first | exact Or.inl rfl | exact Or.inr (Or.inl rfl) | exact Or.inr (Or.inr ⟨nofun, VLe.slice _ _ _⟩)) ?_))
  · rintro j ⟨hc, hj⟩
    obtain ⟨p1, p2, p3⟩ := getCode_ok hc
    refine ⟨_, rfl, ?_⟩
    ((conv => whnf); (repeat ((first | with_reducible (first | refine zT rfl ?_ | refine zF rfl ?_ | refine zY rfl ?_) | refine zY (by decide) ?_ | refine zN (by decide) ?_ | with_reducible refine zQ ?_); (conv => whnf))))
    intro hlab
    by_cases h1 : j = n.toNat
    · ((conv => whnf); (repeat ((first | with_reducible (first | refine zT rfl ?_ | refine zF rfl ?_ | refine zY rfl ?_) | refine zY (by decide) ?_ | refine zN (by decide) ?_ | with_reducible refine zQ ?_); (conv => whnf))))
      (repeat ((first | refine aload (by (repeat (first | with_reducible exact upd_same _ _ _ | assumption | rw [upd_ne _ _ (by first | assumption | (apply Ne.symm; assumption))]))) rfl ?_ | refine afit_i64 (by omega) ?_ | refine arem_nonneg (by omega) (by omega) ?_ | refine adiv_i64 (by omega) (by omega) ?_ | refine abr_yes (by omega) ?_ | refine abr_no (by omega) ?_ | refine amin ?_ | refine amax ?_ | refine afit_u64 (by omega) ?_ | refine afit_u8 (by omega) ?_ | rw [List.length_map]); ((conv => whnf); (repeat ((first | with_reducible (first | refine zT rfl ?_ | refine zF rfl ?_ | refine zY rfl ?_) | refine zY (by decide) ?_ | refine zN (by decide) ?_ | with_reducible refine zQ ?_); (conv => whnf))))))
      refine aret_same ⟨?_, ?_⟩
      · unfold getVal; rw [hul, if_pos hc, hc, h1]
      · unfold getAt; rw [if_pos hc, ← h1]
        exact ⟨hid, by omega, hb, tk, rfl⟩
    · have hlt : k + j < 8 * b.length := by omega
      have hq : (k + j) / 8 < b.length := by omega
      have hg : b[(k + j) / 8]? = some b[(k + j) / 8] := List.getElem?_eq_getElem hq
      have hbit := unpack_get b (k + j) _ hg
      have hv2 : val 0 (((unpack b).drop k).take j) < 2 ^ 63 := by
        have h1 := val_lt (((unpack b).drop k).take j)
        have h2 : (((unpack b).drop k).take j).length ≤ 63 := by rw [List.length_take]; omega
        exact Nat.lt_of_lt_of_le h1 (Nat.pow_le_pow_right (by omega) h2)
      have hx := b[(k + j) / 8].toNat_lt
      ((conv => whnf); (repeat ((first | with_reducible (first | refine zT rfl ?_ | refine zF rfl ?_ | refine zY rfl ?_) | refine zY (by decide) ?_ | refine zN (by decide) ?_ | with_reducible refine zQ ?_); (conv => whnf))))
      (repeat ((first | refine aload (by (repeat (first | with_reducible exact upd_same _ _ _ | assumption | rw [upd_ne _ _ (by first | assumption | (apply Ne.symm; assumption))]))) rfl ?_ | refine afit_i64 (by omega) ?_ | refine arem_nonneg (by omega) (by omega) ?_ | refine adiv_i64 (by omega) (by omega) ?_ | refine abr_yes (by omega) ?_ | refine abr_no (by omega) ?_ | refine amin ?_ | refine amax ?_ | refine afit_u64 (by omega) ?_ | refine afit_u8 (by omega) ?_ | rw [List.length_map]); ((conv => whnf); (repeat ((first | with_reducible (first | refine zT rfl ?_ | refine zF rfl ?_ | refine zY rfl ?_) | refine zY (by decide) ?_ | refine zN (by decide) ?_ | with_reducible refine zQ ?_); (conv => whnf))))))
      refine ashl_eq (by omega) (shl1_u64 _ (by omega)) ?_
      ((conv => whnf); (repeat ((first | with_reducible (first | refine zT rfl ?_ | refine zF rfl ?_ | refine zY rfl ?_) | refine zY (by decide) ?_ | refine zN (by decide) ?_ | with_reducible refine zQ ?_); (conv => whnf))))
      (repeat ((first | refine aload (by (repeat (first | with_reducible exact upd_same _ _ _ | assumption | rw [upd_ne _ _ (by first | assumption | (apply Ne.symm; assumption))]))) rfl ?_ | refine afit_i64 (by omega) ?_ | refine arem_nonneg (by omega) (by omega) ?_ | refine adiv_i64 (by omega) (by omega) ?_ | refine abr_yes (by omega) ?_ | refine abr_no (by omega) ?_ | refine amin ?_ | refine amax ?_ | refine afit_u64 (by omega) ?_ | refine afit_u8 (by omega) ?_ | rw [List.length_map]); ((conv => whnf); (repeat ((first | with_reducible (first | refine zT rfl ?_ | refine zF rfl ?_ | refine zY rfl ?_) | refine zY (by decide) ?_ | refine zN (by decide) ?_ | with_reducible refine zQ ?_); (conv => whnf))))))
      rw [show ((k + j : Nat) : Int) / 8 = (((k + j) / 8 : Nat) : Int) by omega]
      refine aget (by omega) (get_bytes hq) ?_
      ((conv => whnf); (repeat ((first | with_reducible (first | refine zT rfl ?_ | refine zF rfl ?_ | refine zY rfl ?_) | refine zY (by decide) ?_ | refine zN (by decide) ?_ | with_reducible refine zQ ?_); (conv => whnf))))
      refine acell rfl ?_
      ((conv => whnf); (repeat ((first | with_reducible (first | refine zT rfl ?_ | refine zF rfl ?_ | refine zY rfl ?_) | refine zY (by decide) ?_ | refine zN (by decide) ?_ | with_reducible refine zQ ?_); (conv => whnf))))
      (repeat ((first | refine aload (by (repeat (first | with_reducible exact upd_same _ _ _ | assumption | rw [upd_ne _ _ (by first | assumption | (apply Ne.symm; assumption))]))) rfl ?_ | refine afit_i64 (by omega) ?_ | refine arem_nonneg (by omega) (by omega) ?_ | refine adiv_i64 (by omega) (by omega) ?_ | refine abr_yes (by omega) ?_ | refine abr_no (by omega) ?_ | refine amin ?_ | refine amax ?_ | refine afit_u64 (by omega) ?_ | refine afit_u8 (by omega) ?_ | rw [List.length_map]); ((conv => whnf); (repeat ((first | with_reducible (first | refine zT rfl ?_ | refine zF rfl ?_ | refine zY rfl ?_) | refine zY (by decide) ?_ | refine zN (by decide) ?_ | with_reducible refine zQ ?_); (conv => whnf))))))
      rw [show (7 : Int) - ((k + j : Nat) : Int) % 8 = ((7 - (k + j) % 8 : Nat) : Int) by omega]
      refine ashr_nat (by show _ ≤ 8; omega) ?_
      ((conv => whnf); (repeat ((first | with_reducible (first | refine zT rfl ?_ | refine zF rfl ?_ | refine zY rfl ?_) | refine zY (by decide) ?_ | refine zN (by decide) ?_ | with_reducible refine zQ ?_); (conv => whnf))))
      refine abits_eq (and1_u8 _ (Nat.lt_of_le_of_lt (Nat.div_le_self _ _) hx)) ?_
      rw [← testBit_nat]
      ((conv => whnf); (repeat ((first | with_reducible (first | refine zT rfl ?_ | refine zF rfl ?_ | refine zY rfl ?_) | refine zY (by decide) ?_ | refine zN (by decide) ?_ | with_reducible refine zQ ?_); (conv => whnf))))
      have hb1 : (b[(k + j) / 8].toNat.testBit (7 - (k + j) % 8)).toNat ≤ 1 := by cases b[(k + j) / 8].toNat.testBit (7 - (k + j) % 8) <;> decide
      refine afit_u64 (by omega) ?_
      ((conv => whnf); (repeat ((first | with_reducible (first | refine zT rfl ?_ | refine zF rfl ?_ | refine zY rfl ?_) | refine zY (by decide) ?_ | refine zN (by decide) ?_ | with_reducible refine zQ ?_); (conv => whnf))))
      refine abits_eq (or1_u64 _ _ (by omega)) ?_
      ((conv => whnf); (repeat ((first | with_reducible (first | refine zT rfl ?_ | refine zF rfl ?_ | refine zY rfl ?_) | refine zY (by decide) ?_ | refine zN (by decide) ?_ | with_reducible refine zQ ?_); (conv => whnf))))
      (repeat ((first | refine aload (by (repeat (first | with_reducible exact upd_same _ _ _ | assumption | rw [upd_ne _ _ (by first | assumption | (apply Ne.symm; assumption))]))) rfl ?_ | refine afit_i64 (by omega) ?_ | refine arem_nonneg (by omega) (by omega) ?_ | refine adiv_i64 (by omega) (by omega) ?_ | refine abr_yes (by omega) ?_ | refine abr_no (by omega) ?_ | refine amin ?_ | refine amax ?_ | refine afit_u64 (by omega) ?_ | refine afit_u8 (by omega) ?_ | rw [List.length_map]); ((conv => whnf); (repeat ((first | with_reducible (first | refine zT rfl ?_ | refine zF rfl ?_ | refine zY rfl ?_) | refine zY (by decide) ?_ | refine zN (by decide) ?_ | with_reducible refine zQ ?_); (conv => whnf))))))
      refine astore (upd_same _ _ _) (Nat.le_of_ble_eq_true rfl) rfl rfl ?_
      rw [upd_upd]
      ((conv => whnf); (repeat ((first | with_reducible (first | refine zT rfl ?_ | refine zF rfl ?_ | refine zY rfl ?_) | refine zY (by decide) ?_ | refine zN (by decide) ?_ | with_reducible refine zQ ?_); (conv => whnf))))
      refine ⟨j + 1, rfl, ⟨hc, by omega⟩, by omega, ?_, ?_⟩
      · rw [show (((k + j : Nat) : Int) + 1) = ((k + (j + 1) : Nat) : Int) by omega]
        exact Sub.refl _
      · have e : val 0 (((unpack b).drop k).take (j + 1)) = 2 * val 0 (((unpack b).drop k).take j) + (b[(k + j) / 8].toNat.testBit (7 - (k + j) % 8)).toNat := by
          rw [take_snoc (l := (unpack b).drop k) (i := j) (x := b[(k + j) / 8].toNat.testBit (7 - (k + j) % 8)) (by rw [List.getElem?_drop]; exact hbit), val_snoc]
        ((conv => whnf); (repeat ((first | with_reducible (first | refine zT rfl ?_ | refine zF rfl ?_ | refine zY rfl ?_) | refine zY (by decide) ?_ | refine zN (by decide) ?_ | with_reducible refine zQ ?_); (conv => whnf))))
        rw [e]
        (repeat' first | with_reducible exact EnvLe.refl _ | (refine EnvLe.node ?_ (by first | exact Or.inl rfl | exact Or.inr (Or.inl rfl) | exact Or.inr (Or.inr ⟨nofun, VLe.slice _ _ _⟩)) ?_))

theorem rRestNil (σ : AHeap) : ACalls Try.prog i_bits_Reader_Rest [.v (.pointer none)] σ fun x σ' => x = .tup [sl .none [], i64v 6] ∧ σ' = σ := by
  refine k_bits_Reader_Rest rfl ?_
  ((conv => whnf); (repeat ((first | with_reducible (first | refine zT rfl ?_ | refine zF rfl ?_ | refine zY rfl ?_) | refine zY (by decide) ?_ | refine zN (by decide) ?_ | with_reducible refine zQ ?_); (conv => whnf))))
  exact aret VLe.tup_sl (Sub.refl _) ⟨rfl, rfl⟩

theorem pad_le (k : Nat) : pad k ≤ 7 := by unfold pad; omega
set_option maxRecDepth 10000 in
theorem rRest (id : Nat) (b : List UInt8) (k : Nat) (σ σb : AHeap) (h : Rd σ id b k σb) :
    ACalls Try.prog i_bits_Reader_Rest [.ptr id 0] σ fun x σ' => x = .tup [sl .none (if restOk (unpack b) k then b.drop ((k + 7) / 8) else []), i64v (if restOk (unpack b) k then 0 else 3)] ∧
      Rd σ' id b (if restOk (unpack b) k then 8 * b.length else k) σb := by
  have hR := h
  obtain ⟨hid, hk, hb, tk, rfl⟩ := h
  have hul := unpack_length b
  have hp7 := pad_le k
  refine k_bits_Reader_Rest rfl ?_
  ((conv => whnf); (repeat ((first | with_reducible (first | refine zT rfl ?_ | refine zF rfl ?_ | refine zY rfl ?_) | refine zY (by decide) ?_ | refine zN (by decide) ?_ | with_reducible refine zQ ?_); (conv => whnf))))
  (repeat ((first | refine aload (by (repeat (first | with_reducible exact upd_same _ _ _ | assumption | rw [upd_ne _ _ (by first | assumption | (apply Ne.symm; assumption))]))) rfl ?_ | refine afit_i64 (by omega) ?_ | refine arem_nonneg (by omega) (by omega) ?_ | refine adiv_i64 (by omega) (by omega) ?_ | refine abr_yes (by omega) ?_ | refine abr_no (by omega) ?_ | refine amin ?_ | refine amax ?_ | refine afit_u64 (by omega) ?_ | refine afit_u8 (by omega) ?_ | rw [List.length_map]); ((conv => whnf); (repeat ((first | with_reducible (first | refine zT rfl ?_ | refine zF rfl ?_ | refine zY rfl ?_) | refine zY (by decide) ?_ | refine zN (by decide) ?_ | with_reducible refine zQ ?_); (conv => whnf))))))
  rw [show ((8 : Int) - (k : Int) % 8) % 8 = ((pad k : Nat) : Int) by unfold pad; omega]
  refine acall (rGet id b k (pad k) _ σb hR) ?_
  rintro x σ' ⟨rfl, hR2⟩
  have hc : getCode (8 * b.length) k (pad k) = 0 := by
    unfold getCode
    rw [if_neg (by omega), if_neg]
    have : k % 8 = 0 ∨ k + (8 - k % 8) ≤ 8 * b.length := by omega
    unfold pad
    omega
  have ha : getAt (8 * b.length) k (pad k) = k + pad k := by unfold getAt; rw [if_pos hc]; rfl
  have hv : getVal (unpack b) k (pad k) = val 0 (((unpack b).drop k).take (pad k)) := by unfold getVal; rw [hul, if_pos hc]; rfl
  rw [ha] at hR2
  rw [hc, hv]
  obtain ⟨hid2, hk2, hb2, tk2, rfl⟩ := hR2
  ((conv => whnf); (repeat ((first | with_reducible (first | refine zT rfl ?_ | refine zF rfl ?_ | refine zY rfl ?_) | refine zY (by decide) ?_ | refine zN (by decide) ?_ | with_reducible refine zQ ?_); (conv => whnf))))
  by_cases hz : val 0 (((unpack b).drop k).take (pad k)) = 0
  · have hok : restOk (unpack b) k = true := decide_eq_true hz
    rw [hok]
    simp only [if_true]
    (repeat ((first | refine aload (by (repeat (first | with_reducible exact upd_same _ _ _ | assumption | rw [upd_ne _ _ (by first | assumption | (apply Ne.symm; assumption))]))) rfl ?_ | refine afit_i64 (by omega) ?_ | refine arem_nonneg (by omega) (by omega) ?_ | refine adiv_i64 (by omega) (by omega) ?_ | refine abr_yes (by omega) ?_ | refine abr_no (by omega) ?_ | refine amin ?_ | refine amax ?_ | refine afit_u64 (by omega) ?_ | refine afit_u8 (by omega) ?_ | rw [List.length_map]); ((conv => whnf); (repeat ((first | with_reducible (first | refine zT rfl ?_ | refine zF rfl ?_ | refine zY rfl ?_) | refine zY (by decide) ?_ | refine zN (by decide) ?_ | with_reducible refine zQ ?_); (conv => whnf))))))
    try rw [List.length_map]
    refine acut (by omega) (by omega) (by omega) ?_
    ((conv => whnf); (repeat ((first | with_reducible (first | refine zT rfl ?_ | refine zF rfl ?_ | refine zY rfl ?_) | refine zY (by decide) ?_ | refine zN (by decide) ?_ | with_reducible refine zQ ?_); (conv => whnf))))
    rw [show (((k + pad k : Nat) : Int) / 8).toNat = (k + 7) / 8 by unfold pad; omega, show (b.length : Int).toNat = b.length by omega, List.take_of_length_le (by simp), ← List.map_drop]
    refine acall (Clone (b.drop ((k + 7) / 8)) _ _ (by rw [List.length_drop]; omega)) ?_
    rintro v σ' ⟨tk3, ho, rfl⟩
    refine ⟨?_, ho.ext⟩
    have hσ : σ' id = some (.cells [sl tk2 b, i64v ((k + pad k : Nat) : Int)]) := by
      rcases ho with ⟨_, rfl⟩ | ⟨t', h0, _, rfl⟩
      · exact upd_same _ _ _
      · by_cases e : id = t'
        · subst e; rw [upd_same] at h0; cases h0
        · rw [upd_ne _ _ e]; exact upd_same _ _ _
    ((conv => whnf); (repeat ((first | with_reducible (first | refine zT rfl ?_ | refine zF rfl ?_ | refine zY rfl ?_) | refine zY (by decide) ?_ | refine zN (by decide) ?_ | with_reducible refine zQ ?_); (conv => whnf))))
    (repeat ((first | refine aload (by (repeat (first | with_reducible exact upd_same _ _ _ | assumption | rw [upd_ne _ _ (by first | assumption | (apply Ne.symm; assumption))]))) rfl ?_ | refine afit_i64 (by omega) ?_ | refine arem_nonneg (by omega) (by omega) ?_ | refine adiv_i64 (by omega) (by omega) ?_ | refine abr_yes (by omega) ?_ | refine abr_no (by omega) ?_ | refine amin ?_ | refine amax ?_ | refine afit_u64 (by omega) ?_ | refine afit_u8 (by omega) ?_ | rw [List.length_map]); ((conv => whnf); (repeat ((first | with_reducible (first | refine zT rfl ?_ | refine zF rfl ?_ | refine zY rfl ?_) | refine zY (by decide) ?_ | refine zN (by decide) ?_ | with_reducible refine zQ ?_); (conv => whnf))))))
    try rw [List.length_map]
    (repeat ((first | refine aload (by (repeat (first | with_reducible exact upd_same _ _ _ | assumption | rw [upd_ne _ _ (by first | assumption | (apply Ne.symm; assumption))]))) rfl ?_ | refine afit_i64 (by omega) ?_ | refine arem_nonneg (by omega) (by omega) ?_ | refine adiv_i64 (by omega) (by omega) ?_ | refine abr_yes (by omega) ?_ | refine abr_no (by omega) ?_ | refine amin ?_ | refine amax ?_ | refine afit_u64 (by omega) ?_ | refine afit_u8 (by omega) ?_ | rw [List.length_map]); ((conv => whnf); (repeat ((first | with_reducible (first | refine zT rfl ?_ | refine zF rfl ?_ | refine zY rfl ?_) | refine zY (by decide) ?_ | refine zN (by decide) ?_ | with_reducible refine zQ ?_); (conv => whnf))))))
    refine astore hσ (Nat.le_of_ble_eq_true rfl) rfl rfl ?_
    ((conv => whnf); (repeat ((first | with_reducible (first | refine zT rfl ?_ | refine zF rfl ?_ | refine zY rfl ?_) | refine zY (by decide) ?_ | refine zN (by decide) ?_ | with_reducible refine zQ ?_); (conv => whnf))))
    refine aret VLe.tup_sl (σ' := upd σb id (.cells [sl tk2 b, i64v ((b.length : Int) * 8)])) ?_ ⟨rfl, hid, Nat.le_refl _, hb, tk2, ?_⟩
    · have := Sub.upd ho.sub id (.cells [sl tk2 b, i64v ((b.length : Int) * 8)])
      rw [upd_upd] at this
      exact this
    · rw [show (b.length : Int) * 8 = ((8 * b.length : Nat) : Int) by omega]
  · have hok : restOk (unpack b) k = false := decide_eq_false hz
    rw [hok]
    simp only [Bool.false_eq_true, if_false]
    (repeat ((first | refine aload (by (repeat (first | with_reducible exact upd_same _ _ _ | assumption | rw [upd_ne _ _ (by first | assumption | (apply Ne.symm; assumption))]))) rfl ?_ | refine afit_i64 (by omega) ?_ | refine arem_nonneg (by omega) (by omega) ?_ | refine adiv_i64 (by omega) (by omega) ?_ | refine abr_yes (by omega) ?_ | refine abr_no (by omega) ?_ | refine amin ?_ | refine amax ?_ | refine afit_u64 (by omega) ?_ | refine afit_u8 (by omega) ?_ | rw [List.length_map]); ((conv => whnf); (repeat ((first | with_reducible (first | refine zT rfl ?_ | refine zF rfl ?_ | refine zY rfl ?_) | refine zY (by decide) ?_ | refine zN (by decide) ?_ | with_reducible refine zQ ?_); (conv => whnf))))))
    refine astore (upd_same _ _ _) (Nat.le_of_ble_eq_true rfl) rfl rfl ?_
    rw [upd_upd]
    ((conv => whnf); (repeat ((first | with_reducible (first | refine zT rfl ?_ | refine zF rfl ?_ | refine zY rfl ?_) | refine zY (by decide) ?_ | refine zN (by decide) ?_ | with_reducible refine zQ ?_); (conv => whnf))))
    exact aret VLe.tup_sl (Sub.refl _) ⟨rfl, hid, hk, hb, tk2, rfl⟩
end Go.Proofs.Ytgipkpghabelkaa
/-
  Parts of the objects' heap that stand side by side.
-/
namespace Go.Proofs.Ytgipkpghabelkaa
set_option linter.unusedVariables false
set_option linter.unusedSimpArgs false
open Go Go.Am

def join (A σ : AHeap) : AHeap := fun j => match A j with | some o => some o | none => σ j
/-- A heap is another one, and a part of its own beside. -/
def Has (S : AHeap → Prop) (σ σb : AHeap) : Prop := ∃ A, S A ∧ (∀ j, A j ≠ none → σb j = none) ∧ σ = join A σb

theorem Has.sub {S : AHeap → Prop} {σ σb : AHeap} (h : Has S σ σb) : Sub σ σb := by
  obtain ⟨A, _, h2, rfl⟩ := h
  intro j o e
  unfold join
  cases hA : A j with
  | none => exact e
  | some x => rw [h2 j (by rw [hA]; nofun)] at e; cases e
theorem Has.gone {S : AHeap → Prop} {σ σb : AHeap} (h : Has S σ σb) {j : Nat} (hj : σ j = none) : σb j = none := by
  obtain ⟨A, _, h2, rfl⟩ := h
  unfold join at hj
  cases hA : A j with
  | none => rw [hA] at hj; exact hj
  | some x => rw [hA] at hj; cases hj
theorem Has.swap {S T : AHeap → Prop} {σ2 σ1 σ0 : AHeap} (h : Has S σ2 σ1) (k : Has T σ1 σ0) : ∃ σ', Has T σ2 σ' ∧ Has S σ' σ0 := by
  obtain ⟨A, hS, hA, rfl⟩ := h
  obtain ⟨B, hT, hB, rfl⟩ := k
  have hAB : ∀ j, A j ≠ none → B j = none ∧ σ0 j = none := by
    intro j hj
    have := hA j hj
    unfold join at this
    cases hb : B j with
    | none => rw [hb] at this; exact ⟨rfl, this⟩
    | some x => rw [hb] at this; cases this
  refine ⟨join A σ0, ⟨B, hT, ?_, ?_⟩, A, hS, fun j hj => (hAB j hj).2, rfl⟩
  · intro j hj
    unfold join
    cases ha : A j with
    | none => exact hB j hj
    | some x => exact absurd (hAB j (by rw [ha]; nofun)).1 hj
  · funext j
    unfold join
    cases ha : A j with
    | none => rfl
    | some x => rw [(hAB j (by rw [ha]; nofun)).1]

theorem Has.ext {S : AHeap → Prop} {σ σb : AHeap} (h : Has S σ σb) : Ext σb σ := by
  obtain ⟨A, _, h2, rfl⟩ := h
  intro j o _ e
  unfold join
  cases hA : A j with
  | none => exact e
  | some x => rw [h2 j (by rw [hA]; nofun)] at e; cases e

theorem join_upd (A σ : AHeap) (id : Nat) (o : AObj) : join (upd A id o) σ = upd (join A σ) id o := by
  funext j
  unfold join
  by_cases e : j = id
  · subst e; rw [upd_same, upd_same]
  · rw [upd_ne _ _ e, upd_ne _ _ e]
theorem join_none (σ : AHeap) : join (fun _ => none) σ = σ := rfl

theorem Wr.has {σ σb : AHeap} {id : Nat} {bs : List Bool} : Wr σ id bs σb ↔ Has (fun A => Wr A id bs fun _ => none) σ σb := by
  constructor
  · rintro ⟨hid, ⟨hnil, rfl⟩ | ⟨hne, r, hri, hr, rfl⟩⟩
    · refine ⟨_, ⟨rfl, .inl ⟨hnil, rfl⟩⟩, ?_, ?_⟩
      · intro j hj
        by_cases e : j = id
        · subst e; exact hid
        · rw [upd_ne _ _ e] at hj; exact absurd rfl hj
      · rw [join_upd, join_none]
    · refine ⟨_, ⟨rfl, .inr ⟨hne, r, hri, rfl, rfl⟩⟩, ?_, ?_⟩
      · intro j hj
        by_cases e : j = id
        · subst e; exact hid
        · rw [upd_ne _ _ e] at hj
          by_cases e2 : j = r
          · subst e2; exact hr
          · rw [upd_ne _ _ e2] at hj; exact absurd rfl hj
      · rw [join_upd, join_upd, join_none]
  · rintro ⟨A, ⟨_, ⟨hnil, rfl⟩ | ⟨hne, r, hri, _, rfl⟩⟩, hd, rfl⟩
    · have hid := hd id (by rw [upd_same]; nofun)
      exact ⟨hid, .inl ⟨hnil, by rw [join_upd, join_none]⟩⟩
    · have hid := hd id (by rw [upd_same]; nofun)
      have hr := hd r (by rw [upd_ne _ _ hri, upd_same]; nofun)
      exact ⟨hid, .inr ⟨hne, r, hri, hr, by rw [join_upd, join_upd, join_none]⟩⟩
theorem Rd.has {σ σb : AHeap} {id : Nat} {b : List UInt8} {k : Nat} : Rd σ id b k σb ↔ Has (fun A => Rd A id b k fun _ => none) σ σb := by
  constructor
  · rintro ⟨hid, h1, h2, tk, rfl⟩
    refine ⟨_, ⟨rfl, h1, h2, tk, rfl⟩, ?_, ?_⟩
    · intro j hj
      by_cases e : j = id
      · subst e; exact hid
      · rw [upd_ne _ _ e] at hj; exact absurd rfl hj
    · rw [join_upd, join_none]
  · rintro ⟨A, ⟨_, h1, h2, tk, rfl⟩, hd, rfl⟩
    exact ⟨hd id (by rw [upd_same]; nofun), h1, h2, tk, by rw [join_upd, join_none]⟩
theorem Wr.sub {σ σb : AHeap} {id : Nat} {bs : List Bool} (h : Wr σ id bs σb) : Sub σ σb := (Wr.has.1 h).sub
theorem Rd.sub {σ σb : AHeap} {id : Nat} {b : List UInt8} {k : Nat} (h : Rd σ id b k σb) : Sub σ σb := (Rd.has.1 h).sub
theorem swap_rw {σ2 σ1 σ0 : AHeap} {i j : Nat} {b : List UInt8} {k : Nat} {bs : List Bool} (h : Rd σ2 i b k σ1) (h' : Wr σ1 j bs σ0) : ∃ σ', Wr σ2 j bs σ' ∧ Rd σ' i b k σ0 := by
  obtain ⟨σ', h1, h2⟩ := (Rd.has.1 h).swap (Wr.has.1 h'); exact ⟨σ', Wr.has.2 h1, Rd.has.2 h2⟩
theorem swap_wr {σ2 σ1 σ0 : AHeap} {i j : Nat} {b : List UInt8} {k : Nat} {bs : List Bool} (h : Wr σ2 j bs σ1) (h' : Rd σ1 i b k σ0) : ∃ σ', Rd σ2 i b k σ' ∧ Wr σ' j bs σ0 := by
  obtain ⟨σ', h1, h2⟩ := (Wr.has.1 h).swap (Rd.has.1 h'); exact ⟨σ', Rd.has.2 h1, Wr.has.2 h2⟩
theorem swap_ww {σ2 σ1 σ0 : AHeap} {i j : Nat} {cs bs : List Bool} (h : Wr σ2 i cs σ1) (h' : Wr σ1 j bs σ0) : ∃ σ', Wr σ2 j bs σ' ∧ Wr σ' i cs σ0 := by
  obtain ⟨σ', h1, h2⟩ := (Wr.has.1 h).swap (Wr.has.1 h'); exact ⟨σ', Wr.has.2 h1, Wr.has.2 h2⟩
theorem swap_rr {σ2 σ1 σ0 : AHeap} {i j : Nat} {b b' : List UInt8} {k k' : Nat} (h : Rd σ2 i b k σ1) (h' : Rd σ1 j b' k' σ0) : ∃ σ', Rd σ2 j b' k' σ' ∧ Rd σ' i b k σ0 := by
  obtain ⟨σ', h1, h2⟩ := (Rd.has.1 h).swap (Rd.has.1 h'); exact ⟨σ', Rd.has.2 h1, Rd.has.2 h2⟩
theorem Wr.ext {σ σb : AHeap} {id : Nat} {bs : List Bool} (h : Wr σ id bs σb) : Ext σb σ := (Wr.has.1 h).ext
theorem Rd.ext {σ σb : AHeap} {id : Nat} {b : List UInt8} {k : Nat} (h : Rd σ id b k σb) : Ext σb σ := (Rd.has.1 h).ext
end Go.Proofs.Ytgipkpghabelkaa
/-
  How many bytes lengths have.
-/
namespace Go.Proofs.Ytgipkpghabelkaa
set_option linter.unusedVariables false
set_option linter.unusedSimpArgs false
open Go Go.Am

abbrev ints (t : Tok) (l : List Int) : AVal := .slice 1 (l.map i64v) t
theorem get_ints {l : List Int} {i : Nat} (h : i < l.length) : (l.map i64v)[((i : Nat) : Int).toNat]? = some (i64v l[i]) := by
  rw [Int.toNat_natCast, List.getElem?_map, List.getElem?_eq_getElem h]; rfl

def widthOk (w : Int) : Bool := decide (w = 11) || decide (w = 15)
theorem widthOk_iff {w : Int} : widthOk w = true ↔ w = 11 ∨ w = 15 := by simp [widthOk]
theorem widthNo {w : Int} (h : ¬ (w = 11 ∨ w = 15)) : widthOk w = false := by simp only [← widthOk_iff] at h; simpa using h

def sizeV (n w : Int) : Int := if widthOk w = false ∨ n < 1 ∨ n > 23 then 0 else (n * (w + 1) + 7) / 8

theorem lIsWidth (w : Int) (σ : AHeap) : ACalls Try.prog i_lens_isWidth [i64v w] σ fun v σ' => v = boolv (widthOk w) ∧ σ' = σ := by
  refine k_lens_isWidth rfl ?_
  ((conv => whnf); (repeat ((first | with_reducible (first | refine zT rfl ?_ | refine zF rfl ?_ | refine zY rfl ?_) | refine zY (by decide) ?_ | refine zN (by decide) ?_ | with_reducible refine zQ ?_); (conv => whnf))))
  by_cases h : w = 11
  · subst h
    ((conv => whnf); (repeat ((first | with_reducible (first | refine zT rfl ?_ | refine zF rfl ?_ | refine zY rfl ?_) | refine zY (by decide) ?_ | refine zN (by decide) ?_ | with_reducible refine zQ ?_); (conv => whnf))))
    exact aret_same ⟨rfl, rfl⟩
  · refine abr_no h ?_
    ((conv => whnf); (repeat ((first | with_reducible (first | refine zT rfl ?_ | refine zF rfl ?_ | refine zY rfl ?_) | refine zY (by decide) ?_ | refine zN (by decide) ?_ | with_reducible refine zQ ?_); (conv => whnf))))
    refine aret_same ⟨?_, rfl⟩
    unfold widthOk
    rw [decide_eq_false h, Bool.false_or]

theorem lSize (n w : Int) (σ : AHeap) : ACalls Try.prog i_lens_Size [i64v n, i64v w] σ fun v σ' => v = i64v (sizeV n w) ∧ σ' = σ := by
  refine k_lens_Size rfl ?_
  ((conv => whnf); (repeat ((first | with_reducible (first | refine zT rfl ?_ | refine zF rfl ?_ | refine zY rfl ?_) | refine zY (by decide) ?_ | refine zN (by decide) ?_ | with_reducible refine zQ ?_); (conv => whnf))))
  refine acall (lIsWidth w _) ?_
  rintro _ σ_ ⟨rfl, e_⟩
  obtain rfl := e_.symm
  refine ⟨?_, Ext.refl _⟩
  ((conv => whnf); (repeat ((first | with_reducible (first | refine zT rfl ?_ | refine zF rfl ?_ | refine zY rfl ?_) | refine zY (by decide) ?_ | refine zN (by decide) ?_ | with_reducible refine zQ ?_); (conv => whnf))))
  by_cases hw : w = 11 ∨ w = 15
  · rw [widthOk_iff.2 hw]
    ((conv => whnf); (repeat ((first | with_reducible (first | refine zT rfl ?_ | refine zF rfl ?_ | refine zY rfl ?_) | refine zY (by decide) ?_ | refine zN (by decide) ?_ | with_reducible refine zQ ?_); (conv => whnf))))
    by_cases h1 : n < 1
    · (repeat ((first | refine aload (by (repeat (first | with_reducible exact upd_same _ _ _ | assumption | rw [upd_ne _ _ (by first | assumption | (apply Ne.symm; assumption))]))) rfl ?_ | refine afit_i64 (by omega) ?_ | refine arem_nonneg (by omega) (by omega) ?_ | refine adiv_i64 (by omega) (by omega) ?_ | refine abr_yes (by omega) ?_ | refine abr_no (by omega) ?_ | refine amin ?_ | refine amax ?_ | refine afit_u64 (by omega) ?_ | refine afit_u8 (by omega) ?_ | rw [List.length_map]); ((conv => whnf); (repeat ((first | with_reducible (first | refine zT rfl ?_ | refine zF rfl ?_ | refine zY rfl ?_) | refine zY (by decide) ?_ | refine zN (by decide) ?_ | with_reducible refine zQ ?_); (conv => whnf))))))
      exact aret_same ⟨by unfold sizeV; rw [if_pos (.inr (.inl h1))], rfl⟩
    · by_cases h2 : n > 23
      · (repeat ((first | refine aload (by (repeat (first | with_reducible exact upd_same _ _ _ | assumption | rw [upd_ne _ _ (by first | assumption | (apply Ne.symm; assumption))]))) rfl ?_ | refine afit_i64 (by omega) ?_ | refine arem_nonneg (by omega) (by omega) ?_ | refine adiv_i64 (by omega) (by omega) ?_ | refine abr_yes (by omega) ?_ | refine abr_no (by omega) ?_ | refine amin ?_ | refine amax ?_ | refine afit_u64 (by omega) ?_ | refine afit_u8 (by omega) ?_ | rw [List.length_map]); ((conv => whnf); (repeat ((first | with_reducible (first | refine zT rfl ?_ | refine zF rfl ?_ | refine zY rfl ?_) | refine zY (by decide) ?_ | refine zN (by decide) ?_ | with_reducible refine zQ ?_); (conv => whnf))))))
        exact aret_same ⟨by unfold sizeV; rw [if_pos (.inr (.inr h2))], rfl⟩
      · (repeat ((first | refine aload (by (repeat (first | with_reducible exact upd_same _ _ _ | assumption | rw [upd_ne _ _ (by first | assumption | (apply Ne.symm; assumption))]))) rfl ?_ | refine afit_i64 (by omega) ?_ | refine arem_nonneg (by omega) (by omega) ?_ | refine adiv_i64 (by omega) (by omega) ?_ | refine abr_yes (by omega) ?_ | refine abr_no (by omega) ?_ | refine amin ?_ | refine amax ?_ | refine afit_u64 (by omega) ?_ | refine afit_u8 (by omega) ?_ | rw [List.length_map]); ((conv => whnf); (repeat ((first | with_reducible (first | refine zT rfl ?_ | refine zF rfl ?_ | refine zY rfl ?_) | refine zY (by decide) ?_ | refine zN (by decide) ?_ | with_reducible refine zQ ?_); (conv => whnf))))))
        have e : sizeV n w = (n * (w + 1) + 7) / 8 := by
          unfold sizeV; rw [if_neg]; rw [widthOk_iff.2 hw]
          rintro (h | h | h)
          · cases h
          · exact h1 h
          · exact h2 h
        have hb : 0 ≤ n * (w + 1) ∧ n * (w + 1) ≤ 368 := by
          rcases hw with rfl | rfl <;> omega
        generalize n * (w + 1) = q at hb e
        refine afit_i64 (by omega) ?_
        ((conv => whnf); (repeat ((first | with_reducible (first | refine zT rfl ?_ | refine zF rfl ?_ | refine zY rfl ?_) | refine zY (by decide) ?_ | refine zN (by decide) ?_ | with_reducible refine zQ ?_); (conv => whnf))))
        (repeat ((first | refine aload (by (repeat (first | with_reducible exact upd_same _ _ _ | assumption | rw [upd_ne _ _ (by first | assumption | (apply Ne.symm; assumption))]))) rfl ?_ | refine afit_i64 (by omega) ?_ | refine arem_nonneg (by omega) (by omega) ?_ | refine adiv_i64 (by omega) (by omega) ?_ | refine abr_yes (by omega) ?_ | refine abr_no (by omega) ?_ | refine amin ?_ | refine amax ?_ | refine afit_u64 (by omega) ?_ | refine afit_u8 (by omega) ?_ | rw [List.length_map]); ((conv => whnf); (repeat ((first | with_reducible (first | refine zT rfl ?_ | refine zF rfl ?_ | refine zY rfl ?_) | refine zY (by decide) ?_ | refine zN (by decide) ?_ | with_reducible refine zQ ?_); (conv => whnf))))))
        refine aret_same ⟨?_, rfl⟩
        rw [e, show q + 8 - 1 = q + 7 by omega]
  · rw [widthNo hw]
    ((conv => whnf); (repeat ((first | with_reducible (first | refine zT rfl ?_ | refine zF rfl ?_ | refine zY rfl ?_) | refine zY (by decide) ?_ | refine zN (by decide) ?_ | with_reducible refine zQ ?_); (conv => whnf))))
    exact aret_same ⟨by unfold sizeV; rw [if_pos (.inl (widthNo hw))], rfl⟩

theorem sizeV_range (n w : Int) : 0 ≤ sizeV n w ∧ sizeV n w ≤ 50 := by
  unfold sizeV
  split
  · omega
  · rename_i h
    have hw : w = 11 ∨ w = 15 := by
      refine Classical.byContradiction fun hn => h (.inl (widthNo hn))
    have h1 : ¬ n < 1 := fun k => h (.inr (.inl k))
    have h2 : ¬ n > 23 := fun k => h (.inr (.inr k))
    rcases hw with rfl | rfl <;> omega
end Go.Proofs.Ytgipkpghabelkaa
/-
  How long fields are: sizes, and what is written.
-/
namespace Go.Proofs.Ytgipkpghabelkaa
set_option linter.unusedVariables false
set_option linter.unusedSimpArgs false
open Go Go.Am

def badLen (W : Nat) (n : Int) : Bool := decide (n < 1 ∨ n ≥ ((2 ^ W : Nat) : Int))
/-- The bits of the first lengths. -/
def lenBits (l : List Int) (W : Nat) (i : Nat) : List Bool := (List.range i).flatMap fun j => decide (j + 1 < l.length) :: numBits ((l[j]?.getD 0).toNat) W
theorem lenBits_succ (l : List Int) (W i : Nat) : lenBits l W (i + 1) = lenBits l W i ++ (decide (i + 1 < l.length) :: numBits ((l[i]?.getD 0).toNat) W) := by
  unfold lenBits; rw [List.range_succ, List.flatMap_append]; simp
theorem lenBits_length (l : List Int) (W i : Nat) : (lenBits l W i).length = i * (W + 1) := by
  induction i with
  | zero => rw [Nat.zero_mul]; rfl
  | succ i ih => rw [lenBits_succ, List.length_append, ih, List.length_cons, numBits_length, Nat.succ_mul]
def writeCode (l : List Int) (w : Int) : Int := if widthOk w = false then 9 else if l.length = 0 then 4 else if l.length > 23 then 2 else if l.any (badLen w.toNat) = true then 1 else 0
def writeBytes (l : List Int) (w : Int) : List UInt8 := if writeCode l w = 0 then pack (lenBits l w.toNat l.length) else []

theorem shl1_i64 {W : Nat} (h : W = 11 ∨ W = 15) : IntKind.i64.wrap ((1 : Int) * 2 ^ (min ((W : Nat) : Int).toNat IntKind.i64.bits)) = ((2 ^ W : Nat) : Int) := by
  rcases h with rfl | rfl <;> decide
theorem put_bit (bs : List Bool) (b : Bool) (h : bs.length < 65536) : putCode bs.length b.toNat 1 = 0 ∧ putBits bs b.toNat 1 = bs ++ [b] := by
  have hc : putCode bs.length b.toNat 1 = 0 := putCode_fine (by cases b <;> decide) (by omega)
  refine ⟨hc, ?_⟩
  rw [putBits_ok hc]
  cases b <;> rfl
theorem put_num (bs : List Bool) (v W : Nat) (h : bs.length + W ≤ 65536) (hW : W ≤ 64) (hv : v < 2 ^ W) : putCode bs.length v W = 0 ∧ putBits bs v W = bs ++ numBits v W := by
  have hc : putCode bs.length v W = 0 := by
    refine putCode_fine ?_ (by omega)
    unfold putBad
    rw [decide_eq_false (by omega), decide_eq_false (by omega), decide_eq_false]
    · rfl
    · rw [Int.toNat_natCast]; exact fun h => h (Nat.div_eq_of_lt hv)
  exact ⟨hc, putBits_ok hc⟩

set_option maxRecDepth 10000 in
theorem lWrite (l : List Int) (t : Tok) (w : Int) (σ : AHeap) (hl : l.length ≤ 4611686018427387904) : ACalls Try.prog i_lens_Write [ints t l, i64v w] σ fun v σ' => v = .tup [sl .none (writeBytes l w), i64v (writeCode l w)] ∧ σ' = σ := by
  refine k_lens_Write rfl ?_
  ((conv => whnf); (repeat ((first | with_reducible (first | refine zT rfl ?_ | refine zF rfl ?_ | refine zY rfl ?_) | refine zY (by decide) ?_ | refine zN (by decide) ?_ | with_reducible refine zQ ?_); (conv => whnf))))
  refine acall (lIsWidth w _) ?_
  rintro _ σ_ ⟨rfl, e_⟩
  obtain rfl := e_.symm
  refine ⟨?_, Ext.refl _⟩
  ((conv => whnf); (repeat ((first | with_reducible (first | refine zT rfl ?_ | refine zF rfl ?_ | refine zY rfl ?_) | refine zY (by decide) ?_ | refine zN (by decide) ?_ | with_reducible refine zQ ?_); (conv => whnf))))
  by_cases hw : w = 11 ∨ w = 15
  · have hok := widthOk_iff.2 hw
    obtain ⟨W, rfl⟩ : ∃ W : Nat, w = W := ⟨w.toNat, by omega⟩
    have hW : W = 11 ∨ W = 15 := by omega
    have hp := shl1_i64 hW
    have hpw : 2 ^ W ≤ 32768 := by rcases hW with rfl | rfl <;> decide
    rw [hok]
    ((conv => whnf); (repeat ((first | with_reducible (first | refine zT rfl ?_ | refine zF rfl ?_ | refine zY rfl ?_) | refine zY (by decide) ?_ | refine zN (by decide) ?_ | with_reducible refine zQ ?_); (conv => whnf))))
    by_cases h0 : l.length = 0
    · have hc : writeCode l ((W : Nat) : Int) = 4 := by unfold writeCode; rw [hok]; simp [h0]
      (repeat ((first | refine aload (by (repeat (first | with_reducible exact upd_same _ _ _ | assumption | rw [upd_ne _ _ (by first | assumption | (apply Ne.symm; assumption))]))) rfl ?_ | refine afit_i64 (by omega) ?_ | refine arem_nonneg (by omega) (by omega) ?_ | refine adiv_i64 (by omega) (by omega) ?_ | refine abr_yes (by omega) ?_ | refine abr_no (by omega) ?_ | refine amin ?_ | refine amax ?_ | refine afit_u64 (by omega) ?_ | refine afit_u8 (by omega) ?_ | rw [List.length_map]); ((conv => whnf); (repeat ((first | with_reducible (first | refine zT rfl ?_ | refine zF rfl ?_ | refine zY rfl ?_) | refine zY (by decide) ?_ | refine zN (by decide) ?_ | with_reducible refine zQ ?_); (conv => whnf))))))
      exact aret VLe.tup_sl (Sub.refl _) ⟨by unfold writeBytes; rw [hc]; rfl, rfl⟩
    · by_cases h23 : l.length > 23
      · have hc : writeCode l ((W : Nat) : Int) = 2 := by unfold writeCode; rw [hok]; simp [h0, h23]
        (repeat ((first | refine aload (by (repeat (first | with_reducible exact upd_same _ _ _ | assumption | rw [upd_ne _ _ (by first | assumption | (apply Ne.symm; assumption))]))) rfl ?_ | refine afit_i64 (by omega) ?_ | refine arem_nonneg (by omega) (by omega) ?_ | refine adiv_i64 (by omega) (by omega) ?_ | refine abr_yes (by omega) ?_ | refine abr_no (by omega) ?_ | refine amin ?_ | refine amax ?_ | refine afit_u64 (by omega) ?_ | refine afit_u8 (by omega) ?_ | rw [List.length_map]); ((conv => whnf); (repeat ((first | with_reducible (first | refine zT rfl ?_ | refine zF rfl ?_ | refine zY rfl ?_) | refine zY (by decide) ?_ | refine zN (by decide) ?_ | with_reducible refine zQ ?_); (conv => whnf))))))
        exact aret VLe.tup_sl (Sub.refl _) ⟨by unfold writeBytes; rw [hc]; rfl, rfl⟩
      · (repeat ((first | refine aload (by (repeat (first | with_reducible exact upd_same _ _ _ | assumption | rw [upd_ne _ _ (by first | assumption | (apply Ne.symm; assumption))]))) rfl ?_ | refine afit_i64 (by omega) ?_ | refine arem_nonneg (by omega) (by omega) ?_ | refine adiv_i64 (by omega) (by omega) ?_ | refine abr_yes (by omega) ?_ | refine abr_no (by omega) ?_ | refine amin ?_ | refine amax ?_ | refine afit_u64 (by omega) ?_ | refine afit_u8 (by omega) ?_ | rw [List.length_map]); ((conv => whnf); (repeat ((first | with_reducible (first | refine zT rfl ?_ | refine zF rfl ?_ | refine zY rfl ?_) | refine zY (by decide) ?_ | refine zN (by decide) ?_ | with_reducible refine zQ ?_); (conv => whnf))))))
        refine acall (wNew _) ?_
        rintro _ σ1 ⟨id, rfl, w1⟩
        refine ⟨?_, w1.ext⟩
        ((conv => whnf); (repeat ((first | with_reducible (first | refine zT rfl ?_ | refine zF rfl ?_ | refine zY rfl ?_) | refine zY (by decide) ?_ | refine zN (by decide) ?_ | with_reducible refine zQ ?_); (conv => whnf))))
        try rw [List.length_map]
        refine aloop (α := Nat × AHeap) (fun x => [(s25, i64v x.1)]) (fun x => x.2) (fun x => x.1 ≤ l.length ∧ Wr x.2 id (lenBits l W x.1) σ ∧ ∀ j (h : j < l.length), j < x.1 → badLen W l[j] = false) (fun x => l.length - x.1) (0, σ1) ⟨Nat.zero_le _, w1, fun _ _ h => by omega⟩ (Sub.refl _) ?_ ?_
        · ((conv => whnf); (repeat ((first | with_reducible (first | refine zT rfl ?_ | refine zF rfl ?_ | refine zY rfl ?_) | refine zY (by decide) ?_ | refine zN (by decide) ?_ | with_reducible refine zQ ?_); (conv => whnf))))
          (repeat' first | with_reducible exact EnvLe.refl _ | (refine EnvLe.node ?_ (by first | exact Or.inl rfl | exact Or.inr (Or.inl rfl) | exact Or.inr (Or.inr ⟨nofun, VLe.slice _ _ _⟩)) ?_))
        · rintro ⟨i, σ2⟩ ⟨hi, w2, hgood⟩
          dsimp only at hi w2 hgood ⊢
          have hbl := lenBits_length l W i
          have hbl2 : i * (W + 1) ≤ 23 * 16 := Nat.mul_le_mul (by omega) (by omega)
          by_cases h : i < l.length
          · ((conv => whnf); (repeat ((first | with_reducible (first | refine zT rfl ?_ | refine zF rfl ?_ | refine zY rfl ?_) | refine zY (by decide) ?_ | refine zN (by decide) ?_ | with_reducible refine zQ ?_); (conv => whnf))))
            (repeat ((first | refine aload (by (repeat (first | with_reducible exact upd_same _ _ _ | assumption | rw [upd_ne _ _ (by first | assumption | (apply Ne.symm; assumption))]))) rfl ?_ | refine afit_i64 (by omega) ?_ | refine arem_nonneg (by omega) (by omega) ?_ | refine adiv_i64 (by omega) (by omega) ?_ | refine abr_yes (by omega) ?_ | refine abr_no (by omega) ?_ | refine amin ?_ | refine amax ?_ | refine afit_u64 (by omega) ?_ | refine afit_u8 (by omega) ?_ | rw [List.length_map]); ((conv => whnf); (repeat ((first | with_reducible (first | refine zT rfl ?_ | refine zF rfl ?_ | refine zY rfl ?_) | refine zY (by decide) ?_ | refine zN (by decide) ?_ | with_reducible refine zQ ?_); (conv => whnf))))))
            refine aget (by omega) (get_ints h) ?_
            ((conv => whnf); (repeat ((first | with_reducible (first | refine zT rfl ?_ | refine zF rfl ?_ | refine zY rfl ?_) | refine zY (by decide) ?_ | refine zN (by decide) ?_ | with_reducible refine zQ ?_); (conv => whnf))))
            refine acell rfl ?_
            ((conv => whnf); (repeat ((first | with_reducible (first | refine zT rfl ?_ | refine zF rfl ?_ | refine zY rfl ?_) | refine zY (by decide) ?_ | refine zN (by decide) ?_ | with_reducible refine zQ ?_); (conv => whnf))))
            have bad (hbad : badLen W l[i] = true) : writeCode l ((W : Nat) : Int) = 1 := by
              unfold writeCode
              rw [hok, if_neg (by simp), if_neg h0, if_neg h23, if_pos]
              rw [Int.toNat_natCast, List.any_eq_true]
              exact ⟨_, List.getElem_mem h, hbad⟩
            by_cases h1 : l[i] < 1
            · have hc := bad (decide_eq_true (.inl h1))
              (repeat ((first | refine aload (by (repeat (first | with_reducible exact upd_same _ _ _ | assumption | rw [upd_ne _ _ (by first | assumption | (apply Ne.symm; assumption))]))) rfl ?_ | refine afit_i64 (by omega) ?_ | refine arem_nonneg (by omega) (by omega) ?_ | refine adiv_i64 (by omega) (by omega) ?_ | refine abr_yes (by omega) ?_ | refine abr_no (by omega) ?_ | refine amin ?_ | refine amax ?_ | refine afit_u64 (by omega) ?_ | refine afit_u8 (by omega) ?_ | rw [List.length_map]); ((conv => whnf); (repeat ((first | with_reducible (first | refine zT rfl ?_ | refine zF rfl ?_ | refine zY rfl ?_) | refine zY (by decide) ?_ | refine zN (by decide) ?_ | with_reducible refine zQ ?_); (conv => whnf))))))
              exact aret VLe.tup_sl w2.sub ⟨by unfold writeBytes; rw [hc]; rfl, rfl⟩
            · refine abr_no h1 ?_
              ((conv => whnf); (repeat ((first | with_reducible (first | refine zT rfl ?_ | refine zF rfl ?_ | refine zY rfl ?_) | refine zY (by decide) ?_ | refine zN (by decide) ?_ | with_reducible refine zQ ?_); (conv => whnf))))
              refine ashl_eq (by omega) hp ?_
              ((conv => whnf); (repeat ((first | with_reducible (first | refine zT rfl ?_ | refine zF rfl ?_ | refine zY rfl ?_) | refine zY (by decide) ?_ | refine zN (by decide) ?_ | with_reducible refine zQ ?_); (conv => whnf))))
              by_cases h2 : l[i] ≥ ((2 ^ W : Nat) : Int)
              · have hc := bad (decide_eq_true (.inr h2))
                refine abr_yes h2 ?_
                ((conv => whnf); (repeat ((first | with_reducible (first | refine zT rfl ?_ | refine zF rfl ?_ | refine zY rfl ?_) | refine zY (by decide) ?_ | refine zN (by decide) ?_ | with_reducible refine zQ ?_); (conv => whnf))))
                exact aret VLe.tup_sl w2.sub ⟨by unfold writeBytes; rw [hc]; rfl, rfl⟩
              · have hg : badLen W l[i] = false := decide_eq_false (by omega)
                refine abr_no h2 ?_
                ((conv => whnf); (repeat ((first | with_reducible (first | refine zT rfl ?_ | refine zF rfl ?_ | refine zY rfl ?_) | refine zY (by decide) ?_ | refine zN (by decide) ?_ | with_reducible refine zQ ?_); (conv => whnf))))
                (repeat ((first | refine aload (by (repeat (first | with_reducible exact upd_same _ _ _ | assumption | rw [upd_ne _ _ (by first | assumption | (apply Ne.symm; assumption))]))) rfl ?_ | refine afit_i64 (by omega) ?_ | refine arem_nonneg (by omega) (by omega) ?_ | refine adiv_i64 (by omega) (by omega) ?_ | refine abr_yes (by omega) ?_ | refine abr_no (by omega) ?_ | refine amin ?_ | refine amax ?_ | refine afit_u64 (by omega) ?_ | refine afit_u8 (by omega) ?_ | rw [List.length_map]); ((conv => whnf); (repeat ((first | with_reducible (first | refine zT rfl ?_ | refine zF rfl ?_ | refine zY rfl ?_) | refine zY (by decide) ?_ | refine zN (by decide) ?_ | with_reducible refine zQ ?_); (conv => whnf))))))
                have hlt : l[i].toNat < 2 ^ W := by omega
                have hnat : ((l[i].toNat : Nat) : Int) = l[i] := by omega
                have hget : l[i]?.getD 0 = l[i] := by rw [List.getElem?_eq_getElem h]; rfl
                have b1 := put_bit (lenBits l W i) (decide (i + 1 < l.length)) (by omega)
                have b2 := put_num (lenBits l W i ++ [decide (i + 1 < l.length)]) l[i].toNat W (by rw [List.length_append, hbl]; show _ + 1 + W ≤ _; omega) (by omega) hlt
                have next : lenBits l W (i + 1) = lenBits l W i ++ [decide (i + 1 < l.length)] ++ numBits l[i].toNat W := by
                  rw [lenBits_succ, hget]; simp
                have good2 : ∀ j (h : j < l.length), j < i + 1 → badLen W l[j] = false := by
                  intro j hj hji
                  by_cases e : j = i
                  · subst e; exact hg
                  · exact hgood j hj (by omega)
                by_cases hlast : i + 1 < l.length
                all_goals
                  first
                    | rw [decide_eq_true hlast] at b1 b2 next
                    | rw [decide_eq_false hlast] at b1 b2 next
                  first
                    | refine abr_yes (by omega) ?_
                    | refine abr_no (by omega) ?_
                  ((conv => whnf); (repeat ((first | with_reducible (first | refine zT rfl ?_ | refine zF rfl ?_ | refine zY rfl ?_) | refine zY (by decide) ?_ | refine zN (by decide) ?_ | with_reducible refine zQ ?_); (conv => whnf))))
                  refine acall (wPut id _ _ 1 _ _ w2 (by decide) (by omega)) ?_
                  rintro _ σ3 ⟨rfl, w3⟩
                  first
                    | rw [show putBits (lenBits l W i) 1 1 = _ from b1.2] at w3
                    | rw [show putBits (lenBits l W i) 0 1 = _ from b1.2] at w3
                  ((conv => whnf); (repeat ((first | with_reducible (first | refine zT rfl ?_ | refine zF rfl ?_ | refine zY rfl ?_) | refine zY (by decide) ?_ | refine zN (by decide) ?_ | with_reducible refine zQ ?_); (conv => whnf))))
                  refine afit_eq (m := ((l[i].toNat : Nat) : Int)) (by rw [← hnat]; exact wrap_u64 (by omega) (by omega)) ?_
                  ((conv => whnf); (repeat ((first | with_reducible (first | refine zT rfl ?_ | refine zF rfl ?_ | refine zY rfl ?_) | refine zY (by decide) ?_ | refine zN (by decide) ?_ | with_reducible refine zQ ?_); (conv => whnf))))
                  refine acall (wPut id _ l[i].toNat _ _ _ w3 (by omega) (by rw [List.length_append, hbl]; show _ + 1 ≤ _; omega)) ?_
                  rintro _ σ4 ⟨rfl, w4⟩
                  rw [b2.2, ← next] at w4
                  ((conv => whnf); (repeat ((first | with_reducible (first | refine zT rfl ?_ | refine zF rfl ?_ | refine zY rfl ?_) | refine zY (by decide) ?_ | refine zN (by decide) ?_ | with_reducible refine zQ ?_); (conv => whnf))))
                  (repeat ((first | refine aload (by (repeat (first | with_reducible exact upd_same _ _ _ | assumption | rw [upd_ne _ _ (by first | assumption | (apply Ne.symm; assumption))]))) rfl ?_ | refine afit_i64 (by omega) ?_ | refine arem_nonneg (by omega) (by omega) ?_ | refine adiv_i64 (by omega) (by omega) ?_ | refine abr_yes (by omega) ?_ | refine abr_no (by omega) ?_ | refine amin ?_ | refine amax ?_ | refine afit_u64 (by omega) ?_ | refine afit_u8 (by omega) ?_ | rw [List.length_map]); ((conv => whnf); (repeat ((first | with_reducible (first | refine zT rfl ?_ | refine zF rfl ?_ | refine zY rfl ?_) | refine zY (by decide) ?_ | refine zN (by decide) ?_ | with_reducible refine zQ ?_); (conv => whnf))))))
                  refine ⟨(i + 1, σ4), ⟨by dsimp only; omega, w4, good2⟩, by dsimp only; omega, Sub.refl _, ?_⟩
                  ((conv => whnf); (repeat ((first | with_reducible (first | refine zT rfl ?_ | refine zF rfl ?_ | refine zY rfl ?_) | refine zY (by decide) ?_ | refine zN (by decide) ?_ | with_reducible refine zQ ?_); (conv => whnf))))
                  (repeat' first | with_reducible exact EnvLe.refl _ | (refine EnvLe.node ?_ (by first | exact Or.inl rfl | exact Or.inr (Or.inl rfl) | exact Or.inr (Or.inr ⟨nofun, VLe.slice _ _ _⟩)) ?_))
          · have hil : i = l.length := by omega
            have hc : writeCode l ((W : Nat) : Int) = 0 := by
              unfold writeCode
              rw [hok, if_neg (by simp), if_neg h0, if_neg h23, if_neg]
              rw [Int.toNat_natCast, List.any_eq_true]
              rintro ⟨x, hx, hb⟩
              obtain ⟨j, hj, rfl⟩ := List.getElem_of_mem hx
              rw [hgood j hj (by omega)] at hb; cases hb
            ((conv => whnf); (repeat ((first | with_reducible (first | refine zT rfl ?_ | refine zF rfl ?_ | refine zY rfl ?_) | refine zY (by decide) ?_ | refine zN (by decide) ?_ | with_reducible refine zQ ?_); (conv => whnf))))
            (repeat ((first | refine aload (by (repeat (first | with_reducible exact upd_same _ _ _ | assumption | rw [upd_ne _ _ (by first | assumption | (apply Ne.symm; assumption))]))) rfl ?_ | refine afit_i64 (by omega) ?_ | refine arem_nonneg (by omega) (by omega) ?_ | refine adiv_i64 (by omega) (by omega) ?_ | refine abr_yes (by omega) ?_ | refine abr_no (by omega) ?_ | refine amin ?_ | refine amax ?_ | refine afit_u64 (by omega) ?_ | refine afit_u8 (by omega) ?_ | rw [List.length_map]); ((conv => whnf); (repeat ((first | with_reducible (first | refine zT rfl ?_ | refine zF rfl ?_ | refine zY rfl ?_) | refine zY (by decide) ?_ | refine zN (by decide) ?_ | with_reducible refine zQ ?_); (conv => whnf))))))
            refine acall (wBytes id _ _ _ w2 (by omega)) ?_
            rintro _ σ_ ⟨rfl, e_⟩
            obtain rfl := e_.symm
            refine ⟨?_, Ext.refl _⟩
            ((conv => whnf); (repeat ((first | with_reducible (first | refine zT rfl ?_ | refine zF rfl ?_ | refine zY rfl ?_) | refine zY (by decide) ?_ | refine zN (by decide) ?_ | with_reducible refine zQ ?_); (conv => whnf))))
            exact aret VLe.tup_sl w2.sub ⟨by unfold writeBytes; rw [hc, if_pos rfl, Int.toNat_natCast, hil], rfl⟩
  · have hno := widthNo hw
    have hc : writeCode l w = 9 := by unfold writeCode; rw [if_pos hno]
    rw [hno]
    ((conv => whnf); (repeat ((first | with_reducible (first | refine zT rfl ?_ | refine zF rfl ?_ | refine zY rfl ?_) | refine zY (by decide) ?_ | refine zN (by decide) ?_ | with_reducible refine zQ ?_); (conv => whnf))))
    exact aret VLe.tup_sl (Sub.refl _) ⟨by unfold writeBytes; rw [hc]; rfl, rfl⟩
end Go.Proofs.Ytgipkpghabelkaa
/-
  Numbers that (repeat ((first | refine aload (by (repeat (first | with_reducible exact upd_same _ _ _ | assumption | rw [upd_ne _ _ (by first | assumption | (apply Ne.symm; assumption))]))) rfl ?_ | refine afit_i64 (by omega) ?_ | refine arem_nonneg (by omega) (by omega) ?_ | refine adiv_i64 (by omega) (by omega) ?_ | refine abr_yes (by omega) ?_ | refine abr_no (by omega) ?_ | refine amin ?_ | refine amax ?_ | refine afit_u64 (by omega) ?_ | refine afit_u8 (by omega) ?_ | rw [List.length_map]); ((conv => whnf); (repeat ((first | with_reducible (first | refine zT rfl ?_ | refine zF rfl ?_ | refine zY rfl ?_) | refine zY (by decide) ?_ | refine zN (by decide) ?_ | with_reducible refine zQ ?_); (conv => whnf)))))) round: which they are.
-/
namespace Go.Proofs.Ytgipkpghabelkaa
set_option linter.unusedVariables false
set_option linter.unusedSimpArgs false
open Go Go.Am

def spaceOk (w : Int) : Prop := 1 ≤ w ∧ w ≤ 16
instance (w : Int) : Decidable (spaceOk w) := by unfold spaceOk; infer_instance
def spaceSize (w : Int) : Int := if spaceOk w then ((2 ^ w.toNat : Nat) : Int) else 0
def isNum (w n : Int) : Bool := decide (0 ≤ n ∧ n < spaceSize w)
theorem spaceSize_le (w : Int) : 0 ≤ spaceSize w ∧ spaceSize w ≤ 65536 := by
  unfold spaceSize
  split
  · rename_i h
    have h1 : 2 ^ w.toNat ≤ 2 ^ 16 := Nat.pow_le_pow_right (by omega) (by unfold spaceOk at h; omega)
    generalize 2 ^ w.toNat = q at *
    omega
  · omega
theorem shl1_nat {w : Nat} (h : w ≤ 62) : IntKind.i64.wrap ((1 : Int) * 2 ^ (min ((w : Nat) : Int).toNat IntKind.i64.bits)) = ((2 ^ w : Nat) : Int) := by
  have h1 : 2 ^ w ≤ 2 ^ 62 := Nat.pow_le_pow_right (by omega) h
  rw [Int.toNat_natCast, Nat.min_eq_left (show w ≤ IntKind.i64.bits by show w ≤ 64; omega), Int.one_mul]
  have e : (2 : Int) ^ w = ((2 ^ w : Nat) : Int) := by simp
  rw [e]
  generalize 2 ^ w = q at *
  exact wrap_i64 (by omega) (by omega)

theorem sqRight (w : Int) (σ : AHeap) : ACalls Try.prog i_seqnum_Right [.agg [i64v w]] σ fun v σ' => v = boolv (decide (spaceOk w)) ∧ σ' = σ := by
  refine k_seqnum_Right rfl ?_
  ((conv => whnf); (repeat ((first | with_reducible (first | refine zT rfl ?_ | refine zF rfl ?_ | refine zY rfl ?_) | refine zY (by decide) ?_ | refine zN (by decide) ?_ | with_reducible refine zQ ?_); (conv => whnf))))
  refine anew rfl fun id hid => ?_
  ((conv => whnf); (repeat ((first | with_reducible (first | refine zT rfl ?_ | refine zF rfl ?_ | refine zY rfl ?_) | refine zY (by decide) ?_ | refine zN (by decide) ?_ | with_reducible refine zQ ?_); (conv => whnf))))
  refine aloads (l := [i64v w]) (upd_same _ _ _) (by exact Nat.le_refl 1) rfl ?_
  ((conv => whnf); (repeat ((first | with_reducible (first | refine zT rfl ?_ | refine zF rfl ?_ | refine zY rfl ?_) | refine zY (by decide) ?_ | refine zN (by decide) ?_ | with_reducible refine zQ ?_); (conv => whnf))))
  have hs : Sub (upd σ id (.cells (AVal.agg [i64v w]).cells)) σ := Sub.upd_fresh _ hid
  by_cases h0 : w = 0
  · subst h0
    ((conv => whnf); (repeat ((first | with_reducible (first | refine zT rfl ?_ | refine zF rfl ?_ | refine zY rfl ?_) | refine zY (by decide) ?_ | refine zN (by decide) ?_ | with_reducible refine zQ ?_); (conv => whnf))))
    exact aret (VLe.refl _) hs ⟨rfl, rfl⟩
  · refine abr_true (by rw [decide_eq_false h0]; rfl) ?_
    ((conv => whnf); (repeat ((first | with_reducible (first | refine zT rfl ?_ | refine zF rfl ?_ | refine zY rfl ?_) | refine zY (by decide) ?_ | refine zN (by decide) ?_ | with_reducible refine zQ ?_); (conv => whnf))))
    (repeat ((first | refine aload (by (repeat (first | with_reducible exact upd_same _ _ _ | assumption | rw [upd_ne _ _ (by first | assumption | (apply Ne.symm; assumption))]))) rfl ?_ | refine afit_i64 (by omega) ?_ | refine arem_nonneg (by omega) (by omega) ?_ | refine adiv_i64 (by omega) (by omega) ?_ | refine abr_yes (by omega) ?_ | refine abr_no (by omega) ?_ | refine amin ?_ | refine amax ?_ | refine afit_u64 (by omega) ?_ | refine afit_u8 (by omega) ?_ | rw [List.length_map]); ((conv => whnf); (repeat ((first | with_reducible (first | refine zT rfl ?_ | refine zF rfl ?_ | refine zY rfl ?_) | refine zY (by decide) ?_ | refine zN (by decide) ?_ | with_reducible refine zQ ?_); (conv => whnf))))))
    by_cases h1 : 1 ≤ w
    · (repeat ((first | refine aload (by (repeat (first | with_reducible exact upd_same _ _ _ | assumption | rw [upd_ne _ _ (by first | assumption | (apply Ne.symm; assumption))]))) rfl ?_ | refine afit_i64 (by omega) ?_ | refine arem_nonneg (by omega) (by omega) ?_ | refine adiv_i64 (by omega) (by omega) ?_ | refine abr_yes (by omega) ?_ | refine abr_no (by omega) ?_ | refine amin ?_ | refine amax ?_ | refine afit_u64 (by omega) ?_ | refine afit_u8 (by omega) ?_ | rw [List.length_map]); ((conv => whnf); (repeat ((first | with_reducible (first | refine zT rfl ?_ | refine zF rfl ?_ | refine zY rfl ?_) | refine zY (by decide) ?_ | refine zN (by decide) ?_ | with_reducible refine zQ ?_); (conv => whnf))))))
      exact aret (VLe.refl _) hs ⟨congrArg boolv (dec_congr ⟨fun h => ⟨h1, h⟩, fun h => h.2⟩), rfl⟩
    · (repeat ((first | refine aload (by (repeat (first | with_reducible exact upd_same _ _ _ | assumption | rw [upd_ne _ _ (by first | assumption | (apply Ne.symm; assumption))]))) rfl ?_ | refine afit_i64 (by omega) ?_ | refine arem_nonneg (by omega) (by omega) ?_ | refine adiv_i64 (by omega) (by omega) ?_ | refine abr_yes (by omega) ?_ | refine abr_no (by omega) ?_ | refine amin ?_ | refine amax ?_ | refine afit_u64 (by omega) ?_ | refine afit_u8 (by omega) ?_ | rw [List.length_map]); ((conv => whnf); (repeat ((first | with_reducible (first | refine zT rfl ?_ | refine zF rfl ?_ | refine zY rfl ?_) | refine zY (by decide) ?_ | refine zN (by decide) ?_ | with_reducible refine zQ ?_); (conv => whnf))))))
      exact aret (VLe.refl _) hs ⟨congrArg boolv (decide_eq_false fun h => h1 h.1).symm, rfl⟩

theorem sqSize (w : Int) (σ : AHeap) : ACalls Try.prog i_seqnum_Space_Size [.agg [i64v w]] σ fun v σ' => v = i64v (spaceSize w) ∧ σ' = σ := by
  refine k_seqnum_Space_Size rfl ?_
  ((conv => whnf); (repeat ((first | with_reducible (first | refine zT rfl ?_ | refine zF rfl ?_ | refine zY rfl ?_) | refine zY (by decide) ?_ | refine zN (by decide) ?_ | with_reducible refine zQ ?_); (conv => whnf))))
  refine anew rfl fun id hid => ?_
  ((conv => whnf); (repeat ((first | with_reducible (first | refine zT rfl ?_ | refine zF rfl ?_ | refine zY rfl ?_) | refine zY (by decide) ?_ | refine zN (by decide) ?_ | with_reducible refine zQ ?_); (conv => whnf))))
  refine aloads (l := [i64v w]) (upd_same _ _ _) (by exact Nat.le_refl 1) rfl ?_
  ((conv => whnf); (repeat ((first | with_reducible (first | refine zT rfl ?_ | refine zF rfl ?_ | refine zY rfl ?_) | refine zY (by decide) ?_ | refine zN (by decide) ?_ | with_reducible refine zQ ?_); (conv => whnf))))
  have hs : Sub (upd σ id (.cells (AVal.agg [i64v w]).cells)) σ := Sub.upd_fresh _ hid
  refine acall (sqRight w _) ?_
  rintro _ σ_ ⟨rfl, e_⟩
  obtain rfl := e_.symm
  refine ⟨?_, Ext.refl _⟩
  ((conv => whnf); (repeat ((first | with_reducible (first | refine zT rfl ?_ | refine zF rfl ?_ | refine zY rfl ?_) | refine zY (by decide) ?_ | refine zN (by decide) ?_ | with_reducible refine zQ ?_); (conv => whnf))))
  by_cases h : spaceOk w
  · obtain ⟨k, rfl⟩ : ∃ k : Nat, w = k := ⟨w.toNat, by unfold spaceOk at h; omega⟩
    refine abr_false (by rw [decide_eq_true h]; rfl) ?_
    ((conv => whnf); (repeat ((first | with_reducible (first | refine zT rfl ?_ | refine zF rfl ?_ | refine zY rfl ?_) | refine zY (by decide) ?_ | refine zN (by decide) ?_ | with_reducible refine zQ ?_); (conv => whnf))))
    (repeat ((first | refine aload (by (repeat (first | with_reducible exact upd_same _ _ _ | assumption | rw [upd_ne _ _ (by first | assumption | (apply Ne.symm; assumption))]))) rfl ?_ | refine afit_i64 (by omega) ?_ | refine arem_nonneg (by omega) (by omega) ?_ | refine adiv_i64 (by omega) (by omega) ?_ | refine abr_yes (by omega) ?_ | refine abr_no (by omega) ?_ | refine amin ?_ | refine amax ?_ | refine afit_u64 (by omega) ?_ | refine afit_u8 (by omega) ?_ | rw [List.length_map]); ((conv => whnf); (repeat ((first | with_reducible (first | refine zT rfl ?_ | refine zF rfl ?_ | refine zY rfl ?_) | refine zY (by decide) ?_ | refine zN (by decide) ?_ | with_reducible refine zQ ?_); (conv => whnf))))))
    refine ashl_eq (by omega) (shl1_nat (by unfold spaceOk at h; omega)) ?_
    ((conv => whnf); (repeat ((first | with_reducible (first | refine zT rfl ?_ | refine zF rfl ?_ | refine zY rfl ?_) | refine zY (by decide) ?_ | refine zN (by decide) ?_ | with_reducible refine zQ ?_); (conv => whnf))))
    exact aret (VLe.refl _) hs ⟨by unfold spaceSize; rw [if_pos h, Int.toNat_natCast], rfl⟩
  · refine abr_true (by rw [decide_eq_false h]; rfl) ?_
    ((conv => whnf); (repeat ((first | with_reducible (first | refine zT rfl ?_ | refine zF rfl ?_ | refine zY rfl ?_) | refine zY (by decide) ?_ | refine zN (by decide) ?_ | with_reducible refine zQ ?_); (conv => whnf))))
    exact aret (VLe.refl _) hs ⟨by unfold spaceSize; rw [if_neg h], rfl⟩

theorem sqIs (w n : Int) (σ : AHeap) : ACalls Try.prog i_seqnum_Space_Is [.agg [i64v w], i64v n] σ fun v σ' => v = boolv (isNum w n) ∧ σ' = σ := by
  refine k_seqnum_Space_Is rfl ?_
  ((conv => whnf); (repeat ((first | with_reducible (first | refine zT rfl ?_ | refine zF rfl ?_ | refine zY rfl ?_) | refine zY (by decide) ?_ | refine zN (by decide) ?_ | with_reducible refine zQ ?_); (conv => whnf))))
  refine anew rfl fun id hid => ?_
  have hs : Sub (upd σ id (.cells (AVal.agg [i64v w]).cells)) σ := Sub.upd_fresh _ hid
  ((conv => whnf); (repeat ((first | with_reducible (first | refine zT rfl ?_ | refine zF rfl ?_ | refine zY rfl ?_) | refine zY (by decide) ?_ | refine zN (by decide) ?_ | with_reducible refine zQ ?_); (conv => whnf))))
  by_cases h : 0 ≤ n
  · (repeat ((first | refine aload (by (repeat (first | with_reducible exact upd_same _ _ _ | assumption | rw [upd_ne _ _ (by first | assumption | (apply Ne.symm; assumption))]))) rfl ?_ | refine afit_i64 (by omega) ?_ | refine arem_nonneg (by omega) (by omega) ?_ | refine adiv_i64 (by omega) (by omega) ?_ | refine abr_yes (by omega) ?_ | refine abr_no (by omega) ?_ | refine amin ?_ | refine amax ?_ | refine afit_u64 (by omega) ?_ | refine afit_u8 (by omega) ?_ | rw [List.length_map]); ((conv => whnf); (repeat ((first | with_reducible (first | refine zT rfl ?_ | refine zF rfl ?_ | refine zY rfl ?_) | refine zY (by decide) ?_ | refine zN (by decide) ?_ | with_reducible refine zQ ?_); (conv => whnf))))))
    refine aloads (l := [i64v w]) (upd_same _ _ _) (by exact Nat.le_refl 1) rfl ?_
    ((conv => whnf); (repeat ((first | with_reducible (first | refine zT rfl ?_ | refine zF rfl ?_ | refine zY rfl ?_) | refine zY (by decide) ?_ | refine zN (by decide) ?_ | with_reducible refine zQ ?_); (conv => whnf))))
    refine acall (sqSize w _) ?_
    rintro _ σ_ ⟨rfl, e_⟩
    obtain rfl := e_.symm
    refine ⟨?_, Ext.refl _⟩
    ((conv => whnf); (repeat ((first | with_reducible (first | refine zT rfl ?_ | refine zF rfl ?_ | refine zY rfl ?_) | refine zY (by decide) ?_ | refine zN (by decide) ?_ | with_reducible refine zQ ?_); (conv => whnf))))
    exact aret (VLe.refl _) hs ⟨congrArg boolv (dec_congr ⟨fun h2 => ⟨h, h2⟩, fun h2 => h2.2⟩), rfl⟩
  · (repeat ((first | refine aload (by (repeat (first | with_reducible exact upd_same _ _ _ | assumption | rw [upd_ne _ _ (by first | assumption | (apply Ne.symm; assumption))]))) rfl ?_ | refine afit_i64 (by omega) ?_ | refine arem_nonneg (by omega) (by omega) ?_ | refine adiv_i64 (by omega) (by omega) ?_ | refine abr_yes (by omega) ?_ | refine abr_no (by omega) ?_ | refine amin ?_ | refine amax ?_ | refine afit_u64 (by omega) ?_ | refine afit_u8 (by omega) ?_ | rw [List.length_map]); ((conv => whnf); (repeat ((first | with_reducible (first | refine zT rfl ?_ | refine zF rfl ?_ | refine zY rfl ?_) | refine zY (by decide) ?_ | refine zN (by decide) ?_ | with_reducible refine zQ ?_); (conv => whnf))))))
    exact aret (VLe.refl _) hs ⟨congrArg boolv (decide_eq_false fun h2 => h h2.1).symm, rfl⟩

theorem refSize02 (w : Int) (σ : AHeap) : ACalls Try.prog i_bowlineref02_Size [i64v w] σ fun v σ' => v = i64v (spaceSize w) ∧ σ' = σ := by
  refine k_bowlineref02_Size rfl ?_
  ((conv => whnf); (repeat ((first | with_reducible (first | refine zT rfl ?_ | refine zF rfl ?_ | refine zY rfl ?_) | refine zY (by decide) ?_ | refine zN (by decide) ?_ | with_reducible refine zQ ?_); (conv => whnf))))
  by_cases h1 : w < 1
  · (repeat ((first | refine aload (by (repeat (first | with_reducible exact upd_same _ _ _ | assumption | rw [upd_ne _ _ (by first | assumption | (apply Ne.symm; assumption))]))) rfl ?_ | refine afit_i64 (by omega) ?_ | refine arem_nonneg (by omega) (by omega) ?_ | refine adiv_i64 (by omega) (by omega) ?_ | refine abr_yes (by omega) ?_ | refine abr_no (by omega) ?_ | refine amin ?_ | refine amax ?_ | refine afit_u64 (by omega) ?_ | refine afit_u8 (by omega) ?_ | rw [List.length_map]); ((conv => whnf); (repeat ((first | with_reducible (first | refine zT rfl ?_ | refine zF rfl ?_ | refine zY rfl ?_) | refine zY (by decide) ?_ | refine zN (by decide) ?_ | with_reducible refine zQ ?_); (conv => whnf))))))
    exact aret_same ⟨by unfold spaceSize; rw [if_neg (fun h => by unfold spaceOk at h; omega)], rfl⟩
  · by_cases h2 : w > 16
    · (repeat ((first | refine aload (by (repeat (first | with_reducible exact upd_same _ _ _ | assumption | rw [upd_ne _ _ (by first | assumption | (apply Ne.symm; assumption))]))) rfl ?_ | refine afit_i64 (by omega) ?_ | refine arem_nonneg (by omega) (by omega) ?_ | refine adiv_i64 (by omega) (by omega) ?_ | refine abr_yes (by omega) ?_ | refine abr_no (by omega) ?_ | refine amin ?_ | refine amax ?_ | refine afit_u64 (by omega) ?_ | refine afit_u8 (by omega) ?_ | rw [List.length_map]); ((conv => whnf); (repeat ((first | with_reducible (first | refine zT rfl ?_ | refine zF rfl ?_ | refine zY rfl ?_) | refine zY (by decide) ?_ | refine zN (by decide) ?_ | with_reducible refine zQ ?_); (conv => whnf))))))
      exact aret_same ⟨by unfold spaceSize; rw [if_neg (fun h => by unfold spaceOk at h; omega)], rfl⟩
    · obtain ⟨k, rfl⟩ : ∃ k : Nat, w = k := ⟨w.toNat, by omega⟩
      (repeat ((first | refine aload (by (repeat (first | with_reducible exact upd_same _ _ _ | assumption | rw [upd_ne _ _ (by first | assumption | (apply Ne.symm; assumption))]))) rfl ?_ | refine afit_i64 (by omega) ?_ | refine arem_nonneg (by omega) (by omega) ?_ | refine adiv_i64 (by omega) (by omega) ?_ | refine abr_yes (by omega) ?_ | refine abr_no (by omega) ?_ | refine amin ?_ | refine amax ?_ | refine afit_u64 (by omega) ?_ | refine afit_u8 (by omega) ?_ | rw [List.length_map]); ((conv => whnf); (repeat ((first | with_reducible (first | refine zT rfl ?_ | refine zF rfl ?_ | refine zY rfl ?_) | refine zY (by decide) ?_ | refine zN (by decide) ?_ | with_reducible refine zQ ?_); (conv => whnf))))))
      refine aloop (α := Nat) (fun i => [(s3, i64v ((2 ^ i : Nat) : Int)), (s4, i64v i)]) (fun _ => σ) (fun i => i ≤ k) (fun i => k - i) 0 (Nat.zero_le _) (Sub.refl _) ?_ ?_
      · ((conv => whnf); (repeat ((first | with_reducible (first | refine zT rfl ?_ | refine zF rfl ?_ | refine zY rfl ?_) | refine zY (by decide) ?_ | refine zN (by decide) ?_ | with_reducible refine zQ ?_); (conv => whnf))))
        (repeat' first | with_reducible exact EnvLe.refl _ | (refine EnvLe.node ?_ (by first | exact Or.inl rfl | exact Or.inr (Or.inl rfl) | exact Or.inr (Or.inr ⟨nofun, VLe.slice _ _ _⟩)) ?_))
      intro i hi
      have hp : 2 ^ i ≤ 2 ^ 16 := Nat.pow_le_pow_right (by omega) (by omega)
      have hsucc : 2 ^ (i + 1) = 2 * 2 ^ i := by rw [Nat.pow_succ, Nat.mul_comm]
      by_cases h : i < k
      · generalize hq : 2 ^ i = q at *
        ((conv => whnf); (repeat ((first | with_reducible (first | refine zT rfl ?_ | refine zF rfl ?_ | refine zY rfl ?_) | refine zY (by decide) ?_ | refine zN (by decide) ?_ | with_reducible refine zQ ?_); (conv => whnf))))
        (repeat ((first | refine aload (by (repeat (first | with_reducible exact upd_same _ _ _ | assumption | rw [upd_ne _ _ (by first | assumption | (apply Ne.symm; assumption))]))) rfl ?_ | refine afit_i64 (by omega) ?_ | refine arem_nonneg (by omega) (by omega) ?_ | refine adiv_i64 (by omega) (by omega) ?_ | refine abr_yes (by omega) ?_ | refine abr_no (by omega) ?_ | refine amin ?_ | refine amax ?_ | refine afit_u64 (by omega) ?_ | refine afit_u8 (by omega) ?_ | rw [List.length_map]); ((conv => whnf); (repeat ((first | with_reducible (first | refine zT rfl ?_ | refine zF rfl ?_ | refine zY rfl ?_) | refine zY (by decide) ?_ | refine zN (by decide) ?_ | with_reducible refine zQ ?_); (conv => whnf))))))
        refine ⟨i + 1, h, by omega, Sub.refl _, ?_⟩
        rw [hsucc, show (2 : Int) * (q : Int) = ((2 * q : Nat) : Int) by omega]
        ((conv => whnf); (repeat ((first | with_reducible (first | refine zT rfl ?_ | refine zF rfl ?_ | refine zY rfl ?_) | refine zY (by decide) ?_ | refine zN (by decide) ?_ | with_reducible refine zQ ?_); (conv => whnf))))
        (repeat' first | with_reducible exact EnvLe.refl _ | (refine EnvLe.node ?_ (by first | exact Or.inl rfl | exact Or.inr (Or.inl rfl) | exact Or.inr (Or.inr ⟨nofun, VLe.slice _ _ _⟩)) ?_))
      · obtain rfl : i = k := by omega
        have he : spaceSize (i : Int) = ((2 ^ i : Nat) : Int) := by unfold spaceSize; rw [if_pos (by unfold spaceOk; omega), Int.toNat_natCast]
        generalize hq : 2 ^ i = q at *
        ((conv => whnf); (repeat ((first | with_reducible (first | refine zT rfl ?_ | refine zF rfl ?_ | refine zY rfl ?_) | refine zY (by decide) ?_ | refine zN (by decide) ?_ | with_reducible refine zQ ?_); (conv => whnf))))
        (repeat ((first | refine aload (by (repeat (first | with_reducible exact upd_same _ _ _ | assumption | rw [upd_ne _ _ (by first | assumption | (apply Ne.symm; assumption))]))) rfl ?_ | refine afit_i64 (by omega) ?_ | refine arem_nonneg (by omega) (by omega) ?_ | refine adiv_i64 (by omega) (by omega) ?_ | refine abr_yes (by omega) ?_ | refine abr_no (by omega) ?_ | refine amin ?_ | refine amax ?_ | refine afit_u64 (by omega) ?_ | refine afit_u8 (by omega) ?_ | rw [List.length_map]); ((conv => whnf); (repeat ((first | with_reducible (first | refine zT rfl ?_ | refine zF rfl ?_ | refine zY rfl ?_) | refine zY (by decide) ?_ | refine zN (by decide) ?_ | with_reducible refine zQ ?_); (conv => whnf))))))
        exact aret_same ⟨by rw [he], rfl⟩

theorem refIs02 (w n : Int) (σ : AHeap) : ACalls Try.prog i_bowlineref02_Is [i64v w, i64v n] σ fun v σ' => v = boolv (isNum w n) ∧ σ' = σ := by
  refine k_bowlineref02_Is rfl ?_
  ((conv => whnf); (repeat ((first | with_reducible (first | refine zT rfl ?_ | refine zF rfl ?_ | refine zY rfl ?_) | refine zY (by decide) ?_ | refine zN (by decide) ?_ | with_reducible refine zQ ?_); (conv => whnf))))
  by_cases h : 0 ≤ n
  · (repeat ((first | refine aload (by (repeat (first | with_reducible exact upd_same _ _ _ | assumption | rw [upd_ne _ _ (by first | assumption | (apply Ne.symm; assumption))]))) rfl ?_ | refine afit_i64 (by omega) ?_ | refine arem_nonneg (by omega) (by omega) ?_ | refine adiv_i64 (by omega) (by omega) ?_ | refine abr_yes (by omega) ?_ | refine abr_no (by omega) ?_ | refine amin ?_ | refine amax ?_ | refine afit_u64 (by omega) ?_ | refine afit_u8 (by omega) ?_ | rw [List.length_map]); ((conv => whnf); (repeat ((first | with_reducible (first | refine zT rfl ?_ | refine zF rfl ?_ | refine zY rfl ?_) | refine zY (by decide) ?_ | refine zN (by decide) ?_ | with_reducible refine zQ ?_); (conv => whnf))))))
    refine acall (refSize02 w _) ?_
    rintro _ σ_ ⟨rfl, e_⟩
    obtain rfl := e_.symm
    refine ⟨?_, Ext.refl _⟩
    ((conv => whnf); (repeat ((first | with_reducible (first | refine zT rfl ?_ | refine zF rfl ?_ | refine zY rfl ?_) | refine zY (by decide) ?_ | refine zN (by decide) ?_ | with_reducible refine zQ ?_); (conv => whnf))))
    exact aret_same ⟨congrArg boolv (dec_congr ⟨fun h2 => ⟨h, h2⟩, fun h2 => h2.2⟩), rfl⟩
  · (repeat ((first | refine aload (by (repeat (first | with_reducible exact upd_same _ _ _ | assumption | rw [upd_ne _ _ (by first | assumption | (apply Ne.symm; assumption))]))) rfl ?_ | refine afit_i64 (by omega) ?_ | refine arem_nonneg (by omega) (by omega) ?_ | refine adiv_i64 (by omega) (by omega) ?_ | refine abr_yes (by omega) ?_ | refine abr_no (by omega) ?_ | refine amin ?_ | refine amax ?_ | refine afit_u64 (by omega) ?_ | refine afit_u8 (by omega) ?_ | rw [List.length_map]); ((conv => whnf); (repeat ((first | with_reducible (first | refine zT rfl ?_ | refine zF rfl ?_ | refine zY rfl ?_) | refine zY (by decide) ?_ | refine zN (by decide) ?_ | with_reducible refine zQ ?_); (conv => whnf))))))
    exact aret_same ⟨congrArg boolv (decide_eq_false fun h2 => h h2.1).symm, rfl⟩
end Go.Proofs.Ytgipkpghabelkaa
