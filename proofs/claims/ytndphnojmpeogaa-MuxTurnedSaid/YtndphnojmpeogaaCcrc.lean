/-
  Sums: what the package does, and the document's answer.
-/
import Derived.Test.YtndphnojmpeogaaIrcheck
import Derived.Test.YtndphnojmpeogaaIrref07
import Derived.Test.YtndphnojmpeogaaCequal
namespace Go.Proofs.Ytndphnojmpeogaa
set_option linter.unusedVariables false
set_option linter.unusedSimpArgs false
set_option linter.unusedSectionVars false
open Go Go.Am

def crcBit (s : BitVec 16) : BitVec 16 := if s &&& 0x8000#16 ≠ 0#16 then (s <<< 1) ^^^ 0x1021#16 else s <<< 1
def crcBits : Nat → BitVec 16 → BitVec 16
  | 0, s => s
  | n + 1, s => crcBits n (crcBit s)
def crcByte (s : BitVec 16) (c : UInt8) : BitVec 16 := crcBits 8 (s ^^^ (BitVec.ofNat 16 c.toNat <<< 8))
def crc (s : BitVec 16) (bs : List UInt8) : BitVec 16 := bs.foldl crcByte s

theorem xor16 (x y : BitVec 16) : bitsOp .xor .u16 x.toNat y.toNat = (x ^^^ y).toNat := by
  have h1 : BitVec.ofInt 16 (x.toNat : Int) = x := by simp
  have h2 : BitVec.ofInt 16 (y.toNat : Int) = y := by simp
  show IntKind.u16.wrap ((BitVec.ofInt 16 (x.toNat : Int) ^^^ BitVec.ofInt 16 (y.toNat : Int)).toNat) = _
  rw [h1, h2]; exact wrap_u16 (by omega) (by omega)
theorem and16 (x y : BitVec 16) : bitsOp .and .u16 x.toNat y.toNat = (x &&& y).toNat := by
  have h1 : BitVec.ofInt 16 (x.toNat : Int) = x := by simp
  have h2 : BitVec.ofInt 16 (y.toNat : Int) = y := by simp
  show IntKind.u16.wrap ((BitVec.ofInt 16 (x.toNat : Int) &&& BitVec.ofInt 16 (y.toNat : Int)).toNat) = _
  rw [h1, h2]; exact wrap_u16 (by omega) (by omega)
theorem shl16 (x : BitVec 16) (n : Nat) : IntKind.u16.wrap ((x.toNat : Int) * 2 ^ n) = (x <<< n).toNat := by
  rw [BitVec.toNat_shiftLeft, Nat.shiftLeft_eq]
  unfold IntKind.wrap IntKind.signed IntKind.bits; simp
theorem crcStep (i : Nat) (h : i < 8) (x : BitVec 16) : crcBits (8 - i) x = crcBits (8 - (i + 1)) (crcBit x) := by
  rw [show 8 - i = (8 - (i + 1)) + 1 by omega]; rfl
theorem crc_start (x : BitVec 16) (c : UInt8) : crcBits (8 - 0) (x ^^^ (BitVec.ofNat 16 c.toNat <<< 8)) = crcByte x c := rfl
theorem ne16 (x y : BitVec 16) : ((x.toNat : Int) ≠ (y.toNat : Int)) ↔ x ≠ y := by
  constructor
  · intro h k; exact h (by rw [k])
  · intro h k; exact h (BitVec.eq_of_toNat_eq (by omega))
theorem u8u16 (c : UInt8) : ((c.toNat : Nat) : Int) = ((BitVec.ofNat 16 c.toNat).toNat : Int) := by
  have := c.toNat_lt
  rw [BitVec.toNat_ofNat, Nat.mod_eq_of_lt (by omega)]

theorem crcBit_yes {s : BitVec 16} (h : s &&& 0x8000#16 ≠ 0#16) : crcBit s = (s <<< 1) ^^^ 0x1021#16 := by unfold crcBit; rw [if_pos h]
theorem crcBit_no {s : BitVec 16} (h : ¬ s &&& 0x8000#16 ≠ 0#16) : crcBit s = s <<< 1 := by unfold crcBit; rw [if_neg h]

set_option maxRecDepth 10000 in
theorem byteOn (s : BitVec 16) (c : UInt8) (σ : AHeap) : ACalls Try.prog i_check_byteOn [u16v s, byteV c] σ fun v σ' => v = u16v (crcByte s c) ∧ σ' = σ := by
  refine k_check_byteOn rfl ?_
  (conv => whnf)
  refine ascope' (α := Nat × BitVec 16) (fun x => [(s0, u16v x.2), (s5, i64v x.1)]) (fun _ => σ) (fun _ => 0) (fun x => x.1 ≤ 8 ∧ crcBits (8 - x.1) x.2 = crcByte s c) (fun x => 8 - x.1) ?_ ?_
  · (conv => whnf)
    intro hl
    (conv => whnf)
    have := c.toNat_lt
    refine afit_u16 (by omega) ?_
    rw [u8u16]
    (conv => whnf)
    refine ashl_eq (by omega) (shl16 _ 8) ?_
    (conv => whnf)
    refine abits_eq (xor16 _ _) ?_
    (conv => whnf)
    refine hl _ (fun _ _ _ h => h) _ _ _ _ ⟨(0, s ^^^ (BitVec.ofNat 16 c.toNat <<< 8)), rfl, ⟨by omega, rfl⟩, rfl, Sub.refl _, ?_⟩
    (conv => whnf)
    (repeat' first | with_reducible exact EnvLe.refl _ | (refine EnvLe.node ?_ (by first | exact Or.inl rfl | exact Or.inr (Or.inl rfl) | exact Or.inr (Or.inr ⟨nofun, VLe.slice _ _ _⟩)) ?_))
  · rintro ⟨i, x⟩ ⟨hi, hx⟩
    refine ⟨_, rfl, ?_⟩
    (conv => whnf)
    intro hl
    (conv => whnf)
    refine abr_dec (fun h8 => ?_) (fun h8 => ?_)
    · simp only at hi hx h8
      (conv => whnf)
      refine abits_eq (and16 _ 32768#16) ?_
      (conv => whnf)
      refine ashl_eq (by omega) (shl16 _ 1) ?_
      (conv => whnf)
      refine abr_dec (fun hb => ?_) (fun hb => ?_)
      · (conv => whnf)
        refine abits_eq (xor16 _ 4129#16) ?_
        (conv => whnf)
        refine afit_i64 (by omega) ?_
        (conv => whnf)
        refine ⟨(i + 1, crcBit x), rfl, ⟨by simp only; omega, ?_⟩, by simp only; omega, Sub.refl _, ?_⟩
        · rw [← hx, crcStep i (by omega)]
        · rw [crcBit_yes ((ne16 _ 0#16).1 hb)]
          (conv => whnf)
          (repeat' first | with_reducible exact EnvLe.refl _ | (refine EnvLe.node ?_ (by first | exact Or.inl rfl | exact Or.inr (Or.inl rfl) | exact Or.inr (Or.inr ⟨nofun, VLe.slice _ _ _⟩)) ?_))
      · (conv => whnf)
        refine afit_i64 (by omega) ?_
        (conv => whnf)
        refine ⟨(i + 1, crcBit x), rfl, ⟨by simp only; omega, ?_⟩, by simp only; omega, Sub.refl _, ?_⟩
        · rw [← hx, crcStep i (by omega)]
        · rw [crcBit_no (fun k => hb ((ne16 _ 0#16).2 k))]
          (conv => whnf)
          (repeat' first | with_reducible exact EnvLe.refl _ | (refine EnvLe.node ?_ (by first | exact Or.inl rfl | exact Or.inr (Or.inl rfl) | exact Or.inr (Or.inr ⟨nofun, VLe.slice _ _ _⟩)) ?_))
    · simp only at hi hx h8
      (conv => whnf)
      refine aret_same ⟨?_, rfl⟩
      rw [← hx, show 8 - i = 0 by omega]; rfl

theorem crc_take {s : BitVec 16} {bs : List UInt8} {i : Nat} (h : i < bs.length) : crc s (bs.take (i + 1)) = crcByte (crc s (bs.take i)) bs[i] := by
  unfold crc; rw [List.take_add_one, List.foldl_append, List.getElem?_eq_getElem h]; rfl
set_option maxRecDepth 10000 in
theorem More (s : BitVec 16) (bs : List UInt8) (t : Tok) (σ : AHeap) (hl : bs.length < 4611686018427387904) : ACalls Try.prog i_check_More [u16v s, sl t bs] σ fun v σ' => v = u16v (crc s bs) ∧ σ' = σ := by
  refine k_check_More rfl ?_
  (conv => whnf)
  refine aloop (α := Nat) (fun i => [(s0, u16v (crc s (bs.take i))), (s9, i64v i)]) (fun _ => σ) (fun i => i ≤ bs.length) (fun i => bs.length - i) 0 (Nat.zero_le _) (Sub.refl _) ?_ ?_
  · (conv => whnf)
    (repeat' first | with_reducible exact EnvLe.refl _ | (refine EnvLe.node ?_ (by first | exact Or.inl rfl | exact Or.inr (Or.inl rfl) | exact Or.inr (Or.inr ⟨nofun, VLe.slice _ _ _⟩)) ?_))
  · intro i hi
    (conv => whnf)
    refine abr_dec (fun h => ?_) (fun h => ?_)
    · rw [List.length_map] at h
      have h' : i < bs.length := by omega
      (conv => whnf)
      refine aget (by omega) (get_bytes h') ?_
      (conv => whnf)
      refine acell rfl ?_
      (conv => whnf)
      refine acall (byteOn _ _ _) ?_
      rintro v σ' ⟨rfl, rfl⟩
      refine ⟨?_, Ext.refl _⟩
      (conv => whnf)
      refine afit_i64 (by omega) ?_
      (conv => whnf)
      refine ⟨i + 1, by omega, by omega, Sub.refl _, ?_⟩
      rw [crc_take h']
      (conv => whnf)
      (repeat' first | with_reducible exact EnvLe.refl _ | (refine EnvLe.node ?_ (by first | exact Or.inl rfl | exact Or.inr (Or.inl rfl) | exact Or.inr (Or.inr ⟨nofun, VLe.slice _ _ _⟩)) ?_))
    · rw [List.length_map] at h
      have h' : i = bs.length := by omega
      (conv => whnf)
      refine aret_same ⟨?_, rfl⟩
      rw [h', List.take_length]

theorem Of (bs : List UInt8) (t : Tok) (σ : AHeap) (hl : bs.length < 4611686018427387904) : ACalls Try.prog i_check_Of [sl t bs] σ fun v σ' => v = u16v (crc 65535#16 bs) ∧ σ' = σ := by
  refine k_check_Of rfl ?_
  (conv => whnf)
  refine acall (More 65535#16 _ _ _ hl) ?_
  rintro v σ' ⟨rfl, rfl⟩
  refine ⟨?_, Ext.refl _⟩
  (conv => whnf)
  exact aret_same ⟨rfl, rfl⟩

/-- A sum's two bytes. -/
def two (s : BitVec 16) : List UInt8 := [UInt8.ofNat (s.toNat / 256), UInt8.ofNat (s.toNat % 256)]
theorem Close (bs : List UInt8) (t : Tok) (σ : AHeap) (hl : bs.length ≤ 140737488355320) : ACalls Try.prog i_check_Close [sl t bs] σ fun v σ' => v = sl .none (bs ++ two (crc 65535#16 bs)) ∧ σ' = σ := by
  refine k_check_Close rfl ?_
  (conv => whnf)
  refine acall (Of bs _ _ (by omega)) ?_
  rintro v σ' ⟨rfl, rfl⟩
  refine ⟨?_, Ext.refl _⟩
  (conv => whnf)
  refine acall (Clone bs _ _ (by omega)) ?_
  rintro v σ1 ⟨tk, ho, rfl⟩
  refine ⟨?_, ho.ext⟩
  have hc := (crc 65535#16 bs).isLt
  (conv => whnf)
  refine ashr_nat (j := 8) (by decide) ?_
  rw [show 2 ^ 8 = 256 from rfl]
  (conv => whnf)
  refine afit_u8 (by omega) ?_
  (conv => whnf)
  refine afit_eq (wrap_u8_nat _) ?_
  (conv => whnf)
  refine aapp_owned ho (by simp; omega) fun t' tk' ho' _ => ?_
  (conv => whnf)
  refine aret_sl ho'.sub ⟨?_, rfl⟩
  rw [sl_app]
  unfold two
  rw [List.map_cons, List.map_cons, byte_ofNat (by omega), byte_ofNat (by omega)]
  rfl

/-- What the bytes are that end with their sum. -/
def opened (bs : List UInt8) : Option (List UInt8) × Int :=
  if bs.length < 2 then (none, 8) else if bs.take (bs.length - 2) ++ two (crc 65535#16 (bs.take (bs.length - 2))) = bs then (some (bs.take (bs.length - 2)), 0) else (none, 13)
def openedV (bs : List UInt8) : AVal := .tup [sl .none ((opened bs).1.getD []), i64v (opened bs).2]

theorem opened_short {bs : List UInt8} (h : bs.length < 2) : openedV bs = .tup [sl .none [], i64v 8] := by unfold openedV opened; rw [if_pos h]; rfl
theorem opened_ok {bs : List UInt8} (h : ¬ bs.length < 2) (k : bs.take (bs.length - 2) ++ two (crc 65535#16 (bs.take (bs.length - 2))) = bs) : openedV bs = .tup [sl .none (bs.take (bs.length - 2)), i64v 0] := by
  unfold openedV opened; rw [if_neg h, if_pos k]; rfl
theorem opened_bad {bs : List UInt8} (h : ¬ bs.length < 2) (k : ¬ bs.take (bs.length - 2) ++ two (crc 65535#16 (bs.take (bs.length - 2))) = bs) : openedV bs = .tup [sl .none [], i64v 13] := by
  unfold openedV opened; rw [if_neg h, if_neg k]; rfl
theorem Open (bs : List UInt8) (t : Tok) (σ : AHeap) (hl : bs.length ≤ 140737488355320) : ACalls Try.prog i_check_Open [sl t bs] σ fun v σ' => v = openedV bs ∧ σ' = σ := by
  refine k_check_Open rfl ?_
  (conv => whnf)
  refine afit_i64 (by simp; omega) ?_
  (conv => whnf)
  refine abr_dec (fun h => ?_) (fun h => ?_)
  · rw [List.length_map] at h
    (conv => whnf)
    refine aret VLe.tup_sl (Sub.refl _) ⟨?_, rfl⟩
    rw [opened_short (by omega)]; rfl
  · rw [List.length_map] at h
    have h2 : ¬ bs.length < 2 := by omega
    have hn : ((bs.map byteV).length : Int) - 2 = ((bs.length - 2 : Nat) : Int) := by rw [List.length_map]; omega
    (conv => whnf)
    rw [hn]
    refine acut (by omega) (by omega) (by simp) ?_
    rw [show (((bs.map byteV).take (((bs.length - 2 : Nat) : Int)).toNat).drop (0 : Int).toNat) = (bs.take (bs.length - 2)).map byteV by simp]
    (conv => whnf)
    refine acall (Close (bs.take (bs.length - 2)) _ _ (by simp; omega)) ?_
    rintro v σ' ⟨rfl, rfl⟩
    refine ⟨?_, Ext.refl _⟩
    (conv => whnf)
    refine acall (Equal _ bs _ t _ (by simp [two]; omega)) ?_
    rintro v σ' ⟨rfl, rfl⟩
    refine ⟨?_, Ext.refl _⟩
    (conv => whnf)
    refine abr_ndec (fun hb => ?_) (fun hb => ?_)
    · (conv => whnf)
      refine aret VLe.tup_sl (Sub.refl _) ⟨?_, rfl⟩
      rw [opened_bad h2 hb]; rfl
    · (conv => whnf)
      refine acut (by omega) (by omega) (by simp) ?_
      rw [show (((bs.map byteV).take (((bs.length - 2 : Nat) : Int)).toNat).drop (0 : Int).toNat) = (bs.take (bs.length - 2)).map byteV by simp]
      (conv => whnf)
      refine acall (Clone (bs.take (bs.length - 2)) _ _ (by simp; omega)) ?_
      rintro v σ1 ⟨tk, ho, rfl⟩
      refine ⟨?_, ho.ext⟩
      (conv => whnf)
      refine aret VLe.tup_sl ho.sub ⟨?_, rfl⟩
      rw [opened_ok h2 hb]

/-! The document's answer. -/
theorem xor32 (x y : BitVec 32) : bitsOp .xor .u32 x.toNat y.toNat = (x ^^^ y).toNat := by
  have h1 : BitVec.ofInt 32 (x.toNat : Int) = x := by simp
  have h2 : BitVec.ofInt 32 (y.toNat : Int) = y := by simp
  show IntKind.u32.wrap ((BitVec.ofInt 32 (x.toNat : Int) ^^^ BitVec.ofInt 32 (y.toNat : Int)).toNat) = _
  rw [h1, h2]; exact wrap_u32 (by omega) (by omega)
/-- A sum in 32 bits. -/
abbrev u32s (b : BitVec 16) : AVal := .v (.int .u32 b.toNat)

theorem xor32n {a b : Nat} (ha : a < 4294967296) (hb : b < 4294967296) : bitsOp .xor .u32 (a : Int) (b : Int) = ((a ^^^ b : Nat) : Int) := by
  have := xor32 (BitVec.ofNat 32 a) (BitVec.ofNat 32 b)
  rw [BitVec.toNat_xor] at this
  simp only [BitVec.toNat_ofNat] at this
  rw [Nat.mod_eq_of_lt (by omega), Nat.mod_eq_of_lt (by omega)] at this
  exact this
theorem top_iff (x : BitVec 16) : x &&& 0x8000#16 ≠ 0#16 ↔ 65536 ≤ 2 * x.toNat := by
  have hx := x.isLt
  have h1 : x &&& 0x8000#16 = if x.getLsbD 15 then BitVec.twoPow 16 15 else 0#16 := BitVec.and_twoPow x 15
  have h2 : x.getLsbD 15 = decide (x.toNat / 2 ^ 15 % 2 = 1) := Nat.testBit_eq_decide_div_mod_eq
  rw [h1, h2]
  by_cases h : 65536 ≤ 2 * x.toNat
  · rw [decide_eq_true (by omega)]
    exact ⟨fun _ => h, fun _ k => absurd k (by decide)⟩
  · rw [decide_eq_false (by omega)]
    exact ⟨fun k => absurd rfl k, fun k => absurd k h⟩
theorem refBit_yes {x : BitVec 16} (h : 65536 ≤ 2 * x.toNat) : bitsOp .xor .u32 (2 * (x.toNat : Int) - 65536) 4129 = (crcBit x).toNat := by
  have hx := x.isLt
  rw [crcBit_yes ((top_iff x).2 h), show (2 * (x.toNat : Int) - 65536) = ((2 * x.toNat - 65536 : Nat) : Int) by omega]
  refine (xor32n (b := 4129) (by omega) (by omega)).trans ?_
  rw [BitVec.toNat_xor, BitVec.toNat_shiftLeft, Nat.shiftLeft_eq, show x.toNat * 2 ^ 1 % 2 ^ 16 = 2 * x.toNat - 65536 by omega]
  rfl
theorem refBit_no {x : BitVec 16} (h : ¬ 65536 ≤ 2 * x.toNat) : 2 * (x.toNat : Int) = (crcBit x).toNat := by
  rw [crcBit_no (fun k => h ((top_iff x).1 k)), BitVec.toNat_shiftLeft, Nat.shiftLeft_eq, Nat.mod_eq_of_lt (by omega)]
  omega
theorem refByte (x : BitVec 16) (c : UInt8) : bitsOp .xor .u32 x.toNat (256 * (c.toNat : Int)) = (x ^^^ (BitVec.ofNat 16 c.toNat <<< 8)).toNat := by
  have hx := x.isLt
  have hc := c.toNat_lt
  rw [show (256 * (c.toNat : Int)) = ((256 * c.toNat : Nat) : Int) by omega]
  refine (xor32n (by omega) (by omega)).trans ?_
  rw [BitVec.toNat_xor, BitVec.toNat_shiftLeft, Nat.shiftLeft_eq, BitVec.toNat_ofNat, Nat.mod_eq_of_lt (show c.toNat < 2 ^ 16 by omega), Nat.mod_eq_of_lt (by omega), Nat.mul_comm]

set_option maxRecDepth 10000 in
theorem refMore (s : BitVec 16) (bs : List UInt8) (t : Tok) (σ : AHeap) (hl : bs.length < 4611686018427387904) : ACalls Try.prog i_bowlineref07_More [u16v s, sl t bs] σ fun v σ' => v = u16v (crc s bs) ∧ σ' = σ := by
  refine k_bowlineref07_More rfl ?_
  (conv => whnf)
  refine afit_u32 (by omega) ?_
  (conv => whnf)
  refine aloop (α := Nat) (fun i => [(s5, u32s (crc s (bs.take i))), (s6, i64v i)]) (fun _ => σ) (fun i => i ≤ bs.length) (fun i => bs.length - i) 0 (Nat.zero_le _) (Sub.refl _) ?_ ?_
  · (conv => whnf)
    (repeat' first | with_reducible exact EnvLe.refl _ | (refine EnvLe.node ?_ (by first | exact Or.inl rfl | exact Or.inr (Or.inl rfl) | exact Or.inr (Or.inr ⟨nofun, VLe.slice _ _ _⟩)) ?_))
  · intro i hi
    (conv => whnf)
    refine abr_dec (fun h => ?_) (fun h => ?_)
    · rw [List.length_map] at h
      have h' : i < bs.length := by omega
      have hc := bs[i].toNat_lt
      (conv => whnf)
      refine aget (by omega) (get_bytes h') ?_
      (conv => whnf)
      refine acell rfl ?_
      (conv => whnf)
      refine afit_u32 (by omega) ?_
      (conv => whnf)
      refine afit_u32 (by omega) ?_
      (conv => whnf)
      refine abits_eq (refByte _ _) ?_
      (conv => whnf)
      refine aloop (α := Nat × BitVec 16) (fun x => [(s5, u32s x.2), (s7, i64v x.1)]) (fun _ => σ) (fun x => x.1 ≤ 8 ∧ crcBits (8 - x.1) x.2 = crcByte (crc s (bs.take i)) bs[i]) (fun x => 8 - x.1) (0, crc s (bs.take i) ^^^ (BitVec.ofNat 16 bs[i].toNat <<< 8)) ⟨by omega, crc_start _ _⟩ (Sub.refl _) ?_ ?_
      · (conv => whnf)
        (repeat' first | with_reducible exact EnvLe.refl _ | (refine EnvLe.node ?_ (by first | exact Or.inl rfl | exact Or.inr (Or.inl rfl) | exact Or.inr (Or.inr ⟨nofun, VLe.slice _ _ _⟩)) ?_))
      · rintro ⟨j, x⟩ ⟨hj, hx⟩
        (conv => whnf)
        refine abr_dec (fun h8 => ?_) (fun h8 => ?_)
        · simp only at hj hx h8
          (conv => whnf)
          refine afit_u32 (by omega) ?_
          (conv => whnf)
          refine abr_dec (fun hb => ?_) (fun hb => ?_)
          · (conv => whnf)
            refine afit_u32 (by omega) ?_
            (conv => whnf)
            refine abits_eq (refBit_yes (x := x) (by simp only at hb; omega)) ?_
            (conv => whnf)
            refine afit_i64 (by omega) ?_
            (conv => whnf)
            refine ⟨(j + 1, crcBit x), ⟨by simp only; omega, ?_⟩, by simp only; omega, Sub.refl _, ?_⟩
            · rw [← hx, crcStep j (by omega)]
            · (conv => whnf)
              (repeat' first | with_reducible exact EnvLe.refl _ | (refine EnvLe.node ?_ (by first | exact Or.inl rfl | exact Or.inr (Or.inl rfl) | exact Or.inr (Or.inr ⟨nofun, VLe.slice _ _ _⟩)) ?_))
          · (conv => whnf)
            rw [refBit_no (x := x) (by simp only at hb; omega)]
            refine afit_i64 (by omega) ?_
            (conv => whnf)
            refine ⟨(j + 1, crcBit x), ⟨by simp only; omega, ?_⟩, by simp only; omega, Sub.refl _, ?_⟩
            · rw [← hx, crcStep j (by omega)]
            · (conv => whnf)
              (repeat' first | with_reducible exact EnvLe.refl _ | (refine EnvLe.node ?_ (by first | exact Or.inl rfl | exact Or.inr (Or.inl rfl) | exact Or.inr (Or.inr ⟨nofun, VLe.slice _ _ _⟩)) ?_))
        · simp only at hj hx h8
          (conv => whnf)
          refine afit_i64 (by omega) ?_
          (conv => whnf)
          refine ⟨i + 1, by omega, by omega, Sub.refl _, ?_⟩
          rw [crc_take h', ← hx, show 8 - j = 0 by omega]
          (conv => whnf)
          (repeat' first | with_reducible exact EnvLe.refl _ | (refine EnvLe.node ?_ (by first | exact Or.inl rfl | exact Or.inr (Or.inl rfl) | exact Or.inr (Or.inr ⟨nofun, VLe.slice _ _ _⟩)) ?_))
    · rw [List.length_map] at h
      have h' : i = bs.length := by omega
      (conv => whnf)
      refine afit_u16 (by omega) ?_
      (conv => whnf)
      refine aret_same ⟨?_, rfl⟩
      rw [h', List.take_length]

theorem refClose (bs : List UInt8) (t : Tok) (σ : AHeap) (hl : bs.length ≤ 140737488355320) : ACalls Try.prog i_bowlineref07_Close [sl t bs] σ fun v σ' => v = sl .none (bs ++ two (crc 65535#16 bs)) ∧ σ' = σ := by
  have hc := (crc 65535#16 bs).isLt
  refine k_bowlineref07_Close rfl ?_
  (conv => whnf)
  refine acall (refMore 65535#16 bs _ _ (by omega)) ?_
  rintro v σ' ⟨rfl, rfl⟩
  refine ⟨?_, Ext.refl _⟩
  (conv => whnf)
  refine aapp_owned (.full _) (by simp; omega) fun t1 tk1 ho1 _ => ?_
  (conv => whnf)
  refine adiv_eq (m := (((crc 65535#16 bs).toNat / 256 : Nat) : Int)) (by omega) ?_ ?_
  · rw [Int.tdiv_eq_ediv_of_nonneg (by omega), wrap_u16 (by omega) (by omega)]; omega
  (conv => whnf)
  refine afit_u8 (by omega) ?_
  (conv => whnf)
  refine arem_nonneg (by omega) (by omega) ?_
  rw [show (((crc 65535#16 bs).toNat : Int) % 256) = (((crc 65535#16 bs).toNat % 256 : Nat) : Int) by omega]
  (conv => whnf)
  refine afit_u8 (by omega) ?_
  (conv => whnf)
  refine aapp_owned ho1 (by simp; omega) fun t2 tk2 ho2 _ => ?_
  (conv => whnf)
  refine aret_sl ho2.sub ⟨?_, rfl⟩
  rw [sl_app]
  unfold two
  rw [List.map_cons, List.map_cons, byte_ofNat (by omega), byte_ofNat (by omega)]
  rfl

theorem strOf_inj {a b : List UInt8} : ((⟨a.toArray⟩ : ByteArray).data.toList = (⟨b.toArray⟩ : ByteArray).data.toList) ↔ a = b := Iff.rfl

theorem refOpen (bs : List UInt8) (t : Tok) (σ : AHeap) (hl : bs.length ≤ 140737488355320) : ACalls Try.prog i_bowlineref07_Open [sl t bs] σ fun v σ' => v = openedV bs ∧ σ' = σ := by
  refine k_bowlineref07_Open rfl ?_
  (conv => whnf)
  refine abr_dec (fun h => ?_) (fun h => ?_)
  · rw [List.length_map] at h
    (conv => whnf)
    refine aret VLe.tup_sl (Sub.refl _) ⟨?_, rfl⟩
    rw [opened_short (by omega)]; rfl
  · rw [List.length_map] at h
    have h2 : ¬ bs.length < 2 := by omega
    have hn : ((bs.map byteV).length : Int) - 2 = ((bs.length - 2 : Nat) : Int) := by rw [List.length_map]; omega
    (conv => whnf)
    refine afit_i64 (by simp; omega) ?_
    (conv => whnf)
    rw [hn]
    refine acut (by omega) (by omega) (by simp) ?_
    rw [show (((bs.map byteV).take (((bs.length - 2 : Nat) : Int)).toNat).drop (0 : Int).toNat) = (bs.take (bs.length - 2)).map byteV by simp]
    (conv => whnf)
    refine astr rfl ?_
    (conv => whnf)
    refine acall (refClose (bs.take (bs.length - 2)) _ _ (by simp; omega)) ?_
    rintro v σ' ⟨rfl, rfl⟩
    refine ⟨?_, Ext.refl _⟩
    (conv => whnf)
    refine astr rfl ?_
    (conv => whnf)
    refine abr_dec (fun hb => ?_) (fun hb => ?_)
    · (conv => whnf)
      refine aret VLe.tup_sl (Sub.refl _) ⟨?_, rfl⟩
      rw [opened_bad h2 hb]; rfl
    · (conv => whnf)
      refine afit_i64 (by simp; omega) ?_
      (conv => whnf)
      rw [hn]
      refine acut (by omega) (by omega) (by simp) ?_
      rw [show (((bs.map byteV).take (((bs.length - 2 : Nat) : Int)).toNat).drop (0 : Int).toNat) = (bs.take (bs.length - 2)).map byteV by simp]
      (conv => whnf)
      refine aret VLe.tup_sl (Sub.refl _) ⟨?_, rfl⟩
      rw [opened_ok h2 (Classical.not_not.1 hb)]

end Go.Proofs.Ytndphnojmpeogaa

