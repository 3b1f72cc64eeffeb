/-
  Reports there and back, at the abstract states.
-/
import Derived.Test.YtkdbmajkjlnpiabClawbsr
namespace Go.Proofs.Ytkdbmajkjlnpiab
set_option linter.unusedVariables false
set_option linter.unusedSimpArgs false
open Go Go.Am

theorem numBits_vals : ∀ (n : Nat) (l : List Bool), l.length = n → numBits (val 0 l) n = l := by
  intro n
  induction n with
  | zero => intro l hl; rw [List.length_eq_zero_iff.1 hl]; rfl
  | succ n ih =>
    intro l hl
    have hne : l ≠ [] := fun e => by rw [e] at hl; cases hl
    have e : l = l.dropLast ++ [l.getLast hne] := (List.dropLast_concat_getLast hne).symm
    have hdl : l.dropLast.length = n := by rw [List.length_dropLast, hl]; omega
    rw [e, val_snoc, numBits_parts _ n 1]
    have h1 : (2 * val 0 l.dropLast + (l.getLast hne).toNat) / 2 ^ 1 = val 0 l.dropLast := by
      have : (l.getLast hne).toNat ≤ 1 := by cases l.getLast hne <;> decide
      omega
    rw [h1, ih _ hdl]
    congr 1
    show [(2 * val 0 l.dropLast + (l.getLast hne).toNat).testBit 0] = _
    rw [Nat.testBit_zero]
    cases l.getLast hne <;> simp

theorem numBits_lvl {n : Int} (h : isLevelV n = true) : ((val 0 (numBits n.toNat 6) : Nat) : Int) = n := by
  have h2 := isLevelV_iff.1 h
  rw [val_numBits]
  omega
theorem outs_repBits {rs : List Int} (h4 : rs.length = 4) (hok : rs.all isLevelV = true) : outs (repBits rs) 4 = rs := by
  obtain ⟨a, b, c, d, rfl⟩ := four h4
  simp only [List.all_cons, List.all_nil, Bool.and_true, Bool.and_eq_true] at hok
  obtain ⟨ha, hb, hc, hd⟩ := hok
  have e : repBits [a, b, c, d] = numBits a.toNat 6 ++ (numBits b.toNat 6 ++ (numBits c.toNat 6 ++ (numBits d.toNat 6 ++ []))) := rfl
  have la := numBits_length a.toNat 6
  have lb := numBits_length b.toNat 6
  have lc := numBits_length c.toNat 6
  have ld := numBits_length d.toNat 6
  show [((numAt _ 0 : Nat) : Int), ((numAt _ 1 : Nat) : Int), ((numAt _ 2 : Nat) : Int), ((numAt _ 3 : Nat) : Int)] = _
  unfold numAt
  rw [e]
  rw [Nat.mul_zero, List.drop_zero, List.take_left' la]
  rw [List.drop_left' (i := 6 * 1) la, List.take_left' lb]
  rw [show numBits a.toNat 6 ++ (numBits b.toNat 6 ++ (numBits c.toNat 6 ++ (numBits d.toNat 6 ++ []))) = (numBits a.toNat 6 ++ numBits b.toNat 6) ++ (numBits c.toNat 6 ++ (numBits d.toNat 6 ++ [])) by simp, List.drop_left' (i := 6 * 2) (by rw [List.length_append, la, lb]), List.take_left' lc]
  rw [show (numBits a.toNat 6 ++ numBits b.toNat 6) ++ (numBits c.toNat 6 ++ (numBits d.toNat 6 ++ [])) = (numBits a.toNat 6 ++ numBits b.toNat 6 ++ numBits c.toNat 6) ++ (numBits d.toNat 6 ++ []) by simp, List.drop_left' (i := 6 * 3) (by rw [List.length_append, List.length_append, la, lb, lc]), List.take_left' ld]
  rw [numBits_lvl ha, numBits_lvl hb, numBits_lvl hc, numBits_lvl hd]
theorem read_write {rs : List Int} (h4 : rs.length = 4) (hok : rs.all isLevelV = true) : readRep (pack (repBits rs)) = (rs, 0) ∧ (pack (repBits rs)).length = 3 := by
  have hl := repBits_length rs
  have hpl := pack_length (repBits rs)
  have h3 : (pack (repBits rs)).length = 3 := by omega
  refine ⟨?_, h3⟩
  unfold readRep
  rw [if_neg (by omega), if_neg (by omega), unpack_pack, show 8 * (((repBits rs).length + 7) / 8) - (repBits rs).length = 0 by omega, List.replicate_zero, List.append_nil, outs_repBits h4 hok]

theorem numAt_lt {x : List Bool} (i : Nat) : numAt x i < 64 := by
  refine Nat.lt_of_lt_of_le (val_lt _) (Nat.pow_le_pow_right (n := 2) (j := 6) (by omega) ?_)
  rw [List.length_take]; omega
theorem outs_ok (x : List Bool) : (outs x 4).all isLevelV = true := by
  have h (i : Nat) : isLevelV ((numAt x i : Nat) : Int) = true := isLevelV_iff.2 (by have := numAt_lt (x := x) i; omega)
  show (isLevelV ((numAt x 0 : Nat) : Int) && (isLevelV ((numAt x 1 : Nat) : Int) && (isLevelV ((numAt x 2 : Nat) : Int) && (isLevelV ((numAt x 3 : Nat) : Int) && true)))) = true
  rw [h, h, h, h]
  rfl
theorem repBits_outs {x : List Bool} (h : x.length = 24) : repBits (outs x 4) = x := by
  show numBits (((numAt x 0 : Nat) : Int).toNat) 6 ++ (numBits (((numAt x 1 : Nat) : Int).toNat) 6 ++ (numBits (((numAt x 2 : Nat) : Int).toNat) 6 ++ (numBits (((numAt x 3 : Nat) : Int).toNat) 6 ++ []))) = x
  simp only [Int.toNat_natCast]
  unfold numAt
  rw [numBits_vals 6 _ (by rw [List.length_take, List.length_drop]; omega), numBits_vals 6 _ (by rw [List.length_take, List.length_drop]; omega), numBits_vals 6 _ (by rw [List.length_take, List.length_drop]; omega), numBits_vals 6 _ (by rw [List.length_take, List.length_drop]; omega)]
  rw [List.append_nil, show (x.drop (6 * 3)).take 6 = x.drop 18 from List.take_of_length_le (by rw [List.length_drop]; omega)]
  have e1 : (x.drop 12).take 6 ++ x.drop 18 = x.drop 12 := by
    have := List.take_append_drop 6 (x.drop 12); rw [List.drop_drop] at this; exact this
  have e2 : (x.drop 6).take 6 ++ x.drop 12 = x.drop 6 := by
    have := List.take_append_drop 6 (x.drop 6); rw [List.drop_drop] at this; exact this
  rw [show 6 * 2 = 12 from rfl, e1, show 6 * 1 = 6 from rfl, e2]
  exact List.take_append_drop 6 x

set_option maxRecDepth 20000 in
theorem BsrBack (rs : List Int) (a b c : UInt8) (h4 : rs.length = 4) (σ : AHeap) : ACalls Try.prog i_bowlinelaw38_BsrBack [rep rs, byteV a, byteV b, byteV c] σ fun v σ' => v = boolv true ∧ σ' = σ := by
  have hwr := read_write h4

  obtain ⟨p, q, r, s, hr⟩ := four h4
  refine k_bowlinelaw38_BsrBack rfl ?_
  rw [hr]
  ((conv => whnf); (repeat ((first | with_reducible refine abr_true rfl ?_ | with_reducible refine abr_false rfl ?_ | with_reducible refine abr_yes rfl ?_ | refine abr_yes (by decide) ?_ | refine abr_no (by decide) ?_ | with_reducible refine abr_same_ne ?_); (conv => whnf))))
  refine anew rfl fun id hid => ?_
  ((conv => whnf); (repeat ((first | with_reducible refine abr_true rfl ?_ | with_reducible refine abr_false rfl ?_ | with_reducible refine abr_yes rfl ?_ | refine abr_yes (by decide) ?_ | refine abr_no (by decide) ?_ | with_reducible refine abr_same_ne ?_); (conv => whnf))))
  refine aloads (l := [i64v p, i64v q, i64v r, i64v s]) (upd_same _ _ _) (by exact Nat.le_refl 4) rfl ?_
  ((conv => whnf); (repeat ((first | with_reducible refine abr_true rfl ?_ | with_reducible refine abr_false rfl ?_ | with_reducible refine abr_yes rfl ?_ | refine abr_yes (by decide) ?_ | refine abr_no (by decide) ?_ | with_reducible refine abr_same_ne ?_); (conv => whnf))))
  refine acall (bWrite [p, q, r, s] rfl _) ?_
  rintro _ σ_ ⟨rfl, e_⟩
  obtain rfl := e_.symm
  refine ⟨?_, Ext.refl _⟩
  ((conv => whnf); (repeat ((first | with_reducible refine abr_true rfl ?_ | with_reducible refine abr_false rfl ?_ | with_reducible refine abr_yes rfl ?_ | refine abr_yes (by decide) ?_ | refine abr_no (by decide) ?_ | with_reducible refine abr_same_ne ?_); (conv => whnf))))
  have hx : (unpack [a, b, c]).length = 24 := by rw [unpack_length]; rfl
  have hrd : readRep [a, b, c] = (outs (unpack [a, b, c]) 4, 0) := rfl
  have hw2 : pack (repBits (outs (unpack [a, b, c]) 4)) = [a, b, c] := by rw [repBits_outs hx, pack_unpack]
  have hall := outs_ok (unpack [a, b, c])
  have hol := outs_length (unpack [a, b, c]) 4

  by_cases hok : [p, q, r, s].all isLevelV = true
  · obtain ⟨w1, w2⟩ := hwr (by rw [hr]; exact hok)
    rw [hr] at w1 w2
    rw [if_pos hok, if_pos hok]
    ((conv => whnf); (repeat ((first | with_reducible refine abr_true rfl ?_ | with_reducible refine abr_false rfl ?_ | with_reducible refine abr_yes rfl ?_ | refine abr_yes (by decide) ?_ | refine abr_no (by decide) ?_ | with_reducible refine abr_same_ne ?_); (conv => whnf))))
    refine acall (bRead (pack (repBits [p, q, r, s])) _ _ (by omega)) ?_
    rintro _ σ_ ⟨rfl, e_⟩
    obtain rfl := e_.symm
    refine ⟨?_, Ext.refl _⟩
    ((conv => whnf); (repeat ((first | with_reducible refine abr_true rfl ?_ | with_reducible refine abr_false rfl ?_ | with_reducible refine abr_yes rfl ?_ | refine abr_yes (by decide) ?_ | refine abr_no (by decide) ?_ | with_reducible refine abr_same_ne ?_); (conv => whnf))))
    rw [w1]
    ((conv => whnf); (repeat ((first | with_reducible refine abr_true rfl ?_ | with_reducible refine abr_false rfl ?_ | with_reducible refine abr_yes rfl ?_ | refine abr_yes (by decide) ?_ | refine abr_no (by decide) ?_ | with_reducible refine abr_same_ne ?_); (conv => whnf))))
    refine anew rfl fun id2 hid2 => ?_
    ((conv => whnf); (repeat ((first | with_reducible refine abr_true rfl ?_ | with_reducible refine abr_false rfl ?_ | with_reducible refine abr_yes rfl ?_ | refine abr_yes (by decide) ?_ | refine abr_no (by decide) ?_ | with_reducible refine abr_same_ne ?_); (conv => whnf))))
    refine astore (xs := [i64v p, i64v q, i64v r, i64v s]) (upd_same _ _ _) (by exact Nat.le_refl 4) rfl rfl ?_
    rw [upd_upd]
    have hne : id ≠ id2 := fun e => by subst e; rw [upd_same] at hid2; cases hid2
    have hid3 : σ id2 = none := by rw [upd_ne _ _ (Ne.symm hne)] at hid2; exact hid2
    ((conv => whnf); (repeat ((first | with_reducible refine abr_true rfl ?_ | with_reducible refine abr_false rfl ?_ | with_reducible refine abr_yes rfl ?_ | refine abr_yes (by decide) ?_ | refine abr_no (by decide) ?_ | with_reducible refine abr_same_ne ?_); (conv => whnf))))
    refine aloads (l := [i64v p, i64v q, i64v r, i64v s]) (upd_same _ _ _) (by exact Nat.le_refl 4) rfl ?_
    ((conv => whnf); (repeat ((first | with_reducible refine abr_true rfl ?_ | with_reducible refine abr_false rfl ?_ | with_reducible refine abr_yes rfl ?_ | refine abr_yes (by decide) ?_ | refine abr_no (by decide) ?_ | with_reducible refine abr_same_ne ?_); (conv => whnf))))
    refine aloads (l := [i64v p, i64v q, i64v r, i64v s]) (by rw [upd_ne _ _ hne]; exact upd_same _ _ _) (by exact Nat.le_refl 4) rfl ?_
    ((conv => whnf); (repeat ((first | with_reducible refine abr_true rfl ?_ | with_reducible refine abr_false rfl ?_ | with_reducible refine abr_yes rfl ?_ | refine abr_yes (by decide) ?_ | refine abr_no (by decide) ?_ | with_reducible refine abr_same_ne ?_); (conv => whnf))))
    refine abr_false (by simp) ?_
    ((conv => whnf); (repeat ((first | with_reducible refine abr_true rfl ?_ | with_reducible refine abr_false rfl ?_ | with_reducible refine abr_yes rfl ?_ | refine abr_yes (by decide) ?_ | refine abr_no (by decide) ?_ | with_reducible refine abr_same_ne ?_); (conv => whnf))))
    rw [List.length_map, w2]
    ((conv => whnf); (repeat ((first | with_reducible refine abr_true rfl ?_ | with_reducible refine abr_false rfl ?_ | with_reducible refine abr_yes rfl ?_ | refine abr_yes (by decide) ?_ | refine abr_no (by decide) ?_ | with_reducible refine abr_same_ne ?_); (conv => whnf))))
    refine acall (bRead [a, b, c] _ _ (by simp)) ?_
    rintro _ σ_ ⟨rfl, e_⟩
    obtain rfl := e_.symm
    refine ⟨?_, Ext.refl _⟩
    ((conv => whnf); (repeat ((first | with_reducible refine abr_true rfl ?_ | with_reducible refine abr_false rfl ?_ | with_reducible refine abr_yes rfl ?_ | refine abr_yes (by decide) ?_ | refine abr_no (by decide) ?_ | with_reducible refine abr_same_ne ?_); (conv => whnf))))
    rw [hrd]
    ((conv => whnf); (repeat ((first | with_reducible refine abr_true rfl ?_ | with_reducible refine abr_false rfl ?_ | with_reducible refine abr_yes rfl ?_ | refine abr_yes (by decide) ?_ | refine abr_no (by decide) ?_ | with_reducible refine abr_same_ne ?_); (conv => whnf))))
    refine anew rfl fun id4 hid4 => ?_
    ((conv => whnf); (repeat ((first | with_reducible refine abr_true rfl ?_ | with_reducible refine abr_false rfl ?_ | with_reducible refine abr_yes rfl ?_ | refine abr_yes (by decide) ?_ | refine abr_no (by decide) ?_ | with_reducible refine abr_same_ne ?_); (conv => whnf))))
    generalize hO : outs (unpack [a, b, c]) 4 = O at *
    obtain ⟨p', q', r', s', hO2⟩ := four hol
    refine astore (xs := O.map i64v) (l := O.map i64v) (upd_same _ _ _) (by rw [List.length_map, hol]; exact Nat.le_refl 4) (cells_rep O) (by rw [hO2]; rfl) ?_
    rw [upd_upd]
    ((conv => whnf); (repeat ((first | with_reducible refine abr_true rfl ?_ | with_reducible refine abr_false rfl ?_ | with_reducible refine abr_yes rfl ?_ | refine abr_yes (by decide) ?_ | refine abr_no (by decide) ?_ | with_reducible refine abr_same_ne ?_); (conv => whnf))))
    refine aloads (l := O.map i64v) (upd_same _ _ _) (by rw [List.length_map, hol]; exact Nat.le_refl 4) (by rw [hO2]; rfl) ?_
    ((conv => whnf); (repeat ((first | with_reducible refine abr_true rfl ?_ | with_reducible refine abr_false rfl ?_ | with_reducible refine abr_yes rfl ?_ | refine abr_yes (by decide) ?_ | refine abr_no (by decide) ?_ | with_reducible refine abr_same_ne ?_); (conv => whnf))))
    refine acall (bWrite O hol _) ?_
    rintro _ σ_ ⟨rfl, e_⟩
    obtain rfl := e_.symm
    refine ⟨?_, Ext.refl _⟩
    ((conv => whnf); (repeat ((first | with_reducible refine abr_true rfl ?_ | with_reducible refine abr_false rfl ?_ | with_reducible refine abr_yes rfl ?_ | refine abr_yes (by decide) ?_ | refine abr_no (by decide) ?_ | with_reducible refine abr_same_ne ?_); (conv => whnf))))
    rw [if_pos hall, if_pos hall, hw2]
    ((conv => whnf); (repeat ((first | with_reducible refine abr_true rfl ?_ | with_reducible refine abr_false rfl ?_ | with_reducible refine abr_yes rfl ?_ | refine abr_yes (by decide) ?_ | refine abr_no (by decide) ?_ | with_reducible refine abr_same_ne ?_); (conv => whnf))))
    refine acall (alive38 _) ?_
    rintro _ σ_ ⟨rfl, e_⟩
    obtain rfl := e_.symm
    refine ⟨?_, Ext.refl _⟩
    ((conv => whnf); (repeat ((first | with_reducible refine abr_true rfl ?_ | with_reducible refine abr_false rfl ?_ | with_reducible refine abr_yes rfl ?_ | refine abr_yes (by decide) ?_ | refine abr_no (by decide) ?_ | with_reducible refine abr_same_ne ?_); (conv => whnf))))
    refine astr rfl ?_
    ((conv => whnf); (repeat ((first | with_reducible refine abr_true rfl ?_ | with_reducible refine abr_false rfl ?_ | with_reducible refine abr_yes rfl ?_ | refine abr_yes (by decide) ?_ | refine abr_no (by decide) ?_ | with_reducible refine abr_same_ne ?_); (conv => whnf))))
    refine astr (bs := [a, b, c]) rfl ?_
    ((conv => whnf); (repeat ((first | with_reducible refine abr_true rfl ?_ | with_reducible refine abr_false rfl ?_ | with_reducible refine abr_yes rfl ?_ | refine abr_yes (by decide) ?_ | refine abr_no (by decide) ?_ | with_reducible refine abr_same_ne ?_); (conv => whnf))))
    exact aret (VLe.refl _) (((Sub.upd_fresh _ hid4).trans (Sub.upd_fresh _ hid2)).trans (Sub.upd_fresh _ hid)) ⟨congrArg boolv (decide_eq_true rfl), rfl⟩
  · rw [if_neg hok, if_neg hok]
    ((conv => whnf); (repeat ((first | with_reducible refine abr_true rfl ?_ | with_reducible refine abr_false rfl ?_ | with_reducible refine abr_yes rfl ?_ | refine abr_yes (by decide) ?_ | refine abr_no (by decide) ?_ | with_reducible refine abr_same_ne ?_); (conv => whnf))))
    refine acall (bRead [a, b, c] _ _ (by simp)) ?_
    rintro _ σ_ ⟨rfl, e_⟩
    obtain rfl := e_.symm
    refine ⟨?_, Ext.refl _⟩
    ((conv => whnf); (repeat ((first | with_reducible refine abr_true rfl ?_ | with_reducible refine abr_false rfl ?_ | with_reducible refine abr_yes rfl ?_ | refine abr_yes (by decide) ?_ | refine abr_no (by decide) ?_ | with_reducible refine abr_same_ne ?_); (conv => whnf))))
    rw [hrd]
    ((conv => whnf); (repeat ((first | with_reducible refine abr_true rfl ?_ | with_reducible refine abr_false rfl ?_ | with_reducible refine abr_yes rfl ?_ | refine abr_yes (by decide) ?_ | refine abr_no (by decide) ?_ | with_reducible refine abr_same_ne ?_); (conv => whnf))))
    refine anew rfl fun id4 hid4 => ?_
    ((conv => whnf); (repeat ((first | with_reducible refine abr_true rfl ?_ | with_reducible refine abr_false rfl ?_ | with_reducible refine abr_yes rfl ?_ | refine abr_yes (by decide) ?_ | refine abr_no (by decide) ?_ | with_reducible refine abr_same_ne ?_); (conv => whnf))))
    generalize hO : outs (unpack [a, b, c]) 4 = O at *
    obtain ⟨p', q', r', s', hO2⟩ := four hol
    refine astore (xs := O.map i64v) (l := O.map i64v) (upd_same _ _ _) (by rw [List.length_map, hol]; exact Nat.le_refl 4) (cells_rep O) (by rw [hO2]; rfl) ?_
    rw [upd_upd]
    ((conv => whnf); (repeat ((first | with_reducible refine abr_true rfl ?_ | with_reducible refine abr_false rfl ?_ | with_reducible refine abr_yes rfl ?_ | refine abr_yes (by decide) ?_ | refine abr_no (by decide) ?_ | with_reducible refine abr_same_ne ?_); (conv => whnf))))
    refine aloads (l := O.map i64v) (upd_same _ _ _) (by rw [List.length_map, hol]; exact Nat.le_refl 4) (by rw [hO2]; rfl) ?_
    ((conv => whnf); (repeat ((first | with_reducible refine abr_true rfl ?_ | with_reducible refine abr_false rfl ?_ | with_reducible refine abr_yes rfl ?_ | refine abr_yes (by decide) ?_ | refine abr_no (by decide) ?_ | with_reducible refine abr_same_ne ?_); (conv => whnf))))
    refine acall (bWrite O hol _) ?_
    rintro _ σ_ ⟨rfl, e_⟩
    obtain rfl := e_.symm
    refine ⟨?_, Ext.refl _⟩
    ((conv => whnf); (repeat ((first | with_reducible refine abr_true rfl ?_ | with_reducible refine abr_false rfl ?_ | with_reducible refine abr_yes rfl ?_ | refine abr_yes (by decide) ?_ | refine abr_no (by decide) ?_ | with_reducible refine abr_same_ne ?_); (conv => whnf))))
    rw [if_pos hall, if_pos hall, hw2]
    ((conv => whnf); (repeat ((first | with_reducible refine abr_true rfl ?_ | with_reducible refine abr_false rfl ?_ | with_reducible refine abr_yes rfl ?_ | refine abr_yes (by decide) ?_ | refine abr_no (by decide) ?_ | with_reducible refine abr_same_ne ?_); (conv => whnf))))
    refine acall (alive38 _) ?_
    rintro _ σ_ ⟨rfl, e_⟩
    obtain rfl := e_.symm
    refine ⟨?_, Ext.refl _⟩
    ((conv => whnf); (repeat ((first | with_reducible refine abr_true rfl ?_ | with_reducible refine abr_false rfl ?_ | with_reducible refine abr_yes rfl ?_ | refine abr_yes (by decide) ?_ | refine abr_no (by decide) ?_ | with_reducible refine abr_same_ne ?_); (conv => whnf))))
    refine astr rfl ?_
    ((conv => whnf); (repeat ((first | with_reducible refine abr_true rfl ?_ | with_reducible refine abr_false rfl ?_ | with_reducible refine abr_yes rfl ?_ | refine abr_yes (by decide) ?_ | refine abr_no (by decide) ?_ | with_reducible refine abr_same_ne ?_); (conv => whnf))))
    refine astr (bs := [a, b, c]) rfl ?_
    ((conv => whnf); (repeat ((first | with_reducible refine abr_true rfl ?_ | with_reducible refine abr_false rfl ?_ | with_reducible refine abr_yes rfl ?_ | refine abr_yes (by decide) ?_ | refine abr_no (by decide) ?_ | with_reducible refine abr_same_ne ?_); (conv => whnf))))
    exact aret (VLe.refl _) ((Sub.upd_fresh _ hid4).trans (Sub.upd_fresh _ hid)) ⟨congrArg boolv (decide_eq_true rfl), rfl⟩
end Go.Proofs.Ytkdbmajkjlnpiab

