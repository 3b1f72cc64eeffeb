/-
  Texts of this claim, pack 7: Crefstr, Crefstx, Cstatd, Cbitx, Cstate.
-/
import Derived.Test.YtnfdgccmpglbhaaK4
import Derived.Test.YtnfdgccmpglbhaaK6
/-
  The document's statuses: reading one.
-/
namespace Go.Proofs.Ytnfdgccmpglbhaa
set_option linter.unusedVariables false
set_option linter.unusedSimpArgs false
open Go Go.Am

def noMs : Ms := (0, false, 0, 0)
/-- A miss at a place of bits, whether another one follows, the place behind it, whether it is there. -/
def dMiss (n m : Nat) (x : List Bool) (k : Nat) : Ms × Bool × Nat × Bool :=
  if x.length < k + n + 2 then (noMs, false, 0, false)
  else if bitD x (k + n + 1) = true then
    if x.length < k + n + 2 + 2 * m then (noMs, false, 0, false)
    else (((getVal x k n : Int), true, (getVal x (k + n + 2) m : Int), if getVal x (k + n + 2 + m) m + 1 = 2 ^ m then 0 else ((getVal x (k + n + 2 + m) m + 1 : Nat) : Int)), bitD x (k + n), k + n + 2 + 2 * m, true)
  else (((getVal x k n : Int), false, 0, 0), bitD x (k + n), k + n + 2, true)
theorem getCode_fits {len k n : Nat} (h : k + n ≤ len) (hn : n ≤ 64) : getCode len k n = 0 := by unfold getCode; rw [if_neg (by omega), if_neg (by omega)]
theorem getAt_fits {len k n : Nat} (h : k + n ≤ len) (hn : n ≤ 64) : getAt len k n = k + n := by unfold getAt; rw [if_pos (getCode_fits h hn)]; simp
theorem get_boolD {l : List Bool} {i : Nat} (h : i < l.length) : (l.map boolv)[((i : Nat) : Int).toNat]? = some (boolv (bitD l i)) := by rw [get_bools h]; unfold bitD; rw [List.getElem?_eq_getElem h]; rfl
set_option maxRecDepth 20000 in
theorem refMiss (x : List Bool) (t : Tok) (k n : Nat) (σ : AHeap) (hw : (n : Int) = 10 ∨ (n : Int) = 16) (hk : k ≤ x.length) (hl : x.length ≤ 1000000) :
    ACalls Try.prog i_bowlineref11_miss [bl t x, i64v k, i64v n] σ fun v σ' => v = .tup [msV (dMiss n (offW n) x k).1, boolv (dMiss n (offW n) x k).2.1, i64v (dMiss n (offW n) x k).2.2.1, boolv (dMiss n (offW n) x k).2.2.2] ∧ σ' = σ := by
  have hm := offW_le n
  have hm2 : 2 ^ offW n ≤ 65536 := Nat.le_trans (Nat.pow_le_pow_right (n := 2) (by omega) hm) (by decide)
  have hpl : plcs n = ((2 ^ offW n : Nat) : Int) := by unfold plcs; simp
  have hv : ∀ j (i : Nat), i ≤ 16 → getVal x j i < 65536 := fun j i hi => Nat.lt_of_lt_of_le (by
    unfold getVal
    split
    · refine Nat.lt_of_lt_of_le (val_lt _) (Nat.pow_le_pow_right (by omega) ?_)
      rw [List.length_take]; exact Nat.min_le_left ..
    · exact Nat.two_pow_pos _) (Nat.le_trans (Nat.pow_le_pow_right (n := 2) (by omega) (show (i : Int).toNat ≤ 16 by omega)) (by decide))
  refine k_bowlineref11_miss rfl ?_
  have H := Hp.nil σ
  ((conv => whnf); (repeat ((first | with_reducible refine abr_true rfl ?_ | with_reducible refine abr_false rfl ?_ | with_reducible refine abr_yes rfl ?_ | refine abr_yes (by decide) ?_ | refine abr_no (by decide) ?_ | with_reducible refine abr_same_ne ?_); (conv => whnf))))
  refine hnew H rfl ?_
  clear H
  intro i6 τ H
  ((conv => whnf); (repeat ((first | with_reducible refine abr_true rfl ?_ | with_reducible refine abr_false rfl ?_ | with_reducible refine abr_yes rfl ?_ | refine abr_yes (by decide) ?_ | refine abr_no (by decide) ?_ | with_reducible refine abr_same_ne ?_); (conv => whnf))))
  (repeat ((first | refine afit_i64 (by omega) ?_ | refine arem_nonneg (by omega) (by omega) ?_ | refine adiv_i64 (by omega) (by omega) ?_ | refine abr_yes (by omega) ?_ | refine abr_no (by omega) ?_ | refine amin ?_ | refine amax ?_ | refine afit_u64 (by omega) ?_ | refine afit_u8 (by omega) ?_ | refine acell rfl ?_ | refine acellA ?_ | refine hload H (k := 0) rfl rfl ?_ | refine hloadA H (k := 0) rfl ?_ | refine hload H (k := 1) rfl rfl ?_ | refine hloadA H (k := 1) rfl ?_ | refine hload H (k := 2) rfl rfl ?_ | refine hloadA H (k := 2) rfl ?_ | refine hload H (k := 3) rfl rfl ?_ | refine hloadA H (k := 3) rfl ?_ | refine hload H (k := 4) rfl rfl ?_ | refine hloadA H (k := 4) rfl ?_ | refine hload H (k := 5) rfl rfl ?_ | refine hloadA H (k := 5) rfl ?_ | refine hload H (k := 6) rfl rfl ?_ | refine hloadA H (k := 6) rfl ?_ | refine hload H (k := 7) rfl rfl ?_ | refine hloadA H (k := 7) rfl ?_ | refine hload H (k := 8) rfl rfl ?_ | refine hloadA H (k := 8) rfl ?_ | refine hload H (k := 9) rfl rfl ?_ | refine hloadA H (k := 9) rfl ?_ | (refine hstore H (k := 0) rfl rfl ?_; (conv => whnf); clear H; intro τ H) | (refine hstore H (k := 1) rfl rfl ?_; (conv => whnf); clear H; intro τ H) | (refine hstore H (k := 2) rfl rfl ?_; (conv => whnf); clear H; intro τ H) | (refine hstore H (k := 3) rfl rfl ?_; (conv => whnf); clear H; intro τ H) | (refine hstore H (k := 4) rfl rfl ?_; (conv => whnf); clear H; intro τ H) | (refine hstore H (k := 5) rfl rfl ?_; (conv => whnf); clear H; intro τ H) | (refine hstore H (k := 6) rfl rfl ?_; (conv => whnf); clear H; intro τ H) | (refine hstore H (k := 7) rfl rfl ?_; (conv => whnf); clear H; intro τ H) | (refine hstore H (k := 8) rfl rfl ?_; (conv => whnf); clear H; intro τ H) | (refine hstore H (k := 9) rfl rfl ?_; (conv => whnf); clear H; intro τ H) | rw [List.length_map]); ((conv => whnf); (repeat ((first | with_reducible refine abr_true rfl ?_ | with_reducible refine abr_false rfl ?_ | with_reducible refine abr_yes rfl ?_ | refine abr_yes (by decide) ?_ | refine abr_no (by decide) ?_ | with_reducible refine abr_same_ne ?_); (conv => whnf))))))
  unfold dMiss
  by_cases c1 : x.length < k + n + 2
  · rw [if_pos c1]
    (repeat ((first | refine afit_i64 (by omega) ?_ | refine arem_nonneg (by omega) (by omega) ?_ | refine adiv_i64 (by omega) (by omega) ?_ | refine abr_yes (by omega) ?_ | refine abr_no (by omega) ?_ | refine amin ?_ | refine amax ?_ | refine afit_u64 (by omega) ?_ | refine afit_u8 (by omega) ?_ | refine acell rfl ?_ | refine acellA ?_ | refine hload H (k := 0) rfl rfl ?_ | refine hloadA H (k := 0) rfl ?_ | refine hload H (k := 1) rfl rfl ?_ | refine hloadA H (k := 1) rfl ?_ | refine hload H (k := 2) rfl rfl ?_ | refine hloadA H (k := 2) rfl ?_ | refine hload H (k := 3) rfl rfl ?_ | refine hloadA H (k := 3) rfl ?_ | refine hload H (k := 4) rfl rfl ?_ | refine hloadA H (k := 4) rfl ?_ | refine hload H (k := 5) rfl rfl ?_ | refine hloadA H (k := 5) rfl ?_ | refine hload H (k := 6) rfl rfl ?_ | refine hloadA H (k := 6) rfl ?_ | refine hload H (k := 7) rfl rfl ?_ | refine hloadA H (k := 7) rfl ?_ | refine hload H (k := 8) rfl rfl ?_ | refine hloadA H (k := 8) rfl ?_ | refine hload H (k := 9) rfl rfl ?_ | refine hloadA H (k := 9) rfl ?_ | (refine hstore H (k := 0) rfl rfl ?_; (conv => whnf); clear H; intro τ H) | (refine hstore H (k := 1) rfl rfl ?_; (conv => whnf); clear H; intro τ H) | (refine hstore H (k := 2) rfl rfl ?_; (conv => whnf); clear H; intro τ H) | (refine hstore H (k := 3) rfl rfl ?_; (conv => whnf); clear H; intro τ H) | (refine hstore H (k := 4) rfl rfl ?_; (conv => whnf); clear H; intro τ H) | (refine hstore H (k := 5) rfl rfl ?_; (conv => whnf); clear H; intro τ H) | (refine hstore H (k := 6) rfl rfl ?_; (conv => whnf); clear H; intro τ H) | (refine hstore H (k := 7) rfl rfl ?_; (conv => whnf); clear H; intro τ H) | (refine hstore H (k := 8) rfl rfl ?_; (conv => whnf); clear H; intro τ H) | (refine hstore H (k := 9) rfl rfl ?_; (conv => whnf); clear H; intro τ H) | rw [List.length_map]); ((conv => whnf); (repeat ((first | with_reducible refine abr_true rfl ?_ | with_reducible refine abr_false rfl ?_ | with_reducible refine abr_yes rfl ?_ | refine abr_yes (by decide) ?_ | refine abr_no (by decide) ?_ | with_reducible refine abr_same_ne ?_); (conv => whnf))))))
    exact aret (VLe.refl _) H.sub ⟨rfl, rfl⟩
  rw [if_neg c1]
  (repeat ((first | refine afit_i64 (by omega) ?_ | refine arem_nonneg (by omega) (by omega) ?_ | refine adiv_i64 (by omega) (by omega) ?_ | refine abr_yes (by omega) ?_ | refine abr_no (by omega) ?_ | refine amin ?_ | refine amax ?_ | refine afit_u64 (by omega) ?_ | refine afit_u8 (by omega) ?_ | refine acell rfl ?_ | refine acellA ?_ | refine hload H (k := 0) rfl rfl ?_ | refine hloadA H (k := 0) rfl ?_ | refine hload H (k := 1) rfl rfl ?_ | refine hloadA H (k := 1) rfl ?_ | refine hload H (k := 2) rfl rfl ?_ | refine hloadA H (k := 2) rfl ?_ | refine hload H (k := 3) rfl rfl ?_ | refine hloadA H (k := 3) rfl ?_ | refine hload H (k := 4) rfl rfl ?_ | refine hloadA H (k := 4) rfl ?_ | refine hload H (k := 5) rfl rfl ?_ | refine hloadA H (k := 5) rfl ?_ | refine hload H (k := 6) rfl rfl ?_ | refine hloadA H (k := 6) rfl ?_ | refine hload H (k := 7) rfl rfl ?_ | refine hloadA H (k := 7) rfl ?_ | refine hload H (k := 8) rfl rfl ?_ | refine hloadA H (k := 8) rfl ?_ | refine hload H (k := 9) rfl rfl ?_ | refine hloadA H (k := 9) rfl ?_ | (refine hstore H (k := 0) rfl rfl ?_; (conv => whnf); clear H; intro τ H) | (refine hstore H (k := 1) rfl rfl ?_; (conv => whnf); clear H; intro τ H) | (refine hstore H (k := 2) rfl rfl ?_; (conv => whnf); clear H; intro τ H) | (refine hstore H (k := 3) rfl rfl ?_; (conv => whnf); clear H; intro τ H) | (refine hstore H (k := 4) rfl rfl ?_; (conv => whnf); clear H; intro τ H) | (refine hstore H (k := 5) rfl rfl ?_; (conv => whnf); clear H; intro τ H) | (refine hstore H (k := 6) rfl rfl ?_; (conv => whnf); clear H; intro τ H) | (refine hstore H (k := 7) rfl rfl ?_; (conv => whnf); clear H; intro τ H) | (refine hstore H (k := 8) rfl rfl ?_; (conv => whnf); clear H; intro τ H) | (refine hstore H (k := 9) rfl rfl ?_; (conv => whnf); clear H; intro τ H) | rw [List.length_map]); ((conv => whnf); (repeat ((first | with_reducible refine abr_true rfl ?_ | with_reducible refine abr_false rfl ?_ | with_reducible refine abr_yes rfl ?_ | refine abr_yes (by decide) ?_ | refine abr_no (by decide) ?_ | with_reducible refine abr_same_ne ?_); (conv => whnf))))))
  refine acall (refGet x t k n τ hk hl) ?_
  rintro _ σ_ ⟨rfl, e_⟩
  obtain rfl := e_.symm
  refine ⟨?_, Ext.refl _⟩
  ((conv => whnf); (repeat ((first | with_reducible refine abr_true rfl ?_ | with_reducible refine abr_false rfl ?_ | with_reducible refine abr_yes rfl ?_ | refine abr_yes (by decide) ?_ | refine abr_no (by decide) ?_ | with_reducible refine abr_same_ne ?_); (conv => whnf))))
  rw [getAt_fits (by omega) (by omega), getCode_fits (by omega) (by omega)]
  have hv1 := hv k n (by omega)
  generalize getVal x k n = sn at *
  (repeat ((first | refine afit_i64 (by omega) ?_ | refine arem_nonneg (by omega) (by omega) ?_ | refine adiv_i64 (by omega) (by omega) ?_ | refine abr_yes (by omega) ?_ | refine abr_no (by omega) ?_ | refine amin ?_ | refine amax ?_ | refine afit_u64 (by omega) ?_ | refine afit_u8 (by omega) ?_ | refine acell rfl ?_ | refine acellA ?_ | refine hload H (k := 0) rfl rfl ?_ | refine hloadA H (k := 0) rfl ?_ | refine hload H (k := 1) rfl rfl ?_ | refine hloadA H (k := 1) rfl ?_ | refine hload H (k := 2) rfl rfl ?_ | refine hloadA H (k := 2) rfl ?_ | refine hload H (k := 3) rfl rfl ?_ | refine hloadA H (k := 3) rfl ?_ | refine hload H (k := 4) rfl rfl ?_ | refine hloadA H (k := 4) rfl ?_ | refine hload H (k := 5) rfl rfl ?_ | refine hloadA H (k := 5) rfl ?_ | refine hload H (k := 6) rfl rfl ?_ | refine hloadA H (k := 6) rfl ?_ | refine hload H (k := 7) rfl rfl ?_ | refine hloadA H (k := 7) rfl ?_ | refine hload H (k := 8) rfl rfl ?_ | refine hloadA H (k := 8) rfl ?_ | refine hload H (k := 9) rfl rfl ?_ | refine hloadA H (k := 9) rfl ?_ | (refine hstore H (k := 0) rfl rfl ?_; (conv => whnf); clear H; intro τ H) | (refine hstore H (k := 1) rfl rfl ?_; (conv => whnf); clear H; intro τ H) | (refine hstore H (k := 2) rfl rfl ?_; (conv => whnf); clear H; intro τ H) | (refine hstore H (k := 3) rfl rfl ?_; (conv => whnf); clear H; intro τ H) | (refine hstore H (k := 4) rfl rfl ?_; (conv => whnf); clear H; intro τ H) | (refine hstore H (k := 5) rfl rfl ?_; (conv => whnf); clear H; intro τ H) | (refine hstore H (k := 6) rfl rfl ?_; (conv => whnf); clear H; intro τ H) | (refine hstore H (k := 7) rfl rfl ?_; (conv => whnf); clear H; intro τ H) | (refine hstore H (k := 8) rfl rfl ?_; (conv => whnf); clear H; intro τ H) | (refine hstore H (k := 9) rfl rfl ?_; (conv => whnf); clear H; intro τ H) | rw [List.length_map]); ((conv => whnf); (repeat ((first | with_reducible refine abr_true rfl ?_ | with_reducible refine abr_false rfl ?_ | with_reducible refine abr_yes rfl ?_ | refine abr_yes (by decide) ?_ | refine abr_no (by decide) ?_ | with_reducible refine abr_same_ne ?_); (conv => whnf))))))
  refine aget (by omega) (get_boolD (i := k + n + 1) (by omega)) ?_
  generalize bitD x (k + n + 1) = pa at *
  ((conv => whnf); (repeat ((first | with_reducible refine abr_true rfl ?_ | with_reducible refine abr_false rfl ?_ | with_reducible refine abr_yes rfl ?_ | refine abr_yes (by decide) ?_ | refine abr_no (by decide) ?_ | with_reducible refine abr_same_ne ?_); (conv => whnf))))
  (repeat ((first | refine afit_i64 (by omega) ?_ | refine arem_nonneg (by omega) (by omega) ?_ | refine adiv_i64 (by omega) (by omega) ?_ | refine abr_yes (by omega) ?_ | refine abr_no (by omega) ?_ | refine amin ?_ | refine amax ?_ | refine afit_u64 (by omega) ?_ | refine afit_u8 (by omega) ?_ | refine acell rfl ?_ | refine acellA ?_ | refine hload H (k := 0) rfl rfl ?_ | refine hloadA H (k := 0) rfl ?_ | refine hload H (k := 1) rfl rfl ?_ | refine hloadA H (k := 1) rfl ?_ | refine hload H (k := 2) rfl rfl ?_ | refine hloadA H (k := 2) rfl ?_ | refine hload H (k := 3) rfl rfl ?_ | refine hloadA H (k := 3) rfl ?_ | refine hload H (k := 4) rfl rfl ?_ | refine hloadA H (k := 4) rfl ?_ | refine hload H (k := 5) rfl rfl ?_ | refine hloadA H (k := 5) rfl ?_ | refine hload H (k := 6) rfl rfl ?_ | refine hloadA H (k := 6) rfl ?_ | refine hload H (k := 7) rfl rfl ?_ | refine hloadA H (k := 7) rfl ?_ | refine hload H (k := 8) rfl rfl ?_ | refine hloadA H (k := 8) rfl ?_ | refine hload H (k := 9) rfl rfl ?_ | refine hloadA H (k := 9) rfl ?_ | (refine hstore H (k := 0) rfl rfl ?_; (conv => whnf); clear H; intro τ H) | (refine hstore H (k := 1) rfl rfl ?_; (conv => whnf); clear H; intro τ H) | (refine hstore H (k := 2) rfl rfl ?_; (conv => whnf); clear H; intro τ H) | (refine hstore H (k := 3) rfl rfl ?_; (conv => whnf); clear H; intro τ H) | (refine hstore H (k := 4) rfl rfl ?_; (conv => whnf); clear H; intro τ H) | (refine hstore H (k := 5) rfl rfl ?_; (conv => whnf); clear H; intro τ H) | (refine hstore H (k := 6) rfl rfl ?_; (conv => whnf); clear H; intro τ H) | (refine hstore H (k := 7) rfl rfl ?_; (conv => whnf); clear H; intro τ H) | (refine hstore H (k := 8) rfl rfl ?_; (conv => whnf); clear H; intro τ H) | (refine hstore H (k := 9) rfl rfl ?_; (conv => whnf); clear H; intro τ H) | rw [List.length_map]); ((conv => whnf); (repeat ((first | with_reducible refine abr_true rfl ?_ | with_reducible refine abr_false rfl ?_ | with_reducible refine abr_yes rfl ?_ | refine abr_yes (by decide) ?_ | refine abr_no (by decide) ?_ | with_reducible refine abr_same_ne ?_); (conv => whnf))))))
  refine hnew H rfl ?_
  clear H
  intro i12 τ H
  ((conv => whnf); (repeat ((first | with_reducible refine abr_true rfl ?_ | with_reducible refine abr_false rfl ?_ | with_reducible refine abr_yes rfl ?_ | refine abr_yes (by decide) ?_ | refine abr_no (by decide) ?_ | with_reducible refine abr_same_ne ?_); (conv => whnf))))
  (repeat ((first | refine afit_i64 (by omega) ?_ | refine arem_nonneg (by omega) (by omega) ?_ | refine adiv_i64 (by omega) (by omega) ?_ | refine abr_yes (by omega) ?_ | refine abr_no (by omega) ?_ | refine amin ?_ | refine amax ?_ | refine afit_u64 (by omega) ?_ | refine afit_u8 (by omega) ?_ | refine acell rfl ?_ | refine acellA ?_ | refine hload H (k := 0) rfl rfl ?_ | refine hloadA H (k := 0) rfl ?_ | refine hload H (k := 1) rfl rfl ?_ | refine hloadA H (k := 1) rfl ?_ | refine hload H (k := 2) rfl rfl ?_ | refine hloadA H (k := 2) rfl ?_ | refine hload H (k := 3) rfl rfl ?_ | refine hloadA H (k := 3) rfl ?_ | refine hload H (k := 4) rfl rfl ?_ | refine hloadA H (k := 4) rfl ?_ | refine hload H (k := 5) rfl rfl ?_ | refine hloadA H (k := 5) rfl ?_ | refine hload H (k := 6) rfl rfl ?_ | refine hloadA H (k := 6) rfl ?_ | refine hload H (k := 7) rfl rfl ?_ | refine hloadA H (k := 7) rfl ?_ | refine hload H (k := 8) rfl rfl ?_ | refine hloadA H (k := 8) rfl ?_ | refine hload H (k := 9) rfl rfl ?_ | refine hloadA H (k := 9) rfl ?_ | (refine hstore H (k := 0) rfl rfl ?_; (conv => whnf); clear H; intro τ H) | (refine hstore H (k := 1) rfl rfl ?_; (conv => whnf); clear H; intro τ H) | (refine hstore H (k := 2) rfl rfl ?_; (conv => whnf); clear H; intro τ H) | (refine hstore H (k := 3) rfl rfl ?_; (conv => whnf); clear H; intro τ H) | (refine hstore H (k := 4) rfl rfl ?_; (conv => whnf); clear H; intro τ H) | (refine hstore H (k := 5) rfl rfl ?_; (conv => whnf); clear H; intro τ H) | (refine hstore H (k := 6) rfl rfl ?_; (conv => whnf); clear H; intro τ H) | (refine hstore H (k := 7) rfl rfl ?_; (conv => whnf); clear H; intro τ H) | (refine hstore H (k := 8) rfl rfl ?_; (conv => whnf); clear H; intro τ H) | (refine hstore H (k := 9) rfl rfl ?_; (conv => whnf); clear H; intro τ H) | rw [List.length_map]); ((conv => whnf); (repeat ((first | with_reducible refine abr_true rfl ?_ | with_reducible refine abr_false rfl ?_ | with_reducible refine abr_yes rfl ?_ | refine abr_yes (by decide) ?_ | refine abr_no (by decide) ?_ | with_reducible refine abr_same_ne ?_); (conv => whnf))))))
  refine aget (by omega) (get_boolD (i := k + n) (by omega)) ?_
  ((conv => whnf); (repeat ((first | with_reducible refine abr_true rfl ?_ | with_reducible refine abr_false rfl ?_ | with_reducible refine abr_yes rfl ?_ | refine abr_yes (by decide) ?_ | refine abr_no (by decide) ?_ | with_reducible refine abr_same_ne ?_); (conv => whnf))))
  (repeat ((first | refine afit_i64 (by omega) ?_ | refine arem_nonneg (by omega) (by omega) ?_ | refine adiv_i64 (by omega) (by omega) ?_ | refine abr_yes (by omega) ?_ | refine abr_no (by omega) ?_ | refine amin ?_ | refine amax ?_ | refine afit_u64 (by omega) ?_ | refine afit_u8 (by omega) ?_ | refine acell rfl ?_ | refine acellA ?_ | refine hload H (k := 0) rfl rfl ?_ | refine hloadA H (k := 0) rfl ?_ | refine hload H (k := 1) rfl rfl ?_ | refine hloadA H (k := 1) rfl ?_ | refine hload H (k := 2) rfl rfl ?_ | refine hloadA H (k := 2) rfl ?_ | refine hload H (k := 3) rfl rfl ?_ | refine hloadA H (k := 3) rfl ?_ | refine hload H (k := 4) rfl rfl ?_ | refine hloadA H (k := 4) rfl ?_ | refine hload H (k := 5) rfl rfl ?_ | refine hloadA H (k := 5) rfl ?_ | refine hload H (k := 6) rfl rfl ?_ | refine hloadA H (k := 6) rfl ?_ | refine hload H (k := 7) rfl rfl ?_ | refine hloadA H (k := 7) rfl ?_ | refine hload H (k := 8) rfl rfl ?_ | refine hloadA H (k := 8) rfl ?_ | refine hload H (k := 9) rfl rfl ?_ | refine hloadA H (k := 9) rfl ?_ | (refine hstore H (k := 0) rfl rfl ?_; (conv => whnf); clear H; intro τ H) | (refine hstore H (k := 1) rfl rfl ?_; (conv => whnf); clear H; intro τ H) | (refine hstore H (k := 2) rfl rfl ?_; (conv => whnf); clear H; intro τ H) | (refine hstore H (k := 3) rfl rfl ?_; (conv => whnf); clear H; intro τ H) | (refine hstore H (k := 4) rfl rfl ?_; (conv => whnf); clear H; intro τ H) | (refine hstore H (k := 5) rfl rfl ?_; (conv => whnf); clear H; intro τ H) | (refine hstore H (k := 6) rfl rfl ?_; (conv => whnf); clear H; intro τ H) | (refine hstore H (k := 7) rfl rfl ?_; (conv => whnf); clear H; intro τ H) | (refine hstore H (k := 8) rfl rfl ?_; (conv => whnf); clear H; intro τ H) | (refine hstore H (k := 9) rfl rfl ?_; (conv => whnf); clear H; intro τ H) | rw [List.length_map]); ((conv => whnf); (repeat ((first | with_reducible refine abr_true rfl ?_ | with_reducible refine abr_false rfl ?_ | with_reducible refine abr_yes rfl ?_ | refine abr_yes (by decide) ?_ | refine abr_no (by decide) ?_ | with_reducible refine abr_same_ne ?_); (conv => whnf))))))
  generalize bitD x (k + n) = mo at *
  cases pa
  · ((conv => whnf); (repeat ((first | with_reducible refine abr_true rfl ?_ | with_reducible refine abr_false rfl ?_ | with_reducible refine abr_yes rfl ?_ | refine abr_yes (by decide) ?_ | refine abr_no (by decide) ?_ | with_reducible refine abr_same_ne ?_); (conv => whnf))))
    (repeat ((first | refine afit_i64 (by omega) ?_ | refine arem_nonneg (by omega) (by omega) ?_ | refine adiv_i64 (by omega) (by omega) ?_ | refine abr_yes (by omega) ?_ | refine abr_no (by omega) ?_ | refine amin ?_ | refine amax ?_ | refine afit_u64 (by omega) ?_ | refine afit_u8 (by omega) ?_ | refine acell rfl ?_ | refine acellA ?_ | refine hload H (k := 0) rfl rfl ?_ | refine hloadA H (k := 0) rfl ?_ | refine hload H (k := 1) rfl rfl ?_ | refine hloadA H (k := 1) rfl ?_ | refine hload H (k := 2) rfl rfl ?_ | refine hloadA H (k := 2) rfl ?_ | refine hload H (k := 3) rfl rfl ?_ | refine hloadA H (k := 3) rfl ?_ | refine hload H (k := 4) rfl rfl ?_ | refine hloadA H (k := 4) rfl ?_ | refine hload H (k := 5) rfl rfl ?_ | refine hloadA H (k := 5) rfl ?_ | refine hload H (k := 6) rfl rfl ?_ | refine hloadA H (k := 6) rfl ?_ | refine hload H (k := 7) rfl rfl ?_ | refine hloadA H (k := 7) rfl ?_ | refine hload H (k := 8) rfl rfl ?_ | refine hloadA H (k := 8) rfl ?_ | refine hload H (k := 9) rfl rfl ?_ | refine hloadA H (k := 9) rfl ?_ | (refine hstore H (k := 0) rfl rfl ?_; (conv => whnf); clear H; intro τ H) | (refine hstore H (k := 1) rfl rfl ?_; (conv => whnf); clear H; intro τ H) | (refine hstore H (k := 2) rfl rfl ?_; (conv => whnf); clear H; intro τ H) | (refine hstore H (k := 3) rfl rfl ?_; (conv => whnf); clear H; intro τ H) | (refine hstore H (k := 4) rfl rfl ?_; (conv => whnf); clear H; intro τ H) | (refine hstore H (k := 5) rfl rfl ?_; (conv => whnf); clear H; intro τ H) | (refine hstore H (k := 6) rfl rfl ?_; (conv => whnf); clear H; intro τ H) | (refine hstore H (k := 7) rfl rfl ?_; (conv => whnf); clear H; intro τ H) | (refine hstore H (k := 8) rfl rfl ?_; (conv => whnf); clear H; intro τ H) | (refine hstore H (k := 9) rfl rfl ?_; (conv => whnf); clear H; intro τ H) | rw [List.length_map]); ((conv => whnf); (repeat ((first | with_reducible refine abr_true rfl ?_ | with_reducible refine abr_false rfl ?_ | with_reducible refine abr_yes rfl ?_ | refine abr_yes (by decide) ?_ | refine abr_no (by decide) ?_ | with_reducible refine abr_same_ne ?_); (conv => whnf))))))
    exact aret (VLe.refl _) H.sub ⟨rfl, rfl⟩
  · rw [if_pos rfl]
    ((conv => whnf); (repeat ((first | with_reducible refine abr_true rfl ?_ | with_reducible refine abr_false rfl ?_ | with_reducible refine abr_yes rfl ?_ | refine abr_yes (by decide) ?_ | refine abr_no (by decide) ?_ | with_reducible refine abr_same_ne ?_); (conv => whnf))))
    (repeat ((first | refine afit_i64 (by omega) ?_ | refine arem_nonneg (by omega) (by omega) ?_ | refine adiv_i64 (by omega) (by omega) ?_ | refine abr_yes (by omega) ?_ | refine abr_no (by omega) ?_ | refine amin ?_ | refine amax ?_ | refine afit_u64 (by omega) ?_ | refine afit_u8 (by omega) ?_ | refine acell rfl ?_ | refine acellA ?_ | refine hload H (k := 0) rfl rfl ?_ | refine hloadA H (k := 0) rfl ?_ | refine hload H (k := 1) rfl rfl ?_ | refine hloadA H (k := 1) rfl ?_ | refine hload H (k := 2) rfl rfl ?_ | refine hloadA H (k := 2) rfl ?_ | refine hload H (k := 3) rfl rfl ?_ | refine hloadA H (k := 3) rfl ?_ | refine hload H (k := 4) rfl rfl ?_ | refine hloadA H (k := 4) rfl ?_ | refine hload H (k := 5) rfl rfl ?_ | refine hloadA H (k := 5) rfl ?_ | refine hload H (k := 6) rfl rfl ?_ | refine hloadA H (k := 6) rfl ?_ | refine hload H (k := 7) rfl rfl ?_ | refine hloadA H (k := 7) rfl ?_ | refine hload H (k := 8) rfl rfl ?_ | refine hloadA H (k := 8) rfl ?_ | refine hload H (k := 9) rfl rfl ?_ | refine hloadA H (k := 9) rfl ?_ | (refine hstore H (k := 0) rfl rfl ?_; (conv => whnf); clear H; intro τ H) | (refine hstore H (k := 1) rfl rfl ?_; (conv => whnf); clear H; intro τ H) | (refine hstore H (k := 2) rfl rfl ?_; (conv => whnf); clear H; intro τ H) | (refine hstore H (k := 3) rfl rfl ?_; (conv => whnf); clear H; intro τ H) | (refine hstore H (k := 4) rfl rfl ?_; (conv => whnf); clear H; intro τ H) | (refine hstore H (k := 5) rfl rfl ?_; (conv => whnf); clear H; intro τ H) | (refine hstore H (k := 6) rfl rfl ?_; (conv => whnf); clear H; intro τ H) | (refine hstore H (k := 7) rfl rfl ?_; (conv => whnf); clear H; intro τ H) | (refine hstore H (k := 8) rfl rfl ?_; (conv => whnf); clear H; intro τ H) | (refine hstore H (k := 9) rfl rfl ?_; (conv => whnf); clear H; intro τ H) | rw [List.length_map]); ((conv => whnf); (repeat ((first | with_reducible refine abr_true rfl ?_ | with_reducible refine abr_false rfl ?_ | with_reducible refine abr_yes rfl ?_ | refine abr_yes (by decide) ?_ | refine abr_no (by decide) ?_ | with_reducible refine abr_same_ne ?_); (conv => whnf))))))
    refine acall (refOffset n τ) ?_
    rintro _ σ_ ⟨rfl, e_⟩
    obtain rfl := e_.symm
    refine ⟨?_, Ext.refl _⟩
    ((conv => whnf); (repeat ((first | with_reducible refine abr_true rfl ?_ | with_reducible refine abr_false rfl ?_ | with_reducible refine abr_yes rfl ?_ | refine abr_yes (by decide) ?_ | refine abr_no (by decide) ?_ | with_reducible refine abr_same_ne ?_); (conv => whnf))))
    (repeat ((first | refine afit_i64 (by omega) ?_ | refine arem_nonneg (by omega) (by omega) ?_ | refine adiv_i64 (by omega) (by omega) ?_ | refine abr_yes (by omega) ?_ | refine abr_no (by omega) ?_ | refine amin ?_ | refine amax ?_ | refine afit_u64 (by omega) ?_ | refine afit_u8 (by omega) ?_ | refine acell rfl ?_ | refine acellA ?_ | refine hload H (k := 0) rfl rfl ?_ | refine hloadA H (k := 0) rfl ?_ | refine hload H (k := 1) rfl rfl ?_ | refine hloadA H (k := 1) rfl ?_ | refine hload H (k := 2) rfl rfl ?_ | refine hloadA H (k := 2) rfl ?_ | refine hload H (k := 3) rfl rfl ?_ | refine hloadA H (k := 3) rfl ?_ | refine hload H (k := 4) rfl rfl ?_ | refine hloadA H (k := 4) rfl ?_ | refine hload H (k := 5) rfl rfl ?_ | refine hloadA H (k := 5) rfl ?_ | refine hload H (k := 6) rfl rfl ?_ | refine hloadA H (k := 6) rfl ?_ | refine hload H (k := 7) rfl rfl ?_ | refine hloadA H (k := 7) rfl ?_ | refine hload H (k := 8) rfl rfl ?_ | refine hloadA H (k := 8) rfl ?_ | refine hload H (k := 9) rfl rfl ?_ | refine hloadA H (k := 9) rfl ?_ | (refine hstore H (k := 0) rfl rfl ?_; (conv => whnf); clear H; intro τ H) | (refine hstore H (k := 1) rfl rfl ?_; (conv => whnf); clear H; intro τ H) | (refine hstore H (k := 2) rfl rfl ?_; (conv => whnf); clear H; intro τ H) | (refine hstore H (k := 3) rfl rfl ?_; (conv => whnf); clear H; intro τ H) | (refine hstore H (k := 4) rfl rfl ?_; (conv => whnf); clear H; intro τ H) | (refine hstore H (k := 5) rfl rfl ?_; (conv => whnf); clear H; intro τ H) | (refine hstore H (k := 6) rfl rfl ?_; (conv => whnf); clear H; intro τ H) | (refine hstore H (k := 7) rfl rfl ?_; (conv => whnf); clear H; intro τ H) | (refine hstore H (k := 8) rfl rfl ?_; (conv => whnf); clear H; intro τ H) | (refine hstore H (k := 9) rfl rfl ?_; (conv => whnf); clear H; intro τ H) | rw [List.length_map]); ((conv => whnf); (repeat ((first | with_reducible refine abr_true rfl ?_ | with_reducible refine abr_false rfl ?_ | with_reducible refine abr_yes rfl ?_ | refine abr_yes (by decide) ?_ | refine abr_no (by decide) ?_ | with_reducible refine abr_same_ne ?_); (conv => whnf))))))
    by_cases c3 : x.length < k + n + 2 + 2 * offW n
    · rw [if_pos c3]
      (repeat ((first | refine afit_i64 (by omega) ?_ | refine arem_nonneg (by omega) (by omega) ?_ | refine adiv_i64 (by omega) (by omega) ?_ | refine abr_yes (by omega) ?_ | refine abr_no (by omega) ?_ | refine amin ?_ | refine amax ?_ | refine afit_u64 (by omega) ?_ | refine afit_u8 (by omega) ?_ | refine acell rfl ?_ | refine acellA ?_ | refine hload H (k := 0) rfl rfl ?_ | refine hloadA H (k := 0) rfl ?_ | refine hload H (k := 1) rfl rfl ?_ | refine hloadA H (k := 1) rfl ?_ | refine hload H (k := 2) rfl rfl ?_ | refine hloadA H (k := 2) rfl ?_ | refine hload H (k := 3) rfl rfl ?_ | refine hloadA H (k := 3) rfl ?_ | refine hload H (k := 4) rfl rfl ?_ | refine hloadA H (k := 4) rfl ?_ | refine hload H (k := 5) rfl rfl ?_ | refine hloadA H (k := 5) rfl ?_ | refine hload H (k := 6) rfl rfl ?_ | refine hloadA H (k := 6) rfl ?_ | refine hload H (k := 7) rfl rfl ?_ | refine hloadA H (k := 7) rfl ?_ | refine hload H (k := 8) rfl rfl ?_ | refine hloadA H (k := 8) rfl ?_ | refine hload H (k := 9) rfl rfl ?_ | refine hloadA H (k := 9) rfl ?_ | (refine hstore H (k := 0) rfl rfl ?_; (conv => whnf); clear H; intro τ H) | (refine hstore H (k := 1) rfl rfl ?_; (conv => whnf); clear H; intro τ H) | (refine hstore H (k := 2) rfl rfl ?_; (conv => whnf); clear H; intro τ H) | (refine hstore H (k := 3) rfl rfl ?_; (conv => whnf); clear H; intro τ H) | (refine hstore H (k := 4) rfl rfl ?_; (conv => whnf); clear H; intro τ H) | (refine hstore H (k := 5) rfl rfl ?_; (conv => whnf); clear H; intro τ H) | (refine hstore H (k := 6) rfl rfl ?_; (conv => whnf); clear H; intro τ H) | (refine hstore H (k := 7) rfl rfl ?_; (conv => whnf); clear H; intro τ H) | (refine hstore H (k := 8) rfl rfl ?_; (conv => whnf); clear H; intro τ H) | (refine hstore H (k := 9) rfl rfl ?_; (conv => whnf); clear H; intro τ H) | rw [List.length_map]); ((conv => whnf); (repeat ((first | with_reducible refine abr_true rfl ?_ | with_reducible refine abr_false rfl ?_ | with_reducible refine abr_yes rfl ?_ | refine abr_yes (by decide) ?_ | refine abr_no (by decide) ?_ | with_reducible refine abr_same_ne ?_); (conv => whnf))))))
      exact aret (VLe.refl _) H.sub ⟨rfl, rfl⟩
    rw [if_neg c3]
    (repeat ((first | refine afit_i64 (by omega) ?_ | refine arem_nonneg (by omega) (by omega) ?_ | refine adiv_i64 (by omega) (by omega) ?_ | refine abr_yes (by omega) ?_ | refine abr_no (by omega) ?_ | refine amin ?_ | refine amax ?_ | refine afit_u64 (by omega) ?_ | refine afit_u8 (by omega) ?_ | refine acell rfl ?_ | refine acellA ?_ | refine hload H (k := 0) rfl rfl ?_ | refine hloadA H (k := 0) rfl ?_ | refine hload H (k := 1) rfl rfl ?_ | refine hloadA H (k := 1) rfl ?_ | refine hload H (k := 2) rfl rfl ?_ | refine hloadA H (k := 2) rfl ?_ | refine hload H (k := 3) rfl rfl ?_ | refine hloadA H (k := 3) rfl ?_ | refine hload H (k := 4) rfl rfl ?_ | refine hloadA H (k := 4) rfl ?_ | refine hload H (k := 5) rfl rfl ?_ | refine hloadA H (k := 5) rfl ?_ | refine hload H (k := 6) rfl rfl ?_ | refine hloadA H (k := 6) rfl ?_ | refine hload H (k := 7) rfl rfl ?_ | refine hloadA H (k := 7) rfl ?_ | refine hload H (k := 8) rfl rfl ?_ | refine hloadA H (k := 8) rfl ?_ | refine hload H (k := 9) rfl rfl ?_ | refine hloadA H (k := 9) rfl ?_ | (refine hstore H (k := 0) rfl rfl ?_; (conv => whnf); clear H; intro τ H) | (refine hstore H (k := 1) rfl rfl ?_; (conv => whnf); clear H; intro τ H) | (refine hstore H (k := 2) rfl rfl ?_; (conv => whnf); clear H; intro τ H) | (refine hstore H (k := 3) rfl rfl ?_; (conv => whnf); clear H; intro τ H) | (refine hstore H (k := 4) rfl rfl ?_; (conv => whnf); clear H; intro τ H) | (refine hstore H (k := 5) rfl rfl ?_; (conv => whnf); clear H; intro τ H) | (refine hstore H (k := 6) rfl rfl ?_; (conv => whnf); clear H; intro τ H) | (refine hstore H (k := 7) rfl rfl ?_; (conv => whnf); clear H; intro τ H) | (refine hstore H (k := 8) rfl rfl ?_; (conv => whnf); clear H; intro τ H) | (refine hstore H (k := 9) rfl rfl ?_; (conv => whnf); clear H; intro τ H) | rw [List.length_map]); ((conv => whnf); (repeat ((first | with_reducible refine abr_true rfl ?_ | with_reducible refine abr_false rfl ?_ | with_reducible refine abr_yes rfl ?_ | refine abr_yes (by decide) ?_ | refine abr_no (by decide) ?_ | with_reducible refine abr_same_ne ?_); (conv => whnf))))))
    refine acall (refOffset n τ) ?_
    rintro _ σ_ ⟨rfl, e_⟩
    obtain rfl := e_.symm
    refine ⟨?_, Ext.refl _⟩
    ((conv => whnf); (repeat ((first | with_reducible refine abr_true rfl ?_ | with_reducible refine abr_false rfl ?_ | with_reducible refine abr_yes rfl ?_ | refine abr_yes (by decide) ?_ | refine abr_no (by decide) ?_ | with_reducible refine abr_same_ne ?_); (conv => whnf))))
    refine acall (refGet x t (k + n + 2) (offW n) τ (by omega) hl) ?_
    rintro _ σ_ ⟨rfl, e_⟩
    obtain rfl := e_.symm
    refine ⟨?_, Ext.refl _⟩
    ((conv => whnf); (repeat ((first | with_reducible refine abr_true rfl ?_ | with_reducible refine abr_false rfl ?_ | with_reducible refine abr_yes rfl ?_ | refine abr_yes (by decide) ?_ | refine abr_no (by decide) ?_ | with_reducible refine abr_same_ne ?_); (conv => whnf))))
    rw [getAt_fits (by omega) (by omega), getCode_fits (by omega) (by omega)]
    have hv2 := hv (k + n + 2) (offW n) hm
    generalize getVal x (k + n + 2) (offW n) = fr at *
    (repeat ((first | refine afit_i64 (by omega) ?_ | refine arem_nonneg (by omega) (by omega) ?_ | refine adiv_i64 (by omega) (by omega) ?_ | refine abr_yes (by omega) ?_ | refine abr_no (by omega) ?_ | refine amin ?_ | refine amax ?_ | refine afit_u64 (by omega) ?_ | refine afit_u8 (by omega) ?_ | refine acell rfl ?_ | refine acellA ?_ | refine hload H (k := 0) rfl rfl ?_ | refine hloadA H (k := 0) rfl ?_ | refine hload H (k := 1) rfl rfl ?_ | refine hloadA H (k := 1) rfl ?_ | refine hload H (k := 2) rfl rfl ?_ | refine hloadA H (k := 2) rfl ?_ | refine hload H (k := 3) rfl rfl ?_ | refine hloadA H (k := 3) rfl ?_ | refine hload H (k := 4) rfl rfl ?_ | refine hloadA H (k := 4) rfl ?_ | refine hload H (k := 5) rfl rfl ?_ | refine hloadA H (k := 5) rfl ?_ | refine hload H (k := 6) rfl rfl ?_ | refine hloadA H (k := 6) rfl ?_ | refine hload H (k := 7) rfl rfl ?_ | refine hloadA H (k := 7) rfl ?_ | refine hload H (k := 8) rfl rfl ?_ | refine hloadA H (k := 8) rfl ?_ | refine hload H (k := 9) rfl rfl ?_ | refine hloadA H (k := 9) rfl ?_ | (refine hstore H (k := 0) rfl rfl ?_; (conv => whnf); clear H; intro τ H) | (refine hstore H (k := 1) rfl rfl ?_; (conv => whnf); clear H; intro τ H) | (refine hstore H (k := 2) rfl rfl ?_; (conv => whnf); clear H; intro τ H) | (refine hstore H (k := 3) rfl rfl ?_; (conv => whnf); clear H; intro τ H) | (refine hstore H (k := 4) rfl rfl ?_; (conv => whnf); clear H; intro τ H) | (refine hstore H (k := 5) rfl rfl ?_; (conv => whnf); clear H; intro τ H) | (refine hstore H (k := 6) rfl rfl ?_; (conv => whnf); clear H; intro τ H) | (refine hstore H (k := 7) rfl rfl ?_; (conv => whnf); clear H; intro τ H) | (refine hstore H (k := 8) rfl rfl ?_; (conv => whnf); clear H; intro τ H) | (refine hstore H (k := 9) rfl rfl ?_; (conv => whnf); clear H; intro τ H) | rw [List.length_map]); ((conv => whnf); (repeat ((first | with_reducible refine abr_true rfl ?_ | with_reducible refine abr_false rfl ?_ | with_reducible refine abr_yes rfl ?_ | refine abr_yes (by decide) ?_ | refine abr_no (by decide) ?_ | with_reducible refine abr_same_ne ?_); (conv => whnf))))))
    refine acall (refOffset n τ) ?_
    rintro _ σ_ ⟨rfl, e_⟩
    obtain rfl := e_.symm
    refine ⟨?_, Ext.refl _⟩
    ((conv => whnf); (repeat ((first | with_reducible refine abr_true rfl ?_ | with_reducible refine abr_false rfl ?_ | with_reducible refine abr_yes rfl ?_ | refine abr_yes (by decide) ?_ | refine abr_no (by decide) ?_ | with_reducible refine abr_same_ne ?_); (conv => whnf))))
    refine acall (refGet x t (k + n + 2 + offW n) (offW n) τ (by omega) hl) ?_
    rintro _ σ_ ⟨rfl, e_⟩
    obtain rfl := e_.symm
    refine ⟨?_, Ext.refl _⟩
    ((conv => whnf); (repeat ((first | with_reducible refine abr_true rfl ?_ | with_reducible refine abr_false rfl ?_ | with_reducible refine abr_yes rfl ?_ | refine abr_yes (by decide) ?_ | refine abr_no (by decide) ?_ | with_reducible refine abr_same_ne ?_); (conv => whnf))))
    rw [getAt_fits (by omega) (by omega), getCode_fits (by omega) (by omega)]
    have hv3 := hv (k + n + 2 + offW n) (offW n) hm
    generalize getVal x (k + n + 2 + offW n) (offW n) = la at *
    (repeat ((first | refine afit_i64 (by omega) ?_ | refine arem_nonneg (by omega) (by omega) ?_ | refine adiv_i64 (by omega) (by omega) ?_ | refine abr_yes (by omega) ?_ | refine abr_no (by omega) ?_ | refine amin ?_ | refine amax ?_ | refine afit_u64 (by omega) ?_ | refine afit_u8 (by omega) ?_ | refine acell rfl ?_ | refine acellA ?_ | refine hload H (k := 0) rfl rfl ?_ | refine hloadA H (k := 0) rfl ?_ | refine hload H (k := 1) rfl rfl ?_ | refine hloadA H (k := 1) rfl ?_ | refine hload H (k := 2) rfl rfl ?_ | refine hloadA H (k := 2) rfl ?_ | refine hload H (k := 3) rfl rfl ?_ | refine hloadA H (k := 3) rfl ?_ | refine hload H (k := 4) rfl rfl ?_ | refine hloadA H (k := 4) rfl ?_ | refine hload H (k := 5) rfl rfl ?_ | refine hloadA H (k := 5) rfl ?_ | refine hload H (k := 6) rfl rfl ?_ | refine hloadA H (k := 6) rfl ?_ | refine hload H (k := 7) rfl rfl ?_ | refine hloadA H (k := 7) rfl ?_ | refine hload H (k := 8) rfl rfl ?_ | refine hloadA H (k := 8) rfl ?_ | refine hload H (k := 9) rfl rfl ?_ | refine hloadA H (k := 9) rfl ?_ | (refine hstore H (k := 0) rfl rfl ?_; (conv => whnf); clear H; intro τ H) | (refine hstore H (k := 1) rfl rfl ?_; (conv => whnf); clear H; intro τ H) | (refine hstore H (k := 2) rfl rfl ?_; (conv => whnf); clear H; intro τ H) | (refine hstore H (k := 3) rfl rfl ?_; (conv => whnf); clear H; intro τ H) | (refine hstore H (k := 4) rfl rfl ?_; (conv => whnf); clear H; intro τ H) | (refine hstore H (k := 5) rfl rfl ?_; (conv => whnf); clear H; intro τ H) | (refine hstore H (k := 6) rfl rfl ?_; (conv => whnf); clear H; intro τ H) | (refine hstore H (k := 7) rfl rfl ?_; (conv => whnf); clear H; intro τ H) | (refine hstore H (k := 8) rfl rfl ?_; (conv => whnf); clear H; intro τ H) | (refine hstore H (k := 9) rfl rfl ?_; (conv => whnf); clear H; intro τ H) | rw [List.length_map]); ((conv => whnf); (repeat ((first | with_reducible refine abr_true rfl ?_ | with_reducible refine abr_false rfl ?_ | with_reducible refine abr_yes rfl ?_ | refine abr_yes (by decide) ?_ | refine abr_no (by decide) ?_ | with_reducible refine abr_same_ne ?_); (conv => whnf))))))
    refine acall (refPlaces n τ) ?_
    rintro _ σ_ ⟨rfl, e_⟩
    obtain rfl := e_.symm
    refine ⟨?_, Ext.refl _⟩
    ((conv => whnf); (repeat ((first | with_reducible refine abr_true rfl ?_ | with_reducible refine abr_false rfl ?_ | with_reducible refine abr_yes rfl ?_ | refine abr_yes (by decide) ?_ | refine abr_no (by decide) ?_ | with_reducible refine abr_same_ne ?_); (conv => whnf))))
    by_cases c4 : la + 1 = 2 ^ offW n
    · rw [if_pos c4]
      refine abr_yes (by omega) ?_
      ((conv => whnf); (repeat ((first | with_reducible refine abr_true rfl ?_ | with_reducible refine abr_false rfl ?_ | with_reducible refine abr_yes rfl ?_ | refine abr_yes (by decide) ?_ | refine abr_no (by decide) ?_ | with_reducible refine abr_same_ne ?_); (conv => whnf))))
      (repeat ((first | refine afit_i64 (by omega) ?_ | refine arem_nonneg (by omega) (by omega) ?_ | refine adiv_i64 (by omega) (by omega) ?_ | refine abr_yes (by omega) ?_ | refine abr_no (by omega) ?_ | refine amin ?_ | refine amax ?_ | refine afit_u64 (by omega) ?_ | refine afit_u8 (by omega) ?_ | refine acell rfl ?_ | refine acellA ?_ | refine hload H (k := 0) rfl rfl ?_ | refine hloadA H (k := 0) rfl ?_ | refine hload H (k := 1) rfl rfl ?_ | refine hloadA H (k := 1) rfl ?_ | refine hload H (k := 2) rfl rfl ?_ | refine hloadA H (k := 2) rfl ?_ | refine hload H (k := 3) rfl rfl ?_ | refine hloadA H (k := 3) rfl ?_ | refine hload H (k := 4) rfl rfl ?_ | refine hloadA H (k := 4) rfl ?_ | refine hload H (k := 5) rfl rfl ?_ | refine hloadA H (k := 5) rfl ?_ | refine hload H (k := 6) rfl rfl ?_ | refine hloadA H (k := 6) rfl ?_ | refine hload H (k := 7) rfl rfl ?_ | refine hloadA H (k := 7) rfl ?_ | refine hload H (k := 8) rfl rfl ?_ | refine hloadA H (k := 8) rfl ?_ | refine hload H (k := 9) rfl rfl ?_ | refine hloadA H (k := 9) rfl ?_ | (refine hstore H (k := 0) rfl rfl ?_; (conv => whnf); clear H; intro τ H) | (refine hstore H (k := 1) rfl rfl ?_; (conv => whnf); clear H; intro τ H) | (refine hstore H (k := 2) rfl rfl ?_; (conv => whnf); clear H; intro τ H) | (refine hstore H (k := 3) rfl rfl ?_; (conv => whnf); clear H; intro τ H) | (refine hstore H (k := 4) rfl rfl ?_; (conv => whnf); clear H; intro τ H) | (refine hstore H (k := 5) rfl rfl ?_; (conv => whnf); clear H; intro τ H) | (refine hstore H (k := 6) rfl rfl ?_; (conv => whnf); clear H; intro τ H) | (refine hstore H (k := 7) rfl rfl ?_; (conv => whnf); clear H; intro τ H) | (refine hstore H (k := 8) rfl rfl ?_; (conv => whnf); clear H; intro τ H) | (refine hstore H (k := 9) rfl rfl ?_; (conv => whnf); clear H; intro τ H) | rw [List.length_map]); ((conv => whnf); (repeat ((first | with_reducible refine abr_true rfl ?_ | with_reducible refine abr_false rfl ?_ | with_reducible refine abr_yes rfl ?_ | refine abr_yes (by decide) ?_ | refine abr_no (by decide) ?_ | with_reducible refine abr_same_ne ?_); (conv => whnf))))))
      exact aret (VLe.refl _) H.sub ⟨by rw [show ((k + n + 2 + 2 * offW n : Nat) : Int) = ((k + n + 2 + offW n + offW n : Nat) : Int) by omega]; rfl, rfl⟩
    · rw [if_neg c4]
      refine abr_no (by omega) ?_
      ((conv => whnf); (repeat ((first | with_reducible refine abr_true rfl ?_ | with_reducible refine abr_false rfl ?_ | with_reducible refine abr_yes rfl ?_ | refine abr_yes (by decide) ?_ | refine abr_no (by decide) ?_ | with_reducible refine abr_same_ne ?_); (conv => whnf))))
      (repeat ((first | refine afit_i64 (by omega) ?_ | refine arem_nonneg (by omega) (by omega) ?_ | refine adiv_i64 (by omega) (by omega) ?_ | refine abr_yes (by omega) ?_ | refine abr_no (by omega) ?_ | refine amin ?_ | refine amax ?_ | refine afit_u64 (by omega) ?_ | refine afit_u8 (by omega) ?_ | refine acell rfl ?_ | refine acellA ?_ | refine hload H (k := 0) rfl rfl ?_ | refine hloadA H (k := 0) rfl ?_ | refine hload H (k := 1) rfl rfl ?_ | refine hloadA H (k := 1) rfl ?_ | refine hload H (k := 2) rfl rfl ?_ | refine hloadA H (k := 2) rfl ?_ | refine hload H (k := 3) rfl rfl ?_ | refine hloadA H (k := 3) rfl ?_ | refine hload H (k := 4) rfl rfl ?_ | refine hloadA H (k := 4) rfl ?_ | refine hload H (k := 5) rfl rfl ?_ | refine hloadA H (k := 5) rfl ?_ | refine hload H (k := 6) rfl rfl ?_ | refine hloadA H (k := 6) rfl ?_ | refine hload H (k := 7) rfl rfl ?_ | refine hloadA H (k := 7) rfl ?_ | refine hload H (k := 8) rfl rfl ?_ | refine hloadA H (k := 8) rfl ?_ | refine hload H (k := 9) rfl rfl ?_ | refine hloadA H (k := 9) rfl ?_ | (refine hstore H (k := 0) rfl rfl ?_; (conv => whnf); clear H; intro τ H) | (refine hstore H (k := 1) rfl rfl ?_; (conv => whnf); clear H; intro τ H) | (refine hstore H (k := 2) rfl rfl ?_; (conv => whnf); clear H; intro τ H) | (refine hstore H (k := 3) rfl rfl ?_; (conv => whnf); clear H; intro τ H) | (refine hstore H (k := 4) rfl rfl ?_; (conv => whnf); clear H; intro τ H) | (refine hstore H (k := 5) rfl rfl ?_; (conv => whnf); clear H; intro τ H) | (refine hstore H (k := 6) rfl rfl ?_; (conv => whnf); clear H; intro τ H) | (refine hstore H (k := 7) rfl rfl ?_; (conv => whnf); clear H; intro τ H) | (refine hstore H (k := 8) rfl rfl ?_; (conv => whnf); clear H; intro τ H) | (refine hstore H (k := 9) rfl rfl ?_; (conv => whnf); clear H; intro τ H) | rw [List.length_map]); ((conv => whnf); (repeat ((first | with_reducible refine abr_true rfl ?_ | with_reducible refine abr_false rfl ?_ | with_reducible refine abr_yes rfl ?_ | refine abr_yes (by decide) ?_ | refine abr_no (by decide) ?_ | with_reducible refine abr_same_ne ?_); (conv => whnf))))))
      exact aret (VLe.refl _) H.sub ⟨by rw [show ((k + n + 2 + 2 * offW n : Nat) : Int) = ((k + n + 2 + offW n + offW n : Nat) : Int) by omega]; rfl, rfl⟩
end Go.Proofs.Ytnfdgccmpglbhaa
/-
  The document's statuses: reading all of one.
-/
namespace Go.Proofs.Ytnfdgccmpglbhaa
set_option linter.unusedVariables false
set_option linter.unusedSimpArgs false
open Go Go.Am

def dMs (n : Nat) (x : List Bool) : Nat → List Ms → Nat → Bool → List Ms × Int
  | 0, _, _, _ => ([], 0)
  | f + 1, ms, k, more =>
    if more = true then
      if ms.length = 32 then ([], 2)
      else if (dMiss n (offW n) x k).2.2.2 = false then ([], 8)
      else if missOk n (dMiss n (offW n) x k).1 = false then ([], 3)
      else dMs n x f (ms ++ [(dMiss n (offW n) x k).1]) (dMiss n (offW n) x k).2.2.1 (dMiss n (offW n) x k).2.1
    else if k + 7 < x.length then ([], 3) else if (x.drop k).any id = true then ([], 3) else (ms, 0)
def dRead (w : Int) (b : List UInt8) : (Int × List Ms) × Int :=
  if stWidth w = false then ((0, []), 9)
  else if b = [] then ((0, []), 8)
  else if bitD (unpack b) 0 = true then ((0, []), 4)
  else if bitD (unpack b) 1 = true ∨ bitD (unpack b) 2 = true ∨ bitD (unpack b) 3 = true then ((0, []), 3)
  else if (unpack b).length < w.toNat + 5 then ((0, []), 8)
  else
    let r := dMs w.toNat (unpack b) 33 [] (4 + w.toNat + 1) (bitD (unpack b) (4 + w.toNat))
    if r.2 = 0 then (((getVal (unpack b) 4 w.toNat : Int), r.1), 0) else ((0, []), r.2)
theorem any_drop {x : List Bool} {k : Nat} : (x.drop k).any id = true ↔ ∃ i, k ≤ i ∧ i < x.length ∧ bitD x i = true := by
  rw [List.any_eq_true]
  constructor
  · rintro ⟨b, hb, hi⟩
    obtain ⟨j, hj, rfl⟩ := List.mem_iff_getElem.1 hb
    rw [List.length_drop] at hj
    refine ⟨k + j, by omega, by omega, ?_⟩
    rw [List.getElem_drop] at hi
    unfold bitD; rw [List.getElem?_eq_getElem (by omega)]; exact hi
  · rintro ⟨i, h1, h2, h3⟩
    refine ⟨x[i], List.mem_iff_getElem.2 ⟨i - k, by rw [List.length_drop]; omega, by rw [List.getElem_drop]; congr 1; omega⟩, ?_⟩
    unfold bitD at h3; rw [List.getElem?_eq_getElem h2] at h3; exact h3
theorem dMiss_at {n m : Nat} {x : List Bool} {k : Nat} (hk : k ≤ x.length) : (dMiss n m x k).2.2.1 ≤ x.length := by
  unfold dMiss
  split
  · exact Nat.zero_le _
  · split
    · split
      · exact Nat.zero_le _
      · dsimp only; omega
    · dsimp only; omega
theorem ms_snoc (ms : List Ms) (m : Ms) : ms.map msV ++ [msV m] = (ms ++ [m]).map msV := by rw [List.map_append]; rfl
set_option maxRecDepth 20000 in
set_option maxHeartbeats 2000000 in
theorem refRead (b : List UInt8) (t : Tok) (w : Int) (σ : AHeap) (hl : b.length ≤ 8000) : ACalls Try.prog i_bowlineref11_Read [sl t b, i64v w] σ fun v σ' => v = stRes (dRead w b) ∧ σ' = σ := by
  refine k_bowlineref11_Read rfl ?_
  have H := Hp.nil σ
  ((conv => whnf); (repeat ((first | with_reducible refine abr_true rfl ?_ | with_reducible refine abr_false rfl ?_ | with_reducible refine abr_yes rfl ?_ | refine abr_yes (by decide) ?_ | refine abr_no (by decide) ?_ | with_reducible refine abr_same_ne ?_); (conv => whnf))))
  refine hnew H rfl ?_
  clear H
  intro i4 τ H
  ((conv => whnf); (repeat ((first | with_reducible refine abr_true rfl ?_ | with_reducible refine abr_false rfl ?_ | with_reducible refine abr_yes rfl ?_ | refine abr_yes (by decide) ?_ | refine abr_no (by decide) ?_ | with_reducible refine abr_same_ne ?_); (conv => whnf))))
  by_cases hw : w = 10 ∨ w = 16
  case neg =>
    have c3 : ¬ w = 10 := fun e => hw (.inl e)
    have c4 : ¬ w = 16 := fun e => hw (.inr e)
    (repeat ((first | refine afit_i64 (by omega) ?_ | refine arem_nonneg (by omega) (by omega) ?_ | refine adiv_i64 (by omega) (by omega) ?_ | refine abr_yes (by omega) ?_ | refine abr_no (by omega) ?_ | refine amin ?_ | refine amax ?_ | refine afit_u64 (by omega) ?_ | refine afit_u8 (by omega) ?_ | refine acell rfl ?_ | refine acellA ?_ | refine hload H (k := 0) rfl rfl ?_ | refine hloadA H (k := 0) rfl ?_ | refine hload H (k := 1) rfl rfl ?_ | refine hloadA H (k := 1) rfl ?_ | refine hload H (k := 2) rfl rfl ?_ | refine hloadA H (k := 2) rfl ?_ | refine hload H (k := 3) rfl rfl ?_ | refine hloadA H (k := 3) rfl ?_ | refine hload H (k := 4) rfl rfl ?_ | refine hloadA H (k := 4) rfl ?_ | refine hload H (k := 5) rfl rfl ?_ | refine hloadA H (k := 5) rfl ?_ | refine hload H (k := 6) rfl rfl ?_ | refine hloadA H (k := 6) rfl ?_ | refine hload H (k := 7) rfl rfl ?_ | refine hloadA H (k := 7) rfl ?_ | refine hload H (k := 8) rfl rfl ?_ | refine hloadA H (k := 8) rfl ?_ | refine hload H (k := 9) rfl rfl ?_ | refine hloadA H (k := 9) rfl ?_ | (refine hstore H (k := 0) rfl rfl ?_; (conv => whnf); clear H; intro τ H) | (refine hstore H (k := 1) rfl rfl ?_; (conv => whnf); clear H; intro τ H) | (refine hstore H (k := 2) rfl rfl ?_; (conv => whnf); clear H; intro τ H) | (refine hstore H (k := 3) rfl rfl ?_; (conv => whnf); clear H; intro τ H) | (refine hstore H (k := 4) rfl rfl ?_; (conv => whnf); clear H; intro τ H) | (refine hstore H (k := 5) rfl rfl ?_; (conv => whnf); clear H; intro τ H) | (refine hstore H (k := 6) rfl rfl ?_; (conv => whnf); clear H; intro τ H) | (refine hstore H (k := 7) rfl rfl ?_; (conv => whnf); clear H; intro τ H) | (refine hstore H (k := 8) rfl rfl ?_; (conv => whnf); clear H; intro τ H) | (refine hstore H (k := 9) rfl rfl ?_; (conv => whnf); clear H; intro τ H) | rw [List.length_map]); ((conv => whnf); (repeat ((first | with_reducible refine abr_true rfl ?_ | with_reducible refine abr_false rfl ?_ | with_reducible refine abr_yes rfl ?_ | refine abr_yes (by decide) ?_ | refine abr_no (by decide) ?_ | with_reducible refine abr_same_ne ?_); (conv => whnf))))))
    exact aret_st (l := []) H.sub ⟨by unfold dRead; rw [show stWidth w = false from decide_eq_false hw]; rfl, rfl⟩
  have hsw : stWidth w = true := decide_eq_true hw
  obtain ⟨n, rfl⟩ : ∃ n : Nat, w = n := ⟨w.toNat, by omega⟩
  have hD : dRead n b = if b = [] then ((0, []), 8) else if bitD (unpack b) 0 = true then ((0, []), 4) else if bitD (unpack b) 1 = true ∨ bitD (unpack b) 2 = true ∨ bitD (unpack b) 3 = true then ((0, []), 3)
      else if (unpack b).length < n + 5 then ((0, []), 8) else
      if (dMs n (unpack b) 33 [] (4 + n + 1) (bitD (unpack b) (4 + n))).2 = 0 then (((getVal (unpack b) 4 n : Int), (dMs n (unpack b) 33 [] (4 + n + 1) (bitD (unpack b) (4 + n))).1), 0) else ((0, []), (dMs n (unpack b) 33 [] (4 + n + 1) (bitD (unpack b) (4 + n))).2) := by
    unfold dRead; rw [if_neg (by rw [hsw]; decide)]; rfl
  have hul := unpack_length b
  have hgo : ∀ {P : Prop}, (¬ (n : Int) = 10 → (n : Int) = 16) := by intro _ h; omega
  have hb0 : b = [] ∨ 0 < b.length := by cases b with
    | nil => exact .inl rfl
    | cons _ _ => exact .inr (by simp)
  rcases Classical.em ((n : Int) = 10) with c3 | c3
  all_goals
    (repeat ((first | refine afit_i64 (by omega) ?_ | refine arem_nonneg (by omega) (by omega) ?_ | refine adiv_i64 (by omega) (by omega) ?_ | refine abr_yes (by omega) ?_ | refine abr_no (by omega) ?_ | refine amin ?_ | refine amax ?_ | refine afit_u64 (by omega) ?_ | refine afit_u8 (by omega) ?_ | refine acell rfl ?_ | refine acellA ?_ | refine hload H (k := 0) rfl rfl ?_ | refine hloadA H (k := 0) rfl ?_ | refine hload H (k := 1) rfl rfl ?_ | refine hloadA H (k := 1) rfl ?_ | refine hload H (k := 2) rfl rfl ?_ | refine hloadA H (k := 2) rfl ?_ | refine hload H (k := 3) rfl rfl ?_ | refine hloadA H (k := 3) rfl ?_ | refine hload H (k := 4) rfl rfl ?_ | refine hloadA H (k := 4) rfl ?_ | refine hload H (k := 5) rfl rfl ?_ | refine hloadA H (k := 5) rfl ?_ | refine hload H (k := 6) rfl rfl ?_ | refine hloadA H (k := 6) rfl ?_ | refine hload H (k := 7) rfl rfl ?_ | refine hloadA H (k := 7) rfl ?_ | refine hload H (k := 8) rfl rfl ?_ | refine hloadA H (k := 8) rfl ?_ | refine hload H (k := 9) rfl rfl ?_ | refine hloadA H (k := 9) rfl ?_ | (refine hstore H (k := 0) rfl rfl ?_; (conv => whnf); clear H; intro τ H) | (refine hstore H (k := 1) rfl rfl ?_; (conv => whnf); clear H; intro τ H) | (refine hstore H (k := 2) rfl rfl ?_; (conv => whnf); clear H; intro τ H) | (refine hstore H (k := 3) rfl rfl ?_; (conv => whnf); clear H; intro τ H) | (refine hstore H (k := 4) rfl rfl ?_; (conv => whnf); clear H; intro τ H) | (refine hstore H (k := 5) rfl rfl ?_; (conv => whnf); clear H; intro τ H) | (refine hstore H (k := 6) rfl rfl ?_; (conv => whnf); clear H; intro τ H) | (refine hstore H (k := 7) rfl rfl ?_; (conv => whnf); clear H; intro τ H) | (refine hstore H (k := 8) rfl rfl ?_; (conv => whnf); clear H; intro τ H) | (refine hstore H (k := 9) rfl rfl ?_; (conv => whnf); clear H; intro τ H) | rw [List.length_map]); ((conv => whnf); (repeat ((first | with_reducible refine abr_true rfl ?_ | with_reducible refine abr_false rfl ?_ | with_reducible refine abr_yes rfl ?_ | refine abr_yes (by decide) ?_ | refine abr_no (by decide) ?_ | with_reducible refine abr_same_ne ?_); (conv => whnf))))))
    rcases hb0 with hb0 | hb0
    · have hb1 : b.length = 0 := by rw [hb0]; rfl
      (repeat ((first | refine afit_i64 (by omega) ?_ | refine arem_nonneg (by omega) (by omega) ?_ | refine adiv_i64 (by omega) (by omega) ?_ | refine abr_yes (by omega) ?_ | refine abr_no (by omega) ?_ | refine amin ?_ | refine amax ?_ | refine afit_u64 (by omega) ?_ | refine afit_u8 (by omega) ?_ | refine acell rfl ?_ | refine acellA ?_ | refine hload H (k := 0) rfl rfl ?_ | refine hloadA H (k := 0) rfl ?_ | refine hload H (k := 1) rfl rfl ?_ | refine hloadA H (k := 1) rfl ?_ | refine hload H (k := 2) rfl rfl ?_ | refine hloadA H (k := 2) rfl ?_ | refine hload H (k := 3) rfl rfl ?_ | refine hloadA H (k := 3) rfl ?_ | refine hload H (k := 4) rfl rfl ?_ | refine hloadA H (k := 4) rfl ?_ | refine hload H (k := 5) rfl rfl ?_ | refine hloadA H (k := 5) rfl ?_ | refine hload H (k := 6) rfl rfl ?_ | refine hloadA H (k := 6) rfl ?_ | refine hload H (k := 7) rfl rfl ?_ | refine hloadA H (k := 7) rfl ?_ | refine hload H (k := 8) rfl rfl ?_ | refine hloadA H (k := 8) rfl ?_ | refine hload H (k := 9) rfl rfl ?_ | refine hloadA H (k := 9) rfl ?_ | (refine hstore H (k := 0) rfl rfl ?_; (conv => whnf); clear H; intro τ H) | (refine hstore H (k := 1) rfl rfl ?_; (conv => whnf); clear H; intro τ H) | (refine hstore H (k := 2) rfl rfl ?_; (conv => whnf); clear H; intro τ H) | (refine hstore H (k := 3) rfl rfl ?_; (conv => whnf); clear H; intro τ H) | (refine hstore H (k := 4) rfl rfl ?_; (conv => whnf); clear H; intro τ H) | (refine hstore H (k := 5) rfl rfl ?_; (conv => whnf); clear H; intro τ H) | (refine hstore H (k := 6) rfl rfl ?_; (conv => whnf); clear H; intro τ H) | (refine hstore H (k := 7) rfl rfl ?_; (conv => whnf); clear H; intro τ H) | (refine hstore H (k := 8) rfl rfl ?_; (conv => whnf); clear H; intro τ H) | (refine hstore H (k := 9) rfl rfl ?_; (conv => whnf); clear H; intro τ H) | rw [List.length_map]); ((conv => whnf); (repeat ((first | with_reducible refine abr_true rfl ?_ | with_reducible refine abr_false rfl ?_ | with_reducible refine abr_yes rfl ?_ | refine abr_yes (by decide) ?_ | refine abr_no (by decide) ?_ | with_reducible refine abr_same_ne ?_); (conv => whnf))))))
      exact aret_st (l := []) H.sub ⟨by rw [hD, if_pos hb0], rfl⟩
    have hb1 : b ≠ [] := fun e => by rw [e] at hb0; exact absurd hb0 (by decide)
    rw [if_neg hb1] at hD
    (repeat ((first | refine afit_i64 (by omega) ?_ | refine arem_nonneg (by omega) (by omega) ?_ | refine adiv_i64 (by omega) (by omega) ?_ | refine abr_yes (by omega) ?_ | refine abr_no (by omega) ?_ | refine amin ?_ | refine amax ?_ | refine afit_u64 (by omega) ?_ | refine afit_u8 (by omega) ?_ | refine acell rfl ?_ | refine acellA ?_ | refine hload H (k := 0) rfl rfl ?_ | refine hloadA H (k := 0) rfl ?_ | refine hload H (k := 1) rfl rfl ?_ | refine hloadA H (k := 1) rfl ?_ | refine hload H (k := 2) rfl rfl ?_ | refine hloadA H (k := 2) rfl ?_ | refine hload H (k := 3) rfl rfl ?_ | refine hloadA H (k := 3) rfl ?_ | refine hload H (k := 4) rfl rfl ?_ | refine hloadA H (k := 4) rfl ?_ | refine hload H (k := 5) rfl rfl ?_ | refine hloadA H (k := 5) rfl ?_ | refine hload H (k := 6) rfl rfl ?_ | refine hloadA H (k := 6) rfl ?_ | refine hload H (k := 7) rfl rfl ?_ | refine hloadA H (k := 7) rfl ?_ | refine hload H (k := 8) rfl rfl ?_ | refine hloadA H (k := 8) rfl ?_ | refine hload H (k := 9) rfl rfl ?_ | refine hloadA H (k := 9) rfl ?_ | (refine hstore H (k := 0) rfl rfl ?_; (conv => whnf); clear H; intro τ H) | (refine hstore H (k := 1) rfl rfl ?_; (conv => whnf); clear H; intro τ H) | (refine hstore H (k := 2) rfl rfl ?_; (conv => whnf); clear H; intro τ H) | (refine hstore H (k := 3) rfl rfl ?_; (conv => whnf); clear H; intro τ H) | (refine hstore H (k := 4) rfl rfl ?_; (conv => whnf); clear H; intro τ H) | (refine hstore H (k := 5) rfl rfl ?_; (conv => whnf); clear H; intro τ H) | (refine hstore H (k := 6) rfl rfl ?_; (conv => whnf); clear H; intro τ H) | (refine hstore H (k := 7) rfl rfl ?_; (conv => whnf); clear H; intro τ H) | (refine hstore H (k := 8) rfl rfl ?_; (conv => whnf); clear H; intro τ H) | (refine hstore H (k := 9) rfl rfl ?_; (conv => whnf); clear H; intro τ H) | rw [List.length_map]); ((conv => whnf); (repeat ((first | with_reducible refine abr_true rfl ?_ | with_reducible refine abr_false rfl ?_ | with_reducible refine abr_yes rfl ?_ | refine abr_yes (by decide) ?_ | refine abr_no (by decide) ?_ | with_reducible refine abr_same_ne ?_); (conv => whnf))))))
    refine acall (refBits b t τ) ?_
    rintro _ σ_ ⟨rfl, e_⟩
    obtain rfl := e_.symm
    refine ⟨?_, Ext.refl _⟩
    ((conv => whnf); (repeat ((first | with_reducible refine abr_true rfl ?_ | with_reducible refine abr_false rfl ?_ | with_reducible refine abr_yes rfl ?_ | refine abr_yes (by decide) ?_ | refine abr_no (by decide) ?_ | with_reducible refine abr_same_ne ?_); (conv => whnf))))
    rw [List.take_of_length_le (show b.length ≤ 8192 by omega)]
    generalize unpack b = x at *
    refine aget (by omega) (get_boolD (i := 0) (by omega)) ?_
    (repeat ((first | refine afit_i64 (by omega) ?_ | refine arem_nonneg (by omega) (by omega) ?_ | refine adiv_i64 (by omega) (by omega) ?_ | refine abr_yes (by omega) ?_ | refine abr_no (by omega) ?_ | refine amin ?_ | refine amax ?_ | refine afit_u64 (by omega) ?_ | refine afit_u8 (by omega) ?_ | refine acell rfl ?_ | refine acellA ?_ | refine hload H (k := 0) rfl rfl ?_ | refine hloadA H (k := 0) rfl ?_ | refine hload H (k := 1) rfl rfl ?_ | refine hloadA H (k := 1) rfl ?_ | refine hload H (k := 2) rfl rfl ?_ | refine hloadA H (k := 2) rfl ?_ | refine hload H (k := 3) rfl rfl ?_ | refine hloadA H (k := 3) rfl ?_ | refine hload H (k := 4) rfl rfl ?_ | refine hloadA H (k := 4) rfl ?_ | refine hload H (k := 5) rfl rfl ?_ | refine hloadA H (k := 5) rfl ?_ | refine hload H (k := 6) rfl rfl ?_ | refine hloadA H (k := 6) rfl ?_ | refine hload H (k := 7) rfl rfl ?_ | refine hloadA H (k := 7) rfl ?_ | refine hload H (k := 8) rfl rfl ?_ | refine hloadA H (k := 8) rfl ?_ | refine hload H (k := 9) rfl rfl ?_ | refine hloadA H (k := 9) rfl ?_ | (refine hstore H (k := 0) rfl rfl ?_; (conv => whnf); clear H; intro τ H) | (refine hstore H (k := 1) rfl rfl ?_; (conv => whnf); clear H; intro τ H) | (refine hstore H (k := 2) rfl rfl ?_; (conv => whnf); clear H; intro τ H) | (refine hstore H (k := 3) rfl rfl ?_; (conv => whnf); clear H; intro τ H) | (refine hstore H (k := 4) rfl rfl ?_; (conv => whnf); clear H; intro τ H) | (refine hstore H (k := 5) rfl rfl ?_; (conv => whnf); clear H; intro τ H) | (refine hstore H (k := 6) rfl rfl ?_; (conv => whnf); clear H; intro τ H) | (refine hstore H (k := 7) rfl rfl ?_; (conv => whnf); clear H; intro τ H) | (refine hstore H (k := 8) rfl rfl ?_; (conv => whnf); clear H; intro τ H) | (refine hstore H (k := 9) rfl rfl ?_; (conv => whnf); clear H; intro τ H) | rw [List.length_map]); ((conv => whnf); (repeat ((first | with_reducible refine abr_true rfl ?_ | with_reducible refine abr_false rfl ?_ | with_reducible refine abr_yes rfl ?_ | refine abr_yes (by decide) ?_ | refine abr_no (by decide) ?_ | with_reducible refine abr_same_ne ?_); (conv => whnf))))))
    cases q0 : bitD x 0
    case true =>
      rw [q0, if_pos rfl] at hD
      ((conv => whnf); (repeat ((first | with_reducible refine abr_true rfl ?_ | with_reducible refine abr_false rfl ?_ | with_reducible refine abr_yes rfl ?_ | refine abr_yes (by decide) ?_ | refine abr_no (by decide) ?_ | with_reducible refine abr_same_ne ?_); (conv => whnf))))
      (repeat ((first | refine afit_i64 (by omega) ?_ | refine arem_nonneg (by omega) (by omega) ?_ | refine adiv_i64 (by omega) (by omega) ?_ | refine abr_yes (by omega) ?_ | refine abr_no (by omega) ?_ | refine amin ?_ | refine amax ?_ | refine afit_u64 (by omega) ?_ | refine afit_u8 (by omega) ?_ | refine acell rfl ?_ | refine acellA ?_ | refine hload H (k := 0) rfl rfl ?_ | refine hloadA H (k := 0) rfl ?_ | refine hload H (k := 1) rfl rfl ?_ | refine hloadA H (k := 1) rfl ?_ | refine hload H (k := 2) rfl rfl ?_ | refine hloadA H (k := 2) rfl ?_ | refine hload H (k := 3) rfl rfl ?_ | refine hloadA H (k := 3) rfl ?_ | refine hload H (k := 4) rfl rfl ?_ | refine hloadA H (k := 4) rfl ?_ | refine hload H (k := 5) rfl rfl ?_ | refine hloadA H (k := 5) rfl ?_ | refine hload H (k := 6) rfl rfl ?_ | refine hloadA H (k := 6) rfl ?_ | refine hload H (k := 7) rfl rfl ?_ | refine hloadA H (k := 7) rfl ?_ | refine hload H (k := 8) rfl rfl ?_ | refine hloadA H (k := 8) rfl ?_ | refine hload H (k := 9) rfl rfl ?_ | refine hloadA H (k := 9) rfl ?_ | (refine hstore H (k := 0) rfl rfl ?_; (conv => whnf); clear H; intro τ H) | (refine hstore H (k := 1) rfl rfl ?_; (conv => whnf); clear H; intro τ H) | (refine hstore H (k := 2) rfl rfl ?_; (conv => whnf); clear H; intro τ H) | (refine hstore H (k := 3) rfl rfl ?_; (conv => whnf); clear H; intro τ H) | (refine hstore H (k := 4) rfl rfl ?_; (conv => whnf); clear H; intro τ H) | (refine hstore H (k := 5) rfl rfl ?_; (conv => whnf); clear H; intro τ H) | (refine hstore H (k := 6) rfl rfl ?_; (conv => whnf); clear H; intro τ H) | (refine hstore H (k := 7) rfl rfl ?_; (conv => whnf); clear H; intro τ H) | (refine hstore H (k := 8) rfl rfl ?_; (conv => whnf); clear H; intro τ H) | (refine hstore H (k := 9) rfl rfl ?_; (conv => whnf); clear H; intro τ H) | rw [List.length_map]); ((conv => whnf); (repeat ((first | with_reducible refine abr_true rfl ?_ | with_reducible refine abr_false rfl ?_ | with_reducible refine abr_yes rfl ?_ | refine abr_yes (by decide) ?_ | refine abr_no (by decide) ?_ | with_reducible refine abr_same_ne ?_); (conv => whnf))))))
      exact aret_st (l := []) H.sub ⟨by rw [hD], rfl⟩
    rw [q0, if_neg (by decide)] at hD
    ((conv => whnf); (repeat ((first | with_reducible refine abr_true rfl ?_ | with_reducible refine abr_false rfl ?_ | with_reducible refine abr_yes rfl ?_ | refine abr_yes (by decide) ?_ | refine abr_no (by decide) ?_ | with_reducible refine abr_same_ne ?_); (conv => whnf))))
    refine aget (by omega) (get_boolD (i := 1) (by omega)) ?_
    ((conv => whnf); (repeat ((first | with_reducible refine abr_true rfl ?_ | with_reducible refine abr_false rfl ?_ | with_reducible refine abr_yes rfl ?_ | refine abr_yes (by decide) ?_ | refine abr_no (by decide) ?_ | with_reducible refine abr_same_ne ?_); (conv => whnf))))
    (repeat ((first | refine afit_i64 (by omega) ?_ | refine arem_nonneg (by omega) (by omega) ?_ | refine adiv_i64 (by omega) (by omega) ?_ | refine abr_yes (by omega) ?_ | refine abr_no (by omega) ?_ | refine amin ?_ | refine amax ?_ | refine afit_u64 (by omega) ?_ | refine afit_u8 (by omega) ?_ | refine acell rfl ?_ | refine acellA ?_ | refine hload H (k := 0) rfl rfl ?_ | refine hloadA H (k := 0) rfl ?_ | refine hload H (k := 1) rfl rfl ?_ | refine hloadA H (k := 1) rfl ?_ | refine hload H (k := 2) rfl rfl ?_ | refine hloadA H (k := 2) rfl ?_ | refine hload H (k := 3) rfl rfl ?_ | refine hloadA H (k := 3) rfl ?_ | refine hload H (k := 4) rfl rfl ?_ | refine hloadA H (k := 4) rfl ?_ | refine hload H (k := 5) rfl rfl ?_ | refine hloadA H (k := 5) rfl ?_ | refine hload H (k := 6) rfl rfl ?_ | refine hloadA H (k := 6) rfl ?_ | refine hload H (k := 7) rfl rfl ?_ | refine hloadA H (k := 7) rfl ?_ | refine hload H (k := 8) rfl rfl ?_ | refine hloadA H (k := 8) rfl ?_ | refine hload H (k := 9) rfl rfl ?_ | refine hloadA H (k := 9) rfl ?_ | (refine hstore H (k := 0) rfl rfl ?_; (conv => whnf); clear H; intro τ H) | (refine hstore H (k := 1) rfl rfl ?_; (conv => whnf); clear H; intro τ H) | (refine hstore H (k := 2) rfl rfl ?_; (conv => whnf); clear H; intro τ H) | (refine hstore H (k := 3) rfl rfl ?_; (conv => whnf); clear H; intro τ H) | (refine hstore H (k := 4) rfl rfl ?_; (conv => whnf); clear H; intro τ H) | (refine hstore H (k := 5) rfl rfl ?_; (conv => whnf); clear H; intro τ H) | (refine hstore H (k := 6) rfl rfl ?_; (conv => whnf); clear H; intro τ H) | (refine hstore H (k := 7) rfl rfl ?_; (conv => whnf); clear H; intro τ H) | (refine hstore H (k := 8) rfl rfl ?_; (conv => whnf); clear H; intro τ H) | (refine hstore H (k := 9) rfl rfl ?_; (conv => whnf); clear H; intro τ H) | rw [List.length_map]); ((conv => whnf); (repeat ((first | with_reducible refine abr_true rfl ?_ | with_reducible refine abr_false rfl ?_ | with_reducible refine abr_yes rfl ?_ | refine abr_yes (by decide) ?_ | refine abr_no (by decide) ?_ | with_reducible refine abr_same_ne ?_); (conv => whnf))))))
    cases q1 : bitD x 1
    case true =>
      rw [q1, if_pos (.inl rfl)] at hD
      ((conv => whnf); (repeat ((first | with_reducible refine abr_true rfl ?_ | with_reducible refine abr_false rfl ?_ | with_reducible refine abr_yes rfl ?_ | refine abr_yes (by decide) ?_ | refine abr_no (by decide) ?_ | with_reducible refine abr_same_ne ?_); (conv => whnf))))
      (repeat ((first | refine afit_i64 (by omega) ?_ | refine arem_nonneg (by omega) (by omega) ?_ | refine adiv_i64 (by omega) (by omega) ?_ | refine abr_yes (by omega) ?_ | refine abr_no (by omega) ?_ | refine amin ?_ | refine amax ?_ | refine afit_u64 (by omega) ?_ | refine afit_u8 (by omega) ?_ | refine acell rfl ?_ | refine acellA ?_ | refine hload H (k := 0) rfl rfl ?_ | refine hloadA H (k := 0) rfl ?_ | refine hload H (k := 1) rfl rfl ?_ | refine hloadA H (k := 1) rfl ?_ | refine hload H (k := 2) rfl rfl ?_ | refine hloadA H (k := 2) rfl ?_ | refine hload H (k := 3) rfl rfl ?_ | refine hloadA H (k := 3) rfl ?_ | refine hload H (k := 4) rfl rfl ?_ | refine hloadA H (k := 4) rfl ?_ | refine hload H (k := 5) rfl rfl ?_ | refine hloadA H (k := 5) rfl ?_ | refine hload H (k := 6) rfl rfl ?_ | refine hloadA H (k := 6) rfl ?_ | refine hload H (k := 7) rfl rfl ?_ | refine hloadA H (k := 7) rfl ?_ | refine hload H (k := 8) rfl rfl ?_ | refine hloadA H (k := 8) rfl ?_ | refine hload H (k := 9) rfl rfl ?_ | refine hloadA H (k := 9) rfl ?_ | (refine hstore H (k := 0) rfl rfl ?_; (conv => whnf); clear H; intro τ H) | (refine hstore H (k := 1) rfl rfl ?_; (conv => whnf); clear H; intro τ H) | (refine hstore H (k := 2) rfl rfl ?_; (conv => whnf); clear H; intro τ H) | (refine hstore H (k := 3) rfl rfl ?_; (conv => whnf); clear H; intro τ H) | (refine hstore H (k := 4) rfl rfl ?_; (conv => whnf); clear H; intro τ H) | (refine hstore H (k := 5) rfl rfl ?_; (conv => whnf); clear H; intro τ H) | (refine hstore H (k := 6) rfl rfl ?_; (conv => whnf); clear H; intro τ H) | (refine hstore H (k := 7) rfl rfl ?_; (conv => whnf); clear H; intro τ H) | (refine hstore H (k := 8) rfl rfl ?_; (conv => whnf); clear H; intro τ H) | (refine hstore H (k := 9) rfl rfl ?_; (conv => whnf); clear H; intro τ H) | rw [List.length_map]); ((conv => whnf); (repeat ((first | with_reducible refine abr_true rfl ?_ | with_reducible refine abr_false rfl ?_ | with_reducible refine abr_yes rfl ?_ | refine abr_yes (by decide) ?_ | refine abr_no (by decide) ?_ | with_reducible refine abr_same_ne ?_); (conv => whnf))))))
      exact aret_st (l := []) H.sub ⟨by rw [hD], rfl⟩
    ((conv => whnf); (repeat ((first | with_reducible refine abr_true rfl ?_ | with_reducible refine abr_false rfl ?_ | with_reducible refine abr_yes rfl ?_ | refine abr_yes (by decide) ?_ | refine abr_no (by decide) ?_ | with_reducible refine abr_same_ne ?_); (conv => whnf))))
    refine aget (by omega) (get_boolD (i := 2) (by omega)) ?_
    ((conv => whnf); (repeat ((first | with_reducible refine abr_true rfl ?_ | with_reducible refine abr_false rfl ?_ | with_reducible refine abr_yes rfl ?_ | refine abr_yes (by decide) ?_ | refine abr_no (by decide) ?_ | with_reducible refine abr_same_ne ?_); (conv => whnf))))
    (repeat ((first | refine afit_i64 (by omega) ?_ | refine arem_nonneg (by omega) (by omega) ?_ | refine adiv_i64 (by omega) (by omega) ?_ | refine abr_yes (by omega) ?_ | refine abr_no (by omega) ?_ | refine amin ?_ | refine amax ?_ | refine afit_u64 (by omega) ?_ | refine afit_u8 (by omega) ?_ | refine acell rfl ?_ | refine acellA ?_ | refine hload H (k := 0) rfl rfl ?_ | refine hloadA H (k := 0) rfl ?_ | refine hload H (k := 1) rfl rfl ?_ | refine hloadA H (k := 1) rfl ?_ | refine hload H (k := 2) rfl rfl ?_ | refine hloadA H (k := 2) rfl ?_ | refine hload H (k := 3) rfl rfl ?_ | refine hloadA H (k := 3) rfl ?_ | refine hload H (k := 4) rfl rfl ?_ | refine hloadA H (k := 4) rfl ?_ | refine hload H (k := 5) rfl rfl ?_ | refine hloadA H (k := 5) rfl ?_ | refine hload H (k := 6) rfl rfl ?_ | refine hloadA H (k := 6) rfl ?_ | refine hload H (k := 7) rfl rfl ?_ | refine hloadA H (k := 7) rfl ?_ | refine hload H (k := 8) rfl rfl ?_ | refine hloadA H (k := 8) rfl ?_ | refine hload H (k := 9) rfl rfl ?_ | refine hloadA H (k := 9) rfl ?_ | (refine hstore H (k := 0) rfl rfl ?_; (conv => whnf); clear H; intro τ H) | (refine hstore H (k := 1) rfl rfl ?_; (conv => whnf); clear H; intro τ H) | (refine hstore H (k := 2) rfl rfl ?_; (conv => whnf); clear H; intro τ H) | (refine hstore H (k := 3) rfl rfl ?_; (conv => whnf); clear H; intro τ H) | (refine hstore H (k := 4) rfl rfl ?_; (conv => whnf); clear H; intro τ H) | (refine hstore H (k := 5) rfl rfl ?_; (conv => whnf); clear H; intro τ H) | (refine hstore H (k := 6) rfl rfl ?_; (conv => whnf); clear H; intro τ H) | (refine hstore H (k := 7) rfl rfl ?_; (conv => whnf); clear H; intro τ H) | (refine hstore H (k := 8) rfl rfl ?_; (conv => whnf); clear H; intro τ H) | (refine hstore H (k := 9) rfl rfl ?_; (conv => whnf); clear H; intro τ H) | rw [List.length_map]); ((conv => whnf); (repeat ((first | with_reducible refine abr_true rfl ?_ | with_reducible refine abr_false rfl ?_ | with_reducible refine abr_yes rfl ?_ | refine abr_yes (by decide) ?_ | refine abr_no (by decide) ?_ | with_reducible refine abr_same_ne ?_); (conv => whnf))))))
    cases q2 : bitD x 2
    case true =>
      rw [q2, if_pos (.inr (.inl rfl))] at hD
      ((conv => whnf); (repeat ((first | with_reducible refine abr_true rfl ?_ | with_reducible refine abr_false rfl ?_ | with_reducible refine abr_yes rfl ?_ | refine abr_yes (by decide) ?_ | refine abr_no (by decide) ?_ | with_reducible refine abr_same_ne ?_); (conv => whnf))))
      (repeat ((first | refine afit_i64 (by omega) ?_ | refine arem_nonneg (by omega) (by omega) ?_ | refine adiv_i64 (by omega) (by omega) ?_ | refine abr_yes (by omega) ?_ | refine abr_no (by omega) ?_ | refine amin ?_ | refine amax ?_ | refine afit_u64 (by omega) ?_ | refine afit_u8 (by omega) ?_ | refine acell rfl ?_ | refine acellA ?_ | refine hload H (k := 0) rfl rfl ?_ | refine hloadA H (k := 0) rfl ?_ | refine hload H (k := 1) rfl rfl ?_ | refine hloadA H (k := 1) rfl ?_ | refine hload H (k := 2) rfl rfl ?_ | refine hloadA H (k := 2) rfl ?_ | refine hload H (k := 3) rfl rfl ?_ | refine hloadA H (k := 3) rfl ?_ | refine hload H (k := 4) rfl rfl ?_ | refine hloadA H (k := 4) rfl ?_ | refine hload H (k := 5) rfl rfl ?_ | refine hloadA H (k := 5) rfl ?_ | refine hload H (k := 6) rfl rfl ?_ | refine hloadA H (k := 6) rfl ?_ | refine hload H (k := 7) rfl rfl ?_ | refine hloadA H (k := 7) rfl ?_ | refine hload H (k := 8) rfl rfl ?_ | refine hloadA H (k := 8) rfl ?_ | refine hload H (k := 9) rfl rfl ?_ | refine hloadA H (k := 9) rfl ?_ | (refine hstore H (k := 0) rfl rfl ?_; (conv => whnf); clear H; intro τ H) | (refine hstore H (k := 1) rfl rfl ?_; (conv => whnf); clear H; intro τ H) | (refine hstore H (k := 2) rfl rfl ?_; (conv => whnf); clear H; intro τ H) | (refine hstore H (k := 3) rfl rfl ?_; (conv => whnf); clear H; intro τ H) | (refine hstore H (k := 4) rfl rfl ?_; (conv => whnf); clear H; intro τ H) | (refine hstore H (k := 5) rfl rfl ?_; (conv => whnf); clear H; intro τ H) | (refine hstore H (k := 6) rfl rfl ?_; (conv => whnf); clear H; intro τ H) | (refine hstore H (k := 7) rfl rfl ?_; (conv => whnf); clear H; intro τ H) | (refine hstore H (k := 8) rfl rfl ?_; (conv => whnf); clear H; intro τ H) | (refine hstore H (k := 9) rfl rfl ?_; (conv => whnf); clear H; intro τ H) | rw [List.length_map]); ((conv => whnf); (repeat ((first | with_reducible refine abr_true rfl ?_ | with_reducible refine abr_false rfl ?_ | with_reducible refine abr_yes rfl ?_ | refine abr_yes (by decide) ?_ | refine abr_no (by decide) ?_ | with_reducible refine abr_same_ne ?_); (conv => whnf))))))
      exact aret_st (l := []) H.sub ⟨by rw [hD], rfl⟩
    ((conv => whnf); (repeat ((first | with_reducible refine abr_true rfl ?_ | with_reducible refine abr_false rfl ?_ | with_reducible refine abr_yes rfl ?_ | refine abr_yes (by decide) ?_ | refine abr_no (by decide) ?_ | with_reducible refine abr_same_ne ?_); (conv => whnf))))
    refine aget (by omega) (get_boolD (i := 3) (by omega)) ?_
    ((conv => whnf); (repeat ((first | with_reducible refine abr_true rfl ?_ | with_reducible refine abr_false rfl ?_ | with_reducible refine abr_yes rfl ?_ | refine abr_yes (by decide) ?_ | refine abr_no (by decide) ?_ | with_reducible refine abr_same_ne ?_); (conv => whnf))))
    (repeat ((first | refine afit_i64 (by omega) ?_ | refine arem_nonneg (by omega) (by omega) ?_ | refine adiv_i64 (by omega) (by omega) ?_ | refine abr_yes (by omega) ?_ | refine abr_no (by omega) ?_ | refine amin ?_ | refine amax ?_ | refine afit_u64 (by omega) ?_ | refine afit_u8 (by omega) ?_ | refine acell rfl ?_ | refine acellA ?_ | refine hload H (k := 0) rfl rfl ?_ | refine hloadA H (k := 0) rfl ?_ | refine hload H (k := 1) rfl rfl ?_ | refine hloadA H (k := 1) rfl ?_ | refine hload H (k := 2) rfl rfl ?_ | refine hloadA H (k := 2) rfl ?_ | refine hload H (k := 3) rfl rfl ?_ | refine hloadA H (k := 3) rfl ?_ | refine hload H (k := 4) rfl rfl ?_ | refine hloadA H (k := 4) rfl ?_ | refine hload H (k := 5) rfl rfl ?_ | refine hloadA H (k := 5) rfl ?_ | refine hload H (k := 6) rfl rfl ?_ | refine hloadA H (k := 6) rfl ?_ | refine hload H (k := 7) rfl rfl ?_ | refine hloadA H (k := 7) rfl ?_ | refine hload H (k := 8) rfl rfl ?_ | refine hloadA H (k := 8) rfl ?_ | refine hload H (k := 9) rfl rfl ?_ | refine hloadA H (k := 9) rfl ?_ | (refine hstore H (k := 0) rfl rfl ?_; (conv => whnf); clear H; intro τ H) | (refine hstore H (k := 1) rfl rfl ?_; (conv => whnf); clear H; intro τ H) | (refine hstore H (k := 2) rfl rfl ?_; (conv => whnf); clear H; intro τ H) | (refine hstore H (k := 3) rfl rfl ?_; (conv => whnf); clear H; intro τ H) | (refine hstore H (k := 4) rfl rfl ?_; (conv => whnf); clear H; intro τ H) | (refine hstore H (k := 5) rfl rfl ?_; (conv => whnf); clear H; intro τ H) | (refine hstore H (k := 6) rfl rfl ?_; (conv => whnf); clear H; intro τ H) | (refine hstore H (k := 7) rfl rfl ?_; (conv => whnf); clear H; intro τ H) | (refine hstore H (k := 8) rfl rfl ?_; (conv => whnf); clear H; intro τ H) | (refine hstore H (k := 9) rfl rfl ?_; (conv => whnf); clear H; intro τ H) | rw [List.length_map]); ((conv => whnf); (repeat ((first | with_reducible refine abr_true rfl ?_ | with_reducible refine abr_false rfl ?_ | with_reducible refine abr_yes rfl ?_ | refine abr_yes (by decide) ?_ | refine abr_no (by decide) ?_ | with_reducible refine abr_same_ne ?_); (conv => whnf))))))
    cases q3 : bitD x 3
    case true =>
      rw [q3, if_pos (.inr (.inr rfl))] at hD
      ((conv => whnf); (repeat ((first | with_reducible refine abr_true rfl ?_ | with_reducible refine abr_false rfl ?_ | with_reducible refine abr_yes rfl ?_ | refine abr_yes (by decide) ?_ | refine abr_no (by decide) ?_ | with_reducible refine abr_same_ne ?_); (conv => whnf))))
      (repeat ((first | refine afit_i64 (by omega) ?_ | refine arem_nonneg (by omega) (by omega) ?_ | refine adiv_i64 (by omega) (by omega) ?_ | refine abr_yes (by omega) ?_ | refine abr_no (by omega) ?_ | refine amin ?_ | refine amax ?_ | refine afit_u64 (by omega) ?_ | refine afit_u8 (by omega) ?_ | refine acell rfl ?_ | refine acellA ?_ | refine hload H (k := 0) rfl rfl ?_ | refine hloadA H (k := 0) rfl ?_ | refine hload H (k := 1) rfl rfl ?_ | refine hloadA H (k := 1) rfl ?_ | refine hload H (k := 2) rfl rfl ?_ | refine hloadA H (k := 2) rfl ?_ | refine hload H (k := 3) rfl rfl ?_ | refine hloadA H (k := 3) rfl ?_ | refine hload H (k := 4) rfl rfl ?_ | refine hloadA H (k := 4) rfl ?_ | refine hload H (k := 5) rfl rfl ?_ | refine hloadA H (k := 5) rfl ?_ | refine hload H (k := 6) rfl rfl ?_ | refine hloadA H (k := 6) rfl ?_ | refine hload H (k := 7) rfl rfl ?_ | refine hloadA H (k := 7) rfl ?_ | refine hload H (k := 8) rfl rfl ?_ | refine hloadA H (k := 8) rfl ?_ | refine hload H (k := 9) rfl rfl ?_ | refine hloadA H (k := 9) rfl ?_ | (refine hstore H (k := 0) rfl rfl ?_; (conv => whnf); clear H; intro τ H) | (refine hstore H (k := 1) rfl rfl ?_; (conv => whnf); clear H; intro τ H) | (refine hstore H (k := 2) rfl rfl ?_; (conv => whnf); clear H; intro τ H) | (refine hstore H (k := 3) rfl rfl ?_; (conv => whnf); clear H; intro τ H) | (refine hstore H (k := 4) rfl rfl ?_; (conv => whnf); clear H; intro τ H) | (refine hstore H (k := 5) rfl rfl ?_; (conv => whnf); clear H; intro τ H) | (refine hstore H (k := 6) rfl rfl ?_; (conv => whnf); clear H; intro τ H) | (refine hstore H (k := 7) rfl rfl ?_; (conv => whnf); clear H; intro τ H) | (refine hstore H (k := 8) rfl rfl ?_; (conv => whnf); clear H; intro τ H) | (refine hstore H (k := 9) rfl rfl ?_; (conv => whnf); clear H; intro τ H) | rw [List.length_map]); ((conv => whnf); (repeat ((first | with_reducible refine abr_true rfl ?_ | with_reducible refine abr_false rfl ?_ | with_reducible refine abr_yes rfl ?_ | refine abr_yes (by decide) ?_ | refine abr_no (by decide) ?_ | with_reducible refine abr_same_ne ?_); (conv => whnf))))))
      exact aret_st (l := []) H.sub ⟨by rw [hD], rfl⟩
    rw [q1, q2, q3, if_neg (by rintro (h | h | h) <;> cases h)] at hD
    ((conv => whnf); (repeat ((first | with_reducible refine abr_true rfl ?_ | with_reducible refine abr_false rfl ?_ | with_reducible refine abr_yes rfl ?_ | refine abr_yes (by decide) ?_ | refine abr_no (by decide) ?_ | with_reducible refine abr_same_ne ?_); (conv => whnf))))
    by_cases c5 : x.length < n + 5
    · rw [if_pos c5] at hD
      (repeat ((first | refine afit_i64 (by omega) ?_ | refine arem_nonneg (by omega) (by omega) ?_ | refine adiv_i64 (by omega) (by omega) ?_ | refine abr_yes (by omega) ?_ | refine abr_no (by omega) ?_ | refine amin ?_ | refine amax ?_ | refine afit_u64 (by omega) ?_ | refine afit_u8 (by omega) ?_ | refine acell rfl ?_ | refine acellA ?_ | refine hload H (k := 0) rfl rfl ?_ | refine hloadA H (k := 0) rfl ?_ | refine hload H (k := 1) rfl rfl ?_ | refine hloadA H (k := 1) rfl ?_ | refine hload H (k := 2) rfl rfl ?_ | refine hloadA H (k := 2) rfl ?_ | refine hload H (k := 3) rfl rfl ?_ | refine hloadA H (k := 3) rfl ?_ | refine hload H (k := 4) rfl rfl ?_ | refine hloadA H (k := 4) rfl ?_ | refine hload H (k := 5) rfl rfl ?_ | refine hloadA H (k := 5) rfl ?_ | refine hload H (k := 6) rfl rfl ?_ | refine hloadA H (k := 6) rfl ?_ | refine hload H (k := 7) rfl rfl ?_ | refine hloadA H (k := 7) rfl ?_ | refine hload H (k := 8) rfl rfl ?_ | refine hloadA H (k := 8) rfl ?_ | refine hload H (k := 9) rfl rfl ?_ | refine hloadA H (k := 9) rfl ?_ | (refine hstore H (k := 0) rfl rfl ?_; (conv => whnf); clear H; intro τ H) | (refine hstore H (k := 1) rfl rfl ?_; (conv => whnf); clear H; intro τ H) | (refine hstore H (k := 2) rfl rfl ?_; (conv => whnf); clear H; intro τ H) | (refine hstore H (k := 3) rfl rfl ?_; (conv => whnf); clear H; intro τ H) | (refine hstore H (k := 4) rfl rfl ?_; (conv => whnf); clear H; intro τ H) | (refine hstore H (k := 5) rfl rfl ?_; (conv => whnf); clear H; intro τ H) | (refine hstore H (k := 6) rfl rfl ?_; (conv => whnf); clear H; intro τ H) | (refine hstore H (k := 7) rfl rfl ?_; (conv => whnf); clear H; intro τ H) | (refine hstore H (k := 8) rfl rfl ?_; (conv => whnf); clear H; intro τ H) | (refine hstore H (k := 9) rfl rfl ?_; (conv => whnf); clear H; intro τ H) | rw [List.length_map]); ((conv => whnf); (repeat ((first | with_reducible refine abr_true rfl ?_ | with_reducible refine abr_false rfl ?_ | with_reducible refine abr_yes rfl ?_ | refine abr_yes (by decide) ?_ | refine abr_no (by decide) ?_ | with_reducible refine abr_same_ne ?_); (conv => whnf))))))
      exact aret_st (l := []) H.sub ⟨by rw [hD], rfl⟩
    rw [if_neg c5] at hD
    (repeat ((first | refine afit_i64 (by omega) ?_ | refine arem_nonneg (by omega) (by omega) ?_ | refine adiv_i64 (by omega) (by omega) ?_ | refine abr_yes (by omega) ?_ | refine abr_no (by omega) ?_ | refine amin ?_ | refine amax ?_ | refine afit_u64 (by omega) ?_ | refine afit_u8 (by omega) ?_ | refine acell rfl ?_ | refine acellA ?_ | refine hload H (k := 0) rfl rfl ?_ | refine hloadA H (k := 0) rfl ?_ | refine hload H (k := 1) rfl rfl ?_ | refine hloadA H (k := 1) rfl ?_ | refine hload H (k := 2) rfl rfl ?_ | refine hloadA H (k := 2) rfl ?_ | refine hload H (k := 3) rfl rfl ?_ | refine hloadA H (k := 3) rfl ?_ | refine hload H (k := 4) rfl rfl ?_ | refine hloadA H (k := 4) rfl ?_ | refine hload H (k := 5) rfl rfl ?_ | refine hloadA H (k := 5) rfl ?_ | refine hload H (k := 6) rfl rfl ?_ | refine hloadA H (k := 6) rfl ?_ | refine hload H (k := 7) rfl rfl ?_ | refine hloadA H (k := 7) rfl ?_ | refine hload H (k := 8) rfl rfl ?_ | refine hloadA H (k := 8) rfl ?_ | refine hload H (k := 9) rfl rfl ?_ | refine hloadA H (k := 9) rfl ?_ | (refine hstore H (k := 0) rfl rfl ?_; (conv => whnf); clear H; intro τ H) | (refine hstore H (k := 1) rfl rfl ?_; (conv => whnf); clear H; intro τ H) | (refine hstore H (k := 2) rfl rfl ?_; (conv => whnf); clear H; intro τ H) | (refine hstore H (k := 3) rfl rfl ?_; (conv => whnf); clear H; intro τ H) | (refine hstore H (k := 4) rfl rfl ?_; (conv => whnf); clear H; intro τ H) | (refine hstore H (k := 5) rfl rfl ?_; (conv => whnf); clear H; intro τ H) | (refine hstore H (k := 6) rfl rfl ?_; (conv => whnf); clear H; intro τ H) | (refine hstore H (k := 7) rfl rfl ?_; (conv => whnf); clear H; intro τ H) | (refine hstore H (k := 8) rfl rfl ?_; (conv => whnf); clear H; intro τ H) | (refine hstore H (k := 9) rfl rfl ?_; (conv => whnf); clear H; intro τ H) | rw [List.length_map]); ((conv => whnf); (repeat ((first | with_reducible refine abr_true rfl ?_ | with_reducible refine abr_false rfl ?_ | with_reducible refine abr_yes rfl ?_ | refine abr_yes (by decide) ?_ | refine abr_no (by decide) ?_ | with_reducible refine abr_same_ne ?_); (conv => whnf))))))
    refine acall (refGet x .none 4 n τ (by omega) (by omega)) ?_
    rintro _ σ_ ⟨rfl, e_⟩
    obtain rfl := e_.symm
    refine ⟨?_, Ext.refl _⟩
    ((conv => whnf); (repeat ((first | with_reducible refine abr_true rfl ?_ | with_reducible refine abr_false rfl ?_ | with_reducible refine abr_yes rfl ?_ | refine abr_yes (by decide) ?_ | refine abr_no (by decide) ?_ | with_reducible refine abr_same_ne ?_); (conv => whnf))))
    rw [getAt_fits (by omega) (by omega), getCode_fits (by omega) (by omega)]
    have hv1 : getVal x 4 n < 65536 := Nat.lt_of_lt_of_le (by
      unfold getVal
      split
      · refine Nat.lt_of_lt_of_le (val_lt _) (Nat.pow_le_pow_right (by omega) ?_)
        rw [List.length_take]; exact Nat.min_le_left ..
      · exact Nat.two_pow_pos _) (Nat.le_trans (Nat.pow_le_pow_right (n := 2) (by omega) (show (n : Int).toNat ≤ 16 by omega)) (by decide))
    generalize getVal x 4 n = ack at *
    (repeat ((first | refine afit_i64 (by omega) ?_ | refine arem_nonneg (by omega) (by omega) ?_ | refine adiv_i64 (by omega) (by omega) ?_ | refine abr_yes (by omega) ?_ | refine abr_no (by omega) ?_ | refine amin ?_ | refine amax ?_ | refine afit_u64 (by omega) ?_ | refine afit_u8 (by omega) ?_ | refine acell rfl ?_ | refine acellA ?_ | refine hload H (k := 0) rfl rfl ?_ | refine hloadA H (k := 0) rfl ?_ | refine hload H (k := 1) rfl rfl ?_ | refine hloadA H (k := 1) rfl ?_ | refine hload H (k := 2) rfl rfl ?_ | refine hloadA H (k := 2) rfl ?_ | refine hload H (k := 3) rfl rfl ?_ | refine hloadA H (k := 3) rfl ?_ | refine hload H (k := 4) rfl rfl ?_ | refine hloadA H (k := 4) rfl ?_ | refine hload H (k := 5) rfl rfl ?_ | refine hloadA H (k := 5) rfl ?_ | refine hload H (k := 6) rfl rfl ?_ | refine hloadA H (k := 6) rfl ?_ | refine hload H (k := 7) rfl rfl ?_ | refine hloadA H (k := 7) rfl ?_ | refine hload H (k := 8) rfl rfl ?_ | refine hloadA H (k := 8) rfl ?_ | refine hload H (k := 9) rfl rfl ?_ | refine hloadA H (k := 9) rfl ?_ | (refine hstore H (k := 0) rfl rfl ?_; (conv => whnf); clear H; intro τ H) | (refine hstore H (k := 1) rfl rfl ?_; (conv => whnf); clear H; intro τ H) | (refine hstore H (k := 2) rfl rfl ?_; (conv => whnf); clear H; intro τ H) | (refine hstore H (k := 3) rfl rfl ?_; (conv => whnf); clear H; intro τ H) | (refine hstore H (k := 4) rfl rfl ?_; (conv => whnf); clear H; intro τ H) | (refine hstore H (k := 5) rfl rfl ?_; (conv => whnf); clear H; intro τ H) | (refine hstore H (k := 6) rfl rfl ?_; (conv => whnf); clear H; intro τ H) | (refine hstore H (k := 7) rfl rfl ?_; (conv => whnf); clear H; intro τ H) | (refine hstore H (k := 8) rfl rfl ?_; (conv => whnf); clear H; intro τ H) | (refine hstore H (k := 9) rfl rfl ?_; (conv => whnf); clear H; intro τ H) | rw [List.length_map]); ((conv => whnf); (repeat ((first | with_reducible refine abr_true rfl ?_ | with_reducible refine abr_false rfl ?_ | with_reducible refine abr_yes rfl ?_ | refine abr_yes (by decide) ?_ | refine abr_no (by decide) ?_ | with_reducible refine abr_same_ne ?_); (conv => whnf))))))
    refine hnew H rfl ?_
    clear H
    intro i10 τ H
    ((conv => whnf); (repeat ((first | with_reducible refine abr_true rfl ?_ | with_reducible refine abr_false rfl ?_ | with_reducible refine abr_yes rfl ?_ | refine abr_yes (by decide) ?_ | refine abr_no (by decide) ?_ | with_reducible refine abr_same_ne ?_); (conv => whnf))))
    (repeat ((first | refine afit_i64 (by omega) ?_ | refine arem_nonneg (by omega) (by omega) ?_ | refine adiv_i64 (by omega) (by omega) ?_ | refine abr_yes (by omega) ?_ | refine abr_no (by omega) ?_ | refine amin ?_ | refine amax ?_ | refine afit_u64 (by omega) ?_ | refine afit_u8 (by omega) ?_ | refine acell rfl ?_ | refine acellA ?_ | refine hload H (k := 0) rfl rfl ?_ | refine hloadA H (k := 0) rfl ?_ | refine hload H (k := 1) rfl rfl ?_ | refine hloadA H (k := 1) rfl ?_ | refine hload H (k := 2) rfl rfl ?_ | refine hloadA H (k := 2) rfl ?_ | refine hload H (k := 3) rfl rfl ?_ | refine hloadA H (k := 3) rfl ?_ | refine hload H (k := 4) rfl rfl ?_ | refine hloadA H (k := 4) rfl ?_ | refine hload H (k := 5) rfl rfl ?_ | refine hloadA H (k := 5) rfl ?_ | refine hload H (k := 6) rfl rfl ?_ | refine hloadA H (k := 6) rfl ?_ | refine hload H (k := 7) rfl rfl ?_ | refine hloadA H (k := 7) rfl ?_ | refine hload H (k := 8) rfl rfl ?_ | refine hloadA H (k := 8) rfl ?_ | refine hload H (k := 9) rfl rfl ?_ | refine hloadA H (k := 9) rfl ?_ | (refine hstore H (k := 0) rfl rfl ?_; (conv => whnf); clear H; intro τ H) | (refine hstore H (k := 1) rfl rfl ?_; (conv => whnf); clear H; intro τ H) | (refine hstore H (k := 2) rfl rfl ?_; (conv => whnf); clear H; intro τ H) | (refine hstore H (k := 3) rfl rfl ?_; (conv => whnf); clear H; intro τ H) | (refine hstore H (k := 4) rfl rfl ?_; (conv => whnf); clear H; intro τ H) | (refine hstore H (k := 5) rfl rfl ?_; (conv => whnf); clear H; intro τ H) | (refine hstore H (k := 6) rfl rfl ?_; (conv => whnf); clear H; intro τ H) | (refine hstore H (k := 7) rfl rfl ?_; (conv => whnf); clear H; intro τ H) | (refine hstore H (k := 8) rfl rfl ?_; (conv => whnf); clear H; intro τ H) | (refine hstore H (k := 9) rfl rfl ?_; (conv => whnf); clear H; intro τ H) | rw [List.length_map]); ((conv => whnf); (repeat ((first | with_reducible refine abr_true rfl ?_ | with_reducible refine abr_false rfl ?_ | with_reducible refine abr_yes rfl ?_ | refine abr_yes (by decide) ?_ | refine abr_no (by decide) ?_ | with_reducible refine abr_same_ne ?_); (conv => whnf))))))
    refine aget (by omega) (get_boolD (i := 4 + n) (by omega)) ?_
    generalize bitD x (4 + n) = mo0 at *
    ((conv => whnf); (repeat ((first | with_reducible refine abr_true rfl ?_ | with_reducible refine abr_false rfl ?_ | with_reducible refine abr_yes rfl ?_ | refine abr_yes (by decide) ?_ | refine abr_no (by decide) ?_ | with_reducible refine abr_same_ne ?_); (conv => whnf))))
    (repeat ((first | refine afit_i64 (by omega) ?_ | refine arem_nonneg (by omega) (by omega) ?_ | refine adiv_i64 (by omega) (by omega) ?_ | refine abr_yes (by omega) ?_ | refine abr_no (by omega) ?_ | refine amin ?_ | refine amax ?_ | refine afit_u64 (by omega) ?_ | refine afit_u8 (by omega) ?_ | refine acell rfl ?_ | refine acellA ?_ | refine hload H (k := 0) rfl rfl ?_ | refine hloadA H (k := 0) rfl ?_ | refine hload H (k := 1) rfl rfl ?_ | refine hloadA H (k := 1) rfl ?_ | refine hload H (k := 2) rfl rfl ?_ | refine hloadA H (k := 2) rfl ?_ | refine hload H (k := 3) rfl rfl ?_ | refine hloadA H (k := 3) rfl ?_ | refine hload H (k := 4) rfl rfl ?_ | refine hloadA H (k := 4) rfl ?_ | refine hload H (k := 5) rfl rfl ?_ | refine hloadA H (k := 5) rfl ?_ | refine hload H (k := 6) rfl rfl ?_ | refine hloadA H (k := 6) rfl ?_ | refine hload H (k := 7) rfl rfl ?_ | refine hloadA H (k := 7) rfl ?_ | refine hload H (k := 8) rfl rfl ?_ | refine hloadA H (k := 8) rfl ?_ | refine hload H (k := 9) rfl rfl ?_ | refine hloadA H (k := 9) rfl ?_ | (refine hstore H (k := 0) rfl rfl ?_; (conv => whnf); clear H; intro τ H) | (refine hstore H (k := 1) rfl rfl ?_; (conv => whnf); clear H; intro τ H) | (refine hstore H (k := 2) rfl rfl ?_; (conv => whnf); clear H; intro τ H) | (refine hstore H (k := 3) rfl rfl ?_; (conv => whnf); clear H; intro τ H) | (refine hstore H (k := 4) rfl rfl ?_; (conv => whnf); clear H; intro τ H) | (refine hstore H (k := 5) rfl rfl ?_; (conv => whnf); clear H; intro τ H) | (refine hstore H (k := 6) rfl rfl ?_; (conv => whnf); clear H; intro τ H) | (refine hstore H (k := 7) rfl rfl ?_; (conv => whnf); clear H; intro τ H) | (refine hstore H (k := 8) rfl rfl ?_; (conv => whnf); clear H; intro τ H) | (refine hstore H (k := 9) rfl rfl ?_; (conv => whnf); clear H; intro τ H) | rw [List.length_map]); ((conv => whnf); (repeat ((first | with_reducible refine abr_true rfl ?_ | with_reducible refine abr_false rfl ?_ | with_reducible refine abr_yes rfl ?_ | refine abr_yes (by decide) ?_ | refine abr_no (by decide) ?_ | with_reducible refine abr_same_ne ?_); (conv => whnf))))))
    refine aloop (α := Nat × List Ms × Nat × Bool × Tok × AHeap) (fun y => [(s8, i64v y.2.2.1), (s11, boolv y.2.2.2.1)]) (fun y => y.2.2.2.2.2)
      (fun y => y.2.1.length + (y.1 + 1) = 33 ∧ y.2.2.1 ≤ x.length ∧ Hp σ [.t y.2.2.2.2.1, .o i10 (.cells [i64v ack, missV y.2.2.2.2.1 y.2.1]), .o i4 (.cells [i64v 0, .slice 4 [] .full])] y.2.2.2.2.2 ∧
        dRead n b = if (dMs n x (y.1 + 1) y.2.1 y.2.2.1 y.2.2.2.1).2 = 0 then ((((ack : Nat) : Int), (dMs n x (y.1 + 1) y.2.1 y.2.2.1 y.2.2.2.1).1), 0) else ((0, []), (dMs n x (y.1 + 1) y.2.1 y.2.2.1 y.2.2.2.1).2))
      (fun y => y.1) (32, [], 4 + n + 1, mo0, .full, τ) ⟨rfl, by dsimp only; omega, H.cons_full, hD⟩ (Sub.refl _) ?_ ?_
    · ((conv => whnf); (repeat ((first | with_reducible refine abr_true rfl ?_ | with_reducible refine abr_false rfl ?_ | with_reducible refine abr_yes rfl ?_ | refine abr_yes (by decide) ?_ | refine abr_no (by decide) ?_ | with_reducible refine abr_same_ne ?_); (conv => whnf))))
      rw [show ((4 + n + 1 : Nat) : Int) = ((4 + n : Nat) : Int) + 1 by omega]
      (repeat' first | with_reducible exact EnvLe.refl _ | (refine EnvLe.node ?_ (by first | exact Or.inl rfl | exact Or.inr (Or.inl rfl) | exact Or.inr (Or.inr ⟨nofun, VLe.slice _ _ _⟩)) ?_))
    clear hD H
    rintro ⟨f, ms, k, more, tk, υ⟩ ⟨hf, hk, H, hD⟩
    dsimp only at hf hk H hD ⊢
    clear τ
    revert H
    generalize υ = τ
    intro H
    ((conv => whnf); (repeat ((first | with_reducible refine abr_true rfl ?_ | with_reducible refine abr_false rfl ?_ | with_reducible refine abr_yes rfl ?_ | refine abr_yes (by decide) ?_ | refine abr_no (by decide) ?_ | with_reducible refine abr_same_ne ?_); (conv => whnf))))
    cases more
    · have hS : dMs n x (f + 1) ms k false = if k + 7 < x.length then ([], 3) else if (x.drop k).any id = true then ([], 3) else (ms, 0) := rfl
      rw [hS] at hD
      ((conv => whnf); (repeat ((first | with_reducible refine abr_true rfl ?_ | with_reducible refine abr_false rfl ?_ | with_reducible refine abr_yes rfl ?_ | refine abr_yes (by decide) ?_ | refine abr_no (by decide) ?_ | with_reducible refine abr_same_ne ?_); (conv => whnf))))
      by_cases c6 : k + 7 < x.length
      · rw [if_pos c6] at hD
        (repeat ((first | refine afit_i64 (by omega) ?_ | refine arem_nonneg (by omega) (by omega) ?_ | refine adiv_i64 (by omega) (by omega) ?_ | refine abr_yes (by omega) ?_ | refine abr_no (by omega) ?_ | refine amin ?_ | refine amax ?_ | refine afit_u64 (by omega) ?_ | refine afit_u8 (by omega) ?_ | refine acell rfl ?_ | refine acellA ?_ | refine hload H (k := 0) rfl rfl ?_ | refine hloadA H (k := 0) rfl ?_ | refine hload H (k := 1) rfl rfl ?_ | refine hloadA H (k := 1) rfl ?_ | refine hload H (k := 2) rfl rfl ?_ | refine hloadA H (k := 2) rfl ?_ | refine hload H (k := 3) rfl rfl ?_ | refine hloadA H (k := 3) rfl ?_ | refine hload H (k := 4) rfl rfl ?_ | refine hloadA H (k := 4) rfl ?_ | refine hload H (k := 5) rfl rfl ?_ | refine hloadA H (k := 5) rfl ?_ | refine hload H (k := 6) rfl rfl ?_ | refine hloadA H (k := 6) rfl ?_ | refine hload H (k := 7) rfl rfl ?_ | refine hloadA H (k := 7) rfl ?_ | refine hload H (k := 8) rfl rfl ?_ | refine hloadA H (k := 8) rfl ?_ | refine hload H (k := 9) rfl rfl ?_ | refine hloadA H (k := 9) rfl ?_ | (refine hstore H (k := 0) rfl rfl ?_; (conv => whnf); clear H; intro τ H) | (refine hstore H (k := 1) rfl rfl ?_; (conv => whnf); clear H; intro τ H) | (refine hstore H (k := 2) rfl rfl ?_; (conv => whnf); clear H; intro τ H) | (refine hstore H (k := 3) rfl rfl ?_; (conv => whnf); clear H; intro τ H) | (refine hstore H (k := 4) rfl rfl ?_; (conv => whnf); clear H; intro τ H) | (refine hstore H (k := 5) rfl rfl ?_; (conv => whnf); clear H; intro τ H) | (refine hstore H (k := 6) rfl rfl ?_; (conv => whnf); clear H; intro τ H) | (refine hstore H (k := 7) rfl rfl ?_; (conv => whnf); clear H; intro τ H) | (refine hstore H (k := 8) rfl rfl ?_; (conv => whnf); clear H; intro τ H) | (refine hstore H (k := 9) rfl rfl ?_; (conv => whnf); clear H; intro τ H) | rw [List.length_map]); ((conv => whnf); (repeat ((first | with_reducible refine abr_true rfl ?_ | with_reducible refine abr_false rfl ?_ | with_reducible refine abr_yes rfl ?_ | refine abr_yes (by decide) ?_ | refine abr_no (by decide) ?_ | with_reducible refine abr_same_ne ?_); (conv => whnf))))))
        exact aret_st (l := []) H.sub ⟨by rw [hD]; rfl, rfl⟩
      rw [if_neg c6] at hD
      (repeat ((first | refine afit_i64 (by omega) ?_ | refine arem_nonneg (by omega) (by omega) ?_ | refine adiv_i64 (by omega) (by omega) ?_ | refine abr_yes (by omega) ?_ | refine abr_no (by omega) ?_ | refine amin ?_ | refine amax ?_ | refine afit_u64 (by omega) ?_ | refine afit_u8 (by omega) ?_ | refine acell rfl ?_ | refine acellA ?_ | refine hload H (k := 0) rfl rfl ?_ | refine hloadA H (k := 0) rfl ?_ | refine hload H (k := 1) rfl rfl ?_ | refine hloadA H (k := 1) rfl ?_ | refine hload H (k := 2) rfl rfl ?_ | refine hloadA H (k := 2) rfl ?_ | refine hload H (k := 3) rfl rfl ?_ | refine hloadA H (k := 3) rfl ?_ | refine hload H (k := 4) rfl rfl ?_ | refine hloadA H (k := 4) rfl ?_ | refine hload H (k := 5) rfl rfl ?_ | refine hloadA H (k := 5) rfl ?_ | refine hload H (k := 6) rfl rfl ?_ | refine hloadA H (k := 6) rfl ?_ | refine hload H (k := 7) rfl rfl ?_ | refine hloadA H (k := 7) rfl ?_ | refine hload H (k := 8) rfl rfl ?_ | refine hloadA H (k := 8) rfl ?_ | refine hload H (k := 9) rfl rfl ?_ | refine hloadA H (k := 9) rfl ?_ | (refine hstore H (k := 0) rfl rfl ?_; (conv => whnf); clear H; intro τ H) | (refine hstore H (k := 1) rfl rfl ?_; (conv => whnf); clear H; intro τ H) | (refine hstore H (k := 2) rfl rfl ?_; (conv => whnf); clear H; intro τ H) | (refine hstore H (k := 3) rfl rfl ?_; (conv => whnf); clear H; intro τ H) | (refine hstore H (k := 4) rfl rfl ?_; (conv => whnf); clear H; intro τ H) | (refine hstore H (k := 5) rfl rfl ?_; (conv => whnf); clear H; intro τ H) | (refine hstore H (k := 6) rfl rfl ?_; (conv => whnf); clear H; intro τ H) | (refine hstore H (k := 7) rfl rfl ?_; (conv => whnf); clear H; intro τ H) | (refine hstore H (k := 8) rfl rfl ?_; (conv => whnf); clear H; intro τ H) | (refine hstore H (k := 9) rfl rfl ?_; (conv => whnf); clear H; intro τ H) | rw [List.length_map]); ((conv => whnf); (repeat ((first | with_reducible refine abr_true rfl ?_ | with_reducible refine abr_false rfl ?_ | with_reducible refine abr_yes rfl ?_ | refine abr_yes (by decide) ?_ | refine abr_no (by decide) ?_ | with_reducible refine abr_same_ne ?_); (conv => whnf))))))
      refine aloop (α := Nat) (fun i => [(s16, i64v i)]) (fun _ => τ) (fun i => k ≤ i ∧ i ≤ x.length ∧ ∀ j, k ≤ j → j < i → bitD x j = false) (fun i => x.length - i) k ⟨Nat.le_refl _, hk, fun j _ _ => by omega⟩ (Sub.refl _) ?_ ?_
      · ((conv => whnf); (repeat ((first | with_reducible refine abr_true rfl ?_ | with_reducible refine abr_false rfl ?_ | with_reducible refine abr_yes rfl ?_ | refine abr_yes (by decide) ?_ | refine abr_no (by decide) ?_ | with_reducible refine abr_same_ne ?_); (conv => whnf))))
        (repeat' first | with_reducible exact EnvLe.refl _ | (refine EnvLe.node ?_ (by first | exact Or.inl rfl | exact Or.inr (Or.inl rfl) | exact Or.inr (Or.inr ⟨nofun, VLe.slice _ _ _⟩)) ?_))
      rintro i ⟨hki, hi, hz⟩
      by_cases c7 : i < x.length
      · ((conv => whnf); (repeat ((first | with_reducible refine abr_true rfl ?_ | with_reducible refine abr_false rfl ?_ | with_reducible refine abr_yes rfl ?_ | refine abr_yes (by decide) ?_ | refine abr_no (by decide) ?_ | with_reducible refine abr_same_ne ?_); (conv => whnf))))
        (repeat ((first | refine afit_i64 (by omega) ?_ | refine arem_nonneg (by omega) (by omega) ?_ | refine adiv_i64 (by omega) (by omega) ?_ | refine abr_yes (by omega) ?_ | refine abr_no (by omega) ?_ | refine amin ?_ | refine amax ?_ | refine afit_u64 (by omega) ?_ | refine afit_u8 (by omega) ?_ | refine acell rfl ?_ | refine acellA ?_ | refine hload H (k := 0) rfl rfl ?_ | refine hloadA H (k := 0) rfl ?_ | refine hload H (k := 1) rfl rfl ?_ | refine hloadA H (k := 1) rfl ?_ | refine hload H (k := 2) rfl rfl ?_ | refine hloadA H (k := 2) rfl ?_ | refine hload H (k := 3) rfl rfl ?_ | refine hloadA H (k := 3) rfl ?_ | refine hload H (k := 4) rfl rfl ?_ | refine hloadA H (k := 4) rfl ?_ | refine hload H (k := 5) rfl rfl ?_ | refine hloadA H (k := 5) rfl ?_ | refine hload H (k := 6) rfl rfl ?_ | refine hloadA H (k := 6) rfl ?_ | refine hload H (k := 7) rfl rfl ?_ | refine hloadA H (k := 7) rfl ?_ | refine hload H (k := 8) rfl rfl ?_ | refine hloadA H (k := 8) rfl ?_ | refine hload H (k := 9) rfl rfl ?_ | refine hloadA H (k := 9) rfl ?_ | (refine hstore H (k := 0) rfl rfl ?_; (conv => whnf); clear H; intro τ H) | (refine hstore H (k := 1) rfl rfl ?_; (conv => whnf); clear H; intro τ H) | (refine hstore H (k := 2) rfl rfl ?_; (conv => whnf); clear H; intro τ H) | (refine hstore H (k := 3) rfl rfl ?_; (conv => whnf); clear H; intro τ H) | (refine hstore H (k := 4) rfl rfl ?_; (conv => whnf); clear H; intro τ H) | (refine hstore H (k := 5) rfl rfl ?_; (conv => whnf); clear H; intro τ H) | (refine hstore H (k := 6) rfl rfl ?_; (conv => whnf); clear H; intro τ H) | (refine hstore H (k := 7) rfl rfl ?_; (conv => whnf); clear H; intro τ H) | (refine hstore H (k := 8) rfl rfl ?_; (conv => whnf); clear H; intro τ H) | (refine hstore H (k := 9) rfl rfl ?_; (conv => whnf); clear H; intro τ H) | rw [List.length_map]); ((conv => whnf); (repeat ((first | with_reducible refine abr_true rfl ?_ | with_reducible refine abr_false rfl ?_ | with_reducible refine abr_yes rfl ?_ | refine abr_yes (by decide) ?_ | refine abr_no (by decide) ?_ | with_reducible refine abr_same_ne ?_); (conv => whnf))))))
        refine aget (by omega) (get_boolD (i := i) c7) ?_
        ((conv => whnf); (repeat ((first | with_reducible refine abr_true rfl ?_ | with_reducible refine abr_false rfl ?_ | with_reducible refine abr_yes rfl ?_ | refine abr_yes (by decide) ?_ | refine abr_no (by decide) ?_ | with_reducible refine abr_same_ne ?_); (conv => whnf))))
        (repeat ((first | refine afit_i64 (by omega) ?_ | refine arem_nonneg (by omega) (by omega) ?_ | refine adiv_i64 (by omega) (by omega) ?_ | refine abr_yes (by omega) ?_ | refine abr_no (by omega) ?_ | refine amin ?_ | refine amax ?_ | refine afit_u64 (by omega) ?_ | refine afit_u8 (by omega) ?_ | refine acell rfl ?_ | refine acellA ?_ | refine hload H (k := 0) rfl rfl ?_ | refine hloadA H (k := 0) rfl ?_ | refine hload H (k := 1) rfl rfl ?_ | refine hloadA H (k := 1) rfl ?_ | refine hload H (k := 2) rfl rfl ?_ | refine hloadA H (k := 2) rfl ?_ | refine hload H (k := 3) rfl rfl ?_ | refine hloadA H (k := 3) rfl ?_ | refine hload H (k := 4) rfl rfl ?_ | refine hloadA H (k := 4) rfl ?_ | refine hload H (k := 5) rfl rfl ?_ | refine hloadA H (k := 5) rfl ?_ | refine hload H (k := 6) rfl rfl ?_ | refine hloadA H (k := 6) rfl ?_ | refine hload H (k := 7) rfl rfl ?_ | refine hloadA H (k := 7) rfl ?_ | refine hload H (k := 8) rfl rfl ?_ | refine hloadA H (k := 8) rfl ?_ | refine hload H (k := 9) rfl rfl ?_ | refine hloadA H (k := 9) rfl ?_ | (refine hstore H (k := 0) rfl rfl ?_; (conv => whnf); clear H; intro τ H) | (refine hstore H (k := 1) rfl rfl ?_; (conv => whnf); clear H; intro τ H) | (refine hstore H (k := 2) rfl rfl ?_; (conv => whnf); clear H; intro τ H) | (refine hstore H (k := 3) rfl rfl ?_; (conv => whnf); clear H; intro τ H) | (refine hstore H (k := 4) rfl rfl ?_; (conv => whnf); clear H; intro τ H) | (refine hstore H (k := 5) rfl rfl ?_; (conv => whnf); clear H; intro τ H) | (refine hstore H (k := 6) rfl rfl ?_; (conv => whnf); clear H; intro τ H) | (refine hstore H (k := 7) rfl rfl ?_; (conv => whnf); clear H; intro τ H) | (refine hstore H (k := 8) rfl rfl ?_; (conv => whnf); clear H; intro τ H) | (refine hstore H (k := 9) rfl rfl ?_; (conv => whnf); clear H; intro τ H) | rw [List.length_map]); ((conv => whnf); (repeat ((first | with_reducible refine abr_true rfl ?_ | with_reducible refine abr_false rfl ?_ | with_reducible refine abr_yes rfl ?_ | refine abr_yes (by decide) ?_ | refine abr_no (by decide) ?_ | with_reducible refine abr_same_ne ?_); (conv => whnf))))))
        cases q : bitD x i
        · ((conv => whnf); (repeat ((first | with_reducible refine abr_true rfl ?_ | with_reducible refine abr_false rfl ?_ | with_reducible refine abr_yes rfl ?_ | refine abr_yes (by decide) ?_ | refine abr_no (by decide) ?_ | with_reducible refine abr_same_ne ?_); (conv => whnf))))
          (repeat ((first | refine afit_i64 (by omega) ?_ | refine arem_nonneg (by omega) (by omega) ?_ | refine adiv_i64 (by omega) (by omega) ?_ | refine abr_yes (by omega) ?_ | refine abr_no (by omega) ?_ | refine amin ?_ | refine amax ?_ | refine afit_u64 (by omega) ?_ | refine afit_u8 (by omega) ?_ | refine acell rfl ?_ | refine acellA ?_ | refine hload H (k := 0) rfl rfl ?_ | refine hloadA H (k := 0) rfl ?_ | refine hload H (k := 1) rfl rfl ?_ | refine hloadA H (k := 1) rfl ?_ | refine hload H (k := 2) rfl rfl ?_ | refine hloadA H (k := 2) rfl ?_ | refine hload H (k := 3) rfl rfl ?_ | refine hloadA H (k := 3) rfl ?_ | refine hload H (k := 4) rfl rfl ?_ | refine hloadA H (k := 4) rfl ?_ | refine hload H (k := 5) rfl rfl ?_ | refine hloadA H (k := 5) rfl ?_ | refine hload H (k := 6) rfl rfl ?_ | refine hloadA H (k := 6) rfl ?_ | refine hload H (k := 7) rfl rfl ?_ | refine hloadA H (k := 7) rfl ?_ | refine hload H (k := 8) rfl rfl ?_ | refine hloadA H (k := 8) rfl ?_ | refine hload H (k := 9) rfl rfl ?_ | refine hloadA H (k := 9) rfl ?_ | (refine hstore H (k := 0) rfl rfl ?_; (conv => whnf); clear H; intro τ H) | (refine hstore H (k := 1) rfl rfl ?_; (conv => whnf); clear H; intro τ H) | (refine hstore H (k := 2) rfl rfl ?_; (conv => whnf); clear H; intro τ H) | (refine hstore H (k := 3) rfl rfl ?_; (conv => whnf); clear H; intro τ H) | (refine hstore H (k := 4) rfl rfl ?_; (conv => whnf); clear H; intro τ H) | (refine hstore H (k := 5) rfl rfl ?_; (conv => whnf); clear H; intro τ H) | (refine hstore H (k := 6) rfl rfl ?_; (conv => whnf); clear H; intro τ H) | (refine hstore H (k := 7) rfl rfl ?_; (conv => whnf); clear H; intro τ H) | (refine hstore H (k := 8) rfl rfl ?_; (conv => whnf); clear H; intro τ H) | (refine hstore H (k := 9) rfl rfl ?_; (conv => whnf); clear H; intro τ H) | rw [List.length_map]); ((conv => whnf); (repeat ((first | with_reducible refine abr_true rfl ?_ | with_reducible refine abr_false rfl ?_ | with_reducible refine abr_yes rfl ?_ | refine abr_yes (by decide) ?_ | refine abr_no (by decide) ?_ | with_reducible refine abr_same_ne ?_); (conv => whnf))))))
          refine ⟨i + 1, ⟨by omega, c7, fun j h1 h2 => ?_⟩, by omega, Sub.refl _, ?_⟩
          · by_cases e : j = i
            · rw [e]; exact q
            · exact hz j h1 (by omega)
          · ((conv => whnf); (repeat ((first | with_reducible refine abr_true rfl ?_ | with_reducible refine abr_false rfl ?_ | with_reducible refine abr_yes rfl ?_ | refine abr_yes (by decide) ?_ | refine abr_no (by decide) ?_ | with_reducible refine abr_same_ne ?_); (conv => whnf))))
            (repeat' first | with_reducible exact EnvLe.refl _ | (refine EnvLe.node ?_ (by first | exact Or.inl rfl | exact Or.inr (Or.inl rfl) | exact Or.inr (Or.inr ⟨nofun, VLe.slice _ _ _⟩)) ?_))
        · rw [if_pos (any_drop.2 ⟨i, hki, c7, q⟩)] at hD
          ((conv => whnf); (repeat ((first | with_reducible refine abr_true rfl ?_ | with_reducible refine abr_false rfl ?_ | with_reducible refine abr_yes rfl ?_ | refine abr_yes (by decide) ?_ | refine abr_no (by decide) ?_ | with_reducible refine abr_same_ne ?_); (conv => whnf))))
          (repeat ((first | refine afit_i64 (by omega) ?_ | refine arem_nonneg (by omega) (by omega) ?_ | refine adiv_i64 (by omega) (by omega) ?_ | refine abr_yes (by omega) ?_ | refine abr_no (by omega) ?_ | refine amin ?_ | refine amax ?_ | refine afit_u64 (by omega) ?_ | refine afit_u8 (by omega) ?_ | refine acell rfl ?_ | refine acellA ?_ | refine hload H (k := 0) rfl rfl ?_ | refine hloadA H (k := 0) rfl ?_ | refine hload H (k := 1) rfl rfl ?_ | refine hloadA H (k := 1) rfl ?_ | refine hload H (k := 2) rfl rfl ?_ | refine hloadA H (k := 2) rfl ?_ | refine hload H (k := 3) rfl rfl ?_ | refine hloadA H (k := 3) rfl ?_ | refine hload H (k := 4) rfl rfl ?_ | refine hloadA H (k := 4) rfl ?_ | refine hload H (k := 5) rfl rfl ?_ | refine hloadA H (k := 5) rfl ?_ | refine hload H (k := 6) rfl rfl ?_ | refine hloadA H (k := 6) rfl ?_ | refine hload H (k := 7) rfl rfl ?_ | refine hloadA H (k := 7) rfl ?_ | refine hload H (k := 8) rfl rfl ?_ | refine hloadA H (k := 8) rfl ?_ | refine hload H (k := 9) rfl rfl ?_ | refine hloadA H (k := 9) rfl ?_ | (refine hstore H (k := 0) rfl rfl ?_; (conv => whnf); clear H; intro τ H) | (refine hstore H (k := 1) rfl rfl ?_; (conv => whnf); clear H; intro τ H) | (refine hstore H (k := 2) rfl rfl ?_; (conv => whnf); clear H; intro τ H) | (refine hstore H (k := 3) rfl rfl ?_; (conv => whnf); clear H; intro τ H) | (refine hstore H (k := 4) rfl rfl ?_; (conv => whnf); clear H; intro τ H) | (refine hstore H (k := 5) rfl rfl ?_; (conv => whnf); clear H; intro τ H) | (refine hstore H (k := 6) rfl rfl ?_; (conv => whnf); clear H; intro τ H) | (refine hstore H (k := 7) rfl rfl ?_; (conv => whnf); clear H; intro τ H) | (refine hstore H (k := 8) rfl rfl ?_; (conv => whnf); clear H; intro τ H) | (refine hstore H (k := 9) rfl rfl ?_; (conv => whnf); clear H; intro τ H) | rw [List.length_map]); ((conv => whnf); (repeat ((first | with_reducible refine abr_true rfl ?_ | with_reducible refine abr_false rfl ?_ | with_reducible refine abr_yes rfl ?_ | refine abr_yes (by decide) ?_ | refine abr_no (by decide) ?_ | with_reducible refine abr_same_ne ?_); (conv => whnf))))))
          exact aret_st (l := []) H.sub ⟨by rw [hD]; rfl, rfl⟩
      · rw [if_neg (show ¬ (x.drop k).any id = true from fun h => by
          obtain ⟨j, h1, h2, h3⟩ := any_drop.1 h
          rw [hz j h1 (by omega)] at h3; cases h3)] at hD
        ((conv => whnf); (repeat ((first | with_reducible refine abr_true rfl ?_ | with_reducible refine abr_false rfl ?_ | with_reducible refine abr_yes rfl ?_ | refine abr_yes (by decide) ?_ | refine abr_no (by decide) ?_ | with_reducible refine abr_same_ne ?_); (conv => whnf))))
        (repeat ((first | refine afit_i64 (by omega) ?_ | refine arem_nonneg (by omega) (by omega) ?_ | refine adiv_i64 (by omega) (by omega) ?_ | refine abr_yes (by omega) ?_ | refine abr_no (by omega) ?_ | refine amin ?_ | refine amax ?_ | refine afit_u64 (by omega) ?_ | refine afit_u8 (by omega) ?_ | refine acell rfl ?_ | refine acellA ?_ | refine hload H (k := 0) rfl rfl ?_ | refine hloadA H (k := 0) rfl ?_ | refine hload H (k := 1) rfl rfl ?_ | refine hloadA H (k := 1) rfl ?_ | refine hload H (k := 2) rfl rfl ?_ | refine hloadA H (k := 2) rfl ?_ | refine hload H (k := 3) rfl rfl ?_ | refine hloadA H (k := 3) rfl ?_ | refine hload H (k := 4) rfl rfl ?_ | refine hloadA H (k := 4) rfl ?_ | refine hload H (k := 5) rfl rfl ?_ | refine hloadA H (k := 5) rfl ?_ | refine hload H (k := 6) rfl rfl ?_ | refine hloadA H (k := 6) rfl ?_ | refine hload H (k := 7) rfl rfl ?_ | refine hloadA H (k := 7) rfl ?_ | refine hload H (k := 8) rfl rfl ?_ | refine hloadA H (k := 8) rfl ?_ | refine hload H (k := 9) rfl rfl ?_ | refine hloadA H (k := 9) rfl ?_ | (refine hstore H (k := 0) rfl rfl ?_; (conv => whnf); clear H; intro τ H) | (refine hstore H (k := 1) rfl rfl ?_; (conv => whnf); clear H; intro τ H) | (refine hstore H (k := 2) rfl rfl ?_; (conv => whnf); clear H; intro τ H) | (refine hstore H (k := 3) rfl rfl ?_; (conv => whnf); clear H; intro τ H) | (refine hstore H (k := 4) rfl rfl ?_; (conv => whnf); clear H; intro τ H) | (refine hstore H (k := 5) rfl rfl ?_; (conv => whnf); clear H; intro τ H) | (refine hstore H (k := 6) rfl rfl ?_; (conv => whnf); clear H; intro τ H) | (refine hstore H (k := 7) rfl rfl ?_; (conv => whnf); clear H; intro τ H) | (refine hstore H (k := 8) rfl rfl ?_; (conv => whnf); clear H; intro τ H) | (refine hstore H (k := 9) rfl rfl ?_; (conv => whnf); clear H; intro τ H) | rw [List.length_map]); ((conv => whnf); (repeat ((first | with_reducible refine abr_true rfl ?_ | with_reducible refine abr_false rfl ?_ | with_reducible refine abr_yes rfl ?_ | refine abr_yes (by decide) ?_ | refine abr_no (by decide) ?_ | with_reducible refine abr_same_ne ?_); (conv => whnf))))))
        exact aret_st H.sub ⟨by rw [hD]; rfl, rfl⟩
    · have hS : dMs n x (f + 1) ms k true = if ms.length = 32 then ([], 2) else if (dMiss n (offW n) x k).2.2.2 = false then ([], 8) else if missOk n (dMiss n (offW n) x k).1 = false then ([], 3)
          else dMs n x f (ms ++ [(dMiss n (offW n) x k).1]) (dMiss n (offW n) x k).2.2.1 (dMiss n (offW n) x k).2.1 := rfl
      rw [hS] at hD
      ((conv => whnf); (repeat ((first | with_reducible refine abr_true rfl ?_ | with_reducible refine abr_false rfl ?_ | with_reducible refine abr_yes rfl ?_ | refine abr_yes (by decide) ?_ | refine abr_no (by decide) ?_ | with_reducible refine abr_same_ne ?_); (conv => whnf))))
      (repeat ((first | refine afit_i64 (by omega) ?_ | refine arem_nonneg (by omega) (by omega) ?_ | refine adiv_i64 (by omega) (by omega) ?_ | refine abr_yes (by omega) ?_ | refine abr_no (by omega) ?_ | refine amin ?_ | refine amax ?_ | refine afit_u64 (by omega) ?_ | refine afit_u8 (by omega) ?_ | refine acell rfl ?_ | refine acellA ?_ | refine hload H (k := 0) rfl rfl ?_ | refine hloadA H (k := 0) rfl ?_ | refine hload H (k := 1) rfl rfl ?_ | refine hloadA H (k := 1) rfl ?_ | refine hload H (k := 2) rfl rfl ?_ | refine hloadA H (k := 2) rfl ?_ | refine hload H (k := 3) rfl rfl ?_ | refine hloadA H (k := 3) rfl ?_ | refine hload H (k := 4) rfl rfl ?_ | refine hloadA H (k := 4) rfl ?_ | refine hload H (k := 5) rfl rfl ?_ | refine hloadA H (k := 5) rfl ?_ | refine hload H (k := 6) rfl rfl ?_ | refine hloadA H (k := 6) rfl ?_ | refine hload H (k := 7) rfl rfl ?_ | refine hloadA H (k := 7) rfl ?_ | refine hload H (k := 8) rfl rfl ?_ | refine hloadA H (k := 8) rfl ?_ | refine hload H (k := 9) rfl rfl ?_ | refine hloadA H (k := 9) rfl ?_ | (refine hstore H (k := 0) rfl rfl ?_; (conv => whnf); clear H; intro τ H) | (refine hstore H (k := 1) rfl rfl ?_; (conv => whnf); clear H; intro τ H) | (refine hstore H (k := 2) rfl rfl ?_; (conv => whnf); clear H; intro τ H) | (refine hstore H (k := 3) rfl rfl ?_; (conv => whnf); clear H; intro τ H) | (refine hstore H (k := 4) rfl rfl ?_; (conv => whnf); clear H; intro τ H) | (refine hstore H (k := 5) rfl rfl ?_; (conv => whnf); clear H; intro τ H) | (refine hstore H (k := 6) rfl rfl ?_; (conv => whnf); clear H; intro τ H) | (refine hstore H (k := 7) rfl rfl ?_; (conv => whnf); clear H; intro τ H) | (refine hstore H (k := 8) rfl rfl ?_; (conv => whnf); clear H; intro τ H) | (refine hstore H (k := 9) rfl rfl ?_; (conv => whnf); clear H; intro τ H) | rw [List.length_map]); ((conv => whnf); (repeat ((first | with_reducible refine abr_true rfl ?_ | with_reducible refine abr_false rfl ?_ | with_reducible refine abr_yes rfl ?_ | refine abr_yes (by decide) ?_ | refine abr_no (by decide) ?_ | with_reducible refine abr_same_ne ?_); (conv => whnf))))))
      by_cases c6 : ms.length = 32
      · rw [if_pos c6] at hD
        (repeat ((first | refine afit_i64 (by omega) ?_ | refine arem_nonneg (by omega) (by omega) ?_ | refine adiv_i64 (by omega) (by omega) ?_ | refine abr_yes (by omega) ?_ | refine abr_no (by omega) ?_ | refine amin ?_ | refine amax ?_ | refine afit_u64 (by omega) ?_ | refine afit_u8 (by omega) ?_ | refine acell rfl ?_ | refine acellA ?_ | refine hload H (k := 0) rfl rfl ?_ | refine hloadA H (k := 0) rfl ?_ | refine hload H (k := 1) rfl rfl ?_ | refine hloadA H (k := 1) rfl ?_ | refine hload H (k := 2) rfl rfl ?_ | refine hloadA H (k := 2) rfl ?_ | refine hload H (k := 3) rfl rfl ?_ | refine hloadA H (k := 3) rfl ?_ | refine hload H (k := 4) rfl rfl ?_ | refine hloadA H (k := 4) rfl ?_ | refine hload H (k := 5) rfl rfl ?_ | refine hloadA H (k := 5) rfl ?_ | refine hload H (k := 6) rfl rfl ?_ | refine hloadA H (k := 6) rfl ?_ | refine hload H (k := 7) rfl rfl ?_ | refine hloadA H (k := 7) rfl ?_ | refine hload H (k := 8) rfl rfl ?_ | refine hloadA H (k := 8) rfl ?_ | refine hload H (k := 9) rfl rfl ?_ | refine hloadA H (k := 9) rfl ?_ | (refine hstore H (k := 0) rfl rfl ?_; (conv => whnf); clear H; intro τ H) | (refine hstore H (k := 1) rfl rfl ?_; (conv => whnf); clear H; intro τ H) | (refine hstore H (k := 2) rfl rfl ?_; (conv => whnf); clear H; intro τ H) | (refine hstore H (k := 3) rfl rfl ?_; (conv => whnf); clear H; intro τ H) | (refine hstore H (k := 4) rfl rfl ?_; (conv => whnf); clear H; intro τ H) | (refine hstore H (k := 5) rfl rfl ?_; (conv => whnf); clear H; intro τ H) | (refine hstore H (k := 6) rfl rfl ?_; (conv => whnf); clear H; intro τ H) | (refine hstore H (k := 7) rfl rfl ?_; (conv => whnf); clear H; intro τ H) | (refine hstore H (k := 8) rfl rfl ?_; (conv => whnf); clear H; intro τ H) | (refine hstore H (k := 9) rfl rfl ?_; (conv => whnf); clear H; intro τ H) | rw [List.length_map]); ((conv => whnf); (repeat ((first | with_reducible refine abr_true rfl ?_ | with_reducible refine abr_false rfl ?_ | with_reducible refine abr_yes rfl ?_ | refine abr_yes (by decide) ?_ | refine abr_no (by decide) ?_ | with_reducible refine abr_same_ne ?_); (conv => whnf))))))
        exact aret_st (l := []) H.sub ⟨by rw [hD]; rfl, rfl⟩
      rw [if_neg c6] at hD
      (repeat ((first | refine afit_i64 (by omega) ?_ | refine arem_nonneg (by omega) (by omega) ?_ | refine adiv_i64 (by omega) (by omega) ?_ | refine abr_yes (by omega) ?_ | refine abr_no (by omega) ?_ | refine amin ?_ | refine amax ?_ | refine afit_u64 (by omega) ?_ | refine afit_u8 (by omega) ?_ | refine acell rfl ?_ | refine acellA ?_ | refine hload H (k := 0) rfl rfl ?_ | refine hloadA H (k := 0) rfl ?_ | refine hload H (k := 1) rfl rfl ?_ | refine hloadA H (k := 1) rfl ?_ | refine hload H (k := 2) rfl rfl ?_ | refine hloadA H (k := 2) rfl ?_ | refine hload H (k := 3) rfl rfl ?_ | refine hloadA H (k := 3) rfl ?_ | refine hload H (k := 4) rfl rfl ?_ | refine hloadA H (k := 4) rfl ?_ | refine hload H (k := 5) rfl rfl ?_ | refine hloadA H (k := 5) rfl ?_ | refine hload H (k := 6) rfl rfl ?_ | refine hloadA H (k := 6) rfl ?_ | refine hload H (k := 7) rfl rfl ?_ | refine hloadA H (k := 7) rfl ?_ | refine hload H (k := 8) rfl rfl ?_ | refine hloadA H (k := 8) rfl ?_ | refine hload H (k := 9) rfl rfl ?_ | refine hloadA H (k := 9) rfl ?_ | (refine hstore H (k := 0) rfl rfl ?_; (conv => whnf); clear H; intro τ H) | (refine hstore H (k := 1) rfl rfl ?_; (conv => whnf); clear H; intro τ H) | (refine hstore H (k := 2) rfl rfl ?_; (conv => whnf); clear H; intro τ H) | (refine hstore H (k := 3) rfl rfl ?_; (conv => whnf); clear H; intro τ H) | (refine hstore H (k := 4) rfl rfl ?_; (conv => whnf); clear H; intro τ H) | (refine hstore H (k := 5) rfl rfl ?_; (conv => whnf); clear H; intro τ H) | (refine hstore H (k := 6) rfl rfl ?_; (conv => whnf); clear H; intro τ H) | (refine hstore H (k := 7) rfl rfl ?_; (conv => whnf); clear H; intro τ H) | (refine hstore H (k := 8) rfl rfl ?_; (conv => whnf); clear H; intro τ H) | (refine hstore H (k := 9) rfl rfl ?_; (conv => whnf); clear H; intro τ H) | rw [List.length_map]); ((conv => whnf); (repeat ((first | with_reducible refine abr_true rfl ?_ | with_reducible refine abr_false rfl ?_ | with_reducible refine abr_yes rfl ?_ | refine abr_yes (by decide) ?_ | refine abr_no (by decide) ?_ | with_reducible refine abr_same_ne ?_); (conv => whnf))))))
      refine acall (refMiss x .none k n τ hw hk (by omega)) ?_
      rintro _ σ_ ⟨rfl, e_⟩
      obtain rfl := e_.symm
      refine ⟨?_, Ext.refl _⟩
      ((conv => whnf); (repeat ((first | with_reducible refine abr_true rfl ?_ | with_reducible refine abr_false rfl ?_ | with_reducible refine abr_yes rfl ?_ | refine abr_yes (by decide) ?_ | refine abr_no (by decide) ?_ | with_reducible refine abr_same_ne ?_); (conv => whnf))))
      have hat := dMiss_at (n := n) (m := offW n) hk
      generalize dMiss n (offW n) x k = r at *
      obtain ⟨m, another, k', ok⟩ := r
      dsimp only at hat hD ⊢
      ((conv => whnf); (repeat ((first | with_reducible refine abr_true rfl ?_ | with_reducible refine abr_false rfl ?_ | with_reducible refine abr_yes rfl ?_ | refine abr_yes (by decide) ?_ | refine abr_no (by decide) ?_ | with_reducible refine abr_same_ne ?_); (conv => whnf))))
      refine hnew H rfl ?_
      clear H
      intro i12 τ H
      ((conv => whnf); (repeat ((first | with_reducible refine abr_true rfl ?_ | with_reducible refine abr_false rfl ?_ | with_reducible refine abr_yes rfl ?_ | refine abr_yes (by decide) ?_ | refine abr_no (by decide) ?_ | with_reducible refine abr_same_ne ?_); (conv => whnf))))
      (repeat ((first | refine afit_i64 (by omega) ?_ | refine arem_nonneg (by omega) (by omega) ?_ | refine adiv_i64 (by omega) (by omega) ?_ | refine abr_yes (by omega) ?_ | refine abr_no (by omega) ?_ | refine amin ?_ | refine amax ?_ | refine afit_u64 (by omega) ?_ | refine afit_u8 (by omega) ?_ | refine acell rfl ?_ | refine acellA ?_ | refine hload H (k := 0) rfl rfl ?_ | refine hloadA H (k := 0) rfl ?_ | refine hload H (k := 1) rfl rfl ?_ | refine hloadA H (k := 1) rfl ?_ | refine hload H (k := 2) rfl rfl ?_ | refine hloadA H (k := 2) rfl ?_ | refine hload H (k := 3) rfl rfl ?_ | refine hloadA H (k := 3) rfl ?_ | refine hload H (k := 4) rfl rfl ?_ | refine hloadA H (k := 4) rfl ?_ | refine hload H (k := 5) rfl rfl ?_ | refine hloadA H (k := 5) rfl ?_ | refine hload H (k := 6) rfl rfl ?_ | refine hloadA H (k := 6) rfl ?_ | refine hload H (k := 7) rfl rfl ?_ | refine hloadA H (k := 7) rfl ?_ | refine hload H (k := 8) rfl rfl ?_ | refine hloadA H (k := 8) rfl ?_ | refine hload H (k := 9) rfl rfl ?_ | refine hloadA H (k := 9) rfl ?_ | (refine hstore H (k := 0) rfl rfl ?_; (conv => whnf); clear H; intro τ H) | (refine hstore H (k := 1) rfl rfl ?_; (conv => whnf); clear H; intro τ H) | (refine hstore H (k := 2) rfl rfl ?_; (conv => whnf); clear H; intro τ H) | (refine hstore H (k := 3) rfl rfl ?_; (conv => whnf); clear H; intro τ H) | (refine hstore H (k := 4) rfl rfl ?_; (conv => whnf); clear H; intro τ H) | (refine hstore H (k := 5) rfl rfl ?_; (conv => whnf); clear H; intro τ H) | (refine hstore H (k := 6) rfl rfl ?_; (conv => whnf); clear H; intro τ H) | (refine hstore H (k := 7) rfl rfl ?_; (conv => whnf); clear H; intro τ H) | (refine hstore H (k := 8) rfl rfl ?_; (conv => whnf); clear H; intro τ H) | (refine hstore H (k := 9) rfl rfl ?_; (conv => whnf); clear H; intro τ H) | rw [List.length_map]); ((conv => whnf); (repeat ((first | with_reducible refine abr_true rfl ?_ | with_reducible refine abr_false rfl ?_ | with_reducible refine abr_yes rfl ?_ | refine abr_yes (by decide) ?_ | refine abr_no (by decide) ?_ | with_reducible refine abr_same_ne ?_); (conv => whnf))))))
      cases ok
      · rw [if_pos rfl] at hD
        ((conv => whnf); (repeat ((first | with_reducible refine abr_true rfl ?_ | with_reducible refine abr_false rfl ?_ | with_reducible refine abr_yes rfl ?_ | refine abr_yes (by decide) ?_ | refine abr_no (by decide) ?_ | with_reducible refine abr_same_ne ?_); (conv => whnf))))
        (repeat ((first | refine afit_i64 (by omega) ?_ | refine arem_nonneg (by omega) (by omega) ?_ | refine adiv_i64 (by omega) (by omega) ?_ | refine abr_yes (by omega) ?_ | refine abr_no (by omega) ?_ | refine amin ?_ | refine amax ?_ | refine afit_u64 (by omega) ?_ | refine afit_u8 (by omega) ?_ | refine acell rfl ?_ | refine acellA ?_ | refine hload H (k := 0) rfl rfl ?_ | refine hloadA H (k := 0) rfl ?_ | refine hload H (k := 1) rfl rfl ?_ | refine hloadA H (k := 1) rfl ?_ | refine hload H (k := 2) rfl rfl ?_ | refine hloadA H (k := 2) rfl ?_ | refine hload H (k := 3) rfl rfl ?_ | refine hloadA H (k := 3) rfl ?_ | refine hload H (k := 4) rfl rfl ?_ | refine hloadA H (k := 4) rfl ?_ | refine hload H (k := 5) rfl rfl ?_ | refine hloadA H (k := 5) rfl ?_ | refine hload H (k := 6) rfl rfl ?_ | refine hloadA H (k := 6) rfl ?_ | refine hload H (k := 7) rfl rfl ?_ | refine hloadA H (k := 7) rfl ?_ | refine hload H (k := 8) rfl rfl ?_ | refine hloadA H (k := 8) rfl ?_ | refine hload H (k := 9) rfl rfl ?_ | refine hloadA H (k := 9) rfl ?_ | (refine hstore H (k := 0) rfl rfl ?_; (conv => whnf); clear H; intro τ H) | (refine hstore H (k := 1) rfl rfl ?_; (conv => whnf); clear H; intro τ H) | (refine hstore H (k := 2) rfl rfl ?_; (conv => whnf); clear H; intro τ H) | (refine hstore H (k := 3) rfl rfl ?_; (conv => whnf); clear H; intro τ H) | (refine hstore H (k := 4) rfl rfl ?_; (conv => whnf); clear H; intro τ H) | (refine hstore H (k := 5) rfl rfl ?_; (conv => whnf); clear H; intro τ H) | (refine hstore H (k := 6) rfl rfl ?_; (conv => whnf); clear H; intro τ H) | (refine hstore H (k := 7) rfl rfl ?_; (conv => whnf); clear H; intro τ H) | (refine hstore H (k := 8) rfl rfl ?_; (conv => whnf); clear H; intro τ H) | (refine hstore H (k := 9) rfl rfl ?_; (conv => whnf); clear H; intro τ H) | rw [List.length_map]); ((conv => whnf); (repeat ((first | with_reducible refine abr_true rfl ?_ | with_reducible refine abr_false rfl ?_ | with_reducible refine abr_yes rfl ?_ | refine abr_yes (by decide) ?_ | refine abr_no (by decide) ?_ | with_reducible refine abr_same_ne ?_); (conv => whnf))))))
        exact aret_st (l := []) H.sub ⟨by rw [hD]; rfl, rfl⟩
      rw [if_neg (show ¬ true = false by decide)] at hD
      ((conv => whnf); (repeat ((first | with_reducible refine abr_true rfl ?_ | with_reducible refine abr_false rfl ?_ | with_reducible refine abr_yes rfl ?_ | refine abr_yes (by decide) ?_ | refine abr_no (by decide) ?_ | with_reducible refine abr_same_ne ?_); (conv => whnf))))
      (repeat ((first | refine afit_i64 (by omega) ?_ | refine arem_nonneg (by omega) (by omega) ?_ | refine adiv_i64 (by omega) (by omega) ?_ | refine abr_yes (by omega) ?_ | refine abr_no (by omega) ?_ | refine amin ?_ | refine amax ?_ | refine afit_u64 (by omega) ?_ | refine afit_u8 (by omega) ?_ | refine acell rfl ?_ | refine acellA ?_ | refine hload H (k := 0) rfl rfl ?_ | refine hloadA H (k := 0) rfl ?_ | refine hload H (k := 1) rfl rfl ?_ | refine hloadA H (k := 1) rfl ?_ | refine hload H (k := 2) rfl rfl ?_ | refine hloadA H (k := 2) rfl ?_ | refine hload H (k := 3) rfl rfl ?_ | refine hloadA H (k := 3) rfl ?_ | refine hload H (k := 4) rfl rfl ?_ | refine hloadA H (k := 4) rfl ?_ | refine hload H (k := 5) rfl rfl ?_ | refine hloadA H (k := 5) rfl ?_ | refine hload H (k := 6) rfl rfl ?_ | refine hloadA H (k := 6) rfl ?_ | refine hload H (k := 7) rfl rfl ?_ | refine hloadA H (k := 7) rfl ?_ | refine hload H (k := 8) rfl rfl ?_ | refine hloadA H (k := 8) rfl ?_ | refine hload H (k := 9) rfl rfl ?_ | refine hloadA H (k := 9) rfl ?_ | (refine hstore H (k := 0) rfl rfl ?_; (conv => whnf); clear H; intro τ H) | (refine hstore H (k := 1) rfl rfl ?_; (conv => whnf); clear H; intro τ H) | (refine hstore H (k := 2) rfl rfl ?_; (conv => whnf); clear H; intro τ H) | (refine hstore H (k := 3) rfl rfl ?_; (conv => whnf); clear H; intro τ H) | (refine hstore H (k := 4) rfl rfl ?_; (conv => whnf); clear H; intro τ H) | (refine hstore H (k := 5) rfl rfl ?_; (conv => whnf); clear H; intro τ H) | (refine hstore H (k := 6) rfl rfl ?_; (conv => whnf); clear H; intro τ H) | (refine hstore H (k := 7) rfl rfl ?_; (conv => whnf); clear H; intro τ H) | (refine hstore H (k := 8) rfl rfl ?_; (conv => whnf); clear H; intro τ H) | (refine hstore H (k := 9) rfl rfl ?_; (conv => whnf); clear H; intro τ H) | rw [List.length_map]); ((conv => whnf); (repeat ((first | with_reducible refine abr_true rfl ?_ | with_reducible refine abr_false rfl ?_ | with_reducible refine abr_yes rfl ?_ | refine abr_yes (by decide) ?_ | refine abr_no (by decide) ?_ | with_reducible refine abr_same_ne ?_); (conv => whnf))))))
      refine acall (refIsMiss m n τ) ?_
      rintro _ σ_ ⟨rfl, e_⟩
      obtain rfl := e_.symm
      refine ⟨?_, Ext.refl _⟩
      ((conv => whnf); (repeat ((first | with_reducible refine abr_true rfl ?_ | with_reducible refine abr_false rfl ?_ | with_reducible refine abr_yes rfl ?_ | refine abr_yes (by decide) ?_ | refine abr_no (by decide) ?_ | with_reducible refine abr_same_ne ?_); (conv => whnf))))
      cases hm : missOk n m
      · rw [hm, if_pos rfl] at hD
        ((conv => whnf); (repeat ((first | with_reducible refine abr_true rfl ?_ | with_reducible refine abr_false rfl ?_ | with_reducible refine abr_yes rfl ?_ | refine abr_yes (by decide) ?_ | refine abr_no (by decide) ?_ | with_reducible refine abr_same_ne ?_); (conv => whnf))))
        (repeat ((first | refine afit_i64 (by omega) ?_ | refine arem_nonneg (by omega) (by omega) ?_ | refine adiv_i64 (by omega) (by omega) ?_ | refine abr_yes (by omega) ?_ | refine abr_no (by omega) ?_ | refine amin ?_ | refine amax ?_ | refine afit_u64 (by omega) ?_ | refine afit_u8 (by omega) ?_ | refine acell rfl ?_ | refine acellA ?_ | refine hload H (k := 0) rfl rfl ?_ | refine hloadA H (k := 0) rfl ?_ | refine hload H (k := 1) rfl rfl ?_ | refine hloadA H (k := 1) rfl ?_ | refine hload H (k := 2) rfl rfl ?_ | refine hloadA H (k := 2) rfl ?_ | refine hload H (k := 3) rfl rfl ?_ | refine hloadA H (k := 3) rfl ?_ | refine hload H (k := 4) rfl rfl ?_ | refine hloadA H (k := 4) rfl ?_ | refine hload H (k := 5) rfl rfl ?_ | refine hloadA H (k := 5) rfl ?_ | refine hload H (k := 6) rfl rfl ?_ | refine hloadA H (k := 6) rfl ?_ | refine hload H (k := 7) rfl rfl ?_ | refine hloadA H (k := 7) rfl ?_ | refine hload H (k := 8) rfl rfl ?_ | refine hloadA H (k := 8) rfl ?_ | refine hload H (k := 9) rfl rfl ?_ | refine hloadA H (k := 9) rfl ?_ | (refine hstore H (k := 0) rfl rfl ?_; (conv => whnf); clear H; intro τ H) | (refine hstore H (k := 1) rfl rfl ?_; (conv => whnf); clear H; intro τ H) | (refine hstore H (k := 2) rfl rfl ?_; (conv => whnf); clear H; intro τ H) | (refine hstore H (k := 3) rfl rfl ?_; (conv => whnf); clear H; intro τ H) | (refine hstore H (k := 4) rfl rfl ?_; (conv => whnf); clear H; intro τ H) | (refine hstore H (k := 5) rfl rfl ?_; (conv => whnf); clear H; intro τ H) | (refine hstore H (k := 6) rfl rfl ?_; (conv => whnf); clear H; intro τ H) | (refine hstore H (k := 7) rfl rfl ?_; (conv => whnf); clear H; intro τ H) | (refine hstore H (k := 8) rfl rfl ?_; (conv => whnf); clear H; intro τ H) | (refine hstore H (k := 9) rfl rfl ?_; (conv => whnf); clear H; intro τ H) | rw [List.length_map]); ((conv => whnf); (repeat ((first | with_reducible refine abr_true rfl ?_ | with_reducible refine abr_false rfl ?_ | with_reducible refine abr_yes rfl ?_ | refine abr_yes (by decide) ?_ | refine abr_no (by decide) ?_ | with_reducible refine abr_same_ne ?_); (conv => whnf))))))
        exact aret_st (l := []) H.sub ⟨by rw [hD]; rfl, rfl⟩
      rw [hm, if_neg (show ¬ true = false by decide)] at hD
      ((conv => whnf); (repeat ((first | with_reducible refine abr_true rfl ?_ | with_reducible refine abr_false rfl ?_ | with_reducible refine abr_yes rfl ?_ | refine abr_yes (by decide) ?_ | refine abr_no (by decide) ?_ | with_reducible refine abr_same_ne ?_); (conv => whnf))))
      (repeat ((first | refine afit_i64 (by omega) ?_ | refine arem_nonneg (by omega) (by omega) ?_ | refine adiv_i64 (by omega) (by omega) ?_ | refine abr_yes (by omega) ?_ | refine abr_no (by omega) ?_ | refine amin ?_ | refine amax ?_ | refine afit_u64 (by omega) ?_ | refine afit_u8 (by omega) ?_ | refine acell rfl ?_ | refine acellA ?_ | refine hload H (k := 0) rfl rfl ?_ | refine hloadA H (k := 0) rfl ?_ | refine hload H (k := 1) rfl rfl ?_ | refine hloadA H (k := 1) rfl ?_ | refine hload H (k := 2) rfl rfl ?_ | refine hloadA H (k := 2) rfl ?_ | refine hload H (k := 3) rfl rfl ?_ | refine hloadA H (k := 3) rfl ?_ | refine hload H (k := 4) rfl rfl ?_ | refine hloadA H (k := 4) rfl ?_ | refine hload H (k := 5) rfl rfl ?_ | refine hloadA H (k := 5) rfl ?_ | refine hload H (k := 6) rfl rfl ?_ | refine hloadA H (k := 6) rfl ?_ | refine hload H (k := 7) rfl rfl ?_ | refine hloadA H (k := 7) rfl ?_ | refine hload H (k := 8) rfl rfl ?_ | refine hloadA H (k := 8) rfl ?_ | refine hload H (k := 9) rfl rfl ?_ | refine hloadA H (k := 9) rfl ?_ | (refine hstore H (k := 0) rfl rfl ?_; (conv => whnf); clear H; intro τ H) | (refine hstore H (k := 1) rfl rfl ?_; (conv => whnf); clear H; intro τ H) | (refine hstore H (k := 2) rfl rfl ?_; (conv => whnf); clear H; intro τ H) | (refine hstore H (k := 3) rfl rfl ?_; (conv => whnf); clear H; intro τ H) | (refine hstore H (k := 4) rfl rfl ?_; (conv => whnf); clear H; intro τ H) | (refine hstore H (k := 5) rfl rfl ?_; (conv => whnf); clear H; intro τ H) | (refine hstore H (k := 6) rfl rfl ?_; (conv => whnf); clear H; intro τ H) | (refine hstore H (k := 7) rfl rfl ?_; (conv => whnf); clear H; intro τ H) | (refine hstore H (k := 8) rfl rfl ?_; (conv => whnf); clear H; intro τ H) | (refine hstore H (k := 9) rfl rfl ?_; (conv => whnf); clear H; intro τ H) | rw [List.length_map]); ((conv => whnf); (repeat ((first | with_reducible refine abr_true rfl ?_ | with_reducible refine abr_false rfl ?_ | with_reducible refine abr_yes rfl ?_ | refine abr_yes (by decide) ?_ | refine abr_no (by decide) ?_ | with_reducible refine abr_same_ne ?_); (conv => whnf))))))
      (first | refine happ H (k := 0) rfl (by rw [List.length_map]; show (_ + 1) * 32 ≤ _; omega) ?_ | refine happ H (k := 1) rfl (by rw [List.length_map]; show (_ + 1) * 32 ≤ _; omega) ?_ | refine happ H (k := 2) rfl (by rw [List.length_map]; show (_ + 1) * 32 ≤ _; omega) ?_ | refine happ H (k := 3) rfl (by rw [List.length_map]; show (_ + 1) * 32 ≤ _; omega) ?_ | refine happ H (k := 4) rfl (by rw [List.length_map]; show (_ + 1) * 32 ≤ _; omega) ?_ | refine happ H (k := 5) rfl (by rw [List.length_map]; show (_ + 1) * 32 ≤ _; omega) ?_ | refine happ H (k := 6) rfl (by rw [List.length_map]; show (_ + 1) * 32 ≤ _; omega) ?_ | refine happ H (k := 7) rfl (by rw [List.length_map]; show (_ + 1) * 32 ≤ _; omega) ?_ | refine happ H (k := 8) rfl (by rw [List.length_map]; show (_ + 1) * 32 ≤ _; omega) ?_ | refine happ H (k := 9) rfl (by rw [List.length_map]; show (_ + 1) * 32 ≤ _; omega) ?_)
      intro tk2
      (conv => whnf)
      clear H
      intro τ H
      ((conv => whnf); (repeat ((first | with_reducible refine abr_true rfl ?_ | with_reducible refine abr_false rfl ?_ | with_reducible refine abr_yes rfl ?_ | refine abr_yes (by decide) ?_ | refine abr_no (by decide) ?_ | with_reducible refine abr_same_ne ?_); (conv => whnf))))
      rw [show [AVal.agg [i64v m.1, boolv m.2.1, i64v m.2.2.1, i64v m.2.2.2]] = [msV m] from rfl, ms_snoc] 
      (repeat ((first | refine afit_i64 (by omega) ?_ | refine arem_nonneg (by omega) (by omega) ?_ | refine adiv_i64 (by omega) (by omega) ?_ | refine abr_yes (by omega) ?_ | refine abr_no (by omega) ?_ | refine amin ?_ | refine amax ?_ | refine afit_u64 (by omega) ?_ | refine afit_u8 (by omega) ?_ | refine acell rfl ?_ | refine acellA ?_ | refine hload H (k := 0) rfl rfl ?_ | refine hloadA H (k := 0) rfl ?_ | refine hload H (k := 1) rfl rfl ?_ | refine hloadA H (k := 1) rfl ?_ | refine hload H (k := 2) rfl rfl ?_ | refine hloadA H (k := 2) rfl ?_ | refine hload H (k := 3) rfl rfl ?_ | refine hloadA H (k := 3) rfl ?_ | refine hload H (k := 4) rfl rfl ?_ | refine hloadA H (k := 4) rfl ?_ | refine hload H (k := 5) rfl rfl ?_ | refine hloadA H (k := 5) rfl ?_ | refine hload H (k := 6) rfl rfl ?_ | refine hloadA H (k := 6) rfl ?_ | refine hload H (k := 7) rfl rfl ?_ | refine hloadA H (k := 7) rfl ?_ | refine hload H (k := 8) rfl rfl ?_ | refine hloadA H (k := 8) rfl ?_ | refine hload H (k := 9) rfl rfl ?_ | refine hloadA H (k := 9) rfl ?_ | (refine hstore H (k := 0) rfl rfl ?_; (conv => whnf); clear H; intro τ H) | (refine hstore H (k := 1) rfl rfl ?_; (conv => whnf); clear H; intro τ H) | (refine hstore H (k := 2) rfl rfl ?_; (conv => whnf); clear H; intro τ H) | (refine hstore H (k := 3) rfl rfl ?_; (conv => whnf); clear H; intro τ H) | (refine hstore H (k := 4) rfl rfl ?_; (conv => whnf); clear H; intro τ H) | (refine hstore H (k := 5) rfl rfl ?_; (conv => whnf); clear H; intro τ H) | (refine hstore H (k := 6) rfl rfl ?_; (conv => whnf); clear H; intro τ H) | (refine hstore H (k := 7) rfl rfl ?_; (conv => whnf); clear H; intro τ H) | (refine hstore H (k := 8) rfl rfl ?_; (conv => whnf); clear H; intro τ H) | (refine hstore H (k := 9) rfl rfl ?_; (conv => whnf); clear H; intro τ H) | rw [List.length_map]); ((conv => whnf); (repeat ((first | with_reducible refine abr_true rfl ?_ | with_reducible refine abr_false rfl ?_ | with_reducible refine abr_yes rfl ?_ | refine abr_yes (by decide) ?_ | refine abr_no (by decide) ?_ | with_reducible refine abr_same_ne ?_); (conv => whnf))))))
      obtain ⟨f, rfl⟩ : ∃ g, f = g + 1 := ⟨f - 1, by omega⟩
      refine ⟨(f, ms ++ [m], k', another, tk2, τ), ⟨by rw [List.length_append, List.length_singleton]; omega, hat, H.tail, hD⟩, by dsimp only; omega, Sub.refl _, ?_⟩
      ((conv => whnf); (repeat ((first | with_reducible refine abr_true rfl ?_ | with_reducible refine abr_false rfl ?_ | with_reducible refine abr_yes rfl ?_ | refine abr_yes (by decide) ?_ | refine abr_no (by decide) ?_ | with_reducible refine abr_same_ne ?_); (conv => whnf))))
      (repeat' first | with_reducible exact EnvLe.refl _ | (refine EnvLe.node ?_ (by first | exact Or.inl rfl | exact Or.inr (Or.inl rfl) | exact Or.inr (Or.inr ⟨nofun, VLe.slice _ _ _⟩)) ?_))
end Go.Proofs.Ytnfdgccmpglbhaa
/-
  What the program reads of bytes is the status that the document reads.
-/
namespace Go.Proofs.Ytnfdgccmpglbhaa
set_option linter.unusedVariables false
set_option linter.unusedSimpArgs false
open Go Go.Am

theorem gNext_ok {len k n : Nat} (h : k + n ≤ len) (hn : n ≤ 64) : gNext len (k, 0) n = (k + n, 0) := by
  unfold gNext gAt gCode; dsimp only; rw [if_pos rfl, if_pos rfl, getAt_fits h hn, getCode_fits h hn]
theorem gNext_short {len k n : Nat} (h : len < k + n) (hn : n ≤ 64) : gNext len (k, 0) n = (k, 8) := by
  unfold gNext gAt gCode; dsimp only
  have hc : getCode len k n = 8 := by unfold getCode; rw [if_neg (by omega), if_pos (by omega)]
  rw [if_pos rfl, if_pos rfl]; unfold getAt; rw [hc, if_neg (by decide)]
theorem gNext_err {len : Nat} {p : Nat × Int} {n : Int} (h : p.2 ≠ 0) : gNext len p n = p := by
  unfold gNext gAt gCode; rw [if_neg h, if_neg h]
theorem gVal_err {x : List Bool} {k : Nat} {e n : Int} (h : e ≠ 0) : gVal x k e n = 0 := by unfold gVal; rw [if_neg h]
theorem gVal_zero {x : List Bool} {k : Nat} {n : Int} : gVal x k 0 n = getVal x k n := if_pos rfl
theorem getVal_one {x : List Bool} {k : Nat} (h : k < x.length) : getVal x k 1 = (bitD x k).toNat := by
  have hc : getCode x.length k 1 = 0 := getCode_fits (n := 1) (by omega) (by omega)
  unfold getVal
  rw [if_pos hc]
  rw [show (1 : Int).toNat = 0 + 1 from rfl, take_snoc (l := x.drop k) (i := 0) (x := bitD x k) (by rw [List.getElem?_drop, Nat.add_zero, List.getElem?_eq_getElem h]; unfold bitD; rw [List.getElem?_eq_getElem h]; rfl)]
  simp [val]
theorem getVal_short {x : List Bool} {k n : Nat} (h : x.length < k + n) (hn : n ≤ 64) : getVal x k n = 0 := by
  have hc : getCode x.length k n = 8 := by unfold getCode; rw [if_neg (by omega), if_pos (by omega)]
  unfold getVal; rw [hc, if_neg (by decide)]
theorem getVal_pow {x : List Bool} {k n : Nat} : getVal x k n < 2 ^ n := by
  unfold getVal
  split
  · refine Nat.lt_of_lt_of_le (val_lt _) (Nat.pow_le_pow_right (by omega) ?_)
    rw [List.length_take, Int.toNat_natCast]; exact Nat.min_le_left ..
  · exact Nat.two_pow_pos _
theorem bit_eq_one {b : Bool} : b.toNat = 1 ↔ b = true := by cases b <;> simp
theorem miss_same {n : Nat} {x : List Bool} {k : Nat} (hn : n ≤ 16) (hk : k ≤ x.length) :
    ((dMiss n (offW n) x k).2.2.2 = true → missEnd n x (k, 0) = ((dMiss n (offW n) x k).2.2.1, 0) ∧ missRead n x (k, 0) = (dMiss n (offW n) x k).1 ∧ missMore n x (k, 0) = (dMiss n (offW n) x k).2.1) ∧
    ((dMiss n (offW n) x k).2.2.2 = false → (missEnd n x (k, 0)).2 = 8) := by
  have hm := offW_le n
  have e1 : ((1 : Nat) : Int) = 1 := rfl
  by_cases c1 : x.length < k + n + 2
  · have hd : dMiss n (offW n) x k = (noMs, false, 0, false) := by unfold dMiss; rw [if_pos c1]
    rw [hd]
    refine ⟨fun h => (by cases h), fun _ => ?_⟩
    unfold missEnd
    dsimp only
    by_cases c2 : k + n ≤ x.length
    · rw [gNext_ok c2 (by omega)]
      by_cases c3 : k + n + 1 ≤ x.length
      · rw [← e1, gNext_ok c3 (by omega), gVal_zero, getVal_short (by omega) (by omega), if_neg (by decide), gNext_short (by omega) (by omega)]
      · rw [← e1, gNext_short (k := k + n) (by omega) (by omega), gVal_err (show (8 : Int) ≠ 0 by decide), if_neg (by decide), gNext_err (p := (k + n, 8)) (show (8 : Int) ≠ 0 by decide)]
    · rw [gNext_short (n := n) (by omega) (by omega), gNext_err (n := 1) (p := (k, 8)) (show (8 : Int) ≠ 0 by decide), gVal_err (show (8 : Int) ≠ 0 by decide), if_neg (by decide), gNext_err (p := (k, 8)) (show (8 : Int) ≠ 0 by decide)]
  have g1 : gNext x.length (k, 0) n = (k + n, 0) := gNext_ok (by omega) (by omega)
  have g2 : gNext x.length (k + n, 0) 1 = (k + n + 1, 0) := gNext_ok (n := 1) (by omega) (by omega)
  have g3 : gNext x.length (k + n + 1, 0) 1 = (k + n + 2, 0) := gNext_ok (n := 1) (by omega) (by omega)
  have v1 : gVal x (k + n) 0 1 = (bitD x (k + n)).toNat := by rw [gVal_zero, getVal_one (by omega)]
  have v2 : gVal x (k + n + 1) 0 1 = (bitD x (k + n + 1)).toNat := by rw [gVal_zero, getVal_one (by omega)]
  have hmo : missMore n x (k, 0) = bitD x (k + n) := by
    unfold missMore; rw [g1]; dsimp only; rw [v1]
    cases bitD x (k + n) <;> rfl
  have hre : missRead n x (k, 0) = if bitD x (k + n + 1) = true then ((getVal x k n : Int), true, (gVal x (k + n + 2) 0 (offW n) : Int), (((gVal x (gNext x.length (k + n + 2, 0) (offW n)).1 (gNext x.length (k + n + 2, 0) (offW n)).2 (offW n) + 1) % 2 ^ offW n : Nat) : Int)) else ((getVal x k n : Int), false, 0, 0) := by
    unfold missRead; dsimp only; rw [g1, g2, g3]; dsimp only; rw [v2, gVal_zero]; simp only [bit_eq_one]
  have hen : missEnd n x (k, 0) = if bitD x (k + n + 1) = true then gNext x.length (gNext x.length (k + n + 2, 0) (offW n)) (offW n) else (k + n + 2, 0) := by
    unfold missEnd; dsimp only; rw [g1, g2, g3]; dsimp only; rw [v2]; simp only [bit_eq_one]
  rw [hmo, hre, hen]
  unfold dMiss
  rw [if_neg c1]
  cases hb : bitD x (k + n + 1)
  · rw [if_neg (show ¬ false = true by decide), if_neg (show ¬ false = true by decide), if_neg (show ¬ false = true by decide)]
    exact ⟨fun _ => ⟨rfl, rfl, rfl⟩, fun h => by cases h⟩
  rw [if_pos rfl, if_pos rfl, if_pos rfl]
  by_cases c2 : x.length < k + n + 2 + 2 * offW n
  · rw [if_pos c2]
    refine ⟨fun h => (by cases h), fun _ => ?_⟩
    by_cases c3 : k + n + 2 + offW n ≤ x.length
    · rw [gNext_ok c3 (by omega), gNext_short (by omega) (by omega)]
    · rw [gNext_short (k := k + n + 2) (by omega) (by omega), gNext_err (p := (k + n + 2, 8)) (show (8 : Int) ≠ 0 by decide)]
  · rw [if_neg c2, gNext_ok (k := k + n + 2) (by omega) (by omega)]
    refine ⟨fun _ => ⟨?_, ?_, rfl⟩, fun h => by cases h⟩
    · rw [gNext_ok (by omega) (by omega)]
      refine Prod.ext ?_ rfl
      show k + n + 2 + offW n + offW n = k + n + 2 + 2 * offW n
      omega
    · dsimp only
      rw [gVal_zero, gVal_zero]
      have hlt := getVal_pow (x := x) (k := k + n + 2 + offW n) (n := offW n)
      refine Prod.ext rfl (Prod.ext rfl (Prod.ext rfl ?_))
      dsimp only
      by_cases c4 : getVal x (k + n + 2 + offW n) (offW n) + 1 = 2 ^ offW n
      · rw [if_pos c4, c4, Nat.mod_self]; rfl
      · rw [if_neg c4, Nat.mod_eq_of_lt (by omega)]
theorem end_same {b : List UInt8} {n : Nat} (ms : List Ms) (k : Nat) (hk : k ≤ (unpack b).length) (f g : Nat) : readMs n b (f + 1) ms (k, 0) false = dMs n (unpack b) (g + 1) ms k false := by
  have hul := unpack_length b
  unfold readMs dMs
  rw [if_neg (show ¬ (0 : Int) ≠ 0 by decide), if_neg (show ¬ false = true by decide), if_neg (show ¬ false = true by decide)]
  dsimp only
  have hd : b.drop ((k + 7) / 8) = [] ↔ ¬ k + 7 < (unpack b).length := by rw [List.drop_eq_nil_iff]; omega
  by_cases c1 : k + 7 < (unpack b).length
  · rw [if_pos c1, if_neg (fun h => hd.1 h.2 c1)]
  · rw [if_neg c1]
    have hr : restOk (unpack b) k = true ↔ ¬ ((unpack b).drop k).any id = true := by
      unfold restOk
      rw [decide_eq_true_iff, val_zero, List.take_of_length_le (by rw [List.length_drop]; unfold pad; omega)]
      rw [List.any_eq_true]
      exact ⟨fun h ⟨y, hy, e⟩ => (by rw [h y hy] at e; cases e), fun h y hy => by cases y; rfl; exact (h ⟨true, hy, rfl⟩).elim⟩
    by_cases c2 : ((unpack b).drop k).any id = true
    · rw [if_pos c2, if_neg (fun h => hr.1 h.1 c2)]
    · rw [if_neg c2, if_pos ⟨hr.2 c2, hd.2 c1⟩]
theorem ms_same {b : List UInt8} {n : Nat} (hn : n ≤ 16) : ∀ (f : Nat) (ms : List Ms) (k : Nat) (more : Bool), ms.length + (f + 1) = 33 → k ≤ (unpack b).length →
    readMs n b (f + 1) ms (k, 0) more = dMs n (unpack b) (f + 1) ms k more := by
  have hul := unpack_length b
  intro f
  induction f with
  | zero =>
    intro ms k more hf hk
    cases more
    · exact end_same ms k hk _ _
    · show readMs n b 1 ms (k, 0) true = dMs n (unpack b) 1 ms k true
      unfold readMs dMs
      rw [if_neg (show ¬ (0 : Int) ≠ 0 by decide), if_pos rfl, if_pos (show ms.length = 32 by omega), if_pos rfl, if_pos (show ms.length = 32 by omega)]
  | succ f ih =>
    intro ms k more hf hk
    cases more
    · exact end_same ms k hk _ _
    · unfold readMs dMs
      rw [if_neg (show ¬ (0 : Int) ≠ 0 by decide), if_pos rfl, if_neg (show ¬ ms.length = 32 by omega), if_pos rfl, if_neg (show ¬ ms.length = 32 by omega)]
      obtain ⟨h1, h2⟩ := miss_same (x := unpack b) hn hk
      cases hok : (dMiss n (offW n) (unpack b) k).2.2.2
      · have h8 := h2 hok
        rw [if_neg (show ¬ ((missEnd n (unpack b) (k, 0)).2 = 0 ∧ _) from fun h => by rw [h8] at h; exact absurd h.1 (by decide)), if_pos rfl]
        unfold readMs
        rw [if_pos (by rw [h8]; decide), h8]
      · obtain ⟨e1, e2, e3⟩ := h1 hok
        rw [e1, e2, e3, if_neg (show ¬ true = false by decide)]
        cases hmo : missOk n (dMiss n (offW n) (unpack b) k).1
        · rw [if_pos ⟨rfl, rfl⟩, if_pos rfl]
        · rw [if_neg (fun h => by cases h.2), if_neg (by decide)]
          exact ih _ _ _ (by rw [List.length_append, List.length_singleton]; omega) (dMiss_at hk)
theorem top_bits (x : UInt8) (b : List UInt8) : (x.toNat / 128 ≠ 0 ↔ bitD (unpack (x :: b)) 0 = true) ∧ (x.toNat / 128 = 0 → (x.toNat / 16 ≠ 0 ↔ bitD (unpack (x :: b)) 1 = true ∨ bitD (unpack (x :: b)) 2 = true ∨ bitD (unpack (x :: b)) 3 = true)) := by
  have hlt := x.toNat_lt
  rw [unpack_cons, byteBits_all]
  refine ⟨?_, ?_⟩
  · show _ ↔ decide (x.toNat / 128 % 2 = 1) = true
    rw [decide_eq_true_iff]; omega
  · show _ → (_ ↔ decide (x.toNat / 64 % 2 = 1) = true ∨ decide (x.toNat / 32 % 2 = 1) = true ∨ decide (x.toNat / 16 % 2 = 1) = true)
    rw [decide_eq_true_iff, decide_eq_true_iff, decide_eq_true_iff]; omega
theorem read_same (w : Int) (b : List UInt8) : readSt w b = dRead w b := by
  unfold readSt dRead
  cases hsw : stWidth w
  · rfl
  have hw := stWidth_iff.1 hsw
  obtain ⟨n, rfl⟩ : ∃ n : Nat, w = n := ⟨w.toNat, by omega⟩
  rw [if_neg (show ¬ true = false by decide), if_neg (show ¬ true = false by decide)]
  cases b with
  | nil => rfl
  | cons x b =>
    obtain ⟨t1, t2⟩ := top_bits x b
    have hul := unpack_length (x :: b)
    rw [List.length_cons] at hul
    dsimp only
    rw [if_neg (show ¬ x :: b = [] by simp)]
    by_cases c1 : x.toNat / 128 ≠ 0
    · rw [if_pos c1, if_pos (t1.1 c1)]
    rw [if_neg c1, if_neg (fun h => c1 (t1.2 h))]
    have t2 := t2 (by omega)
    by_cases c2 : x.toNat / 16 ≠ 0
    · rw [if_pos c2, if_pos (t2.1 c2)]
    rw [if_neg c2, if_neg (fun h => c2 (t2.2 h)), Int.toNat_natCast]
    generalize hy : x :: b = y at *
    have g0 : gNext (unpack y).length (0, 0) 4 = (4, 0) := gNext_ok (n := 4) (by omega) (by omega)
    rw [g0]
    dsimp only
    rw [gVal_zero]
    by_cases c3 : (unpack y).length < n + 5
    · rw [if_pos c3, gNext_short (by omega) (by omega)]
      dsimp only
      rw [gVal_err (by decide), gNext_err (by decide)]
      have e : readMs n y 33 [] (4, 8) (decide (0 = 1)) = ([], 8) := by unfold readMs; rw [if_pos (by decide)]
      rw [e]; rfl
    · rw [if_neg c3, gNext_ok (k := 4) (by omega) (by omega)]
      dsimp only
      rw [show gNext (unpack y).length (4 + n, 0) 1 = (4 + n + 1, 0) from gNext_ok (n := 1) (by omega) (by omega), gVal_zero, getVal_one (by omega), ms_same (by omega) 32 [] _ _ rfl (by omega)]
      have e : decide ((bitD (unpack y) (4 + n)).toNat = 1) = bitD (unpack y) (4 + n) := by cases bitD (unpack y) (4 + n) <;> rfl
      rw [e]
end Go.Proofs.Ytnfdgccmpglbhaa
/-
  Numbers at places of bits.
-/
namespace Go.Proofs.Ytnfdgccmpglbhaa
set_option linter.unusedVariables false
set_option linter.unusedSimpArgs false
open Go Go.Am

theorem bits_val : ∀ (n : Nat) (l : List Bool), l.length = n → numBits (val 0 l) n = l := by
  intro n
  induction n with
  | zero => intro l hl; rw [List.length_eq_zero_iff.1 hl]; rfl
  | succ n ih =>
    intro l hl
    have hne : l ≠ [] := fun e => by rw [e] at hl; cases hl
    have e : l = l.dropLast ++ [l.getLast hne] := (List.dropLast_concat_getLast hne).symm
    have hdl : l.dropLast.length = n := by rw [List.length_dropLast, hl]; omega
    rw [e, val_snoc, numBits_parts _ n 1]
    have h1 : (2 * val 0 l.dropLast + (l.getLast hne).toNat) / 2 ^ 1 = val 0 l.dropLast := by
      have : (l.getLast hne).toNat ≤ 1 := by cases l.getLast hne <;> decide
      omega
    rw [h1, ih _ hdl]
    congr 1
    show [(2 * val 0 l.dropLast + (l.getLast hne).toNat).testBit 0] = _
    rw [Nat.testBit_zero]
    cases l.getLast hne <;> simp
theorem bitD_drop (l : List Bool) (k i : Nat) : bitD (l.drop k) i = bitD l (k + i) := by unfold bitD; rw [List.getElem?_drop]
theorem num_out {x r : List Bool} {k v n : Nat} (h : x.drop k = numBits v n ++ r) (hv : v < 2 ^ n) (hn : n ≤ 64) (hk : k ≤ x.length) : getVal x k n = v ∧ x.drop (k + n) = r ∧ k + n ≤ x.length := by
  have hl : x.length - k = n + r.length := by
    have := congrArg List.length h
    rwa [List.length_drop, List.length_append, numBits_length] at this
  have hf : k + n ≤ x.length := by omega
  refine ⟨?_, ?_, hf⟩
  · unfold getVal
    rw [if_pos (getCode_fits hf hn), Int.toNat_natCast, h, List.take_left' (numBits_length _ _), val_numBits, Nat.mod_eq_of_lt hv]
  · rw [← List.drop_drop, h, List.drop_left' (numBits_length _ _)]
theorem bit_out {x r : List Bool} {k : Nat} {b : Bool} (h : x.drop k = [b] ++ r) (hk : k ≤ x.length) : bitD x k = b ∧ x.drop (k + 1) = r ∧ k + 1 ≤ x.length := by
  have hl : x.length - k = 1 + r.length := by
    have := congrArg List.length h
    rwa [List.length_drop, List.length_append] at this
  refine ⟨?_, ?_, by omega⟩
  · have := bitD_drop x k 0
    rw [Nat.add_zero] at this
    rw [← this, h]; rfl
  · rw [← List.drop_drop, h]; rfl
theorem num_in {x : List Bool} {k n : Nat} (h : k + n ≤ x.length) (hn : n ≤ 64) : x.drop k = numBits (getVal x k n) n ++ x.drop (k + n) := by
  have e : getVal x k n = val 0 ((x.drop k).take n) := by
    unfold getVal; rw [if_pos (getCode_fits h hn), Int.toNat_natCast]
  rw [e, bits_val n _ (by rw [List.length_take, List.length_drop]; omega), ← List.drop_drop, List.take_append_drop]
theorem bit_in {x : List Bool} {k : Nat} (h : k < x.length) : x.drop k = [bitD x k] ++ x.drop (k + 1) := by
  rw [List.drop_eq_getElem_cons h, bitD_get h]; rfl
end Go.Proofs.Ytnfdgccmpglbhaa
/-
  Statuses there and back.
-/
namespace Go.Proofs.Ytnfdgccmpglbhaa
set_option linter.unusedVariables false
set_option linter.unusedSimpArgs false
open Go Go.Am

theorem dMiss_out {n : Nat} {x r : List Bool} {k : Nat} {more : Bool} {m : Ms} (hw : (n : Int) = 10 ∨ (n : Int) = 16) (hm : missOk n m = true) (hk : k ≤ x.length) (h : x.drop k = missBits n more m ++ r) :
    dMiss n (offW n) x k = (m, more, k + (missBits n more m).length, true) ∧ x.drop (k + (missBits n more m).length) = r ∧ k + (missBits n more m).length ≤ x.length := by
  have hmo := offW_le n
  obtain ⟨hsn0, hsn⟩ := isNum_lt hw (missOk_num hm)
  rw [Int.toNat_natCast] at hsn
  obtain ⟨sn, part, fr, to⟩ := m
  dsimp only at hsn0 hsn
  unfold missBits at h ⊢
  dsimp only at h ⊢
  rw [Int.toNat_natCast] at h ⊢
  rw [List.append_assoc, List.append_assoc, List.append_assoc] at h
  obtain ⟨a1, a2, a3⟩ := num_out h hsn (by omega) hk
  obtain ⟨b1, b2, b3⟩ := bit_out a2 a3
  obtain ⟨c1, c2, c3⟩ := bit_out b2 b3
  have esn : ((getVal x k n : Nat) : Int) = sn := by rw [a1]; omega
  unfold dMiss
  rw [if_neg (by omega), c1, b1, esn]
  cases part
  · have hz : fr = 0 ∧ to = 0 := by
      unfold missOk at hm
      rw [Bool.and_eq_true] at hm
      exact of_decide_eq_true hm.2
    rw [hz.1, hz.2]
    rw [if_neg (show ¬ false = true by decide)]
    simp only [List.length_append, numBits_length, List.length_singleton, if_neg (show ¬ false = true by decide), List.length_nil]
    refine ⟨by rw [show k + (n + (1 + (1 + 0))) = k + n + 2 by omega], ?_, by omega⟩
    rw [show k + (n + (1 + (1 + 0))) = k + n + 1 + 1 by omega, c2]; rfl
  · obtain ⟨p0, p1, p2, p3⟩ := missOk_part hm rfl
    dsimp only at p0 p1 p2 p3
    rw [if_pos rfl] at c2 ⊢
    rw [List.append_assoc] at c2
    obtain ⟨d1, d2, d3⟩ := num_out c2 p1 (by omega) c3
    obtain ⟨e1, e2, e3⟩ := num_out d2 p3 (by omega) d3
    have efr : ((getVal x (k + n + 2) (offW n) : Nat) : Int) = fr := by rw [d1]; omega
    have hpl := plcs_pow n
    have hpp : 0 < 2 ^ offW n := Nat.two_pow_pos _
    have hp1 : plcs n = ((2 ^ offW n : Nat) : Int) := by unfold plcs; simp
    simp only [if_true, List.length_append, numBits_length, List.length_singleton]
    rw [if_neg (by omega), efr, e1]
    have eto : (if lastV n to + 1 = 2 ^ offW n then 0 else ((lastV n to + 1 : Nat) : Int)) = to := by
      have hok : to = 0 ∨ fr < to ∧ to < plcs n := by
        unfold missOk at hm
        rw [Bool.and_eq_true] at hm
        exact (of_decide_eq_true hm.2).2.2
      unfold lastV
      by_cases e : to = 0
      · rw [if_pos e, hpl, if_pos (by omega), e]
      · rw [if_neg e, if_neg (by omega)]; omega
    rw [eto]
    refine ⟨by rw [show k + (n + (1 + (1 + (offW n + offW n)))) = k + n + 2 + 2 * offW n by omega], ?_, by omega⟩
    rw [show k + (n + (1 + (1 + (offW n + offW n)))) = k + n + 1 + 1 + offW n + offW n by omega, e2]
theorem dMs_out {n : Nat} {x : List Bool} (hw : (n : Int) = 10 ∨ (n : Int) = 16) (p : Nat) (hp : p ≤ 7) : ∀ (l ms : List Ms) (f k : Nat), k ≤ x.length → x.drop k = mssBits n l ++ List.replicate p false → l.length < f → (ms ++ l).length ≤ 32 → l.all (missOk n) = true →
    dMs n x f ms k (!l.isEmpty) = (ms ++ l, 0)
  | [], ms, 0, k, _, _, h, _, _ => by cases h
  | [], ms, f + 1, k, hk, hx, _, _, _ => by
    unfold dMs
    have hl := congrArg List.length hx
    rw [List.length_drop, List.length_append, List.length_replicate, show (mssBits n []).length = 0 from rfl] at hl
    rw [if_neg (by decide), if_neg (by omega), if_neg, List.append_nil]
    rw [hx, show mssBits n [] = [] from rfl, List.nil_append, List.any_eq_true]
    rintro ⟨b, hb, h⟩
    rw [List.eq_of_mem_replicate hb] at h; cases h
  | m :: l, ms, 0, k, _, _, h, _, _ => by cases h
  | m :: l, ms, f + 1, k, hk, hx, hf, hl, ha => by
    rw [List.all_cons, Bool.and_eq_true] at ha
    have hx' : x.drop k = missBits n (!l.isEmpty) m ++ (mssBits n l ++ List.replicate p false) := by rw [hx, ← List.append_assoc]; rfl
    obtain ⟨h1, h2, h3⟩ := dMiss_out hw ha.1 hk hx'
    rw [List.length_append, List.length_cons] at hl
    rw [List.length_cons] at hf
    unfold dMs
    rw [if_pos (by rfl), if_neg (by omega), h1]
    dsimp only
    rw [if_neg (by decide), ha.1, if_neg (by decide), dMs_out hw p hp l (ms ++ [m]) f _ h3 h2 (by omega) (by rw [List.length_append, List.length_append, List.length_singleton]; omega) ha.2, List.append_assoc]
    rfl
theorem read_out {w : Int} {s : Int × List Ms} (hok : stOk w s = true) : dRead w (pack (stBits w s)) = (s, 0) := by
  obtain ⟨hw, ha, hl, hall⟩ := stOk_parts hok
  obtain ⟨n, rfl⟩ : ∃ n : Nat, w = n := ⟨w.toNat, by omega⟩
  obtain ⟨ack, l⟩ := s
  dsimp only at ha hl hall
  obtain ⟨a0, a1⟩ := isNum_lt hw ha
  rw [Int.toNat_natCast] at a1
  have hx := unpack_pack (stBits n (ack, l))
  have hbl := stBits_length (w := n) (by omega) (ack, l)
  have hml := (mssLen_le (w := n) (by omega) l).1
  dsimp only at hbl
  have hp : 8 * (((stBits n (ack, l)).length + 7) / 8) - (stBits n (ack, l)).length ≤ 7 := by omega
  have hne : pack (stBits n (ack, l)) ≠ [] := fun e => by
    have := pack_length (stBits n (ack, l)); rw [e] at this
    rw [List.length_nil] at this; omega
  have hxl := congrArg List.length hx
  rw [List.length_append, List.length_replicate] at hxl
  generalize 8 * (((stBits n (ack, l)).length + 7) / 8) - (stBits n (ack, l)).length = p at *
  unfold dRead
  rw [show stWidth n = true from stWidth_iff.2 hw, if_neg (by decide), if_neg hne]
  generalize unpack (pack (stBits n (ack, l))) = x at *
  have hx0 : x.drop 0 = numBits 0 4 ++ (numBits ack.toNat n ++ ([decide (0 < l.length)] ++ (mssBits n l ++ List.replicate p false))) := by
    rw [List.drop_zero, hx]
    unfold stBits
    dsimp only
    rw [Int.toNat_natCast, List.append_assoc, List.append_assoc, List.append_assoc]
    rfl
  have b0 : bitD x 0 = false ∧ bitD x 1 = false ∧ bitD x 2 = false ∧ bitD x 3 = false := by
    rw [List.drop_zero] at hx0
    rw [hx0]; exact ⟨rfl, rfl, rfl, rfl⟩
  obtain ⟨_, c2, c3⟩ := num_out hx0 (by decide) (by decide) (Nat.zero_le _)
  obtain ⟨d1, d2, d3⟩ := num_out c2 a1 (by omega) c3
  obtain ⟨e1, e2, e3⟩ := bit_out d2 d3
  rw [Nat.zero_add] at d1 d2 d3 e1 e2 e3
  rw [b0.1, b0.2.1, b0.2.2.1, b0.2.2.2, if_neg (by decide), if_neg (by rintro (h | h | h) <;> cases h), Int.toNat_natCast, if_neg (by omega)]
  dsimp only
  have hmo : decide (0 < l.length) = !l.isEmpty := by cases l <;> rfl
  rw [e1, d1, hmo, dMs_out hw p hp l [] 33 (4 + n + 1) e3 e2 (by omega) (by rw [List.nil_append]; exact hl) hall, if_pos rfl, List.nil_append]
  rw [show ((ack.toNat : Nat) : Int) = ack by omega]
theorem dMiss_in {n : Nat} {x : List Bool} {k : Nat} (hw : (n : Int) = 10 ∨ (n : Int) = 16) (hk : k ≤ x.length) (h : (dMiss n (offW n) x k).2.2.2 = true) (hm : missOk n (dMiss n (offW n) x k).1 = true) :
    x.drop k = missBits n (dMiss n (offW n) x k).2.1 (dMiss n (offW n) x k).1 ++ x.drop (dMiss n (offW n) x k).2.2.1 := by
  have hmo := offW_le n
  revert h hm
  unfold dMiss
  by_cases c1 : x.length < k + n + 2
  · rw [if_pos c1]; intro h; cases h
  rw [if_neg c1]
  have e1 := num_in (x := x) (k := k) (n := n) (by omega) (by omega)
  have e2 := bit_in (x := x) (k := k + n) (by omega)
  have e3 := bit_in (x := x) (k := k + n + 1) (by omega)
  cases hb : bitD x (k + n + 1)
  · rw [if_neg (show ¬ false = true by decide)]
    intro _ _
    dsimp only
    unfold missBits
    dsimp only
    rw [if_neg (show ¬ false = true by decide), Int.toNat_natCast, Int.toNat_natCast, List.append_nil, List.append_assoc, List.append_assoc]
    rw [hb] at e3
    rw [e1, e2, e3]
  · rw [if_pos (show true = true from rfl)]
    by_cases c2 : x.length < k + n + 2 + 2 * offW n
    · rw [if_pos c2]; intro h; cases h
    rw [if_neg c2]
    intro _ hm
    have e4 := num_in (x := x) (k := k + n + 2) (n := offW n) (by omega) (by omega)
    have e5 := num_in (x := x) (k := k + n + 2 + offW n) (n := offW n) (by omega) (by omega)
    have hlt := getVal_pow (x := x) (k := k + n + 2 + offW n) (n := offW n)
    have hpl := plcs_pow n
    have hla : lastV n (if getVal x (k + n + 2 + offW n) (offW n) + 1 = 2 ^ offW n then 0 else ((getVal x (k + n + 2 + offW n) (offW n) + 1 : Nat) : Int)) = getVal x (k + n + 2 + offW n) (offW n) := by
      unfold lastV
      by_cases c : getVal x (k + n + 2 + offW n) (offW n) + 1 = 2 ^ offW n
      · rw [if_pos c, if_pos rfl, hpl]; omega
      · rw [if_neg c, if_neg (by omega)]; omega
    dsimp only
    unfold missBits
    dsimp only
    rw [if_pos rfl, hla, Int.toNat_natCast, Int.toNat_natCast, Int.toNat_natCast, List.append_assoc, List.append_assoc, List.append_assoc, List.append_assoc]
    rw [hb] at e3
    rw [show k + n + 2 + 2 * offW n = k + n + 2 + offW n + offW n by omega, ← e5, ← e4, e1, e2, e3]
theorem dMs_end {n : Nat} {x : List Bool} {f : Nat} {ms res : List Ms} {k : Nat} (hk : k ≤ x.length) (h : dMs n x (f + 1) ms k false = (res, 0)) : res = ms ∧ ∃ p, x.drop k = List.replicate p false ∧ p ≤ 7 := by
  unfold dMs at h
  rw [if_neg (by decide)] at h
  split at h
  · cases h
  rename_i c1
  split at h
  · cases h
  rename_i c2
  cases h
  refine ⟨rfl, x.length - k, ?_, by omega⟩
  refine List.eq_replicate_iff.2 ⟨List.length_drop, fun b hb => ?_⟩
  cases b
  · rfl
  · exact (c2 (List.any_eq_true.2 ⟨true, hb, rfl⟩)).elim
theorem dMs_in {n : Nat} {x : List Bool} (hw : (n : Int) = 10 ∨ (n : Int) = 16) : ∀ (f : Nat) (ms : List Ms) (k : Nat) (more : Bool) (res : List Ms), k ≤ x.length → dMs n x (f + 1) ms k more = (res, 0) → ms.length + (f + 1) = 33 →
    ∃ l p, res = ms ++ l ∧ res.length ≤ 32 ∧ more = !l.isEmpty ∧ x.drop k = mssBits n l ++ List.replicate p false ∧ p ≤ 7 ∧ l.all (missOk n) = true := by
  intro f
  induction f with
  | zero =>
    intro ms k more res hk h hf
    cases more
    · obtain ⟨rfl, p, h1, h2⟩ := dMs_end hk h
      exact ⟨[], p, by simp, by omega, rfl, h1, h2, rfl⟩
    · unfold dMs at h
      rw [if_pos rfl, if_pos (by omega)] at h; cases h
  | succ f ih =>
    intro ms k more res hk h hf
    cases more
    · obtain ⟨rfl, p, h1, h2⟩ := dMs_end hk h
      exact ⟨[], p, by simp, by omega, rfl, h1, h2, rfl⟩
    · unfold dMs at h
      rw [if_pos rfl, if_neg (show ¬ ms.length = 32 by omega)] at h
      have hat := dMiss_at (n := n) (m := offW n) hk
      have hin := dMiss_in hw hk
      generalize dMiss n (offW n) x k = r at *
      obtain ⟨m, more, k', ok⟩ := r
      dsimp only at h hat hin
      cases ok
      · rw [if_pos rfl] at h; cases h
      rw [if_neg (by decide)] at h
      cases hm : missOk n m
      · rw [hm, if_pos rfl] at h; cases h
      rw [hm, if_neg (by decide)] at h
      obtain ⟨l, p, h1, h2, h3, h4, h5, h6⟩ := ih _ _ _ _ hat h (by rw [List.length_append, List.length_singleton]; omega)
      refine ⟨m :: l, p, by rw [h1, List.append_assoc]; rfl, h2, rfl, ?_, h5, by rw [List.all_cons, hm, h6]; rfl⟩
      rw [hin rfl hm, h4, h3]
      show _ = missBits n (!l.isEmpty) m ++ mssBits n l ++ _
      rw [List.append_assoc]
theorem read_in {w : Int} {b : List UInt8} {s : Int × List Ms} (h : dRead w b = (s, 0)) : stOk w s = true ∧ pack (stBits w s) = b := by
  unfold dRead at h
  cases hsw : stWidth w
  · rw [hsw, if_pos rfl] at h; cases h
  have hw := stWidth_iff.1 hsw
  obtain ⟨n, rfl⟩ : ∃ n : Nat, w = n := ⟨w.toNat, by omega⟩
  rw [hsw, if_neg (by decide), Int.toNat_natCast] at h
  have hul := unpack_length b
  have hb := pack_unpack b
  generalize hx : unpack b = x at *
  split at h
  · cases h
  split at h
  · cases h
  rename_i b0
  split at h
  · cases h
  rename_i b1
  split at h
  · cases h
  rename_i hl
  dsimp only at h
  generalize hr : dMs n x 33 [] (4 + n + 1) (bitD x (4 + n)) = r at h
  obtain ⟨res, c⟩ := r
  dsimp only at h
  split at h
  case isFalse hc => exact (hc (congrArg Prod.snd h)).elim
  rename_i hc
  subst hc
  cases h
  obtain ⟨l, p, h1, h2, h3, h4, h5, h6⟩ := dMs_in hw 32 [] (4 + n + 1) _ res (by omega) hr rfl
  rw [List.nil_append] at h1
  subst h1
  have hav : getVal x 4 n < 2 ^ n := getVal_pow
  have hnum : isNum n ((getVal x 4 n : Nat) : Int) = true := by
    unfold isNum
    refine decide_eq_true ⟨Int.natCast_nonneg _, ?_⟩
    rcases hw with e | e
    · rw [e]; rw [show spaceSize 10 = 1024 by decide]
      have : n = 10 := by omega
      subst this
      exact Int.ofNat_lt.2 hav
    · rw [e]; rw [show spaceSize 16 = 65536 by decide]
      have : n = 16 := by omega
      subst this
      exact Int.ofNat_lt.2 hav
  have hok : stOk n (((getVal x 4 n : Nat) : Int), res) = true := by
    unfold stOk
    rw [hsw, hnum, h6, decide_eq_true h2]; rfl
  refine ⟨hok, ?_⟩
  have f0 := bit_in (x := x) (k := 0) (by omega)
  have f1 := bit_in (x := x) (k := 1) (by omega)
  have f2 := bit_in (x := x) (k := 2) (by omega)
  have f3 := bit_in (x := x) (k := 3) (by omega)
  have f4 := num_in (x := x) (k := 4) (n := n) (by omega) (by omega)
  have f5 := bit_in (x := x) (k := 4 + n) (by omega)
  have z0 : bitD x 0 = false := by cases e : bitD x 0; rfl; exact (b0 e).elim
  have z1 : bitD x 1 = false := by cases e : bitD x 1; rfl; exact (b1 (.inl e)).elim
  have z2 : bitD x 2 = false := by cases e : bitD x 2; rfl; exact (b1 (.inr (.inl e))).elim
  have z3 : bitD x 3 = false := by cases e : bitD x 3; rfl; exact (b1 (.inr (.inr e))).elim
  have hmo : decide (0 < res.length) = !res.isEmpty := by cases res <;> rfl
  have hxe : x = stBits n (((getVal x 4 n : Nat) : Int), res) ++ List.replicate p false := by
    unfold stBits
    dsimp only
    rw [Int.toNat_natCast, Int.toNat_natCast, hmo, ← h3, List.append_assoc, List.append_assoc, List.append_assoc, ← h4, ← f5, ← f4]
    rw [List.drop_zero, z0] at f0
    rw [z1] at f1
    rw [z2] at f2
    rw [z3] at f3
    rw [show (0 + 1 : Nat) = 1 from rfl, f1, f2, f3] at f0
    exact f0
  have hlen := congrArg List.length hxe
  rw [List.length_append, List.length_replicate] at hlen
  have hpk := unpack_pack (stBits n (((getVal x 4 n : Nat) : Int), res))
  rw [show 8 * (((stBits n (((getVal x 4 n : Nat) : Int), res)).length + 7) / 8) - (stBits n (((getVal x 4 n : Nat) : Int), res)).length = p by omega, ← hxe] at hpk
  rw [← pack_unpack (pack (stBits n (((getVal x 4 n : Nat) : Int), res))), hpk, hb]
end Go.Proofs.Ytnfdgccmpglbhaa
