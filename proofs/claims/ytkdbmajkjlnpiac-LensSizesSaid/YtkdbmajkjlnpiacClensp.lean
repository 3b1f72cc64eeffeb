/-
  What lengths bits begin with: plain laws.
-/
import Derived.Test.YtkdbmajkjlnpiacClens
import Derived.Test.YtkdbmajkjlnpiacCbitsd
namespace Go.Proofs.Ytkdbmajkjlnpiac
set_option linter.unusedVariables false
set_option linter.unusedSimpArgs false
open Go Go.Am

def rdLens (x : List Bool) (W : Nat) : Nat → List Int → Nat → List Int × Int × Int
  | 0, _, _ => ([], 0, 2)
  | f + 1, out, k =>
    if x.length < k + (W + 1) then ([], 0, 8)
    else if val 0 ((x.drop (k + 1)).take W) = 0 then ([], 0, 3)
    else if bitD x k = true then (if f = 0 then ([], 0, 2) else rdLens x W f (out ++ [((val 0 ((x.drop (k + 1)).take W) : Nat) : Int)]) (k + (W + 1)))
    else if restOk x (k + (W + 1)) = true then (out ++ [((val 0 ((x.drop (k + 1)).take W) : Nat) : Int)], ((k + (W + 1) + 7) / 8 : Nat), 0) else ([], 0, 3)

theorem bitD_take {l : List Bool} {i M : Nat} (h : i < M) : bitD (l.take M) i = bitD l i := by unfold bitD; rw [List.getElem?_take_of_lt h]
theorem restOk_take {l : List Bool} {k M : Nat} (hk : k ≤ M) (h8 : M % 8 = 0) : restOk (l.take M) k = restOk l k := by
  unfold restOk
  have hp : k + pad k ≤ M := by unfold pad; omega
  rw [List.drop_take, List.take_take, Nat.min_eq_left (by omega)]
theorem rdLens_take (x : List Bool) (W M : Nat) (h8 : M % 8 = 0) : ∀ (f : Nat) (out : List Int) (k : Nat), k + f * (W + 1) ≤ M → rdLens (x.take M) W f out k = rdLens x W f out k
  | 0, _, _, _ => rfl
  | f + 1, out, k, h => by
    rw [Nat.succ_mul] at h
    simp only [rdLens]
    rw [rdLens_take x W M h8 f _ (k + (W + 1)) (by omega), bitD_take (by omega), restOk_take (by omega) h8]
    rw [List.drop_take, List.take_take, Nat.min_eq_left (by omega), List.length_take]
    have e : (min M x.length < k + (W + 1)) ↔ (x.length < k + (W + 1)) := by omega
    by_cases hx : x.length < k + (W + 1)
    · rw [if_pos (e.2 hx), if_pos hx]
    · rw [if_neg (fun h => hx (e.1 h)), if_neg hx]

def readV (b : List UInt8) (w : Int) : List Int × Int × Int := if widthOk w = false then ([], 0, 9) else rdLens (unpack b) w.toNat 23 [] 0
abbrev rdRes (r : List Int × Int × Int) : AVal := .tup [ints .none r.1, i64v r.2.1, i64v r.2.2]

theorem rdLens_len (x : List Bool) (W : Nat) : ∀ (f : Nat) (out : List Int) (k : Nat), out.length + f ≤ 23 → (rdLens x W f out k).1.length ≤ 23
  | 0, _, _, _ => by simp [rdLens]
  | f + 1, out, k, h => by
    simp only [rdLens]
    split
    · simp
    · split
      · simp
      · split
        · split
          · simp
          · exact rdLens_len x W f _ _ (by rw [List.length_append]; show _ + 1 + f ≤ 23; omega)
        · split
          · rw [List.length_append]; show _ + 1 ≤ 23; omega
          · simp
theorem readV_len (b : List UInt8) (w : Int) : (readV b w).1.length ≤ 23 := by
  unfold readV; split
  · simp
  · exact rdLens_len _ _ 23 [] 0 (by simp)

theorem take_one {x : List Bool} {k : Nat} (h : k < x.length) : val 0 ((x.drop k).take 1) = (bitD x k).toNat := by
  rw [List.drop_eq_getElem_cons h, List.take_succ_cons, List.take_zero]
  rw [bitD_get h]
  show 2 * 0 + _ = _
  omega
theorem sizeV_ok {n W : Nat} (hW : W = 11 ∨ W = 15) (h1 : 1 ≤ n) (h2 : n ≤ 23) : sizeV (n : Int) (W : Int) = ((n * (W + 1) + 7) / 8 : Nat) := by
  unfold sizeV
  rw [if_neg]
  · rcases hW with rfl | rfl
    · show (((n : Int) * 12 + 7) / 8) = _
      omega
    · show (((n : Int) * 16 + 7) / 8) = _
      omega
  · rw [widthOk_iff.2 (by omega)]
    rintro (h | h | h)
    · cases h
    · omega
    · omega
end Go.Proofs.Ytkdbmajkjlnpiac

