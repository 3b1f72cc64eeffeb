/-
  Lists of byte strings.
-/
import Derived.Test.YtiohpnkfcaahbaaCbase
import Derived.Test.YtiohpnkfcaahbaaFz
namespace Go.Proofs.Ytiohpnkfcaahbaa
set_option linter.unusedVariables false
open Go Go.Am

abbrev lists (t : Tok) (l : List (List UInt8)) : AVal := .slice 1 (l.map (sl .none)) t
abbrev u16n (n : Nat) : AVal := .v (.int .u16 n)
theorem get_lists {l : List (List UInt8)} {i : Nat} (h : i < l.length) : (l.map (sl .none))[((i : Nat) : Int).toNat]? = some (sl .none l[i]) := by
  rw [Int.toNat_natCast, List.getElem?_map, List.getElem?_eq_getElem h]; rfl
theorem get_u16n {l : List Nat} {i : Nat} (h : i < l.length) : (l.map u16n)[((i : Nat) : Int).toNat]? = some (u16n l[i]) := by
  rw [Int.toNat_natCast, List.getElem?_map, List.getElem?_eq_getElem h]; rfl

/-- How many bytes all are. -/
def total (l : List (List UInt8)) : Nat := l.flatten.length
theorem total_nil : total [] = 0 := rfl
theorem total_cons (a : List UInt8) (l : List (List UInt8)) : total (a :: l) = a.length + total l := by unfold total; simp
theorem total_append (a b : List (List UInt8)) : total (a ++ b) = total a + total b := by unfold total; simp
theorem total_take_succ (l : List (List UInt8)) (i : Nat) (h : i < l.length) : total (l.take (i + 1)) = total (l.take i) + l[i].length := by
  rw [List.take_add_one, List.getElem?_eq_getElem h, total_append]; unfold total; simp
theorem total_take_le (l : List (List UInt8)) (i : Nat) : total (l.take i) ≤ total l := by
  have := total_append (l.take i) (l.drop i)
  rw [List.take_append_drop] at this
  omega
theorem total_get {l : List (List UInt8)} {i : Nat} (h : i < l.length) : l[i].length ≤ total l := by
  have h1 := total_take_succ l i h
  have h2 := total_take_le l (i + 1)
  omega
end Go.Proofs.Ytiohpnkfcaahbaa

