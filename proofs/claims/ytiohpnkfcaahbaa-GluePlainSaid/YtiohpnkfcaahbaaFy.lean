/-
  From a start's world to the first abstract state; from a law's contract to what a row asks.
-/
import Derived.Test.YtiohpnkfcaahbaaFw
import Derived.ChangeSlices
import Derived.SizedLaws
import Derived.WideShapes
namespace Go.Am
set_option linter.unusedVariables false
set_option linter.unusedSimpArgs false
set_option linter.unusedSectionVars false
open Go.RowKit (Below)
open Go.ChangeShapes Go.WideShapes

def ghost0 (W : World) : Ghost :=
  { base := W.heap.size, w0 := W, cell := fun b o => match W.cell? ⟨b, o, none⟩ with | some v => (bif v.oneCell then some v else none) | none => none, size := fun _ => none, obj := fun _ => none, tok := fun _ => none }
def heap0 : AHeap := fun _ => none

theorem ghost0_cell {W : World} {b o : Nat} {v : Value} : (ghost0 W).cell b o = some v ↔ W.cell? ⟨b, o, none⟩ = some v ∧ v.oneCell = true := by
  unfold ghost0
  simp only
  cases h : W.cell? ⟨b, o, none⟩ with
  | none => simp
  | some u =>
    simp only
    cases h2 : u.oneCell with
    | true =>
      simp only [cond_true, Option.some.injEq]
      constructor
      · rintro rfl; exact ⟨rfl, h2⟩
      · rintro ⟨rfl, _⟩; rfl
    | false =>
      simp only [cond_false, Option.some.injEq]
      constructor
      · intro k; cases k
      · rintro ⟨rfl, k⟩; rw [h2] at k; cases k

theorem inv0 (W : World) : Inv (ghost0 W) heap0 W := by
  refine ⟨Below.refl _ _, Nat.le_refl _, fun b o v e => ghost0_cell.1 e, fun b n e => ?_, fun id b e => ?_, fun i j b hi => ?_, fun id cs e => ?_, fun id es e => ?_, fun t b p e => ?_, ⟨0, fun n _ => ⟨rfl, rfl, rfl⟩⟩⟩
  · cases e
  · cases e
  · exact absurd rfl hi
  · cases e
  · cases e
  · cases e

/-- A law's contract, as a row asks it. -/
theorem law_calls {P : Program} {f : FuncId} {args : List AVal} {cargs : Array Value} {W : World} {Q : AVal → AHeap → Prop} (h : ACalls P f args heap0 Q) (hq : ∀ v σ, Q v σ → v = .v (.bool true)) (hr : RepL (ghost0 W) args cargs.toList) :
    Calls P f cargs W fun e w' => e = .returned (.bool true) ∧ Below W.heap.size W w' := by
  rw [ACalls_def] at h
  have := h (ghost0 W) W cargs.toList (inv0 W) hr
  rw [Array.toArray_toList] at this
  refine this.mono ?_
  rintro e w' ⟨v, κ', σ', x, rfl, h2, h3, h4, h5⟩
  obtain rfl := hq _ _ h5
  obtain ⟨rfl, _⟩ := h4.v_inv
  refine ⟨rfl, ?_⟩
  have := h3.below
  rw [h2.base, h2.w0] at this
  exact this

/-- A slice of bytes among a start's arguments. -/
theorem bytes0 {H : Type} {enc : TypeId × Value → H} {P : Program} {W : World} {r : Reach} {spare : Nat → Bool} {held : Bool} {t e : TypeId} {base b1 : Nat} {v : Value} {d : DataW H} {ps : List MemPlace} {ts : List TypeId} {ds : List (DataW H)} {j : Nat}
    (hsz : (DataW.weightsEach P ts ds).all (· ≤ reachBytes) = true) (ht : ts[j]? = some t) (hd : ds[j]? = some d) (hu : P.underlying t = some (.slice e)) (he : P.underlying e = some (.int .u8)) (hc : P.cellsOf e = 1) (hB : P.bytesOf e = 1)
    (hv : Value.okWide P W r b1 t v) (h : DataW.Trod enc P W base spare held t v d ps) :
    ∃ bs : List UInt8, RepV (ghost0 W) (.slice 1 (bs.map byteV) .none) v ∧ bs.length ≤ 140737488351232 := by
  obtain ⟨a, len, cap, rfl⟩ := okWide_slice hu hv
  obtain ⟨fuel, hf⟩ := h
  rcases open_ints hu he hc hf with ⟨hcs, _⟩ | ⟨x, l, c, zs, hcs, _, hl, _, hz, hx, hcell, hwf⟩
  · simp [Value.cells] at hcs
    obtain ⟨rfl, rfl, rfl⟩ := hcs
    exact ⟨[], .nil, by simp⟩
  · simp [Value.cells] at hcs
    obtain ⟨rfl, rfl, rfl⟩ := hcs
    have hsp : x.spot = none := by
      have := hv
      simp only [Value.okWide, hu, Cell.okWide, Cell.ok] at this
      exact this.2.2.2.1
    obtain ⟨b, off, spot⟩ := x
    simp only at hsp
    subst hsp
    have hl2 : len ≤ zs.length := by rw [hz]; split <;> omega
    have hlen : (zs.take len).length = len := by simp; omega
    have hbyte : ∀ n ∈ zs, ((UInt8.ofNat n.toNat).toNat : Int) = n := by
      intro n hn
      have := hwf n hn
      simp only [Lit.wf, IntKind.min, IntKind.max, IntKind.signed, IntKind.bits] at this
      simp at this
      rw [UInt8.toNat_ofNat']
      omega
    refine ⟨(zs.take len).map fun n => UInt8.ofNat n.toNat, ?_, ?_⟩
    · have hvs : ∀ l : List Int, (∀ n ∈ l, n ∈ zs) → RepL (ghost0 W) (((l.map fun n => UInt8.ofNat n.toNat).map byteV).flatMap AVal.cells) (l.map (Value.int .u8)) := by
        intro l
        induction l with
        | nil => intro _; exact .nil
        | cons n l ih =>
          intro hm
          refine .cons ?_ (ih fun m k => hm m (List.mem_cons_of_mem _ k))
          unfold byteV
          rw [hbyte n (hm n (List.mem_cons_self ..))]
          exact .v rfl
      refine .slice (vs := (zs.take len).map (Value.int .u8)) (by rw [List.length_map, List.length_map]; exact hlen) hl (fun y hy => ?_) (hvs _ fun n hn => List.mem_of_mem_take hn) (fun i v hv => ?_) trivial
      · obtain ⟨n, _, rfl⟩ := List.mem_map.1 hy; rfl
      · rw [List.getElem?_map] at hv
        obtain ⟨n, hn, rfl⟩ := Option.map_eq_some_iff.1 hv
        have hi := (List.getElem?_eq_some_iff.1 hn).1
        have hi2 : i < zs.length := by rw [hlen] at hi; omega
        rw [ghost0_cell]
        refine ⟨?_, rfl⟩
        have := hcell i hi2
        rw [List.getElem?_take] at hn
        split at hn
        · rw [List.getD_eq_getElem?_getD, hn] at this
          simp only [Option.getD_some] at this
          rw [← this]
          congr 1
          unfold Addr.add
          split
          · rename_i h0; subst h0; rfl
          · rfl
        · cases hn
    · rw [List.length_map, hlen]
      obtain ⟨hx, _⟩ := Prod.mk.inj hx
      subst hx
      have z := sized_slice hsz ht hd hu
      rw [hB, Nat.mul_one] at z
      have h1 : (lits (H := H) .u8 (zs.take len)).length + (lits (H := H) .u8 (zs.drop len)).length = zs.length := by
        simp [lits]
        omega
      rw [h1] at z
      exact Nat.le_trans hl2 z
end Go.Am

