/-
  make and append.
-/
import Derived.Test.YtiohpnkfcaahbaaFg
namespace Go.Am
set_option linter.unusedVariables false
set_option linter.unusedSimpArgs false
set_option linter.unusedSectionVars false
open Go.RowKit (Below)

theorem Inv.addTip {κ : Ghost} {σ : AHeap} {w : World} (h : Inv κ σ w) {t : Nat} (ht : σ t = none ∧ κ.obj t = none ∧ κ.tok t = none) : Inv κ (upd σ t .tip) w := by
  have hs : ∀ i o, i ≠ t → upd σ t .tip i = some o → σ i = some o := fun i o hi e => by rwa [upd_ne _ _ hi] at e
  refine ⟨h.below, h.base, h.cell, h.size, fun i b q => ?_, ?_, ?_, ?_, ?_, ?_⟩
  · obtain ⟨h1, h2, h3⟩ := h.obj i b q
    refine ⟨h1, h2, fun hl => h3 ?_⟩
    rw [upd_ne _ _ (fun k => by subst k; rw [ht.2.1] at q; cases q)] at hl; exact hl
  · intro i j b li lj ki kj
    have hi : i ≠ t := fun e => by subst e; rw [ht.2.1] at ki; cases ki
    have hj : j ≠ t := fun e => by subst e; rw [ht.2.1] at kj; cases kj
    rw [upd_ne _ _ hi] at li; rw [upd_ne _ _ hj] at lj
    exact h.inj i j b li lj ki kj
  · intro i cs e
    have hi : i ≠ t := fun k => by subst k; rw [upd_same] at e; cases e
    exact h.cells i cs (hs _ _ hi e)
  · intro i es e
    have hi : i ≠ t := fun k => by subst k; rw [upd_same] at e; cases e
    exact h.map i es (hs _ _ hi e)
  · intro i b p e k
    have hi : i ≠ t := fun k' => by subst k'; rw [ht.2.2] at k; cases k
    obtain ⟨h1, h2, h3, h4, h5⟩ := h.tip i b p (hs _ _ hi e) k
    refine ⟨h1, h2, h3, h4, fun t' p' e' k' => ?_⟩
    have hi' : t' ≠ t := fun k'' => by subst k''; rw [ht.2.2] at k'; cases k'
    exact h5 t' p' (hs _ _ hi' e') k'
  · obtain ⟨N, hN⟩ := h.fin
    refine ⟨max N (t + 1), fun n hn => ?_⟩
    obtain ⟨h1, h2, h3⟩ := hN n (by omega)
    exact ⟨by rw [upd_ne _ _ (by omega)]; exact h1, h2, h3⟩

theorem ones_zero {z : Array Value} (h : Ones z.toList) (n : Nat) : Ones (Builtin.zeroCells z n).toList := by
  intro v hv
  simp only [Builtin.zeroCells, Array.toList_map, List.mem_map] at hv
  obtain ⟨i, hi, rfl⟩ := hv
  simp only [Array.toList_range, List.mem_range] at hi
  have hz : z.size ≠ 0 := fun e => by rw [e] at hi; omega
  have hlt : i % z.size < z.size := Nat.mod_lt _ (by omega)
  rw [getElem!_pos z _ hlt]
  exact h _ (by simp)

theorem size_zero (z : Array Value) (n : Nat) : (Builtin.zeroCells z n).size = n * z.size := by simp [Builtin.zeroCells]

/-- What an append that fits comes to. -/
def fitRun (P : Program) (w : World) (base : Option Addr) (n cap k : Nat) (news : List Value) : Result Value :=
  match base with
  | none => .ok (.slice none n cap) w
  | some a => ((storeCells (a.add k) news).run P w).andThen fun _ w' => .ok (.slice (some a) n cap) w'

theorem fitRun_none {P : Program} {w : World} (base : Option Addr) (n cap k : Nat) : fitRun P w base n cap k [] = .ok (.slice base n cap) w := by
  cases base <;> simp [fitRun, storeCells]
theorem firstCells_zero {P : Program} {w : World} (s : Nat) (base : Option Addr) (c : Nat) : (Builtin.firstCells s 0 (.slice base 0 c)).run P w = .ok #[] w := by
  cases base <;> simp [Builtin.firstCells, loadCells, loadCellsFrom]

section
variable {P : Program} {w : World} {t u ty e : TypeId} {i : TypeInfo} {z : Value} {x : Value} {n sLen sCap : Nat} {news olds : List Value}

theorem append_fits (ht : P.underlying t = some (.slice e)) (hi : P.info? e = some i) (hu : (∃ e2, P.underlying u = some (.slice e2)) ∨ P.underlying u = some .string) (base : Option Addr)
    (hlen : (Builtin.lenOf x).run P w = .ok n w) (hnew : (Builtin.firstCells i.size n x).run P w = .ok news.toArray w) (hc : sLen + n ≤ sCap) :
    (Builtin.append_ #[t, u] ty #[.slice base sLen sCap, x]).run P w = fitRun P w base (sLen + n) sCap (sLen * i.size) news := by
  unfold fitRun
  rcases hu with ⟨e2, hu⟩ | hu <;> cases base <;> simp [Builtin.append_, run_underlying ht, run_underlying hu, sizeOf, typeInfo, hi, hlen, hnew, hc]

theorem append_grows (ht : P.underlying t = some (.slice e)) (hi : P.info? e = some i) (hz : i.zero = some z) (hu : (∃ e2, P.underlying u = some (.slice e2)) ∨ P.underlying u = some .string) (base : Option Addr)
    (hlen : (Builtin.lenOf x).run P w = .ok n w) (hnew : (Builtin.firstCells i.size n x).run P w.drew = .ok news.toArray w.drew) (hold : (Builtin.firstCells i.size sLen (.slice base sLen sCap)).run P w.drew = .ok olds.toArray w.drew)
    (hc : ¬ sLen + n ≤ sCap) (hb : i.bytes ≠ 0) (hfit : (sLen + n) * i.bytes ≤ 140737488355328) :
    (Builtin.append_ #[t, u] ty #[.slice base sLen sCap, x]).run P w = .ok (.slice (some ⟨w.heap.size, 0, none⟩) (sLen + n) (grownCap w (sLen + n) sCap e))
        (w.drew.alloc (.cells (olds.toArray ++ (news.toArray ++ Builtin.zeroCells z.cells (grownCap w (sLen + n) sCap e - (sLen + n)))) e)) := by
  have h48 : ¬ (281474976710656 < Builtin.nextslicecap (sLen + n) sCap * i.bytes) := by
    have := growslice_fits (need := sLen + n) (old := sCap) (by omega) hfit; omega
  rcases hu with ⟨e2, hu⟩ | hu <;> simp [Builtin.append_, run_underlying ht, run_underlying hu, sizeOf, typeInfo, zeroValue, hi, hz, hlen, hc, hb, h48, Question.forced, hnew, hold, newRow, grownCap]

theorem append0_fits (ht : P.underlying t = some (.slice e)) (hi : P.info? e = some i) (hz : i.zero = some z) {k k' : IntKind} (hu : P.underlying u = some (.int k)) (base : Option Addr) {m : Int} (hm : 0 ≤ m) (hm2 : m * i.bytes ≤ 140737488355328)
    (hw : IntKind.i64.wrap m = m) (hs : i.size = 1) (hzs : z.cells.size = 1) (hc : sLen + m.toNat ≤ sCap) :
    (Builtin.append_ #[t, u] ty #[.slice base sLen sCap, .int k' m]).run P w = fitRun P w base (sLen + m.toNat) sCap (sLen * i.size) (Builtin.zeroCells z.cells m.toNat).toList := by
  unfold fitRun
  have h1 : ¬ m < 0 := by omega
  have h2 : ¬ 281474976710656 < m * i.bytes := by omega
  by_cases h0 : m.toNat = 0
  · have hz0 : Builtin.zeroCells z.cells m.toNat = #[] := by apply Array.eq_empty_of_size_eq_zero; rw [size_zero, h0]; simp
    have hz1 : Builtin.zeroCells z.cells 0 = #[] := by rw [← h0]; exact hz0
    rw [h0] at hc ⊢
    have hc' : sLen ≤ sCap := hc
    cases base <;> simp [Builtin.append_, run_underlying ht, run_underlying hu, sizeOf, typeInfo, hi, hz, hc', asInt, asIntOf, hw, h1, h2, h0, hz1, hs, storeCells]
  · cases base <;> simp [Builtin.append_, run_underlying ht, run_underlying hu, sizeOf, typeInfo, hi, hz, hc, asInt, asIntOf, hw, h1, h2, h0, hs, zeroValue]

theorem append0_grows (ht : P.underlying t = some (.slice e)) (hi : P.info? e = some i) (hz : i.zero = some z) {k k' : IntKind} (hu : P.underlying u = some (.int k)) (base : Option Addr) {m : Int} (hm : 0 ≤ m) (hm2 : m * i.bytes ≤ 140737488355328)
    (hw : IntKind.i64.wrap m = m) (hs : i.size = 1) (hold : (Builtin.firstCells i.size sLen (.slice base sLen sCap)).run P w.drew = .ok olds.toArray w.drew)
    (hc : ¬ sLen + m.toNat ≤ sCap) (hb : i.bytes ≠ 0) (hfit : (sLen + m.toNat) * i.bytes ≤ 140737488355328) :
    (Builtin.append_ #[t, u] ty #[.slice base sLen sCap, .int k' m]).run P w = .ok (.slice (some ⟨w.heap.size, 0, none⟩) (sLen + m.toNat) (grownCap w (sLen + m.toNat) sCap e))
        (w.drew.alloc (.cells (olds.toArray ++ (Builtin.zeroCells z.cells m.toNat ++ Builtin.zeroCells z.cells (grownCap w (sLen + m.toNat) sCap e - (sLen + m.toNat)))) e)) := by
  have h1 : ¬ m < 0 := by omega
  have h2 : ¬ 281474976710656 < m * i.bytes := by omega
  have h48 : ¬ (281474976710656 < Builtin.nextslicecap (sLen + m.toNat) sCap * i.bytes) := by
    have := growslice_fits (need := sLen + m.toNat) (old := sCap) (by omega) hfit; omega
  have h63 : ¬ 9223372036854775807 < (sLen : Int) + (m.toNat : Int) := by
    have : sLen + m.toNat ≤ (sLen + m.toNat) * i.bytes := Nat.le_mul_of_pos_right _ (by omega)
    omega
  have hz0 : Builtin.zeroCells z.cells 0 = #[] := by apply Array.eq_empty_of_size_eq_zero; rw [size_zero]; simp
  by_cases h0 : m.toNat = 0
  · rw [h0] at h48 hc h63 ⊢
    simp only [Nat.add_zero] at hc h48
    have h63' : ¬ 9223372036854775807 < (sLen : Int) := by simpa using h63
    simp [Builtin.append_, run_underlying ht, run_underlying hu, sizeOf, typeInfo, zeroValue, hi, hz, asInt, asIntOf, hw, h1, h2, h0, hs, hc, hb, h48, h63', Question.forced, newRow, grownCap, hz0]
    simp [hs] at hold
    simp [hold]
    intro hlt; exfalso; omega
  · simp [Builtin.append_, run_underlying ht, run_underlying hu, sizeOf, typeInfo, zeroValue, hi, hz, asInt, asIntOf, hw, h1, h2, h0, hs, hc, hb, h48, h63, Question.forced, newRow, grownCap]
    simp [hs] at hold
    simp [hold]
    intro hlt; exfalso; omega
end
end Go.Am

