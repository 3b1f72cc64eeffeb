/-
  What a start's data is read as: slices of anything, structs.
-/
import Derived.Test.YtndphnojmpeogaaFy
import Derived.ChangeSame
import Derived.DataReads
import Derived.OpenShut
namespace Go.Am
set_option linter.unusedVariables false
set_option linter.unusedSimpArgs false
set_option linter.unusedSectionVars false
open Go.RowKit (Below)
open Go.ChangeShapes Go.WideShapes

section
variable {H : Type} {enc : TypeId × Value → H} {P : Program} {W : World} {base : Nat} {spare : Nat → Bool} {held : Bool}

/-- Data of a type, read as abstract cells. -/
def Reads (enc : TypeId × Value → H) (P : Program) (W : World) (base : Nat) (spare : Nat → Bool) (held : Bool) (t : TypeId) {α : Type} (f : α → List AVal) (good : α → Prop) : Prop :=
  ∀ (n : Nat) (cs : List Value) (y : DataW H × List MemPlace), DataW.trod enc P W base spare held n t cs = some y → ∃ a, RepL (ghost0 W) (f a) cs ∧ (∀ v ∈ cs, v.oneCell = true) ∧ good a

theorem reads_int {t : TypeId} {k : IntKind} (ht : P.underlying t = some (.int k)) : Reads enc P W base spare held t (fun n : Int => [.v (.int k n)]) (fun n => (Lit.int k n).wf = true) := by
  intro n cs y h
  obtain ⟨m, rfl, rfl, hw⟩ := DataW.trod_int ht h
  exact ⟨m, .cons (.v rfl) .nil, fun v hv => by simp at hv; subst hv; rfl, hw⟩
theorem reads_i64 {t : TypeId} (ht : P.underlying t = some (.int .i64)) : Reads enc P W base spare held t (fun n : Int => [.v (.int .i64 n)]) (fun n => -9223372036854775808 ≤ n ∧ n ≤ 9223372036854775807) := by
  intro n cs y h
  obtain ⟨m, h1, h2, h3⟩ := reads_int ht n cs y h
  refine ⟨m, h1, h2, ?_⟩
  simp only [Lit.wf, IntKind.min, IntKind.max, IntKind.signed, IntKind.bits] at h3
  simp at h3
  omega
theorem reads_u64 {t : TypeId} (ht : P.underlying t = some (.int .u64)) : Reads enc P W base spare held t (fun n : Nat => [.v (.int .u64 n)]) (fun n => n < 18446744073709551616) := by
  intro n cs y h
  obtain ⟨m, h1, h2, h3⟩ := reads_int ht n cs y h
  simp only [Lit.wf, IntKind.min, IntKind.max, IntKind.signed, IntKind.bits] at h3
  simp at h3
  refine ⟨m.toNat, ?_, h2, by omega⟩
  dsimp only
  rw [show ((m.toNat : Nat) : Int) = m by omega]; exact h1
theorem reads_u16 {t : TypeId} (ht : P.underlying t = some (.int .u16)) : Reads enc P W base spare held t (fun n : Nat => [.v (.int .u16 n)]) (fun n => n < 65536) := by
  intro n cs y h
  obtain ⟨m, h1, h2, h3⟩ := reads_int ht n cs y h
  simp only [Lit.wf, IntKind.min, IntKind.max, IntKind.signed, IntKind.bits] at h3
  simp at h3
  refine ⟨m.toNat, ?_, h2, by omega⟩
  dsimp only
  rw [show ((m.toNat : Nat) : Int) = m by omega]; exact h1
theorem reads_u8 {t : TypeId} (ht : P.underlying t = some (.int .u8)) : Reads enc P W base spare held t (fun b : UInt8 => [byteV b]) (fun _ => True) := by
  intro n cs y h
  obtain ⟨m, h1, h2, h3⟩ := reads_int ht n cs y h
  simp only [Lit.wf, IntKind.min, IntKind.max, IntKind.signed, IntKind.bits] at h3
  simp at h3
  refine ⟨UInt8.ofNat m.toNat, ?_, h2, trivial⟩
  dsimp only [byteV]
  rw [show ((UInt8.ofNat m.toNat).toNat : Int) = m by rw [UInt8.toNat_ofNat']; omega]; exact h1

/-- A struct of two fields. -/
theorem reads_struct2 {t : TypeId} {f0 f1 : Field} {α β : Type} {a : α → List AVal} {b : β → List AVal} {ga : α → Prop} {gb : β → Prop} (ht : P.underlying t = some (.struct #[f0, f1])) (h0 : f0.offset = 0) (h1 : f1.offset = P.cellsOf f0.type) (hs : P.cellsOf t = P.cellsOf f0.type + P.cellsOf f1.type)
    (ra : Reads enc P W base spare held f0.type a ga) (rb : Reads enc P W base spare held f1.type b gb) :
    Reads enc P W base spare held t (fun p : α × β => a p.1 ++ b p.2) (fun p => ga p.1 ∧ gb p.2) := by
  intro n cs y h
  obtain ⟨y0, y1, m, rfl, hl, g0, g1⟩ := trod_struct2 ht h
  obtain ⟨x0, r0, c0, k0⟩ := ra _ _ _ g0
  obtain ⟨x1, r1, c1, k1⟩ := rb _ _ _ g1
  have e : cs = (cs.drop f0.offset).take (P.cellsOf f0.type) ++ (cs.drop f1.offset).take (P.cellsOf f1.type) := by
    rw [h0, h1, List.drop_zero, List.take_of_length_le (l := cs.drop _) (by rw [List.length_drop]; omega), List.take_append_drop]
  refine ⟨(x0, x1), ?_, ?_, k0, k1⟩
  · rw [e]; exact r0.append r1
  · intro v hv
    rw [e] at hv
    rcases List.mem_append.1 hv with h | h
    · exact c0 v h
    · exact c1 v h

theorem addr_eq {b off i : Nat} : (⟨b, off, none⟩ : Addr).add i = ⟨b, off + i, none⟩ := by
  unfold Addr.add
  split
  · rename_i h; subst h; rfl
  · rfl

/-- The elements of a slice. -/
theorem reads_elems {e : TypeId} {α : Type} {f : α → List AVal} {good : α → Prop} {s b off : Nat} (hc : P.cellsOf e = s) (re : Reads enc P W base spare held e f good) {n : Nat} {elems : List (DataW H × List MemPlace)} :
    ∀ (m : Nat), m ≤ elems.length → (∀ i, i < elems.length → (W.cells? base ((⟨b, off, none⟩ : Addr).add (i * P.cellsOf e)) (P.cellsOf e)).bind (DataW.trod enc P W base spare held n e) = elems[i]?) →
      ∃ (l : List α) (vs : List Value), l.length = m ∧ vs.length = m * s ∧ RepL (ghost0 W) (l.flatMap f) vs ∧ (∀ i v, vs[i]? = some v → W.cell? ⟨b, off + i, none⟩ = some v ∧ v.oneCell = true) ∧ ∀ a ∈ l, good a
  | 0, _, _ => ⟨[], [], rfl, by simp, .nil, fun i v h => by simp at h, fun a h => by simp at h⟩
  | m + 1, hm, h => by
    obtain ⟨l, vs, h1, h2, h3, h4, h5⟩ := reads_elems hc re m (by omega) h
    have hb := h m (by omega)
    rw [List.getElem?_eq_getElem (by omega), Option.bind_eq_some_iff] at hb
    obtain ⟨cs, g1, g2⟩ := hb
    obtain ⟨a, r, c, k⟩ := re _ _ _ g2
    obtain ⟨_, q1, q2⟩ := World.cells?_some g1
    rw [hc] at q1 q2
    refine ⟨l ++ [a], vs ++ cs, by simp [h1], by rw [List.length_append, h2, q1, Nat.succ_mul], ?_, ?_, ?_⟩
    · rw [List.flatMap_append, List.flatMap_cons, List.flatMap_nil, List.append_nil]; exact h3.append r
    · intro i v hv
      by_cases hi : i < vs.length
      · rw [List.getElem?_append_left hi] at hv; exact h4 i v hv
      · rw [List.getElem?_append_right (by omega)] at hv
        have hlt := (List.getElem?_eq_some_iff.1 hv).1
        have := q2 (i - vs.length) (by omega)
        rw [addr_eq, addr_eq, hv] at this
        rw [show off + m * s + (i - vs.length) = off + i by rw [h2]; rw [h2] at hi; omega] at this
        exact ⟨this, c v (List.mem_of_getElem? hv)⟩
    · intro x hx
      rcases List.mem_append.1 hx with h | h
      · exact h5 x h
      · simp at h; subst h; exact k

/-- A slice among a start's arguments. -/
theorem slices0 {t e : TypeId} {α : Type} {f : α → AVal} {good : α → Prop} {s B b1 j : Nat} {r : Reach} {v : Value} {d : DataW H} {ps : List MemPlace} {ts : List TypeId} {ds : List (DataW H)}
    (hsz : (DataW.weightsEach P ts ds).all (· ≤ reachBytes) = true) (ht : ts[j]? = some t) (hd : ds[j]? = some d) (hu : P.underlying t = some (.slice e)) (hc : P.cellsOf e = s) (hB : P.bytesOf e = B) (hs : ∀ a, (f a).cells.length = s)
    (re : Reads enc P W base spare held e (fun a => (f a).cells) good) (hv : Value.okWide P W r b1 t v) (h : DataW.Trod enc P W base spare held t v d ps) :
    ∃ l : List α, RepV (ghost0 W) (.slice s (l.map f) .none) v ∧ l.length * B ≤ reachBytes ∧ ∀ a ∈ l, good a := by
  obtain ⟨a, len, cap, rfl⟩ := okWide_slice hu hv
  obtain ⟨fuel, hf⟩ := h
  rcases DataW.trod_slice hu hf with ⟨hcs, _⟩ | ⟨x, l, c, elems, rest, n, _, hcs, hx, _, hl, hm, hlen, hel, _, _⟩
  · simp [Value.cells] at hcs
    obtain ⟨rfl, rfl, rfl⟩ := hcs
    exact ⟨[], .nil, by simp, fun a h => by simp at h⟩
  · simp [Value.cells] at hcs
    obtain ⟨rfl, rfl, rfl⟩ := hcs
    have hsp : x.spot = none := by
      have := hv
      simp only [Value.okWide, hu, Cell.okWide, Cell.ok] at this
      exact this.2.2.2.1
    obtain ⟨b, off, spot⟩ := x
    simp only at hsp
    subst hsp
    subst hlen
    obtain ⟨xs, vs, g1, g2, g3, g4, g5⟩ := reads_elems hc re elems.length (Nat.le_refl _) hel
    refine ⟨xs, ?_, ?_, g5⟩
    · refine .slice (vs := vs) (by rw [List.length_map]; exact g1) hl (fun y hy => ?_) ?_ (fun i v hv => ?_) trivial
      · obtain ⟨a, _, rfl⟩ := List.mem_map.1 hy; exact hs a
      · rw [List.flatMap_map]; exact g3
      · rw [ghost0_cell]; exact g4 i v hv
    · obtain ⟨hx, _⟩ := Prod.mk.inj hx
      subst hx
      have z := sized_slice hsz ht hd hu
      rw [hB, List.length_map, List.length_map] at z
      rw [g1]
      exact Nat.le_trans (Nat.mul_le_mul_right _ (by omega)) z

theorem reads_bool {t : TypeId} (ht : P.underlying t = some .bool) : Reads enc P W base spare held t (fun b : Bool => [.v (.bool b)]) (fun _ => True) := by
  intro n cs y h
  have : ∃ b, cs = [.bool b] := by
    cases n with
    | zero => simp [DataW.trod] at h
    | succ n =>
      unfold DataW.trod at h
      rw [ht] at h
      split at h <;> simp_all
  obtain ⟨b, rfl⟩ := this
  exact ⟨b, .cons (.v rfl) .nil, fun v hv => by simp at hv; subst hv; rfl, trivial⟩

/-- A struct of three fields. -/
theorem reads_struct3 {t : TypeId} {f0 f1 f2 : Field} {α β γ : Type} {a : α → List AVal} {b : β → List AVal} {c : γ → List AVal} {ga : α → Prop} {gb : β → Prop} {gc : γ → Prop} (ht : P.underlying t = some (.struct #[f0, f1, f2])) (h0 : f0.offset = 0) (h1 : f1.offset = P.cellsOf f0.type) (h2 : f2.offset = P.cellsOf f0.type + P.cellsOf f1.type)
    (hs : P.cellsOf t = P.cellsOf f0.type + P.cellsOf f1.type + P.cellsOf f2.type)
    (ra : Reads enc P W base spare held f0.type a ga) (rb : Reads enc P W base spare held f1.type b gb) (rc : Reads enc P W base spare held f2.type c gc) :
    Reads enc P W base spare held t (fun p : α × β × γ => a p.1 ++ (b p.2.1 ++ c p.2.2)) (fun p => ga p.1 ∧ gb p.2.1 ∧ gc p.2.2) := by
  intro n cs y h
  obtain ⟨xs, m, _, rfl, hl, hlen, hf⟩ := DataW.trod_struct ht h
  match xs, hlen with
  | [y0, y1, y2], _ =>
  have g0 : DataW.trod enc P W base spare held m f0.type ((cs.drop f0.offset).take (P.cellsOf f0.type)) = some y0 := by simpa using hf 0 f0 rfl
  have g1 : DataW.trod enc P W base spare held m f1.type ((cs.drop f1.offset).take (P.cellsOf f1.type)) = some y1 := by simpa using hf 1 f1 rfl
  have g2 : DataW.trod enc P W base spare held m f2.type ((cs.drop f2.offset).take (P.cellsOf f2.type)) = some y2 := by simpa using hf 2 f2 rfl
  obtain ⟨x0, r0, c0, k0⟩ := ra _ _ _ g0
  obtain ⟨x1, r1, c1, k1⟩ := rb _ _ _ g1
  obtain ⟨x2, r2, c2, k2⟩ := rc _ _ _ g2
  have e : cs = (cs.drop f0.offset).take (P.cellsOf f0.type) ++ ((cs.drop f1.offset).take (P.cellsOf f1.type) ++ (cs.drop f2.offset).take (P.cellsOf f2.type)) := by
    rw [h0, h1, h2, List.drop_zero, List.take_of_length_le (l := cs.drop (_ + _)) (by rw [List.length_drop]; omega), ← List.drop_drop, List.take_append_drop, List.take_append_drop]
  refine ⟨(x0, x1, x2), ?_, ?_, k0, k1, k2⟩
  · rw [e]; exact r0.append (r1.append r2)
  · intro v hv
    rw [e] at hv
    rcases List.mem_append.1 hv with h | h
    · exact c0 v h
    · rcases List.mem_append.1 h with h | h
      · exact c1 v h
      · exact c2 v h

theorem spot_none {b : Addr} {e : TypeId} {s n : Nat} {y : DataW H × List MemPlace} (hs : P.cellsOf e = s) (h0 : 0 < s) (h : (W.cells? base (b.add 0) (P.cellsOf e)).bind (DataW.trod enc P W base spare held n e) = some y) : b.spot = none := by
  rw [Option.bind_eq_some_iff] at h
  obtain ⟨cs, g1, _⟩ := h
  obtain ⟨_, q1, q2⟩ := World.cells?_some g1
  have := q2 0 (by omega)
  rw [List.getElem?_eq_getElem (by omega)] at this
  have e : ((b.add 0).add 0) = b := rfl
  rw [e] at this
  unfold World.cell? at this
  split at this
  · split at this
    · cases this
    · rename_i hsp; simpa using hsp
  · cases this

/-- A slice that stands in a cell. -/
theorem reads_slice {t e : TypeId} {α : Type} {f : α → AVal} {good : α → Prop} {s : Nat} (hsp : ∀ b, spare b = true) (hu : P.underlying t = some (.slice e)) (hc : P.cellsOf e = s) (h0 : 0 < s) (hs : ∀ a, (f a).cells.length = s)
    (re : Reads enc P W base spare held e (fun a => (f a).cells) good) : Reads enc P W base spare held t (fun l : List α => [.slice s (l.map f) .none]) (fun l => l.length ≤ maxLen ∧ ∀ a ∈ l, good a) := by
  intro m cs y h
  rcases DataW.trod_slice hu h with ⟨rfl, _⟩ | ⟨x, len, cap, elems, rest, n, _, rfl, hx, _, hl, hm, hlen, hel, hre, _⟩
  · exact ⟨[], .cons .nil .nil, fun v hv => by simp at hv; subst hv; rfl, by simp, fun a h => by simp at h⟩
  · by_cases hcap : cap = 0
    · have : len = 0 := by omega
      subst this; subst hcap
      exact ⟨[], .cons .nil .nil, fun v hv => by simp at hv; subst hv; rfl, by simp, fun a h => by simp at h⟩
    · have hspot : x.spot = none := by
        by_cases h1 : len = 0
        · obtain ⟨r1, r2⟩ := hre (hsp _)
          have := r2 0 (by omega)
          rw [h1, Nat.zero_add, Nat.zero_mul, List.getElem?_eq_getElem (by omega)] at this
          exact spot_none hc h0 this
        · have := hel 0 (by omega)
          rw [Nat.zero_mul, List.getElem?_eq_getElem (by omega)] at this
          exact spot_none hc h0 this
      obtain ⟨b, off, spot⟩ := x
      simp only at hspot
      subst hspot
      subst hlen
      obtain ⟨xs, vs, g1, g2, g3, g4, g5⟩ := reads_elems hc re elems.length (Nat.le_refl _) hel
      refine ⟨xs, .cons ?_ .nil, fun v hv => by simp at hv; subst hv; rfl, by omega, g5⟩
      refine .slice (vs := vs) (by rw [List.length_map]; exact g1) hl (fun y hy => ?_) ?_ (fun i v hv => ?_) trivial
      · obtain ⟨a, _, rfl⟩ := List.mem_map.1 hy; exact hs a
      · rw [List.flatMap_map]; exact g3
      · rw [ghost0_cell]; exact g4 i v hv

/-- An array of numbers. -/
theorem reads_array_i64 {t e : TypeId} {n : Nat} (ht : P.underlying t = some (.array n e)) (he : P.underlying e = some (.int .i64)) (hc : P.cellsOf e = 1) (hs : P.cellsOf t = n) :
    Reads enc P W base spare held t (fun l : List Int => l.map fun z => .v (.int .i64 z)) (fun l => l.length = n ∧ ∀ z ∈ l, -9223372036854775808 ≤ z ∧ z ≤ 9223372036854775807) := by
  intro fuel cs y h
  obtain ⟨xs, m, _, _, hl, hlen, hx⟩ := DataW.trod_array ht h
  rw [hs] at hl
  have key : ∀ k, k ≤ n → ∃ l : List Int, l.length = k ∧ RepL (ghost0 W) (l.map fun z => .v (.int .i64 z)) (cs.take k) ∧ (∀ v ∈ cs.take k, v.oneCell = true) ∧ ∀ z ∈ l, -9223372036854775808 ≤ z ∧ z ≤ 9223372036854775807 := by
    intro k
    induction k with
    | zero => intro _; exact ⟨[], rfl, .nil, by simp, by simp⟩
    | succ k ih =>
      intro hk
      obtain ⟨l, h1, h2, h3, h4⟩ := ih (by omega)
      have hy := hx k (by omega)
      rw [List.getElem?_eq_getElem (by omega), hc, Nat.mul_one] at hy
      obtain ⟨z, r, c, g⟩ := reads_i64 he _ _ _ hy
      have e : cs.take (k + 1) = cs.take k ++ (cs.drop k).take 1 := List.take_add
      refine ⟨l ++ [z], by simp [h1], ?_, ?_, ?_⟩
      · rw [e, List.map_append]; exact h2.append r
      · intro v hv
        rw [e] at hv
        rcases List.mem_append.1 hv with h | h
        · exact h3 v h
        · exact c v h
      · intro u hu
        rcases List.mem_append.1 hu with h | h
        · exact h4 u h
        · simp at h; subst h; exact g
  obtain ⟨l, h1, h2, h3, h4⟩ := key n (Nat.le_refl _)
  rw [List.take_of_length_le (by omega)] at h2 h3
  exact ⟨l, h2, h3, h1, h4⟩
/-- An array, or a struct, among a start's arguments. -/
theorem aggs0 {t : TypeId} {α : Type} {f : α → List AVal} {good : α → Prop} {b1 : Nat} {r : Reach} {v : Value} {d : DataW H} {ps : List MemPlace} (hu : (∃ n e, P.underlying t = some (.array n e)) ∨ ∃ fs, P.underlying t = some (.struct fs))
    (re : Reads enc P W base spare held t f good) (hv : Value.okWide P W r b1 t v) (h : DataW.Trod enc P W base spare held t v d ps) : ∃ a, RepV (ghost0 W) (.agg (f a)) v ∧ good a := by
  have : ∃ cs, v = .agg cs := by
    rcases hu with ⟨n, e, hu⟩ | ⟨fs, hu⟩ <;> simp only [Value.okWide, hu] at hv <;> obtain ⟨cs, rfl, _⟩ := hv <;> exact ⟨cs, rfl⟩
  obtain ⟨cs, rfl⟩ := this
  obtain ⟨fuel, hf⟩ := h
  obtain ⟨a, h1, _, h3⟩ := re _ _ _ hf
  refine ⟨a, ?_, h3⟩
  have := RepV.agg h1
  simpa [Value.cells] using this
end
end Go.Am

