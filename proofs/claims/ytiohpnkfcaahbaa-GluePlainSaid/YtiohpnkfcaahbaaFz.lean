/-
  What a start's data is read as: slices of anything, structs.
-/
import Derived.Test.YtiohpnkfcaahbaaFy
import Derived.ChangeSame
import Derived.DataReads
import Derived.OpenShut
namespace Go.Am
set_option linter.unusedVariables false
set_option linter.unusedSimpArgs false
set_option linter.unusedSectionVars false
open Go.RowKit (Below)
open Go.ChangeShapes Go.WideShapes

section
variable {H : Type} {enc : TypeId × Value → H} {P : Program} {W : World} {base : Nat} {spare : Nat → Bool} {held : Bool}

/-- Data of a type, read as abstract cells. -/
def Reads (enc : TypeId × Value → H) (P : Program) (W : World) (base : Nat) (spare : Nat → Bool) (held : Bool) (t : TypeId) {α : Type} (f : α → List AVal) (good : α → Prop) : Prop :=
  ∀ (n : Nat) (cs : List Value) (y : DataW H × List MemPlace), DataW.trod enc P W base spare held n t cs = some y → (∀ k ∈ y.1.weights P t, k ≤ reachBytes) → ∃ a, RepL (ghost0 W) (f a) cs ∧ (∀ v ∈ cs, v.oneCell = true) ∧ good a

theorem reads_int {t : TypeId} {k : IntKind} (ht : P.underlying t = some (.int k)) : Reads enc P W base spare held t (fun n : Int => [.v (.int k n)]) (fun n => (Lit.int k n).wf = true) := by
  intro n cs y h _
  obtain ⟨m, rfl, rfl, hw⟩ := DataW.trod_int ht h
  exact ⟨m, .cons (.v rfl) .nil, fun v hv => by simp at hv; subst hv; rfl, hw⟩
theorem weights_int {t : TypeId} {k : IntKind} (ht : P.underlying t = some (.int k)) {n : Nat} {cs : List Value} {y : DataW H × List MemPlace} (h : DataW.trod enc P W base spare held n t cs = some y) : y.1.weights P t = [] := by
  cases n with
  | zero => simp [DataW.trod] at h
  | succ n =>
    unfold DataW.trod at h
    rw [ht] at h
    split at h <;> simp_all
    obtain ⟨_, rfl⟩ := h
    simp [DataW.weights]
theorem reads_i64 {t : TypeId} (ht : P.underlying t = some (.int .i64)) : Reads enc P W base spare held t (fun n : Int => [.v (.int .i64 n)]) (fun n => -9223372036854775808 ≤ n ∧ n ≤ 9223372036854775807) := by
  intro n cs y h hw
  obtain ⟨m, h1, h2, h3⟩ := reads_int ht n cs y h hw
  refine ⟨m, h1, h2, ?_⟩
  simp only [Lit.wf, IntKind.min, IntKind.max, IntKind.signed, IntKind.bits] at h3
  simp at h3
  omega
theorem reads_u64 {t : TypeId} (ht : P.underlying t = some (.int .u64)) : Reads enc P W base spare held t (fun n : Nat => [.v (.int .u64 n)]) (fun n => n < 18446744073709551616) := by
  intro n cs y h hw
  obtain ⟨m, h1, h2, h3⟩ := reads_int ht n cs y h hw
  simp only [Lit.wf, IntKind.min, IntKind.max, IntKind.signed, IntKind.bits] at h3
  simp at h3
  refine ⟨m.toNat, ?_, h2, by omega⟩
  dsimp only
  rw [show ((m.toNat : Nat) : Int) = m by omega]; exact h1
theorem reads_u16 {t : TypeId} (ht : P.underlying t = some (.int .u16)) : Reads enc P W base spare held t (fun n : Nat => [.v (.int .u16 n)]) (fun n => n < 65536) := by
  intro n cs y h hw
  obtain ⟨m, h1, h2, h3⟩ := reads_int ht n cs y h hw
  simp only [Lit.wf, IntKind.min, IntKind.max, IntKind.signed, IntKind.bits] at h3
  simp at h3
  refine ⟨m.toNat, ?_, h2, by omega⟩
  dsimp only
  rw [show ((m.toNat : Nat) : Int) = m by omega]; exact h1
theorem reads_u8 {t : TypeId} (ht : P.underlying t = some (.int .u8)) : Reads enc P W base spare held t (fun b : UInt8 => [byteV b]) (fun _ => True) := by
  intro n cs y h hw
  obtain ⟨m, h1, h2, h3⟩ := reads_int ht n cs y h hw
  simp only [Lit.wf, IntKind.min, IntKind.max, IntKind.signed, IntKind.bits] at h3
  simp at h3
  refine ⟨UInt8.ofNat m.toNat, ?_, h2, trivial⟩
  dsimp only [byteV]
  rw [show ((UInt8.ofNat m.toNat).toNat : Int) = m by rw [UInt8.toNat_ofNat']; omega]; exact h1

theorem addr_eq {b off i : Nat} : (⟨b, off, none⟩ : Addr).add i = ⟨b, off + i, none⟩ := by
  unfold Addr.add
  split
  · rename_i h; subst h; rfl
  · rfl

theorem weights_all {H : Type} {P : Program} {e : TypeId} : ∀ {l : List (DataW H)} {d : DataW H}, d ∈ l → ∀ n ∈ d.weights P e, n ∈ DataW.weightsAll P e l
  | a :: l, d, hd, n, hn => by
    unfold DataW.weightsAll
    rcases List.mem_cons.1 hd with rfl | h
    · exact List.mem_append_left _ hn
    · exact List.mem_append_right _ (weights_all h n hn)
/-- The elements of a slice. -/
theorem reads_elems {e : TypeId} {α : Type} {f : α → List AVal} {good : α → Prop} {s b off : Nat} (hc : P.cellsOf e = s) (re : Reads enc P W base spare held e f good) {n : Nat} {elems : List (DataW H × List MemPlace)} (hwt : ∀ x ∈ elems, ∀ k ∈ x.1.weights P e, k ≤ reachBytes) :
    ∀ (m : Nat), m ≤ elems.length → (∀ i, i < elems.length → (W.cells? base ((⟨b, off, none⟩ : Addr).add (i * P.cellsOf e)) (P.cellsOf e)).bind (DataW.trod enc P W base spare held n e) = elems[i]?) →
      ∃ (l : List α) (vs : List Value), l.length = m ∧ vs.length = m * s ∧ RepL (ghost0 W) (l.flatMap f) vs ∧ (∀ i v, vs[i]? = some v → W.cell? ⟨b, off + i, none⟩ = some v ∧ v.oneCell = true) ∧ ∀ a ∈ l, good a
  | 0, _, _ => ⟨[], [], rfl, by simp, .nil, fun i v h => by simp at h, fun a h => by simp at h⟩
  | m + 1, hm, h => by
    obtain ⟨l, vs, h1, h2, h3, h4, h5⟩ := reads_elems hc re hwt m (by omega) h
    have hb := h m (by omega)
    rw [List.getElem?_eq_getElem (by omega), Option.bind_eq_some_iff] at hb
    obtain ⟨cs, g1, g2⟩ := hb
    obtain ⟨a, r, c, k⟩ := re _ _ _ g2 (hwt _ (List.getElem_mem _))
    obtain ⟨_, q1, q2⟩ := World.cells?_some g1
    rw [hc] at q1 q2
    refine ⟨l ++ [a], vs ++ cs, by simp [h1], by rw [List.length_append, h2, q1, Nat.succ_mul], ?_, ?_, ?_⟩
    · rw [List.flatMap_append, List.flatMap_cons, List.flatMap_nil, List.append_nil]; exact h3.append r
    · intro i v hv
      by_cases hi : i < vs.length
      · rw [List.getElem?_append_left hi] at hv; exact h4 i v hv
      · rw [List.getElem?_append_right (by omega)] at hv
        have hlt := (List.getElem?_eq_some_iff.1 hv).1
        have := q2 (i - vs.length) (by omega)
        rw [addr_eq, addr_eq, hv] at this
        rw [show off + m * s + (i - vs.length) = off + i by rw [h2]; rw [h2] at hi; omega] at this
        exact ⟨this, c v (List.mem_of_getElem? hv)⟩
    · intro x hx
      rcases List.mem_append.1 hx with h | h
      · exact h5 x h
      · simp at h; subst h; exact k

/-- A slice among a start's arguments. -/
theorem slices0 {t e : TypeId} {α : Type} {f : α → AVal} {good : α → Prop} {s B b1 j : Nat} {r : Reach} {v : Value} {d : DataW H} {ps : List MemPlace} {ts : List TypeId} {ds : List (DataW H)}
    (hsz : (DataW.weightsEach P ts ds).all (· ≤ reachBytes) = true) (ht : ts[j]? = some t) (hd : ds[j]? = some d) (hu : P.underlying t = some (.slice e)) (hc : P.cellsOf e = s) (hB : P.bytesOf e = B) (hs : ∀ a, (f a).cells.length = s)
    (re : Reads enc P W base spare held e (fun a => (f a).cells) good) (hv : Value.okWide P W r b1 t v) (h : DataW.Trod enc P W base spare held t v d ps) :
    ∃ l : List α, RepV (ghost0 W) (.slice s (l.map f) .none) v ∧ l.length * B ≤ reachBytes ∧ ∀ a ∈ l, good a := by
  obtain ⟨a, len, cap, rfl⟩ := okWide_slice hu hv
  obtain ⟨fuel, hf⟩ := h
  rcases DataW.trod_slice hu hf with ⟨hcs, _⟩ | ⟨x, l, c, elems, rest, n, _, hcs, hx, _, hl, hm, hlen, hel, _, _⟩
  · simp [Value.cells] at hcs
    obtain ⟨rfl, rfl, rfl⟩ := hcs
    exact ⟨[], .nil, by simp, fun a h => by simp at h⟩
  · simp [Value.cells] at hcs
    obtain ⟨rfl, rfl, rfl⟩ := hcs
    have hsp : x.spot = none := by
      have := hv
      simp only [Value.okWide, hu, Cell.okWide, Cell.ok] at this
      exact this.2.2.2.1
    obtain ⟨b, off, spot⟩ := x
    simp only at hsp
    subst hsp
    subst hlen
    obtain ⟨hx, _⟩ := Prod.mk.inj hx
    have hwt : ∀ y ∈ elems, ∀ k ∈ y.1.weights P e, k ≤ reachBytes := fun y hy k hk => by
      have := List.all_eq_true.1 hsz _ (DataW.weights_mem_each ht hd k (by rw [hx]; simp only [DataW.weights, hu]; exact List.mem_cons_of_mem _ (List.mem_append_left _ (weights_all (List.mem_map.2 ⟨y, hy, rfl⟩) k hk))))
      simpa using this
    obtain ⟨xs, vs, g1, g2, g3, g4, g5⟩ := reads_elems hc re hwt elems.length (Nat.le_refl _) hel
    refine ⟨xs, ?_, ?_, g5⟩
    · refine .slice (vs := vs) (by rw [List.length_map]; exact g1) hl (fun y hy => ?_) ?_ (fun i v hv => ?_) trivial
      · obtain ⟨a, _, rfl⟩ := List.mem_map.1 hy; exact hs a
      · rw [List.flatMap_map]; exact g3
      · rw [ghost0_cell]; exact g4 i v hv
    · subst hx
      have z := sized_slice hsz ht hd hu
      rw [hB, List.length_map, List.length_map] at z
      rw [g1]
      exact Nat.le_trans (Nat.mul_le_mul_right _ (by omega)) z

theorem reads_bool {t : TypeId} (ht : P.underlying t = some .bool) : Reads enc P W base spare held t (fun b : Bool => [.v (.bool b)]) (fun _ => True) := by
  intro n cs y h _
  have : ∃ b, cs = [.bool b] := by
    cases n with
    | zero => simp [DataW.trod] at h
    | succ n =>
      unfold DataW.trod at h
      rw [ht] at h
      split at h <;> simp_all
  obtain ⟨b, rfl⟩ := this
  exact ⟨b, .cons (.v rfl) .nil, fun v hv => by simp at hv; subst hv; rfl, trivial⟩

theorem spot_none {b : Addr} {e : TypeId} {s n : Nat} {y : DataW H × List MemPlace} (hs : P.cellsOf e = s) (h0 : 0 < s) (h : (W.cells? base (b.add 0) (P.cellsOf e)).bind (DataW.trod enc P W base spare held n e) = some y) : b.spot = none := by
  rw [Option.bind_eq_some_iff] at h
  obtain ⟨cs, g1, _⟩ := h
  obtain ⟨_, q1, q2⟩ := World.cells?_some g1
  have := q2 0 (by omega)
  rw [List.getElem?_eq_getElem (by omega)] at this
  have e : ((b.add 0).add 0) = b := rfl
  rw [e] at this
  unfold World.cell? at this
  split at this
  · split at this
    · cases this
    · rename_i hsp; simpa using hsp
  · cases this

/-- A slice that stands in a cell. -/
theorem reads_slice {t e : TypeId} {α : Type} {f : α → AVal} {good : α → Prop} {s B : Nat} (hsp : ∀ b, spare b = true) (hu : P.underlying t = some (.slice e)) (hc : P.cellsOf e = s) (hB : P.bytesOf e = B) (h0 : 0 < s) (hs : ∀ a, (f a).cells.length = s)
    (re : Reads enc P W base spare held e (fun a => (f a).cells) good) : Reads enc P W base spare held t (fun l : List α => [.slice s (l.map f) .none]) (fun l => l.length * B ≤ reachBytes ∧ ∀ a ∈ l, good a) := by
  intro m cs y h hw
  rcases DataW.trod_slice hu h with ⟨rfl, _⟩ | ⟨x, len, cap, elems, rest, n, _, rfl, hx, _, hl, hm, hlen, hel, hre, _⟩
  · exact ⟨[], .cons .nil .nil, fun v hv => by simp at hv; subst hv; rfl, by simp, fun a h => by simp at h⟩
  · by_cases hcap : cap = 0
    · have : len = 0 := by omega
      subst this; subst hcap
      exact ⟨[], .cons .nil .nil, fun v hv => by simp at hv; subst hv; rfl, by simp, fun a h => by simp at h⟩
    · have hspot : x.spot = none := by
        by_cases h1 : len = 0
        · obtain ⟨r1, r2⟩ := hre (hsp _)
          have := r2 0 (by omega)
          rw [h1, Nat.zero_add, Nat.zero_mul, List.getElem?_eq_getElem (by omega)] at this
          exact spot_none hc h0 this
        · have := hel 0 (by omega)
          rw [Nat.zero_mul, List.getElem?_eq_getElem (by omega)] at this
          exact spot_none hc h0 this
      obtain ⟨b, off, spot⟩ := x
      simp only at hspot
      subst hspot
      subst hlen
      have hwt : ∀ y ∈ elems, ∀ k ∈ y.1.weights P e, k ≤ reachBytes := fun y hy k hk => by
        refine hw k ?_
        rw [hx]; simp only [DataW.weights, hu]
        exact List.mem_cons_of_mem _ (List.mem_append_left _ (weights_all (List.mem_map.2 ⟨y, hy, rfl⟩) k hk))
      have hz : (elems.length + rest.length) * P.bytesOf e ≤ reachBytes := by
        refine hw _ ?_
        rw [hx]; simp only [DataW.weights, hu, List.length_map]
        exact List.mem_cons_self ..
      obtain ⟨xs, vs, g1, g2, g3, g4, g5⟩ := reads_elems hc re hwt elems.length (Nat.le_refl _) hel
      refine ⟨xs, .cons ?_ .nil, fun v hv => by simp at hv; subst hv; rfl, by rw [g1, ← hB]; exact Nat.le_trans (Nat.mul_le_mul_right _ (by omega)) hz, g5⟩
      refine .slice (vs := vs) (by rw [List.length_map]; exact g1) hl (fun y hy => ?_) ?_ (fun i v hv => ?_) trivial
      · obtain ⟨a, _, rfl⟩ := List.mem_map.1 hy; exact hs a
      · rw [List.flatMap_map]; exact g3
      · rw [ghost0_cell]; exact g4 i v hv

/-- An array of numbers. -/
theorem reads_array_i64 {t e : TypeId} {n : Nat} (ht : P.underlying t = some (.array n e)) (he : P.underlying e = some (.int .i64)) (hc : P.cellsOf e = 1) (hs : P.cellsOf t = n) :
    Reads enc P W base spare held t (fun l : List Int => l.map fun z => .v (.int .i64 z)) (fun l => l.length = n ∧ ∀ z ∈ l, -9223372036854775808 ≤ z ∧ z ≤ 9223372036854775807) := by
  intro fuel cs y h _
  obtain ⟨xs, m, _, _, hl, hlen, hx⟩ := DataW.trod_array ht h
  rw [hs] at hl
  have key : ∀ k, k ≤ n → ∃ l : List Int, l.length = k ∧ RepL (ghost0 W) (l.map fun z => .v (.int .i64 z)) (cs.take k) ∧ (∀ v ∈ cs.take k, v.oneCell = true) ∧ ∀ z ∈ l, -9223372036854775808 ≤ z ∧ z ≤ 9223372036854775807 := by
    intro k
    induction k with
    | zero => intro _; exact ⟨[], rfl, .nil, by simp, by simp⟩
    | succ k ih =>
      intro hk
      obtain ⟨l, h1, h2, h3, h4⟩ := ih (by omega)
      have hy := hx k (by omega)
      rw [List.getElem?_eq_getElem (by omega), hc, Nat.mul_one] at hy
      obtain ⟨z, r, c, g⟩ := reads_i64 he _ _ _ hy (fun k hk => by rw [weights_int he hy] at hk; cases hk)
      have e : cs.take (k + 1) = cs.take k ++ (cs.drop k).take 1 := List.take_add
      refine ⟨l ++ [z], by simp [h1], ?_, ?_, ?_⟩
      · rw [e, List.map_append]; exact h2.append r
      · intro v hv
        rw [e] at hv
        rcases List.mem_append.1 hv with h | h
        · exact h3 v h
        · exact c v h
      · intro u hu
        rcases List.mem_append.1 hu with h | h
        · exact h4 u h
        · simp at h; subst h; exact g
  obtain ⟨l, h1, h2, h3, h4⟩ := key n (Nat.le_refl _)
  rw [List.take_of_length_le (by omega)] at h2 h3
  exact ⟨l, h2, h3, h1, h4⟩
/-- An array, or a struct, among a start's arguments. -/
theorem aggs0 {t : TypeId} {α : Type} {f : α → List AVal} {good : α → Prop} {b1 j : Nat} {r : Reach} {v : Value} {d : DataW H} {ps : List MemPlace} {ts : List TypeId} {ds : List (DataW H)}
    (hsz : (DataW.weightsEach P ts ds).all (· ≤ reachBytes) = true) (ht : ts[j]? = some t) (hd : ds[j]? = some d) (hu : (∃ n e, P.underlying t = some (.array n e)) ∨ ∃ fs, P.underlying t = some (.struct fs))
    (re : Reads enc P W base spare held t f good) (hv : Value.okWide P W r b1 t v) (h : DataW.Trod enc P W base spare held t v d ps) : ∃ a, RepV (ghost0 W) (.agg (f a)) v ∧ good a := by
  have : ∃ cs, v = .agg cs := by
    rcases hu with ⟨n, e, hu⟩ | ⟨fs, hu⟩ <;> simp only [Value.okWide, hu] at hv <;> obtain ⟨cs, rfl, _⟩ := hv <;> exact ⟨cs, rfl⟩
  obtain ⟨cs, rfl⟩ := this
  obtain ⟨fuel, hf⟩ := h
  obtain ⟨a, h1, _, h3⟩ := re _ _ _ hf (fun k hk => by simpa using List.all_eq_true.1 hsz _ (DataW.weights_mem_each ht hd k hk))
  refine ⟨a, ?_, h3⟩
  have := RepV.agg h1
  simpa [Value.cells] using this
/-- The fields of a struct, from a place on. -/
def ReadsFs (enc : TypeId × Value → H) (P : Program) (W : World) (base : Nat) (spare : Nat → Bool) (held : Bool) (L : Nat) (fs : List Field) (off : Nat) {α : Type} (f : α → List AVal) (good : α → Prop) : Prop :=
  ∀ (n : Nat) (cs : List Value) (xs : List (DataW H × List MemPlace)), cs.length = L → xs.length = fs.length → (∀ (i : Nat) (fd : Field), fs[i]? = some fd → DataW.trod enc P W base spare held n fd.type ((cs.drop fd.offset).take (P.cellsOf fd.type)) = xs[i]?) →
    (∀ (i : Nat) (fd : Field) x, fs[i]? = some fd → xs[i]? = some x → ∀ k ∈ x.1.weights P fd.type, k ≤ reachBytes) → ∃ a, RepL (ghost0 W) (f a) (cs.drop off) ∧ (∀ v ∈ cs.drop off, v.oneCell = true) ∧ good a
theorem readsFs_last {L off : Nat} {fd : Field} {α : Type} {f : α → List AVal} {good : α → Prop} (h0 : fd.offset = off) (h1 : L = off + P.cellsOf fd.type) (r : Reads enc P W base spare held fd.type f good) : ReadsFs enc P W base spare held L [fd] off f good := by
  intro n cs xs hl hx h hw
  match xs, hx with
  | [y], _ =>
  have g := h 0 fd rfl
  rw [h0, List.take_of_length_le (by rw [List.length_drop]; omega)] at g
  exact r n _ y (by simpa using g) (hw 0 fd y rfl rfl)
theorem readsFs_cons {L off off2 : Nat} {fd : Field} {fs : List Field} {α β : Type} {f : α → List AVal} {g : β → List AVal} {ga : α → Prop} {gb : β → Prop} (h0 : fd.offset = off) (h1 : off2 = off + P.cellsOf fd.type)
    (r : Reads enc P W base spare held fd.type f ga) (rs : ReadsFs enc P W base spare held L fs off2 g gb) : ReadsFs enc P W base spare held L (fd :: fs) off (fun p : α × β => f p.1 ++ g p.2) (fun p => ga p.1 ∧ gb p.2) := by
  intro n cs xs hl hx h hw
  match xs, hx with
  | y :: ys, hx =>
  have k := h 0 fd rfl
  rw [h0] at k
  obtain ⟨a, r1, c1, g1⟩ := r n _ y (by simpa using k) (hw 0 fd y rfl rfl)
  obtain ⟨b, r2, c2, g2⟩ := rs n cs ys hl (by simpa using hx) (fun i e he => by simpa using h (i + 1) e he) (fun i e x he hx => hw (i + 1) e x (by simpa using he) (by simpa using hx))
  have e : cs.drop off = (cs.drop off).take (P.cellsOf fd.type) ++ cs.drop off2 := by
    rw [h1, ← List.drop_drop, List.take_append_drop]
  refine ⟨(a, b), ?_, ?_, g1, g2⟩
  · rw [e]; exact r1.append r2
  · intro v hv
    rw [e] at hv
    rcases List.mem_append.1 hv with h | h
    · exact c1 v h
    · exact c2 v h
theorem reads_struct {t : TypeId} {fs : Array Field} {L : Nat} {α : Type} {f : α → List AVal} {good : α → Prop} (ht : P.underlying t = some (.struct fs)) (hl : P.cellsOf t = L) (r : ReadsFs enc P W base spare held L fs.toList 0 f good) : Reads enc P W base spare held t f good := by
  intro n cs y h hw
  obtain ⟨xs, m, _, rfl, hc, hlen, hf⟩ := DataW.trod_struct ht h
  obtain ⟨a, h1, h2, h3⟩ := r m cs xs (by omega) (by simpa using hlen) (fun i fd hfd => hf i fd (by simpa using hfd)) (fun i fd x hfd hx k hk => by
    refine hw k ?_
    simp only [DataW.weights, ht]
    exact DataW.weights_mem_each (j := i) (t := fd.type) (d := x.1) (by rw [List.getElem?_map, hfd]; rfl) (by rw [List.getElem?_map, hx]; rfl) k hk)
  exact ⟨a, h1, h2, h3⟩
end
end Go.Am

