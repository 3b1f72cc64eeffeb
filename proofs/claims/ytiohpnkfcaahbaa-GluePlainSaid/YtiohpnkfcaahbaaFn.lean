/-
  Pieces of slices, make, functions, calls.
-/
import Derived.Test.YtiohpnkfcaahbaaFm
namespace Go.Am
set_option linter.unusedVariables false
set_option linter.unusedSimpArgs false
set_option linter.unusedSectionVars false
open Go.RowKit (Below)

section
variable {P : Program} {κ : Ghost} {σ : AHeap} {w : World} {n : Nat} {env : Env} {a : Act} {K : AVal → AHeap → Prop} {C : Cfg}
variable {dst : Option Tmp} {ty : TypeId} {pos : String} {after : Array Edge} {guard : Option (Nat × Bool)}

/-- A bound of a slice expression, as the run has it. -/
def bnd (d : Int) (x : Option Value) (k : Int) : Prop := match x with
  | none => k = d
  | some v => ∃ kd, v = .int kd k

theorem intOr_spec {t : TypeId} {x : Option Operand} {x' : Option Opd} (hE : RepE κ n env a.tmps) (hx : optT P t x = some x') {d : Int} {k : Int → Prop} (h : intOr env x' d k) : ∃ m, bnd d (x.map a.eval) m ∧ k m := by
  cases x with
  | none => simp only [optT, Option.some.injEq] at hx; subst hx; exact ⟨d, rfl, h⟩
  | some x =>
    simp only [optT] at hx
    obtain ⟨y, hy, rfl⟩ := optmap hx
    have ry := opT_spec hE hy
    simp only [intOr] at h
    split at h
    · rename_i kd m he
      rw [he] at ry
      obtain ⟨hv, _⟩ := ry.v_inv
      exact ⟨m, ⟨kd, hv⟩, h⟩
    · exact h.elim

theorem sliceBound_ok {x : Value} {y : Nat} {code : BoundsCode} {kd : IntKind} {m : Int} (hx : x = .int kd m) (h0 : 0 ≤ m) (h1 : m ≤ y) : (Instr.sliceBound x y code).run P w = .ok m.toNat w := by
  subst hx
  simp only [Instr.sliceBound, asIntOf, Sem.run_bind, Sem.run_pure, Result.andThen_ok]
  rw [if_pos ⟨h0, h1⟩]; rfl

theorem slice_run {t e : TypeId} {ei : TypeInfo} (ht : P.underlying t = some (.slice e)) (hei : P.info? e = some ei) {A : Option Addr} {len cap : Nat} {lo hi mx : Option Value} {l h m : Int}
    (hl : bnd 0 lo l) (hh : bnd len hi h) (hm : bnd cap mx m) (hmx : mx.isSome = true → hi.isSome = true) (h0 : 0 ≤ l) (h1 : l ≤ h) (h2 : h ≤ m) (h3 : m ≤ cap) :
    (Instr.sliceAt t (.slice A len cap) lo hi mx).run P w = .ok (.slice (if m.toNat = l.toNat then A else A.map (·.add (l.toNat * ei.size))) (h.toNat - l.toNat) (m.toNat - l.toNat)) w := by
  have hb : (Instr.sliceBounds true len cap lo hi mx).run P w = .ok (l.toNat, h.toNat, m.toNat) w := by
    cases mx with
    | none =>
      simp only [bnd] at hm; subst hm
      cases hi with
      | none =>
        simp only [bnd] at hh; subst hh
        cases lo with
        | none => simp only [bnd] at hl; subst hl; simp [Instr.sliceBounds]
        | some lv => obtain ⟨kl, hl⟩ := hl; simp [Instr.sliceBounds, sliceBound_ok (P := P) (w := w) (y := len) hl h0 (by omega)]
      | some hv =>
        obtain ⟨kh, hh⟩ := hh
        have q := sliceBound_ok (P := P) (w := w) (y := cap) (code := .sliceAcap) hh (by omega) (by omega)
        cases lo with
        | none => simp only [bnd] at hl; subst hl; simp [Instr.sliceBounds, q]
        | some lv => obtain ⟨kl, hl⟩ := hl; simp [Instr.sliceBounds, q, sliceBound_ok (P := P) (w := w) (y := h.toNat) hl h0 (by omega)]
    | some mv =>
      obtain ⟨km, hm⟩ := hm
      have qm := sliceBound_ok (P := P) (w := w) (y := cap) (code := .slice3Acap) hm (by omega) (by omega)
      cases hi with
      | none => simp at hmx
      | some hv =>
        obtain ⟨kh, hh⟩ := hh
        have q := sliceBound_ok (P := P) (w := w) (y := m.toNat) (code := .slice3B) hh (by omega) (by omega)
        cases lo with
        | none => simp only [bnd] at hl; subst hl; simp [Instr.sliceBounds, q, qm]
        | some lv => obtain ⟨kl, hl⟩ := hl; simp [Instr.sliceBounds, q, qm, sliceBound_ok (P := P) (w := w) (y := h.toNat) hl h0 (by omega)]
  simp only [Instr.sliceAt, Sem.run_bind, run_underlying ht, Result.andThen_ok, Instr.slice, hb, sizeOf, typeInfo, run_program, hei, Sem.run_pure]

theorem flat_take {s : Nat} : ∀ {xs : List AVal} (k : Nat), (∀ x ∈ xs, x.cells.length = s) → (xs.take k).flatMap AVal.cells = (xs.flatMap AVal.cells).take (k * s)
  | [], k, _ => by simp
  | x :: xs, 0, _ => by simp
  | x :: xs, k + 1, h => by
    have h1 := h x (List.mem_cons_self ..)
    simp only [List.take_succ_cons, List.flatMap_cons, flat_take k fun y hy => h y (List.mem_cons_of_mem _ hy)]
    have hle : x.cells.length ≤ k * s + s := by rw [h1]; exact Nat.le_add_left _ _
    rw [Nat.succ_mul, List.take_append, List.take_of_length_le hle, h1, Nat.add_sub_cancel]
theorem flat_drop {s : Nat} : ∀ {xs : List AVal} (k : Nat), (∀ x ∈ xs, x.cells.length = s) → (xs.drop k).flatMap AVal.cells = (xs.flatMap AVal.cells).drop (k * s)
  | [], k, _ => by simp
  | x :: xs, 0, _ => by simp
  | x :: xs, k + 1, h => by
    have h1 := h x (List.mem_cons_self ..)
    simp only [List.drop_succ_cons, List.flatMap_cons, flat_drop k fun y hy => h y (List.mem_cons_of_mem _ hy)]
    have hle : x.cells.length ≤ k * s + s := by rw [h1]; exact Nat.le_add_left _ _
    rw [Nat.succ_mul, List.drop_append, List.drop_of_length_le hle, List.nil_append, h1, Nat.add_sub_cancel]

/-- A piece of a slice, its capacity and right to append said apart. -/
theorem RepV.piece {s : Nat} {xs : List AVal} {t t' : Tok} {A : Option Addr} {len cap l h m : Nat} (hr : RepV κ (.slice s xs t) (.slice A len cap)) (h1 : l ≤ h) (h2 : h ≤ xs.length) (h3 : h ≤ m) (h4 : m ≤ cap)
    (ht : t' = .none ∨ (t' = .full ∧ m = h) ∨ (t' = t ∧ l = 0 ∧ h = xs.length ∧ m = cap)) :
    RepV κ (.slice s ((xs.take h).drop l) t') (.slice (if m = l then A else A.map (·.add (l * s))) (h - l) (m - l)) := by
  rcases hr.slice_inv with ⟨⟨a0, hv⟩, rfl⟩ | ⟨b, off, cap', vs, hv, g2, g3, g4, g5, g6⟩
  · cases hv
    have : h = 0 := by simpa using h2
    have : l = 0 := by omega
    have : m = 0 := by omega
    subst_vars
    simp; exact .nil
  · cases hv
    have hlen : ((xs.take h).drop l).length = h - l := by simp; omega
    have hx : ∀ x ∈ (xs.take h).drop l, x.cells.length = s := fun x hx => g3 x (List.mem_of_mem_take (List.mem_of_mem_drop hx))
    have hf : ((xs.take h).drop l).flatMap AVal.cells = ((xs.flatMap AVal.cells).take (h * s)).drop (l * s) := by
      rw [flat_drop l fun x hx => g3 x (List.mem_of_mem_take hx), flat_take h g3]
    have hrl : RepL κ (((xs.take h).drop l).flatMap AVal.cells) ((vs.take (h * s)).drop (l * s)) := by rw [hf]; exact (g4.take _).drop _
    have hcell : ∀ (i : Nat) (v : Value), ((vs.take (h * s)).drop (l * s))[i]? = some v → κ.cell b (off + l * s + i) = some v := fun i v e => by
      rw [List.getElem?_drop, List.getElem?_take] at e
      split at e
      · rw [Nat.add_assoc]; exact g5 _ v e
      · cases e
    by_cases hml : m = l
    · rw [if_pos hml]
      have hhl : h = l := by omega
      rw [hhl] at hlen hx hrl h2 ht ⊢
      clear hhl
      have he : (xs.take l).drop l = [] := by simp
      rw [he]
      refine .slice (vs := []) (by simp) (by simp) (by simp) .nil (by simp) ?_
      rcases ht with rfl | ⟨rfl, _⟩ | ⟨rfl, hl0, hl1, hl2⟩
      · trivial
      · simp only [TokOk]; omega
      · subst hl0
        have hx0 : xs.length = 0 := by omega
        cases t' with
        | none => trivial
        | full => simp only [TokOk]; omega
        | own _ => simp only [TokOk] at g6 ⊢; rw [g6, hx0]
        | tip _ => exact .inl (by omega)
    · rw [if_neg hml]
      simp only [Option.map_some, addr_add]
      refine .slice hlen (by omega) hx hrl hcell ?_
      rcases ht with rfl | ⟨rfl, he⟩ | ⟨rfl, hl0, hl1, hl2⟩
      · trivial
      · simp [TokOk]; omega
      · subst hl0; subst hl1; subst hl2
        simpa using g6

theorem ev_cut {t : TypeId} {x : Operand} {lo hi mx : Option Operand} {op : IOp} (hC : comp P C ⟨dst, .slice t x lo hi mx, ty, pos, after, guard⟩ = some op) (hI : Inv κ σ w) (hE : RepE κ n env a.tmps) (h : op.ev P env σ K) :
    Good P a.eval ⟨dst, .slice t x lo hi mx, ty, pos, after, guard⟩ κ w K := by
  simp only [comp] at hC
  split at hC
  · rename_i e ht
    split at hC
    · rename_i ei hei
      obtain ⟨x', hx, hC⟩ := optbind hC
      obtain ⟨lo', hlo, hC⟩ := optbind hC
      obtain ⟨hi', hhi, hC⟩ := optbind hC
      obtain ⟨mx', hmx, rfl⟩ := optmap hC
      have rx := opT_spec hE hx
      have hsome : ∀ {y : Option Operand} {y' : Option Opd}, optT P 0 y = some y' → (y'.isSome = y.isSome) := by
        intro y y' h
        cases y with
        | none => simp only [optT, Option.some.injEq] at h; subst h; rfl
        | some y => simp only [optT] at h; obtain ⟨z, _, rfl⟩ := optmap h; rfl
      have hsl := hsome hlo
      have hsh := hsome hhi
      have hsm := hsome hmx
      simp only [IOp.ev, Opd.getK_eq] at h
      split at h
      · rename_i s2 xs tk he
        rw [he] at rx
        obtain ⟨hs, hh⟩ := bifTrue h
        clear h
        have hs := Nat.eq_of_beq_eq_true hs
        subst hs
        obtain ⟨l, bl, hh⟩ := intOr_spec hE hlo hh
        obtain ⟨hv, bh, hh⟩ := intOr_spec hE hhi hh
        rw [ACut_def] at hh
        obtain ⟨q0, q1, q2, hh⟩ := hh
        have hval : ∃ A cap, a.eval x = .slice A xs.length cap ∧ xs.length ≤ cap := by
          rcases rx.slice_inv with ⟨⟨a0, hv⟩, hn⟩ | ⟨b, off, cap, vs, hv, g2, _⟩
          · subst hn; exact ⟨a0, 0, hv, Nat.le_refl _⟩
          · exact ⟨_, cap, hv, g2⟩
        obtain ⟨A, cap, hav, hcap⟩ := hval
        rw [hav] at rx
        split at hh
        · have hmn : mx = none := by cases mx with
            | none => rfl
            | some _ => simp at hsm
          subst hmn
          have hr := slice_run (P := P) (w := w) ht hei (A := A) (mx := none) bl bh (m := cap) rfl (by simp) q0 q1 (by omega) (Int.le_refl _)
          refine .pure (v := _) (by simp only [execOp, hav]; exact execV _ hr) hI (rx.piece (by omega) (by omega) (by omega) (by simp) ?_) hh
          cases lo' with
          | some _ => exact .inl rfl
          | none =>
            cases hi' with
            | some _ => exact .inl rfl
            | none =>
              have e1 : lo = none := by cases lo with
                | none => rfl
                | some _ => simp at hsl
              have e2 : hi = none := by cases hi with
                | none => rfl
                | some _ => simp at hsh
              subst e1; subst e2
              simp only [Option.map_none, bnd] at bl bh
              subst bl; subst bh
              exact .inr (.inr ⟨rfl, rfl, by simp, by simp⟩)
        · rename_i mo
          obtain ⟨m, bm, hh⟩ := intOr_spec (d := 0) hE hmx hh
          obtain ⟨g1, g2, hh⟩ := hh
          subst g2
          have hms : mx.isSome = true := by rw [← hsm]; rfl
          obtain ⟨mo', rfl⟩ := Option.isSome_iff_exists.1 hms
          have hr := slice_run (P := P) (w := w) ht hei (A := A) (mx := some (a.eval mo')) (cap := cap) bl bh bm (fun _ => by
            rw [hsh] at g1
            obtain ⟨ho, rfl⟩ := Option.isSome_iff_exists.1 g1; rfl) q0 q1 (Int.le_refl _) (by omega)
          refine .pure (v := _) (by simp only [execOp, hav]; exact execV _ hr) hI (rx.piece (by omega) (by omega) (Nat.le_refl _) (by omega) (.inr (.inl ⟨rfl, rfl⟩))) hh
      · rename_i r s2 off ln he
        rw [he] at rx
        obtain ⟨hs, hh⟩ := bifTrue h
        clear h
        have hs := Nat.eq_of_beq_eq_true hs
        subst hs
        obtain ⟨l, bl, hh⟩ := intOr_spec hE hlo hh
        obtain ⟨hv, bh, hh⟩ := intOr_spec hE hhi hh
        rw [ACut_def] at hh
        obtain ⟨q0, q1, q2, hh⟩ := hh
        obtain ⟨b, cap, m, hav, g1, g2, g3, g4⟩ := rx.ms_inv
        split at hh
        · have hmn : mx = none := by cases mx with
            | none => rfl
            | some _ => simp at hsm
          subst hmn
          have hr := slice_run (P := P) (w := w) ht hei (A := some ⟨b, off, none⟩) (mx := none) (cap := cap) bl bh (m := cap) rfl (by simp) q0 q1 (by omega) (Int.le_refl _)
          refine .pure (v := _) (by simp only [execOp, hav]; exact execV _ hr) hI ?_ hh.2
          have hmul : l.toNat * ei.size ≤ cap * ei.size := Nat.mul_le_mul_right _ (by omega)
          by_cases hc : (cap : Int).toNat = l.toNat
          · rw [if_pos hc]
            have := hh.1; omega
          · rw [if_neg hc]
            simp only [Option.map_some, addr_add]
            refine .ms g1 g2 (by omega) ?_
            have : ((cap : Int).toNat - l.toNat) * ei.size = cap * ei.size - l.toNat * ei.size := by rw [Nat.sub_mul]; simp
            omega
        · exact hh.elim
      · exact h.elim
    · cases hC
  · cases hC
end
end Go.Am

