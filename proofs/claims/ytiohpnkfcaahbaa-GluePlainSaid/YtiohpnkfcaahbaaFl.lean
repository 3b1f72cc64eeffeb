/-
  Operations on memory.
-/
import Derived.Test.YtiohpnkfcaahbaaFk
namespace Go.Am
set_option linter.unusedVariables false
set_option linter.unusedSimpArgs false
set_option linter.unusedSectionVars false
open Go.RowKit (Below)

section
variable {P : Program} {κ : Ghost} {σ : AHeap} {w : World} {n : Nat} {env : Env} {a : Act} {K : AVal → AHeap → Prop} {C : Cfg}
variable {dst : Option Tmp} {ty : TypeId} {pos : String} {after : Array Edge} {guard : Option (Nat × Bool)}

theorem ev_load {t : TypeId} {x : Operand} {op : IOp} (hC : comp P C ⟨dst, .load t x, ty, pos, after, guard⟩ = some op) (hI : Inv κ σ w) (hE : RepE κ n env a.tmps) (h : op.ev P env σ K) :
    Good P a.eval ⟨dst, .load t x, ty, pos, after, guard⟩ κ w K := by
  simp only [comp] at hC
  obtain ⟨g, hg, hC⟩ := optbind hC
  obtain ⟨x', hx, rfl⟩ := optmap hC
  have rx := opT_spec hE hx
  simp only [IOp.ev, Opd.getK_eq] at h
  split at h
  · rename_i id off he
    rw [he] at rx
    rw [ALoad_def] at h
    obtain ⟨cs, h1, h2⟩ := h
    obtain ⟨b, hv, hb⟩ := rx.ptr_inv
    obtain ⟨c, e, vs, us, k1, k2, k3, k4, k5, k6, k7⟩ := hI.objCells h1 hb
    obtain ⟨v, y, r1, r2, r3⟩ := load_run (P := P) (w := w) hg k4 k7 h2
    rw [Nat.zero_add] at r1
    exact .pure (v := v) (by simp only [execOp, hv]; exact execV _ r1) hI r2 r3
  · rename_i cs off he
    rw [he] at rx
    rw [ACell_def] at h
    obtain ⟨b, q, vs, hv, hr, hc⟩ := rx.eptr_inv
    obtain ⟨v, y, r1, r2, r3⟩ := load_run (P := P) (w := w) hg hr (fun j u e => (hI.cell _ _ _ (hc j u e)).1) h
    exact .pure (v := v) (by simp only [execOp, hv]; exact execV _ r1) hI r2 r3
  · exact h.elim

theorem cells_of {x : AVal} {v : Value} (hr : RepV κ x v) (hc : x.cells.all AVal.isCell = true) : RepL κ x.cells v.cells.toList := by
  cases x <;> first
    | exact hr.cells (.inr ⟨_, rfl⟩)
    | exact hr.cells (.inl rfl)
    | (simp [AVal.cells, AVal.isCell] at hc)

theorem ev_store {t : TypeId} {p x : Operand} {op : IOp} (hC : comp P C ⟨dst, .store t p x, ty, pos, after, guard⟩ = some op) (hI : Inv κ σ w) (hE : RepE κ n env a.tmps) (h : op.ev P env σ K) :
    Good P a.eval ⟨dst, .store t p x, ty, pos, after, guard⟩ κ w K := by
  simp only [comp] at hC
  split at hC
  · rename_i i hi
    obtain ⟨p', hp, hC⟩ := optbind hC
    obtain ⟨x', hx, rfl⟩ := optmap hC
    have rp := opT_spec hE hp
    have rx := opT_spec hE hx
    simp only [IOp.ev, Opd.getK_eq] at h
    split at h
    · rename_i id off he
      rw [he] at rp
      obtain ⟨hn, h⟩ := bifTrue h
      have hn := Nat.eq_of_beq_eq_true hn
      rw [AStore_def] at h
      obtain ⟨cs, h1, h2, h3, h4⟩ := h
      obtain ⟨b, hv, hb⟩ := rp.ptr_inv
      obtain ⟨w', r1, r2⟩ := hI.storeObj (P := P) hi h1 hb (cells_of rx h3) hn h2 h3
      exact .inr (.inl ⟨w', by simp only [execOp, hv]; exact execU _ r1, κ, _, .top, Ghost.le.refl κ, r2, .top, h4⟩)
    · exact h.elim
  · cases hC

theorem zeroT_spec {t : TypeId} {zs : List AVal} (h : zeroT P t = some zs) : ∃ i z, P.info? t = some i ∧ i.zero = some z ∧ z.cells.size = i.size ∧ RepL κ zs z.cells.toList ∧ Ones z.cells.toList ∧ zs.all AVal.isCell = true := by
  unfold zeroT at h
  split at h
  · rename_i i hi
    split at h
    · rename_i z hz
      obtain ⟨hb, h⟩ := bifsome h
      obtain ⟨h1, h2, h3⟩ := cellsT_spec (κ := κ) h
      exact ⟨i, z, hi, hz, Nat.eq_of_beq_eq_true hb, h1, h2, h3⟩
    · cases h
  · cases h

theorem newVar_good {o : Oper} {t : TypeId} {v : Value} {xs : List AVal} (hI : Inv κ σ w) (hr : (execOp a.eval o).run P w = .ok (.value (.pointer (some ⟨w.heap.size, 0, none⟩))) (w.alloc (.cells v.cells t)))
    (hv : RepL κ xs v.cells.toList) (h : ANew σ xs fun id σ' => K (.ptr id 0) σ') : Good P a.eval o κ w K := by
  rw [ANew_def] at h
  obtain ⟨T, hT⟩ := hI.fresh
  obtain ⟨κ', q1, q2, q3, q4⟩ := hI.allocObj (c := v.cells) (e := t) (us := []) (by simp) hv (ones_of hv h.1) (by intro v hv; cases hv) hT
  exact .inl ⟨_, _, hr, κ', _, _, q1, q2, .ptr q3, h.2 T hT.1⟩

theorem ev_alloc {t : TypeId} {op : IOp} (hC : comp P C ⟨dst, .alloc t, ty, pos, after, guard⟩ = some op) (hI : Inv κ σ w) (h : op.ev P env σ K) :
    Good P a.eval ⟨dst, .alloc t, ty, pos, after, guard⟩ κ w K := by
  simp only [comp] at hC
  obtain ⟨zs, hz, rfl⟩ := optmap hC
  obtain ⟨i, z, h1, h2, h3, h4, h5, h6⟩ := zeroT_spec (κ := κ) hz
  simp only [IOp.ev, Opd.getK_eq] at h
  refine newVar_good (t := t) (v := z) hI ?_ h4 h
  simp [execOp, Instr.alloc, zeroValue, typeInfo, h1, h2, newVar, newRow]

theorem ev_box {t : TypeId} {x : Operand} {op : IOp} (hC : comp P C ⟨dst, .box t x, ty, pos, after, guard⟩ = some op) (hI : Inv κ σ w) (hE : RepE κ n env a.tmps) (h : op.ev P env σ K) :
    Good P a.eval ⟨dst, .box t x, ty, pos, after, guard⟩ κ w K := by
  simp only [comp] at hC
  split at hC
  · obtain ⟨x', hx, rfl⟩ := optmap hC
    have rx := opT_spec hE hx
    simp only [IOp.ev, Opd.getK_eq] at h
    obtain ⟨_, h⟩ := bifTrue h
    have hc : (x'.get env).cells.all AVal.isCell = true := by rw [ANew_def] at h; exact h.1
    refine newVar_good (t := t) (v := a.eval x) hI ?_ (cells_of rx hc) h
    simp [execOp, Instr.box, newVar, newRow]
  · cases hC

theorem ev_conv {s d : TypeId} {x : Operand} {op : IOp} (hC : comp P C ⟨dst, .convert s d x, ty, pos, after, guard⟩ = some op) (hI : Inv κ σ w) (hE : RepE κ n env a.tmps) (h : op.ev P env σ K) :
    Good P a.eval ⟨dst, .convert s d x, ty, pos, after, guard⟩ κ w K := by
  simp only [comp] at hC
  split at hC
  · rename_i k1 k hs hd
    obtain ⟨x', hx, rfl⟩ := optmap hC
    have rx := opT_spec hE hx
    simp only [IOp.ev, Opd.getK_eq] at h
    split at h
    · rename_i k2 m he
      rw [he] at rx
      obtain ⟨hv, _⟩ := rx.v_inv
      rw [AFit_def] at h
      exact .pure (v := .int k (k.wrap m)) (by simp [execOp, hv, convert, run_underlying hs, run_underlying hd, Conv.intToInt]) hI (.v rfl) h
    · exact h.elim
  · rename_i e hs hd
    split at hC
    · rename_i he8
      obtain ⟨x', hx, rfl⟩ := optmap hC
      have rx := opT_spec hE hx
      simp only [IOp.ev, Opd.getK_eq] at h
      split at h
      · rename_i s1 xs t he
        rw [he] at rx
        obtain ⟨hs1, h⟩ := bifTrue h
        have hs1 := Nat.eq_of_beq_eq_true hs1
        subst hs1
        rw [AStr_def] at h
        obtain ⟨bs, rfl, hk⟩ := h
        rcases rx.slice_inv with ⟨⟨a0, hv⟩, hn⟩ | ⟨b, off, cap, vs, hv, h2, h3, h4, h5, h6⟩
        · have hb : bs = [] := by simpa using hn
          subst hb
          refine .pure (v := .string ByteArray.empty) ?_ hI (.v rfl) hk
          cases a0 <;> simp [execOp, hv, convert, run_underlying hs, run_underlying hd, run_underlying he8, Conv.bytesToString, loadCells, loadCellsFrom]
        · have hvs : vs = (bs.map fun b => Value.int .u8 b.toNat) := by
            clear h5 hv h3 h6 hk h2 he rx h
            induction bs generalizing vs with
            | nil => cases h4; rfl
            | cons x l ih =>
              simp only [List.map_cons, List.flatMap_cons, byteV, AVal.cells, List.singleton_append] at h4
              cases h4 with
              | cons hx ht => obtain ⟨rfl, _⟩ := hx.v_inv; rw [ih _ ht]; rfl
          refine .pure (v := .string ⟨bs.toArray⟩) ?_ hI (.v rfl) hk
          simp only [execOp, hv]
          refine execV _ ?_
          have hl := loadCells_run (P := P) (w := w) (b := b) (o := off) (vs := vs) (fun j v e => (hI.cell _ _ _ (h5 j v e)).1)
          have hll : vs.length = bs.length := by rw [hvs]; simp
          have hns : vs = (bs.map fun b => (b.toNat : Int)).map (Value.int .u8) := by rw [hvs]; simp
          rw [hll, hns] at hl
          have := run_bytesToString (P := P) w ⟨b, off, none⟩ bs.length cap _ hl
          simp only [convert, Sem.run_bind, run_underlying hs, run_underlying hd, Result.andThen_ok, run_underlying he8, List.length_map]
          rw [this]
          congr 2
          have key : ∀ (l : List UInt8) (s : ByteArray), (l.map fun b => (b.toNat : Int)).foldl (fun (r : ByteArray) (n : Int) => r.push (UInt8.ofNat n.toNat)) s = ⟨(s.data.toList ++ l).toArray⟩ := by
            intro l
            induction l with
            | nil => intro s; simp
            | cons x l ih => intro s; simp only [List.map_cons, List.foldl_cons, ih]; simp [ByteArray.push]
          rw [key]; simp [ByteArray.empty, ByteArray.emptyWithCapacity]; rfl
      · exact h.elim
    · cases hC
  · rename_i e0 e hs hd
    obtain ⟨hb, hC2⟩ := bifsome hC
    simp only [Bool.and_eq_true] at hb
    have hsd := Nat.eq_of_beq_eq_true hb.1
    have he8 := isByte_spec hb.2
    obtain ⟨x', hx, rfl⟩ := optmap hC2
    clear hC hC2
    have rx := opT_spec hE hx
    simp only [IOp.ev, Opd.getK_eq] at h
    split at h
    · rename_i s1 xs t he
      rw [he] at rx
      rw [AMark_def] at h
      obtain ⟨h0, t0, rfl, h1, hk⟩ := h
      rcases rx.slice_inv with ⟨hv, hn⟩ | ⟨b, off, cap, vs, hv, g2, g3, g4, g5, g6⟩
      · exact absurd hn h0
      · have htok : ∃ p, κ.tok t0 = some (b, p) := by
          exact ⟨_, g6⟩
        obtain ⟨p, htok⟩ := htok
        obtain ⟨_, ⟨c, ec, q2, _⟩, _⟩ := hI.tip t0 b p h1 htok
        refine .inl ⟨.slice (some ⟨b, off, none⟩) xs.length cap, _, ?_, κ, _, _, Ghost.le.refl κ, hI.markTip (k := c.size) h1 htok, ?_, hk⟩
        · simp only [execOp, hv]
          refine execV _ ?_
          have hsh : w.shape? b = some (ec, c.size) := by simp [World.shape?, q2]
          simp [convert, run_underlying hs, run_underlying hd, run_underlying he8, markStringish, hsh, hsd]
        · exact .slice rfl g2 g3 g4 g5 trivial
    · exact h.elim
  · rename_i e hs hd
    split at hC
    · rename_i he8
      obtain ⟨x', hx, rfl⟩ := optmap hC
      have rx := opT_spec hE hx
      simp only [IOp.ev, Opd.getK_eq] at h
      split at h
      · rename_i b he
        rw [he] at rx
        obtain ⟨hv, _⟩ := rx.v_inv
        obtain ⟨κ', r1, r2, r3⟩ := hI.newBytes e b
        refine .inl ⟨_, _, ?_, κ', σ, _, r1, r2, r3, h⟩
        simp only [execOp, hv]
        exact execV _ (Lib.run_convert_string_bytes w s d e b hs hd he8)
      · exact h.elim
    · cases hC
  · cases hC

theorem parts_ok {fs : Array Field} {sz : Nat → Nat} (hsz : ∀ (t : TypeId) i, P.info? t = some i → sz t = i.size) : ∀ {ps : List (Nat × Operand)} {qs : List (Nat × Nat × Opd)}, RepE κ n env a.tmps → partsT P fs ps = some qs →
    Parts κ env (fun i => ((fs[i]?).map fun f => (f.offset, sz f.type))) qs (ps.map fun x => (x.1, a.eval x.2))
  | [], qs, _, h => by simp only [partsT, Option.some.injEq] at h; subst h; exact .nil
  | (i, x) :: ps, qs, hE, h => by
    simp only [partsT] at h
    split at h
    · rename_i f hf
      split at h
      · rename_i fi hfi
        obtain ⟨y, hy, h⟩ := optbind h
        obtain ⟨l, hl, rfl⟩ := optmap h
        exact .cons (by rw [hf]; simp [hsz _ _ hfi]) (opT_spec hE hy) (parts_ok hsz hE hl)
      · cases h
    · cases h

theorem partsA_ok {e : TypeId} {s : Nat} : ∀ {ps : List (Nat × Operand)} {qs : List (Nat × Nat × Opd)}, RepE κ n env a.tmps → partsA P e s ps = some qs → Parts κ env (fun i => some (i * s, s)) qs (ps.map fun x => (x.1, a.eval x.2))
  | [], qs, _, h => by simp only [partsA, Option.some.injEq] at h; subst h; exact .nil
  | (i, x) :: ps, qs, hE, h => by
    simp only [partsA] at h
    obtain ⟨y, hy, h⟩ := optbind h
    obtain ⟨l, hl, rfl⟩ := optmap h
    exact .cons rfl (opT_spec hE hy) (partsA_ok hE hl)

theorem mapM_places (w : World) : ∀ (fs : List Field), (∀ f ∈ fs, ∃ i, P.info? f.type = some i) → ∀ acc : List (Nat × Nat),
    (fs.mapM fun f => (do pure (f.offset, ← sizeOf f.type) : Sem (Nat × Nat))).run P w = .ok (fs.map fun f => (f.offset, P.cellsOf f.type)) w := by
  intro fs
  induction fs with
  | nil => intro _ _; simp
  | cons f fs ih =>
    intro h acc
    obtain ⟨i, hi⟩ := h f (List.mem_cons_self ..)
    have := ih (fun g hg => h g (List.mem_cons_of_mem _ hg)) acc
    simp only [List.mapM_cons, Sem.run_bind, sizeOf, typeInfo, run_program, Result.andThen_ok, hi, Sem.run_pure, List.map_cons] at this ⊢
    rw [this]
    simp [Program.cellsOf, hi]

theorem ev_build {t : TypeId} {ps : Array (Nat × Operand)} {op : IOp} (hC : comp P C ⟨dst, .build t ps, ty, pos, after, guard⟩ = some op) (hI : Inv κ σ w) (hE : RepE κ n env a.tmps) (h : op.ev P env σ K) :
    Good P a.eval ⟨dst, .build t ps, ty, pos, after, guard⟩ κ w K := by
  simp only [comp] at hC
  split at hC
  · rename_i fs z hu hz
    obtain ⟨hfi, hC⟩ := bifsome hC
    obtain ⟨qs, hq, rfl⟩ := optmap hC
    obtain ⟨i, z0, h1, h2, h3, h4, h5, h6⟩ := zeroT_spec (κ := κ) hz
    simp only [IOp.ev, Opd.getK_eq] at h
    have hp := parts_ok (κ := κ) (P := P) (sz := P.cellsOf) (fun t i hi => by simp [Program.cellsOf, hi]) hE hq
    obtain ⟨c', l, r1, r2, r3⟩ := fill_spec hp h4 h
    refine .pure (v := .agg c') ?_ hI (by have := RepV.agg r2; simpa using this) r3
    simp only [execOp]
    refine execV _ ?_
    have hall : ∀ f ∈ fs.toList, ∃ i, P.info? f.type = some i := by
      intro f hf
      have := List.all_eq_true.1 hfi f hf
      cases hx : P.info? f.type with
      | none => simp [hx] at this
      | some i => exact ⟨i, rfl⟩
    have hm := mapM_places (P := P) w fs.toList hall []
    have hm2 : (fs.mapM fun f => (do pure (f.offset, ← sizeOf f.type) : Sem (Nat × Nat))).run P w = .ok (fs.map fun f => (f.offset, P.cellsOf f.type)) w := by
      rw [Array.mapM_eq_mapM_toList, Sem.run_map, hm]
      simp only [Result.andThen_ok]
      congr 1
      apply Array.ext'; simp
    have hfill : (fun i : Nat => (fs.map fun (f : Field) => (f.offset, P.cellsOf f.type))[i]?) = (fun i : Nat => ((fs[i]?).map fun (f : Field) => (f.offset, P.cellsOf f.type))) := by funext i; simp
    rw [← hfill] at r1
    simp only [Instr.build, Sem.run_bind, zeroValue, typeInfo, run_program, Result.andThen_ok, h1, h2, Sem.run_pure, run_underlying hu]
    rw [hm2]
    simp only [Result.andThen_ok]
    have : (Array.map (fun (x : Nat × Operand) => (x.1, a.eval x.2)) ps).toList = ps.toList.map fun x => (x.1, a.eval x.2) := by simp
    rw [this, r1]
    rfl
  · rename_i m e z hu hz
    split at hC
    · rename_i ei hei
      obtain ⟨qs, hq, rfl⟩ := optmap hC
      obtain ⟨i, z0, h1, h2, h3, h4, h5, h6⟩ := zeroT_spec (κ := κ) hz
      simp only [IOp.ev, Opd.getK_eq] at h
      have hp := partsA_ok (κ := κ) (P := P) hE hq
      obtain ⟨c', l, r1, r2, r3⟩ := fill_spec hp h4 h
      refine .pure (v := .agg c') ?_ hI (by have := RepV.agg r2; simpa using this) r3
      simp only [execOp]
      refine execV _ ?_
      simp [Instr.build, zeroValue, typeInfo, h1, h2, run_underlying hu, sizeOf, hei, r1]
    · cases hC
  · cases hC
end
end Go.Am

