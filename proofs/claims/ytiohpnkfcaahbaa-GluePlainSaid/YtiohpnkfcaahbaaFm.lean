/-
  Addresses, pieces of slices, calls.
-/
import Derived.Test.YtiohpnkfcaahbaaFl
namespace Go.Am
set_option linter.unusedVariables false
set_option linter.unusedSimpArgs false
set_option linter.unusedSectionVars false
open Go.RowKit (Below)

section
variable {P : Program} {κ : Ghost} {σ : AHeap} {w : World} {n : Nat} {env : Env} {a : Act} {K : AVal → AHeap → Prop} {C : Cfg}
variable {dst : Option Tmp} {ty : TypeId} {pos : String} {after : Array Edge} {guard : Option (Nat × Bool)}

theorem inTurn_spec : ∀ {ps : List (Nat × Operand)} {k : Nat} (f : Operand → Value), inTurn k ps = true → ps.map (fun x => (x.1, f x.2)) = ((ps.map (·.2)).map f |>.zipIdx k).map fun x => (x.2, x.1)
  | [], _, _, _ => rfl
  | (i, x) :: ps, k, f, h => by
    simp only [inTurn, Bool.and_eq_true] at h
    have hi := Nat.eq_of_beq_eq_true h.1
    subst hi
    simp only [List.map_cons, List.zipIdx_cons, List.cons.injEq, true_and]
    exact inTurn_spec f h.2

theorem ev_row {t : TypeId} {m : Nat} {ps : Array (Nat × Operand)} {op : IOp} (hC : comp P C ⟨dst, .buildSlice t m ps, ty, pos, after, guard⟩ = some op) (hI : Inv κ σ w) (hE : RepE κ n env a.tmps) (h : op.ev P env σ K) :
    Good P a.eval ⟨dst, .buildSlice t m ps, ty, pos, after, guard⟩ κ w K := by
  simp only [comp] at hC
  split at hC
  · rename_i e hu
    split at hC
    · rename_i i z hi hz
      obtain ⟨hb, hC⟩ := bifsome hC
      obtain ⟨xs, hx, rfl⟩ := optmap hC
      simp only [Bool.and_eq_true, Bool.not_eq_true'] at hb
      obtain ⟨⟨⟨h1, h2⟩, h3⟩, h4⟩ := hb
      have h1 := Nat.eq_of_beq_eq_true h1
      have h3 := Nat.le_of_ble_eq_true h3
      have h4 := Nat.ne_of_beq_eq_false h4
      have rx := opsT_spec hE hx
      obtain ⟨i', z0, g1, g2, _⟩ := zeroT_spec (κ := κ) hz
      rw [hi] at g1; cases g1
      have hl : (xs.map (Opd.get env)).length = m := by
        have := rx.length
        simp at this; simp; omega
      have e1 : (Array.map (fun (x : Nat × Operand) => (x.1, a.eval x.2)) ps) = (((ps.toList.map (·.2)).map a.eval |>.zipIdx 0).map fun x => (x.2, x.1)).toArray := by
        apply Array.ext'
        rw [Array.toList_map]
        exact inTurn_spec a.eval h2
      cases hcc : isByte P e && kept C dst with
      | true =>
        rw [hcc] at h
        simp only [cond_true, IOp.ev, Opd.getK_eq] at h
        rw [getLK_eq] at h
        obtain ⟨h5, h⟩ := bifTrue h
        rw [ARowT_def] at h
        obtain ⟨N, hN⟩ := hI.fin
        obtain ⟨n', v, w', κ', r1, r2, r3, rfl, r4⟩ := hI.rowT (P := P) hu hi g2 rx h5 (by rw [hl]; exact h3) h4 (hN N (Nat.le_refl _))
        refine .inl ⟨_, w', ?_, κ', _, _, r2, r3, r4, h N (hN N (Nat.le_refl _)).1⟩
        simp only [execOp]
        refine execV _ ?_
        rw [e1]; rw [← r1, hl]
      | false =>
        rw [hcc] at h
        simp only [cond_false, IOp.ev, Opd.getK_eq] at h
        rw [getLK_eq] at h
        obtain ⟨h5, h⟩ := bifTrue h
        obtain ⟨v, w', κ', r1, r2, r3, r4⟩ := hI.row (P := P) hu hi g2 rx h5 (by rw [hl]; exact h3) h4
        refine .inl ⟨v, w', ?_, κ', σ, _, r2, r3, r4, h⟩
        simp only [execOp]
        refine execV _ ?_
        rw [hl] at r1
        rw [e1]; exact r1
    · cases hC
  · cases hC

theorem ev_faddr {s : TypeId} {x : Operand} {f : Nat} {op : IOp} (hC : comp P C ⟨dst, .fieldAddr s x f, ty, pos, after, guard⟩ = some op) (hI : Inv κ σ w) (hE : RepE κ n env a.tmps) (h : op.ev P env σ K) :
    Good P a.eval ⟨dst, .fieldAddr s x f, ty, pos, after, guard⟩ κ w K := by
  simp only [comp] at hC
  split at hC
  · rename_i fs hs
    split at hC
    · rename_i fd hf
      split at hC
      · rename_i i hi
        cases hb : Nat.beq i.size 0 with
        | true => simp [hb] at hC
        | false =>
        simp only [hb, cond_false] at hC
        have h0 := Nat.ne_of_beq_eq_false hb
        obtain ⟨x', hx, rfl⟩ := optmap hC
        have rx := opT_spec hE hx
        have run : ∀ b o, a.eval x = .pointer (some ⟨b, o, none⟩) → (execOp a.eval ⟨dst, .fieldAddr s x f, ty, pos, after, guard⟩).run P w = .ok (.value (.pointer (some ⟨b, o + fd.offset, none⟩))) w := by
          intro b o hv
          simp [execOp, hv, Instr.fieldAt, Instr.sureAddr, run_underlying hs, hf, fieldPlace, sizeOf, typeInfo, hi, h0, addr_add]
        simp only [IOp.ev, Opd.getK_eq] at h
        split at h
        · rename_i id off he
          rw [he] at rx
          obtain ⟨b, hv, hb⟩ := rx.ptr_inv
          exact .pure (run b off hv) hI (.ptr hb) h
        · rename_i cs off he
          rw [he] at rx
          obtain ⟨b, q, vs, hv, hr, hc⟩ := rx.eptr_inv
          refine .pure (run b (q + off) hv) hI ?_ h
          rw [Nat.add_assoc]
          exact .eptr hr hc
        · exact h.elim
      · cases hC
    · cases hC
  · cases hC

theorem part_run {t : TypeId} {g : Option Nat} (ht : aggOf P t = some g) {cs : List AVal} {vs : List Value} {off : Nat} {k : AVal → Prop} (hr : RepL κ cs vs) (h : cellsAt cs off g k) :
    ∃ v x, (part t vs.toArray off).run P w = .ok v w ∧ RepV κ x v ∧ k x := by
  obtain ⟨i, d, h1, h2, h3⟩ := aggOf_spec ht
  have hi : (typeInfo t).run P w = .ok i w := by simp [typeInfo, h1]
  rcases h3 with ⟨hd, rfl⟩ | ⟨hd, rfl⟩
  · obtain ⟨hl, hK⟩ := h
    refine ⟨.agg ((vs.drop off).take i.size).toArray, _, ?_, .agg ((hr.drop off).take i.size), hK⟩
    simp only [part, Sem.run_bind, isAgg_run h2, Result.andThen_ok, hd, if_true, sizeOf, hi, Sem.run_pure]
    congr 2
    apply Array.ext'
    simp [List.extract_eq_take_drop]
  · obtain ⟨x, hx, hK⟩ := h
    obtain ⟨v, hv, hr⟩ := hr.get hx
    refine ⟨v, x, ?_, hr, hK⟩
    simp only [part, Sem.run_bind, isAgg_run h2, Result.andThen_ok, hd, Bool.false_eq_true, if_false]
    simp [hv]

theorem ev_field {s : TypeId} {x : Operand} {f : Nat} {op : IOp} (hC : comp P C ⟨dst, .field s x f, ty, pos, after, guard⟩ = some op) (hI : Inv κ σ w) (hE : RepE κ n env a.tmps) (h : op.ev P env σ K) :
    Good P a.eval ⟨dst, .field s x f, ty, pos, after, guard⟩ κ w K := by
  simp only [comp] at hC
  split at hC
  · rename_i fs hs
    split at hC
    · rename_i fd hf
      obtain ⟨g, hg, hC⟩ := optbind hC
      obtain ⟨x', hx, rfl⟩ := optmap hC
      have rx := opT_spec hE hx
      simp only [IOp.ev, Opd.getK_eq] at h
      split at h
      · rename_i cs he
        rw [he] at rx
        rw [ACell_def] at h
        obtain ⟨vs, hv, hr⟩ := rx.agg_inv
        obtain ⟨v, y, r1, r2, r3⟩ := part_run (P := P) (w := w) hg hr h
        refine .pure (v := v) ?_ hI r2 r3
        simp only [execOp, hv]
        refine execV _ ?_
        simp only [Instr.field, Sem.run_bind, run_underlying hs, Result.andThen_ok, hf, asAgg, Sem.run_pure, r1]
      · exact h.elim
    · cases hC
  · cases hC

theorem ev_index {t : TypeId} {x i : Operand} {op : IOp} (hC : comp P C ⟨dst, .index t x i, ty, pos, after, guard⟩ = some op) (hI : Inv κ σ w) (hE : RepE κ n env a.tmps) (h : op.ev P env σ K) :
    Good P a.eval ⟨dst, .index t x i, ty, pos, after, guard⟩ κ w K := by
  simp only [comp] at hC
  split at hC
  · rename_i m e ht
    split at hC
    · rename_i ei hei
      obtain ⟨g, hg, hC⟩ := optbind hC
      obtain ⟨x', hx, hC⟩ := optbind hC
      obtain ⟨i', hi, rfl⟩ := optmap hC
      have rx := opT_spec hE hx
      have ri := opT_spec hE hi
      simp only [IOp.ev, Opd.getK_eq] at h
      split at h
      · rename_i cs k j h1 h2
        rw [h1] at rx; rw [h2] at ri
        rw [AIdx_def] at h
        obtain ⟨q1, q2, h⟩ := h
        rw [ACell_def] at h
        obtain ⟨vs, hv, hr⟩ := rx.agg_inv
        obtain ⟨hvi, _⟩ := ri.v_inv
        obtain ⟨v, y, r1, r2, r3⟩ := part_run (P := P) (w := w) hg hr h
        refine .pure (v := v) ?_ hI r2 r3
        simp only [execOp, hv, hvi]
        refine execV _ ?_
        simp only [Instr.index, asIntOf, Sem.run_bind, Sem.run_pure, Result.andThen_ok, run_underlying ht]
        rw [if_pos ⟨q1, q2⟩]
        simp only [Sem.run_bind, sizeOf, typeInfo, run_program, Result.andThen_ok, hei, Sem.run_pure, r1]
      · exact h.elim
    · cases hC
  · cases hC

theorem ev_iaddr {t : TypeId} {x i : Operand} {op : IOp} (hC : comp P C ⟨dst, .indexAddr t x i, ty, pos, after, guard⟩ = some op) (hI : Inv κ σ w) (hE : RepE κ n env a.tmps) (h : op.ev P env σ K) :
    Good P a.eval ⟨dst, .indexAddr t x i, ty, pos, after, guard⟩ κ w K := by
  simp only [comp] at hC
  split at hC
  · rename_i e ht
    split at hC
    · rename_i ei hei
      obtain ⟨x', hx, hC⟩ := optbind hC
      obtain ⟨i', hi, rfl⟩ := optmap hC
      have rx := opT_spec hE hx
      have ri := opT_spec hE hi
      have run : ∀ b o len cap (k : IntKind) (j : Int), a.eval x = .slice (some ⟨b, o, none⟩) len cap → a.eval i = .int k j → 0 ≤ j → j < len →
          (execOp a.eval ⟨dst, .indexAddr t x i, ty, pos, after, guard⟩).run P w = .ok (.value (.pointer (some ⟨b, o + j.toNat * ei.size, none⟩))) w := by
        intro b o len cap k j hv hvi q1 q2
        simp only [execOp, hv, hvi]
        refine execV _ ?_
        simp only [Instr.indexAt, asIntOf, Sem.run_bind, Sem.run_pure, Result.andThen_ok, run_underlying ht]
        rw [if_pos ⟨q1, q2⟩]
        simp only [Sem.run_bind, sizeOf, typeInfo, run_program, Result.andThen_ok, hei, Sem.run_pure, addr_add]
      simp only [IOp.ev, Opd.getK_eq] at h
      split at h
      · rename_i s2 xs tk k j h1 h2
        rw [h1] at rx; rw [h2] at ri
        obtain ⟨hs, hh⟩ := bifTrue h
        clear h
        have hs := Nat.eq_of_beq_eq_true hs
        subst hs
        have h := hh
        clear hh
        rw [AGet_def] at h
        obtain ⟨y, q1, q2, h⟩ := h
        obtain ⟨hvi, _⟩ := ri.v_inv
        have hlt : j.toNat < xs.length := (List.getElem?_eq_some_iff.1 q2).1
        rcases rx.slice_inv with ⟨hv, hn⟩ | ⟨b, off, cap, vs, hv, g2, g3, g4, g5, g6⟩
        · subst hn; simp at hlt
        · refine .pure (run b off xs.length cap k j hv hvi q1 (by omega)) hI ?_ h
          have key : ∀ (l : List AVal) (us : List Value) (m : Nat), RepL κ (l.flatMap AVal.cells) us → (∀ x ∈ l, x.cells.length = ei.size) → l[m]? = some y → RepL κ y.cells ((us.drop (m * ei.size)).take ei.size) := by
            intro l
            induction l with
            | nil => intro us m _ _ e; simp at e
            | cons z l ih =>
              intro us m hr hl e
              have hz := hl z (List.mem_cons_self ..)
              simp only [List.flatMap_cons] at hr
              obtain ⟨p1, p2⟩ := hr.split
              cases m with
              | zero => simp at e; subst e; rw [hz] at p1; simpa using p1
              | succ m =>
                simp at e
                have := ih _ m p2 (fun x hx => hl x (List.mem_cons_of_mem _ hx)) e
                rw [hz, List.drop_drop] at this
                rw [Nat.succ_mul, Nat.add_comm (m * ei.size)]; exact this
          refine .eptr (o := off + j.toNat * ei.size) (key xs vs j.toNat g4 g3 q2) fun m v e => ?_
          rw [List.getElem?_take] at e
          split at e
          · rw [List.getElem?_drop] at e
            rw [Nat.add_assoc]; exact g5 _ v e
          · cases e
      · rename_i r s2 off ln k j h1 h2
        rw [h1] at rx; rw [h2] at ri
        obtain ⟨hs, hh⟩ := bifTrue h
        clear h
        have hs := Nat.eq_of_beq_eq_true hs
        subst hs
        have h := hh
        clear hh
        rw [AIdx_def] at h
        obtain ⟨q1, q2, h⟩ := h
        obtain ⟨hvi, _⟩ := ri.v_inv
        obtain ⟨b, cap, m, hv, g1, g2, g3, g4⟩ := rx.ms_inv
        exact .pure (run b off ln cap k j hv hvi q1 q2) hI (.ptr g1) h
      · exact h.elim
    · cases hC
  · rename_i m e ht
    split at hC
    · rename_i ei hei
      obtain ⟨x', hx, hC⟩ := optbind hC
      obtain ⟨i', hi, rfl⟩ := optmap hC
      have rx := opT_spec hE hx
      have ri := opT_spec hE hi
      have run : ∀ b o (k : IntKind) (j : Int), a.eval x = .pointer (some ⟨b, o, none⟩) → a.eval i = .int k j → 0 ≤ j → j < m →
          (execOp a.eval ⟨dst, .indexAddr t x i, ty, pos, after, guard⟩).run P w = .ok (.value (.pointer (some ⟨b, o + j.toNat * ei.size, none⟩))) w := by
        intro b o k j hv hvi q1 q2
        simp only [execOp, hv, hvi]
        refine execV _ ?_
        simp only [Instr.indexAt, asIntOf, Sem.run_bind, Sem.run_pure, Result.andThen_ok, run_underlying ht, Instr.sureAddr]
        rw [if_pos ⟨q1, q2⟩]
        simp only [Sem.run_bind, sizeOf, typeInfo, run_program, Result.andThen_ok, hei, Sem.run_pure, addr_add]
      simp only [IOp.ev, Opd.getK_eq] at h
      split at h
      · rename_i id off k j h1 h2
        rw [h1] at rx; rw [h2] at ri
        rw [AIdx_def] at h
        obtain ⟨q1, q2, h⟩ := h
        obtain ⟨hvi, _⟩ := ri.v_inv
        obtain ⟨b, hv, hb⟩ := rx.ptr_inv
        exact .pure (run b off k j hv hvi q1 q2) hI (.ptr hb) h
      · rename_i cs off k j h1 h2
        rw [h1] at rx; rw [h2] at ri
        rw [AIdx_def] at h
        obtain ⟨q1, q2, h⟩ := h
        obtain ⟨hvi, _⟩ := ri.v_inv
        obtain ⟨b, q, vs, hv, hr, hc⟩ := rx.eptr_inv
        refine .pure (run b (q + off) k j hv hvi q1 q2) hI ?_ h
        rw [Nat.add_assoc]
        exact .eptr hr hc
      · exact h.elim
    · cases hC
  · cases hC
end
end Go.Am

