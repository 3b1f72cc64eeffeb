/-
  make, functions, calls and built-ins; every operation.
-/
import Derived.Test.YtiohpnkfcaahbaaFn
namespace Go.Am
set_option linter.unusedVariables false
set_option linter.unusedSimpArgs false
set_option linter.unusedSectionVars false
open Go.RowKit (Below)

section
variable {P : Program} {κ : Ghost} {σ : AHeap} {w : World} {n : Nat} {env : Env} {a : Act} {K : AVal → AHeap → Prop} {C : Cfg}
variable {dst : Option Tmp} {ty : TypeId} {pos : String} {after : Array Edge} {guard : Option (Nat × Bool)}

theorem wrap_small {m : Int} (h0 : 0 ≤ m) (h1 : m < 4611686018427387904) : IntKind.i64.wrap m = m := by
  unfold IntKind.wrap IntKind.signed IntKind.bits
  simp only [Bool.true_and]
  have : m % (2 ^ 64 : Int) = m := Int.emod_eq_of_lt h0 (by omega)
  rw [this, if_neg]
  simp; omega

theorem ev_mk {t : TypeId} {l c : Operand} {op : IOp} (hC : comp P C ⟨dst, .makeSlice t l c, ty, pos, after, guard⟩ = some op) (hI : Inv κ σ w) (hE : RepE κ n env a.tmps) (h : op.ev P env σ K) :
    Good P a.eval ⟨dst, .makeSlice t l c, ty, pos, after, guard⟩ κ w K := by
  simp only [comp] at hC
  split at hC
  · rename_i e ht
    split at hC
    · rename_i i zs hi hz
      split at hC
      · rename_i z hg
        obtain ⟨hzc, hC⟩ := bifsome hC
        obtain ⟨l', hl, hC⟩ := optbind hC
        obtain ⟨c', hc, rfl⟩ := optmap hC
        have rl := opT_spec hE hl
        have rc := opT_spec hE hc
        obtain ⟨i', z0, h1, h2, h3, h4, h5, h6⟩ := zeroT_spec (κ := κ) hz
        rw [hi] at h1; cases h1
        simp only [IOp.ev, Opd.getK_eq] at h
        split at h
        · rename_i k1 m k2 m2 e1 e2
          rw [e1] at rl; rw [e2] at rc
          obtain ⟨hlv, _⟩ := rl.v_inv
          obtain ⟨hcv, _⟩ := rc.v_inv
          obtain ⟨rfl, h⟩ := h
          rw [AMk_def] at h
          obtain ⟨q0, q1, q2, hk⟩ := h
          have hz1 : ∃ v0, z0.cells = #[v0] ∧ RepV κ z v0 ∧ v0.oneCell = true := by
            have hll := h4.length
            obtain ⟨arr⟩ : Nonempty (Array Value) := ⟨z0.cells⟩
            cases hzz : z0.cells.toList with
            | nil => rw [hzz] at hll; simp at hll
            | cons v0 r =>
              rw [hzz] at h4 hll h5
              have : r = [] := by simpa using hll.symm
              subst this
              cases h4 with
              | cons hv _ => exact ⟨v0, by apply Array.ext'; simpa using hzz, hv, h5 v0 (List.mem_cons_self ..)⟩
          obtain ⟨v0, hz1, hz2, hz3⟩ := hz1
          have hcs : z.cells = [z] := by cases z <;> first | rfl | (simp [AVal.isCell] at hzc)
          rw [hcs] at hk
          have hflat : (List.replicate m.toNat z).flatMap AVal.cells = List.replicate m.toNat z := by
            induction m.toNat with
            | zero => rfl
            | succ k ih => simp only [List.replicate_succ, List.flatMap_cons, ih, hcs]; rfl
          have hrep : RepL κ ((List.replicate m.toNat z).flatMap AVal.cells) (List.replicate m.toNat v0) := by rw [hflat]; exact .replicate hz2 _
          obtain ⟨N, hN⟩ := hI.fin
          have hsz : i.size = 1 := by rw [← h3, hz1]; rfl
          obtain ⟨κ', r1, r2, r3⟩ := hI.newSlice (c := (List.replicate m.toNat v0).toArray) (e := e) (s := 1) (cap := m.toNat) (xs := List.replicate m.toNat z) (us := [])
            (fun x hx => by rw [List.eq_of_mem_replicate hx, hcs]; rfl) hrep (by simp) (by simpa using Ones.replicate hz3 _) (by simp) (by simp) (t := N) (hN N (Nat.le_refl _))
          rw [List.length_replicate] at r3
          refine .inl ⟨_, _, ?_, κ', σ, _, r1, r2.sub (Sub.upd_fresh _ (hN N (Nat.le_refl _)).1), r3.full_of_tip, hk⟩
          simp only [execOp, hlv, hcv]
          refine execV _ ?_
          have hw := wrap_small q0 q1
          have hn1 : ¬ m < 0 := by omega
          have hn2 : ¬ (281474976710656 < (i.bytes : Int) * m) := by rw [Int.mul_comm]; omega
          have hzr : (if m.toNat = 0 then (pure #[] : Sem (Array Value)) else do pure (← zeroValue e).cells).run P w = .ok (if m.toNat = 0 then #[] else #[v0]) w := by
            split
            · rfl
            · simp [zeroValue, typeInfo, hi, h2, hz1]
          by_cases h0 : m.toNat = 0
          · simp [Instr.makeSlice, run_underlying ht, asInt, asIntOf, typeInfo, hi, hw, hn1, hn2, sizeOf, hsz, newRow, h0]
            have hr0 : Array.map (fun (_ : Nat) => (default : Value)) (Array.range 0) = #[] := by simp
            rw [hr0]
          · have hmap : (Array.range m.toNat).map (fun x => (#[v0] : Array Value)[x % (#[v0] : Array Value).size]!) = (List.replicate m.toNat v0).toArray := by
              apply Array.ext (by simp)
              intro j h1 h2
              simp [Nat.mod_one]
            simp [Instr.makeSlice, run_underlying ht, asInt, asIntOf, typeInfo, hi, hw, hn1, hn2, sizeOf, hsz, newRow, h0, zeroValue, h2, hz1]
            have hmap' := congrArg (fun c => w.alloc (.cells c e)) hmap
            simpa using hmap'
        · exact h.elim
      · cases hC
    · cases hC
  · cases hC

theorem ev_fn {g : FuncId} {first caps : Array Operand} {op : IOp} (hC : comp P C ⟨dst, .makeFunc (.func g) first caps, ty, pos, after, guard⟩ = some op) (hI : Inv κ σ w) (hE : RepE κ n env a.tmps) (h : op.ev P env σ K) :
    Good P a.eval ⟨dst, .makeFunc (.func g) first caps, ty, pos, after, guard⟩ κ w K := by
  simp only [comp] at hC
  obtain ⟨f', hf, hC⟩ := optbind hC
  obtain ⟨c', hc, rfl⟩ := optmap hC
  have rf := opsU_spec hE hf
  have rc := opsU_spec hE hc
  simp only [IOp.ev, Opd.getK_eq] at h
  rw [getLK_eq, getLK_eq] at h
  refine .pure (v := .func (.func g) (first.map a.eval) (caps.map a.eval)) (by simp [execOp, Instr.makeFunc]) hI ?_ h
  have := RepV.func (g := g) rf rc
  have e : ∀ xs : Array Operand, (List.map a.eval xs.toList).toArray = xs.map a.eval := fun xs => by apply Array.ext'; simp
  rw [e, e] at this
  exact this

theorem run_builtin {Cl : Call} {b : Builtin} (hb : Cl.callee = .builtin b) {S : Sem Value} {v : Value} {w' : World}
    (hS : ∀ cs, Go.builtin b Cl.argTypes ty cs (Cl.args.map a.eval) = (do pure (.value (← S)))) (h : S.run P w = .ok v w') :
    (execOp a.eval ⟨dst, .call Cl, ty, pos, after, guard⟩).run P w = .ok (.value v) w' := by
  simp only [execOp, resolve, hb, Sem.run_bind, Sem.run_pure, Result.andThen_ok, invoke]
  rw [hS]
  exact execV _ h

theorem call_good {o : Oper} {g : FuncId} {args : List AVal} {cargs : List Value} (hI : Inv κ σ w) (hr : (execOp a.eval o).run P w = .ok (.enter g cargs.toArray) w) (hargs : RepL κ args cargs) (h : ACalls P g args σ K) : Good P a.eval o κ w K := by
  rw [ACalls_def] at h
  refine .inr (.inr ⟨g, _, hr, (h κ w cargs hI hargs).mono ?_⟩)
  rintro e w' ⟨v, κ', σ', x, rfl, h1, h2, h3, h4⟩
  exact ⟨v, rfl, κ', σ', x, h1, h2, h3, h4⟩

theorem ones_elems {s : Nat} {x : AVal} (k : Nat) (h : okElem s x = true) : (List.replicate k x).all (okElem s) = true := by
  rw [List.all_eq_true]; intro y hy; rw [List.eq_of_mem_replicate hy]; exact h

theorem ev_call {Cl : Call} {op : IOp} (hC : comp P C ⟨dst, .call Cl, ty, pos, after, guard⟩ = some op) (hI : Inv κ σ w) (hE : RepE κ n env a.tmps) (h : op.ev P env σ K) :
    Good P a.eval ⟨dst, .call Cl, ty, pos, after, guard⟩ κ w K := by
  simp only [comp] at hC
  have two : ∀ {x y : Operand}, Cl.args.toList = [x, y] → Cl.args = #[x, y] := fun h => by apply Array.ext'; simpa using h
  unfold compCall at hC
  split at hC
  · -- a named function
    rename_i g hcal
    split at hC
    · rename_i fn hfn
      obtain ⟨hcb, hC⟩ := bifsome hC
      obtain ⟨xs, hx, rfl⟩ := optmap hC
      have rx := opsT_spec hE hx
      have hrun := run_call_fn (P := P) (w := w) hcal a.eval rfl ty dst pos after guard hcb
      have hargs : (Cl.args.toList.map a.eval).toArray = Cl.args.map a.eval := by apply Array.ext'; simp
      rw [← hargs] at hrun
      cases hq : C.q.contains g with
      | true =>
        rw [hq] at h
        simp only [cond_true, IOp.ev] at h
        rw [getLK_eq] at h
        refine call_good hI hrun rx ?_
        rw [ACalls_def] at h ⊢
        intro κ1 w1 cargs h1 h2
        refine (h κ1 w1 cargs h1 h2).mono ?_
        rintro e w' ⟨v, κ', σ', x, h3, h4, h5, h6, h7⟩
        exact ⟨v, κ', σ', x, h3, h4, h5, h6, h7.1⟩
      | false =>
        rw [hq] at h
        simp only [cond_false, IOp.ev] at h
        rw [getLK_eq] at h
        exact call_good hI hrun rx h
    · cases hC
  · -- a function value
    rename_i f hnf hcal
    obtain ⟨f', hf, hC⟩ := optbind hC
    obtain ⟨xs, hx, rfl⟩ := optmap hC
    have rf := opT_spec hE hf
    have rx := opsU_spec hE hx
    simp only [IOp.ev, Opd.getK_eq] at h
    split at h
    · rename_i g first caps he
      rw [he] at rf
      rw [getLK_eq] at h
      obtain ⟨hcb, h⟩ := h
      obtain ⟨fv, cv, hv, hfv, hcv⟩ := rf.func_inv
      refine call_good (cargs := fv ++ Cl.args.toList.map a.eval ++ cv) hI ?_ ((hfv.append rx).append hcv) h
      unfold callB at hcb
      split at hcb
      · rename_i fn hfn
        simp only [Bool.and_eq_true, Bool.not_eq_true'] at hcb
        have h1 : fn.body.isNone = false := by cases hb : fn.body <;> simp_all
        have h2 : (fn.name == "runtime.NumGoroutine") = false := hcb.2
        have hargs : fv.toArray ++ Cl.args.map a.eval ++ cv.toArray = (fv ++ Cl.args.toList.map a.eval ++ cv).toArray := by apply Array.ext'; simp
        simp only [execOp, resolve, hcal, hv, Deferred.ofValue, Sem.run_bind, Sem.run_pure, Result.andThen_ok, invoke, callFunc, run_program, hfn, h1, h2, Bool.false_eq_true, if_false]
        rw [← hargs]
        try simp [hfn, h1, h2]
      · cases hcb
    · exact h.elim
  · -- len
    rename_i hcal
    split at hC
    · rename_i t x ht hx
      have hargs : Cl.args = #[x] := by apply Array.ext'; simpa using hx
      have fin : ∀ (x' : Opd) (k : Nat) , RepV κ (x'.get env) (a.eval x) → (∀ v, a.eval x = v → (Builtin.len_ Cl.argTypes ty #[v]).run P w = .ok (.int .i64 k) w) → K (.v (.int .i64 k)) σ → Good P a.eval ⟨dst, .call Cl, ty, pos, after, guard⟩ κ w K := by
        intro x' k r1 r2 r3
        refine .pure (v := .int .i64 k) (run_builtin hcal (S := Builtin.len_ Cl.argTypes ty (Cl.args.map a.eval)) (fun _ => rfl) ?_) hI (.v rfl) r3
        have : Cl.args.map a.eval = #[a.eval x] := by rw [hargs]; simp
        rw [this]; exact r2 _ rfl
      split at hC
      · rename_i e hu
        obtain ⟨x', hx', rfl⟩ := optmap hC
        have rx := opT_spec hE hx'
        simp only [IOp.ev, Opd.getK_eq] at h
        split at h
        · rename_i s xs tk _ he
          rw [he] at rx
          refine fin x' xs.length (by rw [he]; exact rx) ?_ h
          intro v hv
          subst hv
          rcases rx.slice_inv with ⟨⟨a0, hv⟩, hn⟩ | ⟨b, off, cap, vs, hv, _⟩
          · subst hn; rw [hv]; simp [Builtin.len_, ht, run_underlying hu, goInt]
          · rw [hv]; simp [Builtin.len_, ht, run_underlying hu, goInt]
        · rename_i r s off ln _ he
          rw [he] at rx
          refine fin x' ln (by rw [he]; exact rx) ?_ h
          intro v hv
          subst hv
          obtain ⟨b, cap, m, hv, _⟩ := rx.ms_inv
          rw [hv]; simp [Builtin.len_, ht, run_underlying hu, goInt]
        · rename_i hf _; cases hf
        · exact h.elim
      · rename_i hu
        obtain ⟨x', hx', rfl⟩ := optmap hC
        have rx := opT_spec hE hx'
        simp only [IOp.ev, Opd.getK_eq] at h
        split at h
        · rename_i hf _; cases hf
        · rename_i hf _; cases hf
        · rename_i b _ he
          rw [he] at rx
          refine fin x' b.size (by rw [he]; exact rx) ?_ h
          intro v hv
          subst hv
          obtain ⟨hv, _⟩ := rx.v_inv
          rw [hv]; simp [Builtin.len_, ht, run_underlying hu, goInt]
        · exact h.elim
      · cases hC
    · cases hC
  · -- max
    rename_i hcal
    split at hC
    · rename_i x y hxy
      have hargs : Cl.args = #[x, y] := by apply Array.ext'; simpa using hxy
      obtain ⟨x', hx, hC⟩ := optbind hC
      obtain ⟨y', hy, rfl⟩ := optmap hC
      have rx := opT_spec hE hx
      have ry := opT_spec hE hy
      simp only [IOp.ev, Opd.getK_eq] at h
      split at h
      · rename_i k m k' m' e1 e2
        rw [e1] at rx; rw [e2] at ry
        obtain ⟨hk, hh⟩ := bifTrue h
        clear h
        have hk := of_decide_eq_true hk
        subst hk
        have h := hh
        rw [AMx_def] at h
        obtain ⟨hxv, _⟩ := rx.v_inv
        obtain ⟨hyv, _⟩ := ry.v_inv
        refine .pure (run_builtin hcal (S := Builtin.max_ Cl.argTypes ty (Cl.args.map a.eval)) (fun _ => rfl) ?_) hI (.v rfl) h
        have : Cl.args.map a.eval = #[.int k m, .int k m'] := by rw [hargs]; simp [hxv, hyv]
        rw [this, run_max_int2]; simp
      · exact h.elim
    · cases hC
  · -- min
    rename_i hcal
    split at hC
    · rename_i x y hxy
      have hargs : Cl.args = #[x, y] := by apply Array.ext'; simpa using hxy
      obtain ⟨x', hx, hC⟩ := optbind hC
      obtain ⟨y', hy, rfl⟩ := optmap hC
      have rx := opT_spec hE hx
      have ry := opT_spec hE hy
      simp only [IOp.ev, Opd.getK_eq] at h
      split at h
      · rename_i k m k' m' e1 e2
        rw [e1] at rx; rw [e2] at ry
        obtain ⟨hk, hh⟩ := bifTrue h
        clear h
        have hk := of_decide_eq_true hk
        subst hk
        have h := hh
        rw [AMx_def] at h
        obtain ⟨hxv, _⟩ := rx.v_inv
        obtain ⟨hyv, _⟩ := ry.v_inv
        refine .pure (run_builtin hcal (S := Builtin.min_ Cl.argTypes ty (Cl.args.map a.eval)) (fun _ => rfl) ?_) hI (.v rfl) h
        have : Cl.args.map a.eval = #[.int k m, .int k m'] := by rw [hargs]; simp [hxv, hyv]
        rw [this, run_min_int2]; simp
      · exact h.elim
    · cases hC
  · -- append
    rename_i hcal
    split at hC
    · rename_i t u x y htu hxy
      have hargs : Cl.args = #[x, y] := by apply Array.ext'; simpa using hxy
      have htys : Cl.argTypes = #[t, u] := by apply Array.ext'; simpa using htu
      have hmap : ∀ vx vy, a.eval x = vx → a.eval y = vy → Cl.args.map a.eval = #[vx, vy] := fun vx vy h1 h2 => by rw [hargs]; simp [h1, h2]
      have good : ∀ v w', (Builtin.append_ Cl.argTypes ty (Cl.args.map a.eval)).run P w = .ok v w' → Post κ w' v K → Good P a.eval ⟨dst, .call Cl, ty, pos, after, guard⟩ κ w K := fun v w' h1 h2 =>
        .inl ⟨v, w', run_builtin hcal (fun _ => rfl) h1, h2⟩
      split at hC
      · rename_i e ud hte hud
        split at hC
        · rename_i i zs hi hz
          obtain ⟨i', z0, g1, g2, g3, g4, g5, g6⟩ := zeroT_spec (κ := κ) hz
          rw [hi] at g1; cases g1
          -- the two ways of a run, for whatever is appended
          have ways : ∀ (base : Option Addr) (sLen sCap : Nat) (vy : Value) (ny : Nat) (news : List Value), a.eval x = .slice base sLen sCap → a.eval y = vy → i.size ≠ 0 → i.bytes ≠ 0 →
              ((∃ e2, P.underlying u = some (.slice e2)) ∨ P.underlying u = some .string) → (Builtin.lenOf vy).run P w = .ok ny w → (∀ w', w'.heap = w.heap → (Builtin.firstCells i.size ny vy).run P w' = .ok news.toArray w') →
              news.length = ny * i.size → (sLen + ny) * i.bytes ≤ 140737488355328 →
              (sLen + ny ≤ sCap → (Builtin.append_ Cl.argTypes ty (Cl.args.map a.eval)).run P w = fitRun P w base (sLen + ny) sCap (sLen * i.size) news) ∧
              (¬ sLen + ny ≤ sCap → ∀ olds : List Value, (Builtin.firstCells i.size sLen (.slice base sLen sCap)).run P w.drew = .ok olds.toArray w.drew →
                ∃ cap c rest, sLen + ny ≤ cap ∧ (Builtin.append_ Cl.argTypes ty (Cl.args.map a.eval)).run P w = .ok (.slice (some ⟨w.heap.size, 0, none⟩) (sLen + ny) cap) (w.drew.alloc (.cells c e)) ∧
                  c.toList = olds ++ (news ++ rest) ∧ Ones rest ∧ (olds.length = sLen * i.size → cap * i.size ≤ c.size)) := by
            intro base sLen sCap vy ny news h1 h2 h3 h4 h5 h6 h7 h8 h9
            rw [hmap _ _ h1 h2, htys]
            refine ⟨fun hc => append_fits hte hi h5 base h6 (h7 w rfl) hc, fun hc olds ho => ?_⟩
            have hr := append_grows (ty := ty) (olds := olds) hte hi g2 h5 base h6 (h7 w.drew rfl) ho hc h4 h9
            refine ⟨_, _, (Builtin.zeroCells z0.cells (grownCap w (sLen + ny) sCap e - (sLen + ny))).toList, ?_, hr, by simp, ones_zero g5 _, fun hol => ?_⟩
            · unfold grownCap; simp only [Question.cut]; omega
            · have hge : sLen + ny ≤ grownCap w (sLen + ny) sCap e := by unfold grownCap; simp only [Question.cut]; omega
              simp only [Array.size_append, List.size_toArray, size_zero, g3, hol, h8]
              rw [← Nat.add_assoc, ← Nat.add_mul, ← Nat.add_mul]
              exact Nat.le_of_eq (by congr 1; omega)
          -- a list of elements
          have many : ∀ (x' y' : Opd), opT P t x = some x' → opT P u y = some y' → i.size ≠ 0 → i.bytes ≠ 0 → ((∃ e2, P.underlying u = some (.slice e2)) ∨ P.underlying u = some .string) →
              (IOp.ev P env σ (.app i.size i.bytes x' y') K ∨ IOp.ev P env σ (.appm i.size i.bytes x' y') K) → Good P a.eval ⟨dst, .call Cl, ty, pos, after, guard⟩ κ w K := by
            intro x' y' hx hy h3 h4 h5 h
            have rx := opT_spec hE hx
            have ry := opT_spec hE hy
            rcases h with h | h
            · simp only [IOp.ev, Opd.getK_eq] at h
              split at h
              · rename_i s1 xs tk he
                rw [he] at rx
                obtain ⟨hs, hh⟩ := bifTrue h
                clear h
                have hs := Nat.eq_of_beq_eq_true hs
                subst hs
                obtain ⟨ys, news, q1, q2, q3, q4, q5, q6⟩ := elems_spec (P := P) hI ry hh h3
                rw [AApp_def] at q1
                obtain ⟨σ', p1, p2, p3⟩ := q1
                have hval : ∃ A cap, a.eval x = .slice A xs.length cap := by
                  rcases rx.slice_inv with ⟨⟨a0, hv⟩, hn⟩ | ⟨b, off, cap, vs, hv, _⟩
                  · subst hn; exact ⟨a0, 0, hv⟩
                  · exact ⟨_, cap, hv⟩
                obtain ⟨A, cap, hav⟩ := hval
                have hnl : news.length = ys.length * i.size := by rw [← q3.length, flat_len q2]
                obtain ⟨w1, w2⟩ := ways A xs.length cap _ ys.length news hav rfl h3 h4 h5 q5 q6 hnl p2
                rw [hav] at rx
                obtain ⟨v, w', r1, r2⟩ := hI.app (P := P) rx q2 q3 q4 h3 w1 w2 p1 p3
                exact good v w' r1 r2
              · exact h.elim
            · simp only [IOp.ev, Opd.getK_eq] at h
              split at h
              · rename_i s1 xs tk he
                rw [he] at rx
                obtain ⟨hs, hh⟩ := bifTrue h
                clear h
                have hs := Nat.eq_of_beq_eq_true hs
                subst hs
                obtain ⟨ys, news, q1, q2, q3, q4, q5, q6⟩ := elems_spec (P := P) hI ry hh h3
                rw [AAppNew_def] at q1
                rcases q1 with ⟨rfl, p2, p3⟩ | q1 | q1
                · have hval : ∃ A cap, a.eval x = .slice A xs.length cap := by
                    rcases rx.slice_inv with ⟨⟨a0, hv⟩, hn⟩ | ⟨b, off, cap, vs, hv, _⟩
                    · subst hn; exact ⟨a0, 0, hv⟩
                    · exact ⟨_, cap, hv⟩
                  obtain ⟨A, cap, hav⟩ := hval
                  have hnn : news = [] := by cases q3; rfl
                  subst hnn
                  obtain ⟨w1, w2⟩ := ways A xs.length cap _ ([] : List AVal).length [] hav rfl h3 h4 h5 q5 q6 (by simp) (by simpa using p2)
                  rw [hav] at rx
                  obtain ⟨v, w', r1, r2⟩ := hI.appNone (P := P) rx w1 p3
                  exact good v w' r1 r2
                · obtain ⟨rfl, p1, rfl, p2, p3, p4⟩ := q1
                  have hval : ∃ A cap, a.eval x = .slice A 0 cap := by
                    rcases rx.slice_inv with ⟨⟨a0, hv⟩, hn⟩ | ⟨b, off, cap, vs, hv, _⟩
                    · exact ⟨a0, 0, hv⟩
                    · exact ⟨_, cap, hv⟩
                  obtain ⟨A, cap, hav⟩ := hval
                  have hnl : news.length = ys.length * i.size := by rw [← q3.length, flat_len q2]
                  obtain ⟨w1, w2⟩ := ways A 0 cap _ ys.length news hav rfl h3 h4 h5 q5 q6 hnl (by rw [Nat.zero_add]; exact p2)
                  rw [hav] at rx
                  obtain ⟨v, w', r1, r2⟩ := hI.appNew (P := P) rx q2 q3 q4 w2 p1 p4
                  exact good v w' r1 r2
                · rw [AApp_def] at q1
                  obtain ⟨σ', p1, p2, p3⟩ := q1
                  have hval : ∃ A cap, a.eval x = .slice A xs.length cap := by
                    rcases rx.slice_inv with ⟨⟨a0, hv⟩, hn⟩ | ⟨b, off, cap, vs, hv, _⟩
                    · subst hn; exact ⟨a0, 0, hv⟩
                    · exact ⟨_, cap, hv⟩
                  obtain ⟨A, cap, hav⟩ := hval
                  have hnl : news.length = ys.length * i.size := by rw [← q3.length, flat_len q2]
                  obtain ⟨w1, w2⟩ := ways A xs.length cap _ ys.length news hav rfl h3 h4 h5 q5 q6 hnl p2
                  rw [hav] at rx
                  obtain ⟨v, w', r1, r2⟩ := hI.app (P := P) rx q2 q3 q4 h3 w1 w2 p1 p3
                  exact good v w' r1 r2
              · rename_i r s1 off ln he
                rw [he] at rx
                obtain ⟨hs, hh⟩ := bifTrue h
                clear h
                have hs := Nat.eq_of_beq_eq_true hs
                subst hs
                obtain ⟨ys, news, q1, q2, q3, q4, q5, q6⟩ := elems_spec (P := P) hI ry hh h3
                rw [AAppM_def] at q1
                obtain ⟨rfl, p1, p2, cs, p3, p4, p5⟩ := q1
                obtain ⟨b, cap, m, hav, _⟩ := rx.ms_inv
                have hnl : news.length = ys.length * i.size := by rw [← q3.length, flat_len q2]
                obtain ⟨w1, w2⟩ := ways (some ⟨b, 0, none⟩) ln cap _ ys.length news hav rfl h3 h4 h5 q5 q6 hnl p1
                rw [hav] at rx
                obtain ⟨v, w', r1, r2⟩ := hI.appM (P := P) rx p3 p4 q2 q3 q4 w1 w2 p5
                exact good v w' r1 r2
              · exact h.elim
          have many2 : ∀ op, ((bif zs.all AVal.isCell && !(Nat.beq i.size 0) && !(Nat.beq i.bytes 0) then (opT P t x).bind fun x => (opT P u y).map fun y => bif C.m then IOp.appm i.size i.bytes x y else IOp.app i.size i.bytes x y else none) = some op) →
              ((∃ e2, P.underlying u = some (.slice e2)) ∨ P.underlying u = some .string) → IOp.ev P env σ op K → Good P a.eval ⟨dst, .call Cl, ty, pos, after, guard⟩ κ w K := by
            intro op hC h5 h
            obtain ⟨hb, hC⟩ := bifsome hC
            simp only [Bool.and_eq_true, Bool.not_eq_true'] at hb
            obtain ⟨x', hx, hC⟩ := optbind hC
            obtain ⟨y', hy, hop⟩ := optmap hC
            refine many x' y' hx hy (Nat.ne_of_beq_eq_false hb.1.2) (Nat.ne_of_beq_eq_false hb.2) h5 ?_
            cases hm : C.m with
            | true => rw [hm] at hop; subst hop; exact .inr h
            | false => rw [hm] at hop; subst hop; exact .inl h
          split at hC
          · -- noughts
            rename_i k
            split at hC
            · rename_i z hg
              obtain ⟨hb, hC⟩ := bifsome hC
              simp only [Bool.and_eq_true, Bool.not_eq_true'] at hb
              have h4 := Nat.ne_of_beq_eq_false hb.1
              have h3 := Nat.eq_of_beq_eq_true hb.2
              obtain ⟨x', hx, hC⟩ := optbind hC
              obtain ⟨y', hy, rfl⟩ := optmap hC
              have rx := opT_spec hE hx
              have ry := opT_spec hE hy
              have hz1 : ∃ v0, z0.cells = #[v0] ∧ RepV κ z v0 ∧ v0.oneCell = true := by
                have hll := g4.length
                cases hzz : z0.cells.toList with
                | nil => rw [hzz] at hll; simp at hll
                | cons v0 r =>
                  rw [hzz] at g4 hll g5
                  have : r = [] := by simpa using hll.symm
                  subst this
                  cases g4 with
                  | cons hv _ => exact ⟨v0, by apply Array.ext'; simpa using hzz, hv, g5 v0 (List.mem_cons_self ..)⟩
              obtain ⟨v0, hz1, hz2, hz3⟩ := hz1
              have hzc : z.isCell = true := by simpa using g6
              have hcs : z.cells = [z] := by cases z <;> first | rfl | (simp [AVal.isCell] at hzc)
              have hzl : ∀ m : Nat, (Builtin.zeroCells z0.cells m).toList = List.replicate m v0 := by
                intro m
                rw [hz1]
                apply List.ext_getElem (by simp [Builtin.zeroCells])
                intro j h1 h2
                simp [Builtin.zeroCells, Nat.mod_one]
              have hflat : ∀ m : Nat, (List.replicate m z).flatMap AVal.cells = List.replicate m z := by
                intro m
                induction m with
                | zero => rfl
                | succ k ih => simp only [List.replicate_succ, List.flatMap_cons, ih, hcs]; rfl
              have hrep : ∀ m : Nat, RepL κ ((List.replicate m z).flatMap AVal.cells) (List.replicate m v0) := fun m => by rw [hflat]; exact .replicate hz2 _
              have hel : ∀ m : Nat, ∀ y ∈ List.replicate m z, y.cells.length = 1 := fun m y hy => by rw [List.eq_of_mem_replicate hy, hcs]; rfl
              have ways0 : ∀ (base : Option Addr) (sLen sCap : Nat) (m : Int) (k' : IntKind), a.eval x = .slice base sLen sCap → a.eval y = .int k' m → 0 ≤ m → m < 4611686018427387904 → m * i.bytes ≤ 140737488355328 →
                  (sLen + (List.replicate m.toNat z).length) * i.bytes ≤ 140737488355328 →
                  (sLen + (List.replicate m.toNat z).length ≤ sCap → (Builtin.append_ Cl.argTypes ty (Cl.args.map a.eval)).run P w = fitRun P w base (sLen + (List.replicate m.toNat z).length) sCap (sLen * 1) (List.replicate m.toNat v0)) ∧
                  (¬ sLen + (List.replicate m.toNat z).length ≤ sCap → ∀ olds : List Value, (Builtin.firstCells 1 sLen (.slice base sLen sCap)).run P w.drew = .ok olds.toArray w.drew →
                    ∃ cap c rest, sLen + (List.replicate m.toNat z).length ≤ cap ∧ (Builtin.append_ Cl.argTypes ty (Cl.args.map a.eval)).run P w = .ok (.slice (some ⟨w.heap.size, 0, none⟩) (sLen + (List.replicate m.toNat z).length) cap) (w.drew.alloc (.cells c e)) ∧
                      c.toList = olds ++ (List.replicate m.toNat v0 ++ rest) ∧ Ones rest ∧ (olds.length = sLen * 1 → cap * 1 ≤ c.size)) := by
                intro base sLen sCap m k' h1 h2 q0 q1 q2 h9
                rw [List.length_replicate] at h9 ⊢
                have hw := wrap_small q0 q1
                rw [hmap _ _ h1 h2, htys]
                refine ⟨fun hc => ?_, fun hc olds ho => ?_⟩
                · have := append0_fits (w := w) (ty := ty) hte hi g2 hud base q0 q2 hw h3 (k' := k') (by rw [hz1]; rfl) hc
                  rw [this, hzl, h3]
                · have ho' : (Builtin.firstCells i.size sLen (.slice base sLen sCap)).run P w.drew = .ok olds.toArray w.drew := by rw [h3]; exact ho
                  have hr := append0_grows (w := w) (ty := ty) (olds := olds) hte hi g2 hud base q0 q2 hw h3 (k' := k') ho' hc h4 h9
                  refine ⟨_, _, (Builtin.zeroCells z0.cells (grownCap w (sLen + m.toNat) sCap e - (sLen + m.toNat))).toList, ?_, hr, by simp [hzl], ones_zero g5 _, fun hol => ?_⟩
                  · unfold grownCap; simp only [Question.cut]; omega
                  · have hge : sLen + m.toNat ≤ grownCap w (sLen + m.toNat) sCap e := by unfold grownCap; simp only [Question.cut]; omega
                    simp only [Array.size_append, List.size_toArray, size_zero, g3, h3, hol]
                    omega
              simp only [IOp.ev, Opd.getK_eq] at h
              split at h
              · rename_i s1 xs tk k' m e1 e2
                rw [e1] at rx; rw [e2] at ry
                obtain ⟨hs, hh⟩ := bifTrue h
                clear h
                simp only [Bool.and_eq_true] at hs
                have hs1 := Nat.eq_of_beq_eq_true hs.1
                subst hs1
                obtain ⟨q0, q1, q2, hh⟩ := hh
                obtain ⟨hyv, _⟩ := ry.v_inv
                have hval : ∃ A cap, a.eval x = .slice A xs.length cap := by
                  rcases rx.slice_inv with ⟨⟨a0, hv⟩, hn⟩ | ⟨b, off, cap, vs, hv, _⟩
                  · subst hn; exact ⟨a0, 0, hv⟩
                  · exact ⟨_, cap, hv⟩
                obtain ⟨A, cap, hav⟩ := hval
                rcases hh with hh | hh
                · rw [AApp_def] at hh
                  obtain ⟨σ', p1, p2, p3⟩ := hh
                  obtain ⟨w1, w2⟩ := ways0 A xs.length cap m k' hav hyv q0 q1 q2 p2
                  rw [hav] at rx
                  obtain ⟨v, w', r1, r2⟩ := hI.app (P := P) rx (hel m.toNat) (hrep m.toNat) (Ones.replicate hz3 _) (by omega) w1 w2 p1 p3
                  exact good v w' r1 r2
                · rw [AAppNew_def] at hh
                  rcases hh with ⟨p0, p2, p3⟩ | hh | hh
                  · have hm0 : m.toNat = 0 := by cases hq : m.toNat with
                      | zero => rfl
                      | succ k => rw [hq] at p0; cases p0
                    obtain ⟨w1, w2⟩ := ways0 A xs.length cap m k' hav hyv q0 q1 q2 (by rw [hm0]; simpa using p2)
                    rw [hav] at rx
                    obtain ⟨v, w', r1, r2⟩ := hI.appNone (P := P) (S := Builtin.append_ Cl.argTypes ty (Cl.args.map a.eval)) rx (fun hle => by have := w1 (by rw [hm0]; exact hle); rw [hm0] at this; exact this) p3
                    exact good v w' r1 r2
                  · obtain ⟨rfl, p1, rfl, p2, p3, p4⟩ := hh
                    obtain ⟨w1, w2⟩ := ways0 A 0 cap m k' hav hyv q0 q1 q2 (by rw [Nat.zero_add]; exact p2)
                    have hav' : a.eval x = .slice A 0 cap := hav
                    have rx' : RepV κ (.slice 1 [] .full) (.slice A 0 cap) := by rw [← hav']; exact rx
                    obtain ⟨v, w', r1, r2⟩ := hI.appNew (P := P) rx' (hel m.toNat) (hrep m.toNat) (Ones.replicate hz3 _) w2 p1 p4
                    exact good v w' r1 r2
                  · rw [AApp_def] at hh
                    obtain ⟨σ', p1, p2, p3⟩ := hh
                    obtain ⟨w1, w2⟩ := ways0 A xs.length cap m k' hav hyv q0 q1 q2 p2
                    rw [hav] at rx
                    obtain ⟨v, w', r1, r2⟩ := hI.app (P := P) rx (hel m.toNat) (hrep m.toNat) (Ones.replicate hz3 _) (by omega) w1 w2 p1 p3
                    exact good v w' r1 r2
              · rename_i r s1 off ln k' m e1 e2
                rw [e1] at rx; rw [e2] at ry
                obtain ⟨hs, hh⟩ := bifTrue h
                clear h
                simp only [Bool.and_eq_true] at hs
                have hs1 := Nat.eq_of_beq_eq_true hs.1
                subst hs1
                obtain ⟨q0, q1, q2, hh⟩ := hh
                obtain ⟨hyv, _⟩ := ry.v_inv
                rw [AAppM_def] at hh
                obtain ⟨rfl, p1, p2, cs, p3, p4, p5⟩ := hh
                obtain ⟨b, cap, m', hav, _⟩ := rx.ms_inv
                obtain ⟨w1, w2⟩ := ways0 (some ⟨b, 0, none⟩) ln cap m k' hav hyv q0 q1 q2 p1
                rw [hav] at rx
                obtain ⟨v, w', r1, r2⟩ := hI.appM (P := P) rx p3 p4 (hel m.toNat) (hrep m.toNat) (Ones.replicate hz3 _) w1 w2 p5
                exact good v w' r1 r2
              · exact h.elim
            · cases hC
          · exact many2 op hC (.inl ⟨_, hud⟩) h
          · exact many2 op hC (.inr hud) h
          · cases hC
        · cases hC
      · cases hC
    · cases hC
  · cases hC
end
end Go.Am

