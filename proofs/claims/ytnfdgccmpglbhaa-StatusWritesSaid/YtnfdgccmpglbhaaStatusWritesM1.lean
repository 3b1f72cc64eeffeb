/-
  Texts of this claim, part 2: Fo, Fp, Fq, Fr, Fs, Ft, Fu, Fv, Fw, Ir0, Irslices, Cbase, Fy, Fz, Irseqnum, Irref02, Cseq, Ctok, Cvia, Irstatus.
-/
import Derived.Test.YtnfdgccmpglbhaaStatusWritesM0
import Derived.Test.YtnfdgccmpglbhaaProg
import Derived.KernelRfl
import Derived.ChangeSlices
import Derived.SizedLaws
import Derived.WideShapes
import Derived.ChangeSame
import Derived.DataReads
import Derived.OpenShut
/-
  make, functions, calls and built-ins; every operation.
-/
namespace Go.Am
set_option linter.unusedVariables false
set_option linter.unusedSimpArgs false
set_option linter.unusedSectionVars false
open Go.RowKit (Below)

section
variable {P : Program} {κ : Ghost} {σ : AHeap} {w : World} {n : Nat} {env : Env} {a : Act} {K : AVal → AHeap → Prop} {C : Cfg}
variable {dst : Option Tmp} {ty : TypeId} {pos : String} {after : Array Edge} {guard : Option (Nat × Bool)}

theorem wrap_small {m : Int} (h0 : 0 ≤ m) (h1 : m < 4611686018427387904) : IntKind.i64.wrap m = m := by
  unfold IntKind.wrap IntKind.signed IntKind.bits
  simp only [Bool.true_and]
  have : m % (2 ^ 64 : Int) = m := Int.emod_eq_of_lt h0 (by omega)
  rw [this, if_neg]
  simp; omega

theorem ev_mk {t : TypeId} {l c : Operand} {op : IOp} (hC : comp P C ⟨dst, .makeSlice t l c, ty, pos, after, guard⟩ = some op) (hI : Inv κ σ w) (hE : RepE κ n env a.tmps) (h : op.ev P env σ K) :
    Good P a.eval ⟨dst, .makeSlice t l c, ty, pos, after, guard⟩ κ w K := by
  simp only [comp] at hC
  split at hC
  · rename_i e ht
    split at hC
    · rename_i i zs hi hz
      split at hC
      · rename_i z hg
        obtain ⟨hzc, hC⟩ := bifsome hC
        obtain ⟨l', hl, hC⟩ := optbind hC
        obtain ⟨c', hc, rfl⟩ := optmap hC
        have rl := opT_spec hE hl
        have rc := opT_spec hE hc
        obtain ⟨i', z0, h1, h2, h3, h4, h5, h6⟩ := zeroT_spec (κ := κ) hz
        rw [hi] at h1; cases h1
        simp only [IOp.ev, Opd.getK_eq] at h
        split at h
        · rename_i k1 m k2 m2 e1 e2
          rw [e1] at rl; rw [e2] at rc
          obtain ⟨hlv, _⟩ := rl.v_inv
          obtain ⟨hcv, _⟩ := rc.v_inv
          obtain ⟨rfl, h⟩ := h
          rw [AMk_def] at h
          obtain ⟨q0, q1, q2, hk⟩ := h
          have hz1 : ∃ v0, z0.cells = #[v0] ∧ RepV κ z v0 ∧ v0.oneCell = true := by
            have hll := h4.length
            obtain ⟨arr⟩ : Nonempty (Array Value) := ⟨z0.cells⟩
            cases hzz : z0.cells.toList with
            | nil => rw [hzz] at hll; simp at hll
            | cons v0 r =>
              rw [hzz] at h4 hll h5
              have : r = [] := by simpa using hll.symm
              subst this
              cases h4 with
              | cons hv _ => exact ⟨v0, by apply Array.ext'; simpa using hzz, hv, h5 v0 (List.mem_cons_self ..)⟩
          obtain ⟨v0, hz1, hz2, hz3⟩ := hz1
          have hcs : z.cells = [z] := by cases z <;> first | rfl | (simp [AVal.isCell] at hzc)
          rw [hcs] at hk
          have hflat : (List.replicate m.toNat z).flatMap AVal.cells = List.replicate m.toNat z := by
            induction m.toNat with
            | zero => rfl
            | succ k ih => simp only [List.replicate_succ, List.flatMap_cons, ih, hcs]; rfl
          have hrep : RepL κ ((List.replicate m.toNat z).flatMap AVal.cells) (List.replicate m.toNat v0) := by rw [hflat]; exact .replicate hz2 _
          obtain ⟨N, hN⟩ := hI.fin
          have hsz : i.size = 1 := by rw [← h3, hz1]; rfl
          obtain ⟨κ', r1, r2, r3⟩ := hI.newSlice (c := (List.replicate m.toNat v0).toArray) (e := e) (s := 1) (cap := m.toNat) (xs := List.replicate m.toNat z) (us := [])
            (fun x hx => by rw [List.eq_of_mem_replicate hx, hcs]; rfl) hrep (by simp) (by simpa using Ones.replicate hz3 _) (by simp) (by simp) (t := N) (hN N (Nat.le_refl _))
          rw [List.length_replicate] at r3
          refine .inl ⟨_, _, ?_, κ', σ, _, r1, r2.sub (Sub.upd_fresh _ (hN N (Nat.le_refl _)).1), r3.full_of_tip, hk⟩
          simp only [execOp, hlv, hcv]
          refine execV _ ?_
          have hw := wrap_small q0 q1
          have hn1 : ¬ m < 0 := by omega
          have hn2 : ¬ (281474976710656 < (i.bytes : Int) * m) := by rw [Int.mul_comm]; omega
          have hzr : (if m.toNat = 0 then (pure #[] : Sem (Array Value)) else do pure (← zeroValue e).cells).run P w = .ok (if m.toNat = 0 then #[] else #[v0]) w := by
            split
            · rfl
            · simp [zeroValue, typeInfo, hi, h2, hz1]
          by_cases h0 : m.toNat = 0
          · simp [Instr.makeSlice, run_underlying ht, asInt, asIntOf, typeInfo, hi, hw, hn1, hn2, sizeOf, hsz, newRow, h0]
            have hr0 : Array.map (fun (_ : Nat) => (default : Value)) (Array.range 0) = #[] := by simp
            rw [hr0]
          · have hmap : (Array.range m.toNat).map (fun x => (#[v0] : Array Value)[x % (#[v0] : Array Value).size]!) = (List.replicate m.toNat v0).toArray := by
              apply Array.ext (by simp)
              intro j h1 h2
              simp [Nat.mod_one]
            simp [Instr.makeSlice, run_underlying ht, asInt, asIntOf, typeInfo, hi, hw, hn1, hn2, sizeOf, hsz, newRow, h0, zeroValue, h2, hz1]
            have hmap' := congrArg (fun c => w.alloc (.cells c e)) hmap
            simpa using hmap'
        · exact h.elim
      · cases hC
    · cases hC
  · cases hC

theorem ev_fn {g : FuncId} {first caps : Array Operand} {op : IOp} (hC : comp P C ⟨dst, .makeFunc (.func g) first caps, ty, pos, after, guard⟩ = some op) (hI : Inv κ σ w) (hE : RepE κ n env a.tmps) (h : op.ev P env σ K) :
    Good P a.eval ⟨dst, .makeFunc (.func g) first caps, ty, pos, after, guard⟩ κ w K := by
  simp only [comp] at hC
  obtain ⟨f', hf, hC⟩ := optbind hC
  obtain ⟨c', hc, rfl⟩ := optmap hC
  have rf := opsU_spec hE hf
  have rc := opsU_spec hE hc
  simp only [IOp.ev, Opd.getK_eq] at h
  rw [getLK_eq, getLK_eq] at h
  refine .pure (v := .func (.func g) (first.map a.eval) (caps.map a.eval)) (by simp [execOp, Instr.makeFunc]) hI ?_ h
  have := RepV.func (g := g) rf rc
  have e : ∀ xs : Array Operand, (List.map a.eval xs.toList).toArray = xs.map a.eval := fun xs => by apply Array.ext'; simp
  rw [e, e] at this
  exact this

theorem run_builtin {Cl : Call} {b : Builtin} (hb : Cl.callee = .builtin b) {S : Sem Value} {v : Value} {w' : World}
    (hS : ∀ cs, Go.builtin b Cl.argTypes ty cs (Cl.args.map a.eval) = (do pure (.value (← S)))) (h : S.run P w = .ok v w') :
    (execOp a.eval ⟨dst, .call Cl, ty, pos, after, guard⟩).run P w = .ok (.value v) w' := by
  simp only [execOp, resolve, hb, Sem.run_bind, Sem.run_pure, Result.andThen_ok, invoke]
  rw [hS]
  exact execV _ h

theorem call_good {o : Oper} {g : FuncId} {args : List AVal} {cargs : List Value} (hI : Inv κ σ w) (hr : (execOp a.eval o).run P w = .ok (.enter g cargs.toArray) w) (hargs : RepL κ args cargs) (h : ACalls P g args σ K) : Good P a.eval o κ w K := by
  rw [ACalls_def] at h
  refine .inr (.inr ⟨g, _, hr, (h κ w cargs hI hargs).mono ?_⟩)
  rintro e w' ⟨v, κ', σ', x, rfl, h1, h2, h3, h4⟩
  exact ⟨v, rfl, κ', σ', x, h1, h2, h3, h4⟩

theorem ones_elems {s : Nat} {x : AVal} (k : Nat) (h : okElem s x = true) : (List.replicate k x).all (okElem s) = true := by
  rw [List.all_eq_true]; intro y hy; rw [List.eq_of_mem_replicate hy]; exact h

theorem ev_call {Cl : Call} {op : IOp} (hC : comp P C ⟨dst, .call Cl, ty, pos, after, guard⟩ = some op) (hI : Inv κ σ w) (hE : RepE κ n env a.tmps) (h : op.ev P env σ K) :
    Good P a.eval ⟨dst, .call Cl, ty, pos, after, guard⟩ κ w K := by
  simp only [comp] at hC
  have two : ∀ {x y : Operand}, Cl.args.toList = [x, y] → Cl.args = #[x, y] := fun h => by apply Array.ext'; simpa using h
  unfold compCall at hC
  split at hC
  · -- a named function
    rename_i g hcal
    split at hC
    · rename_i fn hfn
      obtain ⟨hcb, hC⟩ := bifsome hC
      obtain ⟨xs, hx, rfl⟩ := optmap hC
      have rx := opsT_spec hE hx
      have hrun := run_call_fn (P := P) (w := w) hcal a.eval rfl ty dst pos after guard hcb
      have hargs : (Cl.args.toList.map a.eval).toArray = Cl.args.map a.eval := by apply Array.ext'; simp
      rw [← hargs] at hrun
      cases hq : C.q.contains g with
      | true =>
        rw [hq] at h
        simp only [cond_true, IOp.ev] at h
        rw [getLK_eq] at h
        refine call_good hI hrun rx ?_
        rw [ACalls_def] at h ⊢
        intro κ1 w1 cargs h1 h2
        refine (h κ1 w1 cargs h1 h2).mono ?_
        rintro e w' ⟨v, κ', σ', x, h3, h4, h5, h6, h7⟩
        exact ⟨v, κ', σ', x, h3, h4, h5, h6, h7.1⟩
      | false =>
        rw [hq] at h
        simp only [cond_false, IOp.ev] at h
        rw [getLK_eq] at h
        exact call_good hI hrun rx h
    · cases hC
  · -- a function value
    rename_i f hnf hcal
    obtain ⟨f', hf, hC⟩ := optbind hC
    obtain ⟨xs, hx, rfl⟩ := optmap hC
    have rf := opT_spec hE hf
    have rx := opsU_spec hE hx
    simp only [IOp.ev, Opd.getK_eq] at h
    split at h
    · rename_i g first caps he
      rw [he] at rf
      rw [getLK_eq] at h
      obtain ⟨hcb, h⟩ := h
      obtain ⟨fv, cv, hv, hfv, hcv⟩ := rf.func_inv
      refine call_good (cargs := fv ++ Cl.args.toList.map a.eval ++ cv) hI ?_ ((hfv.append rx).append hcv) h
      unfold callB at hcb
      split at hcb
      · rename_i fn hfn
        simp only [Bool.and_eq_true, Bool.not_eq_true'] at hcb
        have h1 : fn.body.isNone = false := by cases hb : fn.body <;> simp_all
        have h2 : (fn.name == "runtime.NumGoroutine") = false := hcb.2
        have hargs : fv.toArray ++ Cl.args.map a.eval ++ cv.toArray = (fv ++ Cl.args.toList.map a.eval ++ cv).toArray := by apply Array.ext'; simp
        simp only [execOp, resolve, hcal, hv, Deferred.ofValue, Sem.run_bind, Sem.run_pure, Result.andThen_ok, invoke, callFunc, run_program, hfn, h1, h2, Bool.false_eq_true, if_false]
        rw [← hargs]
        try simp [hfn, h1, h2]
      · cases hcb
    · exact h.elim
  · -- len
    rename_i hcal
    split at hC
    · rename_i t x ht hx
      have hargs : Cl.args = #[x] := by apply Array.ext'; simpa using hx
      have fin : ∀ (x' : Opd) (k : Nat) , RepV κ (x'.get env) (a.eval x) → (∀ v, a.eval x = v → (Builtin.len_ Cl.argTypes ty #[v]).run P w = .ok (.int .i64 k) w) → K (.v (.int .i64 k)) σ → Good P a.eval ⟨dst, .call Cl, ty, pos, after, guard⟩ κ w K := by
        intro x' k r1 r2 r3
        refine .pure (v := .int .i64 k) (run_builtin hcal (S := Builtin.len_ Cl.argTypes ty (Cl.args.map a.eval)) (fun _ => rfl) ?_) hI (.v rfl) r3
        have : Cl.args.map a.eval = #[a.eval x] := by rw [hargs]; simp
        rw [this]; exact r2 _ rfl
      split at hC
      · rename_i e hu
        obtain ⟨x', hx', rfl⟩ := optmap hC
        have rx := opT_spec hE hx'
        simp only [IOp.ev, Opd.getK_eq] at h
        split at h
        · rename_i s xs tk _ he
          rw [he] at rx
          refine fin x' xs.length (by rw [he]; exact rx) ?_ h
          intro v hv
          subst hv
          rcases rx.slice_inv with ⟨⟨a0, hv⟩, hn⟩ | ⟨b, off, cap, vs, hv, _⟩
          · subst hn; rw [hv]; simp [Builtin.len_, ht, run_underlying hu, goInt]
          · rw [hv]; simp [Builtin.len_, ht, run_underlying hu, goInt]
        · rename_i r s off ln _ he
          rw [he] at rx
          refine fin x' ln (by rw [he]; exact rx) ?_ h
          intro v hv
          subst hv
          obtain ⟨b, cap, m, hv, _⟩ := rx.ms_inv
          rw [hv]; simp [Builtin.len_, ht, run_underlying hu, goInt]
        · rename_i hf _; cases hf
        · exact h.elim
      · rename_i hu
        obtain ⟨x', hx', rfl⟩ := optmap hC
        have rx := opT_spec hE hx'
        simp only [IOp.ev, Opd.getK_eq] at h
        split at h
        · rename_i hf _; cases hf
        · rename_i hf _; cases hf
        · rename_i b _ he
          rw [he] at rx
          refine fin x' b.size (by rw [he]; exact rx) ?_ h
          intro v hv
          subst hv
          obtain ⟨hv, _⟩ := rx.v_inv
          rw [hv]; simp [Builtin.len_, ht, run_underlying hu, goInt]
        · exact h.elim
      · cases hC
    · cases hC
  · -- cap
    rename_i hcal
    split at hC
    · rename_i t x ht hx
      have hargs : Cl.args = #[x] := by apply Array.ext'; simpa using hx
      split at hC
      · rename_i e hu
        obtain ⟨x', hx', rfl⟩ := optmap hC
        have rx := opT_spec hE hx'
        simp only [IOp.ev, Opd.getK_eq] at h
        split at h
        · rename_i s xs he
          rw [he] at rx
          refine .pure (v := .int .i64 xs.length) (run_builtin hcal (S := Builtin.cap_ Cl.argTypes ty (Cl.args.map a.eval)) (fun _ => rfl) ?_) hI (.v rfl) h
          have : Cl.args.map a.eval = #[a.eval x] := by rw [hargs]; simp
          rw [this]
          rcases rx.slice_inv with ⟨⟨a0, hv⟩, hn⟩ | ⟨b, off, cap, vs, hv, g2, g3, g4, g5, g6⟩
          · subst hn; rw [hv]; simp [Builtin.cap_, ht, run_underlying hu, goInt]
          · rw [hv]
            have g6 : cap = xs.length := g6
            simp [Builtin.cap_, ht, run_underlying hu, goInt, g6]
        · exact h.elim
      · cases hC
    · cases hC
  · -- delete
    rename_i hcal
    split at hC
    · rename_i t m k ht hx
      have hargs : Cl.args = #[m, k] := two hx
      split at hC
      · rename_i kt e hu
        split at hC
        · rename_i hk
          obtain ⟨m', hm, hC⟩ := optbind hC
          obtain ⟨k', hk', rfl⟩ := optmap hC
          have hta : Cl.args.map a.eval = #[a.eval m, a.eval k] := by rw [hargs]; simp
          refine ev_mdel (ty := ty) hm hk' hk hI hE h fun i w' hr hp => .inl ⟨.tuple #[], w', run_builtin hcal (S := Builtin.delete_ Cl.argTypes ty (Cl.args.map a.eval)) (fun _ => rfl) ?_, hp⟩
          rw [hta]
          exact hr ht hu
        · cases hC
      · cases hC
    · cases hC
  · -- max
    rename_i hcal
    split at hC
    · rename_i x y hxy
      have hargs : Cl.args = #[x, y] := by apply Array.ext'; simpa using hxy
      obtain ⟨x', hx, hC⟩ := optbind hC
      obtain ⟨y', hy, rfl⟩ := optmap hC
      have rx := opT_spec hE hx
      have ry := opT_spec hE hy
      simp only [IOp.ev, Opd.getK_eq] at h
      split at h
      · rename_i k m k' m' e1 e2
        rw [e1] at rx; rw [e2] at ry
        obtain ⟨hk, hh⟩ := bifTrue h
        clear h
        have hk := of_decide_eq_true hk
        subst hk
        have h := hh
        rw [AMx_def] at h
        obtain ⟨hxv, _⟩ := rx.v_inv
        obtain ⟨hyv, _⟩ := ry.v_inv
        refine .pure (run_builtin hcal (S := Builtin.max_ Cl.argTypes ty (Cl.args.map a.eval)) (fun _ => rfl) ?_) hI (.v rfl) h
        have : Cl.args.map a.eval = #[.int k m, .int k m'] := by rw [hargs]; simp [hxv, hyv]
        rw [this, run_max_int2]; simp
      · exact h.elim
    · cases hC
  · -- min
    rename_i hcal
    split at hC
    · rename_i x y hxy
      have hargs : Cl.args = #[x, y] := by apply Array.ext'; simpa using hxy
      obtain ⟨x', hx, hC⟩ := optbind hC
      obtain ⟨y', hy, rfl⟩ := optmap hC
      have rx := opT_spec hE hx
      have ry := opT_spec hE hy
      simp only [IOp.ev, Opd.getK_eq] at h
      split at h
      · rename_i k m k' m' e1 e2
        rw [e1] at rx; rw [e2] at ry
        obtain ⟨hk, hh⟩ := bifTrue h
        clear h
        have hk := of_decide_eq_true hk
        subst hk
        have h := hh
        rw [AMx_def] at h
        obtain ⟨hxv, _⟩ := rx.v_inv
        obtain ⟨hyv, _⟩ := ry.v_inv
        refine .pure (run_builtin hcal (S := Builtin.min_ Cl.argTypes ty (Cl.args.map a.eval)) (fun _ => rfl) ?_) hI (.v rfl) h
        have : Cl.args.map a.eval = #[.int k m, .int k m'] := by rw [hargs]; simp [hxv, hyv]
        rw [this, run_min_int2]; simp
      · exact h.elim
    · cases hC
  · -- append
    rename_i hcal
    split at hC
    · rename_i t u x y htu hxy
      have hargs : Cl.args = #[x, y] := by apply Array.ext'; simpa using hxy
      have htys : Cl.argTypes = #[t, u] := by apply Array.ext'; simpa using htu
      have hmap : ∀ vx vy, a.eval x = vx → a.eval y = vy → Cl.args.map a.eval = #[vx, vy] := fun vx vy h1 h2 => by rw [hargs]; simp [h1, h2]
      have good : ∀ v w', (Builtin.append_ Cl.argTypes ty (Cl.args.map a.eval)).run P w = .ok v w' → Post κ w' v K → Good P a.eval ⟨dst, .call Cl, ty, pos, after, guard⟩ κ w K := fun v w' h1 h2 =>
        .inl ⟨v, w', run_builtin hcal (fun _ => rfl) h1, h2⟩
      split at hC
      · rename_i e ud hte hud
        split at hC
        · rename_i i zs hi hz
          obtain ⟨i', z0, g1, g2, g3, g4, g5, g6⟩ := zeroT_spec (κ := κ) hz
          rw [hi] at g1; cases g1
          -- the two ways of a run, for whatever is appended
          have ways : ∀ (base : Option Addr) (sLen sCap : Nat) (vy : Value) (ny : Nat) (news : List Value), a.eval x = .slice base sLen sCap → a.eval y = vy → i.size ≠ 0 → i.bytes ≠ 0 →
              ((∃ e2, P.underlying u = some (.slice e2)) ∨ P.underlying u = some .string) → (Builtin.lenOf vy).run P w = .ok ny w → (∀ w', w'.heap = w.heap → (Builtin.firstCells i.size ny vy).run P w' = .ok news.toArray w') →
              news.length = ny * i.size → (sLen + ny) * i.bytes ≤ 140737488355328 →
              (sLen + ny ≤ sCap → (Builtin.append_ Cl.argTypes ty (Cl.args.map a.eval)).run P w = fitRun P w base (sLen + ny) sCap (sLen * i.size) news) ∧
              (¬ sLen + ny ≤ sCap → ∀ olds : List Value, (Builtin.firstCells i.size sLen (.slice base sLen sCap)).run P w.drew = .ok olds.toArray w.drew →
                ∃ cap c rest, sLen + ny ≤ cap ∧ (Builtin.append_ Cl.argTypes ty (Cl.args.map a.eval)).run P w = .ok (.slice (some ⟨w.heap.size, 0, none⟩) (sLen + ny) cap) (w.drew.alloc (.cells c e)) ∧
                  c.toList = olds ++ (news ++ rest) ∧ Ones rest ∧ (olds.length = sLen * i.size → cap * i.size ≤ c.size)) := by
            intro base sLen sCap vy ny news h1 h2 h3 h4 h5 h6 h7 h8 h9
            rw [hmap _ _ h1 h2, htys]
            refine ⟨fun hc => append_fits hte hi h5 base h6 (h7 w rfl) hc, fun hc olds ho => ?_⟩
            have hr := append_grows (ty := ty) (olds := olds) hte hi g2 h5 base h6 (h7 w.drew rfl) ho hc h4 h9
            refine ⟨_, _, (Builtin.zeroCells z0.cells (grownCap w (sLen + ny) sCap e - (sLen + ny))).toList, ?_, hr, by simp, ones_zero g5 _, fun hol => ?_⟩
            · unfold grownCap; simp only [Question.cut]; omega
            · have hge : sLen + ny ≤ grownCap w (sLen + ny) sCap e := by unfold grownCap; simp only [Question.cut]; omega
              simp only [Array.size_append, List.size_toArray, size_zero, g3, hol, h8]
              rw [← Nat.add_assoc, ← Nat.add_mul, ← Nat.add_mul]
              exact Nat.le_of_eq (by congr 1; omega)
          -- a list of elements
          have many : ∀ (x' y' : Opd), opT P t x = some x' → opT P u y = some y' → i.size ≠ 0 → i.bytes ≠ 0 → ((∃ e2, P.underlying u = some (.slice e2)) ∨ P.underlying u = some .string) →
              (IOp.ev P env σ (.app i.size i.bytes x' y') K ∨ IOp.ev P env σ (.appm i.size i.bytes x' y') K) → Good P a.eval ⟨dst, .call Cl, ty, pos, after, guard⟩ κ w K := by
            intro x' y' hx hy h3 h4 h5 h
            have rx := opT_spec hE hx
            have ry := opT_spec hE hy
            rcases h with h | h
            · simp only [IOp.ev, Opd.getK_eq] at h
              split at h
              · rename_i s1 xs tk he
                rw [he] at rx
                obtain ⟨hs, hh⟩ := bifTrue h
                clear h
                have hs := Nat.eq_of_beq_eq_true hs
                subst hs
                obtain ⟨ys, news, q1, q2, q3, q4, q5, q6⟩ := elems_spec (P := P) hI ry hh h3
                rw [AApp_def] at q1
                obtain ⟨σ', p1, p2, p3⟩ := q1
                have hval : ∃ A cap, a.eval x = .slice A xs.length cap := by
                  rcases rx.slice_inv with ⟨⟨a0, hv⟩, hn⟩ | ⟨b, off, cap, vs, hv, _⟩
                  · subst hn; exact ⟨a0, 0, hv⟩
                  · exact ⟨_, cap, hv⟩
                obtain ⟨A, cap, hav⟩ := hval
                have hnl : news.length = ys.length * i.size := by rw [← q3.length, flat_len q2]
                obtain ⟨w1, w2⟩ := ways A xs.length cap _ ys.length news hav rfl h3 h4 h5 q5 q6 hnl p2
                rw [hav] at rx
                obtain ⟨v, w', r1, r2⟩ := hI.app (P := P) rx q2 q3 q4 h3 w1 w2 p1 p3
                exact good v w' r1 r2
              · exact h.elim
            · simp only [IOp.ev, Opd.getK_eq] at h
              split at h
              · rename_i s1 xs tk he
                rw [he] at rx
                obtain ⟨hs, hh⟩ := bifTrue h
                clear h
                have hs := Nat.eq_of_beq_eq_true hs
                subst hs
                obtain ⟨ys, news, q1, q2, q3, q4, q5, q6⟩ := elems_spec (P := P) hI ry hh h3
                rw [AAppNew_def] at q1
                rcases q1 with ⟨rfl, p2, p3⟩ | q1 | q1
                · have hval : ∃ A cap, a.eval x = .slice A xs.length cap := by
                    rcases rx.slice_inv with ⟨⟨a0, hv⟩, hn⟩ | ⟨b, off, cap, vs, hv, _⟩
                    · subst hn; exact ⟨a0, 0, hv⟩
                    · exact ⟨_, cap, hv⟩
                  obtain ⟨A, cap, hav⟩ := hval
                  have hnn : news = [] := by cases q3; rfl
                  subst hnn
                  obtain ⟨w1, w2⟩ := ways A xs.length cap _ ([] : List AVal).length [] hav rfl h3 h4 h5 q5 q6 (by simp) (by simpa using p2)
                  rw [hav] at rx
                  obtain ⟨v, w', r1, r2⟩ := hI.appNone (P := P) rx w1 p3
                  exact good v w' r1 r2
                · obtain ⟨rfl, p1, rfl, p2, p3, p4⟩ := q1
                  have hval : ∃ A cap, a.eval x = .slice A 0 cap := by
                    rcases rx.slice_inv with ⟨⟨a0, hv⟩, hn⟩ | ⟨b, off, cap, vs, hv, _⟩
                    · exact ⟨a0, 0, hv⟩
                    · exact ⟨_, cap, hv⟩
                  obtain ⟨A, cap, hav⟩ := hval
                  have hnl : news.length = ys.length * i.size := by rw [← q3.length, flat_len q2]
                  obtain ⟨w1, w2⟩ := ways A 0 cap _ ys.length news hav rfl h3 h4 h5 q5 q6 hnl (by rw [Nat.zero_add]; exact p2)
                  rw [hav] at rx
                  obtain ⟨v, w', r1, r2⟩ := hI.appNew (P := P) rx q2 q3 q4 w2 p1 p4
                  exact good v w' r1 r2
                · rw [AApp_def] at q1
                  obtain ⟨σ', p1, p2, p3⟩ := q1
                  have hval : ∃ A cap, a.eval x = .slice A xs.length cap := by
                    rcases rx.slice_inv with ⟨⟨a0, hv⟩, hn⟩ | ⟨b, off, cap, vs, hv, _⟩
                    · subst hn; exact ⟨a0, 0, hv⟩
                    · exact ⟨_, cap, hv⟩
                  obtain ⟨A, cap, hav⟩ := hval
                  have hnl : news.length = ys.length * i.size := by rw [← q3.length, flat_len q2]
                  obtain ⟨w1, w2⟩ := ways A xs.length cap _ ys.length news hav rfl h3 h4 h5 q5 q6 hnl p2
                  rw [hav] at rx
                  obtain ⟨v, w', r1, r2⟩ := hI.app (P := P) rx q2 q3 q4 h3 w1 w2 p1 p3
                  exact good v w' r1 r2
              · rename_i r s1 off ln he
                rw [he] at rx
                obtain ⟨hs, hh⟩ := bifTrue h
                clear h
                have hs := Nat.eq_of_beq_eq_true hs
                subst hs
                obtain ⟨ys, news, q1, q2, q3, q4, q5, q6⟩ := elems_spec (P := P) hI ry hh h3
                rw [AAppM_def] at q1
                obtain ⟨rfl, p1, p2, cs, p3, p4, p5⟩ := q1
                obtain ⟨b, cap, m, hav, _⟩ := rx.ms_inv
                have hnl : news.length = ys.length * i.size := by rw [← q3.length, flat_len q2]
                obtain ⟨w1, w2⟩ := ways (some ⟨b, 0, none⟩) ln cap _ ys.length news hav rfl h3 h4 h5 q5 q6 hnl p1
                rw [hav] at rx
                obtain ⟨v, w', r1, r2⟩ := hI.appM (P := P) rx p3 p4 q2 q3 q4 w1 w2 p5
                exact good v w' r1 r2
              · exact h.elim
          have many2 : ∀ op, ((bif zs.all AVal.isCell && !(Nat.beq i.size 0) && !(Nat.beq i.bytes 0) then (opT P t x).bind fun x => (opT P u y).map fun y => bif C.m.contains t then IOp.appm i.size i.bytes x y else IOp.app i.size i.bytes x y else none) = some op) →
              ((∃ e2, P.underlying u = some (.slice e2)) ∨ P.underlying u = some .string) → IOp.ev P env σ op K → Good P a.eval ⟨dst, .call Cl, ty, pos, after, guard⟩ κ w K := by
            intro op hC h5 h
            obtain ⟨hb, hC⟩ := bifsome hC
            simp only [Bool.and_eq_true, Bool.not_eq_true'] at hb
            obtain ⟨x', hx, hC⟩ := optbind hC
            obtain ⟨y', hy, hop⟩ := optmap hC
            refine many x' y' hx hy (Nat.ne_of_beq_eq_false hb.1.2) (Nat.ne_of_beq_eq_false hb.2) h5 ?_
            cases hm : C.m.contains t with
            | true => rw [hm] at hop; subst hop; exact .inr h
            | false => rw [hm] at hop; subst hop; exact .inl h
          split at hC
          · -- noughts
            rename_i k
            split at hC
            · rename_i z hg
              obtain ⟨hb, hC⟩ := bifsome hC
              simp only [Bool.and_eq_true, Bool.not_eq_true'] at hb
              have h4 := Nat.ne_of_beq_eq_false hb.1
              have h3 := Nat.eq_of_beq_eq_true hb.2
              obtain ⟨x', hx, hC⟩ := optbind hC
              obtain ⟨y', hy, rfl⟩ := optmap hC
              have rx := opT_spec hE hx
              have ry := opT_spec hE hy
              have hz1 : ∃ v0, z0.cells = #[v0] ∧ RepV κ z v0 ∧ v0.oneCell = true := by
                have hll := g4.length
                cases hzz : z0.cells.toList with
                | nil => rw [hzz] at hll; simp at hll
                | cons v0 r =>
                  rw [hzz] at g4 hll g5
                  have : r = [] := by simpa using hll.symm
                  subst this
                  cases g4 with
                  | cons hv _ => exact ⟨v0, by apply Array.ext'; simpa using hzz, hv, g5 v0 (List.mem_cons_self ..)⟩
              obtain ⟨v0, hz1, hz2, hz3⟩ := hz1
              have hzc : z.isCell = true := by simpa using g6
              have hcs : z.cells = [z] := by cases z <;> first | rfl | (simp [AVal.isCell] at hzc)
              have hzl : ∀ m : Nat, (Builtin.zeroCells z0.cells m).toList = List.replicate m v0 := by
                intro m
                rw [hz1]
                apply List.ext_getElem (by simp [Builtin.zeroCells])
                intro j h1 h2
                simp [Builtin.zeroCells, Nat.mod_one]
              have hflat : ∀ m : Nat, (List.replicate m z).flatMap AVal.cells = List.replicate m z := by
                intro m
                induction m with
                | zero => rfl
                | succ k ih => simp only [List.replicate_succ, List.flatMap_cons, ih, hcs]; rfl
              have hrep : ∀ m : Nat, RepL κ ((List.replicate m z).flatMap AVal.cells) (List.replicate m v0) := fun m => by rw [hflat]; exact .replicate hz2 _
              have hel : ∀ m : Nat, ∀ y ∈ List.replicate m z, y.cells.length = 1 := fun m y hy => by rw [List.eq_of_mem_replicate hy, hcs]; rfl
              have ways0 : ∀ (base : Option Addr) (sLen sCap : Nat) (m : Int) (k' : IntKind), a.eval x = .slice base sLen sCap → a.eval y = .int k' m → 0 ≤ m → m < 4611686018427387904 → m * i.bytes ≤ 140737488355328 →
                  (sLen + (List.replicate m.toNat z).length) * i.bytes ≤ 140737488355328 →
                  (sLen + (List.replicate m.toNat z).length ≤ sCap → (Builtin.append_ Cl.argTypes ty (Cl.args.map a.eval)).run P w = fitRun P w base (sLen + (List.replicate m.toNat z).length) sCap (sLen * 1) (List.replicate m.toNat v0)) ∧
                  (¬ sLen + (List.replicate m.toNat z).length ≤ sCap → ∀ olds : List Value, (Builtin.firstCells 1 sLen (.slice base sLen sCap)).run P w.drew = .ok olds.toArray w.drew →
                    ∃ cap c rest, sLen + (List.replicate m.toNat z).length ≤ cap ∧ (Builtin.append_ Cl.argTypes ty (Cl.args.map a.eval)).run P w = .ok (.slice (some ⟨w.heap.size, 0, none⟩) (sLen + (List.replicate m.toNat z).length) cap) (w.drew.alloc (.cells c e)) ∧
                      c.toList = olds ++ (List.replicate m.toNat v0 ++ rest) ∧ Ones rest ∧ (olds.length = sLen * 1 → cap * 1 ≤ c.size)) := by
                intro base sLen sCap m k' h1 h2 q0 q1 q2 h9
                rw [List.length_replicate] at h9 ⊢
                have hw := wrap_small q0 q1
                rw [hmap _ _ h1 h2, htys]
                refine ⟨fun hc => ?_, fun hc olds ho => ?_⟩
                · have := append0_fits (w := w) (ty := ty) hte hi g2 hud base q0 q2 hw h3 (k' := k') (by rw [hz1]; rfl) hc
                  rw [this, hzl, h3]
                · have ho' : (Builtin.firstCells i.size sLen (.slice base sLen sCap)).run P w.drew = .ok olds.toArray w.drew := by rw [h3]; exact ho
                  have hr := append0_grows (w := w) (ty := ty) (olds := olds) hte hi g2 hud base q0 q2 hw h3 (k' := k') ho' hc h4 h9
                  refine ⟨_, _, (Builtin.zeroCells z0.cells (grownCap w (sLen + m.toNat) sCap e - (sLen + m.toNat))).toList, ?_, hr, by simp [hzl], ones_zero g5 _, fun hol => ?_⟩
                  · unfold grownCap; simp only [Question.cut]; omega
                  · have hge : sLen + m.toNat ≤ grownCap w (sLen + m.toNat) sCap e := by unfold grownCap; simp only [Question.cut]; omega
                    simp only [Array.size_append, List.size_toArray, size_zero, g3, h3, hol]
                    omega
              simp only [IOp.ev, Opd.getK_eq] at h
              split at h
              · rename_i s1 xs tk k' m e1 e2
                rw [e1] at rx; rw [e2] at ry
                obtain ⟨hs, hh⟩ := bifTrue h
                clear h
                simp only [Bool.and_eq_true] at hs
                have hs1 := Nat.eq_of_beq_eq_true hs.1
                subst hs1
                obtain ⟨q0, q1, q2, hh⟩ := hh
                obtain ⟨hyv, _⟩ := ry.v_inv
                have hval : ∃ A cap, a.eval x = .slice A xs.length cap := by
                  rcases rx.slice_inv with ⟨⟨a0, hv⟩, hn⟩ | ⟨b, off, cap, vs, hv, _⟩
                  · subst hn; exact ⟨a0, 0, hv⟩
                  · exact ⟨_, cap, hv⟩
                obtain ⟨A, cap, hav⟩ := hval
                rcases hh with hh | hh
                · rw [AApp_def] at hh
                  obtain ⟨σ', p1, p2, p3⟩ := hh
                  obtain ⟨w1, w2⟩ := ways0 A xs.length cap m k' hav hyv q0 q1 q2 p2
                  rw [hav] at rx
                  obtain ⟨v, w', r1, r2⟩ := hI.app (P := P) rx (hel m.toNat) (hrep m.toNat) (Ones.replicate hz3 _) (by omega) w1 w2 p1 p3
                  exact good v w' r1 r2
                · rw [AAppNew_def] at hh
                  rcases hh with ⟨p0, p2, p3⟩ | hh | hh
                  · have hm0 : m.toNat = 0 := by cases hq : m.toNat with
                      | zero => rfl
                      | succ k => rw [hq] at p0; cases p0
                    obtain ⟨w1, w2⟩ := ways0 A xs.length cap m k' hav hyv q0 q1 q2 (by rw [hm0]; simpa using p2)
                    rw [hav] at rx
                    obtain ⟨v, w', r1, r2⟩ := hI.appNone (P := P) (S := Builtin.append_ Cl.argTypes ty (Cl.args.map a.eval)) rx (fun hle => by have := w1 (by rw [hm0]; exact hle); rw [hm0] at this; exact this) p3
                    exact good v w' r1 r2
                  · obtain ⟨rfl, p1, rfl, p2, p3, p4⟩ := hh
                    obtain ⟨w1, w2⟩ := ways0 A 0 cap m k' hav hyv q0 q1 q2 (by rw [Nat.zero_add]; exact p2)
                    have hav' : a.eval x = .slice A 0 cap := hav
                    have rx' : RepV κ (.slice 1 [] .full) (.slice A 0 cap) := by rw [← hav']; exact rx
                    obtain ⟨v, w', r1, r2⟩ := hI.appNew (P := P) rx' (hel m.toNat) (hrep m.toNat) (Ones.replicate hz3 _) w2 p1 p4
                    exact good v w' r1 r2
                  · rw [AApp_def] at hh
                    obtain ⟨σ', p1, p2, p3⟩ := hh
                    obtain ⟨w1, w2⟩ := ways0 A xs.length cap m k' hav hyv q0 q1 q2 p2
                    rw [hav] at rx
                    obtain ⟨v, w', r1, r2⟩ := hI.app (P := P) rx (hel m.toNat) (hrep m.toNat) (Ones.replicate hz3 _) (by omega) w1 w2 p1 p3
                    exact good v w' r1 r2
              · rename_i r s1 off ln k' m e1 e2
                rw [e1] at rx; rw [e2] at ry
                obtain ⟨hs, hh⟩ := bifTrue h
                clear h
                simp only [Bool.and_eq_true] at hs
                have hs1 := Nat.eq_of_beq_eq_true hs.1
                subst hs1
                obtain ⟨q0, q1, q2, hh⟩ := hh
                obtain ⟨hyv, _⟩ := ry.v_inv
                rw [AAppM_def] at hh
                obtain ⟨rfl, p1, p2, cs, p3, p4, p5⟩ := hh
                obtain ⟨b, cap, m', hav, _⟩ := rx.ms_inv
                obtain ⟨w1, w2⟩ := ways0 (some ⟨b, 0, none⟩) ln cap m k' hav hyv q0 q1 q2 p1
                rw [hav] at rx
                obtain ⟨v, w', r1, r2⟩ := hI.appM (P := P) rx p3 p4 (hel m.toNat) (hrep m.toNat) (Ones.replicate hz3 _) w1 w2 p5
                exact good v w' r1 r2
              · exact h.elim
            · cases hC
          · exact many2 op hC (.inl ⟨_, hud⟩) h
          · exact many2 op hC (.inr hud) h
          · cases hC
        · cases hC
      · cases hC
    · cases hC
  · cases hC
end
end Go.Am
/-
  Rows, and regions: in their order; and where the order is drawn.
-/
namespace Go.Am
set_option linter.unusedVariables false
set_option linter.unusedSimpArgs false
set_option linter.unusedSectionVars false
open Go.RowKit (Below)

section
variable {P : Program} {C : Cfg}

theorem ev_sound {κ : Ghost} {σ : AHeap} {w : World} {n : Nat} {env : Env} {a : Act} {K : AVal → AHeap → Prop} {o : Oper} {op : IOp} (hC : comp P C o = some op) (hI : Inv κ σ w) (hE : RepE κ n env a.tmps) (h : op.ev P env σ K) :
    Good P a.eval o κ w K := by
  obtain ⟨dst, opc, ty, pos, after, guard⟩ := o
  cases opc with
  | move x => exact ev_plain hC hI hE h (.inl ⟨x, rfl⟩)
  | assign x => exact ev_plain hC hI hE h (.inr (.inl ⟨x, rfl⟩))
  | pick c x y => exact ev_plain hC hI hE h (.inr (.inr (.inl ⟨c, x, y, rfl⟩)))
  | binOp b t x y u => exact ev_plain hC hI hE h (.inr (.inr (.inr (.inl ⟨b, t, x, y, u, rfl⟩))))
  | unOp u t x =>
    cases u <;> first
      | exact ev_plain hC hI hE h (.inr (.inr (.inr (.inr (.inl ⟨t, x, rfl⟩)))))
      | (simp [comp] at hC)
  | extract x i => exact ev_plain hC hI hE h (.inr (.inr (.inr (.inr (.inr (.inl ⟨x, i, rfl⟩))))))
  | nilCheck x => exact ev_plain hC hI hE h (.inr (.inr (.inr (.inr (.inr (.inr ⟨x, rfl⟩))))))
  | load t x => exact ev_load hC hI hE h
  | store t p x => exact ev_store hC hI hE h
  | alloc t => exact ev_alloc hC hI h
  | box t x => exact ev_box hC hI hE h
  | convert s d x => exact ev_conv hC hI hE h
  | build t ps => exact ev_build hC hI hE h
  | buildSlice t m ps => exact ev_row hC hI hE h
  | fieldAddr s x f => exact ev_faddr hC hI hE h
  | field s x f => exact ev_field hC hI hE h
  | index t x i => exact ev_index hC hI hE h
  | indexAddr t x i => exact ev_iaddr hC hI hE h
  | slice t x lo hi mx => exact ev_cut hC hI hE h
  | makeSlice t l c => exact ev_mk hC hI hE h
  | makeFunc f first caps =>
    cases f with
    | func g => exact ev_fn hC hI hE h
    | _ => simp [comp] at hC
  | makeMap t r => exact ev_mkmap hC hI h
  | lookup t m k ok => exact ev_look hC hI hE h
  | mapUpdate t m k x => exact ev_mset hC hI hE h
  | call c => exact ev_call hC hI hE h
  | _ => simp [comp] at hC

/-- The state at a point of a body. -/
structure St (κ : Ghost) (n : Nat) (σ : AHeap) (env : Env) (a : Act) (w : World) : Prop where
  inv : Inv κ σ w
  rep : RepE κ n env a.tmps
  defers : a.defers = []

/-- A post on abstract states, at the model's states. -/
def Lift (κ : Ghost) (n : Nat) (Q : Exit → Env → AHeap → Prop) : Exit → Act → World → Prop := fun e a w => ∃ κ' env σ, κ.le κ' ∧ St κ' n σ env a w ∧ Q e env σ

theorem Lift.le {κ κ' : Ghost} (h : κ.le κ') {n : Nat} {Q : Exit → Env → AHeap → Prop} {e : Exit} {a : Act} {w : World} (k : Lift κ' n Q e a w) : Lift κ n Q e a w :=
  let ⟨κ2, env, σ, h1, h2⟩ := k; ⟨κ2, env, σ, h.trans h1, h2⟩

def putE (env : Env) (d : Option Pth) (v : AVal) : Env :=
  match d with
  | none => env
  | some d => env.set d v

/-- A row, without the slots written out. -/
def rowP (P : Program) (r : IRow) (env : Env) (σ : AHeap) (K : Env → AHeap → Prop) : Prop :=
  match r.guard with
  | none => r.op.ev P env σ fun v σ' => K (putE env r.dst v) σ'
  | some (g, want) => (∃ b, env.get g = .v (.bool b) ∧ if b = want then r.op.ev P env σ fun v σ' => K (putE env r.dst v) σ' else K (putE env r.dst (.tup [])) σ) ∨ (env.get g = .tup [] ∧ K (putE env r.dst (.tup [])) σ)

theorem setD_eq (env : Env) (d : Option Pth) (v : AVal) (k : Env → Prop) : setD env d v k = k (putE env d v) := by
  cases d with
  | none => rfl
  | some d => exact Env.setK_eq k env d v

theorem evRow_rowP {r : IRow} {env : Env} {σ : AHeap} {K : Env → AHeap → Prop} (h : evRow P r env σ K) : rowP P r env σ K := by
  obtain ⟨dst, guard, op⟩ := r
  cases guard with
  | none => simp only [evRow, setD_eq] at h; exact h
  | some gw =>
    obtain ⟨g, want⟩ := gw
    simp only [evRow, guardK] at h
    split at h
    · rename_i b he
      rw [ABr_def] at h
      simp only [Env.setK_eq, setD_eq] at h
      have hs : env.set g (.v (.bool b)) = env := by rw [← he]; exact env.set_get g
      rw [hs] at h
      refine .inl ⟨b, he, ?_⟩
      cases b <;> cases want <;> simpa using h
    · rename_i he
      simp only [setD_eq] at h
      exact .inr ⟨he, h⟩
    · exact h.elim

theorem compRow_spec {ops : Array Oper} {o : Oper} {r : IRow} (h : compRow P C ops o = some r) :
    comp P C o = some r.op ∧ r.dst = o.dst.map pth ∧ (∀ d, o.dst = some d → d < C.n) ∧ compGuard ops o = some r.guard := by
  unfold compRow at h
  obtain ⟨h1, h⟩ := bifsome h
  obtain ⟨g, h2, h⟩ := optbind h
  obtain ⟨op, h3, rfl⟩ := optmap h
  refine ⟨h3, rfl, fun d hd => ?_, h2⟩
  rw [hd] at h1
  exact Nat.le_of_ble_eq_true h1

theorem yielded_bool {ops : Array Oper} {tmps : Array Value} {j d : Nat} {b : Bool} (h1 : (ops[j]?).bind (·.dst) = some d) (h2 : tmps[d]? = some (.bool b)) : yielded ops tmps j = some b := by
  simp [yielded, h1, h2]

/-- A row of the region, run. -/
theorem row_sound {ops : Array Oper} {i : Nat} {o : Oper} {r : IRow} (ho : ops[i]? = some o) (hr : compRow P C ops o = some r) {κ : Ghost} {σ : AHeap} {env : Env} {a : Act} {w : World} (hS : St κ C.n σ env a w)
    {K : Env → AHeap → Prop} (h : rowP P r env σ K) {next : Act → World → Prop} {Q : Exit → Act → World → Prop}
    (hn : ∀ κ' σ' env' a' w', κ.le κ' → St κ' C.n σ' env' a' w' → K env' σ' → next a' w') : wpOp P ops Q i next a w := by
  obtain ⟨h1, h2, h3, h4⟩ := compRow_spec hr
  have put : ∀ (κ' : Ghost) (σ' : AHeap) (w' : World) (v : Value) (x : AVal), κ.le κ' → Inv κ' σ' w' → RepV κ' x v → K (putE env r.dst x) σ' → next (a.put o.dst v) w' := by
    intro κ' σ' w' v x q1 q2 q3 q4
    rw [h2] at q4
    cases hd : o.dst with
    | none => rw [hd] at q4; exact hn κ' σ' _ _ _ q1 ⟨q2, hS.rep.mono q1, hS.defers⟩ q4
    | some d => rw [hd] at q4; exact hn κ' σ' _ _ _ q1 ⟨q2, (hS.rep.mono q1).put (h3 d hd) q3, hS.defers⟩ q4
  have op : r.op.ev P env σ (fun v σ' => K (putE env r.dst v) σ') → o.wp P a w next Q := by
    intro h
    rcases ev_sound h1 hS.inv hS.rep h with ⟨v, w', g1, κ', σ', x, g2, g3, g4, g5⟩ | ⟨w', g1, κ', σ', x, g2, g3, g4, g5⟩ | ⟨g, cargs, g1, g2⟩
    · unfold Oper.wp; rw [g1]; exact put κ' σ' w' v x g2 g3 g4 g5
    · unfold Oper.wp; rw [g1]; exact put κ' σ' w' undef x g2 g3 g4 g5
    · unfold Oper.wp; rw [g1]
      refine g2.mono ?_
      rintro e w' ⟨v, rfl, κ', σ', x, q1, q2, q3, q4⟩
      exact put κ' σ' w' v x q1 q2 q3 q4
  unfold wpOp
  simp only [ho]
  unfold rowP at h
  unfold compGuard at h4
  cases hg : o.guard with
  | none =>
    rw [hg] at h4
    simp only [Option.some.injEq] at h4
    rw [← h4] at h
    have : Region.wanted o (yielded ops a.tmps) = true := by simp [Region.wanted, hg]
    rw [if_pos this]
    exact .inl (op h)
  | some gw =>
    obtain ⟨j, want⟩ := gw
    rw [hg] at h4
    simp only at h4
    split at h4
    · rename_i d hd
      simp only [Option.some.injEq] at h4
      rw [← h4] at h
      rcases h with ⟨b, hb, h⟩ | ⟨hb, h⟩
      case inr =>
        have hval : a.tmps[d]? = some (.tuple #[]) := by
          have hsz : d < a.tmps.size := by
            rcases Nat.lt_or_ge d a.tmps.size with k | k
            · exact k
            · have := hS.rep.out (pth d) (by rw [num_pth, ← hS.rep.size]; exact k)
              rw [this] at hb; cases hb
          have hr := hS.rep.get (pth d) a.tmps[d] (by rw [num_pth]; simp [hsz])
          rw [hb] at hr
          rw [Array.getElem?_eq_getElem hsz]
          generalize a.tmps[d] = u at hr
          cases hr with
          | tup hr => cases hr; rfl
        have hy : yielded ops a.tmps j = none := by simp [yielded, hd, hval]
        have hw : Region.wanted o (yielded ops a.tmps) = false := by
          simp only [Region.wanted, hg, hy]; rfl
        rw [if_neg (by rw [hw]; decide)]
        exact put κ σ w undef (.tup []) (Ghost.le.refl κ) hS.inv (.tup .nil) h
      have hval : a.tmps[d]? = some (.bool b) := by
        have hsz : d < a.tmps.size := by
          rcases Nat.lt_or_ge d a.tmps.size with k | k
          · exact k
          · have := hS.rep.out (pth d) (by rw [num_pth, ← hS.rep.size]; exact k)
            rw [this] at hb; cases hb
        have hr := hS.rep.get (pth d) a.tmps[d] (by rw [num_pth]; simp [hsz])
        rw [hb] at hr
        obtain ⟨hv, _⟩ := hr.v_inv
        rw [Array.getElem?_eq_getElem hsz, hv]
      have hy := yielded_bool hd hval
      have hw : Region.wanted o (yielded ops a.tmps) = decide (b = want) := by
        simp only [Region.wanted, hg, hy]
        cases b <;> cases want <;> rfl
      by_cases hbw : b = want
      · rw [if_pos hbw] at h
        rw [if_pos (by rw [hw]; simp [hbw])]
        exact .inl (op h)
      · rw [if_neg hbw] at h
        rw [if_neg (by rw [hw]; simp [hbw])]
        exact put κ σ w undef (.tup []) (Ghost.le.refl κ) hS.inv (.tup .nil) h
    · cases h4

/-- Rows, one behind the other. -/
theorem rows_sound {ops : Array Oper} {Q : Exit → Act → World → Prop} {K : Env → AHeap → Prop} : ∀ (os : List Oper) (k : Nat) (rows : List IRow), (∀ j, os[j]? = ops[k + j]?) → compRows P C ops os = some rows → k + os.length = ops.size →
    ∀ {κ : Ghost} {σ : AHeap} {env : Env} {a : Act} {w : World}, St κ C.n σ env a w → evRT P (rowsRT rows) env σ K → (∀ κ' σ' env' a' w', κ.le κ' → St κ' C.n σ' env' a' w' → K env' σ' → Q .normal a' w') →
    wpOps P ops Q ((List.range' k os.length)) a w
  | [], k, rows, _, hr, _, κ, σ, env, a, w, hS, h, hQ => by
    simp only [compRows, Option.some.injEq] at hr; subst hr
    exact hQ κ σ env a w (Ghost.le.refl κ) hS h
  | o :: os, k, rows, hk, hr, hl, κ, σ, env, a, w, hS, h, hQ => by
    simp only [compRows] at hr
    obtain ⟨r, h1, hr⟩ := optbind hr
    obtain ⟨rs, h2, rfl⟩ := optmap hr
    have ho : ops[k]? = some o := by simpa using (hk 0).symm
    simp only [List.length_cons, List.range'_succ]
    rw [wpOps_cons]
    simp only [rowsRT, evRT] at h
    refine row_sound ho h1 hS (evRow_rowP h) fun κ' σ' env' a' w' q1 q2 q3 => ?_
    exact rows_sound os (k + 1) rs (fun j => by have := hk (j + 1); simpa [Nat.add_assoc, Nat.add_comm 1 j] using this) h2 (by simp at hl; omega) q2 q3
      fun κ2 σ2 env2 a2 w2 p1 p2 p3 => hQ κ2 σ2 env2 a2 w2 (q1.trans p1) p2 p3
end
end Go.Am
/-
  Operations: what they look at; which give the same at any later time.
-/
namespace Go.Am
set_option linter.unusedVariables false
set_option linter.unusedSimpArgs false
set_option linter.unusedSectionVars false
open Go.RowKit (Below)

theorem fillK_eq (env : Env) : ∀ (ps : List (Nat × Nat × Opd)) (zs : List AVal) (k : List AVal → Prop) (env' : Env), (∀ x ∈ ps.map (·.2.2), x.get env = x.get env') → fillK env ps zs k = fillK env' ps zs k
  | [], zs, k, env', _ => rfl
  | (off, n, x) :: ps, zs, k, env', h => by
    have hx := h x (by simp)
    have ht : ∀ l, fillK env ps l k = fillK env' ps l k := fun l => fillK_eq env ps l k env' fun y hy => h y (by simp only [List.map_cons, List.mem_cons]; exact .inr hy)
    simp only [fillK, hx, ht]

theorem ev_congr {P : Program} {op : IOp} {env env' : Env} (h : ∀ x ∈ op.opds, x.get env = x.get env') (σ : AHeap) (K : AVal → AHeap → Prop) : op.ev P env σ K = op.ev P env' σ K := by
  have mp : ∀ {xs : List Opd}, (∀ x ∈ xs, x.get env = x.get env') → xs.map (Opd.get env) = xs.map (Opd.get env') := fun h => List.map_congr_left h
  cases op <;> simp only [IOp.opds, List.mem_cons, List.not_mem_nil, or_false, forall_eq_or_imp, forall_eq, List.mem_append] at h <;> simp only [IOp.ev, Opd.getK_eq, getLK_eq]
  case mv => rw [h]
  case pick => obtain ⟨h1, h2, h3⟩ := h; rw [h1, h2, h3]
  case bin => rw [h.1, h.2]
  case eqNil => rw [h]
  case eqAgg => rw [h.1, h.2]
  case not => rw [h]
  case conv => rw [h]
  case b2s => rw [h]
  case s2b => rw [h]
  case box => rw [h]
  case build zero ps => exact fillK_eq env ps zero _ env' h
  case row => rw [mp h]
  case rowT => rw [mp h]
  case mark => rw [h]
  case load => rw [h]
  case store => rw [h.1, h.2]
  case nilchk => rw [h]
  case faddr => rw [h]
  case field => rw [h]
  case iaddr => rw [h.1, h.2]
  case iaddrA => rw [h.1, h.2]
  case index => rw [h.1, h.2]
  case cut s x lo hi mx =>
    obtain ⟨h1, h2⟩ := h
    have hb : ∀ (y : Option Opd), (∀ x ∈ optL y, x.get env = x.get env') → ∀ d k, intOr env y d k = intOr env' y d k := by
      intro y hy d k
      cases y with
      | none => rfl
      | some y => simp only [intOr]; rw [hy y (by simp [optL])]
    have e1 := hb lo fun x hx => h2 x (.inl (.inl hx))
    have e2 := hb hi fun x hx => h2 x (.inl (.inr hx))
    have e3 := hb mx fun x hx => h2 x (.inr hx)
    simp only [h1, e1, e2, e3]
  case mk => rw [h.1, h.2]
  case look => rw [h.1, h.2]
  case mset => rw [h.1, h.2.1, h.2.2]
  case mdel => rw [h.1, h.2]
  case fn => rw [mp fun x hx => h x (.inl hx), mp fun x hx => h x (.inr hx)]
  case ext => rw [h]
  case call => rw [mp h]
  case callq => rw [mp h]
  case callv => rw [h.1, mp h.2]
  case app => rw [h.1, h.2]
  case appm => rw [h.1, h.2]
  case app0 => rw [h.1, h.2]
  case len => rw [h]
  case cap => rw [h]
  case mxmn => rw [h.1, h.2]

/-- A value that comes, whatever is asked of it. -/
def Det (F : (AVal → AHeap → Prop) → Prop) (K : AVal → AHeap → Prop) (σ : AHeap) (G : AHeap → (AVal → AHeap → Prop) → Prop) (c : AHeap → Prop) : Prop :=
  F K → ∃ x, K x σ ∧ ∀ σ' K', c σ' → K' x σ' → G σ' K'

theorem binE_det {tb : Bool} {op : BinOp} {x y : Value} {K : Value → Prop} (h : binE tb op x y K) : ∃ r, K r ∧ ∀ K' : Value → Prop, K' r → binE tb op x y K' := by
  unfold binE at h ⊢
  split at h
  · rename_i k a k' b
    cases op
    case shl => simp only [AShl_def] at h ⊢; exact ⟨_, h.2, fun K' hk => ⟨h.1, hk⟩⟩
    case shr => simp only [AShr_def] at h ⊢; exact ⟨_, h.2, fun K' hk => ⟨h.1, hk⟩⟩
    all_goals
      obtain ⟨hk, hh⟩ := bifTrue h
      clear h
      simp only [hk, cond_true]
      first
        | (simp only [AFit_def] at hh ⊢; exact ⟨_, hh, fun K' k => k⟩)
        | (simp only [ADiv_def] at hh ⊢; exact ⟨_, hh.2, fun K' k => ⟨hh.1, k⟩⟩)
        | (simp only [ARem_def] at hh ⊢; exact ⟨_, hh.2, fun K' k => ⟨hh.1, k⟩⟩)
        | (simp only [ABits_def] at hh ⊢; exact ⟨_, hh, fun K' k => k⟩)
        | exact ⟨_, hh, fun K' k => k⟩
  · cases tb <;> cases op <;> first | exact h.elim | exact ⟨_, h, fun K' k => k⟩
  · cases op <;> first | exact h.elim | exact ⟨_, h, fun K' k => k⟩
  · exact h.elim

theorem eqCells_det : ∀ {ks : List Bool} {xs ys : List AVal} {K : Bool → Prop}, eqCells ks xs ys K → ∃ r, K r ∧ ∀ K' : Bool → Prop, K' r → eqCells ks xs ys K' := by
  intro ks
  induction ks with
  | nil => intro xs ys K h; cases xs <;> cases ys <;> simp only [eqCells] at h <;> first | exact h.elim | exact ⟨true, h, fun K' k => by simpa only [eqCells] using k⟩
  | cons x ks ih =>
    intro xs ys K h
    unfold eqCells at h
    split at h
    · exact absurd ‹_ :: _ = []› (by simp)
    · rename_i k a xs' k' b ys' he
      cases he
      obtain ⟨hk, hh⟩ := bifTrue h
      obtain ⟨r, h1, h2⟩ := ih hh
      exact ⟨_, h1, fun K' k => by simp only [eqCells, hk, cond_true]; exact h2 _ k⟩
    · rename_i a xs' b ys' he
      cases he
      obtain ⟨r, h1, h2⟩ := ih h
      exact ⟨_, h1, fun K' k => by simp only [eqCells]; exact h2 _ k⟩
    · exact h.elim

theorem putK_det {zs : List AVal} {off : Nat} {xs : List AVal} {k : List AVal → Prop} (h : putK zs off xs k) : ∃ l, k l ∧ ∀ k' : List AVal → Prop, k' l → putK zs off xs k' := by
  induction zs generalizing off xs k with
  | nil => cases off <;> cases xs <;> simp only [putK] at h <;> first | exact h.elim | exact ⟨_, h, fun k' e => by simpa only [putK] using e⟩
  | cons z zs ih =>
    cases off with
    | zero => cases xs with
      | nil => simp only [putK] at h; exact ⟨_, h, fun k' e => by simpa only [putK] using e⟩
      | cons x xs => simp only [putK] at h; obtain ⟨l, h1, h2⟩ := ih h; exact ⟨_, h1, fun k' e => by simp only [putK]; exact h2 _ e⟩
    | succ n =>
      have h' : putK zs n xs fun l => k (z :: l) := by cases xs <;> simpa only [putK] using h
      obtain ⟨l, h1, h2⟩ := ih h'
      exact ⟨_, h1, fun k' e => by cases xs <;> (simp only [putK]; exact h2 _ e)⟩

theorem fillK_det {env : Env} : ∀ {ps : List (Nat × Nat × Opd)} {zs : List AVal} {k : List AVal → Prop}, fillK env ps zs k → ∃ l, k l ∧ ∀ k' : List AVal → Prop, k' l → fillK env ps zs k'
  | [], zs, k, h => ⟨zs, h, fun _ e => e⟩
  | (off, n, x) :: ps, zs, k, h => by
    simp only [fillK] at h ⊢
    split at h
    · obtain ⟨hb, hh⟩ := bifTrue h
      obtain ⟨l, h1, h2⟩ := putK_det hh
      obtain ⟨m, h3, h4⟩ := fillK_det h1
      exact ⟨m, h3, fun k' e => by simp only [hb, cond_true]; exact h2 _ (h4 _ e)⟩
    · obtain ⟨hb, hh⟩ := bifTrue h
      obtain ⟨l, h1, h2⟩ := putK_det hh
      obtain ⟨m, h3, h4⟩ := fillK_det h1
      exact ⟨m, h3, fun k' e => by simp only [hb, cond_true]; exact h2 _ (h4 _ e)⟩

theorem lgetK_det : ∀ {l : List AVal} {j : Nat} {k : AVal → Prop}, lgetK l j k → ∃ y, k y ∧ ∀ k' : AVal → Prop, k' y → lgetK l j k'
  | [], _, _, h => h.elim
  | x :: l, 0, k, h => ⟨x, h, fun _ e => e⟩
  | x :: l, j + 1, k, h => by obtain ⟨y, h1, h2⟩ := lgetK_det (l := l) (j := j) h; exact ⟨y, h1, h2⟩

theorem cellsAt_det {cs : List AVal} {off : Nat} {g : Option Nat} {k : AVal → Prop} (h : cellsAt cs off g k) : ∃ y, k y ∧ ∀ k' : AVal → Prop, k' y → cellsAt cs off g k' := by
  cases g with
  | none => obtain ⟨x, h1, h2⟩ := h; exact ⟨x, h2, fun k' e => ⟨x, h1, e⟩⟩
  | some n => exact ⟨_, h.2, fun k' e => ⟨h.1, e⟩⟩

theorem intOr_det {env : Env} {x : Option Opd} {d : Int} {k : Int → Prop} (h : intOr env x d k) : ∃ m, k m ∧ ∀ k' : Int → Prop, k' m → intOr env x d k' := by
  cases x with
  | none => exact ⟨d, h, fun _ e => e⟩
  | some x =>
    simp only [intOr] at h ⊢
    split at h
    · exact ⟨_, h, fun _ e => e⟩
    · exact h.elim

theorem ev_det {P : Program} {op : IOp} {env : Env} {σ : AHeap} {K : AVal → AHeap → Prop} (hc : op.cls ≤ 1) (h : op.ev P env σ K) :
    ∃ x, K x σ ∧ ∀ σ' K', (op.cls = 0 ∨ Ext σ σ') → K' x σ' → op.ev P env σ' K' := by
  cases op <;> simp only [IOp.cls] at hc <;> (try omega) <;> simp only [IOp.ev, Opd.getK_eq, getLK_eq] at h ⊢
  case mv => exact ⟨_, h, fun _ _ _ k => k⟩
  case pick =>
    split at h
    · rename_i t he
      simp only [ABr_def] at h ⊢
      cases t
      · exact ⟨_, h, fun _ _ _ k => k⟩
      · exact ⟨_, h, fun _ _ _ k => k⟩
    · exact h.elim
  case bin =>
    split at h
    · obtain ⟨r, h1, h2⟩ := binE_det h; exact ⟨_, h1, fun _ _ _ k => h2 _ k⟩
    · exact h.elim
  case eqAgg =>
    split at h
    · obtain ⟨r, h1, h2⟩ := eqCells_det h; exact ⟨_, h1, fun _ _ _ k => h2 _ k⟩
    · exact h.elim
  case not => split at h <;> first | exact h.elim | exact ⟨_, h, fun _ _ _ k => k⟩
  case conv => split at h <;> first | exact h.elim | (simp only [AFit_def] at h ⊢; exact ⟨_, h, fun _ _ _ k => k⟩)
  case b2s =>
    split at h
    · obtain ⟨hb, hh⟩ := bifTrue h
      simp only [AStr_def] at hh ⊢
      obtain ⟨bs, h1, h2⟩ := hh
      exact ⟨_, h2, fun _ _ _ k => by rw [hb]; exact ⟨bs, h1, k⟩⟩
    · exact h.elim
  case s2b => split at h <;> first | exact h.elim | exact ⟨_, h, fun _ _ _ k => k⟩
  case build => obtain ⟨l, h1, h2⟩ := fillK_det h; exact ⟨_, h1, fun _ _ _ k => h2 _ k⟩
  case row =>
    obtain ⟨hb, hh⟩ := bifTrue h
    exact ⟨_, hh, fun _ _ _ k => by rw [hb]; exact k⟩
  case load =>
    split at h
    · simp only [ALoad_def] at h ⊢
      obtain ⟨cs, h1, h2⟩ := h
      obtain ⟨y, h3, h4⟩ := cellsAt_det h2
      refine ⟨y, h3, fun σ' K' hx k => ⟨cs, ?_, h4 _ k⟩⟩
      rcases hx with hx | hx
      · simp [IOp.cls] at hx
      · exact hx _ _ rfl h1
    · simp only [ACell_def] at h ⊢
      obtain ⟨y, h3, h4⟩ := cellsAt_det h
      exact ⟨y, h3, fun _ _ _ k => h4 _ k⟩
    · exact h.elim
  case nilchk => split at h <;> first | exact h.elim | exact ⟨_, h, fun _ _ _ k => k⟩
  case faddr => split at h <;> first | exact h.elim | exact ⟨_, h, fun _ _ _ k => k⟩
  case field =>
    split at h
    · simp only [ACell_def] at h ⊢
      obtain ⟨y, h3, h4⟩ := cellsAt_det h
      exact ⟨y, h3, fun _ _ _ k => h4 _ k⟩
    · exact h.elim
  case iaddr =>
    split at h
    · obtain ⟨hb, hh⟩ := bifTrue h
      simp only [AGet_def] at hh ⊢
      obtain ⟨y, h1, h2, h3⟩ := hh
      exact ⟨_, h3, fun _ _ _ k => by rw [hb]; exact ⟨y, h1, h2, k⟩⟩
    · obtain ⟨hb, hh⟩ := bifTrue h
      simp only [AIdx_def] at hh ⊢
      obtain ⟨h1, h2, h3⟩ := hh
      exact ⟨_, h3, fun _ _ _ k => by rw [hb]; exact ⟨h1, h2, k⟩⟩
    · exact h.elim
  case iaddrA =>
    split at h
    · simp only [AIdx_def] at h ⊢
      obtain ⟨h1, h2, h3⟩ := h
      exact ⟨_, h3, fun _ _ _ k => ⟨h1, h2, k⟩⟩
    · simp only [AIdx_def] at h ⊢
      obtain ⟨h1, h2, h3⟩ := h
      exact ⟨_, h3, fun _ _ _ k => ⟨h1, h2, k⟩⟩
    · exact h.elim
  case index =>
    split at h
    · simp only [AIdx_def, ACell_def] at h ⊢
      obtain ⟨h1, h2, h3⟩ := h
      obtain ⟨y, h4, h5⟩ := cellsAt_det h3
      exact ⟨y, h4, fun _ _ _ k => ⟨h1, h2, h5 _ k⟩⟩
    · exact h.elim
  case cut s x lo hi mx =>
    split at h
    · obtain ⟨hb, hh⟩ := bifTrue h
      obtain ⟨l, h1, e1⟩ := intOr_det hh
      obtain ⟨m, h2, e2⟩ := intOr_det h1
      simp only [ACut_def] at h2 e1 e2 ⊢
      obtain ⟨q0, q1, q2, h3⟩ := h2
      cases mx with
      | none => exact ⟨_, h3, fun _ _ _ k => by rw [hb, cond_true]; apply e1; apply e2; exact ⟨q0, q1, q2, k⟩⟩
      | some mo =>
        obtain ⟨z, h4, e3⟩ := intOr_det h3
        exact ⟨_, h4.2.2, fun _ _ _ k => by rw [hb, cond_true]; apply e1; apply e2; refine ⟨q0, q1, q2, ?_⟩; apply e3; exact ⟨h4.1, h4.2.1, k⟩⟩
    · obtain ⟨hb, hh⟩ := bifTrue h
      obtain ⟨l, h1, e1⟩ := intOr_det hh
      obtain ⟨m, h2, e2⟩ := intOr_det h1
      simp only [ACut_def] at h2 e1 e2 ⊢
      obtain ⟨q0, q1, q2, h3⟩ := h2
      cases mx with
      | none =>
        rcases h3.out with ⟨k1, k2⟩ | ⟨k1, k2⟩ | ⟨k1, k2⟩
        · exact ⟨_, k2, fun _ _ _ k => by rw [hb, cond_true]; apply e1; apply e2; exact ⟨q0, q1, q2, ⟨.inl ⟨k1, k⟩⟩⟩⟩
        · exact ⟨_, k2, fun _ _ _ k => by rw [hb, cond_true]; apply e1; apply e2; exact ⟨q0, q1, q2, ⟨.inr (.inl ⟨k1, k⟩)⟩⟩⟩
        · exact ⟨_, k2, fun _ _ _ k => by rw [hb, cond_true]; apply e1; apply e2; exact ⟨q0, q1, q2, ⟨.inr (.inr ⟨k1, k⟩)⟩⟩⟩
      | some mo =>
        obtain ⟨mm, h4, e3⟩ := intOr_det h3
        obtain ⟨h5, h6, h7⟩ := h4
        rcases h7.out with ⟨k1, k2⟩ | ⟨k1, k2⟩ | ⟨k1, k2⟩
        · exact ⟨_, k2, fun _ _ _ k => by rw [hb, cond_true]; apply e1; apply e2; exact ⟨q0, q1, q2, e3 _ ⟨h5, h6, ⟨.inl ⟨k1, k⟩⟩⟩⟩⟩
        · exact ⟨_, k2, fun _ _ _ k => by rw [hb, cond_true]; apply e1; apply e2; exact ⟨q0, q1, q2, e3 _ ⟨h5, h6, ⟨.inr (.inl ⟨k1, k⟩)⟩⟩⟩⟩
        · exact ⟨_, k2, fun _ _ _ k => by rw [hb, cond_true]; apply e1; apply e2; exact ⟨q0, q1, q2, e3 _ ⟨h5, h6, ⟨.inr (.inr ⟨k1, k⟩)⟩⟩⟩⟩
    · exact h.elim
  case mk =>
    split at h
    · simp only [AMk_def] at h ⊢
      obtain ⟨h0, h1, h2, h3, h4⟩ := h
      exact ⟨_, h4, fun _ _ _ k => ⟨h0, h1, h2, h3, k⟩⟩
    · exact h.elim
  case look =>
    split at h
    · simp only [ALook_def] at h ⊢
      obtain ⟨es, h1, h2⟩ := h
      refine ⟨_, h2, fun σ' K' hx k => ⟨es, ?_, k⟩⟩
      rcases hx with hx | hx
      · simp [IOp.cls] at hx
      · exact hx _ _ rfl h1
    · exact ⟨_, h, fun _ _ _ k => k⟩
    · exact h.elim
  case fn => exact ⟨_, h, fun _ _ _ k => k⟩
  case ext =>
    split at h
    · obtain ⟨y, h1, h2⟩ := lgetK_det h; exact ⟨y, h1, fun _ _ _ k => h2 _ k⟩
    · exact h.elim
  case len => split at h <;> first | exact h.elim | exact ⟨_, h, fun _ _ _ k => k⟩
  case cap => split at h <;> first | exact h.elim | exact ⟨_, h, fun _ _ _ k => k⟩
  case mxmn =>
    split at h
    · obtain ⟨hb, hh⟩ := bifTrue h
      simp only [AMx_def] at hh ⊢
      exact ⟨_, hh, fun _ _ _ k => by rw [hb]; exact k⟩
    · exact h.elim
end Go.Am
/-
  Regions that draw their order.
-/
namespace Go.Am
set_option linter.unusedVariables false
set_option linter.unusedSimpArgs false
set_option linter.unusedSectionVars false
open Go.RowKit (Below)

theorem binE_mono {tb : Bool} {op : BinOp} {x y : Value} {K K' : Value → Prop} (h : binE tb op x y K) (hk : ∀ r, K r → K' r) : binE tb op x y K' := by
  obtain ⟨r, h1, h2⟩ := binE_det h; exact h2 _ (hk _ h1)

theorem Ext.refl (σ : AHeap) : Ext σ σ := fun _ _ _ h => h
theorem Ext.trans {a b c : AHeap} (h : Ext a b) (k : Ext b c) : Ext a c := fun i o ho e => k i o ho (h i o ho e)
theorem Ext.upd_fresh {σ : AHeap} {id : Nat} (o : AObj) (h : σ id = none) : Ext σ (upd σ id o) := fun i o' _ e => by
  rw [upd_ne]; exact e
  intro k; subst k; rw [h] at e; cases e

/-- More may be asked of what comes, if it holds whatever comes; and of operations that turn no object, that none is turned. -/
theorem ev_mono {P : Program} {op : IOp} {env : Env} {σ : AHeap} {K K' : AVal → AHeap → Prop} (h : op.ev P env σ K) (hk : ∀ x σ', K x σ' → K' x σ') : op.ev P env σ K' := by
  by_cases hc : op.cls ≤ 1
  · obtain ⟨x, h1, h2⟩ := ev_det hc h
    exact h2 σ K' (.inr (Ext.refl σ)) (hk _ _ h1)
  · have calls : ∀ {g : FuncId} {l : List AVal} {Q Q' : AVal → AHeap → Prop}, ACalls P g l σ Q → (∀ x σ', Q x σ' → Q' x σ') → ACalls P g l σ Q' := by
      intro g l Q Q' h hq
      rw [ACalls_def] at h ⊢
      intro κ w cargs h1 h2
      refine (h κ w cargs h1 h2).mono ?_
      rintro e w' ⟨v, κ', σ', x, h3, h4, h5, h6, h7⟩
      exact ⟨v, κ', σ', x, h3, h4, h5, h6, hq _ _ h7⟩
    have elems : ∀ {s : Nat} {y : AVal} {k k' : List AVal → Prop}, elemsK σ s y k → (∀ l, k l → k' l) → elemsK σ s y k' := by
      intro s y k k' h hkk
      unfold elemsK at h ⊢
      split at h
      · obtain ⟨hb, hh⟩ := bifTrue h; rw [hb]; exact hkk _ hh
      · obtain ⟨hb, hh⟩ := bifTrue h; rw [hb]; exact hkk _ hh
      · obtain ⟨hb, hh⟩ := bifTrue h; rw [hb]; simp only [cond_true, AView_def] at hh ⊢; obtain ⟨cs, h1, h2, h3⟩ := hh; exact ⟨cs, h1, h2, hkk _ h3⟩
      · exact h.elim
    have app : ∀ {s bytes : Nat} {xs : List AVal} {t : Tok} {ys : List AVal}, AApp σ s bytes xs t ys K → AApp σ s bytes xs t ys K' := by
      intro s bytes xs t ys h; rw [AApp_def] at h ⊢; obtain ⟨σ', h1, h2, h3⟩ := h; exact ⟨σ', h1, h2, fun t' ht => hk _ _ (h3 t' ht)⟩
    have appN : ∀ {s bytes : Nat} {xs : List AVal} {t : Tok} {ys : List AVal}, AAppNew σ s bytes xs t ys K → AAppNew σ s bytes xs t ys K' := by
      intro s bytes xs t ys h; rw [AAppNew_def] at h ⊢; exact h.imp (fun ⟨h1, h2, h3⟩ => ⟨h1, h2, hk _ _ h3⟩) (fun h => h.imp (fun ⟨h1, h2, h3, h4, h5, h6⟩ => ⟨h1, h2, h3, h4, h5, fun t' ht => hk _ _ (h6 t' ht)⟩) app)
    have appM : ∀ {r s off len bytes : Nat} {ys : List AVal}, AAppM σ r s off len bytes ys K → AAppM σ r s off len bytes ys K' := by
      intro r s off len bytes ys h; rw [AAppM_def] at h ⊢; obtain ⟨h1, h2, h3, cs, h4, h5, h6⟩ := h; exact ⟨h1, h2, h3, cs, h4, h5, fun t' ht => hk _ _ (h6 t' ht)⟩
    cases op <;> simp only [IOp.cls] at hc <;> (try omega) <;> simp only [IOp.ev, Opd.getK_eq, getLK_eq] at h ⊢
    case eqNil =>
      split at h
      · simp only [ANil_def] at h ⊢; exact ⟨hk _ _ h.1, fun e => hk _ _ (h.2 e)⟩
      all_goals first | exact hk _ _ h | exact h.elim
    case new => simp only [ANew_def] at h ⊢; exact ⟨h.1, fun id hid => hk _ _ (h.2 id hid)⟩
    case box => obtain ⟨hb, hh⟩ := bifTrue h; rw [hb]; simp only [cond_true, ANew_def] at hh ⊢; exact ⟨hh.1, fun id hid => hk _ _ (hh.2 id hid)⟩
    case store =>
      split at h
      · obtain ⟨hb, hh⟩ := bifTrue h; rw [hb]; simp only [cond_true, AStore_def] at hh ⊢; obtain ⟨cs, h1, h2, h3, h4⟩ := hh; exact ⟨cs, h1, h2, h3, hk _ _ h4⟩
      · exact h.elim
    case rowT => obtain ⟨hb, hh⟩ := bifTrue h; rw [hb]; simp only [cond_true, ARowT_def] at hh ⊢; exact fun t ht => hk _ _ (hh t ht)
    case mark =>
      split at h
      · simp only [AMark_def] at h ⊢; obtain ⟨h0, t0, h1, h2, h3⟩ := h; exact ⟨h0, t0, h1, h2, hk _ _ h3⟩
      · exact h.elim
    case mkmap => simp only [ANewMap_def] at h ⊢; exact fun id hid => hk _ _ (h id hid)
    case mset =>
      split at h
      · simp only [AMset_def] at h ⊢; obtain ⟨es, h1, h2, h3⟩ := h; exact ⟨es, h1, h2, hk _ _ h3⟩
      · exact h.elim
    case mdel =>
      split at h
      · simp only [AMdel_def] at h ⊢; obtain ⟨es, h1, h3⟩ := h; exact ⟨es, h1, hk _ _ h3⟩
      · exact h.elim
    case call => exact calls h hk
    case callq => exact calls h fun x σ' q => ⟨hk _ _ q.1, q.2⟩
    case callv =>
      split at h
      · exact ⟨h.1, calls h.2 hk⟩
      · exact h.elim
    case app =>
      split at h
      · obtain ⟨hb, hh⟩ := bifTrue h; rw [hb]; exact elems hh fun l q => app q
      · exact h.elim
    case appm =>
      split at h
      · obtain ⟨hb, hh⟩ := bifTrue h; rw [hb]; exact elems hh fun l q => appN q
      · obtain ⟨hb, hh⟩ := bifTrue h; rw [hb]; exact elems hh fun l q => appM q
      · exact h.elim
    case app0 =>
      split at h
      · obtain ⟨hb, hh⟩ := bifTrue h; rw [hb]; exact ⟨hh.1, hh.2.1, hh.2.2.1, hh.2.2.2.imp app appN⟩
      · obtain ⟨hb, hh⟩ := bifTrue h; rw [hb]; exact ⟨hh.1, hh.2.1, hh.2.2.1, appM hh.2.2.2⟩
      · exact h.elim

theorem AppWay.ext {σ σ' : AHeap} {t : Tok} (h : AppWay σ t σ') : ∀ id o, o.isTip = false → σ id = some o → σ' id = some o := by
  cases h with
  | full => exact fun _ _ _ e => e
  | tip k =>
    intro id o ho e
    rw [del_ne]; exact e
    intro q; subst q; rw [k] at e; cases e; cases ho

theorem ev_quiet {P : Program} {op : IOp} {env : Env} {σ : AHeap} {K : AVal → AHeap → Prop} (hc : op.cls ≤ 2) (h : op.ev P env σ K) : op.ev P env σ fun x σ' => K x σ' ∧ Ext σ σ' := by
  by_cases hc1 : op.cls ≤ 1
  · obtain ⟨x, h1, h2⟩ := ev_det hc1 h
    exact h2 σ _ (.inr (Ext.refl σ)) ⟨h1, Ext.refl σ⟩
  · cases op <;> simp only [IOp.cls] at hc hc1 <;> (try omega) <;> simp only [IOp.ev, Opd.getK_eq, getLK_eq] at h ⊢
    case eqNil =>
      split at h
      · simp only [ANil_def] at h ⊢; exact ⟨⟨h.1, Ext.refl σ⟩, fun e => ⟨h.2 e, Ext.refl σ⟩⟩
      all_goals first | exact ⟨h, Ext.refl σ⟩ | exact h.elim
    case new => simp only [ANew_def] at h ⊢; exact ⟨h.1, fun id hid => ⟨h.2 id hid, Ext.upd_fresh _ hid⟩⟩
    case box => obtain ⟨hb, hh⟩ := bifTrue h; rw [hb]; simp only [cond_true, ANew_def] at hh ⊢; exact ⟨hh.1, fun id hid => ⟨hh.2 id hid, Ext.upd_fresh _ hid⟩⟩
    case rowT => obtain ⟨hb, hh⟩ := bifTrue h; rw [hb]; simp only [cond_true, ARowT_def] at hh ⊢; exact fun t ht => ⟨hh t ht, Ext.upd_fresh _ ht⟩
    case mark =>
      split at h
      · simp only [AMark_def] at h ⊢; obtain ⟨h0, t0, h1, h2, h3⟩ := h
        refine ⟨h0, t0, h1, h2, h3, fun id o ho e => ?_⟩
        rw [del_ne]; exact e
        intro q; subst q; rw [h2] at e; cases e; cases ho
      · exact h.elim
    case mkmap => simp only [ANewMap_def] at h ⊢; exact fun id hid => ⟨h id hid, Ext.upd_fresh _ hid⟩
    case callq =>
      rw [ACalls_def] at h ⊢
      intro κ w cargs h1 h2
      refine (h κ w cargs h1 h2).mono ?_
      rintro e w' ⟨v, κ', σ', x, h3, h4, h5, h6, h7⟩
      exact ⟨v, κ', σ', x, h3, h4, h5, h6, h7, h7.2⟩
    case app =>
      have app : ∀ {s bytes : Nat} {xs : List AVal} {t : Tok} {ys : List AVal}, AApp σ s bytes xs t ys K → AApp σ s bytes xs t ys fun x σ' => K x σ' ∧ Ext σ σ' := by
        intro s bytes xs t ys h; rw [AApp_def] at h ⊢; obtain ⟨σ', h1, h2, h3⟩ := h
        refine ⟨σ', h1, h2, fun t' ht => ⟨h3 t' ht, fun id o ho e => ?_⟩⟩
        rw [upd_ne]; exact h1.ext id o ho e
        intro q; subst q; rw [ht] at e; cases e
      split at h
      · obtain ⟨hb, hh⟩ := bifTrue h; rw [hb]
        simp only [cond_true]
        unfold elemsK at hh ⊢
        split at hh
        · obtain ⟨hb, hh⟩ := bifTrue hh; rw [hb]; exact app hh
        · obtain ⟨hb, hh⟩ := bifTrue hh; rw [hb]; exact app hh
        · obtain ⟨hb, hh⟩ := bifTrue hh; rw [hb]; simp only [cond_true, AView_def] at hh ⊢; obtain ⟨cs, h1, h2, h3⟩ := hh; exact ⟨cs, h1, h2, app h3⟩
        · exact hh.elim
      · exact h.elim
end Go.Am
/-
  Every order that a region may draw.
-/
namespace Go.Am
set_option linter.unusedVariables false
set_option linter.unusedSimpArgs false
set_option linter.unusedSectionVars false
open Go.RowKit (Below)

theorem Pth.beq_eq : ∀ {p q : Pth}, Pth.beq p q = true ↔ p = q
  | .e, .e => by simp [Pth.beq]
  | .e, .l _ => by simp [Pth.beq]
  | .e, .r _ => by simp [Pth.beq]
  | .l _, .e => by simp [Pth.beq]
  | .r _, .e => by simp [Pth.beq]
  | .l _, .r _ => by simp [Pth.beq]
  | .r _, .l _ => by simp [Pth.beq]
  | .l p, .l q => by simp only [Pth.beq, Pth.l.injEq]; exact Pth.beq_eq
  | .r p, .r q => by simp only [Pth.beq, Pth.r.injEq]; exact Pth.beq_eq

def rowV (P : Program) (r : IRow) (env : Env) (σ : AHeap) (K : AVal → AHeap → Prop) : Prop :=
  match r.guard with
  | none => r.op.ev P env σ K
  | some (g, want) => (∃ b, env.get g = .v (.bool b) ∧ if b = want then r.op.ev P env σ K else K (.tup []) σ) ∨ (env.get g = .tup [] ∧ K (.tup []) σ)

theorem rowP_rowV {P : Program} {r : IRow} {env : Env} {σ : AHeap} {K : Env → AHeap → Prop} : rowP P r env σ K ↔ rowV P r env σ fun v σ' => K (putE env r.dst v) σ' := by
  unfold rowP rowV; cases r.guard <;> exact Iff.rfl

def Agree (r : IRow) (env env' : Env) : Prop := ∀ p, r.looks p = true → env'.get p = env.get p

theorem Agree.opds {r : IRow} {env env' : Env} (h : Agree r env env') : ∀ x ∈ r.op.opds, x.get env = x.get env' := by
  intro x hx
  cases x with
  | t p => exact (h p (by unfold IRow.looks; rw [Bool.or_eq_true]; exact .inl (List.any_eq_true.2 ⟨_, hx, Pth.beq_eq.2 rfl⟩))).symm
  | c v => rfl
theorem Agree.guard {r : IRow} {env env' : Env} (h : Agree r env env') {g : Pth} {want : Bool} (hg : r.guard = some (g, want)) : env'.get g = env.get g :=
  h g (by unfold IRow.looks; rw [Bool.or_eq_true]; exact .inr (by rw [hg]; exact Pth.beq_eq.2 rfl))

theorem rowV_congr {P : Program} {r : IRow} {env env' : Env} (h : Agree r env env') {σ : AHeap} {K : AVal → AHeap → Prop} (hr : rowV P r env σ K) : rowV P r env' σ K := by
  unfold rowV at hr ⊢
  rw [← ev_congr h.opds]
  cases hg : r.guard with
  | none => rw [hg] at hr; exact hr
  | some gw => rw [hg] at hr; simp only at hr ⊢; rw [h.guard hg]; exact hr

theorem rowV_mono {P : Program} {r : IRow} {env : Env} {σ : AHeap} {K K' : AVal → AHeap → Prop} (h : rowV P r env σ K) (hk : ∀ x σ', K x σ' → K' x σ') : rowV P r env σ K' := by
  unfold rowV at h ⊢
  cases hg : r.guard with
  | none => rw [hg] at h; exact ev_mono h hk
  | some gw =>
    rw [hg] at h
    rcases h with ⟨b, h1, h2⟩ | ⟨h1, h2⟩
    case inr => exact .inr ⟨h1, hk _ _ h2⟩
    refine .inl ⟨b, h1, ?_⟩
    split
    · rename_i hb; rw [if_pos hb] at h2; exact ev_mono h2 hk
    · rename_i hb; rw [if_neg hb] at h2; exact hk _ _ h2

theorem rowV_quiet {P : Program} {r : IRow} {env : Env} {σ : AHeap} {K : AVal → AHeap → Prop} (hc : r.op.cls ≤ 2) (h : rowV P r env σ K) : rowV P r env σ fun x σ' => K x σ' ∧ Ext σ σ' := by
  unfold rowV at h ⊢
  cases hg : r.guard with
  | none => rw [hg] at h; exact ev_quiet hc h
  | some gw =>
    rw [hg] at h
    rcases h with ⟨b, h1, h2⟩ | ⟨h1, h2⟩
    case inr => exact .inr ⟨h1, h2, Ext.refl σ⟩
    refine .inl ⟨b, h1, ?_⟩
    split
    · rename_i hb; rw [if_pos hb] at h2; exact ev_quiet hc h2
    · rename_i hb; rw [if_neg hb] at h2; exact ⟨h2, Ext.refl σ⟩

/-- Row r comes to x, now and later. -/
def Yd (P : Program) (r : IRow) (env : Env) (σ : AHeap) (x : AVal) : Prop := ∀ env' σ' K', Agree r env env' → (r.op.cls = 0 ∨ Ext σ σ') → K' x σ' → rowV P r env' σ' K'

theorem rowV_det {P : Program} {r : IRow} {env : Env} {σ : AHeap} {K : AVal → AHeap → Prop} (hc : r.op.cls ≤ 1) (h : rowV P r env σ K) : ∃ x, K x σ ∧ Yd P r env σ x := by
  unfold rowV at h
  cases hg : r.guard with
  | none =>
    rw [hg] at h
    obtain ⟨x, h1, h2⟩ := ev_det hc h
    refine ⟨x, h1, fun env' σ' K' ha he hk => ?_⟩
    unfold rowV; rw [hg]; simp only
    rw [← ev_congr ha.opds]; exact h2 σ' K' he hk
  | some gw =>
    obtain ⟨g, want⟩ := gw
    rw [hg] at h
    rcases h with ⟨b, h1, h2⟩ | ⟨h1, h2⟩
    case inr =>
      refine ⟨.tup [], h2, fun env' σ' K' ha he hk => ?_⟩
      unfold rowV; rw [hg]; simp only
      exact .inr ⟨by rw [ha.guard hg]; exact h1, hk⟩
    by_cases hb : b = want
    · rw [if_pos hb] at h2
      obtain ⟨x, h3, h4⟩ := ev_det hc h2
      refine ⟨x, h3, fun env' σ' K' ha he hk => ?_⟩
      unfold rowV; rw [hg]; simp only
      refine .inl ⟨b, by rw [ha.guard hg]; exact h1, ?_⟩
      rw [if_pos hb, ← ev_congr ha.opds]; exact h4 σ' K' he hk
    · rw [if_neg hb] at h2
      refine ⟨.tup [], h2, fun env' σ' K' ha he hk => ?_⟩
      unfold rowV; rw [hg]; simp only
      exact .inl ⟨b, by rw [ha.guard hg]; exact h1, by rw [if_neg hb]; exact hk⟩

theorem putE_get {env : Env} {d : Option Pth} {v : AVal} {p : Pth} (h : d ≠ some p) : (putE env d v).get p = env.get p := by
  cases d with
  | none => rfl
  | some d => exact Env.get_set_ne env v fun e => h (by rw [e])

theorem agree_put {r : IRow} {env : Env} {d : Option Pth} {v : AVal} (h : dstApart d r = true) : Agree r env (putE env d v) := by
  intro p hp
  refine putE_get fun e => ?_
  subst e
  simp only [dstApart, hp] at h
  cases h

theorem putE_comm (env : Env) {d e : Option Pth} (u v : AVal) (h : dstNe d e = true) : putE (putE env d u) e v = putE (putE env e v) d u := by
  cases d with
  | none => rfl
  | some d => cases e with
    | none => rfl
    | some d2 =>
      simp only [dstNe, Bool.not_eq_true'] at h
      exact Env.set_comm env u v fun k => by rw [Pth.beq_eq.2 k] at h; cases h

section
variable {P : Program} {C : Cfg} {ops : Array Oper} {rows : List IRow} {K : Env → AHeap → Prop}

def AAny (P : Program) (ops : Array Oper) (rows : List IRow) (K : Env → AHeap → Prop) : Nat → Array Bool → Env → AHeap → Prop
  | 0, listed, env, σ => Region.ready .any ops listed = [] ∧ K env σ
  | n + 1, listed, env, σ => (Region.ready .any ops listed = [] → K env σ) ∧
      ∀ i ∈ Region.ready .any ops listed, ∀ r, rows[i]? = some r → rowV P r env σ fun v σ' => AAny P ops rows K n (listed.setIfInBounds i true) (putE env r.dst v) σ'

def Free (ops : Array Oper) (rows : List IRow) (listed : Array Bool) (i : Nat) (ri : IRow) : Prop :=
  ∀ (j : Nat) (oj : Oper) (rj : IRow), ops[j]? = some oj → rows[j]? = some rj → j ≠ i → listed.getD j true = false → (∀ e ∈ oj.after, Region.binds .any e = true → e.on ≠ i) → apartR ri rj = true ∧ (ri.op.cls = 0 ∨ rj.op.cls ≤ 2)

theorem any_first {i : Nat} {ri : IRow} (hri : rows[i]? = some ri) : ∀ (n : Nat) (listed : Array Bool) (env : Env) (σ : AHeap) (x : AVal), Free ops rows listed i ri → i ∈ Region.ready .any ops listed → Yd P ri env σ x →
    AAny P ops rows K n (listed.setIfInBounds i true) (putE env ri.dst x) σ → AAny P ops rows K (n + 1) listed env σ := by
  intro n
  induction n with
  | zero =>
    intro listed env σ x _ hr hy H
    refine ⟨fun h => (by rw [h] at hr; cases hr), fun j hj r hrj => ?_⟩
    by_cases hji : j = i
    · subst hji
      rw [hri] at hrj; cases hrj
      exact hy env σ _ (fun _ _ => rfl) (.inr (Ext.refl σ)) H
    · have := ready_mono hj hji
      rw [H.1] at this; cases this
  | succ n ih =>
    intro listed env σ x hfree hr hy H
    refine ⟨fun h => (by rw [h] at hr; cases hr), fun j hj r hrj => ?_⟩
    by_cases hji : j = i
    · subst hji
      rw [hri] at hrj; cases hrj
      exact hy env σ _ (fun _ _ => rfl) (.inr (Ext.refl σ)) H
    · obtain ⟨hjun, oj, hoj, hall⟩ := mem_ready.1 hj
      have hnot : ∀ e ∈ oj.after, Region.binds .any e = true → e.on ≠ i := fun e he hb heq => by
        have h1 := hall e he hb
        have h0 := (mem_ready.1 hr).1
        rw [heq] at h1
        rcases Nat.lt_or_ge i listed.size with h' | h'
        · simp [h'] at h0 h1; rw [h0] at h1; cases h1
        · simp [Array.getElem?_eq_none h'] at h1
      obtain ⟨hap, hcl⟩ := hfree j oj r hoj hrj hji hjun hnot
      simp only [apartR, Bool.and_eq_true] at hap
      obtain ⟨⟨a1, a2⟩, a3⟩ := hap
      have h1 := H.2 j (ready_mono hj hji) r hrj
      have h2 : rowV P r env σ fun v σ' => AAny P ops rows K n ((listed.setIfInBounds i true).setIfInBounds j true) (putE (putE env ri.dst x) r.dst v) σ' := by
        refine rowV_congr (env := putE env ri.dst x) (fun p hp => ?_) h1
        exact (agree_put (v := x) a1 p hp).symm
      have h3 : rowV P r env σ fun v σ' => AAny P ops rows K n ((listed.setIfInBounds i true).setIfInBounds j true) (putE (putE env ri.dst x) r.dst v) σ' ∧ (ri.op.cls = 0 ∨ Ext σ σ') := by
        rcases hcl with hcl | hcl
        · exact rowV_mono h2 fun v σ' q => ⟨q, .inl hcl⟩
        · exact rowV_mono (rowV_quiet hcl h2) fun v σ' q => ⟨q.1, .inr q.2⟩
      refine rowV_mono h3 fun v σ' q => ?_
      refine ih (listed.setIfInBounds j true) (putE env r.dst v) σ' x ?_ (ready_mono hr (Ne.symm hji)) ?_ ?_
      · intro k ok rk hk hrk hki hun hno
        refine hfree k ok rk hk hrk hki ?_ hno
        by_cases hjk : j = k
        · subst hjk; exact hjun
        · rw [getD_set_ne true hjk] at hun; exact hun
      · intro env' σ2 K' hag he hk
        refine hy env' σ2 K' (fun p hp => ?_) ?_ hk
        · rw [hag p hp]; exact agree_put (v := v) a2 p hp
        · rcases q.2 with h | h
          · exact .inl h
          · rcases he with he | he
            · exact .inl he
            · exact .inr (h.trans he)
      · have := q.1
        rw [Array.setIfInBounds_comm _ _ hji, putE_comm env v x (by
          cases hd : ri.dst <;> cases he : r.dst <;> (rw [hd, he] at a3; first | rfl | (simp only [dstNe, Bool.not_eq_true'] at a3 ⊢; rw [← a3]; rename_i p q; cases hx : Pth.beq q p with
            | true => have := Pth.beq_eq.1 hx; subst this; rw [Pth.beq_eq.2 rfl]
            | false => cases hy2 : Pth.beq p q with
              | true => have := Pth.beq_eq.1 hy2; subst this; rw [Pth.beq_eq.2 rfl] at hx; cases hx
              | false => rfl)))]
        exact this

theorem firstB_spec {listed : Array Bool} {i : Nat} {ri : IRow} (hri : rows[i]? = some ri) (h : firstB ops rows listed i = true) : ri.op.cls ≤ 1 ∧ Free ops rows listed i ri := by
  unfold firstB at h
  rw [hri] at h
  simp only [Bool.and_eq_true] at h
  refine ⟨Nat.le_of_ble_eq_true h.1, fun j oj rj hj hrj hji hun hno => ?_⟩
  have hlt : j < ops.size := (Array.getElem?_eq_some_iff.1 hj).1
  have := List.all_eq_true.1 h.2 j (List.mem_range.2 hlt)
  simp only [hj, hrj, Bool.or_eq_true, Bool.and_eq_true] at this
  rcases this with ((this | this) | this) | this
  · exact absurd (Nat.eq_of_beq_eq_true this) hji
  · rw [hun] at this; cases this
  · obtain ⟨k, hk, hb⟩ := Array.any_eq_true.1 this
    simp only [Bool.and_eq_true] at hb
    exact absurd (Nat.eq_of_beq_eq_true hb.2) (hno _ (Array.getElem_mem hk) hb.1)
  · refine ⟨this.1, ?_⟩
    rcases this.2 with h | h
    · exact .inl (Nat.eq_of_beq_eq_true h)
    · exact .inr (Nat.le_of_ble_eq_true h)

theorem bothL_mem : ∀ {l : List (Option RT)} {t : RT} {env : Env} {σ : AHeap}, bothL l = some t → evRT P t env σ K → ∀ x ∈ l, ∃ u, x = some u ∧ evRT P u env σ K
  | [], t, _, _, h, _, x, hx => by cases h
  | [y], t, env, σ, h, hk, x, hx => by
    simp only [bothL] at h
    rw [List.mem_singleton] at hx; subst hx
    exact ⟨t, h, hk⟩
  | y :: z :: l, t, env, σ, h, hk, x, hx => by
    simp only [bothL] at h
    obtain ⟨a, ha, h⟩ := optbind h
    obtain ⟨b, hb, rfl⟩ := optmap h
    simp only [evRT] at hk
    rcases List.mem_cons.1 hx with rfl | hx
    · exact ⟨a, ha, hk.1⟩
    · exact bothL_mem hb hk.2 x hx

theorem any_of_lin : ∀ (n : Nat) (listed : Array Bool) (t : RT), lin ops rows n listed = some t → ∀ (env : Env) (σ : AHeap), evRT P t env σ K → AAny P ops rows K n listed env σ := by
  intro n
  induction n with
  | zero =>
    intro listed t h env σ hk
    simp only [lin] at h
    obtain ⟨h1, h⟩ := bifsome h
    cases h
    exact ⟨by simpa using h1, hk⟩
  | succ n ih =>
    intro listed t h env σ hk
    simp only [lin] at h
    split at h
    · rename_i he
      cases h
      exact ⟨fun _ => hk, fun i hi => by rw [he] at hi; cases hi⟩
    · rename_i hne
      split at h
      · rename_i i hfind
        split at h
        · rename_i r hr
          obtain ⟨u, hu, rfl⟩ := optmap h
          simp only [evRT] at hk
          have hmem : i ∈ Region.ready .any ops listed := List.mem_of_find?_eq_some hfind
          have hfb : firstB ops rows listed i = true := List.find?_some hfind
          obtain ⟨hc, hfree⟩ := firstB_spec hr hfb
          have hk' := rowP_rowV.1 (evRow_rowP hk)
          obtain ⟨x, hx, hy⟩ := rowV_det hc hk'
          exact any_first hr n listed env σ x hfree hmem hy (ih _ u hu _ _ hx)
        · cases h
      · refine ⟨fun he => absurd he hne, fun i hi r hr => ?_⟩
        obtain ⟨u, hu, hk2⟩ := bothL_mem h hk _ (List.mem_map.2 ⟨i, hi, rfl⟩)
        rw [hr] at hu
        simp only at hu
        obtain ⟨v, hv, rfl⟩ := optmap hu
        simp only [evRT] at hk2
        exact rowV_mono (rowP_rowV.1 (evRow_rowP hk2)) fun x σ' q => ih _ v hv _ _ q

theorem compRows_get : ∀ {os : List Oper} {rows : List IRow}, compRows P C ops os = some rows → ∀ (i : Nat) (o : Oper), os[i]? = some o → ∃ r, rows[i]? = some r ∧ compRow P C ops o = some r
  | [], rows, h, i, o, ho => by simp at ho
  | p :: os, rows, h, i, o, ho => by
    simp only [compRows] at h
    obtain ⟨r, h1, h⟩ := optbind h
    obtain ⟨rs, h2, rfl⟩ := optmap h
    cases i with
    | zero => simp at ho; subst ho; exact ⟨r, by simp, h1⟩
    | succ i => simp at ho; obtain ⟨r', h3, h4⟩ := compRows_get h2 i o ho; exact ⟨r', by simpa using h3, h4⟩

theorem any_sound (hrows : compRows P C ops ops.toList = some rows) {Q : Exit → Act → World → Prop} : ∀ (n : Nat) (listed : Array Bool) (env : Env) (σ : AHeap) (κ : Ghost) (a : Act) (w : World), St κ C.n σ env a w → AAny P ops rows K n listed env σ →
    (∀ κ' σ' env' a' w', κ.le κ' → St κ' C.n σ' env' a' w' → K env' σ' → Q .normal a' w') → wpAny P .any ops Q n listed a w := by
  intro n
  induction n with
  | zero => intro listed env σ κ a w hS h hQ; exact ⟨h.1, hQ κ σ env a w (Ghost.le.refl κ) hS h.2⟩
  | succ n ih =>
    intro listed env σ κ a w hS h hQ
    refine ⟨fun he => hQ κ σ env a w (Ghost.le.refl κ) hS (h.1 he), fun i hi => ?_⟩
    obtain ⟨_, o, ho, _⟩ := mem_ready.1 hi
    obtain ⟨r, hr, hcr⟩ := compRows_get hrows i o (by simpa using ho)
    exact row_sound ho hcr hS (rowP_rowV.2 (h.2 i hi r hr)) fun κ' σ' env' a' w' q1 q2 q3 =>
      ih _ _ _ _ _ _ q2 q3 fun κ2 σ2 env2 a2 w2 p1 p2 p3 => hQ κ2 σ2 env2 a2 w2 (q1.trans p1) p2 p3
end
end Go.Am
/-
  Bodies: what a body comes to ('evC'), loops, jumps, calls.
-/
namespace Go.Am
set_option linter.unusedVariables false
set_option linter.unusedSimpArgs false
set_option linter.unusedSectionVars false
open Go.RowKit (Below)

def seqQ (K : Env → AHeap → Prop) (Q : Exit → Env → AHeap → Prop) : Exit → Env → AHeap → Prop
  | .normal, env, σ => K env σ
  | e, env, σ => Q e env σ

def blockQ (id : Nat) (Q : Exit → Env → AHeap → Prop) : Exit → Env → AHeap → Prop
  | .exit i, env, σ => bif Nat.beq i id then Q .normal env σ else Q (.exit i) env σ
  | e, env, σ => Q e env σ

def noGotoQ (Q : Exit → Env → AHeap → Prop) : Exit → Env → AHeap → Prop
  | .goto _, _, _ => False
  | e, env, σ => Q e env σ

def jumpQ (J : Nat → Env → AHeap → Prop) (Q : Exit → Env → AHeap → Prop) : Exit → Env → AHeap → Prop
  | .goto l, env, σ => J l env σ
  | e, env, σ => Q e env σ

/-- What a body's run must come to, from any state that the abstract one stands for. -/
def AWp (P : Program) (C : Cfg) (ic : ICode) (env : Env) (σ : AHeap) (Q : Exit → Env → AHeap → Prop) : Prop :=
  ∀ c, compC P C c = some ic → ∀ κ a w, St κ C.n σ env a w → c.wp P (Lift κ C.n Q) a w

structure ALoop (P : Program) (C : Cfg) (b : ICode) (env : Env) (σ : AHeap) (Q : Exit → Env → AHeap → Prop) : Prop where of ::
  out : AWp P C (.loop b) env σ Q
theorem ALoop_def (P : Program) (C : Cfg) (b : ICode) (env : Env) (σ : AHeap) (Q : Exit → Env → AHeap → Prop) : ALoop P C b env σ Q = (AWp P C (.loop b) env σ Q) := propext ⟨fun h => h.out, fun h => ⟨h⟩⟩
structure AScope (P : Program) (C : Cfg) (b : ICode) (env : Env) (σ : AHeap) (Q : Exit → Env → AHeap → Prop) : Prop where of ::
  out : AWp P C (.scope b) env σ Q
theorem AScope_def (P : Program) (C : Cfg) (b : ICode) (env : Env) (σ : AHeap) (Q : Exit → Env → AHeap → Prop) : AScope P C b env σ Q = (AWp P C (.scope b) env σ Q) := propext ⟨fun h => h.out, fun h => ⟨h⟩⟩

/-- A label is reached from above. -/
structure ALabel (P : Program) (C : Cfg) (l : Nat) (b : ICode) (env : Env) (σ : AHeap) (Q : Exit → Env → AHeap → Prop) : Prop where of ::
  out : AWp P C b env σ Q

def ICode.jumps : ICode → Bool
  | .goto _ => true
  | .seq a b | .cond _ a b => a.jumps || b.jumps
  | .block _ b | .loop b | .scope b => b.jumps
  | _ => false

def setOpd (env : Env) (c : Opd) (v : AVal) (k : Env → Prop) : Prop :=
  match c with
  | .t p => env.setK p v k
  | .c _ => k env

def condK (env : Env) (c : Opd) (x : AVal) (yes no : Env → Prop) : Prop :=
  match x with
  | .v (.bool b) => ABr b fun b => setOpd env c (.v (.bool b)) fun env => match b with
    | true => yes env
    | false => no env
  | _ => False

def evC (P : Program) (C : Cfg) : ICode → Env → AHeap → (Exit → Env → AHeap → Prop) → Prop
  | .skip, env, σ, Q => Q .normal env σ
  | .reg t, env, σ, Q => evRT P t env σ fun env σ => Q .normal env σ
  | .seq a b, env, σ, Q => match a with
    | .label l => ALabel P C l b env σ Q
    | _ => evC P C a env σ (seqQ (fun env σ => evC P C b env σ Q) Q)
  | .cond c x y, env, σ, Q => condK env c (c.get env) (fun env => evC P C x env σ Q) (fun env => evC P C y env σ Q)
  | .block id b, env, σ, Q => evC P C b env σ (blockQ id Q)
  | .loop b, env, σ, Q => ALoop P C b env σ Q
  | .exit id, env, σ, Q => Q (.exit id) env σ
  | .scope b, env, σ, Q => bif b.jumps then AScope P C b env σ Q else evC P C b env σ (noGotoQ Q)
  | .label _, env, σ, Q => Q .normal env σ
  | .goto l, env, σ, Q => Q (.goto l) env σ
  | .ret, env, σ, Q => Q .ret env σ

section
variable {P : Program} {C : Cfg} {Q : Exit → Env → AHeap → Prop}

theorem Lift.intro {κ : Ghost} {n : Nat} {e : Exit} {a : Act} {w : World} {env : Env} {σ : AHeap} (h : St κ n σ env a w) (k : Q e env σ) : Lift κ n Q e a w := ⟨κ, env, σ, Ghost.le.refl κ, h, k⟩

theorem setOpd_eq {env : Env} {c : Opd} {k : Env → Prop} : setOpd env c (c.get env) k = k env := by
  cases c with
  | t p => simp only [setOpd, Opd.get, Env.setK_eq]; rw [env.set_get]
  | c x => rfl

/-- What code it was. -/
def CInv (P : Program) (C : Cfg) (c : Code) : ICode → Prop
  | .skip => c = .skip
  | .reg t => (∃ id ops rows, c = .region id ops false ∧ compRows P C ops ops.toList = some rows ∧ t = rowsRT rows) ∨
      (∃ id ops rows, c = .region id ops true ∧ P.follows .mixedOrders = true ∧ compRows P C ops ops.toList = some rows ∧ lin ops rows ops.size (Array.replicate ops.size false) = some t)
  | .seq a b => ∃ x y, c = .seq x y ∧ compC P C x = some a ∧ compC P C y = some b
  | .cond o a b => ∃ o' x y, c = .cond o' x y ∧ opT P 0 o' = some o ∧ compC P C x = some a ∧ compC P C y = some b
  | .block id b => ∃ x, c = .block id x ∧ compC P C x = some b
  | .loop b => ∃ x, c = .loop x ∧ compC P C x = some b
  | .exit id => c = .exit id
  | .scope b => ∃ x, c = .scope x ∧ compC P C x = some b
  | .label l => c = .label l
  | .goto l => c = .goto l
  | .ret => c = .ret

theorem compC_inv {c : Code} {ic : ICode} (hc : compC P C c = some ic) : CInv P C c ic := by
  cases c with
  | skip => simp only [compC, Option.some.injEq] at hc; subst hc; rfl
  | region id ops d =>
    cases d <;> simp only [compC] at hc
    · obtain ⟨rows, h1, rfl⟩ := optmap hc; exact .inl ⟨id, ops, rows, rfl, h1, rfl⟩
    · obtain ⟨h0, hc⟩ := bifsome hc; obtain ⟨rows, h1, hc⟩ := optbind hc; obtain ⟨t, h2, rfl⟩ := optmap hc; exact .inr ⟨id, ops, rows, rfl, h0, h1, h2⟩
  | seq x y => simp only [compC] at hc; obtain ⟨a, h1, hc⟩ := optbind hc; obtain ⟨b, h2, rfl⟩ := optmap hc; exact ⟨x, y, rfl, h1, h2⟩
  | cond o x y => simp only [compC] at hc; obtain ⟨o', h0, hc⟩ := optbind hc; obtain ⟨a, h1, hc⟩ := optbind hc; obtain ⟨b, h2, rfl⟩ := optmap hc; exact ⟨o, x, y, rfl, h0, h1, h2⟩
  | block id x => simp only [compC] at hc; obtain ⟨b, h1, rfl⟩ := optmap hc; exact ⟨x, rfl, h1⟩
  | loop x => simp only [compC] at hc; obtain ⟨b, h1, rfl⟩ := optmap hc; exact ⟨x, rfl, h1⟩
  | scope x => simp only [compC] at hc; obtain ⟨b, h1, rfl⟩ := optmap hc; exact ⟨x, rfl, h1⟩
  | exit id => simp only [compC, Option.some.injEq] at hc; subst hc; rfl
  | label l => simp only [compC, Option.some.injEq] at hc; subst hc; rfl
  | goto l => simp only [compC, Option.some.injEq] at hc; subst hc; rfl
  | ret => simp only [compC, Option.some.injEq] at hc; subst hc; rfl
  | _ => simp [compC] at hc

theorem evC_sound : ∀ (ic : ICode) (Q : Exit → Env → AHeap → Prop) (env : Env) (σ : AHeap), evC P C ic env σ Q → AWp P C ic env σ Q := by
  intro ic
  induction ic with
  | skip => intro Q env σ h c hc κ a w hS; obtain rfl := compC_inv hc; exact wp_skip (Lift.intro hS h)
  | exit id => intro Q env σ h c hc κ a w hS; obtain rfl := compC_inv hc; exact wp_exit (Lift.intro hS h)
  | label l => intro Q env σ h c hc κ a w hS; obtain rfl := compC_inv hc; exact wp_label (Lift.intro hS h)
  | goto l => intro Q env σ h c hc κ a w hS; obtain rfl := compC_inv hc; exact wp_goto (Lift.intro hS h)
  | ret => intro Q env σ h c hc κ a w hS; obtain rfl := compC_inv hc; exact wp_ret (Lift.intro hS h)
  | loop b _ => intro Q env σ h; simp only [evC, ALoop_def] at h; exact h
  | reg t =>
    intro Q env σ h c hc κ a w hS
    simp only [evC] at h
    rcases compC_inv hc with ⟨id, ops, rows, rfl, h1, rfl⟩ | ⟨id, ops, rows, rfl, hm, h1, h2⟩
    · refine wp_region ?_
      have := rows_sound (Q := Lift κ C.n Q) (K := fun env σ => Q .normal env σ) ops.toList 0 rows (fun j => by simp) h1 (by simp) hS h fun κ' σ' env' a' w' q1 q2 q3 => ⟨κ', env', σ', q1, q2, q3⟩
      simpa [List.range_eq_range'] using this
    · refine wp_region_any hm ?_
      have hS' : St κ C.n σ env a { w with drawn := w.drawn + 1 } := ⟨hS.inv.drew, hS.rep, hS.defers⟩
      exact any_sound h1 (K := fun env σ => Q .normal env σ) ops.size _ env σ κ a _ hS' (any_of_lin _ _ t h2 env σ h) fun κ' σ' env' a' w' q1 q2 q3 => ⟨κ', env', σ', q1, q2, q3⟩
  | seq x y ihx ihy =>
    intro Q env σ h c hc κ a w hS
    obtain ⟨cx, cy, rfl, hx, hy⟩ := compC_inv hc
    have h2 : (∃ l, x = .label l ∧ ALabel P C l y env σ Q) ∨ evC P C x env σ (seqQ (fun env σ => evC P C y env σ Q) Q) := by
      simp only [evC] at h
      split at h
      · exact .inl ⟨_, rfl, h⟩
      · exact .inr h
    rcases h2 with ⟨l, rfl, h⟩ | h
    · obtain rfl := compC_inv hx
      exact wp_seq (wp_label (h.out cy hy κ a w hS))
    refine wp_seq (wp_mono (ihx _ env σ h cx hx κ a w hS) ?_)
    rintro e a' w' ⟨κ', env', σ', q1, q2, q3⟩
    cases e with
    | normal => exact wp_mono (ihy _ env' σ' q3 cy hy κ' a' w' q2) fun e a w k => Lift.le q1 k
    | _ => exact ⟨κ', env', σ', q1, q2, q3⟩
  | cond o x y ihx ihy =>
    intro Q env σ h c hc κ a w hS
    obtain ⟨o', cx, cy, rfl, ho, hx, hy⟩ := compC_inv hc
    have ro := opT_spec hS.rep ho
    simp only [evC, condK] at h
    split at h
    · rename_i b he
      rw [he] at ro
      obtain ⟨hv, _⟩ := ro.v_inv
      rw [ABr_def] at h
      cases b
      · have h2 : setOpd env o (o.get env) (fun env => evC P C y env σ Q) := by rw [he]; exact h
        rw [setOpd_eq] at h2
        exact wp_cond_false hv (ihy _ env σ h2 cy hy κ a w hS)
      · have h2 : setOpd env o (o.get env) (fun env => evC P C x env σ Q) := by rw [he]; exact h
        rw [setOpd_eq] at h2
        exact wp_cond_true hv (ihx _ env σ h2 cx hx κ a w hS)
    · exact h.elim
  | block id x ih =>
    intro Q env σ h c hc κ a w hS
    obtain ⟨cx, rfl, hx⟩ := compC_inv hc
    refine wp_block (wp_mono (ih _ env σ h cx hx κ a w hS) ?_)
    rintro e a' w' ⟨κ', env', σ', q1, q2, q3⟩
    cases e with
    | exit i =>
      simp only [blockQ] at q3
      simp only [Exit.inBlock]
      split
      · rename_i hi; subst hi
        rw [Nat.beq_refl] at q3
        exact ⟨κ', env', σ', q1, q2, q3⟩
      · rename_i hi
        have : Nat.beq i id = false := by
          cases hb : Nat.beq i id with
          | false => rfl
          | true => exact absurd (Nat.eq_of_beq_eq_true hb) hi
        rw [this] at q3
        exact ⟨κ', env', σ', q1, q2, q3⟩
    | _ => exact ⟨κ', env', σ', q1, q2, q3⟩
  | scope x ih =>
    intro Q env σ h
    simp only [evC] at h
    cases hj : x.jumps with
    | true => rw [hj] at h; simp only [cond_true, AScope_def] at h; exact h
    | false =>
      rw [hj] at h
      intro c hc κ a w hS
      obtain ⟨cx, rfl, hx⟩ := compC_inv hc
      refine wp_scope_straight (wp_mono (ih _ env σ h cx hx κ a w hS) ?_)
      rintro e a' w' ⟨κ', env', σ', q1, q2, q3⟩
      cases e with
      | goto l => exact q3.elim
      | _ => exact ⟨κ', env', σ', q1, q2, q3⟩
end
end Go.Am
/-
  Loops and jumps by what holds at their heads; a function by its body.
-/
namespace Go.Am
set_option linter.unusedVariables false
set_option linter.unusedSimpArgs false
set_option linter.unusedSectionVars false
open Go.RowKit (Below)

/-- Whatever the first stands for, the second does. -/
def VLe (x y : AVal) : Prop := ∀ κ v, RepV κ x v → RepV κ y v
theorem VLe.refl (x : AVal) : VLe x x := fun _ _ h => h
theorem VLe.top (x : AVal) : VLe x .top := fun _ _ _ => .top
theorem VLe.slice (s : Nat) (xs : List AVal) (t : Tok) : VLe (.slice s xs t) (.slice s xs .none) := fun κ v h => by
  cases h with
  | nil => exact .nil
  | slice h1 h2 h3 h4 h5 h6 => exact .slice h1 h2 h3 h4 h5 trivial
theorem VLe.tup {xs ys : List AVal} (h : ∀ κ vs, RepL κ xs vs → RepL κ ys vs) : VLe (.tup xs) (.tup ys) := fun κ v k => by
  cases k with | tup k => exact .tup (h κ _ k)
theorem VLe.cons {x y : AVal} {xs ys : List AVal} (h : VLe x y) (k : ∀ κ vs, RepL κ xs vs → RepL κ ys vs) : ∀ κ vs, RepL κ (x :: xs) vs → RepL κ (y :: ys) vs := fun κ vs r => by
  cases r with | cons a b => exact .cons (h κ _ a) (k κ _ b)
theorem VLe.nil : ∀ κ vs, RepL κ [] vs → RepL κ [] vs := fun _ _ r => r

inductive EnvLe : Env → Env → Prop
  | refl (e : Env) : EnvLe e e
  | node {a b a' b' : Env} {x x' : AVal} : EnvLe a a' → (x' = .top ∨ x' = x ∨ (x ≠ .top ∧ VLe x x')) → EnvLe b b' → EnvLe (.node a x b) (.node a' x' b')

theorem EnvLe.get {e e' : Env} (h : EnvLe e e') (p : Pth) : e'.get p = .top ∨ e'.get p = e.get p ∨ (e.get p ≠ .top ∧ VLe (e.get p) (e'.get p)) := by
  induction h generalizing p with
  | refl e => exact .inr (.inl rfl)
  | node h1 h2 h3 ih1 ih3 => cases p with
    | e => exact h2
    | l p => exact ih1 p
    | r p => exact ih3 p

theorem RepE.weaken {κ : Ghost} {n : Nat} {e e' : Env} {tmps : Array Value} (h : RepE κ n e tmps) (k : EnvLe e e') : RepE κ n e' tmps := by
  refine ⟨h.size, fun p v hv => ?_, fun p hp => ?_⟩
  · rcases k.get p with q | q | q
    · rw [q]; exact .top
    · rw [q]; exact h.get p v hv
    · exact q.2 κ v (h.get p v hv)
  · rcases k.get p with q | q | q
    · exact q
    · rw [q]; exact h.out p hp
    · exact absurd (h.out p hp) q.1

theorem St.weaken {κ : Ghost} {n : Nat} {σ σ' : AHeap} {e e' : Env} {a : Act} {w : World} (h : St κ n σ e a w) (k : EnvLe e e') (s : Sub σ σ') : St κ n σ' e' a w :=
  ⟨h.inv.sub s, h.rep.weaken k, h.defers⟩

/-- The slots that a body writes. -/
def RT.writes : RT → List Pth
  | .done => []
  | .one r t => match r.dst with
    | none => t.writes
    | some d => d :: t.writes
  | .both a b => a.writes ++ b.writes
def ICode.writes : ICode → List Pth
  | .reg t => t.writes
  | .seq a b => a.writes ++ b.writes
  | .cond _ a b => a.writes ++ b.writes
  | .block _ b | .loop b | .scope b => b.writes
  | _ => []

def clearK {β : Sort _} (env : Env) : List Pth → (Env → β) → β
  | [], k => k env
  | p :: ps, k => env.setK p .top fun e => clearK e ps k
def setsK {β : Sort _} (env : Env) : List (Pth × AVal) → (Env → β) → β
  | [], k => k env
  | (p, v) :: ps, k => env.setK p v fun e => setsK e ps k

def clear (env : Env) : List Pth → Env
  | [] => env
  | p :: ps => clear (env.set p .top) ps
def sets (env : Env) : List (Pth × AVal) → Env
  | [] => env
  | (p, v) :: ps => sets (env.set p v) ps
theorem clearK_eq {β : Sort _} : ∀ (ps : List Pth) (env : Env) (k : Env → β), clearK env ps k = k (clear env ps)
  | [], _, _ => rfl
  | p :: ps, env, k => by simp only [clearK, Env.setK_eq, clear]; exact clearK_eq ps _ k
theorem setsK_eq {β : Sort _} : ∀ (ps : List (Pth × AVal)) (env : Env) (k : Env → β), setsK env ps k = k (sets env ps)
  | [], _, _ => rfl
  | (p, v) :: ps, env, k => by simp only [setsK, Env.setK_eq, sets]; exact setsK_eq ps _ k

section
variable {P : Program} {C : Cfg}

/-- A loop: what holds of the slots that live, and of the objects, at its head. -/
theorem aloop {α : Type} {b : ICode} {env : Env} {σ : AHeap} {Q : Exit → Env → AHeap → Prop} (live : α → List (Pth × AVal)) (sig : α → AHeap) (I : α → Prop) (μ : α → Nat) (x0 : α) (h0 : I x0)
    (hs : Sub σ (sig x0)) (he : clearK env b.writes fun e0 => setsK e0 (live x0) fun e1 => EnvLe env e1)
    (round : ∀ x, I x → clearK env b.writes fun e0 => setsK e0 (live x) fun e1 => evC P C b e1 (sig x) (seqQ (fun env' σ' => ∃ x', I x' ∧ μ x' < μ x ∧ Sub σ' (sig x') ∧ setsK e0 (live x') fun e2 => EnvLe env' e2) Q)) :
    ALoop P C b env σ Q := by
  rw [ALoop_def]
  intro c hc κ a w hS
  obtain ⟨cb, rfl, hb⟩ := compC_inv hc
  simp only [clearK_eq, setsK_eq] at he round
  let fam : α → Env := fun x => sets (clear env b.writes) (live x)
  have key : ∀ m (x : α), μ x = m → I x → ∀ κ' a w, κ.le κ' → St κ' C.n (sig x) (fam x) a w → ∀ (bf : Frame) (k : List Item) (cs : List Frame),
      ∃ e a' w', Lift κ C.n Q e a' w' ∧ Arrives P (lone (bf.at a (.code cb :: .inLoop cb :: k)) cs w) bf k cs e a' w' := by
    intro m
    induction m using Nat.strongRecOn with
    | _ m ih =>
      intro x hm hx κ' a w hk hS bf k cs
      have hr := evC_sound b _ _ _ (round x hx) cb hb κ' a w hS
      obtain ⟨e, a1, w1, ⟨κ1, env1, σ1, q1, q2, q3⟩, harr⟩ := hr bf (.inLoop cb :: k) cs
      cases e with
      | normal =>
        obtain ⟨x', hx', hlt, hsub, hle⟩ := q3
        obtain ⟨e2, a2, w2, hq2, harr2⟩ := ih (μ x') (hm ▸ hlt) x' rfl hx' κ1 a1 w1 (hk.trans q1) (q2.weaken hle hsub) bf k cs
        exact ⟨e2, a2, w2, hq2, .of_steps (Steps.trans harr (.one step_inLoop)) harr2⟩
      | exit id => exact ⟨_, a1, w1, ⟨κ1, env1, σ1, hk.trans q1, q2, q3⟩, .pass (x := .inLoop cb) rfl (fun _ _ => .inl (by simp)) harr⟩
      | goto l => exact ⟨_, a1, w1, ⟨κ1, env1, σ1, hk.trans q1, q2, q3⟩, .pass (x := .inLoop cb) rfl (fun _ _ => .inl (by simp)) harr⟩
      | ret => exact ⟨_, a1, w1, ⟨κ1, env1, σ1, hk.trans q1, q2, q3⟩, .pass (x := .inLoop cb) rfl (fun _ _ => .inl (by simp)) harr⟩
      | panic ch => exact ⟨_, a1, w1, ⟨κ1, env1, σ1, hk.trans q1, q2, q3⟩, .pass (x := .inLoop cb) rfl (fun _ _ => .inl (by simp)) harr⟩
      | outgrown => exact ⟨_, a1, w1, ⟨κ1, env1, σ1, hk.trans q1, q2, q3⟩, .pass (x := .inLoop cb) rfl (fun _ _ => .inl (by simp)) harr⟩
  intro bf k cs
  obtain ⟨e, a', w', hq, harr⟩ := key _ x0 rfl h0 κ a w (Ghost.le.refl κ) (hS.weaken he hs) bf k cs
  exact ⟨e, a', w', hq, .of_steps (.one step_loop) harr⟩

def ICode.find : ICode → Nat → Option ICode
  | .seq a b, l => match a.find l with
    | some rest => some (.seq rest b)
    | none => b.find l
  | .label l', l => bif Nat.beq l' l then some .skip else none
  | _, _ => none

theorem find_comp : ∀ {c : Code} {ic : ICode}, compC P C c = some ic → ∀ (l : Nat) (r : ICode), ic.find l = some r → ∃ rest, findLabel c l = some rest ∧ compC P C rest = some r := by
  intro c
  have none_of : ∀ {c : Code} {ic : ICode}, compC P C c = some ic → ∀ l, ic.find l = none → findLabel c l = none := by
    intro c
    induction c with
    | seq x y ihx ihy =>
      intro ic hc l h
      simp only [compC] at hc; obtain ⟨a, h1, hc⟩ := optbind hc; obtain ⟨b, h2, rfl⟩ := optmap hc
      simp only [ICode.find] at h
      split at h
      · cases h
      · rename_i ha
        simp only [findLabel, ihx h1 l ha]
        exact ihy h2 l h
    | label l' =>
      intro ic hc l h
      simp only [compC, Option.some.injEq] at hc; subst hc
      simp only [ICode.find] at h
      simp only [findLabel]
      cases hb : Nat.beq l' l with
      | true => rw [hb] at h; cases h
      | false => rw [if_neg]; intro e; simp at e; subst e; rw [Nat.beq_refl] at hb; cases hb
    | _ => intro ic hc l h; rfl
  induction c with
  | seq x y ihx ihy =>
    intro ic hc l r h
    simp only [compC] at hc; obtain ⟨a, h1, hc⟩ := optbind hc; obtain ⟨b, h2, rfl⟩ := optmap hc
    simp only [ICode.find] at h
    split at h
    · rename_i rest hr
      cases h
      obtain ⟨r2, g1, g2⟩ := ihx h1 l rest hr
      refine ⟨.seq r2 y, by simp only [findLabel, g1], ?_⟩
      simp only [compC, g2, h2, Option.bind_some, Option.map_some]
    · rename_i ha
      obtain ⟨r2, g1, g2⟩ := ihy h2 l r h
      refine ⟨r2, ?_, g2⟩
      simp only [findLabel, none_of h1 l ha]; exact g1
  | label l' =>
    intro ic hc l r h
    simp only [compC, Option.some.injEq] at hc; subst hc
    simp only [ICode.find] at h
    obtain ⟨hb, h⟩ := bifsome h
    cases h
    refine ⟨.skip, ?_, rfl⟩
    have := Nat.eq_of_beq_eq_true hb
    subst this
    simp [findLabel]
  | _ =>
    intro ic hc l r h
    have hci := compC_inv hc
    cases ic <;> first
      | (simp [ICode.find] at h; done)
      | (simp only [CInv] at hci; first | (obtain ⟨_, _, hci, _⟩ := hci; cases hci; done) | (cases hci; done))

/-- A scope with jumps: what holds at each jump. -/
theorem ascope {α : Type} {b : ICode} {env : Env} {σ : AHeap} {Q : Exit → Env → AHeap → Prop} (live : α → List (Pth × AVal)) (sig : α → AHeap) (lab : α → Nat) (I : α → Prop) (μ : α → Nat)
    (first : clearK env b.writes fun e0 => evC P C b env σ (jumpQ (fun l env' σ' => ∃ x', lab x' = l ∧ I x' ∧ Sub σ' (sig x') ∧ setsK e0 (live x') fun e2 => EnvLe env' e2) Q))
    (pass : ∀ x, I x → ∃ rest, b.find (lab x) = some rest ∧ clearK env b.writes fun e0 => setsK e0 (live x) fun e1 => evC P C rest e1 (sig x) (jumpQ (fun l env' σ' => ∃ x', lab x' = l ∧ I x' ∧ μ x' < μ x ∧ Sub σ' (sig x') ∧ setsK e0 (live x') fun e2 => EnvLe env' e2) Q)) :
    AScope P C b env σ Q := by
  rw [AScope_def]
  intro c hc κ a w hS
  obtain ⟨cb, rfl, hb⟩ := compC_inv hc
  simp only [clearK_eq, setsK_eq] at first pass
  let fam : α → Env := fun x => sets (clear env b.writes) (live x)
  have key : ∀ m (x : α), μ x = m → I x → ∀ rest, findLabel cb (lab x) = some rest → ∀ κ' a w, κ.le κ' → St κ' C.n (sig x) (fam x) a w → ∀ (bf : Frame) (k : List Item) (cs : List Frame),
      ∃ e a' w', Lift κ C.n Q e a' w' ∧ Arrives P (lone (bf.at a (.code rest :: .inScope cb :: k)) cs w) bf k cs e a' w' := by
    intro m
    induction m using Nat.strongRecOn with
    | _ m ih =>
      intro x hm hx rest hrest κ' a w hk hS bf k cs
      obtain ⟨r0, hr0, hev⟩ := pass x hx
      obtain ⟨rest', hr1, hr2⟩ := find_comp hb _ _ hr0
      rw [hrest] at hr1; cases hr1
      have hr := evC_sound r0 _ _ _ hev rest hr2 κ' a w hS
      obtain ⟨e, a1, w1, ⟨κ1, env1, σ1, q1, q2, q3⟩, harr⟩ := hr bf (.inScope cb :: k) cs
      cases e with
      | normal => exact ⟨.normal, a1, w1, ⟨κ1, env1, σ1, hk.trans q1, q2, q3⟩, Steps.trans harr (.one step_inScope)⟩
      | exit id => exact ⟨.exit id, a1, w1, ⟨κ1, env1, σ1, hk.trans q1, q2, q3⟩, fun k' hk => harr k' (by simp [exitTo, hk])⟩
      | goto l =>
        obtain ⟨x', rfl, hx', hlt, hsub, hle⟩ := q3
        obtain ⟨r2, hr2', _⟩ := pass x' hx'
        obtain ⟨rest2, hr3, hr4⟩ := find_comp hb _ _ hr2'
        obtain ⟨e2, a2, w2, hq2, harr2⟩ := ih (μ x') (hm ▸ hlt) x' rfl hx' rest2 hr3 κ1 a1 w1 (hk.trans q1) (q2.weaken hle hsub) bf k cs
        exact ⟨e2, a2, w2, hq2, .of_steps (harr _ (by simp [gotoIn, hr3])) harr2⟩
      | ret => exact ⟨_, a1, w1, ⟨κ1, env1, σ1, hk.trans q1, q2, q3⟩, harr⟩
      | panic ch => exact ⟨_, a1, w1, ⟨κ1, env1, σ1, hk.trans q1, q2, q3⟩, harr⟩
      | outgrown => exact ⟨_, a1, w1, ⟨κ1, env1, σ1, hk.trans q1, q2, q3⟩, harr⟩
  intro bf k cs
  have hr := evC_sound b _ _ _ first cb hb κ a w hS
  obtain ⟨e, a1, w1, ⟨κ1, env1, σ1, q1, q2, q3⟩, harr⟩ := hr bf (.inScope cb :: k) cs
  cases e with
  | normal => exact ⟨.normal, a1, w1, ⟨κ1, env1, σ1, q1, q2, q3⟩, .head step_scope (Steps.trans harr (.one step_inScope))⟩
  | exit id => exact ⟨.exit id, a1, w1, ⟨κ1, env1, σ1, q1, q2, q3⟩, fun k' hk => .head step_scope (harr k' (by simp [exitTo, hk]))⟩
  | goto l =>
    obtain ⟨x', rfl, hx', hsub, hle⟩ := q3
    obtain ⟨r2, hr2', _⟩ := pass x' hx'
    obtain ⟨rest2, hr3, hr4⟩ := find_comp hb _ _ hr2'
    obtain ⟨e2, a2, w2, hq2, harr2⟩ := key (μ x') x' rfl hx' rest2 hr3 κ1 a1 w1 q1 (q2.weaken hle hsub) bf k cs
    exact ⟨e2, a2, w2, hq2, .of_steps (.head step_scope (harr _ (by simp [gotoIn, hr3]))) harr2⟩
  | ret => exact ⟨_, a1, w1, ⟨κ1, env1, σ1, q1, q2, q3⟩, .of_steps (.one step_scope) harr⟩
  | panic ch => exact ⟨_, a1, w1, ⟨κ1, env1, σ1, q1, q2, q3⟩, .of_steps (.one step_scope) harr⟩
  | outgrown => exact ⟨_, a1, w1, ⟨κ1, env1, σ1, q1, q2, q3⟩, .of_steps (.one step_scope) harr⟩

theorem evC_label {l : Nat} {b : ICode} {env : Env} {σ : AHeap} {Q : Exit → Env → AHeap → Prop} (h : evC P C b env σ Q) : ALabel P C l b env σ Q := ⟨evC_sound b Q env σ h⟩

def lowQ {α : Type} (lab : α → Nat) (I : α → Prop) (R : α → Prop) (sig : α → AHeap) (le : Env → α → Prop) (Q : Exit → Env → AHeap → Prop) : Exit → Env → AHeap → Prop :=
  jumpQ (fun l env' σ' => ∃ x', lab x' = l ∧ I x' ∧ R x' ∧ Sub σ' (sig x') ∧ le env' x') Q

theorem lowQ_mono {α : Type} {lab : α → Nat} {I : α → Prop} {R R' : α → Prop} {sig : α → AHeap} {le : Env → α → Prop} {Q : Exit → Env → AHeap → Prop} (h : ∀ x, R x → R' x) {e : Exit} {env : Env} {σ : AHeap} (k : lowQ lab I R sig le Q e env σ) : lowQ lab I R' sig le Q e env σ := by
  cases e with
  | goto l => obtain ⟨x', h1, h2, h3, h4⟩ := k; exact ⟨x', h1, h2, h _ h3, h4⟩
  | _ => exact k

/-- A scope with jumps; a label that is reached from above is as one that is jumped to. -/
theorem ascope' {α : Type} {b : ICode} {env : Env} {σ : AHeap} {Q : Exit → Env → AHeap → Prop} (live : α → List (Pth × AVal)) (sig : α → AHeap) (lab : α → Nat) (I : α → Prop) (μ : α → Nat)
    (first : clearK env b.writes fun e0 => (∀ (Q2 : Exit → Env → AHeap → Prop), (∀ e env' σ', lowQ lab I (fun _ => True) sig (fun env' x' => setsK e0 (live x') fun e2 => EnvLe env' e2) Q e env' σ' → Q2 e env' σ') →
        ∀ l b' env' σ', (∃ x', lab x' = l ∧ I x' ∧ b.find l = some (.seq .skip b') ∧ Sub σ' (sig x') ∧ setsK e0 (live x') fun e2 => EnvLe env' e2) → ALabel P C l b' env' σ' Q2) →
      evC P C b env σ (lowQ lab I (fun _ => True) sig (fun env' x' => setsK e0 (live x') fun e2 => EnvLe env' e2) Q))
    (pass : ∀ x, I x → ∃ rest, b.find (lab x) = some rest ∧ clearK env b.writes fun e0 => 
      (∀ (Q2 : Exit → Env → AHeap → Prop), (∀ e env' σ', lowQ lab I (fun x' => μ x' < μ x) sig (fun env' x' => setsK e0 (live x') fun e2 => EnvLe env' e2) Q e env' σ' → Q2 e env' σ') →
        ∀ l b' env' σ', (∃ x', lab x' = l ∧ I x' ∧ μ x' < μ x ∧ b.find l = some (.seq .skip b') ∧ Sub σ' (sig x') ∧ setsK e0 (live x') fun e2 => EnvLe env' e2) → ALabel P C l b' env' σ' Q2) →
      setsK e0 (live x) fun e1 => evC P C rest e1 (sig x) (lowQ lab I (fun x' => μ x' < μ x) sig (fun env' x' => setsK e0 (live x') fun e2 => EnvLe env' e2) Q)) :
    AScope P C b env σ Q := by
  simp only [clearK_eq, setsK_eq] at first pass
  have key : ∀ m x, μ x = m → I x → ∃ rest, b.find (lab x) = some rest ∧ evC P C rest (sets (clear env b.writes) (live x)) (sig x) (lowQ lab I (fun x' => μ x' < μ x) sig (fun env' x' => EnvLe env' (sets (clear env b.writes) (live x'))) Q) := by
    intro m
    induction m using Nat.strongRecOn with
    | _ m ih =>
      intro x hm hx
      obtain ⟨rest, h1, h2⟩ := pass x hx
      refine ⟨rest, h1, h2 ?_⟩
      rintro Q2 hQ2 l b' env' σ' ⟨x', rfl, hx', hlt, hf, hs, he⟩
      obtain ⟨r', h3, h4⟩ := ih (μ x') (hm ▸ hlt) x' rfl hx'
      rw [hf] at h3; cases h3
      refine ⟨fun c hc κ a w hS => ?_⟩
      have hw := evC_sound b' _ _ _ (show evC P C b' _ _ _ from h4) c hc κ a w (hS.weaken he hs)
      refine wp_mono hw ?_
      rintro e a' w' ⟨κ', env2, σ2, q1, q2, q3⟩
      exact ⟨κ', env2, σ2, q1, q2, hQ2 _ _ _ (lowQ_mono (fun y hy => Nat.lt_trans hy hlt) q3)⟩
  refine ascope live sig lab I μ ?_ ?_
  · simp only [clearK_eq, setsK_eq]
    have := first ?_
    · refine cast (congrArg _ ?_) this
      funext e env' σ'
      cases e <;> simp [lowQ, jumpQ]
    · rintro Q2 hQ2 l b' env' σ' ⟨x', rfl, hx', hf, hs, he⟩
      obtain ⟨r', h3, h4⟩ := key _ x' rfl hx'
      rw [hf] at h3; cases h3
      refine ⟨fun c hc κ a w hS => ?_⟩
      have hw := evC_sound b' _ _ _ (show evC P C b' _ _ _ from h4) c hc κ a w (hS.weaken he hs)
      refine wp_mono hw ?_
      rintro e a' w' ⟨κ', env2, σ2, q1, q2, q3⟩
      exact ⟨κ', env2, σ2, q1, q2, hQ2 _ _ _ (lowQ_mono (fun _ _ => trivial) q3)⟩
  · intro x hx
    obtain ⟨rest, h1, h2⟩ := key _ x rfl hx
    refine ⟨rest, h1, ?_⟩
    simp only [clearK_eq, setsK_eq]
    exact h2
end
end Go.Am
/-
  A function, by its body.
-/
namespace Go.Am
set_option linter.unusedVariables false
set_option linter.unusedSimpArgs false
set_option linter.unusedSectionVars false
open Go.RowKit (Below)

/-- What a function hands back, seen from outside: less may be known of it. -/
structure ARet (v : AVal) (σ : AHeap) (Q : AVal → AHeap → Prop) : Prop where of ::
  out : ∃ v' σ', VLe v v' ∧ Sub σ σ' ∧ Q v' σ'
theorem ARet_def (v : AVal) (σ : AHeap) (Q : AVal → AHeap → Prop) : ARet v σ Q = (∃ v' σ', VLe v v' ∧ Sub σ σ' ∧ Q v' σ') := propext ⟨fun h => h.out, fun h => ⟨h⟩⟩

def resK (env : Env) (σ : AHeap) : List IRes → (List AVal → Prop) → Prop
  | [], k => k []
  | .tmp p :: rs, k => resK env σ rs fun l => env.getK p fun x => k (x :: l)
  | .cell p g :: rs, k => match env.get p with
    | .ptr id off => ALoad σ id off g fun x => resK env σ rs fun l => k (x :: l)
    | _ => False

def resV : List AVal → AVal
  | [x] => x
  | l => .tup l

def resVK : List AVal → (AVal → Prop) → Prop
  | [x], k => k x
  | l, k => k (.tup l)
theorem resVK_eq (l : List AVal) (k : AVal → Prop) : resVK l k = k (resV l) := by
  cases l with
  | nil => rfl
  | cons x l => cases l <;> rfl
def retQ (F : IFun) (Q : AVal → AHeap → Prop) : Exit → Env → AHeap → Prop
  | .normal, env, σ | .ret, env, σ => resK env σ F.res fun l => resVK l fun v => ARet v σ Q
  | _, _, _ => False

def argsK (env : Env) : Nat → List AVal → (Env → Prop) → Prop
  | _, [], k => k env
  | n, x :: xs, k => env.setK (pth n) x fun e => argsK e (n + 1) xs k

def argsE (env : Env) : Nat → List AVal → Env
  | _, [] => env
  | n, x :: xs => argsE (env.set (pth n) x) (n + 1) xs
theorem argsK_eq : ∀ (xs : List AVal) (env : Env) (n : Nat) (k : Env → Prop), argsK env n xs k = k (argsE env n xs)
  | [], _, _, _ => rfl
  | x :: xs, env, n, k => by simp only [argsK, Env.setK_eq, argsE]; exact argsK_eq xs _ _ k

theorem full_get : ∀ (d : Nat) (p : Pth), (Env.full d).get p = .top
  | 0, _ => rfl
  | d + 1, .e => rfl
  | d + 1, .l p => full_get d p
  | d + 1, .r p => full_get d p

theorem argsE_get : ∀ (xs : List AVal) (env : Env) (n : Nat) (p : Pth), ((argsE env n xs).get p = .top ∧ (n ≤ p.num ∧ p.num < n + xs.length)) ∨ (∃ x, xs[p.num - n]? = some x ∧ n ≤ p.num ∧ (argsE env n xs).get p = x) ∨ ((p.num < n ∨ n + xs.length ≤ p.num) ∧ (argsE env n xs).get p = env.get p)
  | [], env, n, p => .inr (.inr ⟨by simp; omega, rfl⟩)
  | x :: xs, env, n, p => by
    simp only [argsE]
    rcases argsE_get xs (env.set (pth n) x) (n + 1) p with ⟨h1, h2⟩ | ⟨y, h1, h2, h3⟩ | ⟨h1, h2⟩
    · exact .inl ⟨h1, by simp; omega⟩
    · refine .inr (.inl ⟨y, ?_, by omega, h3⟩)
      rw [show p.num - n = (p.num - (n + 1)) + 1 by omega]; simpa using h1
    · by_cases hp : p = pth n
      · subst hp
        rw [num_pth] at h1 ⊢
        rcases env.get_set (pth n) x with k | k
        · exact .inr (.inl ⟨x, by simp, Nat.le_refl _, by rw [h2, k]⟩)
        · exact .inl ⟨by rw [h2, k], by simp⟩
      · have hne : p.num ≠ n := fun e => hp (Pth.num_inj (by rw [num_pth]; exact e))
        exact .inr (.inr ⟨by simp at *; omega, by rw [h2, Env.get_set_ne env x hp]⟩)

section
variable {P : Program} {C : Cfg}

theorem res_run {κ : Ghost} {σ : AHeap} {env : Env} {a : Act} {w : World} (hS : St κ C.n σ env a w) : ∀ {rs : List ResultVar} {irs : List IRes} {k : List AVal → Prop}, compRes P rs = some irs → resK env σ irs k →
    ∃ (vs : List Value) (xs : List AVal), (∀ f : ResultVar → Sem Value, (∀ t, f (.tmp t) = pure (a.tmps.getD t undef)) → (∀ p t, f (.cell p t) = do loadVar t (← asAddr (a.tmps.getD p undef))) → (rs.mapM f).run P w = .ok vs w) ∧
      RepL κ xs vs ∧ k xs
  | [], irs, k, h, hk => by simp only [compRes, Option.some.injEq] at h; subst h; exact ⟨[], [], fun f _ _ => by simp, .nil, hk⟩
  | .tmp t :: rs, irs, k, h, hk => by
    simp only [compRes] at h
    obtain ⟨irs', h1, rfl⟩ := optmap h
    simp only [resK, Env.getK_eq] at hk
    obtain ⟨vs, xs, g1, g2, g3⟩ := res_run hS h1 hk
    refine ⟨a.tmps.getD t undef :: vs, env.get (pth t) :: xs, fun f f1 f2 => ?_, .cons (hS.rep.eval t) g2, g3⟩
    simp only [List.mapM_cons, Sem.run_bind, f1, Sem.run_pure, Result.andThen_ok, g1 f f1 f2]
  | .cell p t :: rs, irs, k, h, hk => by
    simp only [compRes] at h
    obtain ⟨g, hg, h⟩ := optbind h
    obtain ⟨irs', h1, rfl⟩ := optmap h
    simp only [resK] at hk
    split at hk
    · rename_i id off he
      have rx := hS.rep.eval p
      rw [he] at rx
      obtain ⟨b, hv, hb⟩ := rx.ptr_inv
      rw [ALoad_def] at hk
      obtain ⟨cs, h2, h3⟩ := hk
      obtain ⟨c, e, vs, us, k1, k2, k3, k4, k5, k6, k7⟩ := hS.inv.objCells h2 hb
      obtain ⟨v, y, r1, r2, r3⟩ := load_run (P := P) (w := w) hg k4 k7 h3
      rw [Nat.zero_add] at r1
      obtain ⟨vs', xs, g1, g2, g3⟩ := res_run hS h1 r3
      refine ⟨v :: vs', y :: xs, fun f f1 f2 => ?_, .cons r2 g2, g3⟩
      have hv' : a.tmps.getD p undef = .pointer (some ⟨b, off, none⟩) := hv
      have ha : (asAddr (a.tmps.getD p undef)).run P w = .ok ⟨b, off, none⟩ w := by rw [hv']; rfl
      simp only [Instr.loadAt, Instr.sureAddr, Sem.run_bind, Sem.run_pure, Result.andThen_ok] at r1
      simp only [List.mapM_cons, Sem.run_bind, f2, ha, Sem.run_pure, Result.andThen_ok, r1, g1 f f1 f2]
    · exact hk.elim

theorem results_run {κ : Ghost} {σ : AHeap} {env : Env} {a : Act} {w : World} {fn : Func} (hS : St κ C.n σ env a w) {irs : List IRes} {k : List AVal → Prop} (hr : compRes P fn.results.toList = some irs) (h : resK env σ irs k) :
    ∃ v xs, (results fn a.tmps).run P w = .ok v w ∧ RepV κ (resV xs) v ∧ k xs := by
  obtain ⟨vs, xs, g1, g2, g3⟩ := res_run hS hr h
  have hm : (results fn a.tmps).run P w = .ok (if h : vs.toArray.size = 1 then vs.toArray[0] else .tuple vs.toArray) w := by
    unfold results
    rw [Sem.run_bind, Array.mapM_eq_mapM_toList, Sem.run_map, g1 _ (fun _ => rfl) (fun _ _ => rfl)]
    simp only [Result.andThen_ok, Sem.run_pure]
  refine ⟨_, xs, hm, ?_, g3⟩
  cases g2 with
  | nil => simpa [resV] using RepV.tup RepL.nil
  | cons hx ht =>
    cases ht with
    | nil => simpa [resV] using hx
    | cons hy ht =>
      simp only [resV]
      simpa using RepV.tup (RepL.cons hx (RepL.cons hy ht))

/-- A function by its body. -/
theorem acalls_of {f : FuncId} {fn : Func} {F : IFun} (hf : P.funcs[f]? = some fn) (hF : compF P C fn = some F) (hn : fn.ntmps = C.n) {args : List AVal} (hl : args.length ≤ C.n) {σ : AHeap} {Q : AVal → AHeap → Prop}
    (h : argsK (Env.full 9) 0 args fun env => evC P C F.body env σ (retQ F Q)) : ACalls P f args σ Q := by
  rw [ACalls_def]
  intro κ w cargs hI hargs
  unfold compF at hF
  split at hF
  · rename_i c hc
    obtain ⟨b, h1, hF⟩ := optbind hF
    obtain ⟨r, h2, rfl⟩ := optmap hF
    rw [argsK_eq] at h
    have hal := hargs.length
    let a0 : Act := { tmps := cargs.toArray ++ Array.replicate (fn.ntmps - cargs.toArray.size) undef, defers := [] }
    have hsz : a0.tmps.size = C.n := by simp [a0]; omega
    have hS : St κ C.n σ (argsE (Env.full 9) 0 args) a0 w := by
      refine ⟨hI, ⟨hsz, fun p v hv => ?_, fun p hp => ?_⟩, rfl⟩
      · rcases argsE_get args (Env.full 9) 0 p with ⟨g1, _⟩ | ⟨x, g1, g2, g3⟩ | ⟨g1, g2⟩
        · rw [g1]; exact .top
        · rw [g3]
          rw [Nat.sub_zero] at g1
          obtain ⟨u, hu, hr⟩ := hargs.get g1
          have hlt : p.num < cargs.length := (List.getElem?_eq_some_iff.1 hu).1
          have : a0.tmps[p.num]? = some u := by
            simp only [a0]
            rw [Array.getElem?_append_left (by simpa using hlt)]
            simpa using hu
          rw [this] at hv; cases hv; exact hr
        · rw [g2, full_get]; exact .top
      · rcases argsE_get args (Env.full 9) 0 p with ⟨g1, _⟩ | ⟨x, g1, g2, g3⟩ | ⟨g1, g2⟩
        · exact g1
        · rw [Nat.sub_zero] at g1
          have := (List.getElem?_eq_some_iff.1 g1).1
          omega
        · rw [g2, full_get]
    have hw := evC_sound b _ _ _ h c h1 κ a0 w hS
    refine calls_of_wp hf hc (wp_mono hw ?_)
    rintro e a' w' ⟨κ', env', σ', q1, q2, q3⟩
    cases e with
    | normal =>
      obtain ⟨v, xs, g1, g2, g3⟩ := results_run q2 h2 q3
      rw [resVK_eq, ARet_def] at g3
      obtain ⟨v', σ2, k1, k2, k3⟩ := g3
      exact ⟨q2.defers, v, g1, v, κ', σ2, v', rfl, q1, q2.inv.sub k2, k1 _ _ g2, k3⟩
    | ret =>
      obtain ⟨v, xs, g1, g2, g3⟩ := results_run q2 h2 q3
      rw [resVK_eq, ARet_def] at g3
      obtain ⟨v', σ2, k1, k2, k3⟩ := g3
      exact ⟨q2.defers, v, g1, v, κ', σ2, v', rfl, q1, q2.inv.sub k2, k1 _ _ g2, k3⟩
    | _ => exact q3.elim
  · cases hF
end
end Go.Am
/-
  How what stands still goes on.
-/
namespace Go.Am
set_option linter.unusedVariables false
set_option linter.unusedSimpArgs false
set_option linter.unusedSectionVars false

theorem abr_dec {p : Prop} {_ : Decidable p} {K : Bool → Prop} (ht : p → K true) (hf : ¬p → K false) : ABr (decide p) K := by
  rw [ABr_def]; by_cases h : p
  · rw [decide_eq_true h]; exact ht h
  · rw [decide_eq_false h]; exact hf h
theorem abr_ndec {p : Prop} {_ : Decidable p} {K : Bool → Prop} (ht : ¬p → K true) (hf : p → K false) : ABr (!decide p) K := by
  rw [ABr_def]; by_cases h : p
  · rw [decide_eq_true h]; exact hf h
  · rw [decide_eq_false h]; exact ht h
theorem abr_true {b : Bool} {K : Bool → Prop} (hb : b = true) (h : K true) : ABr b K := by rw [ABr_def]; rw [hb]; exact h
theorem abr_false {b : Bool} {K : Bool → Prop} (hb : b = false) (h : K false) : ABr b K := by rw [ABr_def]; rw [hb]; exact h
theorem abr_any {b : Bool} {K : Bool → Prop} (ht : b = true → K true) (hf : b = false → K false) : ABr b K := by
  rw [ABr_def]; cases b
  · exact hf rfl
  · exact ht rfl
/-- A test, known. -/
theorem abr_yes {p : Prop} {_ : Decidable p} {K : Bool → Prop} (hp : p) (h : K true) : ABr (decide p) K := abr_true (decide_eq_true hp) h
theorem abr_no {p : Prop} {_ : Decidable p} {K : Bool → Prop} (hp : ¬p) (h : K false) : ABr (decide p) K := abr_false (decide_eq_false hp) h

theorem abr_same_ne {α : Type} {a : α} {_ : Decidable (a ≠ a)} {K : Bool → Prop} (h : K false) : ABr (decide (a ≠ a)) K := abr_no (fun h => h rfl) h
theorem abr_same_eq {α : Type} {a : α} {_ : Decidable (a = a)} {K : Bool → Prop} (h : K true) : ABr (decide (a = a)) K := abr_yes rfl h

theorem wrap_i64 {n : Int} (h1 : -9223372036854775808 ≤ n) (h2 : n ≤ 9223372036854775807) : IntKind.i64.wrap n = n := by
  unfold IntKind.wrap IntKind.signed IntKind.bits; simp only [Bool.true_and]; split <;> simp at * <;> omega
theorem wrap_u8 {n : Int} (h1 : 0 ≤ n) (h2 : n < 256) : IntKind.u8.wrap n = n := by unfold IntKind.wrap IntKind.signed IntKind.bits; simp; omega
theorem wrap_u16 {n : Int} (h1 : 0 ≤ n) (h2 : n < 65536) : IntKind.u16.wrap n = n := by unfold IntKind.wrap IntKind.signed IntKind.bits; simp; omega
theorem wrap_u32 {n : Int} (h1 : 0 ≤ n) (h2 : n < 4294967296) : IntKind.u32.wrap n = n := by unfold IntKind.wrap IntKind.signed IntKind.bits; simp; omega
theorem wrap_u64 {n : Int} (h1 : 0 ≤ n) (h2 : n < 18446744073709551616) : IntKind.u64.wrap n = n := by unfold IntKind.wrap IntKind.signed IntKind.bits; simp; omega

theorem afit_eq {k : IntKind} {n m : Int} {K : Int → Prop} (e : k.wrap n = m) (h : K m) : AFit k n K := by rw [AFit_def]; rw [e]; exact h
theorem afit_raw {k : IntKind} {n : Int} {K : Int → Prop} (h : K (k.wrap n)) : AFit k n K := by rw [AFit_def]; exact h
theorem afit_i64 {n : Int} {K : Int → Prop} (h1 : -9223372036854775808 ≤ n ∧ n ≤ 9223372036854775807) (h : K n) : AFit .i64 n K := afit_eq (wrap_i64 h1.1 h1.2) h
theorem afit_u8 {n : Int} {K : Int → Prop} (h1 : 0 ≤ n ∧ n < 256) (h : K n) : AFit .u8 n K := afit_eq (wrap_u8 h1.1 h1.2) h
theorem afit_u16 {n : Int} {K : Int → Prop} (h1 : 0 ≤ n ∧ n < 65536) (h : K n) : AFit .u16 n K := afit_eq (wrap_u16 h1.1 h1.2) h
theorem afit_u32 {n : Int} {K : Int → Prop} (h1 : 0 ≤ n ∧ n < 4294967296) (h : K n) : AFit .u32 n K := afit_eq (wrap_u32 h1.1 h1.2) h
theorem afit_u64 {n : Int} {K : Int → Prop} (h1 : 0 ≤ n ∧ n < 18446744073709551616) (h : K n) : AFit .u64 n K := afit_eq (wrap_u64 h1.1 h1.2) h

theorem abits_eq {op : BinOp} {k : IntKind} {a b m : Int} {K : Int → Prop} (e : bitsOp op k a b = m) (h : K m) : ABits op k a b K := by rw [ABits_def]; rw [e]; exact h
theorem ashl_eq {k : IntKind} {a b m : Int} {K : Int → Prop} (hb : 0 ≤ b) (e : k.wrap (a * 2 ^ (min b.toNat k.bits)) = m) (h : K m) : AShl k a b K := by rw [AShl_def]; rw [e]; exact ⟨hb, h⟩
theorem ashr_eq {k : IntKind} {a b m : Int} {K : Int → Prop} (hb : 0 ≤ b) (e : a.fdiv (2 ^ (min b.toNat k.bits)) = m) (h : K m) : AShr k a b K := by rw [AShr_def]; rw [e]; exact ⟨hb, h⟩
theorem adiv_i64 {a b : Int} {K : Int → Prop} (ha : 0 ≤ a ∧ a ≤ 9223372036854775807) (hb : 1 ≤ b) (h : K (a / b)) : ADiv .i64 a b K := by
  rw [ADiv_def]; refine ⟨by omega, ?_⟩
  have h1 : a.tdiv b = a / b := Int.tdiv_eq_ediv_of_nonneg ha.1
  have h2 : 0 ≤ a / b := Int.ediv_nonneg ha.1 (by omega)
  have h3 : a / b ≤ a := Int.ediv_le_self b ha.1
  rw [h1, wrap_i64 (by omega) (by omega)]; exact h
theorem arem_nonneg {a b : Int} {K : Int → Prop} (ha : 0 ≤ a) (hb : b ≠ 0) (h : K (a % b)) : ARem a b K := by
  rw [ARem_def]; exact ⟨hb, by rw [Int.tmod_eq_emod_of_nonneg ha]; exact h⟩
theorem adiv_eq {k : IntKind} {a b m : Int} {K : Int → Prop} (hb : b ≠ 0) (e : k.wrap (a.tdiv b) = m) (h : K m) : ADiv k a b K := by rw [ADiv_def]; rw [e]; exact ⟨hb, h⟩

theorem amax {a b : Int} {K : Int → Prop} (h : K (max a b)) : AMx true a b K := by rw [AMx_def]; simp only [if_true]; rw [show (if b > a then b else a) = max a b by omega]; exact h
theorem amin {a b : Int} {K : Int → Prop} (h : K (min a b)) : AMx false a b K := by rw [AMx_def]; simp only [Bool.false_eq_true, if_false]; rw [show (if b < a then b else a) = min a b by omega]; exact h

theorem aget {xs : List AVal} {i : Int} {x : AVal} {K : AVal → Prop} (h0 : 0 ≤ i) (hx : xs[i.toNat]? = some x) (h : K x) : AGet xs i K := by rw [AGet_def]; exact ⟨x, h0, hx, h⟩
theorem aidx {i : Int} {n : Nat} {K : Nat → Prop} (h0 : 0 ≤ i) (h1 : i < n) (h : K i.toNat) : AIdx i n K := by rw [AIdx_def]; exact ⟨h0, h1, h⟩
theorem acell {cs : List AVal} {off : Nat} {x : AVal} {K : AVal → Prop} (hx : cs[off]? = some x) (h : K x) : ACell cs off none K := by rw [ACell_def]; exact ⟨x, hx, h⟩
theorem acells {cs : List AVal} {off n : Nat} {l : List AVal} {K : AVal → Prop} (hl : off + n ≤ cs.length) (e : (cs.drop off).take n = l) (h : K (.agg l)) : ACell cs off (some n) K := by rw [ACell_def]; exact ⟨hl, by rw [e]; exact h⟩
theorem aload {σ : AHeap} {id off : Nat} {cs : List AVal} {x : AVal} {K : AVal → Prop} (hs : σ id = some (.cells cs)) (hx : cs[off]? = some x) (h : K x) : ALoad σ id off none K := by rw [ALoad_def]; exact ⟨cs, hs, x, hx, h⟩
theorem aloads {σ : AHeap} {id off n : Nat} {cs l : List AVal} {K : AVal → Prop} (hs : σ id = some (.cells cs)) (hl : off + n ≤ cs.length) (e : (cs.drop off).take n = l) (h : K (.agg l)) : ALoad σ id off (some n) K := by
  rw [ALoad_def]; exact ⟨cs, hs, hl, by rw [e]; exact h⟩
theorem astore {σ : AHeap} {id off : Nat} {cs xs l : List AVal} {K : AHeap → Prop} (hs : σ id = some (.cells cs)) (hl : off + xs.length ≤ cs.length) (hc : xs.all AVal.isCell = true) (e : splice cs off xs = l) (h : K (upd σ id (.cells l))) : AStore σ id off xs K := by
  rw [AStore_def]; exact ⟨cs, hs, hl, hc, by rw [e]; exact h⟩
theorem anew {σ : AHeap} {xs : List AVal} {K : Nat → AHeap → Prop} (hc : xs.all AVal.isCell = true) (h : ∀ id, σ id = none → K id (upd σ id (.cells xs))) : ANew σ xs K := by rw [ANew_def]; exact ⟨hc, h⟩
theorem acut {n : Nat} {lo hi : Int} {K : Nat → Nat → Prop} (h0 : 0 ≤ lo) (h1 : lo ≤ hi) (h2 : hi ≤ n) (h : K lo.toNat hi.toNat) : ACut n lo hi K := by rw [ACut_def]; exact ⟨h0, h1, h2, h⟩
theorem anil {xs : List AVal} {K : Bool → Prop} (h : K false) (k : xs = [] → K true) : ANil xs K := by rw [ANil_def]; exact ⟨h, k⟩
theorem astr {xs : List AVal} {bs : List UInt8} {K : ByteArray → Prop} (e : xs = bs.map byteV) (h : K ⟨bs.toArray⟩) : AStr xs K := by rw [AStr_def]; exact ⟨bs, e, h⟩
theorem arowT {σ : AHeap} {s : Nat} {xs : List AVal} {K : AVal → AHeap → Prop} (h : ∀ t, σ t = none → K (.slice s xs (.own t)) (upd σ t .tip)) : ARowT σ s xs K := ⟨h⟩
theorem amark {σ : AHeap} {xs : List AVal} {t : Nat} {K : AHeap → Prop} (h0 : xs ≠ []) (h1 : σ t = some .tip) (h : K (del σ t)) : AMark σ xs (.own t) K := ⟨h0, t, rfl, h1, h⟩
theorem amk {bytes : Nat} {n : Int} {K : Nat → Prop} (h0 : 0 ≤ n) (h1 : n < 4611686018427387904) (h2 : n * bytes ≤ 281474976710656) (h : K n.toNat) : AMk bytes n K := by rw [AMk_def]; exact ⟨h0, h1, h2, h⟩
theorem aapp_full {σ : AHeap} {s bytes : Nat} {xs ys : List AVal} {K : AVal → AHeap → Prop} (hl : (xs.length + ys.length) * bytes ≤ 140737488355328) (h : ∀ t, σ t = none → K (.slice s (xs ++ ys) (.tip t)) (upd σ t .tip)) : AApp σ s bytes xs .full ys K := by
  rw [AApp_def]; exact ⟨σ, .full, hl, h⟩
theorem aapp_tip {σ : AHeap} {s bytes t : Nat} {xs ys : List AVal} {K : AVal → AHeap → Prop} (ht : σ t = some .tip) (hl : (xs.length + ys.length) * bytes ≤ 140737488355328) (h : ∀ t', σ t' = none → K (.slice s (xs ++ ys) (.tip t')) (upd (del σ t) t' .tip)) :
    AApp σ s bytes xs (.tip t) ys K := by rw [AApp_def]; exact ⟨_, .tip ht, hl, h⟩
theorem acall {P : Program} {f : FuncId} {args : List AVal} {σ : AHeap} {Q Q' : AVal → AHeap → Prop} (h : ACalls P f args σ Q) (k : ∀ v σ', Q v σ' → Q' v σ') : ACalls P f args σ Q' := by
  rw [ACalls_def] at h ⊢
  intro κ w cargs h1 h2
  refine (h κ w cargs h1 h2).mono ?_
  rintro e w' ⟨v, κ', σ', x, h3, h4, h5, h6, h7⟩
  exact ⟨v, κ', σ', x, h3, h4, h5, h6, k _ _ h7⟩
theorem aret {v v' : AVal} {σ σ' : AHeap} {Q : AVal → AHeap → Prop} (hv : VLe v v') (hs : Sub σ σ') (h : Q v' σ') : ARet v σ Q := by rw [ARet_def]; exact ⟨v', σ', hv, hs, h⟩
theorem aret_same {v : AVal} {σ : AHeap} {Q : AVal → AHeap → Prop} (h : Q v σ) : ARet v σ Q := aret (VLe.refl v) (Sub.refl σ) h

theorem VLe.full_tip (s t : Nat) (xs : List AVal) : VLe (.slice s xs .full) (.slice s xs (.tip t)) := fun κ v h => by
  cases h with
  | nil => exact .nil
  | slice h1 h2 h3 h4 h5 h6 => exact .slice h1 h2 h3 h4 h5 (.inl h6)

/-- The right to append, and nothing else that is new. -/
def Owned (σ σ' : AHeap) (tk : Tok) : Prop := (tk = .full ∧ σ' = σ) ∨ ∃ t, σ t = none ∧ tk = .tip t ∧ σ' = upd σ t .tip
theorem Owned.full (σ : AHeap) : Owned σ σ .full := .inl ⟨rfl, rfl⟩
theorem Owned.tip {σ : AHeap} {t : Nat} (h : σ t = none) : Owned σ (upd σ t .tip) (.tip t) := .inr ⟨t, h, rfl, rfl⟩
theorem Owned.sub {σ σ' : AHeap} {tk : Tok} (h : Owned σ σ' tk) : Sub σ' σ := by
  rcases h with ⟨_, rfl⟩ | ⟨t, h, _, rfl⟩
  · exact Sub.refl _
  · exact Sub.upd_fresh _ h
theorem Owned.ext {σ σ' : AHeap} {tk : Tok} (h : Owned σ σ' tk) : Ext σ σ' := by
  rcases h with ⟨_, rfl⟩ | ⟨t, h, _, rfl⟩
  · exact Ext.refl _
  · exact Ext.upd_fresh _ h
theorem aapp_owned {σ σ' : AHeap} {s bytes : Nat} {xs ys : List AVal} {tk : Tok} {K : AVal → AHeap → Prop} (ho : Owned σ σ' tk) (hl : (xs.length + ys.length) * bytes ≤ 140737488355328)
    (h : ∀ t tk', Owned σ (upd σ t .tip) tk' → tk' = .tip t → K (.slice s (xs ++ ys) tk') (upd σ t .tip)) : AApp σ' s bytes xs tk ys K := by
  rcases ho with ⟨rfl, rfl⟩ | ⟨t, h0, rfl, rfl⟩
  · exact aapp_full hl fun t ht => h t _ (.tip ht) rfl
  · refine aapp_tip (upd_same _ _ _) hl fun t' ht' => ?_
    rw [del_upd _ _ _ h0]
    refine h t' _ (.tip ?_) rfl
    by_cases e : t' = t
    · subst e; exact h0
    · rw [upd_ne _ _ e] at ht'; exact ht'
/-- A slice handed back without the right to append. -/
theorem aret_sl {s : Nat} {xs : List AVal} {tk : Tok} {σ σ' : AHeap} {Q : AVal → AHeap → Prop} (hs : Sub σ σ') (h : Q (.slice s xs .none) σ') : ARet (.slice s xs tk) σ Q := aret (VLe.slice s xs tk) hs h

theorem ashr_nat {k : IntKind} {n j : Nat} {K : Int → Prop} (hj : j ≤ k.bits) (h : K ((n / 2 ^ j : Nat) : Int)) : AShr k (n : Int) (j : Int) K := by
  refine ashr_eq (by omega) ?_ h
  rw [Int.toNat_natCast, Nat.min_eq_left hj, Int.fdiv_eq_ediv_of_nonneg _ (by exact Int.pow_nonneg (by omega))]
  rw [Int.natCast_ediv]; simp
theorem wrap_u8_nat (n : Nat) : IntKind.u8.wrap (n : Int) = ((n % 256 : Nat) : Int) := by unfold IntKind.wrap IntKind.signed IntKind.bits; simp
theorem wrap_u16_nat (n : Nat) : IntKind.u16.wrap (n : Int) = ((n % 65536 : Nat) : Int) := by unfold IntKind.wrap IntKind.signed IntKind.bits; simp
theorem wrap_u32_nat (n : Nat) : IntKind.u32.wrap (n : Int) = ((n % 4294967296 : Nat) : Int) := by unfold IntKind.wrap IntKind.signed IntKind.bits; simp
theorem wrap_u64_nat (n : Nat) : IntKind.u64.wrap (n : Int) = ((n % 18446744073709551616 : Nat) : Int) := by unfold IntKind.wrap IntKind.signed IntKind.bits; simp

/-- A call that is handed a view of a row that is stored into no more. -/
theorem acall_still {P : Program} {f : FuncId} {r s : Nat} {xs : List AVal} {σ : AHeap} {Q : AVal → AHeap → Prop} (hs : σ r = some (.cells (xs.flatMap AVal.cells))) (hx : ∀ x ∈ xs, x.cells.length = s)
    (h : ACalls P f [.slice s xs .none] (del σ r) Q) : ACalls P f [.ms r s 0 xs.length] σ Q := by
  rw [ACalls_def] at h ⊢
  intro κ w cargs h1 h2
  cases h2 with
  | cons hv ht =>
    cases ht
    cases hv with
    | ms g1 g2 g3 g4 =>
      obtain ⟨κ', vs, r1, r2, r3, r4⟩ := h1.still hs g1
      refine (h κ' w _ r2 (.cons (.slice (vs := vs) rfl g3 hx (r3.mono r1) (fun i v k => by rw [Nat.zero_add]; exact r4 i v k) trivial) .nil)).mono ?_
      rintro e w' ⟨v, κ2, σ2, x, k1, k2, k3⟩
      exact ⟨v, κ2, σ2, x, k1, r1.trans k2, k3⟩
/-- A call that is handed something that holds a view of a row that is stored into no more. -/
theorem acall_stillA {P : Program} {f : FuncId} {r s : Nat} {xs args args' : List AVal} {σ : AHeap} {Q : AVal → AHeap → Prop} (hs : σ r = some (.cells (xs.flatMap AVal.cells))) (hx : ∀ x ∈ xs, x.cells.length = s)
    (ha : ∀ κ vs, (∀ v, RepV κ (.ms r s 0 xs.length) v → RepV κ (.slice s xs .none) v) → RepL κ args vs → RepL κ args' vs) (h : ACalls P f args' (del σ r) Q) : ACalls P f args σ Q := by
  rw [ACalls_def] at h ⊢
  intro κ w cargs h1 h2
  obtain ⟨b, c, e, vs0, us, k1, _⟩ := h1.cells r _ hs
  obtain ⟨κ', vs, r1, r2, r3, r4⟩ := h1.still hs k1
  refine (h κ' w _ r2 (ha κ' _ (fun v hv => ?_) (RepL.mono r1 h2))).mono ?_
  · cases hv with
    | ms g1 g2 g3 g4 =>
      rw [r1.obj _ _ k1] at g1
      cases g1
      exact .slice (vs := vs) rfl g3 hx (r3.mono r1) (fun i v k => by rw [Nat.zero_add]; exact r4 i v k) trivial
  · rintro e w' ⟨v, κ2, σ2, x, g1, g2, g3⟩
    exact ⟨v, κ2, σ2, x, g1, r1.trans g2, g3⟩
theorem aappnew {σ : AHeap} {s bytes : Nat} {ys : List AVal} {K : AVal → AHeap → Prop} (hy : ys ≠ []) (hl : ys.length * bytes ≤ 140737488355328) (ho : ys.all (okElem s) = true) (h : ∀ r, σ r = none → K (.ms r s 0 ys.length) (upd σ r (.cells (ys.flatMap AVal.cells)))) :
    AAppNew σ s bytes [] .full ys K := ⟨.inr (.inl ⟨rfl, hy, rfl, hl, ho, h⟩)⟩
/-- An append that turns no object. -/
theorem aappnew_app {σ : AHeap} {s bytes : Nat} {xs : List AVal} {t : Tok} {ys : List AVal} {K : AVal → AHeap → Prop} (h : AApp σ s bytes xs t ys K) : AAppNew σ s bytes xs t ys K := ⟨.inr (.inr h)⟩
theorem aappnew_none {σ : AHeap} {s bytes : Nat} {xs : List AVal} {t : Tok} {K : AVal → AHeap → Prop} (hl : xs.length * bytes ≤ 140737488355328) (h : K (.slice s xs t) σ) : AAppNew σ s bytes xs t [] K := ⟨.inl ⟨rfl, hl, h⟩⟩
theorem aappm {σ : AHeap} {r s len bytes : Nat} {ys cs : List AVal} {K : AVal → AHeap → Prop} (hs : σ r = some (.cells cs)) (hc : len * s = cs.length) (hl : (len + ys.length) * bytes ≤ 140737488355328) (ho : ys.all (okElem s) = true)
    (h : ∀ r', σ r' = none → K (.ms r' s 0 (len + ys.length)) (upd (del σ r) r' (.cells (cs ++ ys.flatMap AVal.cells)))) : AAppM σ r s 0 len bytes ys K := ⟨⟨rfl, hl, ho, cs, hs, hc, h⟩⟩
theorem adiv_u64 {a b : Nat} {K : Int → Prop} (hb : 1 ≤ b) (ha : a < 18446744073709551616) (h : K ((a / b : Nat) : Int)) : ADiv .u64 (a : Int) (b : Int) K := by
  refine adiv_eq (by omega) ?_ h
  have h1 := Nat.div_le_self a b
  have e : (a : Int).tdiv b = ((a / b : Nat) : Int) := by rw [Int.tdiv_eq_ediv_of_nonneg (by omega), Int.natCast_ediv]
  rw [e]
  generalize a / b = q at h1
  exact wrap_u64 (by omega) (by omega)
theorem adiv_u8 {a b : Nat} {K : Int → Prop} (hb : 1 ≤ b) (ha : a < 256) (h : K ((a / b : Nat) : Int)) : ADiv .u8 (a : Int) (b : Int) K := by
  refine adiv_eq (by omega) ?_ h
  have h1 := Nat.div_le_self a b
  have e : (a : Int).tdiv b = ((a / b : Nat) : Int) := by rw [Int.tdiv_eq_ediv_of_nonneg (by omega), Int.natCast_ediv]
  rw [e]
  generalize a / b = q at h1
  exact wrap_u8 (by omega) (by omega)

theorem arem_nat {a b : Nat} {K : Int → Prop} (hb : b ≠ 0) (h : K ((a % b : Nat) : Int)) : ARem (a : Int) (b : Int) K :=
  arem_nonneg (Int.natCast_nonneg _) (by omega) (by rw [← Int.natCast_emod]; exact h)
theorem Owned.none_of {σ σ' : AHeap} {tk : Tok} {id : Nat} (h : Owned σ σ' tk) (k : σ' id = none) : σ id = none := by
  rcases h with ⟨_, rfl⟩ | ⟨t', h0, _, rfl⟩
  · exact k
  · by_cases e : id = t'
    · subst e; rw [upd_same] at k; cases k
    · rw [upd_ne _ _ e] at k; exact k
theorem Owned.same_of {σ σ' : AHeap} {tk : Tok} {id : Nat} {o : AObj} (h : Owned σ σ' tk) (k : σ id = some o) : σ' id = some o := by
  rcases h with ⟨_, rfl⟩ | ⟨t', h0, _, rfl⟩
  · exact k
  · by_cases e : id = t'
    · subst e; rw [h0] at k; cases k
    · rw [upd_ne _ _ e]; exact k

theorem acall_less {P : Program} {f : FuncId} {args : List AVal} {σ : AHeap} {Q Q' : AVal → AHeap → Prop} (h : ACalls P f args σ Q) (k : ∀ v σ', Q v σ' → ∃ v' σ2, VLe v v' ∧ Sub σ' σ2 ∧ Q' v' σ2) : ACalls P f args σ Q' := by
  rw [ACalls_def] at h ⊢
  intro κ w cargs h1 h2
  refine (h κ w cargs h1 h2).mono ?_
  rintro e w' ⟨v, κ', σ', x, h3, h4, h5, h6, h7⟩
  obtain ⟨v', σ2, a, b, c⟩ := k _ _ h7
  exact ⟨v, κ', σ2, v', h3, h4, h5.sub b, a _ _ h6, c⟩
theorem owned_drop {σ σ1 σ2 : AHeap} {tk tk2 : Tok} (h : Owned σ σ1 tk) (k : Owned σ1 σ2 tk2) : ∃ σ3, Owned σ σ3 tk2 ∧ Sub σ2 σ3 := by
  rcases k with ⟨rfl, rfl⟩ | ⟨t, h0, rfl, rfl⟩
  · exact ⟨σ, .full _, h.sub⟩
  · exact ⟨upd σ t .tip, .tip (h.none_of h0), Sub.upd h.sub _ _⟩
theorem dec_congr {p q : Prop} {_ : Decidable p} {_ : Decidable q} (h : p ↔ q) : decide p = decide q := by
  by_cases hp : p
  · rw [decide_eq_true hp, decide_eq_true (h.1 hp)]
  · rw [decide_eq_false hp, decide_eq_false (fun hq => hp (h.2 hq))]

theorem aret_dec {p : Prop} {_ : Decidable p} {σ σ' : AHeap} (hb : p) (hs : Sub σ σ') : ARet (.v (.bool (decide p))) σ (fun v σ2 => v = .v (.bool true) ∧ σ2 = σ') := aret (VLe.refl _) hs ⟨by rw [decide_eq_true hb], rfl⟩
theorem aret_tt {σ σ' : AHeap} (hs : Sub σ σ') : ARet (.v (.bool true)) σ (fun v σ2 => v = .v (.bool true) ∧ σ2 = σ') := aret (VLe.refl _) hs ⟨rfl, rfl⟩
end Go.Am
/-
  The bodies, compiled to the framework's language (printed by a program of this session).
-/
namespace Go.Proofs.Ytnfdgccmpglbhaa
open Go Go.Am
abbrev s0 : Pth := .e
abbrev s1 : Pth := .l s0
abbrev s2 : Pth := .r s0
abbrev s3 : Pth := .l s1
abbrev s4 : Pth := .r s1
abbrev s5 : Pth := .l s2
abbrev s6 : Pth := .r s2
abbrev s7 : Pth := .l s3
abbrev s8 : Pth := .r s3
abbrev s9 : Pth := .l s4
abbrev s10 : Pth := .r s4
abbrev s11 : Pth := .l s5
abbrev s12 : Pth := .r s5
abbrev s13 : Pth := .l s6
abbrev s14 : Pth := .r s6
abbrev s15 : Pth := .l s7
abbrev s16 : Pth := .r s7
abbrev s17 : Pth := .l s8
abbrev s18 : Pth := .r s8
abbrev s19 : Pth := .l s9
abbrev s20 : Pth := .r s9
abbrev s21 : Pth := .l s10
abbrev s22 : Pth := .r s10
abbrev s23 : Pth := .l s11
abbrev s24 : Pth := .r s11
abbrev s25 : Pth := .l s12
abbrev s26 : Pth := .r s12
abbrev s27 : Pth := .l s13
abbrev s28 : Pth := .r s13
abbrev s29 : Pth := .l s14
abbrev s30 : Pth := .r s14
abbrev s31 : Pth := .l s15
abbrev s32 : Pth := .r s15
abbrev s33 : Pth := .l s16
abbrev s34 : Pth := .r s16
abbrev s35 : Pth := .l s17
abbrev s36 : Pth := .r s17
abbrev s37 : Pth := .l s18
abbrev s38 : Pth := .r s18
abbrev s39 : Pth := .l s19
abbrev s40 : Pth := .r s19
abbrev s41 : Pth := .l s20
abbrev s42 : Pth := .r s20
abbrev s43 : Pth := .l s21
abbrev s44 : Pth := .r s21
abbrev s45 : Pth := .l s22
abbrev s46 : Pth := .r s22
abbrev s47 : Pth := .l s23
abbrev s48 : Pth := .r s23
abbrev s49 : Pth := .l s24
abbrev s50 : Pth := .r s24
abbrev s51 : Pth := .l s25
abbrev s52 : Pth := .r s25
abbrev s53 : Pth := .l s26
abbrev s54 : Pth := .r s26
abbrev s55 : Pth := .l s27
abbrev s56 : Pth := .r s27
abbrev s57 : Pth := .l s28
abbrev s58 : Pth := .r s28
abbrev s59 : Pth := .l s29
abbrev s60 : Pth := .r s29
abbrev s61 : Pth := .l s30
abbrev s62 : Pth := .r s30
abbrev s63 : Pth := .l s31
abbrev s64 : Pth := .r s31
abbrev s65 : Pth := .l s32
abbrev s66 : Pth := .r s32
abbrev s67 : Pth := .l s33
abbrev s68 : Pth := .r s33
abbrev s69 : Pth := .l s34
abbrev s70 : Pth := .r s34
abbrev s71 : Pth := .l s35
abbrev s72 : Pth := .r s35
abbrev s73 : Pth := .l s36
abbrev s74 : Pth := .r s36
abbrev s75 : Pth := .l s37
abbrev s76 : Pth := .r s37
abbrev s77 : Pth := .l s38
abbrev s78 : Pth := .r s38
abbrev s79 : Pth := .l s39
abbrev s80 : Pth := .r s39
abbrev s81 : Pth := .l s40
abbrev s82 : Pth := .r s40
abbrev s83 : Pth := .l s41
abbrev s84 : Pth := .r s41
abbrev s85 : Pth := .l s42
abbrev s86 : Pth := .r s42
abbrev s87 : Pth := .l s43
abbrev s88 : Pth := .r s43
abbrev s89 : Pth := .l s44
abbrev s90 : Pth := .r s44
abbrev s91 : Pth := .l s45
abbrev s92 : Pth := .r s45
abbrev s93 : Pth := .l s46
abbrev s94 : Pth := .r s46
abbrev s95 : Pth := .l s47
abbrev s96 : Pth := .r s47
abbrev s97 : Pth := .l s48
abbrev s98 : Pth := .r s48
abbrev s99 : Pth := .l s49
abbrev s100 : Pth := .r s49
abbrev s101 : Pth := .l s50
abbrev s102 : Pth := .r s50
abbrev s103 : Pth := .l s51
abbrev s104 : Pth := .r s51
abbrev s105 : Pth := .l s52
abbrev s106 : Pth := .r s52
abbrev s107 : Pth := .l s53
abbrev s108 : Pth := .r s53
abbrev s109 : Pth := .l s54
abbrev s110 : Pth := .r s54
abbrev s111 : Pth := .l s55
abbrev s112 : Pth := .r s55
abbrev s113 : Pth := .l s56
abbrev s114 : Pth := .r s56
abbrev s115 : Pth := .l s57
abbrev s116 : Pth := .r s57
abbrev s117 : Pth := .l s58
abbrev s118 : Pth := .r s58
abbrev s119 : Pth := .l s59
abbrev s120 : Pth := .r s59
abbrev s121 : Pth := .l s60
abbrev s122 : Pth := .r s60
abbrev s123 : Pth := .l s61
abbrev s124 : Pth := .r s61
abbrev s125 : Pth := .l s62
abbrev s126 : Pth := .r s62
abbrev s127 : Pth := .l s63
abbrev s128 : Pth := .r s63
abbrev s129 : Pth := .l s64
abbrev s130 : Pth := .r s64
abbrev s131 : Pth := .l s65
abbrev s132 : Pth := .r s65
abbrev s133 : Pth := .l s66
abbrev s134 : Pth := .r s66
abbrev s135 : Pth := .l s67
abbrev s136 : Pth := .r s67
abbrev s137 : Pth := .l s68
abbrev s138 : Pth := .r s68
abbrev s139 : Pth := .l s69
abbrev s140 : Pth := .r s69
abbrev s141 : Pth := .l s70
abbrev s142 : Pth := .r s70
abbrev s143 : Pth := .l s71
abbrev s144 : Pth := .r s71
abbrev s145 : Pth := .l s72
abbrev s146 : Pth := .r s72
abbrev s147 : Pth := .l s73
abbrev s148 : Pth := .r s73
abbrev s149 : Pth := .l s74
abbrev s150 : Pth := .r s74
abbrev s151 : Pth := .l s75
abbrev s152 : Pth := .r s75
abbrev s153 : Pth := .l s76
abbrev s154 : Pth := .r s76
abbrev s155 : Pth := .l s77
abbrev s156 : Pth := .r s77
abbrev s157 : Pth := .l s78
abbrev s158 : Pth := .r s78
abbrev s159 : Pth := .l s79
abbrev s160 : Pth := .r s79
abbrev s161 : Pth := .l s80
abbrev s162 : Pth := .r s80
abbrev s163 : Pth := .l s81
abbrev s164 : Pth := .r s81
abbrev s165 : Pth := .l s82
abbrev s166 : Pth := .r s82
abbrev s167 : Pth := .l s83
abbrev s168 : Pth := .r s83
abbrev s169 : Pth := .l s84
abbrev s170 : Pth := .r s84
abbrev s171 : Pth := .l s85
abbrev s172 : Pth := .r s85
abbrev s173 : Pth := .l s86
abbrev s174 : Pth := .r s86
abbrev s175 : Pth := .l s87
abbrev s176 : Pth := .r s87
abbrev s177 : Pth := .l s88
abbrev s178 : Pth := .r s88
abbrev s179 : Pth := .l s89
abbrev s180 : Pth := .r s89
abbrev s181 : Pth := .l s90
abbrev s182 : Pth := .r s90
abbrev s183 : Pth := .l s91
abbrev s184 : Pth := .r s91
abbrev s185 : Pth := .l s92
abbrev s186 : Pth := .r s92
abbrev s187 : Pth := .l s93
abbrev s188 : Pth := .r s93
abbrev s189 : Pth := .l s94
abbrev s190 : Pth := .r s94
abbrev s191 : Pth := .l s95
abbrev s192 : Pth := .r s95
abbrev s193 : Pth := .l s96
abbrev s194 : Pth := .r s96
abbrev s195 : Pth := .l s97
abbrev s196 : Pth := .r s97
abbrev s197 : Pth := .l s98
abbrev s198 : Pth := .r s98
abbrev s199 : Pth := .l s99
abbrev s200 : Pth := .r s99
abbrev s201 : Pth := .l s100
abbrev s202 : Pth := .r s100
abbrev s203 : Pth := .l s101
abbrev s204 : Pth := .r s101
abbrev s205 : Pth := .l s102
abbrev s206 : Pth := .r s102
abbrev s207 : Pth := .l s103
abbrev s208 : Pth := .r s103
abbrev s209 : Pth := .l s104
abbrev s210 : Pth := .r s104
abbrev s211 : Pth := .l s105
abbrev s212 : Pth := .r s105
abbrev s213 : Pth := .l s106
abbrev s214 : Pth := .r s106
abbrev s215 : Pth := .l s107
abbrev s216 : Pth := .r s107
abbrev s217 : Pth := .l s108
abbrev s218 : Pth := .r s108
abbrev s219 : Pth := .l s109
abbrev s220 : Pth := .r s109
abbrev s221 : Pth := .l s110
abbrev s222 : Pth := .r s110
abbrev s223 : Pth := .l s111
abbrev s224 : Pth := .r s111
abbrev s225 : Pth := .l s112
abbrev s226 : Pth := .r s112
abbrev s227 : Pth := .l s113
abbrev s228 : Pth := .r s113
abbrev s229 : Pth := .l s114
abbrev s230 : Pth := .r s114
abbrev s231 : Pth := .l s115
abbrev s232 : Pth := .r s115
abbrev s233 : Pth := .l s116
abbrev s234 : Pth := .r s116
abbrev s235 : Pth := .l s117
abbrev s236 : Pth := .r s117
abbrev s237 : Pth := .l s118
abbrev s238 : Pth := .r s118
abbrev s239 : Pth := .l s119
abbrev s240 : Pth := .r s119
abbrev s241 : Pth := .l s120
abbrev s242 : Pth := .r s120
abbrev s243 : Pth := .l s121
abbrev s244 : Pth := .r s121
abbrev s245 : Pth := .l s122
abbrev s246 : Pth := .r s122
abbrev s247 : Pth := .l s123
abbrev s248 : Pth := .r s123
abbrev s249 : Pth := .l s124
/-- Functions that turn no object. -/
def qs : List FuncId := [3, 4, 6, 7, 8, 9, 10, 11, 12, 13, 14, 15, 17, 19, 20, 22, 24, 25, 26, 27, 31, 32, 33, 34, 35, 36, 39, 42, 43, 44, 45, 46, 47, 48, 49, 50, 51, 52, 53, 54, 55, 56, 57, 58, 59, 60, 61, 62, 63, 64, 65, 66, 67, 68, 69, 70, 72, 73, 74, 75, 76, 78, 79, 80, 81, 82, 83, 84, 85, 86, 87, 88, 89, 90, 91, 92, 95, 97, 98, 99, 100, 101, 103, 104, 105, 106, 107, 108, 109, 110, 111, 112, 113, 114, 115, 116, 117, 118, 119, 120, 121, 122, 125, 126, 127, 143, 144]
abbrev i_bowlinelaw13_CutFits : FuncId := 3
abbrev i_bowlinelaw13_CutOne : FuncId := 4
abbrev i_bowlinelaw13_CutBuilds : FuncId := 5
abbrev i_bowlinelaw23_RxwinOnce : FuncId := 6
abbrev i_bowlinelaw23_RxwinFar : FuncId := 7
abbrev i_bowlinelaw23_RxwinLives : FuncId := 8
abbrev i_bowlinelaw11_StatusReads : FuncId := 9
abbrev i_bowlinelaw11_StatusBack : FuncId := 10
abbrev i_bowlinelaw11_StatusGrows : FuncId := 11
abbrev i_bowlinelaw11_StatusWrites : FuncId := 12
abbrev i_bowlinelaw38_BsrLevels : FuncId := 13
abbrev i_queue_New : FuncId := 14
abbrev i_bowlinelaw13_alive : FuncId := 15
abbrev i_queue_Queue_Push : FuncId := 16
abbrev i_queue_Queue_Front : FuncId := 17
abbrev i_cut_Build : FuncId := 18
abbrev i_cut_Bytes : FuncId := 19
abbrev i_queue_Queue_Bytes : FuncId := 20
abbrev i_bowlineref04_Queue_Push : FuncId := 21
abbrev i_cut_Fits : FuncId := 22
abbrev i_bowlineref13_Build : FuncId := 23
abbrev i_bowlinelaw13_Same : FuncId := 24
abbrev i_bowlineref04_Queue_Bytes : FuncId := 25
abbrev i_rxwin_New : FuncId := 26
abbrev i_bowlinelaw23_alive : FuncId := 27
abbrev i_rxwin_Window_Came : FuncId := 28
abbrev i_rxwin_Window_Whole : FuncId := 29
abbrev i_rxwin_Window_Late : FuncId := 30
abbrev i_rxwin_Window_State : FuncId := 31
abbrev i_rxwin_Window_Far : FuncId := 32
abbrev i_rxwin_Window_Is : FuncId := 33
abbrev i_rxwin_Window_Missing : FuncId := 34
abbrev i_rxwin_Window_In : FuncId := 35
abbrev i_bowlineref02_Size : FuncId := 36
abbrev i_bowlineref23_Window_Came : FuncId := 37
abbrev i_bowlineref23_Window_Whole : FuncId := 38
abbrev i_bowlinelaw23_same : FuncId := 39
abbrev i_bowlineref23_Window_Late : FuncId := 40
abbrev i_rxwin_Window_Reset : FuncId := 41
abbrev i_bowlineref23_Window_State : FuncId := 42
abbrev i_bowlineref23_Window_Missing : FuncId := 43
abbrev i_bowlineref23_Window_In : FuncId := 44
abbrev i_bowlineref23_Window_Far : FuncId := 45
abbrev i_bowlineref23_Window_Is : FuncId := 46
abbrev i_bowlinelaw11_alive : FuncId := 47
abbrev i_status_Read : FuncId := 48
abbrev i_bowlineref11_Read : FuncId := 49
abbrev i_bowlineref11_Same : FuncId := 50
abbrev i_bowlinelaw11_As : FuncId := 51
abbrev i_status_Write : FuncId := 52
abbrev i_status_Size : FuncId := 53
abbrev i_status_Right : FuncId := 54
abbrev i_bowlineref11_Right : FuncId := 55
abbrev i_bowlineref11_Size : FuncId := 56
abbrev i_status_Same : FuncId := 57
abbrev i_bowlineref11_Write : FuncId := 58
abbrev i_bowlineref38_Leasts : FuncId := 59
abbrev i_bsr_Least : FuncId := 60
abbrev i_bsr_Level : FuncId := 61
abbrev i_bowlineref38_Level : FuncId := 62
abbrev i_bowlineref38_Right : FuncId := 63
abbrev i_bsr_Of : FuncId := 64
abbrev i_bowlinelaw38_alive : FuncId := 65
abbrev i_bsr_Right : FuncId := 66
abbrev i_bsr_Sum : FuncId := 67
abbrev i_queue_Queue_made : FuncId := 68
abbrev i_slices_Clone_byte_byte : FuncId := 69
abbrev i_cut_ask : FuncId := 70
abbrev i_queue_Queue_Take : FuncId := 71
abbrev i_lens_Size : FuncId := 72
abbrev i_cut_isWidth : FuncId := 73
abbrev i_bowlineref04_Queue_IDs : FuncId := 74
abbrev i_bowlineref04_Queue_Front : FuncId := 75
abbrev i_bowlineref08_Size : FuncId := 76
abbrev i_bowlineref04_Queue_Take : FuncId := 77
abbrev i_bowlineref09_SameFields : FuncId := 78
abbrev i_seqnum_Right : FuncId := 79
abbrev i_seqnum_Space_Size : FuncId := 80
abbrev i_rxwin_Window_ask : FuncId := 81
abbrev i_rxwin_Window_after : FuncId := 82
abbrev i_rxwin_Window_skip : FuncId := 83
abbrev i_rxwin_Window_made : FuncId := 84
abbrev i_seqnum_Space_Far : FuncId := 85
abbrev i_bowlineref23_Window_ask : FuncId := 86
abbrev i_bowlineref23_Window_done : FuncId := 87
abbrev i_bowlineref23_Window_Number : FuncId := 88
abbrev i_bowlineref02_Is : FuncId := 89
abbrev i_bowlineref02_Far : FuncId := 90
abbrev i_status_isWidth : FuncId := 91
abbrev i_bits_Read : FuncId := 92
abbrev i_status_reader_get : FuncId := 93
abbrev i_status_reader_miss : FuncId := 94
abbrev i_status_isMiss : FuncId := 95
abbrev i_bits_Reader_Rest : FuncId := 96
abbrev i_bowlineref01_Bits : FuncId := 97
abbrev i_bowlineref01_Get : FuncId := 98
abbrev i_bowlineref11_miss : FuncId := 99
abbrev i_bowlineref11_IsMiss : FuncId := 100
abbrev i_bits_New : FuncId := 101
abbrev i_bits_Writer_Put : FuncId := 102
abbrev i_status_bit : FuncId := 103
abbrev i_status_offsetWidth : FuncId := 104
abbrev i_bits_Writer_Bytes : FuncId := 105
abbrev i_seqnum_Space_Is : FuncId := 106
abbrev i_status_Miss : FuncId := 107
abbrev i_status_Right_1 : FuncId := 108
abbrev i_status_Miss_109 : FuncId := 109
abbrev i_bowlineref01_Put : FuncId := 110
abbrev i_bowlineref11_places : FuncId := 111
abbrev i_bowlineref11_offset : FuncId := 112
abbrev i_bowlineref01_Bytes : FuncId := 113
abbrev i_bsr_isLevel : FuncId := 114
abbrev i_bsr_Write : FuncId := 115
abbrev i_bsr_Read : FuncId := 116
abbrev i_queue_text : FuncId := 117
abbrev i_lens_isWidth : FuncId := 118
abbrev i_bowlineref04_Queue_first : FuncId := 119
abbrev i_seqnum_Space_Go : FuncId := 120
abbrev i_seqnum_Space_ask : FuncId := 121
abbrev i_bowlineref02_mod : FuncId := 122
abbrev i_bits_Reader_Get : FuncId := 123
abbrev i_bits_Writer_one : FuncId := 124
abbrev i_status_Miss_125 : FuncId := 125
abbrev i_bowlineref01_fits : FuncId := 126
abbrev i_bits_Reader_Left : FuncId := 127
end Go.Proofs.Ytnfdgccmpglbhaa
/-
  The bodies of one package, compiled to the framework's language (printed by a program of this session).
-/
namespace Go.Proofs.Ytnfdgccmpglbhaa
set_option linter.unusedVariables false
set_option linter.unusedSimpArgs false
open Go Go.Am
/- slices.Clone[[]byte,byte] -/
def c69 : Cfg := ⟨qs, [], 8, []⟩
def ir69 : IFun := ⟨1, [.tmp s2],
  (.seq (.reg (.one ⟨some s2, none, (.mv (.c (.slice 1 [] .full)))⟩
    .done))
  (.seq (.seq (.reg (.one ⟨some s3, none, (.mv (.t s0))⟩
    (.one ⟨some s4, none, (.eqNil 0 false (.t s3))⟩
    .done)))
  (.cond (.t s4) (.seq (.reg (.one ⟨some s2, none, (.mv (.c (.slice 1 [] .full)))⟩
    .done))
  .ret) .skip))
  (.seq (.reg (.one ⟨some s5, none, (.row 1 [])⟩
    (.one ⟨some s6, none, (.mv (.t s0))⟩
    (.one ⟨some s7, none, (.app 1 1 (.t s5) (.t s6))⟩
    (.one ⟨some s2, none, (.mv (.t s7))⟩
    .done)))))
  .ret)))⟩
theorem ok69 : compF Try.prog c69 Try.f69 = some ir69 := by kernel_rfl
theorem k_slices_Clone_byte_byte {args : List AVal} {σ : AHeap} {Q : AVal → AHeap → Prop} (hl : Nat.ble args.length 8 = true) (h : argsK (Env.full 9) 0 args fun env => evC Try.prog c69 ir69.body env σ (retQ ir69 Q)) : ACalls Try.prog 69 args σ Q :=
  acalls_of Try.func69 ok69 rfl (Nat.le_of_ble_eq_true hl) h
/- slices.Clone[[]byte,byte] -/
def c69m : Cfg := ⟨qs, [22, 23, 29, 36, 45, 47, 48, 58, 62, 87, 92], 8, []⟩
def ir69m : IFun := ⟨1, [.tmp s2],
  (.seq (.reg (.one ⟨some s2, none, (.mv (.c (.slice 1 [] .full)))⟩
    .done))
  (.seq (.seq (.reg (.one ⟨some s3, none, (.mv (.t s0))⟩
    (.one ⟨some s4, none, (.eqNil 0 false (.t s3))⟩
    .done)))
  (.cond (.t s4) (.seq (.reg (.one ⟨some s2, none, (.mv (.c (.slice 1 [] .full)))⟩
    .done))
  .ret) .skip))
  (.seq (.reg (.one ⟨some s5, none, (.row 1 [])⟩
    (.one ⟨some s6, none, (.mv (.t s0))⟩
    (.one ⟨some s7, none, (.appm 1 1 (.t s5) (.t s6))⟩
    (.one ⟨some s2, none, (.mv (.t s7))⟩
    .done)))))
  .ret)))⟩
theorem ok69m : compF Try.prog c69m Try.f69 = some ir69m := by kernel_rfl
theorem km_slices_Clone_byte_byte {args : List AVal} {σ : AHeap} {Q : AVal → AHeap → Prop} (hl : Nat.ble args.length 8 = true) (h : argsK (Env.full 9) 0 args fun env => evC Try.prog c69m ir69m.body env σ (retQ ir69m Q)) : ACalls Try.prog 69 args σ Q :=
  acalls_of Try.func69 ok69m rfl (Nat.le_of_ble_eq_true hl) h
end Go.Proofs.Ytnfdgccmpglbhaa
/-
  Words and contracts that all packages share.
-/
namespace Go.Proofs.Ytnfdgccmpglbhaa
set_option linter.unusedVariables false
set_option linter.unusedSimpArgs false
open Go Go.Am

abbrev u16v (b : BitVec 16) : AVal := .v (.int .u16 b.toNat)

abbrev i64v (n : Int) : AVal := .v (.int .i64 n)

abbrev boolv (b : Bool) : AVal := .v (.bool b)

abbrev sl (t : Tok) (bs : List UInt8) : AVal := .slice 1 (bs.map byteV) t

abbrev u64v (n : Nat) : AVal := .v (.int .u64 n)
abbrev u8v (n : Nat) : AVal := .v (.int .u8 n)

theorem get_bytes {bs : List UInt8} {i : Nat} (h : i < bs.length) : (bs.map byteV)[((i : Nat) : Int).toNat]? = some (byteV bs[i]) := by
  rw [Int.toNat_natCast, List.getElem?_map, List.getElem?_eq_getElem h]; rfl

theorem Clone (bs : List UInt8) (t : Tok) (σ : AHeap) (hl : bs.length ≤ 140737488355328) : ACalls Try.prog i_slices_Clone_byte_byte [sl t bs] σ fun v σ' => ∃ tk, Owned σ σ' tk ∧ v = sl tk bs := by
  refine k_slices_Clone_byte_byte rfl ?_
  (conv => whnf)
  refine anil ?_ ?_
  · (conv => whnf)
    refine abr_false rfl ?_
    (conv => whnf)
    refine aapp_full (by simp; omega) fun t' ht' => ?_
    (conv => whnf)
    exact aret_same ⟨_, .tip ht', rfl⟩
  · intro h0
    (conv => whnf)
    refine abr_true rfl ?_
    (conv => whnf)
    have : bs = [] := by simpa using h0
    subst this
    exact aret_same ⟨_, .full σ, rfl⟩

theorem byte_ofNat {n : Nat} (h : n < 256) : byteV (UInt8.ofNat n) = .v (.int .u8 n) := by
  unfold byteV; rw [UInt8.toNat_ofNat']; simp [Nat.mod_eq_of_lt h]

theorem sl_app (t : Tok) (a b : List UInt8) : sl t (a ++ b) = .slice 1 (a.map byteV ++ b.map byteV) t := by simp

theorem byteV_ne (a b : UInt8) : ((a.toNat : Int) ≠ (b.toNat : Int)) ↔ a ≠ b := by
  constructor
  · intro h k; exact h (by rw [k])
  · intro h k; exact h (UInt8.toNat_inj.1 (by omega))

theorem VLe.tup_sl {s : Nat} {xs : List AVal} {t : Tok} {ys : List AVal} : VLe (.tup (.slice s xs t :: ys)) (.tup (.slice s xs .none :: ys)) := VLe.tup (VLe.cons (VLe.slice _ _ _) fun _ _ h => h)

theorem VLe.tup_nil {s : Nat} {ys : List AVal} : VLe (.tup (.slice s [] .full :: ys)) (.tup (.slice s [] .none :: ys)) := VLe.tup_sl

theorem bytes_ok (l : List UInt8) : (l.map byteV).all (okElem 1) = true := by
  rw [List.all_eq_true]; intro x hx; obtain ⟨b, _, rfl⟩ := List.mem_map.1 hx; rfl

theorem bytes_flat (l : List UInt8) : (l.map byteV).flatMap AVal.cells = l.map byteV := by
  induction l with
  | nil => rfl
  | cons x l ih => rw [List.map_cons, List.flatMap_cons, ih]; rfl

theorem bytes_one (l : List UInt8) : ∀ x ∈ l.map byteV, x.cells.length = 1 := by
  intro x hx; obtain ⟨b, _, rfl⟩ := List.mem_map.1 hx; rfl

theorem CloneM (bs : List UInt8) (t : Tok) (σ : AHeap) (hl : bs.length ≤ 140737488355328) : ACalls Try.prog i_slices_Clone_byte_byte [sl t bs] σ fun v σ' => (bs = [] ∧ v = sl .full [] ∧ σ' = σ) ∨ (bs ≠ [] ∧ ∃ r, σ r = none ∧ v = .ms r 1 0 bs.length ∧ σ' = upd σ r (.cells (bs.map byteV))) := by
  refine km_slices_Clone_byte_byte rfl ?_
  (conv => whnf)
  refine anil ?_ ?_
  · (conv => whnf)
    refine abr_false rfl ?_
    (conv => whnf)
    by_cases h0 : bs = []
    · subst h0
      refine aappnew_none (by simp) ?_
      (conv => whnf)
      exact aret_same (.inl ⟨rfl, rfl, rfl⟩)
    · refine aappnew (by simpa using h0) (by simp; omega) (bytes_ok bs) fun r hr => ?_
      rw [bytes_flat, List.length_map]
      (conv => whnf)
      exact aret_same (.inr ⟨h0, r, hr, rfl, rfl⟩)
  · intro h0
    (conv => whnf)
    refine abr_true rfl ?_
    (conv => whnf)
    have : bs = [] := by simpa using h0
    subst this
    exact aret_same (.inl ⟨rfl, rfl, rfl⟩)

theorem xor8 (x y : UInt8) : bitsOp .xor .u8 (x.toNat : Int) (y.toNat : Int) = ((x ^^^ y).toNat : Int) := by
  have h1 : BitVec.ofInt 8 (x.toNat : Int) = x.toBitVec := by
    apply BitVec.eq_of_toNat_eq
    have := x.toNat_lt
    simp
  have h2 : BitVec.ofInt 8 (y.toNat : Int) = y.toBitVec := by
    apply BitVec.eq_of_toNat_eq
    have := y.toNat_lt
    simp
  show IntKind.u8.wrap ((BitVec.ofInt 8 (x.toNat : Int) ^^^ BitVec.ofInt 8 (y.toNat : Int)).toNat) = _
  rw [h1, h2]; exact wrap_u8 (by omega) (by have := (x.toBitVec ^^^ y.toBitVec).isLt; omega)

theorem splice_set {F : List UInt8} {p : Nat} {x : UInt8} (h : p < F.length) : splice (F.map byteV) p [byteV x] = (F.set p x).map byteV := by
  unfold splice
  rw [List.set_eq_take_append_cons_drop, if_pos h]
  simp [List.map_take, List.map_drop]

theorem get_bytesD {bs : List UInt8} {i : Nat} (h : i < bs.length) : (bs.map byteV)[i]? = some (byteV (bs[i]?.getD 0)) := by
  rw [List.getElem?_map, List.getElem?_eq_getElem h]; rfl

end Go.Proofs.Ytnfdgccmpglbhaa
/-
  From a start's world to the first abstract state; from a law's contract to what a row asks.
-/
namespace Go.Am
set_option linter.unusedVariables false
set_option linter.unusedSimpArgs false
set_option linter.unusedSectionVars false
open Go.RowKit (Below)
open Go.ChangeShapes Go.WideShapes

def ghost0 (W : World) : Ghost :=
  { base := W.heap.size, w0 := W, cell := fun b o => match W.cell? ⟨b, o, none⟩ with | some v => (bif v.oneCell then some v else none) | none => none, size := fun _ => none, obj := fun _ => none, tok := fun _ => none }
def heap0 : AHeap := fun _ => none

theorem ghost0_cell {W : World} {b o : Nat} {v : Value} : (ghost0 W).cell b o = some v ↔ W.cell? ⟨b, o, none⟩ = some v ∧ v.oneCell = true := by
  unfold ghost0
  simp only
  cases h : W.cell? ⟨b, o, none⟩ with
  | none => simp
  | some u =>
    simp only
    cases h2 : u.oneCell with
    | true =>
      simp only [cond_true, Option.some.injEq]
      constructor
      · rintro rfl; exact ⟨rfl, h2⟩
      · rintro ⟨rfl, _⟩; rfl
    | false =>
      simp only [cond_false, Option.some.injEq]
      constructor
      · intro k; cases k
      · rintro ⟨rfl, k⟩; rw [h2] at k; cases k

theorem inv0 (W : World) : Inv (ghost0 W) heap0 W := by
  refine ⟨Below.refl _ _, Nat.le_refl _, fun b o v e => ghost0_cell.1 e, fun b n e => ?_, fun id b e => ?_, fun i j b hi => ?_, fun id cs e => ?_, fun id es e => ?_, fun t b p e => ?_, ⟨0, fun n _ => ⟨rfl, rfl, rfl⟩⟩⟩
  · cases e
  · cases e
  · exact absurd rfl hi
  · cases e
  · cases e
  · cases e

/-- A law's contract, as a row asks it. -/
theorem law_calls {P : Program} {f : FuncId} {args : List AVal} {cargs : Array Value} {W : World} {Q : AVal → AHeap → Prop} (h : ACalls P f args heap0 Q) (hq : ∀ v σ, Q v σ → v = .v (.bool true)) (hr : RepL (ghost0 W) args cargs.toList) :
    Calls P f cargs W fun e w' => e = .returned (.bool true) ∧ Below W.heap.size W w' := by
  rw [ACalls_def] at h
  have := h (ghost0 W) W cargs.toList (inv0 W) hr
  rw [Array.toArray_toList] at this
  refine this.mono ?_
  rintro e w' ⟨v, κ', σ', x, rfl, h2, h3, h4, h5⟩
  obtain rfl := hq _ _ h5
  obtain ⟨rfl, _⟩ := h4.v_inv
  refine ⟨rfl, ?_⟩
  have := h3.below
  rw [h2.base, h2.w0] at this
  exact this

/-- A slice of bytes among a start's arguments. -/
theorem bytes0 {H : Type} {enc : TypeId × Value → H} {P : Program} {W : World} {r : Reach} {spare : Nat → Bool} {held : Bool} {t e : TypeId} {base b1 : Nat} {v : Value} {d : DataW H} {ps : List MemPlace} {ts : List TypeId} {ds : List (DataW H)} {j : Nat}
    (hsz : (DataW.weightsEach P ts ds).all (· ≤ reachBytes) = true) (ht : ts[j]? = some t) (hd : ds[j]? = some d) (hu : P.underlying t = some (.slice e)) (he : P.underlying e = some (.int .u8)) (hc : P.cellsOf e = 1) (hB : P.bytesOf e = 1)
    (hv : Value.okWide P W r b1 t v) (h : DataW.Trod enc P W base spare held t v d ps) :
    ∃ bs : List UInt8, RepV (ghost0 W) (.slice 1 (bs.map byteV) .none) v ∧ bs.length ≤ 140737488351232 := by
  obtain ⟨a, len, cap, rfl⟩ := okWide_slice hu hv
  obtain ⟨fuel, hf⟩ := h
  rcases open_ints hu he hc hf with ⟨hcs, _⟩ | ⟨x, l, c, zs, hcs, _, hl, _, hz, hx, hcell, hwf⟩
  · simp [Value.cells] at hcs
    obtain ⟨rfl, rfl, rfl⟩ := hcs
    exact ⟨[], .nil, by simp⟩
  · simp [Value.cells] at hcs
    obtain ⟨rfl, rfl, rfl⟩ := hcs
    have hsp : x.spot = none := by
      have := hv
      simp only [Value.okWide, hu, Cell.okWide, Cell.ok] at this
      exact this.2.2.2.1
    obtain ⟨b, off, spot⟩ := x
    simp only at hsp
    subst hsp
    have hl2 : len ≤ zs.length := by rw [hz]; split <;> omega
    have hlen : (zs.take len).length = len := by simp; omega
    have hbyte : ∀ n ∈ zs, ((UInt8.ofNat n.toNat).toNat : Int) = n := by
      intro n hn
      have := hwf n hn
      simp only [Lit.wf, IntKind.min, IntKind.max, IntKind.signed, IntKind.bits] at this
      simp at this
      rw [UInt8.toNat_ofNat']
      omega
    refine ⟨(zs.take len).map fun n => UInt8.ofNat n.toNat, ?_, ?_⟩
    · have hvs : ∀ l : List Int, (∀ n ∈ l, n ∈ zs) → RepL (ghost0 W) (((l.map fun n => UInt8.ofNat n.toNat).map byteV).flatMap AVal.cells) (l.map (Value.int .u8)) := by
        intro l
        induction l with
        | nil => intro _; exact .nil
        | cons n l ih =>
          intro hm
          refine .cons ?_ (ih fun m k => hm m (List.mem_cons_of_mem _ k))
          unfold byteV
          rw [hbyte n (hm n (List.mem_cons_self ..))]
          exact .v rfl
      refine .slice (vs := (zs.take len).map (Value.int .u8)) (by rw [List.length_map, List.length_map]; exact hlen) hl (fun y hy => ?_) (hvs _ fun n hn => List.mem_of_mem_take hn) (fun i v hv => ?_) trivial
      · obtain ⟨n, _, rfl⟩ := List.mem_map.1 hy; rfl
      · rw [List.getElem?_map] at hv
        obtain ⟨n, hn, rfl⟩ := Option.map_eq_some_iff.1 hv
        have hi := (List.getElem?_eq_some_iff.1 hn).1
        have hi2 : i < zs.length := by rw [hlen] at hi; omega
        rw [ghost0_cell]
        refine ⟨?_, rfl⟩
        have := hcell i hi2
        rw [List.getElem?_take] at hn
        split at hn
        · rw [List.getD_eq_getElem?_getD, hn] at this
          simp only [Option.getD_some] at this
          rw [← this]
          congr 1
          unfold Addr.add
          split
          · rename_i h0; subst h0; rfl
          · rfl
        · cases hn
    · rw [List.length_map, hlen]
      obtain ⟨hx, _⟩ := Prod.mk.inj hx
      subst hx
      have z := sized_slice hsz ht hd hu
      rw [hB, Nat.mul_one] at z
      have h1 : (lits (H := H) .u8 (zs.take len)).length + (lits (H := H) .u8 (zs.drop len)).length = zs.length := by
        simp [lits]
        omega
      rw [h1] at z
      exact Nat.le_trans hl2 z
end Go.Am
/-
  What a start's data is read as: slices of anything, structs.
-/
namespace Go.Am
set_option linter.unusedVariables false
set_option linter.unusedSimpArgs false
set_option linter.unusedSectionVars false
open Go.RowKit (Below)
open Go.ChangeShapes Go.WideShapes

section
variable {H : Type} {enc : TypeId × Value → H} {P : Program} {W : World} {base : Nat} {spare : Nat → Bool} {held : Bool}

/-- Data of a type, read as abstract cells. -/
def Reads (enc : TypeId × Value → H) (P : Program) (W : World) (base : Nat) (spare : Nat → Bool) (held : Bool) (t : TypeId) {α : Type} (f : α → List AVal) (good : α → Prop) : Prop :=
  ∀ (n : Nat) (cs : List Value) (y : DataW H × List MemPlace), DataW.trod enc P W base spare held n t cs = some y → (∀ k ∈ y.1.weights P t, k ≤ reachBytes) → ∃ a, RepL (ghost0 W) (f a) cs ∧ (∀ v ∈ cs, v.oneCell = true) ∧ good a

theorem reads_int {t : TypeId} {k : IntKind} (ht : P.underlying t = some (.int k)) : Reads enc P W base spare held t (fun n : Int => [.v (.int k n)]) (fun n => (Lit.int k n).wf = true) := by
  intro n cs y h _
  obtain ⟨m, rfl, rfl, hw⟩ := DataW.trod_int ht h
  exact ⟨m, .cons (.v rfl) .nil, fun v hv => by simp at hv; subst hv; rfl, hw⟩
theorem weights_int {t : TypeId} {k : IntKind} (ht : P.underlying t = some (.int k)) {n : Nat} {cs : List Value} {y : DataW H × List MemPlace} (h : DataW.trod enc P W base spare held n t cs = some y) : y.1.weights P t = [] := by
  cases n with
  | zero => simp [DataW.trod] at h
  | succ n =>
    unfold DataW.trod at h
    rw [ht] at h
    split at h <;> simp_all
    obtain ⟨_, rfl⟩ := h
    simp [DataW.weights]
theorem reads_i64 {t : TypeId} (ht : P.underlying t = some (.int .i64)) : Reads enc P W base spare held t (fun n : Int => [.v (.int .i64 n)]) (fun n => -9223372036854775808 ≤ n ∧ n ≤ 9223372036854775807) := by
  intro n cs y h hw
  obtain ⟨m, h1, h2, h3⟩ := reads_int ht n cs y h hw
  refine ⟨m, h1, h2, ?_⟩
  simp only [Lit.wf, IntKind.min, IntKind.max, IntKind.signed, IntKind.bits] at h3
  simp at h3
  omega
theorem reads_u64 {t : TypeId} (ht : P.underlying t = some (.int .u64)) : Reads enc P W base spare held t (fun n : Nat => [.v (.int .u64 n)]) (fun n => n < 18446744073709551616) := by
  intro n cs y h hw
  obtain ⟨m, h1, h2, h3⟩ := reads_int ht n cs y h hw
  simp only [Lit.wf, IntKind.min, IntKind.max, IntKind.signed, IntKind.bits] at h3
  simp at h3
  refine ⟨m.toNat, ?_, h2, by omega⟩
  dsimp only
  rw [show ((m.toNat : Nat) : Int) = m by omega]; exact h1
theorem reads_u16 {t : TypeId} (ht : P.underlying t = some (.int .u16)) : Reads enc P W base spare held t (fun n : Nat => [.v (.int .u16 n)]) (fun n => n < 65536) := by
  intro n cs y h hw
  obtain ⟨m, h1, h2, h3⟩ := reads_int ht n cs y h hw
  simp only [Lit.wf, IntKind.min, IntKind.max, IntKind.signed, IntKind.bits] at h3
  simp at h3
  refine ⟨m.toNat, ?_, h2, by omega⟩
  dsimp only
  rw [show ((m.toNat : Nat) : Int) = m by omega]; exact h1
theorem reads_u8 {t : TypeId} (ht : P.underlying t = some (.int .u8)) : Reads enc P W base spare held t (fun b : UInt8 => [byteV b]) (fun _ => True) := by
  intro n cs y h hw
  obtain ⟨m, h1, h2, h3⟩ := reads_int ht n cs y h hw
  simp only [Lit.wf, IntKind.min, IntKind.max, IntKind.signed, IntKind.bits] at h3
  simp at h3
  refine ⟨UInt8.ofNat m.toNat, ?_, h2, trivial⟩
  dsimp only [byteV]
  rw [show ((UInt8.ofNat m.toNat).toNat : Int) = m by rw [UInt8.toNat_ofNat']; omega]; exact h1

theorem addr_eq {b off i : Nat} : (⟨b, off, none⟩ : Addr).add i = ⟨b, off + i, none⟩ := by
  unfold Addr.add
  split
  · rename_i h; subst h; rfl
  · rfl

theorem weights_all {H : Type} {P : Program} {e : TypeId} : ∀ {l : List (DataW H)} {d : DataW H}, d ∈ l → ∀ n ∈ d.weights P e, n ∈ DataW.weightsAll P e l
  | a :: l, d, hd, n, hn => by
    unfold DataW.weightsAll
    rcases List.mem_cons.1 hd with rfl | h
    · exact List.mem_append_left _ hn
    · exact List.mem_append_right _ (weights_all h n hn)
/-- The elements of a slice. -/
theorem reads_elems {e : TypeId} {α : Type} {f : α → List AVal} {good : α → Prop} {s b off : Nat} (hc : P.cellsOf e = s) (re : Reads enc P W base spare held e f good) {n : Nat} {elems : List (DataW H × List MemPlace)} (hwt : ∀ x ∈ elems, ∀ k ∈ x.1.weights P e, k ≤ reachBytes) :
    ∀ (m : Nat), m ≤ elems.length → (∀ i, i < elems.length → (W.cells? base ((⟨b, off, none⟩ : Addr).add (i * P.cellsOf e)) (P.cellsOf e)).bind (DataW.trod enc P W base spare held n e) = elems[i]?) →
      ∃ (l : List α) (vs : List Value), l.length = m ∧ vs.length = m * s ∧ RepL (ghost0 W) (l.flatMap f) vs ∧ (∀ i v, vs[i]? = some v → W.cell? ⟨b, off + i, none⟩ = some v ∧ v.oneCell = true) ∧ ∀ a ∈ l, good a
  | 0, _, _ => ⟨[], [], rfl, by simp, .nil, fun i v h => by simp at h, fun a h => by simp at h⟩
  | m + 1, hm, h => by
    obtain ⟨l, vs, h1, h2, h3, h4, h5⟩ := reads_elems hc re hwt m (by omega) h
    have hb := h m (by omega)
    rw [List.getElem?_eq_getElem (by omega), Option.bind_eq_some_iff] at hb
    obtain ⟨cs, g1, g2⟩ := hb
    obtain ⟨a, r, c, k⟩ := re _ _ _ g2 (hwt _ (List.getElem_mem _))
    obtain ⟨_, q1, q2⟩ := World.cells?_some g1
    rw [hc] at q1 q2
    refine ⟨l ++ [a], vs ++ cs, by simp [h1], by rw [List.length_append, h2, q1, Nat.succ_mul], ?_, ?_, ?_⟩
    · rw [List.flatMap_append, List.flatMap_cons, List.flatMap_nil, List.append_nil]; exact h3.append r
    · intro i v hv
      by_cases hi : i < vs.length
      · rw [List.getElem?_append_left hi] at hv; exact h4 i v hv
      · rw [List.getElem?_append_right (by omega)] at hv
        have hlt := (List.getElem?_eq_some_iff.1 hv).1
        have := q2 (i - vs.length) (by omega)
        rw [addr_eq, addr_eq, hv] at this
        rw [show off + m * s + (i - vs.length) = off + i by rw [h2]; rw [h2] at hi; omega] at this
        exact ⟨this, c v (List.mem_of_getElem? hv)⟩
    · intro x hx
      rcases List.mem_append.1 hx with h | h
      · exact h5 x h
      · simp at h; subst h; exact k

/-- A slice among a start's arguments. -/
theorem slices0 {t e : TypeId} {α : Type} {f : α → AVal} {good : α → Prop} {s B b1 j : Nat} {r : Reach} {v : Value} {d : DataW H} {ps : List MemPlace} {ts : List TypeId} {ds : List (DataW H)}
    (hsz : (DataW.weightsEach P ts ds).all (· ≤ reachBytes) = true) (ht : ts[j]? = some t) (hd : ds[j]? = some d) (hu : P.underlying t = some (.slice e)) (hc : P.cellsOf e = s) (hB : P.bytesOf e = B) (hs : ∀ a, (f a).cells.length = s)
    (re : Reads enc P W base spare held e (fun a => (f a).cells) good) (hv : Value.okWide P W r b1 t v) (h : DataW.Trod enc P W base spare held t v d ps) :
    ∃ l : List α, RepV (ghost0 W) (.slice s (l.map f) .none) v ∧ l.length * B ≤ reachBytes ∧ ∀ a ∈ l, good a := by
  obtain ⟨a, len, cap, rfl⟩ := okWide_slice hu hv
  obtain ⟨fuel, hf⟩ := h
  rcases DataW.trod_slice hu hf with ⟨hcs, _⟩ | ⟨x, l, c, elems, rest, n, _, hcs, hx, _, hl, hm, hlen, hel, _, _⟩
  · simp [Value.cells] at hcs
    obtain ⟨rfl, rfl, rfl⟩ := hcs
    exact ⟨[], .nil, by simp, fun a h => by simp at h⟩
  · simp [Value.cells] at hcs
    obtain ⟨rfl, rfl, rfl⟩ := hcs
    have hsp : x.spot = none := by
      have := hv
      simp only [Value.okWide, hu, Cell.okWide, Cell.ok] at this
      exact this.2.2.2.1
    obtain ⟨b, off, spot⟩ := x
    simp only at hsp
    subst hsp
    subst hlen
    obtain ⟨hx, _⟩ := Prod.mk.inj hx
    have hwt : ∀ y ∈ elems, ∀ k ∈ y.1.weights P e, k ≤ reachBytes := fun y hy k hk => by
      have := List.all_eq_true.1 hsz _ (DataW.weights_mem_each ht hd k (by rw [hx]; simp only [DataW.weights, hu]; exact List.mem_cons_of_mem _ (List.mem_append_left _ (weights_all (List.mem_map.2 ⟨y, hy, rfl⟩) k hk))))
      simpa using this
    obtain ⟨xs, vs, g1, g2, g3, g4, g5⟩ := reads_elems hc re hwt elems.length (Nat.le_refl _) hel
    refine ⟨xs, ?_, ?_, g5⟩
    · refine .slice (vs := vs) (by rw [List.length_map]; exact g1) hl (fun y hy => ?_) ?_ (fun i v hv => ?_) trivial
      · obtain ⟨a, _, rfl⟩ := List.mem_map.1 hy; exact hs a
      · rw [List.flatMap_map]; exact g3
      · rw [ghost0_cell]; exact g4 i v hv
    · subst hx
      have z := sized_slice hsz ht hd hu
      rw [hB, List.length_map, List.length_map] at z
      rw [g1]
      exact Nat.le_trans (Nat.mul_le_mul_right _ (by omega)) z

theorem reads_bool {t : TypeId} (ht : P.underlying t = some .bool) : Reads enc P W base spare held t (fun b : Bool => [.v (.bool b)]) (fun _ => True) := by
  intro n cs y h _
  have : ∃ b, cs = [.bool b] := by
    cases n with
    | zero => simp [DataW.trod] at h
    | succ n =>
      unfold DataW.trod at h
      rw [ht] at h
      split at h <;> simp_all
  obtain ⟨b, rfl⟩ := this
  exact ⟨b, .cons (.v rfl) .nil, fun v hv => by simp at hv; subst hv; rfl, trivial⟩

theorem spot_none {b : Addr} {e : TypeId} {s n : Nat} {y : DataW H × List MemPlace} (hs : P.cellsOf e = s) (h0 : 0 < s) (h : (W.cells? base (b.add 0) (P.cellsOf e)).bind (DataW.trod enc P W base spare held n e) = some y) : b.spot = none := by
  rw [Option.bind_eq_some_iff] at h
  obtain ⟨cs, g1, _⟩ := h
  obtain ⟨_, q1, q2⟩ := World.cells?_some g1
  have := q2 0 (by omega)
  rw [List.getElem?_eq_getElem (by omega)] at this
  have e : ((b.add 0).add 0) = b := rfl
  rw [e] at this
  unfold World.cell? at this
  split at this
  · split at this
    · cases this
    · rename_i hsp; simpa using hsp
  · cases this

/-- A slice that stands in a cell. -/
theorem reads_slice {t e : TypeId} {α : Type} {f : α → AVal} {good : α → Prop} {s B : Nat} (hsp : ∀ b, spare b = true) (hu : P.underlying t = some (.slice e)) (hc : P.cellsOf e = s) (hB : P.bytesOf e = B) (h0 : 0 < s) (hs : ∀ a, (f a).cells.length = s)
    (re : Reads enc P W base spare held e (fun a => (f a).cells) good) : Reads enc P W base spare held t (fun l : List α => [.slice s (l.map f) .none]) (fun l => l.length * B ≤ reachBytes ∧ ∀ a ∈ l, good a) := by
  intro m cs y h hw
  rcases DataW.trod_slice hu h with ⟨rfl, _⟩ | ⟨x, len, cap, elems, rest, n, _, rfl, hx, _, hl, hm, hlen, hel, hre, _⟩
  · exact ⟨[], .cons .nil .nil, fun v hv => by simp at hv; subst hv; rfl, by simp, fun a h => by simp at h⟩
  · by_cases hcap : cap = 0
    · have : len = 0 := by omega
      subst this; subst hcap
      exact ⟨[], .cons .nil .nil, fun v hv => by simp at hv; subst hv; rfl, by simp, fun a h => by simp at h⟩
    · have hspot : x.spot = none := by
        by_cases h1 : len = 0
        · obtain ⟨r1, r2⟩ := hre (hsp _)
          have := r2 0 (by omega)
          rw [h1, Nat.zero_add, Nat.zero_mul, List.getElem?_eq_getElem (by omega)] at this
          exact spot_none hc h0 this
        · have := hel 0 (by omega)
          rw [Nat.zero_mul, List.getElem?_eq_getElem (by omega)] at this
          exact spot_none hc h0 this
      obtain ⟨b, off, spot⟩ := x
      simp only at hspot
      subst hspot
      subst hlen
      have hwt : ∀ y ∈ elems, ∀ k ∈ y.1.weights P e, k ≤ reachBytes := fun y hy k hk => by
        refine hw k ?_
        rw [hx]; simp only [DataW.weights, hu]
        exact List.mem_cons_of_mem _ (List.mem_append_left _ (weights_all (List.mem_map.2 ⟨y, hy, rfl⟩) k hk))
      have hz : (elems.length + rest.length) * P.bytesOf e ≤ reachBytes := by
        refine hw _ ?_
        rw [hx]; simp only [DataW.weights, hu, List.length_map]
        exact List.mem_cons_self ..
      obtain ⟨xs, vs, g1, g2, g3, g4, g5⟩ := reads_elems hc re hwt elems.length (Nat.le_refl _) hel
      refine ⟨xs, .cons ?_ .nil, fun v hv => by simp at hv; subst hv; rfl, by rw [g1, ← hB]; exact Nat.le_trans (Nat.mul_le_mul_right _ (by omega)) hz, g5⟩
      refine .slice (vs := vs) (by rw [List.length_map]; exact g1) hl (fun y hy => ?_) ?_ (fun i v hv => ?_) trivial
      · obtain ⟨a, _, rfl⟩ := List.mem_map.1 hy; exact hs a
      · rw [List.flatMap_map]; exact g3
      · rw [ghost0_cell]; exact g4 i v hv

/-- An array of numbers. -/
theorem reads_array_i64 {t e : TypeId} {n : Nat} (ht : P.underlying t = some (.array n e)) (he : P.underlying e = some (.int .i64)) (hc : P.cellsOf e = 1) (hs : P.cellsOf t = n) :
    Reads enc P W base spare held t (fun l : List Int => l.map fun z => .v (.int .i64 z)) (fun l => l.length = n ∧ ∀ z ∈ l, -9223372036854775808 ≤ z ∧ z ≤ 9223372036854775807) := by
  intro fuel cs y h _
  obtain ⟨xs, m, _, _, hl, hlen, hx⟩ := DataW.trod_array ht h
  rw [hs] at hl
  have key : ∀ k, k ≤ n → ∃ l : List Int, l.length = k ∧ RepL (ghost0 W) (l.map fun z => .v (.int .i64 z)) (cs.take k) ∧ (∀ v ∈ cs.take k, v.oneCell = true) ∧ ∀ z ∈ l, -9223372036854775808 ≤ z ∧ z ≤ 9223372036854775807 := by
    intro k
    induction k with
    | zero => intro _; exact ⟨[], rfl, .nil, by simp, by simp⟩
    | succ k ih =>
      intro hk
      obtain ⟨l, h1, h2, h3, h4⟩ := ih (by omega)
      have hy := hx k (by omega)
      rw [List.getElem?_eq_getElem (by omega), hc, Nat.mul_one] at hy
      obtain ⟨z, r, c, g⟩ := reads_i64 he _ _ _ hy (fun k hk => by rw [weights_int he hy] at hk; cases hk)
      have e : cs.take (k + 1) = cs.take k ++ (cs.drop k).take 1 := List.take_add
      refine ⟨l ++ [z], by simp [h1], ?_, ?_, ?_⟩
      · rw [e, List.map_append]; exact h2.append r
      · intro v hv
        rw [e] at hv
        rcases List.mem_append.1 hv with h | h
        · exact h3 v h
        · exact c v h
      · intro u hu
        rcases List.mem_append.1 hu with h | h
        · exact h4 u h
        · simp at h; subst h; exact g
  obtain ⟨l, h1, h2, h3, h4⟩ := key n (Nat.le_refl _)
  rw [List.take_of_length_le (by omega)] at h2 h3
  exact ⟨l, h2, h3, h1, h4⟩
/-- An array, or a struct, among a start's arguments. -/
theorem aggs0 {t : TypeId} {α : Type} {f : α → List AVal} {good : α → Prop} {b1 j : Nat} {r : Reach} {v : Value} {d : DataW H} {ps : List MemPlace} {ts : List TypeId} {ds : List (DataW H)}
    (hsz : (DataW.weightsEach P ts ds).all (· ≤ reachBytes) = true) (ht : ts[j]? = some t) (hd : ds[j]? = some d) (hu : (∃ n e, P.underlying t = some (.array n e)) ∨ ∃ fs, P.underlying t = some (.struct fs))
    (re : Reads enc P W base spare held t f good) (hv : Value.okWide P W r b1 t v) (h : DataW.Trod enc P W base spare held t v d ps) : ∃ a, RepV (ghost0 W) (.agg (f a)) v ∧ good a := by
  have : ∃ cs, v = .agg cs := by
    rcases hu with ⟨n, e, hu⟩ | ⟨fs, hu⟩ <;> simp only [Value.okWide, hu] at hv <;> obtain ⟨cs, rfl, _⟩ := hv <;> exact ⟨cs, rfl⟩
  obtain ⟨cs, rfl⟩ := this
  obtain ⟨fuel, hf⟩ := h
  obtain ⟨a, h1, _, h3⟩ := re _ _ _ hf (fun k hk => by simpa using List.all_eq_true.1 hsz _ (DataW.weights_mem_each ht hd k hk))
  refine ⟨a, ?_, h3⟩
  have := RepV.agg h1
  simpa [Value.cells] using this
/-- The fields of a struct, from a place on. -/
def ReadsFs (enc : TypeId × Value → H) (P : Program) (W : World) (base : Nat) (spare : Nat → Bool) (held : Bool) (L : Nat) (fs : List Field) (off : Nat) {α : Type} (f : α → List AVal) (good : α → Prop) : Prop :=
  ∀ (n : Nat) (cs : List Value) (xs : List (DataW H × List MemPlace)), cs.length = L → xs.length = fs.length → (∀ (i : Nat) (fd : Field), fs[i]? = some fd → DataW.trod enc P W base spare held n fd.type ((cs.drop fd.offset).take (P.cellsOf fd.type)) = xs[i]?) →
    (∀ (i : Nat) (fd : Field) x, fs[i]? = some fd → xs[i]? = some x → ∀ k ∈ x.1.weights P fd.type, k ≤ reachBytes) → ∃ a, RepL (ghost0 W) (f a) (cs.drop off) ∧ (∀ v ∈ cs.drop off, v.oneCell = true) ∧ good a
theorem readsFs_last {L off : Nat} {fd : Field} {α : Type} {f : α → List AVal} {good : α → Prop} (h0 : fd.offset = off) (h1 : L = off + P.cellsOf fd.type) (r : Reads enc P W base spare held fd.type f good) : ReadsFs enc P W base spare held L [fd] off f good := by
  intro n cs xs hl hx h hw
  match xs, hx with
  | [y], _ =>
  have g := h 0 fd rfl
  rw [h0, List.take_of_length_le (by rw [List.length_drop]; omega)] at g
  exact r n _ y (by simpa using g) (hw 0 fd y rfl rfl)
theorem readsFs_cons {L off off2 : Nat} {fd : Field} {fs : List Field} {α β : Type} {f : α → List AVal} {g : β → List AVal} {ga : α → Prop} {gb : β → Prop} (h0 : fd.offset = off) (h1 : off2 = off + P.cellsOf fd.type)
    (r : Reads enc P W base spare held fd.type f ga) (rs : ReadsFs enc P W base spare held L fs off2 g gb) : ReadsFs enc P W base spare held L (fd :: fs) off (fun p : α × β => f p.1 ++ g p.2) (fun p => ga p.1 ∧ gb p.2) := by
  intro n cs xs hl hx h hw
  match xs, hx with
  | y :: ys, hx =>
  have k := h 0 fd rfl
  rw [h0] at k
  obtain ⟨a, r1, c1, g1⟩ := r n _ y (by simpa using k) (hw 0 fd y rfl rfl)
  obtain ⟨b, r2, c2, g2⟩ := rs n cs ys hl (by simpa using hx) (fun i e he => by simpa using h (i + 1) e he) (fun i e x he hx => hw (i + 1) e x (by simpa using he) (by simpa using hx))
  have e : cs.drop off = (cs.drop off).take (P.cellsOf fd.type) ++ cs.drop off2 := by
    rw [h1, ← List.drop_drop, List.take_append_drop]
  refine ⟨(a, b), ?_, ?_, g1, g2⟩
  · rw [e]; exact r1.append r2
  · intro v hv
    rw [e] at hv
    rcases List.mem_append.1 hv with h | h
    · exact c1 v h
    · exact c2 v h
theorem reads_struct {t : TypeId} {fs : Array Field} {L : Nat} {α : Type} {f : α → List AVal} {good : α → Prop} (ht : P.underlying t = some (.struct fs)) (hl : P.cellsOf t = L) (r : ReadsFs enc P W base spare held L fs.toList 0 f good) : Reads enc P W base spare held t f good := by
  intro n cs y h hw
  obtain ⟨xs, m, _, rfl, hc, hlen, hf⟩ := DataW.trod_struct ht h
  obtain ⟨a, h1, h2, h3⟩ := r m cs xs (by omega) (by simpa using hlen) (fun i fd hfd => hf i fd (by simpa using hfd)) (fun i fd x hfd hx k hk => by
    refine hw k ?_
    simp only [DataW.weights, ht]
    exact DataW.weights_mem_each (j := i) (t := fd.type) (d := x.1) (by rw [List.getElem?_map, hfd]; rfl) (by rw [List.getElem?_map, hx]; rfl) k hk)
  exact ⟨a, h1, h2, h3⟩
end
end Go.Am
/-
  The bodies of one package, compiled to the framework's language (printed by a program of this session).
-/
namespace Go.Proofs.Ytnfdgccmpglbhaa
set_option linter.unusedVariables false
set_option linter.unusedSimpArgs false
open Go Go.Am
/- seqnum.Right -/
def c79 : Cfg := ⟨qs, [], 16, []⟩
def ir79 : IFun := ⟨1, [.tmp s2],
  (.seq (.reg (.one ⟨some s1, none, (.box 1 (.t s0))⟩
    (.one ⟨some s2, none, (.mv (.c (.v (.bool false))))⟩
    .done)))
  (.seq (.reg (.one ⟨some s3, none, (.load (some 1) (.t s1))⟩
    (.one ⟨some s4, none, (.build [(.v (.int .i64 0))] [])⟩
    (.one ⟨some s5, none, (.eqAgg true [false] (.t s3) (.t s4))⟩
    (.one ⟨some s6, none, (.mv (.t s5))⟩
    (.one ⟨some s7, some (s6, true), (.faddr 0 (.t s1))⟩
    (.one ⟨some s8, some (s6, true), (.load none (.t s7))⟩
    (.one ⟨some s9, some (s6, true), (.bin false .geq (.t s8) (.c (.v (.int .i64 1))))⟩
    (.one ⟨some s10, none, (.pick (.t s6) (.t s9) (.c (.v (.bool false))))⟩
    (.one ⟨some s11, none, (.mv (.t s10))⟩
    (.one ⟨some s12, some (s11, true), (.faddr 0 (.t s1))⟩
    (.one ⟨some s13, some (s11, true), (.load none (.t s12))⟩
    (.one ⟨some s14, some (s11, true), (.bin false .leq (.t s13) (.c (.v (.int .i64 16))))⟩
    (.one ⟨some s15, none, (.pick (.t s11) (.t s14) (.c (.v (.bool false))))⟩
    (.one ⟨some s2, none, (.mv (.t s15))⟩
    .done)))))))))))))))
  .ret))⟩
theorem ok79 : compF Try.prog c79 Try.f79 = some ir79 := by kernel_rfl
theorem k_seqnum_Right {args : List AVal} {σ : AHeap} {Q : AVal → AHeap → Prop} (hl : Nat.ble args.length 16 = true) (h : argsK (Env.full 9) 0 args fun env => evC Try.prog c79 ir79.body env σ (retQ ir79 Q)) : ACalls Try.prog 79 args σ Q :=
  acalls_of Try.func79 ok79 rfl (Nat.le_of_ble_eq_true hl) h
/- seqnum.Space).Size -/
def c80 : Cfg := ⟨qs, [], 9, []⟩
def ir80 : IFun := ⟨1, [.tmp s2],
  (.seq (.reg (.one ⟨some s1, none, (.box 1 (.t s0))⟩
    (.one ⟨some s2, none, (.mv (.c (.v (.int .i64 0))))⟩
    .done)))
  (.seq (.seq (.reg (.one ⟨some s3, none, (.load (some 1) (.t s1))⟩
    (.one ⟨some s4, none, (.callq 79 [(.t s3)])⟩
    (.one ⟨some s5, none, (.not (.t s4))⟩
    .done))))
  (.cond (.t s5) (.seq (.reg (.one ⟨some s2, none, (.mv (.c (.v (.int .i64 0))))⟩
    .done))
  .ret) .skip))
  (.seq (.reg (.one ⟨some s6, none, (.faddr 0 (.t s1))⟩
    (.one ⟨some s7, none, (.load none (.t s6))⟩
    (.one ⟨some s8, none, (.bin false .shl (.c (.v (.int .i64 1))) (.t s7))⟩
    (.one ⟨some s2, none, (.mv (.t s8))⟩
    .done)))))
  .ret)))⟩
theorem ok80 : compF Try.prog c80 Try.f80 = some ir80 := by kernel_rfl
theorem k_seqnum_Space_Size {args : List AVal} {σ : AHeap} {Q : AVal → AHeap → Prop} (hl : Nat.ble args.length 9 = true) (h : argsK (Env.full 9) 0 args fun env => evC Try.prog c80 ir80.body env σ (retQ ir80 Q)) : ACalls Try.prog 80 args σ Q :=
  acalls_of Try.func80 ok80 rfl (Nat.le_of_ble_eq_true hl) h
/- seqnum.Space).Far -/
def c85 : Cfg := ⟨qs, [], 24, []⟩
def ir85 : IFun := ⟨3, [.tmp s6, .tmp s7],
  (.seq (.reg (.one ⟨some s3, none, (.box 1 (.t s0))⟩
    (.one ⟨some s6, none, (.mv (.c (.v (.int .i64 0))))⟩
    (.one ⟨some s7, none, (.mv (.c (.v (.int .i64 0))))⟩
    .done))))
  (.seq (.seq (.reg (.one ⟨some s9, none, (.load (some 1) (.t s3))⟩
    (.one ⟨some s10, none, (.mv (.t s1))⟩
    (.one ⟨some s11, none, (.mv (.t s2))⟩
    (.one ⟨some s12, none, (.row 1 [(.t s10), (.t s11)])⟩
    (.one ⟨some s13, none, (.callq 121 [(.t s9), (.t s12)])⟩
    (.one ⟨some s8, none, (.mv (.t s13))⟩
    .done)))))))
  (.seq (.reg (.one ⟨some s14, none, (.mv (.t s8))⟩
    (.one ⟨some s15, none, (.bin false .neq (.t s14) (.c (.v (.int .i64 0))))⟩
    .done)))
  (.cond (.t s15) (.seq (.reg (.one ⟨some s16, none, (.mv (.t s8))⟩
    (.one ⟨some s6, none, (.mv (.c (.v (.int .i64 0))))⟩
    (.one ⟨some s7, none, (.mv (.t s16))⟩
    .done))))
  .ret) .skip)))
  (.seq (.reg (.one ⟨some s17, none, (.mv (.t s2))⟩
    (.one ⟨some s18, none, (.mv (.t s1))⟩
    (.one ⟨some s19, none, (.bin false .sub (.t s17) (.t s18))⟩
    (.one ⟨some s20, none, (.load (some 1) (.t s3))⟩
    (.one ⟨some s21, none, (.callq 80 [(.t s20)])⟩
    (.one ⟨some s22, none, (.bin false .sub (.t s21) (.c (.v (.int .i64 1))))⟩
    (.one ⟨some s23, none, (.bin false .and (.t s19) (.t s22))⟩
    (.one ⟨some s6, none, (.mv (.t s23))⟩
    (.one ⟨some s7, none, (.mv (.c (.v (.int .i64 0))))⟩
    .done))))))))))
  .ret)))⟩
theorem ok85 : compF Try.prog c85 Try.f85 = some ir85 := by kernel_rfl
theorem k_seqnum_Space_Far {args : List AVal} {σ : AHeap} {Q : AVal → AHeap → Prop} (hl : Nat.ble args.length 24 = true) (h : argsK (Env.full 9) 0 args fun env => evC Try.prog c85 ir85.body env σ (retQ ir85 Q)) : ACalls Try.prog 85 args σ Q :=
  acalls_of Try.func85 ok85 rfl (Nat.le_of_ble_eq_true hl) h
/- seqnum.Space).Is -/
def c106 : Cfg := ⟨qs, [], 13, []⟩
def ir106 : IFun := ⟨2, [.tmp s4],
  (.seq (.reg (.one ⟨some s2, none, (.box 1 (.t s0))⟩
    (.one ⟨some s4, none, (.mv (.c (.v (.bool false))))⟩
    .done)))
  (.seq (.reg (.one ⟨some s5, none, (.mv (.t s1))⟩
    (.one ⟨some s6, none, (.bin false .geq (.t s5) (.c (.v (.int .i64 0))))⟩
    (.one ⟨some s7, none, (.mv (.t s6))⟩
    (.one ⟨some s8, some (s7, true), (.mv (.t s1))⟩
    (.one ⟨some s9, some (s7, true), (.load (some 1) (.t s2))⟩
    (.one ⟨some s10, some (s7, true), (.callq 80 [(.t s9)])⟩
    (.one ⟨some s11, some (s7, true), (.bin false .lss (.t s8) (.t s10))⟩
    (.one ⟨some s12, none, (.pick (.t s7) (.t s11) (.c (.v (.bool false))))⟩
    (.one ⟨some s4, none, (.mv (.t s12))⟩
    .done))))))))))
  .ret))⟩
theorem ok106 : compF Try.prog c106 Try.f106 = some ir106 := by kernel_rfl
theorem k_seqnum_Space_Is {args : List AVal} {σ : AHeap} {Q : AVal → AHeap → Prop} (hl : Nat.ble args.length 13 = true) (h : argsK (Env.full 9) 0 args fun env => evC Try.prog c106 ir106.body env σ (retQ ir106 Q)) : ACalls Try.prog 106 args σ Q :=
  acalls_of Try.func106 ok106 rfl (Nat.le_of_ble_eq_true hl) h
/- seqnum.Space).Go -/
def c120 : Cfg := ⟨qs, [], 30, []⟩
def ir120 : IFun := ⟨3, [.tmp s6, .tmp s7],
  (.seq (.reg (.one ⟨some s3, none, (.box 1 (.t s0))⟩
    (.one ⟨some s6, none, (.mv (.c (.v (.int .i64 0))))⟩
    (.one ⟨some s7, none, (.mv (.c (.v (.int .i64 0))))⟩
    .done))))
  (.seq (.seq (.reg (.one ⟨some s9, none, (.load (some 1) (.t s3))⟩
    (.one ⟨some s10, none, (.mv (.t s1))⟩
    (.one ⟨some s11, none, (.row 1 [(.t s10)])⟩
    (.one ⟨some s12, none, (.callq 121 [(.t s9), (.t s11)])⟩
    (.one ⟨some s8, none, (.mv (.t s12))⟩
    .done))))))
  (.seq (.reg (.one ⟨some s13, none, (.mv (.t s8))⟩
    (.one ⟨some s14, none, (.bin false .neq (.t s13) (.c (.v (.int .i64 0))))⟩
    .done)))
  (.cond (.t s14) (.seq (.reg (.one ⟨some s15, none, (.mv (.t s8))⟩
    (.one ⟨some s6, none, (.mv (.c (.v (.int .i64 0))))⟩
    (.one ⟨some s7, none, (.mv (.t s15))⟩
    .done))))
  .ret) .skip)))
  (.seq (.seq (.reg (.one ⟨some s16, none, (.mv (.t s2))⟩
    (.one ⟨some s17, none, (.bin false .lss (.t s16) (.c (.v (.int .i64 (-65536)))))⟩
    (.one ⟨some s18, none, (.mv (.t s17))⟩
    (.one ⟨some s19, some (s18, false), (.mv (.t s2))⟩
    (.one ⟨some s20, some (s18, false), (.bin false .gtr (.t s19) (.c (.v (.int .i64 65536))))⟩
    (.one ⟨some s21, none, (.pick (.t s18) (.c (.v (.bool true))) (.t s20))⟩
    .done)))))))
  (.cond (.t s21) (.seq (.reg (.one ⟨some s6, none, (.mv (.c (.v (.int .i64 0))))⟩
    (.one ⟨some s7, none, (.mv (.c (.v (.int .i64 1))))⟩
    .done)))
  .ret) .skip))
  (.seq (.reg (.one ⟨some s22, none, (.mv (.t s1))⟩
    (.one ⟨some s23, none, (.mv (.t s2))⟩
    (.one ⟨some s24, none, (.bin false .add (.t s22) (.t s23))⟩
    (.one ⟨some s25, none, (.bin false .add (.t s24) (.c (.v (.int .i64 65536))))⟩
    (.one ⟨some s26, none, (.load (some 1) (.t s3))⟩
    (.one ⟨some s27, none, (.callq 80 [(.t s26)])⟩
    (.one ⟨some s28, none, (.bin false .sub (.t s27) (.c (.v (.int .i64 1))))⟩
    (.one ⟨some s29, none, (.bin false .and (.t s25) (.t s28))⟩
    (.one ⟨some s6, none, (.mv (.t s29))⟩
    (.one ⟨some s7, none, (.mv (.c (.v (.int .i64 0))))⟩
    .done)))))))))))
  .ret))))⟩
theorem ok120 : compF Try.prog c120 Try.f120 = some ir120 := by kernel_rfl
theorem k_seqnum_Space_Go {args : List AVal} {σ : AHeap} {Q : AVal → AHeap → Prop} (hl : Nat.ble args.length 30 = true) (h : argsK (Env.full 9) 0 args fun env => evC Try.prog c120 ir120.body env σ (retQ ir120 Q)) : ACalls Try.prog 120 args σ Q :=
  acalls_of Try.func120 ok120 rfl (Nat.le_of_ble_eq_true hl) h
/- seqnum.Space).ask -/
def c121 : Cfg := ⟨qs, [], 22, []⟩
def ir121 : IFun := ⟨2, [.tmp s4],
  (.seq (.reg (.one ⟨some s2, none, (.box 1 (.t s0))⟩
    (.one ⟨some s4, none, (.mv (.c (.v (.int .i64 0))))⟩
    .done)))
  (.scope (.seq (.seq (.reg (.one ⟨some s6, none, (.load (some 1) (.t s2))⟩
    (.one ⟨some s7, none, (.callq 79 [(.t s6)])⟩
    (.one ⟨some s8, none, (.not (.t s7))⟩
    .done))))
  (.cond (.t s8) (.seq (.reg (.one ⟨some s4, none, (.mv (.c (.v (.int .i64 3))))⟩
    .done))
  .ret) .skip))
  (.seq (.reg (.one ⟨some s5, none, (.mv (.c (.v (.int .i64 0))))⟩
    .done))
  (.seq (.label 0)
  (.seq (.seq (.reg (.one ⟨some s9, none, (.mv (.t s5))⟩
    (.one ⟨some s10, none, (.mv (.t s1))⟩
    (.one ⟨some s11, none, (.len false (.t s10))⟩
    (.one ⟨some s12, none, (.bin false .lss (.t s9) (.t s11))⟩
    .done)))))
  (.cond (.t s12) (.seq (.seq (.reg (.one ⟨some s13, none, (.load (some 1) (.t s2))⟩
    (.one ⟨some s14, none, (.mv (.t s1))⟩
    (.one ⟨some s15, none, (.mv (.t s5))⟩
    (.one ⟨some s16, none, (.iaddr 1 (.t s14) (.t s15))⟩
    (.one ⟨some s17, none, (.load none (.t s16))⟩
    (.one ⟨some s18, none, (.callq 106 [(.t s13), (.t s17)])⟩
    (.one ⟨some s19, none, (.not (.t s18))⟩
    .done))))))))
  (.cond (.t s19) (.seq (.reg (.one ⟨some s4, none, (.mv (.c (.v (.int .i64 1))))⟩
    .done))
  .ret) .skip))
  (.seq (.reg (.one ⟨some s20, none, (.mv (.t s5))⟩
    (.one ⟨some s21, none, (.bin false .add (.t s20) (.c (.v (.int .i64 1))))⟩
    (.one ⟨some s5, none, (.mv (.t s21))⟩
    .done))))
  (.goto 0))) .skip))
  (.seq (.reg (.one ⟨some s4, none, (.mv (.c (.v (.int .i64 0))))⟩
    .done))
  .ret)))))))⟩
theorem ok121 : compF Try.prog c121 Try.f121 = some ir121 := by kernel_rfl
theorem k_seqnum_Space_ask {args : List AVal} {σ : AHeap} {Q : AVal → AHeap → Prop} (hl : Nat.ble args.length 22 = true) (h : argsK (Env.full 9) 0 args fun env => evC Try.prog c121 ir121.body env σ (retQ ir121 Q)) : ACalls Try.prog 121 args σ Q :=
  acalls_of Try.func121 ok121 rfl (Nat.le_of_ble_eq_true hl) h
end Go.Proofs.Ytnfdgccmpglbhaa
/-
  The bodies of one package, compiled to the framework's language (printed by a program of this session).
-/
namespace Go.Proofs.Ytnfdgccmpglbhaa
set_option linter.unusedVariables false
set_option linter.unusedSimpArgs false
open Go Go.Am
/- bowlineref02.Size -/
def c36 : Cfg := ⟨qs, [], 19, []⟩
def ir36 : IFun := ⟨1, [.tmp s2],
  (.seq (.reg (.one ⟨some s2, none, (.mv (.c (.v (.int .i64 0))))⟩
    .done))
  (.seq (.seq (.reg (.one ⟨some s5, none, (.mv (.t s0))⟩
    (.one ⟨some s6, none, (.bin false .lss (.t s5) (.c (.v (.int .i64 1))))⟩
    (.one ⟨some s7, none, (.mv (.t s6))⟩
    (.one ⟨some s8, some (s7, false), (.mv (.t s0))⟩
    (.one ⟨some s9, some (s7, false), (.bin false .gtr (.t s8) (.c (.v (.int .i64 16))))⟩
    (.one ⟨some s10, none, (.pick (.t s7) (.c (.v (.bool true))) (.t s9))⟩
    .done)))))))
  (.cond (.t s10) (.seq (.reg (.one ⟨some s2, none, (.mv (.c (.v (.int .i64 0))))⟩
    .done))
  .ret) .skip))
  (.seq (.reg (.one ⟨some s3, none, (.mv (.c (.v (.int .i64 1))))⟩
    .done))
  (.seq (.seq (.reg (.one ⟨some s4, none, (.mv (.c (.v (.int .i64 0))))⟩
    .done))
  (.block 0 (.loop (.seq (.seq (.reg (.one ⟨some s11, none, (.mv (.t s4))⟩
    (.one ⟨some s12, none, (.mv (.t s0))⟩
    (.one ⟨some s13, none, (.bin false .lss (.t s11) (.t s12))⟩
    .done))))
  (.cond (.t s13) .skip (.exit 0)))
  (.seq (.block 1 (.reg (.one ⟨some s16, none, (.mv (.t s3))⟩
    (.one ⟨some s17, none, (.bin false .mul (.c (.v (.int .i64 2))) (.t s16))⟩
    (.one ⟨some s3, none, (.mv (.t s17))⟩
    .done)))))
  (.reg (.one ⟨some s14, none, (.mv (.t s4))⟩
    (.one ⟨some s15, none, (.bin false .add (.t s14) (.c (.v (.int .i64 1))))⟩
    (.one ⟨some s4, none, (.mv (.t s15))⟩
    .done)))))))))
  (.seq (.reg (.one ⟨some s18, none, (.mv (.t s3))⟩
    (.one ⟨some s2, none, (.mv (.t s18))⟩
    .done)))
  .ret)))))⟩
theorem ok36 : compF Try.prog c36 Try.f36 = some ir36 := by kernel_rfl
theorem k_bowlineref02_Size {args : List AVal} {σ : AHeap} {Q : AVal → AHeap → Prop} (hl : Nat.ble args.length 19 = true) (h : argsK (Env.full 9) 0 args fun env => evC Try.prog c36 ir36.body env σ (retQ ir36 Q)) : ACalls Try.prog 36 args σ Q :=
  acalls_of Try.func36 ok36 rfl (Nat.le_of_ble_eq_true hl) h
/- bowlineref02.Is -/
def c89 : Cfg := ⟨qs, [], 13, []⟩
def ir89 : IFun := ⟨2, [.tmp s4],
  (.seq (.reg (.one ⟨some s4, none, (.mv (.c (.v (.bool false))))⟩
    .done))
  (.seq (.reg (.one ⟨some s5, none, (.mv (.t s1))⟩
    (.one ⟨some s6, none, (.bin false .geq (.t s5) (.c (.v (.int .i64 0))))⟩
    (.one ⟨some s7, none, (.mv (.t s6))⟩
    (.one ⟨some s8, some (s7, true), (.mv (.t s1))⟩
    (.one ⟨some s9, some (s7, true), (.mv (.t s0))⟩
    (.one ⟨some s10, some (s7, true), (.callq 36 [(.t s9)])⟩
    (.one ⟨some s11, some (s7, true), (.bin false .lss (.t s8) (.t s10))⟩
    (.one ⟨some s12, none, (.pick (.t s7) (.t s11) (.c (.v (.bool false))))⟩
    (.one ⟨some s4, none, (.mv (.t s12))⟩
    .done))))))))))
  .ret))⟩
theorem ok89 : compF Try.prog c89 Try.f89 = some ir89 := by kernel_rfl
theorem k_bowlineref02_Is {args : List AVal} {σ : AHeap} {Q : AVal → AHeap → Prop} (hl : Nat.ble args.length 13 = true) (h : argsK (Env.full 9) 0 args fun env => evC Try.prog c89 ir89.body env σ (retQ ir89 Q)) : ACalls Try.prog 89 args σ Q :=
  acalls_of Try.func89 ok89 rfl (Nat.le_of_ble_eq_true hl) h
/- bowlineref02.Far -/
def c90 : Cfg := ⟨qs, [], 27, []⟩
def ir90 : IFun := ⟨3, [.tmp s6, .tmp s7],
  (.seq (.reg (.one ⟨some s6, none, (.mv (.c (.v (.int .i64 0))))⟩
    (.one ⟨some s7, none, (.mv (.c (.v (.int .i64 0))))⟩
    .done)))
  (.seq (.seq (.reg (.one ⟨some s8, none, (.mv (.t s0))⟩
    (.one ⟨some s9, none, (.callq 36 [(.t s8)])⟩
    (.one ⟨some s10, none, (.bin false .eql (.t s9) (.c (.v (.int .i64 0))))⟩
    .done))))
  (.cond (.t s10) (.seq (.reg (.one ⟨some s6, none, (.mv (.c (.v (.int .i64 0))))⟩
    (.one ⟨some s7, none, (.mv (.c (.v (.int .i64 3))))⟩
    .done)))
  .ret) .skip))
  (.seq (.seq (.reg (.one ⟨some s11, none, (.mv (.t s0))⟩
    (.one ⟨some s12, none, (.mv (.t s1))⟩
    (.one ⟨some s13, none, (.callq 89 [(.t s11), (.t s12)])⟩
    (.one ⟨some s14, none, (.not (.t s13))⟩
    (.one ⟨some s15, none, (.mv (.t s14))⟩
    (.one ⟨some s16, some (s15, false), (.mv (.t s0))⟩
    (.one ⟨some s17, some (s15, false), (.mv (.t s2))⟩
    (.one ⟨some s18, some (s15, false), (.callq 89 [(.t s16), (.t s17)])⟩
    (.one ⟨some s19, some (s15, false), (.not (.t s18))⟩
    (.one ⟨some s20, none, (.pick (.t s15) (.c (.v (.bool true))) (.t s19))⟩
    .done)))))))))))
  (.cond (.t s20) (.seq (.reg (.one ⟨some s6, none, (.mv (.c (.v (.int .i64 0))))⟩
    (.one ⟨some s7, none, (.mv (.c (.v (.int .i64 1))))⟩
    .done)))
  .ret) .skip))
  (.seq (.reg (.one ⟨some s21, none, (.mv (.t s2))⟩
    (.one ⟨some s22, none, (.mv (.t s1))⟩
    (.one ⟨some s23, none, (.bin false .sub (.t s21) (.t s22))⟩
    (.one ⟨some s24, none, (.mv (.t s0))⟩
    (.one ⟨some s25, none, (.callq 36 [(.t s24)])⟩
    (.one ⟨some s26, none, (.callq 122 [(.t s23), (.t s25)])⟩
    (.one ⟨some s6, none, (.mv (.t s26))⟩
    (.one ⟨some s7, none, (.mv (.c (.v (.int .i64 0))))⟩
    .done)))))))))
  .ret))))⟩
theorem ok90 : compF Try.prog c90 Try.f90 = some ir90 := by kernel_rfl
theorem k_bowlineref02_Far {args : List AVal} {σ : AHeap} {Q : AVal → AHeap → Prop} (hl : Nat.ble args.length 27 = true) (h : argsK (Env.full 9) 0 args fun env => evC Try.prog c90 ir90.body env σ (retQ ir90 Q)) : ACalls Try.prog 90 args σ Q :=
  acalls_of Try.func90 ok90 rfl (Nat.le_of_ble_eq_true hl) h
/- bowlineref02.mod -/
def c122 : Cfg := ⟨qs, [], 14, []⟩
def ir122 : IFun := ⟨2, [.tmp s4],
  (.seq (.reg (.one ⟨some s4, none, (.mv (.c (.v (.int .i64 0))))⟩
    .done))
  (.seq (.reg (.one ⟨some s5, none, (.mv (.t s0))⟩
    (.one ⟨some s6, none, (.mv (.t s1))⟩
    (.one ⟨some s7, none, (.bin false .rem (.t s5) (.t s6))⟩
    (.one ⟨some s0, none, (.mv (.t s7))⟩
    .done)))))
  (.seq (.seq (.reg (.one ⟨some s8, none, (.mv (.t s0))⟩
    (.one ⟨some s9, none, (.bin false .lss (.t s8) (.c (.v (.int .i64 0))))⟩
    .done)))
  (.cond (.t s9) (.reg (.one ⟨some s10, none, (.mv (.t s0))⟩
    (.one ⟨some s11, none, (.mv (.t s1))⟩
    (.one ⟨some s12, none, (.bin false .add (.t s10) (.t s11))⟩
    (.one ⟨some s0, none, (.mv (.t s12))⟩
    .done))))) .skip))
  (.seq (.reg (.one ⟨some s13, none, (.mv (.t s0))⟩
    (.one ⟨some s4, none, (.mv (.t s13))⟩
    .done)))
  .ret))))⟩
theorem ok122 : compF Try.prog c122 Try.f122 = some ir122 := by kernel_rfl
theorem k_bowlineref02_mod {args : List AVal} {σ : AHeap} {Q : AVal → AHeap → Prop} (hl : Nat.ble args.length 14 = true) (h : argsK (Env.full 9) 0 args fun env => evC Try.prog c122 ir122.body env σ (retQ ir122 Q)) : ACalls Try.prog 122 args σ Q :=
  acalls_of Try.func122 ok122 rfl (Nat.le_of_ble_eq_true hl) h
end Go.Proofs.Ytnfdgccmpglbhaa
/-
  Numbers that (repeat ((first | refine aload (by (repeat (first | with_reducible exact upd_same _ _ _ | assumption | rw [upd_ne _ _ (by first | assumption | (apply Ne.symm; assumption))]))) rfl ?_ | refine afit_i64 (by omega) ?_ | refine arem_nonneg (by omega) (by omega) ?_ | refine adiv_i64 (by omega) (by omega) ?_ | refine abr_yes (by omega) ?_ | refine abr_no (by omega) ?_ | refine amin ?_ | refine amax ?_ | refine afit_u64 (by omega) ?_ | refine afit_u8 (by omega) ?_ | rw [List.length_map]); ((conv => whnf); (repeat ((first | with_reducible refine abr_true rfl ?_ | with_reducible refine abr_false rfl ?_ | with_reducible refine abr_yes rfl ?_ | refine abr_yes (by decide) ?_ | refine abr_no (by decide) ?_ | with_reducible refine abr_same_ne ?_); (conv => whnf)))))) round: which they are.
-/
namespace Go.Proofs.Ytnfdgccmpglbhaa
set_option linter.unusedVariables false
set_option linter.unusedSimpArgs false
open Go Go.Am

def spaceOk (w : Int) : Prop := 1 ≤ w ∧ w ≤ 16
instance (w : Int) : Decidable (spaceOk w) := by unfold spaceOk; infer_instance
def spaceSize (w : Int) : Int := if spaceOk w then ((2 ^ w.toNat : Nat) : Int) else 0
def isNum (w n : Int) : Bool := decide (0 ≤ n ∧ n < spaceSize w)
theorem spaceSize_le (w : Int) : 0 ≤ spaceSize w ∧ spaceSize w ≤ 65536 := by
  unfold spaceSize
  split
  · rename_i h
    have h1 : 2 ^ w.toNat ≤ 2 ^ 16 := Nat.pow_le_pow_right (by omega) (by unfold spaceOk at h; omega)
    generalize 2 ^ w.toNat = q at *
    omega
  · omega
theorem shl1_nat {w : Nat} (h : w ≤ 62) : IntKind.i64.wrap ((1 : Int) * 2 ^ (min ((w : Nat) : Int).toNat IntKind.i64.bits)) = ((2 ^ w : Nat) : Int) := by
  have h1 : 2 ^ w ≤ 2 ^ 62 := Nat.pow_le_pow_right (by omega) h
  rw [Int.toNat_natCast, Nat.min_eq_left (show w ≤ IntKind.i64.bits by show w ≤ 64; omega), Int.one_mul]
  have e : (2 : Int) ^ w = ((2 ^ w : Nat) : Int) := by simp
  rw [e]
  generalize 2 ^ w = q at *
  exact wrap_i64 (by omega) (by omega)

theorem sqRight (w : Int) (σ : AHeap) : ACalls Try.prog i_seqnum_Right [.agg [i64v w]] σ fun v σ' => v = boolv (decide (spaceOk w)) ∧ σ' = σ := by
  refine k_seqnum_Right rfl ?_
  ((conv => whnf); (repeat ((first | with_reducible refine abr_true rfl ?_ | with_reducible refine abr_false rfl ?_ | with_reducible refine abr_yes rfl ?_ | refine abr_yes (by decide) ?_ | refine abr_no (by decide) ?_ | with_reducible refine abr_same_ne ?_); (conv => whnf))))
  refine anew rfl fun id hid => ?_
  ((conv => whnf); (repeat ((first | with_reducible refine abr_true rfl ?_ | with_reducible refine abr_false rfl ?_ | with_reducible refine abr_yes rfl ?_ | refine abr_yes (by decide) ?_ | refine abr_no (by decide) ?_ | with_reducible refine abr_same_ne ?_); (conv => whnf))))
  refine aloads (l := [i64v w]) (upd_same _ _ _) (by exact Nat.le_refl 1) rfl ?_
  ((conv => whnf); (repeat ((first | with_reducible refine abr_true rfl ?_ | with_reducible refine abr_false rfl ?_ | with_reducible refine abr_yes rfl ?_ | refine abr_yes (by decide) ?_ | refine abr_no (by decide) ?_ | with_reducible refine abr_same_ne ?_); (conv => whnf))))
  have hs : Sub (upd σ id (.cells (AVal.agg [i64v w]).cells)) σ := Sub.upd_fresh _ hid
  by_cases h0 : w = 0
  · subst h0
    ((conv => whnf); (repeat ((first | with_reducible refine abr_true rfl ?_ | with_reducible refine abr_false rfl ?_ | with_reducible refine abr_yes rfl ?_ | refine abr_yes (by decide) ?_ | refine abr_no (by decide) ?_ | with_reducible refine abr_same_ne ?_); (conv => whnf))))
    exact aret (VLe.refl _) hs ⟨rfl, rfl⟩
  · refine abr_true (by rw [decide_eq_false h0]; rfl) ?_
    ((conv => whnf); (repeat ((first | with_reducible refine abr_true rfl ?_ | with_reducible refine abr_false rfl ?_ | with_reducible refine abr_yes rfl ?_ | refine abr_yes (by decide) ?_ | refine abr_no (by decide) ?_ | with_reducible refine abr_same_ne ?_); (conv => whnf))))
    (repeat ((first | refine aload (by (repeat (first | with_reducible exact upd_same _ _ _ | assumption | rw [upd_ne _ _ (by first | assumption | (apply Ne.symm; assumption))]))) rfl ?_ | refine afit_i64 (by omega) ?_ | refine arem_nonneg (by omega) (by omega) ?_ | refine adiv_i64 (by omega) (by omega) ?_ | refine abr_yes (by omega) ?_ | refine abr_no (by omega) ?_ | refine amin ?_ | refine amax ?_ | refine afit_u64 (by omega) ?_ | refine afit_u8 (by omega) ?_ | rw [List.length_map]); ((conv => whnf); (repeat ((first | with_reducible refine abr_true rfl ?_ | with_reducible refine abr_false rfl ?_ | with_reducible refine abr_yes rfl ?_ | refine abr_yes (by decide) ?_ | refine abr_no (by decide) ?_ | with_reducible refine abr_same_ne ?_); (conv => whnf))))))
    by_cases h1 : 1 ≤ w
    · (repeat ((first | refine aload (by (repeat (first | with_reducible exact upd_same _ _ _ | assumption | rw [upd_ne _ _ (by first | assumption | (apply Ne.symm; assumption))]))) rfl ?_ | refine afit_i64 (by omega) ?_ | refine arem_nonneg (by omega) (by omega) ?_ | refine adiv_i64 (by omega) (by omega) ?_ | refine abr_yes (by omega) ?_ | refine abr_no (by omega) ?_ | refine amin ?_ | refine amax ?_ | refine afit_u64 (by omega) ?_ | refine afit_u8 (by omega) ?_ | rw [List.length_map]); ((conv => whnf); (repeat ((first | with_reducible refine abr_true rfl ?_ | with_reducible refine abr_false rfl ?_ | with_reducible refine abr_yes rfl ?_ | refine abr_yes (by decide) ?_ | refine abr_no (by decide) ?_ | with_reducible refine abr_same_ne ?_); (conv => whnf))))))
      exact aret (VLe.refl _) hs ⟨congrArg boolv (dec_congr ⟨fun h => ⟨h1, h⟩, fun h => h.2⟩), rfl⟩
    · (repeat ((first | refine aload (by (repeat (first | with_reducible exact upd_same _ _ _ | assumption | rw [upd_ne _ _ (by first | assumption | (apply Ne.symm; assumption))]))) rfl ?_ | refine afit_i64 (by omega) ?_ | refine arem_nonneg (by omega) (by omega) ?_ | refine adiv_i64 (by omega) (by omega) ?_ | refine abr_yes (by omega) ?_ | refine abr_no (by omega) ?_ | refine amin ?_ | refine amax ?_ | refine afit_u64 (by omega) ?_ | refine afit_u8 (by omega) ?_ | rw [List.length_map]); ((conv => whnf); (repeat ((first | with_reducible refine abr_true rfl ?_ | with_reducible refine abr_false rfl ?_ | with_reducible refine abr_yes rfl ?_ | refine abr_yes (by decide) ?_ | refine abr_no (by decide) ?_ | with_reducible refine abr_same_ne ?_); (conv => whnf))))))
      exact aret (VLe.refl _) hs ⟨congrArg boolv (decide_eq_false fun h => h1 h.1).symm, rfl⟩

theorem sqSize (w : Int) (σ : AHeap) : ACalls Try.prog i_seqnum_Space_Size [.agg [i64v w]] σ fun v σ' => v = i64v (spaceSize w) ∧ σ' = σ := by
  refine k_seqnum_Space_Size rfl ?_
  ((conv => whnf); (repeat ((first | with_reducible refine abr_true rfl ?_ | with_reducible refine abr_false rfl ?_ | with_reducible refine abr_yes rfl ?_ | refine abr_yes (by decide) ?_ | refine abr_no (by decide) ?_ | with_reducible refine abr_same_ne ?_); (conv => whnf))))
  refine anew rfl fun id hid => ?_
  ((conv => whnf); (repeat ((first | with_reducible refine abr_true rfl ?_ | with_reducible refine abr_false rfl ?_ | with_reducible refine abr_yes rfl ?_ | refine abr_yes (by decide) ?_ | refine abr_no (by decide) ?_ | with_reducible refine abr_same_ne ?_); (conv => whnf))))
  refine aloads (l := [i64v w]) (upd_same _ _ _) (by exact Nat.le_refl 1) rfl ?_
  ((conv => whnf); (repeat ((first | with_reducible refine abr_true rfl ?_ | with_reducible refine abr_false rfl ?_ | with_reducible refine abr_yes rfl ?_ | refine abr_yes (by decide) ?_ | refine abr_no (by decide) ?_ | with_reducible refine abr_same_ne ?_); (conv => whnf))))
  have hs : Sub (upd σ id (.cells (AVal.agg [i64v w]).cells)) σ := Sub.upd_fresh _ hid
  refine acall (sqRight w _) ?_
  rintro _ σ_ ⟨rfl, e_⟩
  obtain rfl := e_.symm
  refine ⟨?_, Ext.refl _⟩
  ((conv => whnf); (repeat ((first | with_reducible refine abr_true rfl ?_ | with_reducible refine abr_false rfl ?_ | with_reducible refine abr_yes rfl ?_ | refine abr_yes (by decide) ?_ | refine abr_no (by decide) ?_ | with_reducible refine abr_same_ne ?_); (conv => whnf))))
  by_cases h : spaceOk w
  · obtain ⟨k, rfl⟩ : ∃ k : Nat, w = k := ⟨w.toNat, by unfold spaceOk at h; omega⟩
    refine abr_false (by rw [decide_eq_true h]; rfl) ?_
    ((conv => whnf); (repeat ((first | with_reducible refine abr_true rfl ?_ | with_reducible refine abr_false rfl ?_ | with_reducible refine abr_yes rfl ?_ | refine abr_yes (by decide) ?_ | refine abr_no (by decide) ?_ | with_reducible refine abr_same_ne ?_); (conv => whnf))))
    (repeat ((first | refine aload (by (repeat (first | with_reducible exact upd_same _ _ _ | assumption | rw [upd_ne _ _ (by first | assumption | (apply Ne.symm; assumption))]))) rfl ?_ | refine afit_i64 (by omega) ?_ | refine arem_nonneg (by omega) (by omega) ?_ | refine adiv_i64 (by omega) (by omega) ?_ | refine abr_yes (by omega) ?_ | refine abr_no (by omega) ?_ | refine amin ?_ | refine amax ?_ | refine afit_u64 (by omega) ?_ | refine afit_u8 (by omega) ?_ | rw [List.length_map]); ((conv => whnf); (repeat ((first | with_reducible refine abr_true rfl ?_ | with_reducible refine abr_false rfl ?_ | with_reducible refine abr_yes rfl ?_ | refine abr_yes (by decide) ?_ | refine abr_no (by decide) ?_ | with_reducible refine abr_same_ne ?_); (conv => whnf))))))
    refine ashl_eq (by omega) (shl1_nat (by unfold spaceOk at h; omega)) ?_
    ((conv => whnf); (repeat ((first | with_reducible refine abr_true rfl ?_ | with_reducible refine abr_false rfl ?_ | with_reducible refine abr_yes rfl ?_ | refine abr_yes (by decide) ?_ | refine abr_no (by decide) ?_ | with_reducible refine abr_same_ne ?_); (conv => whnf))))
    exact aret (VLe.refl _) hs ⟨by unfold spaceSize; rw [if_pos h, Int.toNat_natCast], rfl⟩
  · refine abr_true (by rw [decide_eq_false h]; rfl) ?_
    ((conv => whnf); (repeat ((first | with_reducible refine abr_true rfl ?_ | with_reducible refine abr_false rfl ?_ | with_reducible refine abr_yes rfl ?_ | refine abr_yes (by decide) ?_ | refine abr_no (by decide) ?_ | with_reducible refine abr_same_ne ?_); (conv => whnf))))
    exact aret (VLe.refl _) hs ⟨by unfold spaceSize; rw [if_neg h], rfl⟩

theorem sqIs (w n : Int) (σ : AHeap) : ACalls Try.prog i_seqnum_Space_Is [.agg [i64v w], i64v n] σ fun v σ' => v = boolv (isNum w n) ∧ σ' = σ := by
  refine k_seqnum_Space_Is rfl ?_
  ((conv => whnf); (repeat ((first | with_reducible refine abr_true rfl ?_ | with_reducible refine abr_false rfl ?_ | with_reducible refine abr_yes rfl ?_ | refine abr_yes (by decide) ?_ | refine abr_no (by decide) ?_ | with_reducible refine abr_same_ne ?_); (conv => whnf))))
  refine anew rfl fun id hid => ?_
  have hs : Sub (upd σ id (.cells (AVal.agg [i64v w]).cells)) σ := Sub.upd_fresh _ hid
  ((conv => whnf); (repeat ((first | with_reducible refine abr_true rfl ?_ | with_reducible refine abr_false rfl ?_ | with_reducible refine abr_yes rfl ?_ | refine abr_yes (by decide) ?_ | refine abr_no (by decide) ?_ | with_reducible refine abr_same_ne ?_); (conv => whnf))))
  by_cases h : 0 ≤ n
  · (repeat ((first | refine aload (by (repeat (first | with_reducible exact upd_same _ _ _ | assumption | rw [upd_ne _ _ (by first | assumption | (apply Ne.symm; assumption))]))) rfl ?_ | refine afit_i64 (by omega) ?_ | refine arem_nonneg (by omega) (by omega) ?_ | refine adiv_i64 (by omega) (by omega) ?_ | refine abr_yes (by omega) ?_ | refine abr_no (by omega) ?_ | refine amin ?_ | refine amax ?_ | refine afit_u64 (by omega) ?_ | refine afit_u8 (by omega) ?_ | rw [List.length_map]); ((conv => whnf); (repeat ((first | with_reducible refine abr_true rfl ?_ | with_reducible refine abr_false rfl ?_ | with_reducible refine abr_yes rfl ?_ | refine abr_yes (by decide) ?_ | refine abr_no (by decide) ?_ | with_reducible refine abr_same_ne ?_); (conv => whnf))))))
    refine aloads (l := [i64v w]) (upd_same _ _ _) (by exact Nat.le_refl 1) rfl ?_
    ((conv => whnf); (repeat ((first | with_reducible refine abr_true rfl ?_ | with_reducible refine abr_false rfl ?_ | with_reducible refine abr_yes rfl ?_ | refine abr_yes (by decide) ?_ | refine abr_no (by decide) ?_ | with_reducible refine abr_same_ne ?_); (conv => whnf))))
    refine acall (sqSize w _) ?_
    rintro _ σ_ ⟨rfl, e_⟩
    obtain rfl := e_.symm
    refine ⟨?_, Ext.refl _⟩
    ((conv => whnf); (repeat ((first | with_reducible refine abr_true rfl ?_ | with_reducible refine abr_false rfl ?_ | with_reducible refine abr_yes rfl ?_ | refine abr_yes (by decide) ?_ | refine abr_no (by decide) ?_ | with_reducible refine abr_same_ne ?_); (conv => whnf))))
    exact aret (VLe.refl _) hs ⟨congrArg boolv (dec_congr ⟨fun h2 => ⟨h, h2⟩, fun h2 => h2.2⟩), rfl⟩
  · (repeat ((first | refine aload (by (repeat (first | with_reducible exact upd_same _ _ _ | assumption | rw [upd_ne _ _ (by first | assumption | (apply Ne.symm; assumption))]))) rfl ?_ | refine afit_i64 (by omega) ?_ | refine arem_nonneg (by omega) (by omega) ?_ | refine adiv_i64 (by omega) (by omega) ?_ | refine abr_yes (by omega) ?_ | refine abr_no (by omega) ?_ | refine amin ?_ | refine amax ?_ | refine afit_u64 (by omega) ?_ | refine afit_u8 (by omega) ?_ | rw [List.length_map]); ((conv => whnf); (repeat ((first | with_reducible refine abr_true rfl ?_ | with_reducible refine abr_false rfl ?_ | with_reducible refine abr_yes rfl ?_ | refine abr_yes (by decide) ?_ | refine abr_no (by decide) ?_ | with_reducible refine abr_same_ne ?_); (conv => whnf))))))
    exact aret (VLe.refl _) hs ⟨congrArg boolv (decide_eq_false fun h2 => h h2.1).symm, rfl⟩

theorem refSize02 (w : Int) (σ : AHeap) : ACalls Try.prog i_bowlineref02_Size [i64v w] σ fun v σ' => v = i64v (spaceSize w) ∧ σ' = σ := by
  refine k_bowlineref02_Size rfl ?_
  ((conv => whnf); (repeat ((first | with_reducible refine abr_true rfl ?_ | with_reducible refine abr_false rfl ?_ | with_reducible refine abr_yes rfl ?_ | refine abr_yes (by decide) ?_ | refine abr_no (by decide) ?_ | with_reducible refine abr_same_ne ?_); (conv => whnf))))
  by_cases h1 : w < 1
  · (repeat ((first | refine aload (by (repeat (first | with_reducible exact upd_same _ _ _ | assumption | rw [upd_ne _ _ (by first | assumption | (apply Ne.symm; assumption))]))) rfl ?_ | refine afit_i64 (by omega) ?_ | refine arem_nonneg (by omega) (by omega) ?_ | refine adiv_i64 (by omega) (by omega) ?_ | refine abr_yes (by omega) ?_ | refine abr_no (by omega) ?_ | refine amin ?_ | refine amax ?_ | refine afit_u64 (by omega) ?_ | refine afit_u8 (by omega) ?_ | rw [List.length_map]); ((conv => whnf); (repeat ((first | with_reducible refine abr_true rfl ?_ | with_reducible refine abr_false rfl ?_ | with_reducible refine abr_yes rfl ?_ | refine abr_yes (by decide) ?_ | refine abr_no (by decide) ?_ | with_reducible refine abr_same_ne ?_); (conv => whnf))))))
    exact aret_same ⟨by unfold spaceSize; rw [if_neg (fun h => by unfold spaceOk at h; omega)], rfl⟩
  · by_cases h2 : w > 16
    · (repeat ((first | refine aload (by (repeat (first | with_reducible exact upd_same _ _ _ | assumption | rw [upd_ne _ _ (by first | assumption | (apply Ne.symm; assumption))]))) rfl ?_ | refine afit_i64 (by omega) ?_ | refine arem_nonneg (by omega) (by omega) ?_ | refine adiv_i64 (by omega) (by omega) ?_ | refine abr_yes (by omega) ?_ | refine abr_no (by omega) ?_ | refine amin ?_ | refine amax ?_ | refine afit_u64 (by omega) ?_ | refine afit_u8 (by omega) ?_ | rw [List.length_map]); ((conv => whnf); (repeat ((first | with_reducible refine abr_true rfl ?_ | with_reducible refine abr_false rfl ?_ | with_reducible refine abr_yes rfl ?_ | refine abr_yes (by decide) ?_ | refine abr_no (by decide) ?_ | with_reducible refine abr_same_ne ?_); (conv => whnf))))))
      exact aret_same ⟨by unfold spaceSize; rw [if_neg (fun h => by unfold spaceOk at h; omega)], rfl⟩
    · obtain ⟨k, rfl⟩ : ∃ k : Nat, w = k := ⟨w.toNat, by omega⟩
      (repeat ((first | refine aload (by (repeat (first | with_reducible exact upd_same _ _ _ | assumption | rw [upd_ne _ _ (by first | assumption | (apply Ne.symm; assumption))]))) rfl ?_ | refine afit_i64 (by omega) ?_ | refine arem_nonneg (by omega) (by omega) ?_ | refine adiv_i64 (by omega) (by omega) ?_ | refine abr_yes (by omega) ?_ | refine abr_no (by omega) ?_ | refine amin ?_ | refine amax ?_ | refine afit_u64 (by omega) ?_ | refine afit_u8 (by omega) ?_ | rw [List.length_map]); ((conv => whnf); (repeat ((first | with_reducible refine abr_true rfl ?_ | with_reducible refine abr_false rfl ?_ | with_reducible refine abr_yes rfl ?_ | refine abr_yes (by decide) ?_ | refine abr_no (by decide) ?_ | with_reducible refine abr_same_ne ?_); (conv => whnf))))))
      refine aloop (α := Nat) (fun i => [(s3, i64v ((2 ^ i : Nat) : Int)), (s4, i64v i)]) (fun _ => σ) (fun i => i ≤ k) (fun i => k - i) 0 (Nat.zero_le _) (Sub.refl _) ?_ ?_
      · ((conv => whnf); (repeat ((first | with_reducible refine abr_true rfl ?_ | with_reducible refine abr_false rfl ?_ | with_reducible refine abr_yes rfl ?_ | refine abr_yes (by decide) ?_ | refine abr_no (by decide) ?_ | with_reducible refine abr_same_ne ?_); (conv => whnf))))
        (repeat' first | with_reducible exact EnvLe.refl _ | (refine EnvLe.node ?_ (by first | exact Or.inl rfl | exact Or.inr (Or.inl rfl) | exact Or.inr (Or.inr ⟨nofun, VLe.slice _ _ _⟩)) ?_))
      intro i hi
      have hp : 2 ^ i ≤ 2 ^ 16 := Nat.pow_le_pow_right (by omega) (by omega)
      have hsucc : 2 ^ (i + 1) = 2 * 2 ^ i := by rw [Nat.pow_succ, Nat.mul_comm]
      by_cases h : i < k
      · generalize hq : 2 ^ i = q at *
        ((conv => whnf); (repeat ((first | with_reducible refine abr_true rfl ?_ | with_reducible refine abr_false rfl ?_ | with_reducible refine abr_yes rfl ?_ | refine abr_yes (by decide) ?_ | refine abr_no (by decide) ?_ | with_reducible refine abr_same_ne ?_); (conv => whnf))))
        (repeat ((first | refine aload (by (repeat (first | with_reducible exact upd_same _ _ _ | assumption | rw [upd_ne _ _ (by first | assumption | (apply Ne.symm; assumption))]))) rfl ?_ | refine afit_i64 (by omega) ?_ | refine arem_nonneg (by omega) (by omega) ?_ | refine adiv_i64 (by omega) (by omega) ?_ | refine abr_yes (by omega) ?_ | refine abr_no (by omega) ?_ | refine amin ?_ | refine amax ?_ | refine afit_u64 (by omega) ?_ | refine afit_u8 (by omega) ?_ | rw [List.length_map]); ((conv => whnf); (repeat ((first | with_reducible refine abr_true rfl ?_ | with_reducible refine abr_false rfl ?_ | with_reducible refine abr_yes rfl ?_ | refine abr_yes (by decide) ?_ | refine abr_no (by decide) ?_ | with_reducible refine abr_same_ne ?_); (conv => whnf))))))
        refine ⟨i + 1, h, by omega, Sub.refl _, ?_⟩
        rw [hsucc, show (2 : Int) * (q : Int) = ((2 * q : Nat) : Int) by omega]
        ((conv => whnf); (repeat ((first | with_reducible refine abr_true rfl ?_ | with_reducible refine abr_false rfl ?_ | with_reducible refine abr_yes rfl ?_ | refine abr_yes (by decide) ?_ | refine abr_no (by decide) ?_ | with_reducible refine abr_same_ne ?_); (conv => whnf))))
        (repeat' first | with_reducible exact EnvLe.refl _ | (refine EnvLe.node ?_ (by first | exact Or.inl rfl | exact Or.inr (Or.inl rfl) | exact Or.inr (Or.inr ⟨nofun, VLe.slice _ _ _⟩)) ?_))
      · obtain rfl : i = k := by omega
        have he : spaceSize (i : Int) = ((2 ^ i : Nat) : Int) := by unfold spaceSize; rw [if_pos (by unfold spaceOk; omega), Int.toNat_natCast]
        generalize hq : 2 ^ i = q at *
        ((conv => whnf); (repeat ((first | with_reducible refine abr_true rfl ?_ | with_reducible refine abr_false rfl ?_ | with_reducible refine abr_yes rfl ?_ | refine abr_yes (by decide) ?_ | refine abr_no (by decide) ?_ | with_reducible refine abr_same_ne ?_); (conv => whnf))))
        (repeat ((first | refine aload (by (repeat (first | with_reducible exact upd_same _ _ _ | assumption | rw [upd_ne _ _ (by first | assumption | (apply Ne.symm; assumption))]))) rfl ?_ | refine afit_i64 (by omega) ?_ | refine arem_nonneg (by omega) (by omega) ?_ | refine adiv_i64 (by omega) (by omega) ?_ | refine abr_yes (by omega) ?_ | refine abr_no (by omega) ?_ | refine amin ?_ | refine amax ?_ | refine afit_u64 (by omega) ?_ | refine afit_u8 (by omega) ?_ | rw [List.length_map]); ((conv => whnf); (repeat ((first | with_reducible refine abr_true rfl ?_ | with_reducible refine abr_false rfl ?_ | with_reducible refine abr_yes rfl ?_ | refine abr_yes (by decide) ?_ | refine abr_no (by decide) ?_ | with_reducible refine abr_same_ne ?_); (conv => whnf))))))
        exact aret_same ⟨by rw [he], rfl⟩

theorem refIs02 (w n : Int) (σ : AHeap) : ACalls Try.prog i_bowlineref02_Is [i64v w, i64v n] σ fun v σ' => v = boolv (isNum w n) ∧ σ' = σ := by
  refine k_bowlineref02_Is rfl ?_
  ((conv => whnf); (repeat ((first | with_reducible refine abr_true rfl ?_ | with_reducible refine abr_false rfl ?_ | with_reducible refine abr_yes rfl ?_ | refine abr_yes (by decide) ?_ | refine abr_no (by decide) ?_ | with_reducible refine abr_same_ne ?_); (conv => whnf))))
  by_cases h : 0 ≤ n
  · (repeat ((first | refine aload (by (repeat (first | with_reducible exact upd_same _ _ _ | assumption | rw [upd_ne _ _ (by first | assumption | (apply Ne.symm; assumption))]))) rfl ?_ | refine afit_i64 (by omega) ?_ | refine arem_nonneg (by omega) (by omega) ?_ | refine adiv_i64 (by omega) (by omega) ?_ | refine abr_yes (by omega) ?_ | refine abr_no (by omega) ?_ | refine amin ?_ | refine amax ?_ | refine afit_u64 (by omega) ?_ | refine afit_u8 (by omega) ?_ | rw [List.length_map]); ((conv => whnf); (repeat ((first | with_reducible refine abr_true rfl ?_ | with_reducible refine abr_false rfl ?_ | with_reducible refine abr_yes rfl ?_ | refine abr_yes (by decide) ?_ | refine abr_no (by decide) ?_ | with_reducible refine abr_same_ne ?_); (conv => whnf))))))
    refine acall (refSize02 w _) ?_
    rintro _ σ_ ⟨rfl, e_⟩
    obtain rfl := e_.symm
    refine ⟨?_, Ext.refl _⟩
    ((conv => whnf); (repeat ((first | with_reducible refine abr_true rfl ?_ | with_reducible refine abr_false rfl ?_ | with_reducible refine abr_yes rfl ?_ | refine abr_yes (by decide) ?_ | refine abr_no (by decide) ?_ | with_reducible refine abr_same_ne ?_); (conv => whnf))))
    exact aret_same ⟨congrArg boolv (dec_congr ⟨fun h2 => ⟨h, h2⟩, fun h2 => h2.2⟩), rfl⟩
  · (repeat ((first | refine aload (by (repeat (first | with_reducible exact upd_same _ _ _ | assumption | rw [upd_ne _ _ (by first | assumption | (apply Ne.symm; assumption))]))) rfl ?_ | refine afit_i64 (by omega) ?_ | refine arem_nonneg (by omega) (by omega) ?_ | refine adiv_i64 (by omega) (by omega) ?_ | refine abr_yes (by omega) ?_ | refine abr_no (by omega) ?_ | refine amin ?_ | refine amax ?_ | refine afit_u64 (by omega) ?_ | refine afit_u8 (by omega) ?_ | rw [List.length_map]); ((conv => whnf); (repeat ((first | with_reducible refine abr_true rfl ?_ | with_reducible refine abr_false rfl ?_ | with_reducible refine abr_yes rfl ?_ | refine abr_yes (by decide) ?_ | refine abr_no (by decide) ?_ | with_reducible refine abr_same_ne ?_); (conv => whnf))))))
    exact aret_same ⟨congrArg boolv (decide_eq_false fun h2 => h h2.1).symm, rfl⟩
end Go.Proofs.Ytnfdgccmpglbhaa
/-
  The right to append, beside whatever else is known of the heap.
-/
namespace Go.Proofs.Ytnfdgccmpglbhaa
set_option linter.unusedVariables false
set_option linter.unusedSimpArgs false
open Go Go.Am

theorem sub_none {σ σ' : AHeap} (h : Sub σ σ') {id : Nat} (k : σ id = none) : σ' id = none := by
  cases e : σ' id with
  | none => rfl
  | some o => rw [h _ _ e] at k; cases k
theorem sub_del {σ σb : AHeap} {id : Nat} (h : Sub σ σb) (h1 : σb id = none) : Sub (del σ id) σb := fun j o hj => by
  have hne : j ≠ id := fun e => by subst e; rw [h1] at hj; cases hj
  rw [del_ne _ hne]; exact h _ _ hj
theorem sub_upd {σ σb : AHeap} {id : Nat} (o : AObj) (h : Sub σ σb) (h1 : σb id = none) : Sub (upd σ id o) σb := fun j x hj => by
  have hne : j ≠ id := fun e => by subst e; rw [h1] at hj; cases hj
  rw [upd_ne _ _ hne]; exact h _ _ hj
/-- A token that is there, and is not of the heap below. -/
def TokIn (σ σb : AHeap) (tk : Tok) : Prop := tk = .full ∨ ∃ t, tk = .tip t ∧ σ t = some .tip ∧ σb t = none
theorem TokIn.full (σ σb : AHeap) : TokIn σ σb .full := .inl rfl
theorem TokIn.ne {σ σb : AHeap} {tk : Tok} {id : Nat} (o : AObj) (h : TokIn σ σb tk) (k : ∀ t, tk = .tip t → id ≠ t) : TokIn (upd σ id o) σb tk := by
  rcases h with rfl | ⟨t, rfl, h1, h2⟩
  · exact .inl rfl
  · exact .inr ⟨t, rfl, by rw [upd_ne _ _ (Ne.symm (k t rfl))]; exact h1, h2⟩
theorem TokIn.ne_of {σ σb : AHeap} {tk : Tok} {id : Nat} {o : AObj} (h : TokIn σ σb tk) (k : σ id = some o) (ho : o.isTip = false) : ∀ t, tk = .tip t → id ≠ t := by
  rintro t rfl e
  subst e
  rcases h with h | ⟨t', h0, h1, h2⟩
  · cases h
  · cases h0; rw [h1] at k; cases k; cases ho
/-- Something of the heap below is set. -/
theorem TokIn.set {σ σb : AHeap} {tk : Tok} {id : Nat} {o : AObj} (x : AObj) (h : TokIn σ σb tk) (k : σ id = some o) (ho : o.isTip = false) : TokIn (upd σ id x) σb tk := h.ne x (h.ne_of k ho)
theorem TokIn.ext {σ σ' σb : AHeap} {tk : Tok} (h : TokIn σ σb tk) (k : ∀ t, σ t = some .tip → σ' t = some .tip) : TokIn σ' σb tk := by
  rcases h with rfl | ⟨t, rfl, h1, h2⟩
  · exact .inl rfl
  · exact .inr ⟨t, rfl, k t h1, h2⟩
theorem Owned.tokIn {σ σb σ' : AHeap} {tk : Tok} (hs : Sub σ σb) (h : Owned σ σ' tk) : TokIn σ' σb tk := by
  rcases h with ⟨rfl, rfl⟩ | ⟨t, h0, rfl, rfl⟩
  · exact .inl rfl
  · exact .inr ⟨t, rfl, upd_same _ _ _, sub_none hs h0⟩
theorem aapp_in {σ σb : AHeap} {s bytes : Nat} {xs ys : List AVal} {tk : Tok} {K : AVal → AHeap → Prop} (h : TokIn σ σb tk) (hs : Sub σ σb) (hl : (xs.length + ys.length) * bytes ≤ 140737488355328)
    (k : ∀ t' σ', Ext σ σ' → Sub σ' σb → TokIn σ' σb (.tip t') → K (.slice s (xs ++ ys) (.tip t')) σ') : AApp σ s bytes xs tk ys K := by
  rcases h with rfl | ⟨t, rfl, h1, h2⟩
  · refine aapp_full hl fun t ht => k t _ (Ext.upd_fresh _ ht) (sub_upd _ hs (sub_none hs ht)) (.inr ⟨t, rfl, upd_same _ _ _, sub_none hs ht⟩)
  · refine aapp_tip h1 hl fun t' ht' => ?_
    have hb : σb t' = none := sub_none hs ht'
    refine k t' _ (fun id o ho e => ?_) (sub_upd _ (sub_del hs h2) hb) (.inr ⟨t', rfl, upd_same _ _ _, hb⟩)
    have hne : id ≠ t := fun q => by subst q; rw [h1] at e; cases e; cases ho
    have e2 : del σ t id = some o := by rw [del_ne _ hne]; exact e
    rw [upd_ne]; exact e2
    intro q; subst q; rw [e] at ht'; cases ht'
end Go.Proofs.Ytnfdgccmpglbhaa
/-
  Ways that meet again at a loop.
-/
namespace Go.Proofs.Ytnfdgccmpglbhaa
set_option linter.unusedVariables false
open Go Go.Am
theorem via_loop {G : Prop} {b : ICode} {Q : Exit → Env → AHeap → Prop} (K : ICode → (Exit → Env → AHeap → Prop) → Prop) (f : (Unit → K b Q) → G) (k : K b Q) : G := f fun _ => k
theorem aloop_from {P : Program} {C : Cfg} {b : ICode} {env env1 : Env} {σ : AHeap} {Q : Exit → Env → AHeap → Prop} (hle : EnvLe env env1) (h : ALoop P C b env1 σ Q) : ALoop P C b env σ Q := by
  rw [ALoop_def] at h ⊢
  intro c hc κ a w hS
  exact h c hc κ a w (hS.weaken hle (Sub.refl _))
end Go.Proofs.Ytnfdgccmpglbhaa
/-
  The bodies of one package, compiled to the framework's language (printed by a program of this session).
-/
namespace Go.Proofs.Ytnfdgccmpglbhaa
set_option linter.unusedVariables false
set_option linter.unusedSimpArgs false
open Go Go.Am
/- status.Read -/
def c48 : Cfg := ⟨qs, [], 114, []⟩
def ir48 : IFun := ⟨2, [.cell s4 (some 2), .tmp s5],
  (.seq (.reg (.one ⟨some s4, none, (.new [(.v (.int .i64 0)), (.slice 4 [] .full)])⟩
    (.one ⟨some s5, none, (.mv (.c (.v (.int .i64 0))))⟩
    .done)))
  (.scope (.seq (.block 0 (.seq (.reg (.one ⟨some s14, none, (.mv (.t s1))⟩
    (.one ⟨some s15, none, (.callq 91 [(.t s14)])⟩
    (.one ⟨some s16, none, (.not (.t s15))⟩
    (.one ⟨some s13, none, (.mv (.t s16))⟩
    .done)))))
  (.cond (.t s13) (.seq (.reg (.one ⟨some s17, none, (.build [(.v (.int .i64 0)), (.slice 4 [] .full)] [])⟩
    (.one ⟨none, none, (.store 2 (.t s4) (.t s17))⟩
    (.one ⟨some s5, none, (.mv (.c (.v (.int .i64 9))))⟩
    .done))))
  .ret) (.seq (.reg (.one ⟨some s19, none, (.mv (.t s0))⟩
    (.one ⟨some s20, none, (.len false (.t s19))⟩
    (.one ⟨some s21, none, (.bin false .eql (.t s20) (.c (.v (.int .i64 0))))⟩
    (.one ⟨some s18, none, (.mv (.t s21))⟩
    .done)))))
  (.cond (.t s18) (.seq (.reg (.one ⟨some s22, none, (.build [(.v (.int .i64 0)), (.slice 4 [] .full)] [])⟩
    (.one ⟨none, none, (.store 2 (.t s4) (.t s22))⟩
    (.one ⟨some s5, none, (.mv (.c (.v (.int .i64 8))))⟩
    .done))))
  .ret) (.seq (.reg (.one ⟨some s24, none, (.mv (.t s0))⟩
    (.one ⟨some s25, none, (.iaddr 1 (.t s24) (.c (.v (.int .i64 0))))⟩
    (.one ⟨some s26, none, (.load none (.t s25))⟩
    (.one ⟨some s27, none, (.bin false .and (.t s26) (.c (.v (.int .u8 128))))⟩
    (.one ⟨some s28, none, (.bin false .neq (.t s27) (.c (.v (.int .u8 0))))⟩
    (.one ⟨some s23, none, (.mv (.t s28))⟩
    .done)))))))
  (.cond (.t s23) (.seq (.reg (.one ⟨some s29, none, (.build [(.v (.int .i64 0)), (.slice 4 [] .full)] [])⟩
    (.one ⟨none, none, (.store 2 (.t s4) (.t s29))⟩
    (.one ⟨some s5, none, (.mv (.c (.v (.int .i64 4))))⟩
    .done))))
  .ret) (.seq (.reg (.one ⟨some s31, none, (.mv (.t s0))⟩
    (.one ⟨some s32, none, (.iaddr 1 (.t s31) (.c (.v (.int .i64 0))))⟩
    (.one ⟨some s33, none, (.load none (.t s32))⟩
    (.one ⟨some s34, none, (.bin false .and (.t s33) (.c (.v (.int .u8 112))))⟩
    (.one ⟨some s35, none, (.bin false .neq (.t s34) (.c (.v (.int .u8 0))))⟩
    (.one ⟨some s30, none, (.mv (.t s35))⟩
    .done)))))))
  (.cond (.t s30) (.seq (.reg (.one ⟨some s36, none, (.build [(.v (.int .i64 0)), (.slice 4 [] .full)] [])⟩
    (.one ⟨none, none, (.store 2 (.t s4) (.t s36))⟩
    (.one ⟨some s5, none, (.mv (.c (.v (.int .i64 3))))⟩
    .done))))
  .ret) .skip)))))))))
  (.seq (.reg (.one ⟨some s37, none, (.mv (.t s0))⟩
    (.one ⟨some s38, none, (.callq 92 [(.t s37)])⟩
    (.one ⟨some s39, none, (.build [(.v (.pointer none)), (.v (.int .i64 0))] [(0, 1, (.t s38))])⟩
    (.one ⟨some s40, none, (.box 2 (.t s39))⟩
    (.one ⟨some s6, none, (.mv (.t s40))⟩
    .done))))))
  (.seq (.reg (.one ⟨some s41, none, (.mv (.t s6))⟩
    (.one ⟨some s42, none, (.call 93 [(.t s41), (.c (.v (.int .i64 4)))])⟩
    .done)))
  (.seq (.reg (.one ⟨some s7, none, (.new [(.v (.int .i64 0)), (.slice 4 [] .full)])⟩
    .done))
  (.seq (.reg (.one ⟨some s43, none, (.mv (.t s6))⟩
    (.one ⟨some s44, none, (.mv (.t s1))⟩
    (.one ⟨some s45, none, (.call 93 [(.t s43), (.t s44)])⟩
    (.one ⟨some s46, none, (.faddr 0 (.t s7))⟩
    (.one ⟨none, none, (.store 1 (.t s46) (.t s45))⟩
    .done))))))
  (.seq (.reg (.one ⟨some s47, none, (.mv (.t s6))⟩
    (.one ⟨some s48, none, (.call 93 [(.t s47), (.c (.v (.int .i64 1)))])⟩
    (.one ⟨some s49, none, (.bin false .eql (.t s48) (.c (.v (.int .i64 1))))⟩
    (.one ⟨some s8, none, (.mv (.t s49))⟩
    .done)))))
  (.seq (.label 0)
  (.seq (.block 1 (.seq (.reg (.one ⟨some s51, none, (.mv (.t s6))⟩
    (.one ⟨some s52, none, (.nilchk (.t s51))⟩
    (.one ⟨some s53, none, (.faddr 1 (.t s52))⟩
    (.one ⟨some s54, none, (.load none (.t s53))⟩
    (.one ⟨some s55, none, (.bin false .neq (.t s54) (.c (.v (.int .i64 0))))⟩
    (.one ⟨some s50, none, (.mv (.t s55))⟩
    .done)))))))
  (.cond (.t s50) (.seq (.reg (.one ⟨some s56, none, (.build [(.v (.int .i64 0)), (.slice 4 [] .full)] [])⟩
    (.one ⟨some s57, none, (.mv (.t s6))⟩
    (.one ⟨some s58, none, (.nilchk (.t s57))⟩
    (.one ⟨some s59, none, (.faddr 1 (.t s58))⟩
    (.both (.one ⟨some s60, none, (.load none (.t s59))⟩
    (.one ⟨none, none, (.store 2 (.t s4) (.t s56))⟩
    (.one ⟨some s5, none, (.mv (.t s60))⟩
    .done))) (.one ⟨none, none, (.store 2 (.t s4) (.t s56))⟩
    (.one ⟨some s60, none, (.load none (.t s59))⟩
    (.one ⟨some s5, none, (.mv (.t s60))⟩
    .done)))))))))
  .ret) (.seq (.reg (.one ⟨some s62, none, (.mv (.t s8))⟩
    (.one ⟨some s63, none, (.mv (.t s62))⟩
    (.one ⟨some s64, some (s63, true), (.faddr 1 (.t s7))⟩
    (.one ⟨some s65, some (s63, true), (.load none (.t s64))⟩
    (.one ⟨some s66, some (s63, true), (.len false (.t s65))⟩
    (.one ⟨some s67, some (s63, true), (.bin false .eql (.t s66) (.c (.v (.int .i64 32))))⟩
    (.one ⟨some s68, none, (.pick (.t s63) (.t s67) (.c (.v (.bool false))))⟩
    (.one ⟨some s61, none, (.mv (.t s68))⟩
    .done)))))))))
  (.cond (.t s61) (.seq (.reg (.one ⟨some s69, none, (.build [(.v (.int .i64 0)), (.slice 4 [] .full)] [])⟩
    (.one ⟨none, none, (.store 2 (.t s4) (.t s69))⟩
    (.one ⟨some s5, none, (.mv (.c (.v (.int .i64 2))))⟩
    .done))))
  .ret) (.seq (.reg (.one ⟨some s71, none, (.mv (.t s8))⟩
    (.one ⟨some s70, none, (.mv (.t s71))⟩
    .done)))
  (.cond (.t s70) (.seq (.reg (.one ⟨some s73, none, (.mv (.t s6))⟩
    (.one ⟨some s74, none, (.mv (.t s1))⟩
    (.one ⟨some s75, none, (.call 94 [(.t s73), (.t s74)])⟩
    (.one ⟨some s72, none, (.mv (.t s75))⟩
    (.one ⟨some s76, none, (.ext (.t s72) 0)⟩
    (.one ⟨some s77, none, (.ext (.t s72) 1)⟩
    (.one ⟨some s9, none, (.new [(.v (.int .i64 0)), (.v (.bool false)), (.v (.int .i64 0)), (.v (.int .i64 0))])⟩
    (.one ⟨none, none, (.store 4 (.t s9) (.t s76))⟩
    (.one ⟨some s10, none, (.mv (.t s77))⟩
    .done))))))))))
  (.seq (.seq (.reg (.one ⟨some s78, none, (.mv (.t s6))⟩
    (.one ⟨some s79, none, (.nilchk (.t s78))⟩
    (.one ⟨some s80, none, (.faddr 1 (.t s79))⟩
    (.one ⟨some s81, none, (.load none (.t s80))⟩
    (.one ⟨some s82, none, (.bin false .eql (.t s81) (.c (.v (.int .i64 0))))⟩
    (.one ⟨some s83, none, (.mv (.t s82))⟩
    (.one ⟨some s84, some (s83, true), (.load (some 4) (.t s9))⟩
    (.one ⟨some s85, some (s83, true), (.mv (.t s1))⟩
    (.one ⟨some s86, some (s83, true), (.callq 95 [(.t s84), (.t s85)])⟩
    (.one ⟨some s87, some (s83, true), (.not (.t s86))⟩
    (.one ⟨some s88, none, (.pick (.t s83) (.t s87) (.c (.v (.bool false))))⟩
    .done))))))))))))
  (.cond (.t s88) (.seq (.reg (.one ⟨some s89, none, (.build [(.v (.int .i64 0)), (.slice 4 [] .full)] [])⟩
    (.one ⟨none, none, (.store 2 (.t s4) (.t s89))⟩
    (.one ⟨some s5, none, (.mv (.c (.v (.int .i64 3))))⟩
    .done))))
  .ret) .skip))
  (.seq (.reg (.one ⟨some s90, none, (.faddr 1 (.t s7))⟩
    (.one ⟨some s91, none, (.load none (.t s90))⟩
    (.one ⟨some s92, none, (.load (some 4) (.t s9))⟩
    (.one ⟨some s93, none, (.row 4 [(.t s92)])⟩
    (.one ⟨some s94, none, (.app 4 32 (.t s91) (.t s93))⟩
    (.one ⟨some s95, none, (.faddr 1 (.t s7))⟩
    (.one ⟨none, none, (.store 1 (.t s95) (.t s94))⟩
    .done))))))))
  (.seq (.reg (.one ⟨some s96, none, (.mv (.t s10))⟩
    (.one ⟨some s8, none, (.mv (.t s96))⟩
    .done)))
  (.goto 0))))) .skip)))))))
  (.seq (.seq (.reg (.one ⟨some s98, none, (.mv (.t s6))⟩
    (.one ⟨some s99, none, (.nilchk (.t s98))⟩
    (.one ⟨some s100, none, (.faddr 0 (.t s99))⟩
    (.one ⟨some s101, none, (.load none (.t s100))⟩
    (.one ⟨some s102, none, (.call 96 [(.t s101)])⟩
    (.one ⟨some s97, none, (.mv (.t s102))⟩
    (.one ⟨some s103, none, (.ext (.t s97) 0)⟩
    (.one ⟨some s104, none, (.ext (.t s97) 1)⟩
    (.one ⟨some s11, none, (.mv (.t s103))⟩
    (.one ⟨some s12, none, (.mv (.t s104))⟩
    .done)))))))))))
  (.seq (.reg (.one ⟨some s105, none, (.mv (.t s12))⟩
    (.one ⟨some s106, none, (.bin false .neq (.t s105) (.c (.v (.int .i64 0))))⟩
    (.one ⟨some s107, none, (.mv (.t s106))⟩
    (.one ⟨some s108, some (s107, false), (.mv (.t s11))⟩
    (.one ⟨some s109, some (s107, false), (.len false (.t s108))⟩
    (.one ⟨some s110, some (s107, false), (.bin false .gtr (.t s109) (.c (.v (.int .i64 0))))⟩
    (.one ⟨some s111, none, (.pick (.t s107) (.c (.v (.bool true))) (.t s110))⟩
    .done))))))))
  (.cond (.t s111) (.seq (.reg (.one ⟨some s112, none, (.build [(.v (.int .i64 0)), (.slice 4 [] .full)] [])⟩
    (.one ⟨none, none, (.store 2 (.t s4) (.t s112))⟩
    (.one ⟨some s5, none, (.mv (.c (.v (.int .i64 3))))⟩
    .done))))
  .ret) .skip)))
  (.seq (.reg (.one ⟨some s113, none, (.load (some 2) (.t s7))⟩
    (.one ⟨none, none, (.store 2 (.t s4) (.t s113))⟩
    (.one ⟨some s5, none, (.mv (.c (.v (.int .i64 0))))⟩
    .done))))
  .ret))))))))))))⟩
theorem ok48 : compF Try.prog c48 Try.f48 = some ir48 := by kernel_rfl
theorem k_status_Read {args : List AVal} {σ : AHeap} {Q : AVal → AHeap → Prop} (hl : Nat.ble args.length 114 = true) (h : argsK (Env.full 9) 0 args fun env => evC Try.prog c48 ir48.body env σ (retQ ir48 Q)) : ACalls Try.prog 48 args σ Q :=
  acalls_of Try.func48 ok48 rfl (Nat.le_of_ble_eq_true hl) h
/- status.Write -/
def c52 : Cfg := ⟨qs, [], 87, []⟩
def ir52 : IFun := ⟨2, [.tmp s4, .tmp s5],
  (.seq (.reg (.one ⟨some s2, none, (.box 2 (.t s0))⟩
    (.one ⟨some s4, none, (.mv (.c (.slice 1 [] .full)))⟩
    (.one ⟨some s5, none, (.mv (.c (.v (.int .i64 0))))⟩
    .done))))
  (.seq (.block 0 (.seq (.reg (.one ⟨some s11, none, (.mv (.t s1))⟩
    (.one ⟨some s12, none, (.callq 91 [(.t s11)])⟩
    (.one ⟨some s13, none, (.not (.t s12))⟩
    (.one ⟨some s10, none, (.mv (.t s13))⟩
    .done)))))
  (.cond (.t s10) (.seq (.reg (.one ⟨some s4, none, (.mv (.c (.slice 1 [] .full)))⟩
    (.one ⟨some s5, none, (.mv (.c (.v (.int .i64 9))))⟩
    .done)))
  .ret) (.seq (.reg (.one ⟨some s15, none, (.load (some 2) (.t s2))⟩
    (.one ⟨some s16, none, (.mv (.t s1))⟩
    (.one ⟨some s17, none, (.callq 54 [(.t s15), (.t s16)])⟩
    (.one ⟨some s18, none, (.not (.t s17))⟩
    (.one ⟨some s14, none, (.mv (.t s18))⟩
    .done))))))
  (.cond (.t s14) (.seq (.reg (.one ⟨some s4, none, (.mv (.c (.slice 1 [] .full)))⟩
    (.one ⟨some s5, none, (.mv (.c (.v (.int .i64 3))))⟩
    .done)))
  .ret) .skip)))))
  (.seq (.reg (.one ⟨some s19, none, (.callq 101 [])⟩
    (.one ⟨some s6, none, (.mv (.t s19))⟩
    .done)))
  (.seq (.reg (.one ⟨some s20, none, (.mv (.t s6))⟩
    (.one ⟨some s21, none, (.call 102 [(.t s20), (.c (.v (.int .u64 0))), (.c (.v (.int .i64 4)))])⟩
    .done)))
  (.seq (.reg (.one ⟨some s22, none, (.mv (.t s6))⟩
    (.one ⟨some s23, none, (.faddr 0 (.t s2))⟩
    (.one ⟨some s24, none, (.load none (.t s23))⟩
    (.one ⟨some s25, none, (.conv .u64 (.t s24))⟩
    (.one ⟨some s26, none, (.mv (.t s1))⟩
    (.one ⟨some s27, none, (.call 102 [(.t s22), (.t s25), (.t s26)])⟩
    .done)))))))
  (.seq (.reg (.one ⟨some s28, none, (.mv (.t s6))⟩
    (.one ⟨some s29, none, (.faddr 1 (.t s2))⟩
    (.one ⟨some s30, none, (.load none (.t s29))⟩
    (.one ⟨some s31, none, (.len false (.t s30))⟩
    (.one ⟨some s32, none, (.bin false .gtr (.t s31) (.c (.v (.int .i64 0))))⟩
    (.one ⟨some s33, none, (.callq 103 [(.t s32)])⟩
    (.one ⟨some s34, none, (.call 102 [(.t s28), (.t s33), (.c (.v (.int .i64 1)))])⟩
    .done))))))))
  (.seq (.seq (.reg (.one ⟨some s35, none, (.faddr 1 (.t s2))⟩
    (.one ⟨some s36, none, (.load none (.t s35))⟩
    (.one ⟨some s37, none, (.len false (.t s36))⟩
    (.one ⟨some s38, none, (.mv (.c (.v (.int .i64 0))))⟩
    .done)))))
  (.block 1 (.loop (.seq (.reg (.one ⟨some s39, none, (.bin false .lss (.t s38) (.t s37))⟩
    .done))
  (.seq (.cond (.t s39) .skip (.exit 1))
  (.seq (.block 2 (.seq (.reg (.one ⟨some s40, none, (.mv (.t s38))⟩
    (.one ⟨some s41, none, (.iaddr 4 (.t s36) (.t s38))⟩
    (.one ⟨some s42, none, (.load (some 4) (.t s41))⟩
    (.one ⟨some s8, none, (.new [(.v (.int .i64 0)), (.v (.bool false)), (.v (.int .i64 0)), (.v (.int .i64 0))])⟩
    (.one ⟨some s7, none, (.mv (.t s40))⟩
    (.one ⟨none, none, (.store 4 (.t s8) (.t s42))⟩
    .done)))))))
  (.seq (.reg (.one ⟨some s43, none, (.mv (.t s6))⟩
    (.one ⟨some s44, none, (.faddr 0 (.t s8))⟩
    (.one ⟨some s45, none, (.load none (.t s44))⟩
    (.one ⟨some s46, none, (.conv .u64 (.t s45))⟩
    (.one ⟨some s47, none, (.mv (.t s1))⟩
    (.one ⟨some s48, none, (.call 102 [(.t s43), (.t s46), (.t s47)])⟩
    .done)))))))
  (.seq (.reg (.one ⟨some s49, none, (.mv (.t s6))⟩
    (.one ⟨some s50, none, (.mv (.t s7))⟩
    (.one ⟨some s51, none, (.faddr 1 (.t s2))⟩
    (.one ⟨some s52, none, (.load none (.t s51))⟩
    (.one ⟨some s53, none, (.len false (.t s52))⟩
    (.one ⟨some s54, none, (.bin false .sub (.t s53) (.c (.v (.int .i64 1))))⟩
    (.one ⟨some s55, none, (.bin false .lss (.t s50) (.t s54))⟩
    (.one ⟨some s56, none, (.callq 103 [(.t s55)])⟩
    (.one ⟨some s57, none, (.call 102 [(.t s49), (.t s56), (.c (.v (.int .i64 1)))])⟩
    .done))))))))))
  (.seq (.reg (.one ⟨some s58, none, (.mv (.t s6))⟩
    (.one ⟨some s59, none, (.faddr 1 (.t s8))⟩
    (.one ⟨some s60, none, (.load none (.t s59))⟩
    (.one ⟨some s61, none, (.callq 103 [(.t s60)])⟩
    (.one ⟨some s62, none, (.call 102 [(.t s58), (.t s61), (.c (.v (.int .i64 1)))])⟩
    .done))))))
  (.seq (.reg (.one ⟨some s63, none, (.faddr 1 (.t s8))⟩
    (.one ⟨some s64, none, (.load none (.t s63))⟩
    .done)))
  (.cond (.t s64) (.seq (.reg (.one ⟨some s65, none, (.mv (.t s1))⟩
    (.one ⟨some s66, none, (.callq 104 [(.t s65)])⟩
    (.one ⟨some s9, none, (.mv (.t s66))⟩
    .done))))
  (.seq (.reg (.one ⟨some s67, none, (.mv (.t s6))⟩
    (.one ⟨some s68, none, (.faddr 2 (.t s8))⟩
    (.one ⟨some s69, none, (.load none (.t s68))⟩
    (.one ⟨some s70, none, (.conv .u64 (.t s69))⟩
    (.one ⟨some s71, none, (.mv (.t s9))⟩
    (.one ⟨some s72, none, (.call 102 [(.t s67), (.t s70), (.t s71)])⟩
    .done)))))))
  (.reg (.one ⟨some s73, none, (.mv (.t s6))⟩
    (.one ⟨some s74, none, (.faddr 3 (.t s8))⟩
    (.one ⟨some s78, none, (.mv (.t s9))⟩
    (.one ⟨some s79, none, (.bin false .shl (.c (.v (.int .u64 1))) (.t s78))⟩
    (.one ⟨some s80, none, (.bin false .sub (.t s79) (.c (.v (.int .u64 1))))⟩
    (.one ⟨some s82, none, (.mv (.t s9))⟩
    (.one ⟨some s75, none, (.load none (.t s74))⟩
    (.one ⟨some s76, none, (.bin false .sub (.t s75) (.c (.v (.int .i64 1))))⟩
    (.one ⟨some s77, none, (.conv .u64 (.t s76))⟩
    (.one ⟨some s81, none, (.bin false .and (.t s77) (.t s80))⟩
    (.one ⟨some s83, none, (.call 102 [(.t s73), (.t s81), (.t s82)])⟩
    .done)))))))))))))) .skip)))))))
  (.reg (.one ⟨some s84, none, (.bin false .add (.t s38) (.c (.v (.int .i64 1))))⟩
    (.one ⟨some s38, none, (.mv (.t s84))⟩
    .done)))))))))
  (.seq (.reg (.one ⟨some s85, none, (.mv (.t s6))⟩
    (.one ⟨some s86, none, (.callq 105 [(.t s85)])⟩
    (.one ⟨some s4, none, (.mv (.t s86))⟩
    (.one ⟨some s5, none, (.mv (.c (.v (.int .i64 0))))⟩
    .done)))))
  .ret))))))))⟩
theorem ok52 : compF Try.prog c52 Try.f52 = some ir52 := by kernel_rfl
theorem k_status_Write {args : List AVal} {σ : AHeap} {Q : AVal → AHeap → Prop} (hl : Nat.ble args.length 87 = true) (h : argsK (Env.full 9) 0 args fun env => evC Try.prog c52 ir52.body env σ (retQ ir52 Q)) : ACalls Try.prog 52 args σ Q :=
  acalls_of Try.func52 ok52 rfl (Nat.le_of_ble_eq_true hl) h
/- status.Size -/
def c53 : Cfg := ⟨qs, [], 38, []⟩
def ir53 : IFun := ⟨2, [.tmp s4],
  (.seq (.reg (.one ⟨some s2, none, (.box 2 (.t s0))⟩
    (.one ⟨some s4, none, (.mv (.c (.v (.int .i64 0))))⟩
    .done)))
  (.seq (.seq (.reg (.one ⟨some s8, none, (.load (some 2) (.t s2))⟩
    (.one ⟨some s9, none, (.mv (.t s1))⟩
    (.one ⟨some s10, none, (.callq 54 [(.t s8), (.t s9)])⟩
    (.one ⟨some s11, none, (.not (.t s10))⟩
    .done)))))
  (.cond (.t s11) (.seq (.reg (.one ⟨some s4, none, (.mv (.c (.v (.int .i64 0))))⟩
    .done))
  .ret) .skip))
  (.seq (.reg (.one ⟨some s12, none, (.mv (.t s1))⟩
    (.one ⟨some s13, none, (.bin false .add (.c (.v (.int .i64 4))) (.t s12))⟩
    (.one ⟨some s14, none, (.bin false .add (.t s13) (.c (.v (.int .i64 1))))⟩
    (.one ⟨some s5, none, (.mv (.t s14))⟩
    .done)))))
  (.seq (.seq (.reg (.one ⟨some s15, none, (.faddr 1 (.t s2))⟩
    (.one ⟨some s16, none, (.load none (.t s15))⟩
    (.one ⟨some s17, none, (.len false (.t s16))⟩
    (.one ⟨some s18, none, (.mv (.c (.v (.int .i64 0))))⟩
    .done)))))
  (.block 0 (.loop (.seq (.reg (.one ⟨some s19, none, (.bin false .lss (.t s18) (.t s17))⟩
    .done))
  (.seq (.cond (.t s19) .skip (.exit 0))
  (.seq (.block 1 (.seq (.reg (.one ⟨some s20, none, (.iaddr 4 (.t s16) (.t s18))⟩
    (.one ⟨some s21, none, (.load (some 4) (.t s20))⟩
    (.one ⟨some s7, none, (.new [(.v (.int .i64 0)), (.v (.bool false)), (.v (.int .i64 0)), (.v (.int .i64 0))])⟩
    (.one ⟨none, none, (.store 4 (.t s7) (.t s21))⟩
    .done)))))
  (.seq (.reg (.one ⟨some s22, none, (.mv (.t s5))⟩
    (.one ⟨some s23, none, (.mv (.t s1))⟩
    (.one ⟨some s24, none, (.bin false .add (.t s23) (.c (.v (.int .i64 2))))⟩
    (.one ⟨some s25, none, (.bin false .add (.t s22) (.t s24))⟩
    (.one ⟨some s5, none, (.mv (.t s25))⟩
    .done))))))
  (.seq (.reg (.one ⟨some s26, none, (.faddr 1 (.t s7))⟩
    (.one ⟨some s27, none, (.load none (.t s26))⟩
    .done)))
  (.cond (.t s27) (.reg (.one ⟨some s28, none, (.mv (.t s5))⟩
    (.one ⟨some s29, none, (.mv (.t s1))⟩
    (.one ⟨some s30, none, (.callq 104 [(.t s29)])⟩
    (.one ⟨some s31, none, (.bin false .mul (.c (.v (.int .i64 2))) (.t s30))⟩
    (.one ⟨some s32, none, (.bin false .add (.t s28) (.t s31))⟩
    (.one ⟨some s5, none, (.mv (.t s32))⟩
    .done))))))) .skip)))))
  (.reg (.one ⟨some s33, none, (.bin false .add (.t s18) (.c (.v (.int .i64 1))))⟩
    (.one ⟨some s18, none, (.mv (.t s33))⟩
    .done)))))))))
  (.seq (.reg (.one ⟨some s34, none, (.mv (.t s5))⟩
    (.one ⟨some s35, none, (.bin false .add (.t s34) (.c (.v (.int .i64 8))))⟩
    (.one ⟨some s36, none, (.bin false .sub (.t s35) (.c (.v (.int .i64 1))))⟩
    (.one ⟨some s37, none, (.bin false .quo (.t s36) (.c (.v (.int .i64 8))))⟩
    (.one ⟨some s4, none, (.mv (.t s37))⟩
    .done))))))
  .ret)))))⟩
theorem ok53 : compF Try.prog c53 Try.f53 = some ir53 := by kernel_rfl
theorem k_status_Size {args : List AVal} {σ : AHeap} {Q : AVal → AHeap → Prop} (hl : Nat.ble args.length 38 = true) (h : argsK (Env.full 9) 0 args fun env => evC Try.prog c53 ir53.body env σ (retQ ir53 Q)) : ACalls Try.prog 53 args σ Q :=
  acalls_of Try.func53 ok53 rfl (Nat.le_of_ble_eq_true hl) h
/- status.Right -/
def c54 : Cfg := ⟨qs, [], 29, []⟩
def ir54 : IFun := ⟨2, [.tmp s4],
  (.seq (.reg (.one ⟨some s2, none, (.box 2 (.t s0))⟩
    (.one ⟨some s3, none, (.box 1 (.t s1))⟩
    (.one ⟨some s4, none, (.mv (.c (.v (.bool false))))⟩
    .done))))
  (.seq (.reg (.one ⟨some s6, none, (.load none (.t s3))⟩
    (.one ⟨some s7, none, (.build [(.v (.int .i64 0))] [(0, 1, (.t s6))])⟩
    (.one ⟨some s5, none, (.new [(.v (.int .i64 0))])⟩
    (.one ⟨none, none, (.store 1 (.t s5) (.t s7))⟩
    .done)))))
  (.seq (.reg (.one ⟨some s8, none, (.load none (.t s3))⟩
    (.one ⟨some s9, none, (.callq 91 [(.t s8)])⟩
    (.one ⟨some s10, none, (.mv (.t s9))⟩
    (.one ⟨some s11, some (s10, true), (.load (some 1) (.t s5))⟩
    (.one ⟨some s12, some (s10, true), (.faddr 0 (.t s2))⟩
    (.one ⟨some s13, some (s10, true), (.load none (.t s12))⟩
    (.one ⟨some s14, some (s10, true), (.callq 106 [(.t s11), (.t s13)])⟩
    (.one ⟨some s15, none, (.pick (.t s10) (.t s14) (.c (.v (.bool false))))⟩
    (.one ⟨some s16, none, (.mv (.t s15))⟩
    (.one ⟨some s17, some (s16, true), (.faddr 1 (.t s2))⟩
    (.one ⟨some s18, some (s16, true), (.load none (.t s17))⟩
    (.one ⟨some s19, some (s16, true), (.len false (.t s18))⟩
    (.one ⟨some s20, some (s16, true), (.bin false .leq (.t s19) (.c (.v (.int .i64 32))))⟩
    (.one ⟨some s21, none, (.pick (.t s16) (.t s20) (.c (.v (.bool false))))⟩
    (.one ⟨some s22, none, (.mv (.t s21))⟩
    (.one ⟨some s23, some (s22, true), (.faddr 1 (.t s2))⟩
    (.one ⟨some s24, some (s22, true), (.load none (.t s23))⟩
    (.one ⟨some s25, some (s22, true), (.fn 108 [] [(.t s3)])⟩
    (.one ⟨some s26, some (s22, true), (.callq 107 [(.t s24), (.t s25)])⟩
    (.one ⟨some s27, some (s22, true), (.not (.t s26))⟩
    (.one ⟨some s28, none, (.pick (.t s22) (.t s27) (.c (.v (.bool false))))⟩
    (.one ⟨some s4, none, (.mv (.t s28))⟩
    .done)))))))))))))))))))))))
  .ret)))⟩
theorem ok54 : compF Try.prog c54 Try.f54 = some ir54 := by kernel_rfl
theorem k_status_Right {args : List AVal} {σ : AHeap} {Q : AVal → AHeap → Prop} (hl : Nat.ble args.length 29 = true) (h : argsK (Env.full 9) 0 args fun env => evC Try.prog c54 ir54.body env σ (retQ ir54 Q)) : ACalls Try.prog 54 args σ Q :=
  acalls_of Try.func54 ok54 rfl (Nat.le_of_ble_eq_true hl) h
/- status.Same -/
def c57 : Cfg := ⟨qs, [], 17, []⟩
def ir57 : IFun := ⟨2, [.tmp s4],
  (.seq (.reg (.one ⟨some s2, none, (.box 2 (.t s0))⟩
    (.one ⟨some s3, none, (.box 2 (.t s1))⟩
    (.one ⟨some s4, none, (.mv (.c (.v (.bool false))))⟩
    .done))))
  (.seq (.reg (.one ⟨some s5, none, (.faddr 0 (.t s2))⟩
    (.one ⟨some s6, none, (.load none (.t s5))⟩
    (.one ⟨some s7, none, (.faddr 0 (.t s3))⟩
    (.one ⟨some s8, none, (.load none (.t s7))⟩
    (.one ⟨some s9, none, (.bin false .eql (.t s6) (.t s8))⟩
    (.one ⟨some s10, none, (.mv (.t s9))⟩
    (.one ⟨some s11, some (s10, true), (.faddr 1 (.t s2))⟩
    (.one ⟨some s12, some (s10, true), (.load none (.t s11))⟩
    (.one ⟨some s13, some (s10, true), (.faddr 1 (.t s3))⟩
    (.one ⟨some s14, some (s10, true), (.load none (.t s13))⟩
    (.one ⟨some s15, some (s10, true), (.callq 109 [(.t s12), (.t s14)])⟩
    (.one ⟨some s16, none, (.pick (.t s10) (.t s15) (.c (.v (.bool false))))⟩
    (.one ⟨some s4, none, (.mv (.t s16))⟩
    .done))))))))))))))
  .ret))⟩
theorem ok57 : compF Try.prog c57 Try.f57 = some ir57 := by kernel_rfl
theorem k_status_Same {args : List AVal} {σ : AHeap} {Q : AVal → AHeap → Prop} (hl : Nat.ble args.length 17 = true) (h : argsK (Env.full 9) 0 args fun env => evC Try.prog c57 ir57.body env σ (retQ ir57 Q)) : ACalls Try.prog 57 args σ Q :=
  acalls_of Try.func57 ok57 rfl (Nat.le_of_ble_eq_true hl) h
/- status.isWidth -/
def c91 : Cfg := ⟨qs, [], 9, []⟩
def ir91 : IFun := ⟨1, [.tmp s2],
  (.seq (.reg (.one ⟨some s2, none, (.mv (.c (.v (.bool false))))⟩
    .done))
  (.seq (.reg (.one ⟨some s3, none, (.mv (.t s0))⟩
    (.one ⟨some s4, none, (.bin false .eql (.t s3) (.c (.v (.int .i64 10))))⟩
    (.one ⟨some s5, none, (.mv (.t s4))⟩
    (.one ⟨some s6, some (s5, false), (.mv (.t s0))⟩
    (.one ⟨some s7, some (s5, false), (.bin false .eql (.t s6) (.c (.v (.int .i64 16))))⟩
    (.one ⟨some s8, none, (.pick (.t s5) (.c (.v (.bool true))) (.t s7))⟩
    (.one ⟨some s2, none, (.mv (.t s8))⟩
    .done))))))))
  .ret))⟩
theorem ok91 : compF Try.prog c91 Try.f91 = some ir91 := by kernel_rfl
theorem k_status_isWidth {args : List AVal} {σ : AHeap} {Q : AVal → AHeap → Prop} (hl : Nat.ble args.length 9 = true) (h : argsK (Env.full 9) 0 args fun env => evC Try.prog c91 ir91.body env σ (retQ ir91 Q)) : ACalls Try.prog 91 args σ Q :=
  acalls_of Try.func91 ok91 rfl (Nat.le_of_ble_eq_true hl) h
/- status.reader).get -/
def c93 : Cfg := ⟨qs, [], 27, []⟩
def ir93 : IFun := ⟨2, [.tmp s4],
  (.seq (.reg (.one ⟨some s4, none, (.mv (.c (.v (.int .i64 0))))⟩
    .done))
  (.seq (.seq (.reg (.one ⟨some s7, none, (.mv (.t s0))⟩
    (.one ⟨some s8, none, (.nilchk (.t s7))⟩
    (.one ⟨some s9, none, (.faddr 1 (.t s8))⟩
    (.one ⟨some s10, none, (.load none (.t s9))⟩
    (.one ⟨some s11, none, (.bin false .neq (.t s10) (.c (.v (.int .i64 0))))⟩
    .done))))))
  (.cond (.t s11) (.seq (.reg (.one ⟨some s4, none, (.mv (.c (.v (.int .i64 0))))⟩
    .done))
  .ret) .skip))
  (.seq (.reg (.one ⟨some s13, none, (.mv (.t s0))⟩
    (.one ⟨some s14, none, (.nilchk (.t s13))⟩
    (.one ⟨some s15, none, (.faddr 0 (.t s14))⟩
    (.one ⟨some s16, none, (.load none (.t s15))⟩
    (.one ⟨some s17, none, (.mv (.t s1))⟩
    (.one ⟨some s18, none, (.call 123 [(.t s16), (.t s17)])⟩
    (.one ⟨some s12, none, (.mv (.t s18))⟩
    (.one ⟨some s19, none, (.ext (.t s12) 0)⟩
    (.one ⟨some s20, none, (.ext (.t s12) 1)⟩
    (.one ⟨some s5, none, (.mv (.t s19))⟩
    (.one ⟨some s6, none, (.mv (.t s20))⟩
    .done))))))))))))
  (.seq (.reg (.one ⟨some s21, none, (.mv (.t s0))⟩
    (.one ⟨some s22, none, (.mv (.t s6))⟩
    (.one ⟨some s23, none, (.nilchk (.t s21))⟩
    (.one ⟨some s24, none, (.faddr 1 (.t s23))⟩
    (.one ⟨none, none, (.store 1 (.t s24) (.t s22))⟩
    .done))))))
  (.seq (.reg (.one ⟨some s25, none, (.mv (.t s5))⟩
    (.one ⟨some s26, none, (.conv .i64 (.t s25))⟩
    (.one ⟨some s4, none, (.mv (.t s26))⟩
    .done))))
  .ret)))))⟩
theorem ok93 : compF Try.prog c93 Try.f93 = some ir93 := by kernel_rfl
theorem k_status_reader_get {args : List AVal} {σ : AHeap} {Q : AVal → AHeap → Prop} (hl : Nat.ble args.length 27 = true) (h : argsK (Env.full 9) 0 args fun env => evC Try.prog c93 ir93.body env σ (retQ ir93 Q)) : ACalls Try.prog 93 args σ Q :=
  acalls_of Try.func93 ok93 rfl (Nat.le_of_ble_eq_true hl) h
/- status.reader).miss -/
def c94 : Cfg := ⟨qs, [], 37, []⟩
def ir94 : IFun := ⟨2, [.cell s4 (some 4), .tmp s5],
  (.seq (.reg (.one ⟨some s4, none, (.new [(.v (.int .i64 0)), (.v (.bool false)), (.v (.int .i64 0)), (.v (.int .i64 0))])⟩
    (.one ⟨some s5, none, (.mv (.c (.v (.bool false))))⟩
    .done)))
  (.seq (.reg (.one ⟨some s7, none, (.mv (.t s0))⟩
    (.one ⟨some s8, none, (.mv (.t s1))⟩
    (.one ⟨some s9, none, (.call 93 [(.t s7), (.t s8)])⟩
    (.one ⟨some s10, none, (.faddr 0 (.t s4))⟩
    (.one ⟨none, none, (.store 1 (.t s10) (.t s9))⟩
    .done))))))
  (.seq (.reg (.one ⟨some s11, none, (.mv (.t s0))⟩
    (.one ⟨some s12, none, (.call 93 [(.t s11), (.c (.v (.int .i64 1)))])⟩
    (.one ⟨some s13, none, (.bin false .eql (.t s12) (.c (.v (.int .i64 1))))⟩
    (.one ⟨some s5, none, (.mv (.t s13))⟩
    .done)))))
  (.seq (.reg (.one ⟨some s14, none, (.mv (.t s0))⟩
    (.one ⟨some s15, none, (.call 93 [(.t s14), (.c (.v (.int .i64 1)))])⟩
    (.one ⟨some s16, none, (.bin false .eql (.t s15) (.c (.v (.int .i64 1))))⟩
    (.one ⟨some s17, none, (.faddr 1 (.t s4))⟩
    (.one ⟨none, none, (.store 1 (.t s17) (.t s16))⟩
    .done))))))
  (.seq (.seq (.reg (.one ⟨some s18, none, (.faddr 1 (.t s4))⟩
    (.one ⟨some s19, none, (.load none (.t s18))⟩
    .done)))
  (.cond (.t s19) (.seq (.reg (.one ⟨some s20, none, (.mv (.t s1))⟩
    (.one ⟨some s21, none, (.callq 104 [(.t s20)])⟩
    (.one ⟨some s6, none, (.mv (.t s21))⟩
    .done))))
  (.seq (.reg (.one ⟨some s22, none, (.mv (.t s0))⟩
    (.one ⟨some s23, none, (.mv (.t s6))⟩
    (.one ⟨some s24, none, (.call 93 [(.t s22), (.t s23)])⟩
    (.one ⟨some s25, none, (.faddr 2 (.t s4))⟩
    (.one ⟨none, none, (.store 1 (.t s25) (.t s24))⟩
    .done))))))
  (.reg (.one ⟨some s26, none, (.mv (.t s0))⟩
    (.one ⟨some s27, none, (.mv (.t s6))⟩
    (.one ⟨some s30, none, (.mv (.t s6))⟩
    (.one ⟨some s31, none, (.bin false .shl (.c (.v (.int .i64 1))) (.t s30))⟩
    (.one ⟨some s32, none, (.bin false .sub (.t s31) (.c (.v (.int .i64 1))))⟩
    (.one ⟨some s28, none, (.call 93 [(.t s26), (.t s27)])⟩
    (.one ⟨some s29, none, (.bin false .add (.t s28) (.c (.v (.int .i64 1))))⟩
    (.one ⟨some s33, none, (.bin false .and (.t s29) (.t s32))⟩
    (.one ⟨some s34, none, (.faddr 3 (.t s4))⟩
    (.one ⟨none, none, (.store 1 (.t s34) (.t s33))⟩
    .done))))))))))))) .skip))
  (.seq (.reg (.one ⟨some s35, none, (.load (some 4) (.t s4))⟩
    (.one ⟨some s36, none, (.mv (.t s5))⟩
    (.one ⟨none, none, (.store 4 (.t s4) (.t s35))⟩
    (.one ⟨some s5, none, (.mv (.t s36))⟩
    .done)))))
  .ret))))))⟩
theorem ok94 : compF Try.prog c94 Try.f94 = some ir94 := by kernel_rfl
theorem k_status_reader_miss {args : List AVal} {σ : AHeap} {Q : AVal → AHeap → Prop} (hl : Nat.ble args.length 37 = true) (h : argsK (Env.full 9) 0 args fun env => evC Try.prog c94 ir94.body env σ (retQ ir94 Q)) : ACalls Try.prog 94 args σ Q :=
  acalls_of Try.func94 ok94 rfl (Nat.le_of_ble_eq_true hl) h
/- status.isMiss -/
def c95 : Cfg := ⟨qs, [], 57, []⟩
def ir95 : IFun := ⟨2, [.tmp s4],
  (.seq (.reg (.one ⟨some s2, none, (.box 4 (.t s0))⟩
    (.one ⟨some s4, none, (.mv (.c (.v (.bool false))))⟩
    .done)))
  (.seq (.reg (.one ⟨some s7, none, (.mv (.t s1))⟩
    (.one ⟨some s8, none, (.build [(.v (.int .i64 0))] [(0, 1, (.t s7))])⟩
    (.one ⟨some s5, none, (.new [(.v (.int .i64 0))])⟩
    (.one ⟨none, none, (.store 1 (.t s5) (.t s8))⟩
    .done)))))
  (.seq (.reg (.one ⟨some s9, none, (.mv (.t s1))⟩
    (.one ⟨some s10, none, (.callq 104 [(.t s9)])⟩
    (.one ⟨some s11, none, (.bin false .shl (.c (.v (.int .i64 1))) (.t s10))⟩
    (.one ⟨some s12, none, (.bin false .sub (.t s11) (.c (.v (.int .i64 1))))⟩
    (.one ⟨some s6, none, (.mv (.t s12))⟩
    .done))))))
  (.seq (.block 0 (.seq (.reg (.one ⟨some s14, none, (.load (some 1) (.t s5))⟩
    (.one ⟨some s15, none, (.faddr 0 (.t s2))⟩
    (.one ⟨some s16, none, (.load none (.t s15))⟩
    (.one ⟨some s17, none, (.callq 106 [(.t s14), (.t s16)])⟩
    (.one ⟨some s18, none, (.not (.t s17))⟩
    (.one ⟨some s19, none, (.mv (.t s18))⟩
    (.one ⟨some s20, some (s19, false), (.faddr 2 (.t s2))⟩
    (.one ⟨some s21, some (s19, false), (.load none (.t s20))⟩
    (.one ⟨some s22, some (s19, false), (.bin false .lss (.t s21) (.c (.v (.int .i64 0))))⟩
    (.one ⟨some s23, none, (.pick (.t s19) (.c (.v (.bool true))) (.t s22))⟩
    (.one ⟨some s24, none, (.mv (.t s23))⟩
    (.one ⟨some s25, some (s24, false), (.faddr 3 (.t s2))⟩
    (.one ⟨some s26, some (s24, false), (.load none (.t s25))⟩
    (.one ⟨some s27, some (s24, false), (.bin false .lss (.t s26) (.c (.v (.int .i64 0))))⟩
    (.one ⟨some s28, none, (.pick (.t s24) (.c (.v (.bool true))) (.t s27))⟩
    (.one ⟨some s29, none, (.mv (.t s28))⟩
    (.one ⟨some s30, some (s29, false), (.faddr 3 (.t s2))⟩
    (.one ⟨some s31, some (s29, false), (.load none (.t s30))⟩
    (.one ⟨some s32, some (s29, false), (.mv (.t s6))⟩
    (.one ⟨some s33, some (s29, false), (.bin false .gtr (.t s31) (.t s32))⟩
    (.one ⟨some s34, none, (.pick (.t s29) (.c (.v (.bool true))) (.t s33))⟩
    (.one ⟨some s13, none, (.mv (.t s34))⟩
    .done)))))))))))))))))))))))
  (.cond (.t s13) (.seq (.reg (.one ⟨some s4, none, (.mv (.c (.v (.bool false))))⟩
    .done))
  .ret) (.seq (.reg (.one ⟨some s36, none, (.faddr 1 (.t s2))⟩
    (.one ⟨some s37, none, (.load none (.t s36))⟩
    (.one ⟨some s38, none, (.not (.t s37))⟩
    (.one ⟨some s35, none, (.mv (.t s38))⟩
    .done)))))
  (.cond (.t s35) (.seq (.reg (.one ⟨some s39, none, (.load (some 4) (.t s2))⟩
    (.one ⟨some s40, none, (.faddr 0 (.t s2))⟩
    (.one ⟨some s41, none, (.load none (.t s40))⟩
    (.one ⟨some s42, none, (.build [(.v (.int .i64 0)), (.v (.bool false)), (.v (.int .i64 0)), (.v (.int .i64 0))] [(0, 1, (.t s41))])⟩
    (.one ⟨some s43, none, (.eqAgg false [false, true, false, false] (.t s39) (.t s42))⟩
    (.one ⟨some s4, none, (.mv (.t s43))⟩
    .done)))))))
  .ret) (.seq (.reg (.one ⟨some s45, none, (.faddr 3 (.t s2))⟩
    (.one ⟨some s46, none, (.load none (.t s45))⟩
    (.one ⟨some s47, none, (.bin false .eql (.t s46) (.c (.v (.int .i64 0))))⟩
    (.one ⟨some s44, none, (.mv (.t s47))⟩
    .done)))))
  (.cond (.t s44) (.seq (.reg (.one ⟨some s48, none, (.faddr 2 (.t s2))⟩
    (.one ⟨some s49, none, (.load none (.t s48))⟩
    (.one ⟨some s50, none, (.mv (.t s6))⟩
    (.one ⟨some s51, none, (.bin false .leq (.t s49) (.t s50))⟩
    (.one ⟨some s4, none, (.mv (.t s51))⟩
    .done))))))
  .ret) .skip)))))))
  (.seq (.reg (.one ⟨some s52, none, (.faddr 2 (.t s2))⟩
    (.one ⟨some s53, none, (.load none (.t s52))⟩
    (.one ⟨some s54, none, (.faddr 3 (.t s2))⟩
    (.one ⟨some s55, none, (.load none (.t s54))⟩
    (.one ⟨some s56, none, (.bin false .lss (.t s53) (.t s55))⟩
    (.one ⟨some s4, none, (.mv (.t s56))⟩
    .done)))))))
  .ret)))))⟩
theorem ok95 : compF Try.prog c95 Try.f95 = some ir95 := by kernel_rfl
theorem k_status_isMiss {args : List AVal} {σ : AHeap} {Q : AVal → AHeap → Prop} (hl : Nat.ble args.length 57 = true) (h : argsK (Env.full 9) 0 args fun env => evC Try.prog c95 ir95.body env σ (retQ ir95 Q)) : ACalls Try.prog 95 args σ Q :=
  acalls_of Try.func95 ok95 rfl (Nat.le_of_ble_eq_true hl) h
/- status.bit -/
def c103 : Cfg := ⟨qs, [], 4, []⟩
def ir103 : IFun := ⟨1, [.tmp s2],
  (.seq (.reg (.one ⟨some s2, none, (.mv (.c (.v (.int .u64 0))))⟩
    .done))
  (.seq (.seq (.reg (.one ⟨some s3, none, (.mv (.t s0))⟩
    .done))
  (.cond (.t s3) (.seq (.reg (.one ⟨some s2, none, (.mv (.c (.v (.int .u64 1))))⟩
    .done))
  .ret) .skip))
  (.seq (.reg (.one ⟨some s2, none, (.mv (.c (.v (.int .u64 0))))⟩
    .done))
  .ret)))⟩
theorem ok103 : compF Try.prog c103 Try.f103 = some ir103 := by kernel_rfl
theorem k_status_bit {args : List AVal} {σ : AHeap} {Q : AVal → AHeap → Prop} (hl : Nat.ble args.length 4 = true) (h : argsK (Env.full 9) 0 args fun env => evC Try.prog c103 ir103.body env σ (retQ ir103 Q)) : ACalls Try.prog 103 args σ Q :=
  acalls_of Try.func103 ok103 rfl (Nat.le_of_ble_eq_true hl) h
/- status.offsetWidth -/
def c104 : Cfg := ⟨qs, [], 5, []⟩
def ir104 : IFun := ⟨1, [.tmp s2],
  (.seq (.reg (.one ⟨some s2, none, (.mv (.c (.v (.int .i64 0))))⟩
    .done))
  (.seq (.seq (.reg (.one ⟨some s3, none, (.mv (.t s0))⟩
    (.one ⟨some s4, none, (.bin false .eql (.t s3) (.c (.v (.int .i64 10))))⟩
    .done)))
  (.cond (.t s4) (.seq (.reg (.one ⟨some s2, none, (.mv (.c (.v (.int .i64 15))))⟩
    .done))
  .ret) .skip))
  (.seq (.reg (.one ⟨some s2, none, (.mv (.c (.v (.int .i64 16))))⟩
    .done))
  .ret)))⟩
theorem ok104 : compF Try.prog c104 Try.f104 = some ir104 := by kernel_rfl
theorem k_status_offsetWidth {args : List AVal} {σ : AHeap} {Q : AVal → AHeap → Prop} (hl : Nat.ble args.length 5 = true) (h : argsK (Env.full 9) 0 args fun env => evC Try.prog c104 ir104.body env σ (retQ ir104 Q)) : ACalls Try.prog 104 args σ Q :=
  acalls_of Try.func104 ok104 rfl (Nat.le_of_ble_eq_true hl) h
/- status.Miss] -/
def c107 : Cfg := ⟨qs, [], 9, []⟩
def ir107 : IFun := ⟨2, [.tmp s4],
  (.seq (.reg (.one ⟨some s4, none, (.mv (.c (.v (.bool false))))⟩
    .done))
  (.seq (.reg (.one ⟨some s5, none, (.mv (.t s0))⟩
    (.one ⟨some s6, none, (.mv (.t s1))⟩
    (.one ⟨some s7, none, (.callq 125 [(.t s5), (.t s6)])⟩
    (.one ⟨some s8, none, (.bin false .geq (.t s7) (.c (.v (.int .i64 0))))⟩
    (.one ⟨some s4, none, (.mv (.t s8))⟩
    .done))))))
  .ret))⟩
theorem ok107 : compF Try.prog c107 Try.f107 = some ir107 := by kernel_rfl
theorem k_status_Miss {args : List AVal} {σ : AHeap} {Q : AVal → AHeap → Prop} (hl : Nat.ble args.length 9 = true) (h : argsK (Env.full 9) 0 args fun env => evC Try.prog c107 ir107.body env σ (retQ ir107 Q)) : ACalls Try.prog 107 args σ Q :=
  acalls_of Try.func107 ok107 rfl (Nat.le_of_ble_eq_true hl) h
/- status.Right$1 -/
def c108 : Cfg := ⟨qs, [], 8, []⟩
def ir108 : IFun := ⟨2, [.tmp s3],
  (.seq (.reg (.one ⟨some s2, none, (.box 4 (.t s0))⟩
    (.one ⟨some s3, none, (.mv (.c (.v (.bool false))))⟩
    .done)))
  (.seq (.reg (.one ⟨some s4, none, (.load (some 4) (.t s2))⟩
    (.one ⟨some s5, none, (.load none (.t s1))⟩
    (.one ⟨some s6, none, (.callq 95 [(.t s4), (.t s5)])⟩
    (.one ⟨some s7, none, (.not (.t s6))⟩
    (.one ⟨some s3, none, (.mv (.t s7))⟩
    .done))))))
  .ret))⟩
theorem ok108 : compF Try.prog c108 Try.f108 = some ir108 := by kernel_rfl
theorem k_status_Right_1 {args : List AVal} {σ : AHeap} {Q : AVal → AHeap → Prop} (hl : Nat.ble args.length 8 = true) (h : argsK (Env.full 9) 0 args fun env => evC Try.prog c108 ir108.body env σ (retQ ir108 Q)) : ACalls Try.prog 108 args σ Q :=
  acalls_of Try.func108 ok108 rfl (Nat.le_of_ble_eq_true hl) h
/- status.Miss] -/
def c109 : Cfg := ⟨qs, [], 26, []⟩
def ir109 : IFun := ⟨2, [.tmp s4],
  (.seq (.reg (.one ⟨some s4, none, (.mv (.c (.v (.bool false))))⟩
    .done))
  (.seq (.seq (.reg (.one ⟨some s6, none, (.mv (.t s0))⟩
    (.one ⟨some s7, none, (.len false (.t s6))⟩
    (.one ⟨some s8, none, (.mv (.t s1))⟩
    (.one ⟨some s9, none, (.len false (.t s8))⟩
    (.one ⟨some s10, none, (.bin false .neq (.t s7) (.t s9))⟩
    .done))))))
  (.cond (.t s10) (.seq (.reg (.one ⟨some s4, none, (.mv (.c (.v (.bool false))))⟩
    .done))
  .ret) .skip))
  (.seq (.seq (.reg (.one ⟨some s11, none, (.mv (.t s0))⟩
    (.one ⟨some s12, none, (.len false (.t s11))⟩
    (.one ⟨some s13, none, (.mv (.c (.v (.int .i64 0))))⟩
    .done))))
  (.block 0 (.loop (.seq (.reg (.one ⟨some s14, none, (.bin false .lss (.t s13) (.t s12))⟩
    .done))
  (.seq (.cond (.t s14) .skip (.exit 0))
  (.seq (.block 1 (.seq (.reg (.one ⟨some s15, none, (.mv (.t s13))⟩
    (.one ⟨some s5, none, (.mv (.t s15))⟩
    .done)))
  (.seq (.reg (.one ⟨some s16, none, (.mv (.t s0))⟩
    (.one ⟨some s17, none, (.mv (.t s5))⟩
    (.one ⟨some s18, none, (.iaddr 4 (.t s16) (.t s17))⟩
    (.one ⟨some s19, none, (.load (some 4) (.t s18))⟩
    (.one ⟨some s20, none, (.mv (.t s1))⟩
    (.one ⟨some s21, none, (.mv (.t s5))⟩
    (.one ⟨some s22, none, (.iaddr 4 (.t s20) (.t s21))⟩
    (.one ⟨some s23, none, (.load (some 4) (.t s22))⟩
    (.one ⟨some s24, none, (.eqAgg true [false, true, false, false] (.t s19) (.t s23))⟩
    .done))))))))))
  (.cond (.t s24) (.seq (.reg (.one ⟨some s4, none, (.mv (.c (.v (.bool false))))⟩
    .done))
  .ret) .skip))))
  (.reg (.one ⟨some s25, none, (.bin false .add (.t s13) (.c (.v (.int .i64 1))))⟩
    (.one ⟨some s13, none, (.mv (.t s25))⟩
    .done)))))))))
  (.seq (.reg (.one ⟨some s4, none, (.mv (.c (.v (.bool true))))⟩
    .done))
  .ret))))⟩
theorem ok109 : compF Try.prog c109 Try.f109 = some ir109 := by kernel_rfl
theorem k_status_Miss_109 {args : List AVal} {σ : AHeap} {Q : AVal → AHeap → Prop} (hl : Nat.ble args.length 26 = true) (h : argsK (Env.full 9) 0 args fun env => evC Try.prog c109 ir109.body env σ (retQ ir109 Q)) : ACalls Try.prog 109 args σ Q :=
  acalls_of Try.func109 ok109 rfl (Nat.le_of_ble_eq_true hl) h
/- status.Miss] -/
def c125 : Cfg := ⟨qs, [], 19, []⟩
def ir125 : IFun := ⟨2, [.tmp s4],
  (.seq (.reg (.one ⟨some s4, none, (.mv (.c (.v (.int .i64 0))))⟩
    .done))
  (.seq (.seq (.reg (.one ⟨some s6, none, (.mv (.t s0))⟩
    (.one ⟨some s7, none, (.len false (.t s6))⟩
    (.one ⟨some s8, none, (.mv (.c (.v (.int .i64 0))))⟩
    .done))))
  (.block 0 (.loop (.seq (.reg (.one ⟨some s9, none, (.bin false .lss (.t s8) (.t s7))⟩
    .done))
  (.seq (.cond (.t s9) .skip (.exit 0))
  (.seq (.block 1 (.seq (.reg (.one ⟨some s10, none, (.mv (.t s8))⟩
    (.one ⟨some s5, none, (.mv (.t s10))⟩
    .done)))
  (.seq (.reg (.one ⟨some s11, none, (.mv (.t s1))⟩
    (.one ⟨some s12, none, (.mv (.t s0))⟩
    (.one ⟨some s13, none, (.mv (.t s5))⟩
    (.one ⟨some s14, none, (.iaddr 4 (.t s12) (.t s13))⟩
    (.one ⟨some s15, none, (.load (some 4) (.t s14))⟩
    (.one ⟨some s16, none, (.callv (.t s11) [(.t s15)])⟩
    .done)))))))
  (.cond (.t s16) (.seq (.reg (.one ⟨some s17, none, (.mv (.t s5))⟩
    (.one ⟨some s4, none, (.mv (.t s17))⟩
    .done)))
  .ret) .skip))))
  (.reg (.one ⟨some s18, none, (.bin false .add (.t s8) (.c (.v (.int .i64 1))))⟩
    (.one ⟨some s8, none, (.mv (.t s18))⟩
    .done)))))))))
  (.seq (.reg (.one ⟨some s4, none, (.mv (.c (.v (.int .i64 (-1)))))⟩
    .done))
  .ret)))⟩
theorem ok125 : compF Try.prog c125 Try.f125 = some ir125 := by kernel_rfl
theorem k_status_Miss_125 {args : List AVal} {σ : AHeap} {Q : AVal → AHeap → Prop} (hl : Nat.ble args.length 19 = true) (h : argsK (Env.full 9) 0 args fun env => evC Try.prog c125 ir125.body env σ (retQ ir125 Q)) : ACalls Try.prog 125 args σ Q :=
  acalls_of Try.func125 ok125 rfl (Nat.le_of_ble_eq_true hl) h
end Go.Proofs.Ytnfdgccmpglbhaa
