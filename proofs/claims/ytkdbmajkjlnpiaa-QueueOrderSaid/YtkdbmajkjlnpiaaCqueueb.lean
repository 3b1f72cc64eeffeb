/-
  What is taken of a queue.
-/
import Derived.Test.YtkdbmajkjlnpiaaCqueue
namespace Go.Proofs.Ytkdbmajkjlnpiaa
set_option linter.unusedVariables false
set_option linter.unusedSimpArgs false
open Go Go.Am

theorem CloneT (τ : List Txt) (t : Tok) (σ : AHeap) (hl : τ.length ≤ 1000) : ACalls Try.prog i_queue_text [.slice 2 (τ.map txV) t] σ fun v σ' => ∃ tk, Owned σ σ' tk ∧ v = .slice 2 (τ.map txV) tk := by
  refine k_queue_text rfl ?_
  (conv => whnf)
  refine anil ?_ ?_
  · (conv => whnf)
    refine abr_false rfl ?_
    (conv => whnf)
    refine aapp_full (by rw [List.length_map]; show (0 + τ.length) * 32 ≤ _; omega) fun t' ht' => ?_
    (conv => whnf)
    exact aret_same ⟨_, .tip ht', rfl⟩
  · intro h0
    (conv => whnf)
    refine abr_true rfl ?_
    (conv => whnf)
    have : τ = [] := by simpa using h0
    subst this
    exact aret_same ⟨_, .full σ, rfl⟩

def takeCode (q : QS) (n : Int) : Int := match q.ts with
  | [] => 4
  | t :: _ => if n < 1 ∨ n > (t.2.length : Int) - q.taken then 1 else 0
def takeQ (q : QS) (n : Int) : QS := match q.ts with
  | [] => q
  | t :: ts => if takeCode q n = 0 then (if n < (t.2.length : Int) - q.taken then ⟨q.room, q.ts, q.taken + n.toNat, q.last⟩ else ⟨q.room, ts, 0, q.last⟩) else q
def takeB (q : QS) (n : Int) : List UInt8 := match q.ts with
  | [] => []
  | t :: _ => if takeCode q n = 0 then (t.2.drop q.taken).take n.toNat else []
def takeAll (q : QS) (n : Int) : Bool := match q.ts with
  | [] => false
  | t :: _ => if takeCode q n = 0 then decide (n = (t.2.length : Int) - q.taken) else false

set_option maxRecDepth 20000 in
theorem qTake (id : Nat) (q : QS) (n : Int) (σ σb : AHeap) (h : Qu σ id q σb) :
    ACalls Try.prog i_queue_Queue_Take [.ptr id 0, i64v n] σ fun v σ' => v = .tup [sl .none (takeB q n), boolv (takeAll q n), i64v (takeCode q n)] ∧ Qu σ' id (takeQ q n) σb := by
  have hQ := h
  obtain ⟨hid, hq, τ, tk, hτ, rfl⟩ := h
  have hle := hq.le
  have r1 := hq.room1
  have r2 := hq.room2
  have r3 := hq.fits
  have few := hq.few
  refine k_queue_Queue_Take rfl ?_
  ((conv => whnf); (repeat ((first | with_reducible refine abr_true rfl ?_ | with_reducible refine abr_false rfl ?_ | with_reducible refine abr_yes rfl ?_ | refine abr_yes (by decide) ?_ | refine abr_no (by decide) ?_ | with_reducible refine abr_same_ne ?_); (conv => whnf))))
  refine acall (qMade id q _ _ hQ) ?_
  rintro _ σ_ ⟨rfl, e_⟩
  obtain rfl := e_.symm
  refine ⟨?_, Ext.refl _⟩
  ((conv => whnf); (repeat ((first | with_reducible refine abr_true rfl ?_ | with_reducible refine abr_false rfl ?_ | with_reducible refine abr_yes rfl ?_ | refine abr_yes (by decide) ?_ | refine abr_no (by decide) ?_ | with_reducible refine abr_same_ne ?_); (conv => whnf))))
  refine aload (upd_same _ _ _) rfl ?_
  ((conv => whnf); (repeat ((first | with_reducible refine abr_true rfl ?_ | with_reducible refine abr_false rfl ?_ | with_reducible refine abr_yes rfl ?_ | refine abr_yes (by decide) ?_ | refine abr_no (by decide) ?_ | with_reducible refine abr_same_ne ?_); (conv => whnf))))
  rw [List.length_map]
  cases τ with
  | nil =>
    have hts : q.ts = [] := hτ.symm
    ((conv => whnf); (repeat ((first | with_reducible refine abr_true rfl ?_ | with_reducible refine abr_false rfl ?_ | with_reducible refine abr_yes rfl ?_ | refine abr_yes (by decide) ?_ | refine abr_no (by decide) ?_ | with_reducible refine abr_same_ne ?_); (conv => whnf))))
    refine aret VLe.tup_sl (Sub.refl _) ⟨?_, ?_⟩
    · unfold takeB takeAll takeCode; rw [hts]; rfl
    · unfold takeQ; rw [hts]; exact hQ
  | cons t τ =>
    have hts : q.ts = strip t :: τ.map strip := hτ.symm
    have hb := hq.begun
    have he := hq.each (strip t) (by rw [hts]; exact List.mem_cons_self ..)
    rw [hts] at hb
    have hb2 : q.taken < t.2.1.length := hb
    have he2 : t.2.1.length ≤ 1000 := he.2
    have hfl : τ.length ≤ 63 := by rw [hts] at few; simp at few; omega
    have ecode : takeCode q n = if n < 1 ∨ n > (t.2.1.length : Int) - q.taken then 1 else 0 := by unfold takeCode; rw [hts]; rfl
    have htot : tot q.ts = t.2.1.length + tot (τ.map strip) := by rw [hts, tot_cons]; rfl
    refine abr_no (by simp; omega) ?_
    ((conv => whnf); (repeat ((first | with_reducible refine abr_true rfl ?_ | with_reducible refine abr_false rfl ?_ | with_reducible refine abr_yes rfl ?_ | refine abr_yes (by decide) ?_ | refine abr_no (by decide) ?_ | with_reducible refine abr_same_ne ?_); (conv => whnf))))
    (repeat ((first | refine aload (by (repeat (first | with_reducible exact upd_same _ _ _ | assumption | rw [upd_ne _ _ (by first | assumption | (apply Ne.symm; assumption))]))) rfl ?_ | refine afit_i64 (by omega) ?_ | refine arem_nonneg (by omega) (by omega) ?_ | refine adiv_i64 (by omega) (by omega) ?_ | refine abr_yes (by omega) ?_ | refine abr_no (by omega) ?_ | refine amin ?_ | refine amax ?_ | refine afit_u64 (by omega) ?_ | refine afit_u8 (by omega) ?_ | rw [List.length_map]); ((conv => whnf); (repeat ((first | with_reducible refine abr_true rfl ?_ | with_reducible refine abr_false rfl ?_ | with_reducible refine abr_yes rfl ?_ | refine abr_yes (by decide) ?_ | refine abr_no (by decide) ?_ | with_reducible refine abr_same_ne ?_); (conv => whnf))))))
    refine aget (x := txV t) (by omega) rfl ?_
    ((conv => whnf); (repeat ((first | with_reducible refine abr_true rfl ?_ | with_reducible refine abr_false rfl ?_ | with_reducible refine abr_yes rfl ?_ | refine abr_yes (by decide) ?_ | refine abr_no (by decide) ?_ | with_reducible refine abr_same_ne ?_); (conv => whnf))))
    refine acell rfl ?_
    ((conv => whnf); (repeat ((first | with_reducible refine abr_true rfl ?_ | with_reducible refine abr_false rfl ?_ | with_reducible refine abr_yes rfl ?_ | refine abr_yes (by decide) ?_ | refine abr_no (by decide) ?_ | with_reducible refine abr_same_ne ?_); (conv => whnf))))
    (repeat ((first | refine aload (by (repeat (first | with_reducible exact upd_same _ _ _ | assumption | rw [upd_ne _ _ (by first | assumption | (apply Ne.symm; assumption))]))) rfl ?_ | refine afit_i64 (by omega) ?_ | refine arem_nonneg (by omega) (by omega) ?_ | refine adiv_i64 (by omega) (by omega) ?_ | refine abr_yes (by omega) ?_ | refine abr_no (by omega) ?_ | refine amin ?_ | refine amax ?_ | refine afit_u64 (by omega) ?_ | refine afit_u8 (by omega) ?_ | rw [List.length_map]); ((conv => whnf); (repeat ((first | with_reducible refine abr_true rfl ?_ | with_reducible refine abr_false rfl ?_ | with_reducible refine abr_yes rfl ?_ | refine abr_yes (by decide) ?_ | refine abr_no (by decide) ?_ | with_reducible refine abr_same_ne ?_); (conv => whnf))))))
    refine acut (by omega) (by omega) (by omega) ?_
    ((conv => whnf); (repeat ((first | with_reducible refine abr_true rfl ?_ | with_reducible refine abr_false rfl ?_ | with_reducible refine abr_yes rfl ?_ | refine abr_yes (by decide) ?_ | refine abr_no (by decide) ?_ | with_reducible refine abr_same_ne ?_); (conv => whnf))))
    rw [show ((q.taken : Nat) : Int).toNat = q.taken by omega, show ((t.2.1.length : Nat) : Int).toNat = t.2.1.length by omega, List.take_of_length_le (by simp), ← List.map_drop]
    have bad (hc : takeCode q n = 1) : AVal.tup [sl .none [], boolv false, i64v 1] = .tup [sl .none (takeB q n), boolv (takeAll q n), i64v (takeCode q n)] ∧ Qu (upd σb id (.cells (qcells q (t :: τ) tk))) id (takeQ q n) σb := by
      refine ⟨?_, ?_⟩
      · unfold takeB takeAll; rw [hts, hc]; rfl
      · unfold takeQ; rw [hts, hc]; exact hQ
    by_cases h1 : n < 1
    · refine abr_yes h1 ?_
      ((conv => whnf); (repeat ((first | with_reducible refine abr_true rfl ?_ | with_reducible refine abr_false rfl ?_ | with_reducible refine abr_yes rfl ?_ | refine abr_yes (by decide) ?_ | refine abr_no (by decide) ?_ | with_reducible refine abr_same_ne ?_); (conv => whnf))))
      exact aret VLe.tup_sl (Sub.refl _) (bad (by rw [ecode, if_pos (.inl h1)]))
    · refine abr_no h1 ?_
      ((conv => whnf); (repeat ((first | with_reducible refine abr_true rfl ?_ | with_reducible refine abr_false rfl ?_ | with_reducible refine abr_yes rfl ?_ | refine abr_yes (by decide) ?_ | refine abr_no (by decide) ?_ | with_reducible refine abr_same_ne ?_); (conv => whnf))))
      rw [List.length_map, List.length_drop]
      by_cases h2 : n > (t.2.1.length : Int) - q.taken
      · refine abr_yes (by omega) ?_
        ((conv => whnf); (repeat ((first | with_reducible refine abr_true rfl ?_ | with_reducible refine abr_false rfl ?_ | with_reducible refine abr_yes rfl ?_ | refine abr_yes (by decide) ?_ | refine abr_no (by decide) ?_ | with_reducible refine abr_same_ne ?_); (conv => whnf))))
        exact aret VLe.tup_sl (Sub.refl _) (bad (by rw [ecode, if_pos (.inr h2)]))
      · have hc : takeCode q n = 0 := by rw [ecode, if_neg (by omega)]
        refine abr_no (by omega) ?_
        ((conv => whnf); (repeat ((first | with_reducible refine abr_true rfl ?_ | with_reducible refine abr_false rfl ?_ | with_reducible refine abr_yes rfl ?_ | refine abr_yes (by decide) ?_ | refine abr_no (by decide) ?_ | with_reducible refine abr_same_ne ?_); (conv => whnf))))
        refine acut (by omega) (by omega) (by rw [List.length_map, List.length_drop]; omega) ?_
        ((conv => whnf); (repeat ((first | with_reducible refine abr_true rfl ?_ | with_reducible refine abr_false rfl ?_ | with_reducible refine abr_yes rfl ?_ | refine abr_yes (by decide) ?_ | refine abr_no (by decide) ?_ | with_reducible refine abr_same_ne ?_); (conv => whnf))))
        refine ⟨rfl, rfl, ?_⟩
        rw [← List.map_take, show (0 : Int).toNat = 0 from rfl, List.drop_zero]
        ((conv => whnf); (repeat ((first | with_reducible refine abr_true rfl ?_ | with_reducible refine abr_false rfl ?_ | with_reducible refine abr_yes rfl ?_ | refine abr_yes (by decide) ?_ | refine abr_no (by decide) ?_ | with_reducible refine abr_same_ne ?_); (conv => whnf))))
        refine acall (Clone ((t.2.1.drop q.taken).take n.toNat) _ _ (by rw [List.length_take, List.length_drop]; omega)) ?_
        rintro v σ' ⟨tk3, ho, rfl⟩
        refine ⟨?_, ho.ext⟩
        have hid1 := ho.same_of (upd_same σb id (.cells (qcells q (t :: τ) tk)))
        ((conv => whnf); (repeat ((first | with_reducible refine abr_true rfl ?_ | with_reducible refine abr_false rfl ?_ | with_reducible refine abr_yes rfl ?_ | refine abr_yes (by decide) ?_ | refine abr_no (by decide) ?_ | with_reducible refine abr_same_ne ?_); (conv => whnf))))
        refine aload hid1 rfl ?_
        ((conv => whnf); (repeat ((first | with_reducible refine abr_true rfl ?_ | with_reducible refine abr_false rfl ?_ | with_reducible refine abr_yes rfl ?_ | refine abr_yes (by decide) ?_ | refine abr_no (by decide) ?_ | with_reducible refine abr_same_ne ?_); (conv => whnf))))
        (repeat ((first | refine aload (by (repeat (first | with_reducible exact upd_same _ _ _ | assumption | rw [upd_ne _ _ (by first | assumption | (apply Ne.symm; assumption))]))) rfl ?_ | refine afit_i64 (by omega) ?_ | refine arem_nonneg (by omega) (by omega) ?_ | refine adiv_i64 (by omega) (by omega) ?_ | refine abr_yes (by omega) ?_ | refine abr_no (by omega) ?_ | refine amin ?_ | refine amax ?_ | refine afit_u64 (by omega) ?_ | refine afit_u8 (by omega) ?_ | rw [List.length_map]); ((conv => whnf); (repeat ((first | with_reducible refine abr_true rfl ?_ | with_reducible refine abr_false rfl ?_ | with_reducible refine abr_yes rfl ?_ | refine abr_yes (by decide) ?_ | refine abr_no (by decide) ?_ | with_reducible refine abr_same_ne ?_); (conv => whnf))))))
        refine astore (xs := [i64v ((q.taken : Int) + n)]) (l := [i64v q.room, .slice 2 ((t :: τ).map txV) tk, i64v ((q.taken : Int) + n), u64v q.last, i64v ((tot q.ts : Int) - q.taken)]) hid1 (Nat.le_of_ble_eq_true rfl) rfl rfl ?_
        ((conv => whnf); (repeat ((first | with_reducible refine abr_true rfl ?_ | with_reducible refine abr_false rfl ?_ | with_reducible refine abr_yes rfl ?_ | refine abr_yes (by decide) ?_ | refine abr_no (by decide) ?_ | with_reducible refine abr_same_ne ?_); (conv => whnf))))
        (repeat ((first | refine aload (by (repeat (first | with_reducible exact upd_same _ _ _ | assumption | rw [upd_ne _ _ (by first | assumption | (apply Ne.symm; assumption))]))) rfl ?_ | refine afit_i64 (by omega) ?_ | refine arem_nonneg (by omega) (by omega) ?_ | refine adiv_i64 (by omega) (by omega) ?_ | refine abr_yes (by omega) ?_ | refine abr_no (by omega) ?_ | refine amin ?_ | refine amax ?_ | refine afit_u64 (by omega) ?_ | refine afit_u8 (by omega) ?_ | rw [List.length_map]); ((conv => whnf); (repeat ((first | with_reducible refine abr_true rfl ?_ | with_reducible refine abr_false rfl ?_ | with_reducible refine abr_yes rfl ?_ | refine abr_yes (by decide) ?_ | refine abr_no (by decide) ?_ | with_reducible refine abr_same_ne ?_); (conv => whnf))))))
        refine astore (xs := [i64v ((tot q.ts : Int) - q.taken - n)]) (l := [i64v q.room, .slice 2 ((t :: τ).map txV) tk, i64v ((q.taken : Int) + n), u64v q.last, i64v ((tot q.ts : Int) - q.taken - n)]) (upd_same _ _ _) (Nat.le_of_ble_eq_true rfl) rfl rfl ?_
        rw [upd_upd]
        ((conv => whnf); (repeat ((first | with_reducible refine abr_true rfl ?_ | with_reducible refine abr_false rfl ?_ | with_reducible refine abr_yes rfl ?_ | refine abr_yes (by decide) ?_ | refine abr_no (by decide) ?_ | with_reducible refine abr_same_ne ?_); (conv => whnf))))
        rw [List.length_map, List.length_drop]
        have hsub : ∀ c, Sub (upd σ' id c) (upd σb id c) := fun c => Sub.upd (ho.sub.trans (Sub.upd_fresh _ hid)) _ _
        have eB : takeB q n = (t.2.1.drop q.taken).take n.toNat := by unfold takeB; rw [hts, hc]; rfl
        by_cases h3 : n < (t.2.1.length : Int) - q.taken
        · refine abr_yes (by omega) ?_
          ((conv => whnf); (repeat ((first | with_reducible refine abr_true rfl ?_ | with_reducible refine abr_false rfl ?_ | with_reducible refine abr_yes rfl ?_ | refine abr_yes (by decide) ?_ | refine abr_no (by decide) ?_ | with_reducible refine abr_same_ne ?_); (conv => whnf))))
          have eQ : takeQ q n = ⟨q.room, q.ts, q.taken + n.toNat, q.last⟩ := by
            unfold takeQ; rw [hc]
            rw [hts]
            show (if (0 : Int) = 0 then (if n < (t.2.1.length : Int) - q.taken then _ else _) else q) = _
            rw [if_pos rfl, if_pos h3]
          have eA : takeAll q n = false := by
            unfold takeAll; rw [hts, hc]
            show (if (0 : Int) = 0 then decide (n = (t.2.1.length : Int) - q.taken) else false) = false
            rw [if_pos rfl, decide_eq_false (by omega)]
          refine aret VLe.tup_sl (hsub _) ⟨by rw [eB, eA, hc], ?_⟩
          rw [eQ]
          refine ⟨hid, ⟨r1, r2, few, hq.each, ?_, by dsimp only; omega, hq.last⟩, t :: τ, tk, hτ, ?_⟩
          · dsimp only
            rw [hts]
            show q.taken + n.toNat < t.2.1.length
            omega
          · unfold qcells
            dsimp only
            rw [show ((q.taken + n.toNat : Nat) : Int) = (q.taken : Int) + n by omega, show (tot q.ts : Int) - ((q.taken : Int) + n) = (tot q.ts : Int) - q.taken - n by omega]
        · have hn : n = (t.2.1.length : Int) - q.taken := by omega
          refine abr_no (by omega) ?_
          ((conv => whnf); (repeat ((first | with_reducible refine abr_true rfl ?_ | with_reducible refine abr_false rfl ?_ | with_reducible refine abr_yes rfl ?_ | refine abr_yes (by decide) ?_ | refine abr_no (by decide) ?_ | with_reducible refine abr_same_ne ?_); (conv => whnf))))
          (repeat ((first | refine aload (by (repeat (first | with_reducible exact upd_same _ _ _ | assumption | rw [upd_ne _ _ (by first | assumption | (apply Ne.symm; assumption))]))) rfl ?_ | refine afit_i64 (by omega) ?_ | refine arem_nonneg (by omega) (by omega) ?_ | refine adiv_i64 (by omega) (by omega) ?_ | refine abr_yes (by omega) ?_ | refine abr_no (by omega) ?_ | refine amin ?_ | refine amax ?_ | refine afit_u64 (by omega) ?_ | refine afit_u8 (by omega) ?_ | rw [List.length_map]); ((conv => whnf); (repeat ((first | with_reducible refine abr_true rfl ?_ | with_reducible refine abr_false rfl ?_ | with_reducible refine abr_yes rfl ?_ | refine abr_yes (by decide) ?_ | refine abr_no (by decide) ?_ | with_reducible refine abr_same_ne ?_); (conv => whnf))))))
          have hlen : ((t :: τ).map txV).length = τ.length + 1 := by simp
          have hlen2 : (t :: τ).length = τ.length + 1 := rfl
          refine acut (by omega) (by omega) (by omega) ?_
          ((conv => whnf); (repeat ((first | with_reducible refine abr_true rfl ?_ | with_reducible refine abr_false rfl ?_ | with_reducible refine abr_yes rfl ?_ | refine abr_yes (by decide) ?_ | refine abr_no (by decide) ?_ | with_reducible refine abr_same_ne ?_); (conv => whnf))))
          rw [show (1 : Int).toNat = 1 from rfl, List.take_of_length_le (by rw [hlen]; simp), ← List.map_drop, List.drop_succ_cons, List.drop_zero]
          refine acall (CloneT τ _ _ (by omega)) ?_
          rintro v σ2 ⟨tk4, ho4, rfl⟩
          refine ⟨?_, ho4.ext⟩
          ((conv => whnf); (repeat ((first | with_reducible refine abr_true rfl ?_ | with_reducible refine abr_false rfl ?_ | with_reducible refine abr_yes rfl ?_ | refine abr_yes (by decide) ?_ | refine abr_no (by decide) ?_ | with_reducible refine abr_same_ne ?_); (conv => whnf))))
          refine astore (xs := [i64v 0]) (l := [i64v q.room, .slice 2 ((t :: τ).map txV) tk, i64v 0, u64v q.last, i64v ((tot q.ts : Int) - q.taken - n)]) (ho4.same_of (upd_same _ _ _)) (Nat.le_of_ble_eq_true rfl) rfl rfl ?_
          ((conv => whnf); (repeat ((first | with_reducible refine abr_true rfl ?_ | with_reducible refine abr_false rfl ?_ | with_reducible refine abr_yes rfl ?_ | refine abr_yes (by decide) ?_ | refine abr_no (by decide) ?_ | with_reducible refine abr_same_ne ?_); (conv => whnf))))
          refine astore (xs := [.slice 2 (τ.map txV) tk4]) (l := [i64v q.room, .slice 2 (τ.map txV) tk4, i64v 0, u64v q.last, i64v ((tot q.ts : Int) - q.taken - n)]) (upd_same _ _ _) (Nat.le_of_ble_eq_true rfl) rfl rfl ?_
          rw [upd_upd]
          ((conv => whnf); (repeat ((first | with_reducible refine abr_true rfl ?_ | with_reducible refine abr_false rfl ?_ | with_reducible refine abr_yes rfl ?_ | refine abr_yes (by decide) ?_ | refine abr_no (by decide) ?_ | with_reducible refine abr_same_ne ?_); (conv => whnf))))
          have eQ : takeQ q n = ⟨q.room, τ.map strip, 0, q.last⟩ := by
            unfold takeQ; rw [hc]
            rw [hts]
            show (if (0 : Int) = 0 then (if n < (t.2.1.length : Int) - q.taken then _ else _) else q) = _
            rw [if_pos rfl, if_neg h3]
          have eA : takeAll q n = true := by
            unfold takeAll; rw [hts, hc]
            show (if (0 : Int) = 0 then decide (n = (t.2.1.length : Int) - q.taken) else false) = true
            rw [if_pos rfl, decide_eq_true hn]
          have hsub2 : ∀ c, Sub (upd σ2 id c) (upd σb id c) := fun c => Sub.upd (ho4.sub.trans ((Sub.upd (ho.sub.trans (Sub.upd_fresh _ hid)) id _).trans (Sub.upd_fresh _ hid))) _ _
          refine aret VLe.tup_sl (hsub2 _) ⟨by rw [eB, eA, hc], ?_⟩
          rw [eQ]
          refine ⟨hid, ⟨r1, r2, by dsimp only; rw [List.length_map]; omega, ?_, ?_, by dsimp only; omega, hq.last⟩, τ, tk4, rfl, ?_⟩
          · intro u hu
            exact hq.each u (by rw [hts]; exact List.mem_cons_of_mem _ hu)
          · dsimp only
            cases τ with
            | nil => rfl
            | cons u τ =>
              show 0 < (strip u).2.length
              have := (hq.each (strip u) (by rw [hts]; exact List.mem_cons_of_mem _ (List.mem_cons_self ..))).1
              omega
          · unfold qcells
            dsimp only
            rw [show ((tot (τ.map strip) : Nat) : Int) - ((0 : Nat) : Int) = (tot q.ts : Int) - q.taken - n by omega]
            rfl
end Go.Proofs.Ytkdbmajkjlnpiaa

