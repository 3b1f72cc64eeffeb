/-
  Texts of this claim, part 4: Claw14e, Claw14f.
-/
import Derived.Test.YtiohpnkfcaahbaaGlueLosesM2
/-
  Glues: the pieces of texts, glued.
-/
namespace Go.Proofs.Ytiohpnkfcaahbaa
set_option linter.unusedVariables false
set_option linter.unusedSimpArgs false
open Go Go.Am

/-- What is told of a chain's pieces, one by one. -/
theorem chain_cut {q q1 : QS} : ∀ {ps : List Pc}, Chain q ps q1 → ∀ i, (h : i < ps.length) → ∃ qi room, Chain q (ps.take i) qi ∧ askCut room 11 = 0 ∧ cutCode room 11 qi = 0 ∧ QOk qi ∧ ps[i] = cutP room 11 qi ∧ Chain (cutQ room 11 qi) (ps.drop (i + 1)) q1
  | _, .nil _, i, h => absurd h (Nat.not_lt_zero _)
  | _, .cons room ask code ok rest, 0, h => ⟨q, room, .nil _, ask, code, ok, rfl, rest⟩
  | _, .cons room ask code ok rest, i + 1, h => by
    obtain ⟨qi, r, c1, c2, c3, c4, c5, c6⟩ := chain_cut rest i (by simpa using h)
    exact ⟨qi, r, .cons room ask code ok c1, c2, c3, c4, by simpa using c5, c6⟩
/-- How many texts end in pieces. -/
def dones (ps : List Pc) : Nat := (ps.map fun p => p.2.2.length).sum
theorem dones_snoc (ps : List Pc) (p : Pc) : dones (ps ++ [p]) = dones ps + p.2.2.length := by unfold dones; simp
theorem dones_take (ps : List Pc) (i : Nat) (h : i < ps.length) : dones (ps.take (i + 1)) = dones (ps.take i) + ps[i].2.2.length := by
  rw [List.take_add_one, List.getElem?_eq_getElem h]; exact dones_snoc _ _
theorem chain_ts {q q1 : QS} {ps : List Pc} (h : Chain q ps q1) : q1.ts = q.ts.drop (dones ps) ∧ dones ps ≤ q.ts.length := by
  induction h with
  | nil q => exact ⟨by simp [dones], by simp [dones]⟩
  | cons room ask code ok rest ih =>
    rename_i q q' ps
    have g := piece_put (n := 0) ok ask code (.inr rfl)
    obtain ⟨i1, i2⟩ := ih
    have g1 := g.ts
    have g2 := g.le
    rw [g1] at i1 i2
    have e : dones (cutP room 11 q :: ps) = (cutP room 11 q).2.2.length + dones ps := by unfold dones; simp
    rw [List.length_drop] at i2
    rw [e]
    exact ⟨by rw [i1, List.drop_drop], by omega⟩
theorem cut_size {room : Int} {q : QS} (hq : QOk q) (hask : askCut room 11 = 0) (hcode : cutCode room 11 q = 0) : (cutP room 11 q).2.1.length ≤ 24 ∧ ∀ f ∈ (cutP room 11 q).2.1, f.length ≤ 4000 := by
  have g := (piece_put (n := 0) hq hask hcode (.inr rfl)).good
  have h24 : (cutP room 11 q).2.1.length ≤ 24 := by
    refine Classical.byContradiction fun k => ?_
    unfold putBad at g
    rw [decide_eq_true (show (cutP room 11 q).2.1.length > 24 by omega)] at g
    simp at g
  refine ⟨h24, fun f hf => ?_⟩
  obtain ⟨r, hr⟩ : ∃ r, r = cutR room 11 q := ⟨_, rfl⟩
  have hres := cut_res (room := room) (w := 11) hq
  rw [← hr] at hres
  obtain ⟨_, h1, h2⟩ := cutP_of hask hr
  have hF0 : r.2.2.1.length ≠ 0 := fun e => by rw [(h2 e).1] at hcode; cases hcode
  rw [(h1 hF0).2] at hf
  have hroom := (askCut_ok hask).2
  have ht : total r.2.2.1 ≤ 4000 := by
    clear h1 h2 hr hf
    cases hres with
    | whole d hd h24 fit hend =>
      have hd0 : d ≠ 0 := fun e => hF0 (by show (stP q d).2.1.length = 0; rw [stP_len hd]; exact e)
      have := fit (by omega)
      have := sizeV_range ((d : Int) - 1) 11
      show total (stP q d).2.1 ≤ 4000
      omega
    | part d m hd h24 hm1 hm fit =>
      have := sizeV_range (d : Int) 11
      show total ((stP q d).2.1 ++ [_]) ≤ 4000
      rw [total_append, total_cons, total_nil, List.length_take]
      omega
  obtain ⟨i, hi, rfl⟩ := List.getElem_of_mem hf
  exact Nat.le_trans (total_get hi) ht

set_option maxRecDepth 20000 in
set_option maxHeartbeats 2000000 in
theorem GlueJoins (texts : List (List UInt8)) (rooms : List Nat) (σ : AHeap) (hr : ∀ r ∈ rooms, r < 65536) (hrl : rooms.length ≤ 140737488351232) :
    ACalls Try.prog i_bowlinelaw14_GlueJoins [lists .none texts, .slice 1 (rooms.map u16n) .none] σ fun v σ' => v = boolv true ∧ σ' = σ := by
  refine k_bowlinelaw14_GlueJoins rfl ?_
  ((conv => whnf); (repeat ((first | with_reducible refine abr_true rfl ?_ | with_reducible refine abr_false rfl ?_ | with_reducible refine abr_yes rfl ?_ | refine abr_yes (by decide) ?_ | refine abr_no (by decide) ?_ | with_reducible refine abr_same_ne ?_); (conv => whnf))))
  refine acall (mkPieces texts rooms σ hr hrl) ?_
  rintro _ σ_ ⟨⟨ps, kept, ok, rfl, hok⟩, e_⟩
  obtain rfl := e_.symm
  refine ⟨?_, Ext.refl _⟩
  ((conv => whnf); (repeat ((first | with_reducible refine abr_true rfl ?_ | with_reducible refine abr_false rfl ?_ | with_reducible refine abr_yes rfl ?_ | refine abr_yes (by decide) ?_ | refine abr_no (by decide) ?_ | with_reducible refine abr_same_ne ?_); (conv => whnf))))
  cases ok with
  | false =>
    ((conv => whnf); (repeat ((first | with_reducible refine abr_true rfl ?_ | with_reducible refine abr_false rfl ?_ | with_reducible refine abr_yes rfl ?_ | refine abr_yes (by decide) ?_ | refine abr_no (by decide) ?_ | with_reducible refine abr_same_ne ?_); (conv => whnf))))
    refine acall (alive14 _) ?_
    rintro _ σ_ ⟨rfl, e_⟩
    obtain rfl := e_.symm
    refine ⟨?_, Ext.refl _⟩
    ((conv => whnf); (repeat ((first | with_reducible refine abr_true rfl ?_ | with_reducible refine abr_false rfl ?_ | with_reducible refine abr_yes rfl ?_ | refine abr_yes (by decide) ?_ | refine abr_no (by decide) ?_ | with_reducible refine abr_same_ne ?_); (conv => whnf))))
    exact aret_same ⟨rfl, rfl⟩
  | true =>
  obtain ⟨⟨q0, q1, hch, hkept, htk, hq0, hq1⟩, hfew, hfew2⟩ := hok rfl
  ((conv => whnf); (repeat ((first | with_reducible refine abr_true rfl ?_ | with_reducible refine abr_false rfl ?_ | with_reducible refine abr_yes rfl ?_ | refine abr_yes (by decide) ?_ | refine abr_no (by decide) ?_ | with_reducible refine abr_same_ne ?_); (conv => whnf))))
  refine acall (gNew _) ?_
  rintro v σ1 ⟨id, rfl, w1⟩
  refine ⟨?_, w1.ext⟩
  ((conv => whnf); (repeat ((first | with_reducible refine abr_true rfl ?_ | with_reducible refine abr_false rfl ?_ | with_reducible refine abr_yes rfl ?_ | refine abr_yes (by decide) ?_ | refine abr_no (by decide) ?_ | with_reducible refine abr_same_ne ?_); (conv => whnf))))
  have hid : σ id = none := w1.1
  have hheld0 : heldOf q0 = none := heldOf_zero htk
  have hklen : kept.length = q0.ts.length := by rw [← hkept, List.length_map]
  refine aloop (α := Nat × AHeap) (fun x => [(s9, i64v (dones (ps.take x.1))), (s10, i64v x.1)]) (fun x => x.2) (fun x => x.1 ≤ ps.length ∧ ∃ qi, Chain q0 (ps.take x.1) qi ∧ Chain qi (ps.drop x.1) q1 ∧ Gl x.2 id (heldOf qi, 0) σ) (fun x => ps.length - x.1) (0, σ1) ⟨Nat.zero_le _, q0, .nil _, hch, by rw [hheld0]; exact w1⟩ (Sub.refl _) ?_ ?_
  · ((conv => whnf); (repeat ((first | with_reducible refine abr_true rfl ?_ | with_reducible refine abr_false rfl ?_ | with_reducible refine abr_yes rfl ?_ | refine abr_yes (by decide) ?_ | refine abr_no (by decide) ?_ | with_reducible refine abr_same_ne ?_); (conv => whnf))))
    (repeat' first | with_reducible exact EnvLe.refl _ | (refine EnvLe.node ?_ (by first | exact Or.inl rfl | exact Or.inr (Or.inl rfl) | exact Or.inr (Or.inr ⟨nofun, VLe.slice _ _ _⟩)) ?_))
  rintro ⟨i, σ2⟩ ⟨hi, qi, c1, c2, w2⟩
  dsimp only at hi c1 c2 w2 ⊢
  obtain ⟨t1, t2⟩ := chain_ts c1
  by_cases hi2 : i < ps.length
  · rw [List.drop_eq_getElem_cons hi2] at c2
    obtain ⟨p, hp⟩ : ∃ p, p = ps[i] := ⟨_, rfl⟩
    rw [← hp] at c2
    have hdt := dones_take ps i hi2
    rw [← hp] at hdt
    cases c2 with
    | cons room ask code okq rest =>
    have g := piece_put (n := 0) okq ask code (.inl rfl)
    obtain ⟨z1, z2⟩ := cut_size okq ask code
    have hctk : Chain q0 (ps.take (i + 1)) (cutQ room 11 qi) := by
      rw [List.take_add_one, List.getElem?_eq_getElem hi2, ← hp]
      exact c1.snoc ask code okq
    obtain ⟨P, hP⟩ : ∃ P, P = putN (cutP room 11 qi).1 (cutP room 11 qi).2.1 (heldOf qi, 0) (cutP room 11 qi).2.1.length := ⟨_, rfl⟩
    rw [← hP] at g
    have hput : putG (cutP room 11 qi).1 (cutP room 11 qi).2.1 false (heldOf qi, 0) = P := by unfold putG; rw [if_neg (by rw [g.good]; simp), hP]; rfl
    have hexact := g.exact_ rfl
    have hout : P.1 = (kept.drop (dones (ps.take i))).take (cutP room 11 qi).2.2.length := by
      rw [g.out]
      have hn : ¬ (0 < qi.taken ∧ heldOf qi = none) := by
        rintro ⟨k1, k2⟩
        have hb := okq.begun
        unfold heldOf at k2
        split at k2
        · rename_i e; rw [e] at hb; have hb : qi.taken = 0 := hb; omega
        · rw [if_pos k1] at k2; cases k2
      rw [if_neg hn, List.drop_zero, t1, ← hkept, List.map_take, List.map_drop]
    have hheld : (heldOf qi).getD [] = [] ∨ ((heldOf qi).getD []).length ≤ 1000 := by
      unfold heldOf
      split
      · exact .inl rfl
      · rename_i t ts e
        have := (okq.each t (by rw [e]; exact List.mem_cons_self ..)).2
        split
        · right; show (t.2.take qi.taken).length ≤ 1000; rw [List.length_take]; omega
        · exact .inl rfl
    have hheld2 : ((heldOf qi).getD []).length ≤ 1000 := by
      rcases hheld with h | h
      · rw [h]; simp
      · exact h
    have hdle : (cutP room 11 qi).2.2.length + dones (ps.take i) ≤ kept.length := by
      have := g.le
      rw [t1, List.length_drop] at this
      omega
    have hPl : P.1.length = (cutP room 11 qi).2.2.length := by rw [hout, List.length_take, List.length_drop]; omega
    ((conv => whnf); (repeat ((first | with_reducible refine abr_true rfl ?_ | with_reducible refine abr_false rfl ?_ | with_reducible refine abr_yes rfl ?_ | refine abr_yes (by decide) ?_ | refine abr_no (by decide) ?_ | with_reducible refine abr_same_ne ?_); (conv => whnf))))
    (repeat ((first | refine aload (by (repeat (first | with_reducible exact upd_same _ _ _ | assumption | rw [upd_ne _ _ (by first | assumption | (apply Ne.symm; assumption))]))) rfl ?_ | refine afit_i64 (by omega) ?_ | refine arem_nonneg (by omega) (by omega) ?_ | refine adiv_i64 (by omega) (by omega) ?_ | refine abr_yes (by omega) ?_ | refine abr_no (by omega) ?_ | refine amin ?_ | refine amax ?_ | refine afit_u64 (by omega) ?_ | refine afit_u8 (by omega) ?_ | rw [List.length_map]); ((conv => whnf); (repeat ((first | with_reducible refine abr_true rfl ?_ | with_reducible refine abr_false rfl ?_ | with_reducible refine abr_yes rfl ?_ | refine abr_yes (by decide) ?_ | refine abr_no (by decide) ?_ | with_reducible refine abr_same_ne ?_); (conv => whnf))))))
    refine aget (by omega) (get_pieces hi2) ?_
    rw [← hp]
    ((conv => whnf); (repeat ((first | with_reducible refine abr_true rfl ?_ | with_reducible refine abr_false rfl ?_ | with_reducible refine abr_yes rfl ?_ | refine abr_yes (by decide) ?_ | refine abr_no (by decide) ?_ | with_reducible refine abr_same_ne ?_); (conv => whnf))))
    refine acell rfl ?_
    ((conv => whnf); (repeat ((first | with_reducible refine abr_true rfl ?_ | with_reducible refine abr_false rfl ?_ | with_reducible refine abr_yes rfl ?_ | refine abr_yes (by decide) ?_ | refine abr_no (by decide) ?_ | with_reducible refine abr_same_ne ?_); (conv => whnf))))
    refine aget (by omega) (get_pieces hi2) ?_
    rw [← hp]
    ((conv => whnf); (repeat ((first | with_reducible refine abr_true rfl ?_ | with_reducible refine abr_false rfl ?_ | with_reducible refine abr_yes rfl ?_ | refine abr_yes (by decide) ?_ | refine abr_no (by decide) ?_ | with_reducible refine abr_same_ne ?_); (conv => whnf))))
    refine acell rfl ?_
    ((conv => whnf); (repeat ((first | with_reducible refine abr_true rfl ?_ | with_reducible refine abr_false rfl ?_ | with_reducible refine abr_yes rfl ?_ | refine abr_yes (by decide) ?_ | refine abr_no (by decide) ?_ | with_reducible refine abr_same_ne ?_); (conv => whnf))))
    refine acall (gPut id (cutP room 11 qi).1 (cutP room 11 qi).2.1 .none false (heldOf qi, 0) _ _ w2 (Nat.zero_le _) hheld2 (by omega) (fun f hf => by have := z2 f hf; omega)) ?_
    rintro _ σ3 ⟨rfl, w3⟩
    rw [hput, g.good]
    rw [hput, hexact] at w3
    ((conv => whnf); (repeat ((first | with_reducible refine abr_true rfl ?_ | with_reducible refine abr_false rfl ?_ | with_reducible refine abr_yes rfl ?_ | refine abr_yes (by decide) ?_ | refine abr_no (by decide) ?_ | with_reducible refine abr_same_ne ?_); (conv => whnf))))
    refine aget (by omega) (get_pieces hi2) ?_
    rw [← hp]
    ((conv => whnf); (repeat ((first | with_reducible refine abr_true rfl ?_ | with_reducible refine abr_false rfl ?_ | with_reducible refine abr_yes rfl ?_ | refine abr_yes (by decide) ?_ | refine abr_no (by decide) ?_ | with_reducible refine abr_same_ne ?_); (conv => whnf))))
    refine acell rfl ?_
    ((conv => whnf); (repeat ((first | with_reducible refine abr_true rfl ?_ | with_reducible refine abr_false rfl ?_ | with_reducible refine abr_yes rfl ?_ | refine abr_yes (by decide) ?_ | refine abr_no (by decide) ?_ | with_reducible refine abr_same_ne ?_); (conv => whnf))))
    rw [List.length_map, List.length_map]
    refine abr_no (by omega) ?_
    ((conv => whnf); (repeat ((first | with_reducible refine abr_true rfl ?_ | with_reducible refine abr_false rfl ?_ | with_reducible refine abr_yes rfl ?_ | refine abr_yes (by decide) ?_ | refine abr_no (by decide) ?_ | with_reducible refine abr_same_ne ?_); (conv => whnf))))
    refine aloop (α := Nat) (fun k => [(s9, i64v ((dones (ps.take i) : Int) + k)), (s13, i64v k)]) (fun _ => σ3) (fun k => k ≤ P.1.length) (fun k => P.1.length - k) 0 (Nat.zero_le _) (Sub.refl _) ?_ ?_
    · rw [show ((dones (ps.take i) : Int) + ((0 : Nat) : Int)) = (dones (ps.take i) : Int) by omega]
      ((conv => whnf); (repeat ((first | with_reducible refine abr_true rfl ?_ | with_reducible refine abr_false rfl ?_ | with_reducible refine abr_yes rfl ?_ | refine abr_yes (by decide) ?_ | refine abr_no (by decide) ?_ | with_reducible refine abr_same_ne ?_); (conv => whnf))))
      (repeat' first | with_reducible exact EnvLe.refl _ | (refine EnvLe.node ?_ (by first | exact Or.inl rfl | exact Or.inr (Or.inl rfl) | exact Or.inr (Or.inr ⟨nofun, VLe.slice _ _ _⟩)) ?_))
    intro k hk
    by_cases hk2 : k < P.1.length
    · have hkk : dones (ps.take i) + k < kept.length := by omega
      have heq : P.1[k] = kept[dones (ps.take i) + k] := by
        have : P.1[k]? = some kept[dones (ps.take i) + k] := by
          rw [hout, List.getElem?_take, if_pos (by omega), List.getElem?_drop, List.getElem?_eq_getElem hkk]
        rw [List.getElem?_eq_getElem hk2] at this
        injection this
      ((conv => whnf); (repeat ((first | with_reducible refine abr_true rfl ?_ | with_reducible refine abr_false rfl ?_ | with_reducible refine abr_yes rfl ?_ | refine abr_yes (by decide) ?_ | refine abr_no (by decide) ?_ | with_reducible refine abr_same_ne ?_); (conv => whnf))))
      (repeat ((first | refine aload (by (repeat (first | with_reducible exact upd_same _ _ _ | assumption | rw [upd_ne _ _ (by first | assumption | (apply Ne.symm; assumption))]))) rfl ?_ | refine afit_i64 (by omega) ?_ | refine arem_nonneg (by omega) (by omega) ?_ | refine adiv_i64 (by omega) (by omega) ?_ | refine abr_yes (by omega) ?_ | refine abr_no (by omega) ?_ | refine amin ?_ | refine amax ?_ | refine afit_u64 (by omega) ?_ | refine afit_u8 (by omega) ?_ | rw [List.length_map]); ((conv => whnf); (repeat ((first | with_reducible refine abr_true rfl ?_ | with_reducible refine abr_false rfl ?_ | with_reducible refine abr_yes rfl ?_ | refine abr_yes (by decide) ?_ | refine abr_no (by decide) ?_ | with_reducible refine abr_same_ne ?_); (conv => whnf))))))
      refine aget (by omega) (get_lists hk2) ?_
      ((conv => whnf); (repeat ((first | with_reducible refine abr_true rfl ?_ | with_reducible refine abr_false rfl ?_ | with_reducible refine abr_yes rfl ?_ | refine abr_yes (by decide) ?_ | refine abr_no (by decide) ?_ | with_reducible refine abr_same_ne ?_); (conv => whnf))))
      refine acell rfl ?_
      ((conv => whnf); (repeat ((first | with_reducible refine abr_true rfl ?_ | with_reducible refine abr_false rfl ?_ | with_reducible refine abr_yes rfl ?_ | refine abr_yes (by decide) ?_ | refine abr_no (by decide) ?_ | with_reducible refine abr_same_ne ?_); (conv => whnf))))
      refine astr rfl ?_
      ((conv => whnf); (repeat ((first | with_reducible refine abr_true rfl ?_ | with_reducible refine abr_false rfl ?_ | with_reducible refine abr_yes rfl ?_ | refine abr_yes (by decide) ?_ | refine abr_no (by decide) ?_ | with_reducible refine abr_same_ne ?_); (conv => whnf))))
      rw [show ((dones (ps.take i) : Int) + (k : Int)) = ((dones (ps.take i) + k : Nat) : Int) by omega]
      refine aget (by omega) (get_lists hkk) ?_
      ((conv => whnf); (repeat ((first | with_reducible refine abr_true rfl ?_ | with_reducible refine abr_false rfl ?_ | with_reducible refine abr_yes rfl ?_ | refine abr_yes (by decide) ?_ | refine abr_no (by decide) ?_ | with_reducible refine abr_same_ne ?_); (conv => whnf))))
      refine acell rfl ?_
      ((conv => whnf); (repeat ((first | with_reducible refine abr_true rfl ?_ | with_reducible refine abr_false rfl ?_ | with_reducible refine abr_yes rfl ?_ | refine abr_yes (by decide) ?_ | refine abr_no (by decide) ?_ | with_reducible refine abr_same_ne ?_); (conv => whnf))))
      refine astr rfl ?_
      ((conv => whnf); (repeat ((first | with_reducible refine abr_true rfl ?_ | with_reducible refine abr_false rfl ?_ | with_reducible refine abr_yes rfl ?_ | refine abr_yes (by decide) ?_ | refine abr_no (by decide) ?_ | with_reducible refine abr_same_ne ?_); (conv => whnf))))
      refine abr_no (fun hne => hne (by rw [heq])) ?_
      ((conv => whnf); (repeat ((first | with_reducible refine abr_true rfl ?_ | with_reducible refine abr_false rfl ?_ | with_reducible refine abr_yes rfl ?_ | refine abr_yes (by decide) ?_ | refine abr_no (by decide) ?_ | with_reducible refine abr_same_ne ?_); (conv => whnf))))
      (repeat ((first | refine aload (by (repeat (first | with_reducible exact upd_same _ _ _ | assumption | rw [upd_ne _ _ (by first | assumption | (apply Ne.symm; assumption))]))) rfl ?_ | refine afit_i64 (by omega) ?_ | refine arem_nonneg (by omega) (by omega) ?_ | refine adiv_i64 (by omega) (by omega) ?_ | refine abr_yes (by omega) ?_ | refine abr_no (by omega) ?_ | refine amin ?_ | refine amax ?_ | refine afit_u64 (by omega) ?_ | refine afit_u8 (by omega) ?_ | rw [List.length_map]); ((conv => whnf); (repeat ((first | with_reducible refine abr_true rfl ?_ | with_reducible refine abr_false rfl ?_ | with_reducible refine abr_yes rfl ?_ | refine abr_yes (by decide) ?_ | refine abr_no (by decide) ?_ | with_reducible refine abr_same_ne ?_); (conv => whnf))))))
      refine ⟨k + 1, hk2, by omega, Sub.refl _, ?_⟩
      rw [show ((dones (ps.take i) : Int) + ((k + 1 : Nat) : Int)) = ((dones (ps.take i) + k : Nat) : Int) + 1 by omega]
      ((conv => whnf); (repeat ((first | with_reducible refine abr_true rfl ?_ | with_reducible refine abr_false rfl ?_ | with_reducible refine abr_yes rfl ?_ | refine abr_yes (by decide) ?_ | refine abr_no (by decide) ?_ | with_reducible refine abr_same_ne ?_); (conv => whnf))))
      (repeat' first | with_reducible exact EnvLe.refl _ | (refine EnvLe.node ?_ (by first | exact Or.inl rfl | exact Or.inr (Or.inl rfl) | exact Or.inr (Or.inr ⟨nofun, VLe.slice _ _ _⟩)) ?_))
    · ((conv => whnf); (repeat ((first | with_reducible refine abr_true rfl ?_ | with_reducible refine abr_false rfl ?_ | with_reducible refine abr_yes rfl ?_ | refine abr_yes (by decide) ?_ | refine abr_no (by decide) ?_ | with_reducible refine abr_same_ne ?_); (conv => whnf))))
      (repeat ((first | refine aload (by (repeat (first | with_reducible exact upd_same _ _ _ | assumption | rw [upd_ne _ _ (by first | assumption | (apply Ne.symm; assumption))]))) rfl ?_ | refine afit_i64 (by omega) ?_ | refine arem_nonneg (by omega) (by omega) ?_ | refine adiv_i64 (by omega) (by omega) ?_ | refine abr_yes (by omega) ?_ | refine abr_no (by omega) ?_ | refine amin ?_ | refine amax ?_ | refine afit_u64 (by omega) ?_ | refine afit_u8 (by omega) ?_ | rw [List.length_map]); ((conv => whnf); (repeat ((first | with_reducible refine abr_true rfl ?_ | with_reducible refine abr_false rfl ?_ | with_reducible refine abr_yes rfl ?_ | refine abr_yes (by decide) ?_ | refine abr_no (by decide) ?_ | with_reducible refine abr_same_ne ?_); (conv => whnf))))))
      refine ⟨(i + 1, σ3), ⟨hi2, _, hctk, rest, w3⟩, by dsimp only; omega, Sub.refl _, ?_⟩
      rw [hdt]
      rw [show ((dones (ps.take i) : Int) + (k : Int)) = ((dones (ps.take i) + (cutP room 11 qi).2.2.length : Nat) : Int) by omega]
      ((conv => whnf); (repeat ((first | with_reducible refine abr_true rfl ?_ | with_reducible refine abr_false rfl ?_ | with_reducible refine abr_yes rfl ?_ | refine abr_yes (by decide) ?_ | refine abr_no (by decide) ?_ | with_reducible refine abr_same_ne ?_); (conv => whnf))))
      (repeat' first | with_reducible exact EnvLe.refl _ | (refine EnvLe.node ?_ (by first | exact Or.inl rfl | exact Or.inr (Or.inl rfl) | exact Or.inr (Or.inr ⟨nofun, VLe.slice _ _ _⟩)) ?_))
  · obtain rfl : i = ps.length := by omega
    rw [List.drop_length] at c2
    cases c2 with
    | nil =>
    rw [List.take_length] at t1 t2
    have hd : dones ps = kept.length := by
      rw [hq1] at t1
      have := congrArg List.length t1
      rw [List.length_drop] at this
      have h0 : ([] : List (Nat × List UInt8)).length = 0 := rfl
      omega
    have hh : heldOf q1 = none := by unfold heldOf; rw [hq1]
    rw [List.take_length, hd]
    rw [hh] at w2
    ((conv => whnf); (repeat ((first | with_reducible refine abr_true rfl ?_ | with_reducible refine abr_false rfl ?_ | with_reducible refine abr_yes rfl ?_ | refine abr_yes (by decide) ?_ | refine abr_no (by decide) ?_ | with_reducible refine abr_same_ne ?_); (conv => whnf))))
    (repeat ((first | refine aload (by (repeat (first | with_reducible exact upd_same _ _ _ | assumption | rw [upd_ne _ _ (by first | assumption | (apply Ne.symm; assumption))]))) rfl ?_ | refine afit_i64 (by omega) ?_ | refine arem_nonneg (by omega) (by omega) ?_ | refine adiv_i64 (by omega) (by omega) ?_ | refine abr_yes (by omega) ?_ | refine abr_no (by omega) ?_ | refine amin ?_ | refine amax ?_ | refine afit_u64 (by omega) ?_ | refine afit_u8 (by omega) ?_ | rw [List.length_map]); ((conv => whnf); (repeat ((first | with_reducible refine abr_true rfl ?_ | with_reducible refine abr_false rfl ?_ | with_reducible refine abr_yes rfl ?_ | refine abr_yes (by decide) ?_ | refine abr_no (by decide) ?_ | with_reducible refine abr_same_ne ?_); (conv => whnf))))))
    refine acall (alive14 _) ?_
    rintro _ σ_ ⟨rfl, e_⟩
    obtain rfl := e_.symm
    refine ⟨?_, Ext.refl _⟩
    ((conv => whnf); (repeat ((first | with_reducible refine abr_true rfl ?_ | with_reducible refine abr_false rfl ?_ | with_reducible refine abr_yes rfl ?_ | refine abr_yes (by decide) ?_ | refine abr_no (by decide) ?_ | with_reducible refine abr_same_ne ?_); (conv => whnf))))
    rw [List.length_map]
    (repeat ((first | refine aload (by (repeat (first | with_reducible exact upd_same _ _ _ | assumption | rw [upd_ne _ _ (by first | assumption | (apply Ne.symm; assumption))]))) rfl ?_ | refine afit_i64 (by omega) ?_ | refine arem_nonneg (by omega) (by omega) ?_ | refine adiv_i64 (by omega) (by omega) ?_ | refine abr_yes (by omega) ?_ | refine abr_no (by omega) ?_ | refine amin ?_ | refine amax ?_ | refine afit_u64 (by omega) ?_ | refine afit_u8 (by omega) ?_ | rw [List.length_map]); ((conv => whnf); (repeat ((first | with_reducible refine abr_true rfl ?_ | with_reducible refine abr_false rfl ?_ | with_reducible refine abr_yes rfl ?_ | refine abr_yes (by decide) ?_ | refine abr_no (by decide) ?_ | with_reducible refine abr_same_ne ?_); (conv => whnf))))))
    refine acall (gHeld id _ _ _ w2) ?_
    rintro _ σ_ ⟨rfl, e_⟩
    obtain rfl := e_.symm
    refine ⟨?_, Ext.refl _⟩
    ((conv => whnf); (repeat ((first | with_reducible refine abr_true rfl ?_ | with_reducible refine abr_false rfl ?_ | with_reducible refine abr_yes rfl ?_ | refine abr_yes (by decide) ?_ | refine abr_no (by decide) ?_ | with_reducible refine abr_same_ne ?_); (conv => whnf))))
    refine acall (gLost id _ _ _ w2) ?_
    rintro _ σ_ ⟨rfl, e_⟩
    obtain rfl := e_.symm
    refine ⟨?_, Ext.refl _⟩
    ((conv => whnf); (repeat ((first | with_reducible refine abr_true rfl ?_ | with_reducible refine abr_false rfl ?_ | with_reducible refine abr_yes rfl ?_ | refine abr_yes (by decide) ?_ | refine abr_no (by decide) ?_ | with_reducible refine abr_same_ne ?_); (conv => whnf))))
    exact aret (VLe.refl _) w2.sub ⟨rfl, rfl⟩
end Go.Proofs.Ytiohpnkfcaahbaa
/-
  Glues: whatever pieces are missing.
-/
namespace Go.Proofs.Ytiohpnkfcaahbaa
set_option linter.unusedVariables false
set_option linter.unusedSimpArgs false
open Go Go.Am

theorem held_len {q : QS} (hq : QOk q) : ((heldOf q).getD []).length ≤ 1000 := by
  unfold heldOf
  split
  · simp
  · rename_i t ts e
    have := (hq.each t (by rw [e]; exact List.mem_cons_self ..)).2
    split
    · show (t.2.take q.taken).length ≤ 1000; rw [List.length_take]; omega
    · simp
theorem held_none {q : QS} (hq : QOk q) (h : heldOf q = none) : q.taken = 0 := by
  have hb := hq.begun
  unfold heldOf at h
  split at h
  · rename_i e; rw [e] at hb; exact hb
  · split at h
    · cases h
    · omega

set_option maxRecDepth 20000 in
set_option maxHeartbeats 2000000 in
theorem GlueLoses (texts : List (List UInt8)) (rooms : List Nat) (lost : List UInt8) (σ : AHeap) (hr : ∀ r ∈ rooms, r < 65536) (hrl : rooms.length ≤ 140737488351232) :
    ACalls Try.prog i_bowlinelaw14_GlueLoses [lists .none texts, .slice 1 (rooms.map u16n) .none, sl .none lost] σ fun v σ' => v = boolv true ∧ σ' = σ := by
  refine k_bowlinelaw14_GlueLoses rfl ?_
  ((conv => whnf); (repeat ((first | with_reducible refine abr_true rfl ?_ | with_reducible refine abr_false rfl ?_ | with_reducible refine abr_yes rfl ?_ | refine abr_yes (by decide) ?_ | refine abr_no (by decide) ?_ | with_reducible refine abr_same_ne ?_); (conv => whnf))))
  refine acall (mkPieces texts rooms σ hr hrl) ?_
  rintro _ σ_ ⟨⟨ps, kept, ok, rfl, hok⟩, e_⟩
  obtain rfl := e_.symm
  refine ⟨?_, Ext.refl _⟩
  ((conv => whnf); (repeat ((first | with_reducible refine abr_true rfl ?_ | with_reducible refine abr_false rfl ?_ | with_reducible refine abr_yes rfl ?_ | refine abr_yes (by decide) ?_ | refine abr_no (by decide) ?_ | with_reducible refine abr_same_ne ?_); (conv => whnf))))
  cases ok with
  | false =>
    ((conv => whnf); (repeat ((first | with_reducible refine abr_true rfl ?_ | with_reducible refine abr_false rfl ?_ | with_reducible refine abr_yes rfl ?_ | refine abr_yes (by decide) ?_ | refine abr_no (by decide) ?_ | with_reducible refine abr_same_ne ?_); (conv => whnf))))
    refine acall (alive14 _) ?_
    rintro _ σ_ ⟨rfl, e_⟩
    obtain rfl := e_.symm
    refine ⟨?_, Ext.refl _⟩
    ((conv => whnf); (repeat ((first | with_reducible refine abr_true rfl ?_ | with_reducible refine abr_false rfl ?_ | with_reducible refine abr_yes rfl ?_ | refine abr_yes (by decide) ?_ | refine abr_no (by decide) ?_ | with_reducible refine abr_same_ne ?_); (conv => whnf))))
    exact aret_same ⟨rfl, rfl⟩
  | true =>
  obtain ⟨⟨q0, q1, hch, hkept, htk, hq0, hq1⟩, hfew, hfew2⟩ := hok rfl
  ((conv => whnf); (repeat ((first | with_reducible refine abr_true rfl ?_ | with_reducible refine abr_false rfl ?_ | with_reducible refine abr_yes rfl ?_ | refine abr_yes (by decide) ?_ | refine abr_no (by decide) ?_ | with_reducible refine abr_same_ne ?_); (conv => whnf))))
  refine acall (gNew _) ?_
  rintro v σ1 ⟨id, rfl, w1⟩
  refine ⟨?_, w1.ext⟩
  ((conv => whnf); (repeat ((first | with_reducible refine abr_true rfl ?_ | with_reducible refine abr_false rfl ?_ | with_reducible refine abr_yes rfl ?_ | refine abr_yes (by decide) ?_ | refine abr_no (by decide) ?_ | with_reducible refine abr_same_ne ?_); (conv => whnf))))
  have hid : σ id = none := w1.1
  have hheld0 : heldOf q0 = none := heldOf_zero htk
  have hklen : kept.length = q0.ts.length := by rw [← hkept, List.length_map]
  refine aloop (α := Nat × Nat × Bool × Bool × GS × AHeap) (fun x => [(s11, i64v x.2.1), (s12, i64v (dones (ps.take x.1))), (s13, boolv x.2.2.1), (s14, boolv x.2.2.2.1), (s15, i64v x.1)]) (fun x => x.2.2.2.2.2)
    (fun x => x.1 ≤ ps.length ∧ x.2.1 ≤ dones (ps.take x.1) ∧ x.2.2.2.2.1.2 ≤ 60 * x.1 ∧ (x.2.2.2.2.1.1.getD []).length ≤ 1000 ∧ (x.2.2.2.1 = true → x.2.2.1 = false) ∧ ∃ qi, Chain q0 (ps.take x.1) qi ∧ Chain qi (ps.drop x.1) q1 ∧ Gl x.2.2.2.2.2 id x.2.2.2.2.1 σ ∧
      (x.2.2.1 = true ∨ x.2.2.2.2.1.1 = heldOf qi ∨ x.2.2.2.2.1.1 = none) ∧ (x.2.2.2.1 = true → x.2.2.2.2.1.1 = heldOf qi)) (fun x => ps.length - x.1) (0, 0, false, true, (none, 0), σ1) ⟨Nat.zero_le _, Nat.zero_le _, Nat.zero_le _, Nat.zero_le _, fun _ => rfl, q0, .nil _, hch, w1, .inr (.inr rfl), fun _ => hheld0.symm⟩ (Sub.refl _) ?_ ?_
  · ((conv => whnf); (repeat ((first | with_reducible refine abr_true rfl ?_ | with_reducible refine abr_false rfl ?_ | with_reducible refine abr_yes rfl ?_ | refine abr_yes (by decide) ?_ | refine abr_no (by decide) ?_ | with_reducible refine abr_same_ne ?_); (conv => whnf))))
    (repeat' first | with_reducible exact EnvLe.refl _ | (refine EnvLe.node ?_ (by first | exact Or.inl rfl | exact Or.inr (Or.inl rfl) | exact Or.inr (Or.inr ⟨nofun, VLe.slice _ _ _⟩)) ?_))
  rintro ⟨i, n, gap, whole, g0, σ2⟩ ⟨hi, hn, hlost, hheld, hgw, qi, c1, c2, w2, hst, hwh⟩
  dsimp only at hi hn hlost hheld hgw c1 c2 w2 hst hwh ⊢
  obtain ⟨t1, t2⟩ := chain_ts c1
  by_cases hi2 : i < ps.length
  · rw [List.drop_eq_getElem_cons hi2] at c2
    obtain ⟨p, hp⟩ : ∃ p, p = ps[i] := ⟨_, rfl⟩
    rw [← hp] at c2
    have hdt := dones_take ps i hi2
    rw [← hp] at hdt
    cases c2 with
    | cons room ask code okq rest =>
    obtain ⟨z1, z2⟩ := cut_size okq ask code
    have hctk : Chain q0 (ps.take (i + 1)) (cutQ room 11 qi) := by
      rw [List.take_add_one, List.getElem?_eq_getElem hi2, ← hp]
      exact c1.snoc ask code okq
    have hg0 : ((gapG g0 gap).1.getD []).length ≤ 1000 := by
      unfold gapG loseG; split
      · simp
      · exact hheld
    have hg1 : (gapG g0 gap).2 ≤ g0.2 + 1 := by
      unfold gapG loseG; split
      · dsimp only; cases g0.1.isSome <;> simp
      · omega
    have hst1 : (gapG g0 gap).1 = heldOf qi ∨ (gapG g0 gap).1 = none := by
      cases gap with
      | true => exact .inr rfl
      | false =>
        rcases hst with h | h | h
        · cases h
        · exact .inl h
        · exact .inr h
    have hwh1 : whole = true → (gapG g0 gap).1 = heldOf qi := by
      intro h
      rw [hgw h]
      exact hwh h
    have g := piece_put (n := (gapG g0 gap).2) okq ask code hst1
    have hnn := putN_ok (cutP room 11 qi).1 (cutP room 11 qi).2.1 (gapG g0 gap) hg0 (cutP room 11 qi).2.1.length
    obtain ⟨P, hP⟩ : ∃ P, P = putN (cutP room 11 qi).1 (cutP room 11 qi).2.1 (gapG g0 gap) (cutP room 11 qi).2.1.length := ⟨_, rfl⟩
    rw [← hP] at hnn
    have g : Glued qi (cutQ room 11 qi) (cutP room 11 qi) (gapG g0 gap).1 (gapG g0 gap).2 P := by rw [hP]; exact g
    have hput : putG (cutP room 11 qi).1 (cutP room 11 qi).2.1 gap g0 = P := by unfold putG; rw [if_neg (by rw [g.good]; simp), hP]
    obtain ⟨c, hc⟩ : ∃ c, c = if 0 < qi.taken ∧ (gapG g0 gap).1 = none then 1 else 0 := ⟨_, rfl⟩
    have hc1 : c ≤ 1 := by rw [hc]; split <;> omega
    have hc2 : c = 1 → 0 < qi.taken ∧ (gapG g0 gap).1 = none := by
      intro h; rw [hc] at h
      split at h
      · assumption
      · cases h
    have hcw : whole = true → c = 0 := by
      intro h
      refine Classical.byContradiction fun k => ?_
      obtain ⟨k1, k2⟩ := hc2 (by omega)
      rw [hwh1 h] at k2
      have := held_none okq k2
      omega
    have hout : P.1 = ((kept.drop (dones (ps.take i))).take (cutP room 11 qi).2.2.length).drop c := by
      rw [g.out, ← hc, t1, ← hkept, List.map_take, List.map_drop]
    have hdle : (cutP room 11 qi).2.2.length + dones (ps.take i) ≤ kept.length := by
      have := g.le
      rw [t1, List.length_drop] at this
      omega
    have hPl : P.1.length = (cutP room 11 qi).2.2.length - c := by rw [hout, List.length_drop, List.length_take, List.length_drop]; omega
    have hbegun := g.begun
    ((conv => whnf); (repeat ((first | with_reducible refine abr_true rfl ?_ | with_reducible refine abr_false rfl ?_ | with_reducible refine abr_yes rfl ?_ | refine abr_yes (by decide) ?_ | refine abr_no (by decide) ?_ | with_reducible refine abr_same_ne ?_); (conv => whnf))))
    (repeat ((first | refine aload (by (repeat (first | with_reducible exact upd_same _ _ _ | assumption | rw [upd_ne _ _ (by first | assumption | (apply Ne.symm; assumption))]))) rfl ?_ | refine afit_i64 (by omega) ?_ | refine arem_nonneg (by omega) (by omega) ?_ | refine adiv_i64 (by omega) (by omega) ?_ | refine abr_yes (by omega) ?_ | refine abr_no (by omega) ?_ | refine amin ?_ | refine amax ?_ | refine afit_u64 (by omega) ?_ | refine afit_u8 (by omega) ?_ | rw [List.length_map]); ((conv => whnf); (repeat ((first | with_reducible refine abr_true rfl ?_ | with_reducible refine abr_false rfl ?_ | with_reducible refine abr_yes rfl ?_ | refine abr_yes (by decide) ?_ | refine abr_no (by decide) ?_ | with_reducible refine abr_same_ne ?_); (conv => whnf))))))
    by_cases hb : i < lost.length ∧ bitsOp .and .u8 ((lost[i]?.getD 0).toNat : Int) 1 = 1
    · obtain ⟨hl, hbit⟩ := hb
      rw [List.getElem?_eq_getElem hl, Option.getD_some] at hbit
      (repeat ((first | refine aload (by (repeat (first | with_reducible exact upd_same _ _ _ | assumption | rw [upd_ne _ _ (by first | assumption | (apply Ne.symm; assumption))]))) rfl ?_ | refine afit_i64 (by omega) ?_ | refine arem_nonneg (by omega) (by omega) ?_ | refine adiv_i64 (by omega) (by omega) ?_ | refine abr_yes (by omega) ?_ | refine abr_no (by omega) ?_ | refine amin ?_ | refine amax ?_ | refine afit_u64 (by omega) ?_ | refine afit_u8 (by omega) ?_ | rw [List.length_map]); ((conv => whnf); (repeat ((first | with_reducible refine abr_true rfl ?_ | with_reducible refine abr_false rfl ?_ | with_reducible refine abr_yes rfl ?_ | refine abr_yes (by decide) ?_ | refine abr_no (by decide) ?_ | with_reducible refine abr_same_ne ?_); (conv => whnf))))))
      refine aget (by omega) (get_bytes hl) ?_
      ((conv => whnf); (repeat ((first | with_reducible refine abr_true rfl ?_ | with_reducible refine abr_false rfl ?_ | with_reducible refine abr_yes rfl ?_ | refine abr_yes (by decide) ?_ | refine abr_no (by decide) ?_ | with_reducible refine abr_same_ne ?_); (conv => whnf))))
      refine acell rfl ?_
      ((conv => whnf); (repeat ((first | with_reducible refine abr_true rfl ?_ | with_reducible refine abr_false rfl ?_ | with_reducible refine abr_yes rfl ?_ | refine abr_yes (by decide) ?_ | refine abr_no (by decide) ?_ | with_reducible refine abr_same_ne ?_); (conv => whnf))))
      refine abits_eq hbit ?_
      ((conv => whnf); (repeat ((first | with_reducible refine abr_true rfl ?_ | with_reducible refine abr_false rfl ?_ | with_reducible refine abr_yes rfl ?_ | refine abr_yes (by decide) ?_ | refine abr_no (by decide) ?_ | with_reducible refine abr_same_ne ?_); (conv => whnf))))
      refine aget (by omega) (get_pieces hi2) ?_
      rw [← hp]
      ((conv => whnf); (repeat ((first | with_reducible refine abr_true rfl ?_ | with_reducible refine abr_false rfl ?_ | with_reducible refine abr_yes rfl ?_ | refine abr_yes (by decide) ?_ | refine abr_no (by decide) ?_ | with_reducible refine abr_same_ne ?_); (conv => whnf))))
      refine acell rfl ?_
      ((conv => whnf); (repeat ((first | with_reducible refine abr_true rfl ?_ | with_reducible refine abr_false rfl ?_ | with_reducible refine abr_yes rfl ?_ | refine abr_yes (by decide) ?_ | refine abr_no (by decide) ?_ | with_reducible refine abr_same_ne ?_); (conv => whnf))))
      rw [List.length_map]
      (repeat ((first | refine aload (by (repeat (first | with_reducible exact upd_same _ _ _ | assumption | rw [upd_ne _ _ (by first | assumption | (apply Ne.symm; assumption))]))) rfl ?_ | refine afit_i64 (by omega) ?_ | refine arem_nonneg (by omega) (by omega) ?_ | refine adiv_i64 (by omega) (by omega) ?_ | refine abr_yes (by omega) ?_ | refine abr_no (by omega) ?_ | refine amin ?_ | refine amax ?_ | refine afit_u64 (by omega) ?_ | refine afit_u8 (by omega) ?_ | rw [List.length_map]); ((conv => whnf); (repeat ((first | with_reducible refine abr_true rfl ?_ | with_reducible refine abr_false rfl ?_ | with_reducible refine abr_yes rfl ?_ | refine abr_yes (by decide) ?_ | refine abr_no (by decide) ?_ | with_reducible refine abr_same_ne ?_); (conv => whnf))))))
      refine ⟨(i + 1, n, true, false, g0, σ2), ⟨hi2, by dsimp only; omega, by dsimp only; omega, hheld, nofun, _, hctk, rest, w2, .inl rfl, nofun⟩, by dsimp only; omega, Sub.refl _, ?_⟩
      rw [hdt, show ((dones (ps.take i) : Int) + ((cutP room 11 qi).2.2.length : Int)) = ((dones (ps.take i) + (cutP room 11 qi).2.2.length : Nat) : Int) by omega]
      ((conv => whnf); (repeat ((first | with_reducible refine abr_true rfl ?_ | with_reducible refine abr_false rfl ?_ | with_reducible refine abr_yes rfl ?_ | refine abr_yes (by decide) ?_ | refine abr_no (by decide) ?_ | with_reducible refine abr_same_ne ?_); (conv => whnf))))
      (repeat' first | with_reducible exact EnvLe.refl _ | (refine EnvLe.node ?_ (by first | exact Or.inl rfl | exact Or.inr (Or.inl rfl) | exact Or.inr (Or.inr ⟨nofun, VLe.slice _ _ _⟩)) ?_))
    · rcases Classical.em (i < lost.length) with hl | hl
      case' inl =>
        have hbit : ¬ bitsOp .and .u8 ((lost[i]).toNat : Int) 1 = 1 := fun k => hb ⟨hl, by rw [List.getElem?_eq_getElem hl]; exact k⟩
        (repeat ((first | refine aload (by (repeat (first | with_reducible exact upd_same _ _ _ | assumption | rw [upd_ne _ _ (by first | assumption | (apply Ne.symm; assumption))]))) rfl ?_ | refine afit_i64 (by omega) ?_ | refine arem_nonneg (by omega) (by omega) ?_ | refine adiv_i64 (by omega) (by omega) ?_ | refine abr_yes (by omega) ?_ | refine abr_no (by omega) ?_ | refine amin ?_ | refine amax ?_ | refine afit_u64 (by omega) ?_ | refine afit_u8 (by omega) ?_ | rw [List.length_map]); ((conv => whnf); (repeat ((first | with_reducible refine abr_true rfl ?_ | with_reducible refine abr_false rfl ?_ | with_reducible refine abr_yes rfl ?_ | refine abr_yes (by decide) ?_ | refine abr_no (by decide) ?_ | with_reducible refine abr_same_ne ?_); (conv => whnf))))))
        refine aget (by omega) (get_bytes hl) ?_
        ((conv => whnf); (repeat ((first | with_reducible refine abr_true rfl ?_ | with_reducible refine abr_false rfl ?_ | with_reducible refine abr_yes rfl ?_ | refine abr_yes (by decide) ?_ | refine abr_no (by decide) ?_ | with_reducible refine abr_same_ne ?_); (conv => whnf))))
        refine acell rfl ?_
        ((conv => whnf); (repeat ((first | with_reducible refine abr_true rfl ?_ | with_reducible refine abr_false rfl ?_ | with_reducible refine abr_yes rfl ?_ | refine abr_yes (by decide) ?_ | refine abr_no (by decide) ?_ | with_reducible refine abr_same_ne ?_); (conv => whnf))))
        refine abits_eq rfl ?_
        ((conv => whnf); (repeat ((first | with_reducible refine abr_true rfl ?_ | with_reducible refine abr_false rfl ?_ | with_reducible refine abr_yes rfl ?_ | refine abr_yes (by decide) ?_ | refine abr_no (by decide) ?_ | with_reducible refine abr_same_ne ?_); (conv => whnf))))
        refine abr_no hbit ?_
        ((conv => whnf); (repeat ((first | with_reducible refine abr_true rfl ?_ | with_reducible refine abr_false rfl ?_ | with_reducible refine abr_yes rfl ?_ | refine abr_yes (by decide) ?_ | refine abr_no (by decide) ?_ | with_reducible refine abr_same_ne ?_); (conv => whnf))))
      case' inr =>
        (repeat ((first | refine aload (by (repeat (first | with_reducible exact upd_same _ _ _ | assumption | rw [upd_ne _ _ (by first | assumption | (apply Ne.symm; assumption))]))) rfl ?_ | refine afit_i64 (by omega) ?_ | refine arem_nonneg (by omega) (by omega) ?_ | refine adiv_i64 (by omega) (by omega) ?_ | refine abr_yes (by omega) ?_ | refine abr_no (by omega) ?_ | refine amin ?_ | refine amax ?_ | refine afit_u64 (by omega) ?_ | refine afit_u8 (by omega) ?_ | rw [List.length_map]); ((conv => whnf); (repeat ((first | with_reducible refine abr_true rfl ?_ | with_reducible refine abr_false rfl ?_ | with_reducible refine abr_yes rfl ?_ | refine abr_yes (by decide) ?_ | refine abr_no (by decide) ?_ | with_reducible refine abr_same_ne ?_); (conv => whnf))))))
      all_goals
        refine aget (by omega) (get_pieces hi2) ?_
        rw [← hp]
        ((conv => whnf); (repeat ((first | with_reducible refine abr_true rfl ?_ | with_reducible refine abr_false rfl ?_ | with_reducible refine abr_yes rfl ?_ | refine abr_yes (by decide) ?_ | refine abr_no (by decide) ?_ | with_reducible refine abr_same_ne ?_); (conv => whnf))))
        refine acell rfl ?_
        ((conv => whnf); (repeat ((first | with_reducible refine abr_true rfl ?_ | with_reducible refine abr_false rfl ?_ | with_reducible refine abr_yes rfl ?_ | refine abr_yes (by decide) ?_ | refine abr_no (by decide) ?_ | with_reducible refine abr_same_ne ?_); (conv => whnf))))
        refine aget (by omega) (get_pieces hi2) ?_
        rw [← hp]
        ((conv => whnf); (repeat ((first | with_reducible refine abr_true rfl ?_ | with_reducible refine abr_false rfl ?_ | with_reducible refine abr_yes rfl ?_ | refine abr_yes (by decide) ?_ | refine abr_no (by decide) ?_ | with_reducible refine abr_same_ne ?_); (conv => whnf))))
        refine acell rfl ?_
        ((conv => whnf); (repeat ((first | with_reducible refine abr_true rfl ?_ | with_reducible refine abr_false rfl ?_ | with_reducible refine abr_yes rfl ?_ | refine abr_yes (by decide) ?_ | refine abr_no (by decide) ?_ | with_reducible refine abr_same_ne ?_); (conv => whnf))))
        refine acall (gPut id (cutP room 11 qi).1 (cutP room 11 qi).2.1 .none gap g0 _ _ w2 (by omega) hheld (by omega) (fun f hf => by have := z2 f hf; omega)) ?_
        rintro _ σ3 ⟨rfl, w3⟩
        rw [hput, g.good]
        rw [hput] at w3
        ((conv => whnf); (repeat ((first | with_reducible refine abr_true rfl ?_ | with_reducible refine abr_false rfl ?_ | with_reducible refine abr_yes rfl ?_ | refine abr_yes (by decide) ?_ | refine abr_no (by decide) ?_ | with_reducible refine abr_same_ne ?_); (conv => whnf))))
        refine aget (by omega) (get_pieces hi2) ?_
        rw [← hp]
        ((conv => whnf); (repeat ((first | with_reducible refine abr_true rfl ?_ | with_reducible refine abr_false rfl ?_ | with_reducible refine abr_yes rfl ?_ | refine abr_yes (by decide) ?_ | refine abr_no (by decide) ?_ | with_reducible refine abr_same_ne ?_); (conv => whnf))))
        refine acell rfl ?_
        ((conv => whnf); (repeat ((first | with_reducible refine abr_true rfl ?_ | with_reducible refine abr_false rfl ?_ | with_reducible refine abr_yes rfl ?_ | refine abr_yes (by decide) ?_ | refine abr_no (by decide) ?_ | with_reducible refine abr_same_ne ?_); (conv => whnf))))
        rw [List.length_map, List.length_map]
        refine abr_no (by omega) ?_
        ((conv => whnf); (repeat ((first | with_reducible refine abr_true rfl ?_ | with_reducible refine abr_false rfl ?_ | with_reducible refine abr_yes rfl ?_ | refine abr_yes (by decide) ?_ | refine abr_no (by decide) ?_ | with_reducible refine abr_same_ne ?_); (conv => whnf))))
        refine aget (by omega) (get_pieces hi2) ?_
        rw [← hp]
        ((conv => whnf); (repeat ((first | with_reducible refine abr_true rfl ?_ | with_reducible refine abr_false rfl ?_ | with_reducible refine abr_yes rfl ?_ | refine abr_yes (by decide) ?_ | refine abr_no (by decide) ?_ | with_reducible refine abr_same_ne ?_); (conv => whnf))))
        refine acell rfl ?_
        ((conv => whnf); (repeat ((first | with_reducible refine abr_true rfl ?_ | with_reducible refine abr_false rfl ?_ | with_reducible refine abr_yes rfl ?_ | refine abr_yes (by decide) ?_ | refine abr_no (by decide) ?_ | with_reducible refine abr_same_ne ?_); (conv => whnf))))
        rw [List.length_map]
        have hc0 : ¬ 2 ≤ (cutP room 11 qi).1 → c = 0 := fun h => Classical.byContradiction fun k => h (hbegun.2 (hc2 (by omega)).1)
        cases whole
        case' true =>
          have hcz := hcw rfl
          ((conv => whnf); (repeat ((first | with_reducible refine abr_true rfl ?_ | with_reducible refine abr_false rfl ?_ | with_reducible refine abr_yes rfl ?_ | refine abr_yes (by decide) ?_ | refine abr_no (by decide) ?_ | with_reducible refine abr_same_ne ?_); (conv => whnf))))
        case' false =>
          ((conv => whnf); (repeat ((first | with_reducible refine abr_true rfl ?_ | with_reducible refine abr_false rfl ?_ | with_reducible refine abr_yes rfl ?_ | refine abr_yes (by decide) ?_ | refine abr_no (by decide) ?_ | with_reducible refine abr_same_ne ?_); (conv => whnf))))
          refine aget (by omega) (get_pieces hi2) ?_
          rw [← hp]
          ((conv => whnf); (repeat ((first | with_reducible refine abr_true rfl ?_ | with_reducible refine abr_false rfl ?_ | with_reducible refine abr_yes rfl ?_ | refine abr_yes (by decide) ?_ | refine abr_no (by decide) ?_ | with_reducible refine abr_same_ne ?_); (conv => whnf))))
          refine acell rfl ?_
          ((conv => whnf); (repeat ((first | with_reducible refine abr_true rfl ?_ | with_reducible refine abr_false rfl ?_ | with_reducible refine abr_yes rfl ?_ | refine abr_yes (by decide) ?_ | refine abr_no (by decide) ?_ | with_reducible refine abr_same_ne ?_); (conv => whnf))))
          rcases Classical.em (2 ≤ (cutP room 11 qi).1) with hf2 | hf2
        case' false.inr =>
          have hcz := hc0 hf2
          refine abr_no (by omega) ?_
          ((conv => whnf); (repeat ((first | with_reducible refine abr_true rfl ?_ | with_reducible refine abr_false rfl ?_ | with_reducible refine abr_yes rfl ?_ | refine abr_yes (by decide) ?_ | refine abr_no (by decide) ?_ | with_reducible refine abr_same_ne ?_); (conv => whnf))))
        case' false.inl =>
          refine abr_yes (by omega) ?_
          ((conv => whnf); (repeat ((first | with_reducible refine abr_true rfl ?_ | with_reducible refine abr_false rfl ?_ | with_reducible refine abr_yes rfl ?_ | refine abr_yes (by decide) ?_ | refine abr_no (by decide) ?_ | with_reducible refine abr_same_ne ?_); (conv => whnf))))
          rcases Classical.em ((cutP room 11 qi).2.2.length = 0) with hd0 | hd0
        case' false.inl.inl =>
          refine abr_no (by omega) ?_
          ((conv => whnf); (repeat ((first | with_reducible refine abr_true rfl ?_ | with_reducible refine abr_false rfl ?_ | with_reducible refine abr_yes rfl ?_ | refine abr_yes (by decide) ?_ | refine abr_no (by decide) ?_ | with_reducible refine abr_same_ne ?_); (conv => whnf))))
        case' false.inl.inr =>
          refine abr_yes (by omega) ?_
          ((conv => whnf); (repeat ((first | with_reducible refine abr_true rfl ?_ | with_reducible refine abr_false rfl ?_ | with_reducible refine abr_yes rfl ?_ | refine abr_yes (by decide) ?_ | refine abr_no (by decide) ?_ | with_reducible refine abr_same_ne ?_); (conv => whnf))))
          (repeat ((first | refine aload (by (repeat (first | with_reducible exact upd_same _ _ _ | assumption | rw [upd_ne _ _ (by first | assumption | (apply Ne.symm; assumption))]))) rfl ?_ | refine afit_i64 (by omega) ?_ | refine arem_nonneg (by omega) (by omega) ?_ | refine adiv_i64 (by omega) (by omega) ?_ | refine abr_yes (by omega) ?_ | refine abr_no (by omega) ?_ | refine amin ?_ | refine amax ?_ | refine afit_u64 (by omega) ?_ | refine afit_u8 (by omega) ?_ | rw [List.length_map]); ((conv => whnf); (repeat ((first | with_reducible refine abr_true rfl ?_ | with_reducible refine abr_false rfl ?_ | with_reducible refine abr_yes rfl ?_ | refine abr_yes (by decide) ?_ | refine abr_no (by decide) ?_ | with_reducible refine abr_same_ne ?_); (conv => whnf))))))
        all_goals
          try rw [List.length_map]
          first
            | refine abr_no (by omega) ?_
              ((conv => whnf); (repeat ((first | with_reducible refine abr_true rfl ?_ | with_reducible refine abr_false rfl ?_ | with_reducible refine abr_yes rfl ?_ | refine abr_yes (by decide) ?_ | refine abr_no (by decide) ?_ | with_reducible refine abr_same_ne ?_); (conv => whnf))))
            | skip
          refine aget (by omega) (get_pieces hi2) ?_
          rw [← hp]
          ((conv => whnf); (repeat ((first | with_reducible refine abr_true rfl ?_ | with_reducible refine abr_false rfl ?_ | with_reducible refine abr_yes rfl ?_ | refine abr_yes (by decide) ?_ | refine abr_no (by decide) ?_ | with_reducible refine abr_same_ne ?_); (conv => whnf))))
          refine acell rfl ?_
          ((conv => whnf); (repeat ((first | with_reducible refine abr_true rfl ?_ | with_reducible refine abr_false rfl ?_ | with_reducible refine abr_yes rfl ?_ | refine abr_yes (by decide) ?_ | refine abr_no (by decide) ?_ | with_reducible refine abr_same_ne ?_); (conv => whnf))))
          rw [List.length_map]
          refine afit_i64 (by omega) ?_
          ((conv => whnf); (repeat ((first | with_reducible refine abr_true rfl ?_ | with_reducible refine abr_false rfl ?_ | with_reducible refine abr_yes rfl ?_ | refine abr_yes (by decide) ?_ | refine abr_no (by decide) ?_ | with_reducible refine abr_same_ne ?_); (conv => whnf))))
          rw [List.length_map]
          refine afit_i64 (by omega) ?_
          ((conv => whnf); (repeat ((first | with_reducible refine abr_true rfl ?_ | with_reducible refine abr_false rfl ?_ | with_reducible refine abr_yes rfl ?_ | refine abr_yes (by decide) ?_ | refine abr_no (by decide) ?_ | with_reducible refine abr_same_ne ?_); (conv => whnf))))
          rw [show ((dones (ps.take i) : Int) + ((cutP room 11 qi).2.2.length : Int) - (P.1.length : Int)) = ((dones (ps.take i) + ((cutP room 11 qi).2.2.length - P.1.length) : Nat) : Int) by omega]
          obtain ⟨a, ha⟩ : ∃ a, a = dones (ps.take i) + ((cutP room 11 qi).2.2.length - P.1.length) := ⟨_, rfl⟩
          rw [← ha]
          refine aloop (α := Nat × Nat) (fun x => [(s11, i64v x.2), (s20, i64v x.1)]) (fun _ => σ3) (fun x => x.1 ≤ P.1.length ∧ x.2 ≤ a + x.1) (fun x => P.1.length - x.1) (0, n) ⟨Nat.zero_le _, by dsimp only; omega⟩ (Sub.refl _) ?_ ?_
          · ((conv => whnf); (repeat ((first | with_reducible refine abr_true rfl ?_ | with_reducible refine abr_false rfl ?_ | with_reducible refine abr_yes rfl ?_ | refine abr_yes (by decide) ?_ | refine abr_no (by decide) ?_ | with_reducible refine abr_same_ne ?_); (conv => whnf))))
            (repeat' first | with_reducible exact EnvLe.refl _ | (refine EnvLe.node ?_ (by first | exact Or.inl rfl | exact Or.inr (Or.inl rfl) | exact Or.inr (Or.inr ⟨nofun, VLe.slice _ _ _⟩)) ?_))
          rintro ⟨k, nn⟩ ⟨hk, hnk⟩
          dsimp only at hk hnk ⊢
          by_cases hk2 : k < P.1.length
          · first
            | exfalso
              omega
            | have hkk : a + k < kept.length := by omega
              have heq : P.1[k] = kept[a + k] := by
                have : P.1[k]? = some kept[a + k] := by
                  rw [hout, List.getElem?_drop, List.getElem?_take, if_pos (by omega), List.getElem?_drop, show dones (ps.take i) + (c + k) = a + k by omega, List.getElem?_eq_getElem hkk]
                rw [List.getElem?_eq_getElem hk2] at this
                injection this
              ((conv => whnf); (repeat ((first | with_reducible refine abr_true rfl ?_ | with_reducible refine abr_false rfl ?_ | with_reducible refine abr_yes rfl ?_ | refine abr_yes (by decide) ?_ | refine abr_no (by decide) ?_ | with_reducible refine abr_same_ne ?_); (conv => whnf))))
              (repeat ((first | refine aload (by (repeat (first | with_reducible exact upd_same _ _ _ | assumption | rw [upd_ne _ _ (by first | assumption | (apply Ne.symm; assumption))]))) rfl ?_ | refine afit_i64 (by omega) ?_ | refine arem_nonneg (by omega) (by omega) ?_ | refine adiv_i64 (by omega) (by omega) ?_ | refine abr_yes (by omega) ?_ | refine abr_no (by omega) ?_ | refine amin ?_ | refine amax ?_ | refine afit_u64 (by omega) ?_ | refine afit_u8 (by omega) ?_ | rw [List.length_map]); ((conv => whnf); (repeat ((first | with_reducible refine abr_true rfl ?_ | with_reducible refine abr_false rfl ?_ | with_reducible refine abr_yes rfl ?_ | refine abr_yes (by decide) ?_ | refine abr_no (by decide) ?_ | with_reducible refine abr_same_ne ?_); (conv => whnf))))))
              refine aget (by omega) (get_lists hk2) ?_
              ((conv => whnf); (repeat ((first | with_reducible refine abr_true rfl ?_ | with_reducible refine abr_false rfl ?_ | with_reducible refine abr_yes rfl ?_ | refine abr_yes (by decide) ?_ | refine abr_no (by decide) ?_ | with_reducible refine abr_same_ne ?_); (conv => whnf))))
              refine acell rfl ?_
              ((conv => whnf); (repeat ((first | with_reducible refine abr_true rfl ?_ | with_reducible refine abr_false rfl ?_ | with_reducible refine abr_yes rfl ?_ | refine abr_yes (by decide) ?_ | refine abr_no (by decide) ?_ | with_reducible refine abr_same_ne ?_); (conv => whnf))))
              refine astr rfl ?_
              ((conv => whnf); (repeat ((first | with_reducible refine abr_true rfl ?_ | with_reducible refine abr_false rfl ?_ | with_reducible refine abr_yes rfl ?_ | refine abr_yes (by decide) ?_ | refine abr_no (by decide) ?_ | with_reducible refine abr_same_ne ?_); (conv => whnf))))
              refine afit_i64 (by omega) ?_
              ((conv => whnf); (repeat ((first | with_reducible refine abr_true rfl ?_ | with_reducible refine abr_false rfl ?_ | with_reducible refine abr_yes rfl ?_ | refine abr_yes (by decide) ?_ | refine abr_no (by decide) ?_ | with_reducible refine abr_same_ne ?_); (conv => whnf))))
              rw [show ((a : Int) + (k : Int)) = ((a + k : Nat) : Int) by omega]
              refine aget (by omega) (get_lists hkk) ?_
              ((conv => whnf); (repeat ((first | with_reducible refine abr_true rfl ?_ | with_reducible refine abr_false rfl ?_ | with_reducible refine abr_yes rfl ?_ | refine abr_yes (by decide) ?_ | refine abr_no (by decide) ?_ | with_reducible refine abr_same_ne ?_); (conv => whnf))))
              refine acell rfl ?_
              ((conv => whnf); (repeat ((first | with_reducible refine abr_true rfl ?_ | with_reducible refine abr_false rfl ?_ | with_reducible refine abr_yes rfl ?_ | refine abr_yes (by decide) ?_ | refine abr_no (by decide) ?_ | with_reducible refine abr_same_ne ?_); (conv => whnf))))
              refine astr rfl ?_
              ((conv => whnf); (repeat ((first | with_reducible refine abr_true rfl ?_ | with_reducible refine abr_false rfl ?_ | with_reducible refine abr_yes rfl ?_ | refine abr_yes (by decide) ?_ | refine abr_no (by decide) ?_ | with_reducible refine abr_same_ne ?_); (conv => whnf))))
              refine abr_no (fun hne => hne (by rw [heq])) ?_
              ((conv => whnf); (repeat ((first | with_reducible refine abr_true rfl ?_ | with_reducible refine abr_false rfl ?_ | with_reducible refine abr_yes rfl ?_ | refine abr_yes (by decide) ?_ | refine abr_no (by decide) ?_ | with_reducible refine abr_same_ne ?_); (conv => whnf))))
              (repeat ((first | refine aload (by (repeat (first | with_reducible exact upd_same _ _ _ | assumption | rw [upd_ne _ _ (by first | assumption | (apply Ne.symm; assumption))]))) rfl ?_ | refine afit_i64 (by omega) ?_ | refine arem_nonneg (by omega) (by omega) ?_ | refine adiv_i64 (by omega) (by omega) ?_ | refine abr_yes (by omega) ?_ | refine abr_no (by omega) ?_ | refine amin ?_ | refine amax ?_ | refine afit_u64 (by omega) ?_ | refine afit_u8 (by omega) ?_ | rw [List.length_map]); ((conv => whnf); (repeat ((first | with_reducible refine abr_true rfl ?_ | with_reducible refine abr_false rfl ?_ | with_reducible refine abr_yes rfl ?_ | refine abr_yes (by decide) ?_ | refine abr_no (by decide) ?_ | with_reducible refine abr_same_ne ?_); (conv => whnf))))))
              refine ⟨(k + 1, a + k + 1), ⟨hk2, by dsimp only; omega⟩, by dsimp only; omega, Sub.refl _, ?_⟩
              rw [show ((a + k + 1 : Nat) : Int) = (a : Int) + (k : Int) + 1 by omega]
              ((conv => whnf); (repeat ((first | with_reducible refine abr_true rfl ?_ | with_reducible refine abr_false rfl ?_ | with_reducible refine abr_yes rfl ?_ | refine abr_yes (by decide) ?_ | refine abr_no (by decide) ?_ | with_reducible refine abr_same_ne ?_); (conv => whnf))))
              (repeat' first | with_reducible exact EnvLe.refl _ | (refine EnvLe.node ?_ (by first | exact Or.inl rfl | exact Or.inr (Or.inl rfl) | exact Or.inr (Or.inr ⟨nofun, VLe.slice _ _ _⟩)) ?_))
          · ((conv => whnf); (repeat ((first | with_reducible refine abr_true rfl ?_ | with_reducible refine abr_false rfl ?_ | with_reducible refine abr_yes rfl ?_ | refine abr_yes (by decide) ?_ | refine abr_no (by decide) ?_ | with_reducible refine abr_same_ne ?_); (conv => whnf))))
            (repeat ((first | refine aload (by (repeat (first | with_reducible exact upd_same _ _ _ | assumption | rw [upd_ne _ _ (by first | assumption | (apply Ne.symm; assumption))]))) rfl ?_ | refine afit_i64 (by omega) ?_ | refine arem_nonneg (by omega) (by omega) ?_ | refine adiv_i64 (by omega) (by omega) ?_ | refine abr_yes (by omega) ?_ | refine abr_no (by omega) ?_ | refine amin ?_ | refine amax ?_ | refine afit_u64 (by omega) ?_ | refine afit_u8 (by omega) ?_ | rw [List.length_map]); ((conv => whnf); (repeat ((first | with_reducible refine abr_true rfl ?_ | with_reducible refine abr_false rfl ?_ | with_reducible refine abr_yes rfl ?_ | refine abr_yes (by decide) ?_ | refine abr_no (by decide) ?_ | with_reducible refine abr_same_ne ?_); (conv => whnf))))))
            refine aget (by omega) (get_pieces hi2) ?_
            rw [← hp]
            ((conv => whnf); (repeat ((first | with_reducible refine abr_true rfl ?_ | with_reducible refine abr_false rfl ?_ | with_reducible refine abr_yes rfl ?_ | refine abr_yes (by decide) ?_ | refine abr_no (by decide) ?_ | with_reducible refine abr_same_ne ?_); (conv => whnf))))
            refine acell rfl ?_
            ((conv => whnf); (repeat ((first | with_reducible refine abr_true rfl ?_ | with_reducible refine abr_false rfl ?_ | with_reducible refine abr_yes rfl ?_ | refine abr_yes (by decide) ?_ | refine abr_no (by decide) ?_ | with_reducible refine abr_same_ne ?_); (conv => whnf))))
            rw [List.length_map]
            (repeat ((first | refine aload (by (repeat (first | with_reducible exact upd_same _ _ _ | assumption | rw [upd_ne _ _ (by first | assumption | (apply Ne.symm; assumption))]))) rfl ?_ | refine afit_i64 (by omega) ?_ | refine arem_nonneg (by omega) (by omega) ?_ | refine adiv_i64 (by omega) (by omega) ?_ | refine abr_yes (by omega) ?_ | refine abr_no (by omega) ?_ | refine amin ?_ | refine amax ?_ | refine afit_u64 (by omega) ?_ | refine afit_u8 (by omega) ?_ | rw [List.length_map]); ((conv => whnf); (repeat ((first | with_reducible refine abr_true rfl ?_ | with_reducible refine abr_false rfl ?_ | with_reducible refine abr_yes rfl ?_ | refine abr_yes (by decide) ?_ | refine abr_no (by decide) ?_ | with_reducible refine abr_same_ne ?_); (conv => whnf))))))
            refine ⟨(i + 1, nn, false, _, P.2, σ3), ⟨hi2, by dsimp only; omega, by dsimp only; omega, hnn.2.1, fun _ => rfl, _, hctk, rest, w3, .inr g.held, fun hw => by rw [g.exact_ (hwh1 hw)]⟩, by dsimp only; omega, Sub.refl _, ?_⟩
            rw [hdt, show ((dones (ps.take i) : Int) + ((cutP room 11 qi).2.2.length : Int)) = ((dones (ps.take i) + (cutP room 11 qi).2.2.length : Nat) : Int) by omega]
            ((conv => whnf); (repeat ((first | with_reducible refine abr_true rfl ?_ | with_reducible refine abr_false rfl ?_ | with_reducible refine abr_yes rfl ?_ | refine abr_yes (by decide) ?_ | refine abr_no (by decide) ?_ | with_reducible refine abr_same_ne ?_); (conv => whnf))))
            (repeat' first | with_reducible exact EnvLe.refl _ | (refine EnvLe.node ?_ (by first | exact Or.inl rfl | exact Or.inr (Or.inl rfl) | exact Or.inr (Or.inr ⟨nofun, VLe.slice _ _ _⟩)) ?_))
  · ((conv => whnf); (repeat ((first | with_reducible refine abr_true rfl ?_ | with_reducible refine abr_false rfl ?_ | with_reducible refine abr_yes rfl ?_ | refine abr_yes (by decide) ?_ | refine abr_no (by decide) ?_ | with_reducible refine abr_same_ne ?_); (conv => whnf))))
    (repeat ((first | refine aload (by (repeat (first | with_reducible exact upd_same _ _ _ | assumption | rw [upd_ne _ _ (by first | assumption | (apply Ne.symm; assumption))]))) rfl ?_ | refine afit_i64 (by omega) ?_ | refine arem_nonneg (by omega) (by omega) ?_ | refine adiv_i64 (by omega) (by omega) ?_ | refine abr_yes (by omega) ?_ | refine abr_no (by omega) ?_ | refine amin ?_ | refine amax ?_ | refine afit_u64 (by omega) ?_ | refine afit_u8 (by omega) ?_ | rw [List.length_map]); ((conv => whnf); (repeat ((first | with_reducible refine abr_true rfl ?_ | with_reducible refine abr_false rfl ?_ | with_reducible refine abr_yes rfl ?_ | refine abr_yes (by decide) ?_ | refine abr_no (by decide) ?_ | with_reducible refine abr_same_ne ?_); (conv => whnf))))))
    refine acall (alive14 _) ?_
    rintro _ σ_ ⟨rfl, e_⟩
    obtain rfl := e_.symm
    refine ⟨?_, Ext.refl _⟩
    ((conv => whnf); (repeat ((first | with_reducible refine abr_true rfl ?_ | with_reducible refine abr_false rfl ?_ | with_reducible refine abr_yes rfl ?_ | refine abr_yes (by decide) ?_ | refine abr_no (by decide) ?_ | with_reducible refine abr_same_ne ?_); (conv => whnf))))
    exact aret (VLe.refl _) w2.sub ⟨rfl, rfl⟩
end Go.Proofs.Ytiohpnkfcaahbaa
