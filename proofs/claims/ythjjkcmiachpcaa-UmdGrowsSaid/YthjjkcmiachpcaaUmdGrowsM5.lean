/-
  Texts of this claim, part 6: Claw09f.
-/
import Derived.Test.YthjjkcmiachpcaaUmdGrowsM4
/-
  Packets that are not acknowledged: a byte more.
-/
namespace Go.Proofs.Ythjjkcmiachpcaa
set_option linter.unusedVariables false
set_option linter.unusedSimpArgs false
open Go Go.Am

/-- A byte behind the last field. -/
def longer (l : List (List UInt8)) (c : UInt8) : List (List UInt8) := l.set (l.length - 1) (l[l.length - 1]?.getD [] ++ [c])
theorem longer_length (l : List (List UInt8)) (c : UInt8) : (longer l c).length = l.length := by unfold longer; simp
theorem total_set : ∀ (l : List (List UInt8)) (i : Nat) (x : List UInt8) (h : i < l.length), total (l.set i x) + l[i].length = total l + x.length
  | a :: l, 0, x, h => by rw [List.set_cons_zero, total_cons, total_cons]; simp only [List.getElem_cons_zero]; omega
  | a :: l, i + 1, x, h => by
    have := total_set l i x (by simpa using h)
    rw [List.set_cons_succ, total_cons, total_cons]; simp only [List.getElem_cons_succ]; omega
theorem longer_total {l : List (List UInt8)} {c : UInt8} (h : 1 ≤ l.length) : total (longer l c) = total l + 1 := by
  have := total_set l (l.length - 1) (l[l.length - 1]?.getD [] ++ [c]) (by omega)
  unfold longer
  rw [List.getElem?_eq_getElem (by omega), Option.getD_some] at this ⊢
  rw [List.length_append] at this
  have h1 : ([c] : List UInt8).length = 1 := rfl
  omega
theorem longer_bad {l : List (List UInt8)} {c : UInt8} (h : 1 ≤ l.length) (hb : fieldsBad l l.length = false) : fieldsBad (longer l c) l.length = false := by
  refine Bool.eq_false_iff.2 fun hx => ?_
  unfold fieldsBad at hx
  obtain ⟨i, hi, hbad⟩ := List.any_eq_true.1 hx
  rw [List.mem_range] at hi
  have hg : fieldBad l i = false := Bool.eq_false_iff.2 fun hb2 => by rw [fieldsBad_of hi hb2] at hb; cases hb
  rw [fieldBad_get hi] at hg
  have hg := of_decide_eq_false hg
  rw [fieldBad_get (by rw [longer_length]; exact hi)] at hbad
  have hbad := of_decide_eq_true hbad
  have hl2 := longer_length l c
  unfold longer at hbad hl2
  rw [List.getElem_set] at hbad
  split at hbad
  · rename_i e
    rw [List.length_append] at hbad
    have h1 : ([c] : List UInt8).length = 1 := rfl
    omega
  · omega
theorem isNum_more {sn : Int} (h : isNum 5 sn = true) : isNum 10 sn = true := by
  unfold isNum at h ⊢
  have := of_decide_eq_true h
  refine decide_eq_true ?_
  rw [show spaceSize 5 = 32 by decide] at this
  rw [show spaceSize 10 = 1024 by decide]
  omega
theorem fieldsV_five {l : List (List UInt8)} : fieldsV l 1 11 = 0 ∨ (fieldsV l 1 11 = 4000 ∧ fieldsV l 2 11 = 0) ∨ fieldsV l 2 11 = fieldsV l 1 11 + 1 := by
  unfold fieldsV
  have := sizeV_range ((l.length : Int) - 1) 11
  repeat' split
  all_goals omega
theorem fieldsV_longer {l : List (List UInt8)} {c : UInt8} : fieldsV l 2 11 = 0 ∨ fieldsV (longer l c) 2 11 = fieldsV l 2 11 + 1 ∨ (fieldsV l 2 11 = 4000 ∧ fieldsV (longer l c) 2 11 = 0) := by
  unfold fieldsV
  rw [longer_length]
  by_cases h1 : l.length < 1 ∨ l.length > 24
  · rw [if_pos h1]; exact .inl rfl
  · rw [if_neg h1, if_neg h1]
    cases hb : fieldsBad l l.length with
    | true => rw [if_pos rfl]; exact .inl rfl
    | false =>
      rw [longer_bad (c := c) (by omega) hb, longer_total (c := c) (by omega)]
      simp only [Bool.false_eq_true, if_false]
      have := sizeV_range ((l.length : Int) - 1) 11
      repeat' split
      all_goals omega
theorem umSize_grows (fi sn : Int) (l : List (List UInt8)) (c : UInt8) :
    (umSize fi sn l 5 = 0 ∨ (umSize fi sn l 5 = 4000 ∧ umSize fi sn l 10 = 0) ∨ umSize fi sn l 10 = umSize fi sn l 5 + 1) ∧ (umSize fi sn l 10 = 0 ∨ umSize fi sn (longer l c) 10 = umSize fi sn l 10 + 1 ∨ (umSize fi sn l 10 = 4000 ∧ umSize fi sn (longer l c) 10 = 0)) := by
  unfold umSize
  rw [show umWidth 5 = true by decide, show umWidth 10 = true by decide, show (5 : Int) / 5 = 1 by decide, show (10 : Int) / 5 = 2 by decide]
  by_cases hf : fi < 0 ∨ fi > 3
  · rw [if_pos (.inr (by omega)), if_pos (.inr (by omega))]; exact ⟨.inl rfl, .inl rfl⟩
  · constructor
    · cases h5 : isNum 5 sn with
      | false => rw [if_pos (.inr (.inr (.inr rfl)))]; exact .inl rfl
      | true =>
        rw [isNum_more h5, if_neg (by simp; omega), if_neg (by simp; omega)]
        exact fieldsV_five
    · cases h10 : isNum 10 sn with
      | false => rw [if_pos (.inr (.inr (.inr rfl)))]; exact .inl rfl
      | true =>
        rw [if_neg (by simp; omega), if_neg (by simp; omega)]
        exact fieldsV_longer

/-- Lists that say less, one by one. -/
inductive AllLe : List AVal → List AVal → Prop
  | nil : AllLe [] []
  | cons {x y : AVal} {xs ys : List AVal} : VLe x y → AllLe xs ys → AllLe (x :: xs) (y :: ys)
theorem AllLe.rep {κ : Ghost} : ∀ {xs ys : List AVal} {vs : List Value}, AllLe xs ys → RepL κ xs vs → RepL κ ys vs
  | _, _, _, .nil, h => h
  | _, _, _, .cons h t, .cons a b => .cons (h _ _ a) (AllLe.rep t b)
theorem set_le (t : Tok) (x : List UInt8) : ∀ (l : List (List UInt8)) (i : Nat), AllLe ((l.map (sl .none)).set i (sl t x)) ((l.set i x).map (sl .none))
  | [], _ => .nil
  | a :: l, 0 => .cons (VLe.slice _ _ _) (by
      induction l with
      | nil => exact .nil
      | cons b l ih => exact .cons (VLe.refl _) ih)
  | a :: l, i + 1 => .cons (VLe.refl _) (set_le t x l i)
theorem flat_set (t : Tok) (x : List UInt8) (l : List (List UInt8)) (i : Nat) : ((l.map (sl .none)).set i (sl t x)).flatMap AVal.cells = (l.map (sl .none)).set i (sl t x) ∧ ∀ y ∈ (l.map (sl .none)).set i (sl t x), y.cells.length = 1 := by
  have h : ∀ y ∈ (l.map (sl .none)).set i (sl t x), ∃ u b, y = sl u b := by
    intro y hy
    rcases List.mem_or_eq_of_mem_set hy with h | h
    · obtain ⟨b, _, rfl⟩ := List.mem_map.1 h; exact ⟨_, _, rfl⟩
    · exact ⟨_, _, h⟩
  constructor
  · generalize (l.map (sl .none)).set i (sl t x) = L at h
    induction L with
    | nil => rfl
    | cons y L ih =>
      obtain ⟨u, b, rfl⟩ := h _ (List.mem_cons_self ..)
      rw [List.flatMap_cons, ih fun z hz => h z (List.mem_cons_of_mem _ hz)]
      rfl
  · intro y hy
    obtain ⟨u, b, rfl⟩ := h y hy
    rfl
theorem lists_ok (l : List (List UInt8)) : (l.map (sl .none)).all (okElem 1) = true := by
  rw [List.all_eq_true]; intro y hy; obtain ⟨b, _, rfl⟩ := List.mem_map.1 hy; rfl
theorem lists_flat (l : List (List UInt8)) : (l.map (sl .none)).flatMap AVal.cells = l.map (sl .none) := by
  induction l with
  | nil => rfl
  | cons b l ih => rw [List.map_cons, List.flatMap_cons, ih]; rfl

theorem via {K G : Prop} (f : (Unit → K) → G) (k : K) : G := f fun _ => k
theorem AllLe.len : ∀ {xs ys : List AVal}, AllLe xs ys → xs.length = ys.length
  | _, _, .nil => rfl
  | _, _, .cons _ t => by rw [List.length_cons, List.length_cons, AllLe.len t]
theorem rep_lists {κ : Ghost} {v : Value} {L : List AVal} {m : List (List UInt8)} (hle : AllLe L (m.map (sl .none))) (hL : L.flatMap AVal.cells = L) (h : RepV κ (.slice 1 L .none) v) : RepV κ (lists .none m) v := by
  have hlen := hle.len
  rcases h.slice_inv with ⟨⟨a, rfl⟩, hn⟩ | ⟨b, off, cap, vs, rfl, g2, g3, g4, g5, g6⟩
  · rw [hn] at hlen
    have : m = [] := by simpa using hlen.symm
    subst this
    exact .nil
  · rw [hL] at g4
    rw [hlen] at g2 ⊢
    refine .slice (vs := vs) rfl g2 (fun y hy => ?_) (by rw [lists_flat]; exact hle.rep g4) g5 trivial
    obtain ⟨b, _, rfl⟩ := List.mem_map.1 hy; rfl
theorem splice_one {α : Type} (cs : List α) (p : Nat) (x : α) (h : p < cs.length) : splice cs p [x] = cs.set p x := by
  unfold splice
  rw [List.set_eq_take_append_cons_drop, if_pos h, List.append_assoc]
  rfl
set_option maxRecDepth 20000 in
set_option maxHeartbeats 4000000 in
theorem UmdGrows (fi sn : Int) (l : List (List UInt8)) (c : UInt8) (σ : AHeap) (hl : l.length ≤ 9223372036854775807) :
    ACalls Try.prog i_bowlinelaw09_UmdGrows [pkV fi sn l, byteV c] σ fun v σ' => v = boolv true ∧ σ' = σ := by
  refine km_bowlinelaw09_UmdGrows rfl ?_
  ((conv => whnf); (repeat ((first | with_reducible refine abr_true rfl ?_ | with_reducible refine abr_false rfl ?_ | with_reducible refine abr_yes rfl ?_ | refine abr_yes (by decide) ?_ | refine abr_no (by decide) ?_ | with_reducible refine abr_same_ne ?_); (conv => whnf))))
  refine anew rfl fun id hid => ?_
  generalize hσ0 : upd σ id (.cells (pkV fi sn l).cells) = σ0
  have hs : Sub σ0 σ := by rw [← hσ0]; exact Sub.upd_fresh _ hid
  have hc1 : σ0 id = some (.cells [i64v fi, i64v sn, lists .none l]) := by rw [← hσ0]; exact upd_same _ _ _
  ((conv => whnf); (repeat ((first | with_reducible refine abr_true rfl ?_ | with_reducible refine abr_false rfl ?_ | with_reducible refine abr_yes rfl ?_ | refine abr_yes (by decide) ?_ | refine abr_no (by decide) ?_ | with_reducible refine abr_same_ne ?_); (conv => whnf))))
  (repeat ((first | refine aload (by (repeat (first | with_reducible exact upd_same _ _ _ | assumption | rw [upd_ne _ _ (by first | assumption | (apply Ne.symm; assumption))]))) rfl ?_ | refine afit_i64 (by omega) ?_ | refine arem_nonneg (by omega) (by omega) ?_ | refine adiv_i64 (by omega) (by omega) ?_ | refine abr_yes (by omega) ?_ | refine abr_no (by omega) ?_ | refine amin ?_ | refine amax ?_ | refine afit_u64 (by omega) ?_ | refine afit_u8 (by omega) ?_ | rw [List.length_map]); ((conv => whnf); (repeat ((first | with_reducible refine abr_true rfl ?_ | with_reducible refine abr_false rfl ?_ | with_reducible refine abr_yes rfl ?_ | refine abr_yes (by decide) ?_ | refine abr_no (by decide) ?_ | with_reducible refine abr_same_ne ?_); (conv => whnf))))))
  refine acall (uGreat l .none _ hl) ?_
  rintro v σ' ⟨⟨g, rfl, hg⟩, e⟩
  obtain rfl := e.symm
  ((conv => whnf); (repeat ((first | with_reducible refine abr_true rfl ?_ | with_reducible refine abr_false rfl ?_ | with_reducible refine abr_yes rfl ?_ | refine abr_yes (by decide) ?_ | refine abr_no (by decide) ?_ | with_reducible refine abr_same_ne ?_); (conv => whnf))))
  cases g with
  | true =>
    ((conv => whnf); (repeat ((first | with_reducible refine abr_true rfl ?_ | with_reducible refine abr_false rfl ?_ | with_reducible refine abr_yes rfl ?_ | refine abr_yes (by decide) ?_ | refine abr_no (by decide) ?_ | with_reducible refine abr_same_ne ?_); (conv => whnf))))
    refine acall (alive09 _) ?_
    rintro _ σ_ ⟨rfl, e_⟩
    obtain rfl := e_.symm
    ((conv => whnf); (repeat ((first | with_reducible refine abr_true rfl ?_ | with_reducible refine abr_false rfl ?_ | with_reducible refine abr_yes rfl ?_ | refine abr_yes (by decide) ?_ | refine abr_no (by decide) ?_ | with_reducible refine abr_same_ne ?_); (conv => whnf))))
    exact aret (VLe.refl _) hs ⟨rfl, rfl⟩
  | false =>
  have hsm := (hg rfl).1
  have hsm2 := (hg rfl).2
  ((conv => whnf); (repeat ((first | with_reducible refine abr_true rfl ?_ | with_reducible refine abr_false rfl ?_ | with_reducible refine abr_yes rfl ?_ | refine abr_yes (by decide) ?_ | refine abr_no (by decide) ?_ | with_reducible refine abr_same_ne ?_); (conv => whnf))))
  (repeat ((first | refine aload (by (repeat (first | with_reducible exact upd_same _ _ _ | assumption | rw [upd_ne _ _ (by first | assumption | (apply Ne.symm; assumption))]))) rfl ?_ | refine afit_i64 (by omega) ?_ | refine arem_nonneg (by omega) (by omega) ?_ | refine adiv_i64 (by omega) (by omega) ?_ | refine abr_yes (by omega) ?_ | refine abr_no (by omega) ?_ | refine amin ?_ | refine amax ?_ | refine afit_u64 (by omega) ?_ | refine afit_u8 (by omega) ?_ | rw [List.length_map]); ((conv => whnf); (repeat ((first | with_reducible refine abr_true rfl ?_ | with_reducible refine abr_false rfl ?_ | with_reducible refine abr_yes rfl ?_ | refine abr_yes (by decide) ?_ | refine abr_no (by decide) ?_ | with_reducible refine abr_same_ne ?_); (conv => whnf))))))
  by_cases h0 : l.length = 0
  · (repeat ((first | refine aload (by (repeat (first | with_reducible exact upd_same _ _ _ | assumption | rw [upd_ne _ _ (by first | assumption | (apply Ne.symm; assumption))]))) rfl ?_ | refine afit_i64 (by omega) ?_ | refine arem_nonneg (by omega) (by omega) ?_ | refine adiv_i64 (by omega) (by omega) ?_ | refine abr_yes (by omega) ?_ | refine abr_no (by omega) ?_ | refine amin ?_ | refine amax ?_ | refine afit_u64 (by omega) ?_ | refine afit_u8 (by omega) ?_ | rw [List.length_map]); ((conv => whnf); (repeat ((first | with_reducible refine abr_true rfl ?_ | with_reducible refine abr_false rfl ?_ | with_reducible refine abr_yes rfl ?_ | refine abr_yes (by decide) ?_ | refine abr_no (by decide) ?_ | with_reducible refine abr_same_ne ?_); (conv => whnf))))))
    refine acall (alive09 _) ?_
    rintro _ σ_ ⟨rfl, e_⟩
    obtain rfl := e_.symm
    ((conv => whnf); (repeat ((first | with_reducible refine abr_true rfl ?_ | with_reducible refine abr_false rfl ?_ | with_reducible refine abr_yes rfl ?_ | refine abr_yes (by decide) ?_ | refine abr_no (by decide) ?_ | with_reducible refine abr_same_ne ?_); (conv => whnf))))
    exact aret (VLe.refl _) hs ⟨rfl, rfl⟩
  (repeat ((first | refine aload (by (repeat (first | with_reducible exact upd_same _ _ _ | assumption | rw [upd_ne _ _ (by first | assumption | (apply Ne.symm; assumption))]))) rfl ?_ | refine afit_i64 (by omega) ?_ | refine arem_nonneg (by omega) (by omega) ?_ | refine adiv_i64 (by omega) (by omega) ?_ | refine abr_yes (by omega) ?_ | refine abr_no (by omega) ?_ | refine amin ?_ | refine amax ?_ | refine afit_u64 (by omega) ?_ | refine afit_u8 (by omega) ?_ | rw [List.length_map]); ((conv => whnf); (repeat ((first | with_reducible refine abr_true rfl ?_ | with_reducible refine abr_false rfl ?_ | with_reducible refine abr_yes rfl ?_ | refine abr_yes (by decide) ?_ | refine abr_no (by decide) ?_ | with_reducible refine abr_same_ne ?_); (conv => whnf))))))
  have hz : l.map (sl .none) ≠ [] := fun e => h0 (by have := congrArg List.length e; simpa using this)
  refine via (K := ?K) ?f ?k
  case f =>
   intro hK
   repeat' first
     | (refine aloads (l := [i64v fi, i64v sn, lists .none l]) hc1 (by exact Nat.le_refl 3) rfl ?_; ((conv => whnf); (repeat ((first | with_reducible refine abr_true rfl ?_ | with_reducible refine abr_false rfl ?_ | with_reducible refine abr_yes rfl ?_ | refine abr_yes (by decide) ?_ | refine abr_no (by decide) ?_ | with_reducible refine abr_same_ne ?_); (conv => whnf)))))
     | (refine acall (uSize fi sn l 5 _) ?_; rintro _ σ_ ⟨rfl, e_⟩; obtain rfl := e_.symm; ((conv => whnf); (repeat ((first | with_reducible refine abr_true rfl ?_ | with_reducible refine abr_false rfl ?_ | with_reducible refine abr_yes rfl ?_ | refine abr_yes (by decide) ?_ | refine abr_no (by decide) ?_ | with_reducible refine abr_same_ne ?_); (conv => whnf)))))
     | (refine acall (uSize fi sn l 10 _) ?_; rintro _ σ_ ⟨rfl, e_⟩; obtain rfl := e_.symm; ((conv => whnf); (repeat ((first | with_reducible refine abr_true rfl ?_ | with_reducible refine abr_false rfl ?_ | with_reducible refine abr_yes rfl ?_ | refine abr_yes (by decide) ?_ | refine abr_no (by decide) ?_ | with_reducible refine abr_same_ne ?_); (conv => whnf)))))
     | (refine aload (by (repeat (first | with_reducible exact upd_same _ _ _ | assumption | rw [upd_ne _ _ (by first | assumption | (apply Ne.symm; assumption))]))) rfl ?_; ((conv => whnf); (repeat ((first | with_reducible refine abr_true rfl ?_ | with_reducible refine abr_false rfl ?_ | with_reducible refine abr_yes rfl ?_ | refine abr_yes (by decide) ?_ | refine abr_no (by decide) ?_ | with_reducible refine abr_same_ne ?_); (conv => whnf)))))
     | (refine anew rfl fun id2 hid2 => ?_
        have n12 : id ≠ id2 := by
          intro e; subst e
          first
            | (rw [hc1] at hid2; cases hid2)
            | (rw [upd_ne _ _ (by assumption), hc1] at hid2; cases hid2)
        try have n2r : r ≠ id2 := fun e => by subst e; rw [upd_same] at hid2; cases hid2
        ((conv => whnf); (repeat ((first | with_reducible refine abr_true rfl ?_ | with_reducible refine abr_false rfl ?_ | with_reducible refine abr_yes rfl ?_ | refine abr_yes (by decide) ?_ | refine abr_no (by decide) ?_ | with_reducible refine abr_same_ne ?_); (conv => whnf)))))
     | (refine aappnew hz (by rw [List.length_map]; omega) (lists_ok l) fun r hr => ?_
        have nr1 : id ≠ r := by
          intro e; subst e
          first
            | (rw [hc1] at hr; cases hr)
            | (rw [upd_ne _ _ (by assumption), hc1] at hr; cases hr)
        try have n2r : r ≠ id2 := fun e => by subst e; rw [upd_same] at hr; cases hr
        rw [lists_flat, List.length_map]
        ((conv => whnf); (repeat ((first | with_reducible refine abr_true rfl ?_ | with_reducible refine abr_false rfl ?_ | with_reducible refine abr_yes rfl ?_ | refine abr_yes (by decide) ?_ | refine abr_no (by decide) ?_ | with_reducible refine abr_same_ne ?_); (conv => whnf)))))
     | (refine And.intro ?_ ?_ <;> ((conv => whnf); (repeat ((first | with_reducible refine abr_true rfl ?_ | with_reducible refine abr_false rfl ?_ | with_reducible refine abr_yes rfl ?_ | refine abr_yes (by decide) ?_ | refine abr_no (by decide) ?_ | with_reducible refine abr_same_ne ?_); (conv => whnf)))))
   all_goals
     refine astore (xs := [i64v fi, i64v sn, .ms r 1 0 l.length]) (l := [i64v fi, i64v sn, .ms r 1 0 l.length]) (by (repeat (first | with_reducible exact upd_same _ _ _ | assumption | rw [upd_ne _ _ (by first | assumption | (apply Ne.symm; assumption))]))) (Nat.le_of_ble_eq_true rfl) rfl rfl ?_
     generalize hσ1 : upd _ id2 (AObj.cells [i64v fi, i64v sn, .ms r 1 0 l.length]) = σ1
     have k2 : σ1 id2 = some (.cells [i64v fi, i64v sn, .ms r 1 0 l.length]) := by rw [← hσ1]; exact upd_same _ _ _
     have k1 : σ1 id = some (.cells [i64v fi, i64v sn, lists .none l]) := by rw [← hσ1, upd_ne _ _ n12]; first | exact hc1 | (rw [upd_ne _ _ nr1]; first | exact hc1 | (rw [upd_ne _ _ n12]; exact hc1)) | (rw [upd_ne _ _ n12]; rw [upd_ne _ _ nr1]; exact hc1)
     have kr : σ1 r = some (.cells (l.map (sl .none))) := by rw [← hσ1, upd_ne _ _ n2r]; first | exact upd_same _ _ _ | (rw [upd_ne _ _ n2r]; exact upd_same _ _ _)
     have hs1 : Sub σ1 σ := by
       have b1 : σ id2 = none := by first | exact sub_none hs hid2 | exact sub_none ((Sub.upd_fresh _ hr).trans hs) hid2
       have b2 : σ r = none := by first | exact sub_none hs hr | exact sub_none ((Sub.upd_fresh _ hid2).trans hs) hr
       rw [← hσ1]
       refine sub_upd _ ?_ b1
       first | exact sub_upd _ (sub_upd _ hs b2) b1 | exact sub_upd _ (sub_upd _ hs b1) b2
     clear hσ1
     have br : σ r = none := by
       cases hx : σ r with
       | none => rfl
       | some o =>
         first
           | (rw [hs _ _ hx] at hr; cases hr)
           | (rw [upd_ne _ _ n2r, hs _ _ hx] at hr; cases hr)
     clear hid2 hr
     ((conv => whnf); (repeat ((first | with_reducible refine abr_true rfl ?_ | with_reducible refine abr_false rfl ?_ | with_reducible refine abr_yes rfl ?_ | refine abr_yes (by decide) ?_ | refine abr_no (by decide) ?_ | with_reducible refine abr_same_ne ?_); (conv => whnf))))
     revert br
     revert hs1
     revert kr
     revert k1
     revert k2
     revert n2r
     revert nr1
     revert n12
     revert σ1
     revert r
     revert id2
     exact hK ()
  case k =>
    intro id2 r σ1 n12 nr1 n2r k2 k1 kr hs1 br
    refine aload k2 rfl ?_
    ((conv => whnf); (repeat ((first | with_reducible refine abr_true rfl ?_ | with_reducible refine abr_false rfl ?_ | with_reducible refine abr_yes rfl ?_ | refine abr_yes (by decide) ?_ | refine abr_no (by decide) ?_ | with_reducible refine abr_same_ne ?_); (conv => whnf))))
    (repeat ((first | refine aload (by (repeat (first | with_reducible exact upd_same _ _ _ | assumption | rw [upd_ne _ _ (by first | assumption | (apply Ne.symm; assumption))]))) rfl ?_ | refine afit_i64 (by omega) ?_ | refine arem_nonneg (by omega) (by omega) ?_ | refine adiv_i64 (by omega) (by omega) ?_ | refine abr_yes (by omega) ?_ | refine abr_no (by omega) ?_ | refine amin ?_ | refine amax ?_ | refine afit_u64 (by omega) ?_ | refine afit_u8 (by omega) ?_ | rw [List.length_map]); ((conv => whnf); (repeat ((first | with_reducible refine abr_true rfl ?_ | with_reducible refine abr_false rfl ?_ | with_reducible refine abr_yes rfl ?_ | refine abr_yes (by decide) ?_ | refine abr_no (by decide) ?_ | with_reducible refine abr_same_ne ?_); (conv => whnf))))))
    obtain ⟨last, hlast⟩ : ∃ last, last = l[l.length - 1]?.getD [] := ⟨_, rfl⟩
    have hll : last.length ≤ 4200 := by
      rw [hlast, List.getElem?_eq_getElem (by omega)]
      exact hsm2 _ (List.getElem_mem _)
    refine aget (x := sl .none last) (by omega) (by rw [show ((l.length : Int) - 1).toNat = l.length - 1 by omega, List.getElem?_map, hlast, List.getElem?_eq_getElem (by omega)]; rfl) ?_
    ((conv => whnf); (repeat ((first | with_reducible refine abr_true rfl ?_ | with_reducible refine abr_false rfl ?_ | with_reducible refine abr_yes rfl ?_ | refine abr_yes (by decide) ?_ | refine abr_no (by decide) ?_ | with_reducible refine abr_same_ne ?_); (conv => whnf))))
    refine acell rfl ?_
    ((conv => whnf); (repeat ((first | with_reducible refine abr_true rfl ?_ | with_reducible refine abr_false rfl ?_ | with_reducible refine abr_yes rfl ?_ | refine abr_yes (by decide) ?_ | refine abr_no (by decide) ?_ | with_reducible refine abr_same_ne ?_); (conv => whnf))))
    refine aapp_full (by rw [List.length_map]; show (0 + last.length) * 1 ≤ _; omega) fun t ht => ?_
    ((conv => whnf); (repeat ((first | with_reducible refine abr_true rfl ?_ | with_reducible refine abr_false rfl ?_ | with_reducible refine abr_yes rfl ?_ | refine abr_yes (by decide) ?_ | refine abr_no (by decide) ?_ | with_reducible refine abr_same_ne ?_); (conv => whnf))))
    refine aapp_tip (upd_same _ _ _) (by rw [List.nil_append, List.length_map]; show (last.length + 1) * 1 ≤ _; omega) fun t2 ht2 => ?_
    rw [del_upd _ _ _ ht]
    have ht2 : σ1 t2 = none := by
      by_cases e : t2 = t
      · rw [e]; exact ht
      · rw [upd_ne _ _ e] at ht2; exact ht2
    rw [show ([] ++ List.map byteV last) ++ [byteV c] = List.map byteV (last ++ [c]) by simp]
    have m1 : id ≠ t2 := fun e => by subst e; rw [k1] at ht2; cases ht2
    have m2 : id2 ≠ t2 := fun e => by subst e; rw [k2] at ht2; cases ht2
    have mr : r ≠ t2 := fun e => by subst e; rw [kr] at ht2; cases ht2
    ((conv => whnf); (repeat ((first | with_reducible refine abr_true rfl ?_ | with_reducible refine abr_false rfl ?_ | with_reducible refine abr_yes rfl ?_ | refine abr_yes (by decide) ?_ | refine abr_no (by decide) ?_ | with_reducible refine abr_same_ne ?_); (conv => whnf))))
    refine aidx (by omega) (by omega) ?_
    ((conv => whnf); (repeat ((first | with_reducible refine abr_true rfl ?_ | with_reducible refine abr_false rfl ?_ | with_reducible refine abr_yes rfl ?_ | refine abr_yes (by decide) ?_ | refine abr_no (by decide) ?_ | with_reducible refine abr_same_ne ?_); (conv => whnf))))
    refine astore (xs := [sl (.tip t2) (last ++ [c])]) (l := (l.map (sl .none)).set (l.length - 1) (sl (.tip t2) (last ++ [c]))) (by rw [upd_ne _ _ mr]; exact kr) (by rw [List.length_map]; show _ + 1 ≤ _; omega) rfl (by rw [show 0 + ((l.length : Int) - 1).toNat * 1 = l.length - 1 by omega]; exact splice_one _ _ _ (by rw [List.length_map]; omega)) ?_
    have j2 : upd (upd σ1 t2 .tip) r (.cells ((l.map (sl .none)).set (l.length - 1) (sl (.tip t2) (last ++ [c])))) id2 = some (.cells [i64v fi, i64v sn, .ms r 1 0 l.length]) := by rw [upd_ne _ _ (Ne.symm n2r), upd_ne _ _ m2]; exact k2
    have jr : upd (upd σ1 t2 .tip) r (.cells ((l.map (sl .none)).set (l.length - 1) (sl (.tip t2) (last ++ [c])))) r = some (.cells ((l.map (sl .none)).set (l.length - 1) (sl (.tip t2) (last ++ [c])))) := upd_same _ _ _
    have js : Sub (upd (upd σ1 t2 .tip) r (.cells ((l.map (sl .none)).set (l.length - 1) (sl (.tip t2) (last ++ [c]))))) σ := sub_upd _ ((Sub.upd_fresh _ ht2).trans hs1) br
    generalize upd (upd σ1 t2 .tip) r (.cells ((l.map (sl .none)).set (l.length - 1) (sl (.tip t2) (last ++ [c])))) = σ2 at *
    ((conv => whnf); (repeat ((first | with_reducible refine abr_true rfl ?_ | with_reducible refine abr_false rfl ?_ | with_reducible refine abr_yes rfl ?_ | refine abr_yes (by decide) ?_ | refine abr_no (by decide) ?_ | with_reducible refine abr_same_ne ?_); (conv => whnf))))
    refine aloads (l := [i64v fi, i64v sn, .ms r 1 0 l.length]) j2 (by exact Nat.le_refl 3) rfl ?_
    ((conv => whnf); (repeat ((first | with_reducible refine abr_true rfl ?_ | with_reducible refine abr_false rfl ?_ | with_reducible refine abr_yes rfl ?_ | refine abr_yes (by decide) ?_ | refine abr_no (by decide) ?_ | with_reducible refine abr_same_ne ?_); (conv => whnf))))
    obtain ⟨fl1, fl2⟩ := flat_set (.tip t2) (last ++ [c]) l (l.length - 1)
    have hlen : ((l.map (sl .none)).set (l.length - 1) (sl (.tip t2) (last ++ [c]))).length = l.length := by simp
    have hcall : ACalls Try.prog i_umd_Size [.agg [i64v fi, i64v sn, .ms r 1 0 l.length], i64v 10] σ2 fun v σ' => v = i64v (umSize fi sn (longer l c) 10) ∧ σ' = del σ2 r := by
      refine acall_stillA (r := r) (s := 1) (xs := (l.map (sl .none)).set (l.length - 1) (sl (.tip t2) (last ++ [c]))) (args' := [pkV fi sn (longer l c), i64v 10]) (by rw [fl1]; exact jr) fl2 (fun κ vs hv h => ?_) (uSize fi sn (longer l c) 10 _)
      rw [hlen] at hv
      cases h with | cons ha ht =>
      refine .cons ?_ ht
      cases ha with | agg hb =>
      cases hb with | cons h1 hb =>
      cases hb with | cons h2 hb =>
      cases hb with | cons h3 hb =>
      cases hb
      refine .agg (.cons h1 (.cons h2 (.cons ?_ .nil)))
      have hL : longer l c = l.set (l.length - 1) (last ++ [c]) := by unfold longer; rw [← hlast]
      rw [hL]
      exact rep_lists (set_le (.tip t2) (last ++ [c]) l (l.length - 1)) fl1 (hv _ h3)
    refine acall hcall ?_
    rintro _ σ_ ⟨rfl, e_⟩
    subst e_
    ((conv => whnf); (repeat ((first | with_reducible refine abr_true rfl ?_ | with_reducible refine abr_false rfl ?_ | with_reducible refine abr_yes rfl ?_ | refine abr_yes (by decide) ?_ | refine abr_no (by decide) ?_ | with_reducible refine abr_same_ne ?_); (conv => whnf))))
    refine acall (alive09 _) ?_
    rintro _ σ_ ⟨rfl, e_⟩
    obtain rfl := e_.symm
    ((conv => whnf); (repeat ((first | with_reducible refine abr_true rfl ?_ | with_reducible refine abr_false rfl ?_ | with_reducible refine abr_yes rfl ?_ | refine abr_yes (by decide) ?_ | refine abr_no (by decide) ?_ | with_reducible refine abr_same_ne ?_); (conv => whnf))))
    have hsd : Sub (del σ2 r) σ := sub_del js br
    generalize del σ2 r = σ3 at *
    obtain ⟨p1, p2⟩ := umSize_grows fi sn l c
    have hr5 := umSize_range fi sn l 5
    have hr10 := umSize_range fi sn l 10
    have hrk := umSize_range fi sn (longer l c) 10
    generalize umSize fi sn l 5 = n5 at *
    generalize umSize fi sn l 10 = n10 at *
    generalize umSize fi sn (longer l c) 10 = k10 at *
    rcases Classical.em (n5 = 0) with a1 | a1 <;> rcases Classical.em (n5 = 4000) with a2 | a2 <;> rcases Classical.em (n10 = 0) with a3 | a3 <;> rcases Classical.em (k10 = n10 + 1) with a4 | a4 <;> rcases Classical.em (n10 = 4000) with a5 | a5
    all_goals
      first
        | exfalso
          omega
        | (repeat ((first | refine aload (by (repeat (first | with_reducible exact upd_same _ _ _ | assumption | rw [upd_ne _ _ (by first | assumption | (apply Ne.symm; assumption))]))) rfl ?_ | refine afit_i64 (by omega) ?_ | refine arem_nonneg (by omega) (by omega) ?_ | refine adiv_i64 (by omega) (by omega) ?_ | refine abr_yes (by omega) ?_ | refine abr_no (by omega) ?_ | refine amin ?_ | refine amax ?_ | refine afit_u64 (by omega) ?_ | refine afit_u8 (by omega) ?_ | rw [List.length_map]); ((conv => whnf); (repeat ((first | with_reducible refine abr_true rfl ?_ | with_reducible refine abr_false rfl ?_ | with_reducible refine abr_yes rfl ?_ | refine abr_yes (by decide) ?_ | refine abr_no (by decide) ?_ | with_reducible refine abr_same_ne ?_); (conv => whnf))))))
          first
            | exact aret (VLe.refl _) hsd ⟨rfl, rfl⟩
            | exact aret_dec (by omega) hsd
end Go.Proofs.Ythjjkcmiachpcaa
