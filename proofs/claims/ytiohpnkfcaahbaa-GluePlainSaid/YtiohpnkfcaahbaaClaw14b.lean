/-
  Glues: fields that all begin and end a text.
-/
import Derived.Test.YtiohpnkfcaahbaaClaw14a
namespace Go.Proofs.Ytiohpnkfcaahbaa
set_option linter.unusedVariables false
set_option linter.unusedSimpArgs false
open Go Go.Am

def short14 (f : List UInt8) : Bool := decide (f.length ≤ 1000)
def longs (l : List (List UInt8)) : Nat := (l.filter fun f => !short14 f).length
theorem fieldG_plain (g : GS) (b : List UInt8) : fieldG g b true true = if short14 b = true then (some b, (none, g.2 + g.1.isSome.toNat)) else (none, (none, g.2 + g.1.isSome.toNat + 1)) := by
  unfold fieldG holdG cutG short14
  rw [if_pos rfl]
  by_cases h : b.length ≤ 1000
  · rw [decide_eq_true h, if_pos rfl, if_neg (by show ¬ b.length > 1000; omega)]
    rfl
  · rw [decide_eq_false h, if_pos (show ((((some b, g.2 + g.1.isSome.toNat) : GS).1.getD []).length > 1000) from by show b.length > 1000; omega), if_neg (by simp)]
    rfl
theorem putN_plain (l : List (List UInt8)) (g : GS) : ∀ k, k < l.length → putN 0 l g (k + 1) = ((l.take (k + 1)).filter short14, (none, g.2 + g.1.isSome.toNat + longs (l.take (k + 1)))) := by
  have step : ∀ k, (h : k < l.length) → (l.take (k + 1)).filter short14 = (l.take k).filter short14 ++ (if short14 l[k] = true then [l[k]] else []) ∧ longs (l.take (k + 1)) = longs (l.take k) + (if short14 l[k] = true then 0 else 1) := by
    intro k h
    unfold longs
    rw [List.take_add_one, List.getElem?_eq_getElem h, List.filter_append, List.filter_append, List.length_append]
    show _ ++ List.filter _ [l[k]] = _ ∧ _ + (List.filter _ [l[k]]).length = _
    cases e : short14 l[k] <;> simp [e]
  intro k
  induction k with
  | zero =>
    intro h
    obtain ⟨s1, s2⟩ := step 0 h
    rw [s1, s2]
    unfold putN
    rw [List.getElem?_eq_getElem h, Option.getD_some, show beginsG 0 0 = true by decide, show endsG 0 l.length 0 = true by unfold endsG; simp, fieldG_plain]
    unfold putN
    cases short14 l[0] <;> simp [longs]
  | succ k ih =>
    intro h
    obtain ⟨s1, s2⟩ := step (k + 1) h
    rw [s1, s2]
    rw [putN, ih (by omega)]
    rw [List.getElem?_eq_getElem h, Option.getD_some, show beginsG 0 (k + 1) = true by unfold beginsG; simp, show endsG 0 l.length (k + 1) = true by unfold endsG; simp, fieldG_plain]
    cases short14 l[k + 1] <;> simp <;> omega
theorem filter_at (l : List (List UInt8)) (i : Nat) (h : i < l.length) (hs : short14 l[i] = true) : (l.filter short14)[((l.take i).filter short14).length]? = some l[i] := by
  have e : l.filter short14 = (l.take i).filter short14 ++ l[i] :: (l.drop (i + 1)).filter short14 := by
    conv => lhs; rw [← List.take_append_drop i l, List.filter_append, List.drop_eq_getElem_cons h, List.filter_cons, if_pos hs]
  rw [e, List.getElem?_append_right (Nat.le_refl _), Nat.sub_self]
  rfl
theorem first14 (held : List UInt8) (h : held.length ≤ 900) : (if putBad 1 [held] = true then (1 : Int) else 0) = (if held = [] then 1 else 0) ∧ putG 1 [held] false (none, 0) = ([], (if held = [] then none else some held, 0)) := by
  have hb : putBad 1 [held] = decide (held = []) := by unfold putBad hollow; simp
  unfold putG
  rw [hb]
  by_cases h0 : held = []
  · rw [decide_eq_true h0, if_pos h0, if_pos h0]; exact ⟨rfl, rfl⟩
  · rw [decide_eq_false h0, if_neg h0, if_neg h0]
    refine ⟨rfl, ?_⟩
    show putN 1 [held] (none, 0) 1 = _
    unfold putN putN
    have e : fieldG (none, 0) held true false = (none, (some held, 0)) := by
      unfold fieldG holdG cutG
      rw [if_pos rfl, if_neg (by show ¬ held.length > 1000; omega)]
      rfl
    show (([] : List (List UInt8)) ++ (fieldG (none, 0) held true false).1.toList, (fieldG (none, 0) held true false).2) = _
    rw [e]; rfl

set_option maxRecDepth 20000 in
set_option maxHeartbeats 2000000 in
theorem GluePlain (held : List UInt8) (fields : List (List UInt8)) (σ : AHeap) (hf : fields.length ≤ 140737488351232) (hd : ∀ f ∈ fields, f.length ≤ 140737488351232) : ACalls Try.prog i_bowlinelaw14_GluePlain [sl .none held, lists .none fields] σ fun v σ' => v = boolv true ∧ σ' = σ := by
  refine k_bowlinelaw14_GluePlain rfl ?_
  ((conv => whnf); (repeat ((first | with_reducible refine abr_true rfl ?_ | with_reducible refine abr_false rfl ?_ | with_reducible refine abr_yes rfl ?_ | refine abr_yes (by decide) ?_ | refine abr_no (by decide) ?_ | with_reducible refine abr_same_ne ?_); (conv => whnf))))
  refine acall (gNew _) ?_
  rintro v σ1 ⟨id, rfl, w1⟩
  refine ⟨?_, w1.ext⟩
  ((conv => whnf); (repeat ((first | with_reducible refine abr_true rfl ?_ | with_reducible refine abr_false rfl ?_ | with_reducible refine abr_yes rfl ?_ | refine abr_yes (by decide) ?_ | refine abr_no (by decide) ?_ | with_reducible refine abr_same_ne ?_); (conv => whnf))))
  rw [List.length_map]
  by_cases h1 : held.length > 900
  · (repeat ((first | refine aload (by (repeat (first | with_reducible exact upd_same _ _ _ | assumption | rw [upd_ne _ _ (by first | assumption | (apply Ne.symm; assumption))]))) rfl ?_ | refine afit_i64 (by omega) ?_ | refine arem_nonneg (by omega) (by omega) ?_ | refine adiv_i64 (by omega) (by omega) ?_ | refine abr_yes (by omega) ?_ | refine abr_no (by omega) ?_ | refine amin ?_ | refine amax ?_ | refine afit_u64 (by omega) ?_ | refine afit_u8 (by omega) ?_ | rw [List.length_map]); ((conv => whnf); (repeat ((first | with_reducible refine abr_true rfl ?_ | with_reducible refine abr_false rfl ?_ | with_reducible refine abr_yes rfl ?_ | refine abr_yes (by decide) ?_ | refine abr_no (by decide) ?_ | with_reducible refine abr_same_ne ?_); (conv => whnf))))))
    refine acall (alive14 _) ?_
    rintro _ σ_ ⟨rfl, e_⟩
    obtain rfl := e_.symm
    refine ⟨?_, Ext.refl _⟩
    ((conv => whnf); (repeat ((first | with_reducible refine abr_true rfl ?_ | with_reducible refine abr_false rfl ?_ | with_reducible refine abr_yes rfl ?_ | refine abr_yes (by decide) ?_ | refine abr_no (by decide) ?_ | with_reducible refine abr_same_ne ?_); (conv => whnf))))
    exact aret (VLe.refl _) w1.sub ⟨rfl, rfl⟩
  by_cases h2 : fields.length > 40
  · (repeat ((first | refine aload (by (repeat (first | with_reducible exact upd_same _ _ _ | assumption | rw [upd_ne _ _ (by first | assumption | (apply Ne.symm; assumption))]))) rfl ?_ | refine afit_i64 (by omega) ?_ | refine arem_nonneg (by omega) (by omega) ?_ | refine adiv_i64 (by omega) (by omega) ?_ | refine abr_yes (by omega) ?_ | refine abr_no (by omega) ?_ | refine amin ?_ | refine amax ?_ | refine afit_u64 (by omega) ?_ | refine afit_u8 (by omega) ?_ | rw [List.length_map]); ((conv => whnf); (repeat ((first | with_reducible refine abr_true rfl ?_ | with_reducible refine abr_false rfl ?_ | with_reducible refine abr_yes rfl ?_ | refine abr_yes (by decide) ?_ | refine abr_no (by decide) ?_ | with_reducible refine abr_same_ne ?_); (conv => whnf))))))
    refine acall (alive14 _) ?_
    rintro _ σ_ ⟨rfl, e_⟩
    obtain rfl := e_.symm
    refine ⟨?_, Ext.refl _⟩
    ((conv => whnf); (repeat ((first | with_reducible refine abr_true rfl ?_ | with_reducible refine abr_false rfl ?_ | with_reducible refine abr_yes rfl ?_ | refine abr_yes (by decide) ?_ | refine abr_no (by decide) ?_ | with_reducible refine abr_same_ne ?_); (conv => whnf))))
    exact aret (VLe.refl _) w1.sub ⟨rfl, rfl⟩
  (repeat ((first | refine aload (by (repeat (first | with_reducible exact upd_same _ _ _ | assumption | rw [upd_ne _ _ (by first | assumption | (apply Ne.symm; assumption))]))) rfl ?_ | refine afit_i64 (by omega) ?_ | refine arem_nonneg (by omega) (by omega) ?_ | refine adiv_i64 (by omega) (by omega) ?_ | refine abr_yes (by omega) ?_ | refine abr_no (by omega) ?_ | refine amin ?_ | refine amax ?_ | refine afit_u64 (by omega) ?_ | refine afit_u8 (by omega) ?_ | rw [List.length_map]); ((conv => whnf); (repeat ((first | with_reducible refine abr_true rfl ?_ | with_reducible refine abr_false rfl ?_ | with_reducible refine abr_yes rfl ?_ | refine abr_yes (by decide) ?_ | refine abr_no (by decide) ?_ | with_reducible refine abr_same_ne ?_); (conv => whnf))))))
  obtain ⟨f1, f2⟩ := first14 held (by omega)
  refine acall (gPut id 1 [held] .full false _ _ _ w1 (by decide) (by decide) (by simp) (by intro f hf; simp at hf; subst hf; omega)) ?_
  rintro _ σ2 ⟨rfl, w2⟩
  rw [f1, f2]
  rw [f2] at w2
  dsimp only at w2
  ((conv => whnf); (repeat ((first | with_reducible refine abr_true rfl ?_ | with_reducible refine abr_false rfl ?_ | with_reducible refine abr_yes rfl ?_ | refine abr_yes (by decide) ?_ | refine abr_no (by decide) ?_ | with_reducible refine abr_same_ne ?_); (conv => whnf))))
  obtain ⟨g1, hg1⟩ : ∃ g1 : GS, g1 = (if held = [] then none else some held, 0) := ⟨_, rfl⟩
  rw [← hg1] at w2
  have hh : g1.1.getD [] = held := by rw [hg1]; by_cases h0 : held = [] <;> simp [h0]
  have hl0 : g1.2 = 0 := by rw [hg1]
  have hn : (g1.1.isSome.toNat : Int) = if held = [] then 0 else 1 := by rw [hg1]; by_cases h0 : held = [] <;> simp [h0]
  have hlen2 := putN_plain fields g1
  have main : ∀ n : Nat, n = g1.1.isSome.toNat → (n : Int) * held.length = (held.length : Int) := by
    intro n hn2; rw [hn2, hn]; by_cases h0 : held = [] <;> simp [h0]
  have hbadT : putBad 0 fields = true → putG 0 fields false g1 = ([], g1) := fun hb => if_pos hb
  have hbadF : putBad 0 fields = false → putG 0 fields false g1 = (fields.filter short14, (none, g1.1.isSome.toNat + longs fields)) := by
    intro hb
    unfold putG
    rw [if_neg (by rw [hb]; simp)]
    have h0 : fields.length ≠ 0 := fun e => by unfold putBad at hb; rw [decide_eq_true e] at hb; simp at hb
    have := hlen2 (fields.length - 1) (by omega)
    rw [show fields.length - 1 + 1 = fields.length by omega, List.take_length, hl0, Nat.zero_add] at this
    exact this
  by_cases h0 : held = []
  all_goals
    first
      | rw [if_pos h0]
        have e0 : held.length = 0 := by rw [h0]; rfl
        rw [if_pos h0] at hn
      | rw [if_neg h0]
        rw [if_neg h0] at hn
    ((conv => whnf); (repeat ((first | with_reducible refine abr_true rfl ?_ | with_reducible refine abr_false rfl ?_ | with_reducible refine abr_yes rfl ?_ | refine abr_yes (by decide) ?_ | refine abr_no (by decide) ?_ | with_reducible refine abr_same_ne ?_); (conv => whnf))))
    refine acall (gPut id 0 fields .none false g1 _ _ w2 (by omega) (by rw [hh]; omega) (by omega) hd) ?_
    rintro _ σ3 ⟨rfl, w3⟩
    cases hb : putBad 0 fields with
    | true =>
      rw [hbadT hb] at w3 ⊢
      ((conv => whnf); (repeat ((first | with_reducible refine abr_true rfl ?_ | with_reducible refine abr_false rfl ?_ | with_reducible refine abr_yes rfl ?_ | refine abr_yes (by decide) ?_ | refine abr_no (by decide) ?_ | with_reducible refine abr_same_ne ?_); (conv => whnf))))
      refine acall (alive14 _) ?_
      rintro _ σ_ ⟨rfl, e_⟩
      obtain rfl := e_.symm
      refine ⟨?_, Ext.refl _⟩
      ((conv => whnf); (repeat ((first | with_reducible refine abr_true rfl ?_ | with_reducible refine abr_false rfl ?_ | with_reducible refine abr_yes rfl ?_ | refine abr_yes (by decide) ?_ | refine abr_no (by decide) ?_ | with_reducible refine abr_same_ne ?_); (conv => whnf))))
      refine acall (gHeld id _ _ _ w3) ?_
      rintro _ σ_ ⟨rfl, e_⟩
      obtain rfl := e_.symm
      refine ⟨?_, Ext.refl _⟩
      ((conv => whnf); (repeat ((first | with_reducible refine abr_true rfl ?_ | with_reducible refine abr_false rfl ?_ | with_reducible refine abr_yes rfl ?_ | refine abr_yes (by decide) ?_ | refine abr_no (by decide) ?_ | with_reducible refine abr_same_ne ?_); (conv => whnf))))
      rw [hh, List.length_map]
      refine afit_i64 (by omega) ?_
      ((conv => whnf); (repeat ((first | with_reducible refine abr_true rfl ?_ | with_reducible refine abr_false rfl ?_ | with_reducible refine abr_yes rfl ?_ | refine abr_yes (by decide) ?_ | refine abr_no (by decide) ?_ | with_reducible refine abr_same_ne ?_); (conv => whnf))))
      refine abr_yes (by omega) ?_
      ((conv => whnf); (repeat ((first | with_reducible refine abr_true rfl ?_ | with_reducible refine abr_false rfl ?_ | with_reducible refine abr_yes rfl ?_ | refine abr_yes (by decide) ?_ | refine abr_no (by decide) ?_ | with_reducible refine abr_same_ne ?_); (conv => whnf))))
      refine acall (gLost id _ _ _ w3) ?_
      rintro _ σ_ ⟨rfl, e_⟩
      obtain rfl := e_.symm
      refine ⟨?_, Ext.refl _⟩
      ((conv => whnf); (repeat ((first | with_reducible refine abr_true rfl ?_ | with_reducible refine abr_false rfl ?_ | with_reducible refine abr_yes rfl ?_ | refine abr_yes (by decide) ?_ | refine abr_no (by decide) ?_ | with_reducible refine abr_same_ne ?_); (conv => whnf))))
      exact aret_dec (by dsimp only; omega) (w3.sub)
    | false =>
      rw [hbadF hb] at w3 ⊢
      have step : ∀ k, (h : k < fields.length) → (fields.take (k + 1)).filter short14 = (fields.take k).filter short14 ++ (if short14 fields[k] = true then [fields[k]] else []) ∧ longs (fields.take (k + 1)) = longs (fields.take k) + (if short14 fields[k] = true then 0 else 1) := by
        intro k h
        unfold longs
        rw [List.take_add_one, List.getElem?_eq_getElem h, List.filter_append, List.filter_append, List.length_append]
        show _ ++ List.filter _ [fields[k]] = _ ∧ _ + (List.filter _ [fields[k]]).length = _
        cases e : short14 fields[k] <;> simp [e]
      ((conv => whnf); (repeat ((first | with_reducible refine abr_true rfl ?_ | with_reducible refine abr_false rfl ?_ | with_reducible refine abr_yes rfl ?_ | refine abr_yes (by decide) ?_ | refine abr_no (by decide) ?_ | with_reducible refine abr_same_ne ?_); (conv => whnf))))
      first
        | refine aloop (α := Nat × Nat × Nat) (fun x => [(s11, i64v x.2.1), (s12, i64v x.2.2), (s13, i64v x.1)]) (fun _ => σ3) (fun x => x.1 ≤ fields.length ∧ x.2.1 = ((fields.take x.1).filter short14).length ∧ x.2.2 = g1.1.isSome.toNat + longs (fields.take x.1)) (fun x => fields.length - x.1) (0, 0, 0) ⟨Nat.zero_le _, rfl, by dsimp only [longs, List.take_zero, List.filter_nil, List.length_nil]; omega⟩ (Sub.refl _) ?_ ?_
        | refine aloop (α := Nat × Nat × Nat) (fun x => [(s11, i64v x.2.1), (s12, i64v x.2.2), (s13, i64v x.1)]) (fun _ => σ3) (fun x => x.1 ≤ fields.length ∧ x.2.1 = ((fields.take x.1).filter short14).length ∧ x.2.2 = g1.1.isSome.toNat + longs (fields.take x.1)) (fun x => fields.length - x.1) (0, 0, 1) ⟨Nat.zero_le _, rfl, by dsimp only [longs, List.take_zero, List.filter_nil, List.length_nil]; omega⟩ (Sub.refl _) ?_ ?_
      · ((conv => whnf); (repeat ((first | with_reducible refine abr_true rfl ?_ | with_reducible refine abr_false rfl ?_ | with_reducible refine abr_yes rfl ?_ | refine abr_yes (by decide) ?_ | refine abr_no (by decide) ?_ | with_reducible refine abr_same_ne ?_); (conv => whnf))))
        (repeat' first | with_reducible exact EnvLe.refl _ | (refine EnvLe.node ?_ (by first | exact Or.inl rfl | exact Or.inr (Or.inl rfl) | exact Or.inr (Or.inr ⟨nofun, VLe.slice _ _ _⟩)) ?_))
      rintro ⟨i, at_, lost⟩ ⟨hi, hat, hlost⟩
      dsimp only at hi hat hlost ⊢
      have hatle : ((fields.take i).filter short14).length ≤ (fields.take i).length := List.length_filter_le _ _
      have hlle : longs (fields.take i) ≤ (fields.take i).length := List.length_filter_le _ _
      have htl : (fields.take i).length ≤ i := by rw [List.length_take]; omega
      have hsome : g1.1.isSome.toNat ≤ 1 := by cases g1.1.isSome <;> simp
      by_cases hi2 : i < fields.length
      · obtain ⟨st1, st2⟩ := step i hi2
        ((conv => whnf); (repeat ((first | with_reducible refine abr_true rfl ?_ | with_reducible refine abr_false rfl ?_ | with_reducible refine abr_yes rfl ?_ | refine abr_yes (by decide) ?_ | refine abr_no (by decide) ?_ | with_reducible refine abr_same_ne ?_); (conv => whnf))))
        (repeat ((first | refine aload (by (repeat (first | with_reducible exact upd_same _ _ _ | assumption | rw [upd_ne _ _ (by first | assumption | (apply Ne.symm; assumption))]))) rfl ?_ | refine afit_i64 (by omega) ?_ | refine arem_nonneg (by omega) (by omega) ?_ | refine adiv_i64 (by omega) (by omega) ?_ | refine abr_yes (by omega) ?_ | refine abr_no (by omega) ?_ | refine amin ?_ | refine amax ?_ | refine afit_u64 (by omega) ?_ | refine afit_u8 (by omega) ?_ | rw [List.length_map]); ((conv => whnf); (repeat ((first | with_reducible refine abr_true rfl ?_ | with_reducible refine abr_false rfl ?_ | with_reducible refine abr_yes rfl ?_ | refine abr_yes (by decide) ?_ | refine abr_no (by decide) ?_ | with_reducible refine abr_same_ne ?_); (conv => whnf))))))
        refine aget (by omega) (get_lists hi2) ?_
        ((conv => whnf); (repeat ((first | with_reducible refine abr_true rfl ?_ | with_reducible refine abr_false rfl ?_ | with_reducible refine abr_yes rfl ?_ | refine abr_yes (by decide) ?_ | refine abr_no (by decide) ?_ | with_reducible refine abr_same_ne ?_); (conv => whnf))))
        refine acell rfl ?_
        ((conv => whnf); (repeat ((first | with_reducible refine abr_true rfl ?_ | with_reducible refine abr_false rfl ?_ | with_reducible refine abr_yes rfl ?_ | refine abr_yes (by decide) ?_ | refine abr_no (by decide) ?_ | with_reducible refine abr_same_ne ?_); (conv => whnf))))
        rw [List.length_map]
        by_cases hlong : fields[i].length > 1000
        · have hs : short14 fields[i] = false := decide_eq_false (by omega)
          rw [hs, if_neg (by simp), List.append_nil] at st1
          rw [hs, if_neg (by simp)] at st2
          refine abr_yes (by omega) ?_
          ((conv => whnf); (repeat ((first | with_reducible refine abr_true rfl ?_ | with_reducible refine abr_false rfl ?_ | with_reducible refine abr_yes rfl ?_ | refine abr_yes (by decide) ?_ | refine abr_no (by decide) ?_ | with_reducible refine abr_same_ne ?_); (conv => whnf))))
          (repeat ((first | refine aload (by (repeat (first | with_reducible exact upd_same _ _ _ | assumption | rw [upd_ne _ _ (by first | assumption | (apply Ne.symm; assumption))]))) rfl ?_ | refine afit_i64 (by omega) ?_ | refine arem_nonneg (by omega) (by omega) ?_ | refine adiv_i64 (by omega) (by omega) ?_ | refine abr_yes (by omega) ?_ | refine abr_no (by omega) ?_ | refine amin ?_ | refine amax ?_ | refine afit_u64 (by omega) ?_ | refine afit_u8 (by omega) ?_ | rw [List.length_map]); ((conv => whnf); (repeat ((first | with_reducible refine abr_true rfl ?_ | with_reducible refine abr_false rfl ?_ | with_reducible refine abr_yes rfl ?_ | refine abr_yes (by decide) ?_ | refine abr_no (by decide) ?_ | with_reducible refine abr_same_ne ?_); (conv => whnf))))))
          refine ⟨(i + 1, at_, lost + 1), ⟨hi2, by dsimp only; rw [st1]; exact hat, by dsimp only; rw [st2]; omega⟩, by dsimp only; omega, Sub.refl _, ?_⟩
          ((conv => whnf); (repeat ((first | with_reducible refine abr_true rfl ?_ | with_reducible refine abr_false rfl ?_ | with_reducible refine abr_yes rfl ?_ | refine abr_yes (by decide) ?_ | refine abr_no (by decide) ?_ | with_reducible refine abr_same_ne ?_); (conv => whnf))))
          (repeat' first | with_reducible exact EnvLe.refl _ | (refine EnvLe.node ?_ (by first | exact Or.inl rfl | exact Or.inr (Or.inl rfl) | exact Or.inr (Or.inr ⟨nofun, VLe.slice _ _ _⟩)) ?_))
        · have hs : short14 fields[i] = true := decide_eq_true (by omega)
          rw [hs, if_pos rfl] at st1 st2
          have hget := filter_at fields i hi2 hs
          rw [← hat] at hget
          have hlt := (List.getElem?_eq_some_iff.1 hget).1
          refine abr_no (by omega) ?_
          ((conv => whnf); (repeat ((first | with_reducible refine abr_true rfl ?_ | with_reducible refine abr_false rfl ?_ | with_reducible refine abr_yes rfl ?_ | refine abr_yes (by decide) ?_ | refine abr_no (by decide) ?_ | with_reducible refine abr_same_ne ?_); (conv => whnf))))
          rw [List.length_map]
          refine abr_no (by omega) ?_
          ((conv => whnf); (repeat ((first | with_reducible refine abr_true rfl ?_ | with_reducible refine abr_false rfl ?_ | with_reducible refine abr_yes rfl ?_ | refine abr_yes (by decide) ?_ | refine abr_no (by decide) ?_ | with_reducible refine abr_same_ne ?_); (conv => whnf))))
          refine aget (x := sl .none fields[i]) (by omega) (by rw [Int.toNat_natCast, List.getElem?_map, hget]; rfl) ?_
          ((conv => whnf); (repeat ((first | with_reducible refine abr_true rfl ?_ | with_reducible refine abr_false rfl ?_ | with_reducible refine abr_yes rfl ?_ | refine abr_yes (by decide) ?_ | refine abr_no (by decide) ?_ | with_reducible refine abr_same_ne ?_); (conv => whnf))))
          refine acell rfl ?_
          ((conv => whnf); (repeat ((first | with_reducible refine abr_true rfl ?_ | with_reducible refine abr_false rfl ?_ | with_reducible refine abr_yes rfl ?_ | refine abr_yes (by decide) ?_ | refine abr_no (by decide) ?_ | with_reducible refine abr_same_ne ?_); (conv => whnf))))
          refine astr rfl ?_
          ((conv => whnf); (repeat ((first | with_reducible refine abr_true rfl ?_ | with_reducible refine abr_false rfl ?_ | with_reducible refine abr_yes rfl ?_ | refine abr_yes (by decide) ?_ | refine abr_no (by decide) ?_ | with_reducible refine abr_same_ne ?_); (conv => whnf))))
          refine aget (by omega) (get_lists hi2) ?_
          ((conv => whnf); (repeat ((first | with_reducible refine abr_true rfl ?_ | with_reducible refine abr_false rfl ?_ | with_reducible refine abr_yes rfl ?_ | refine abr_yes (by decide) ?_ | refine abr_no (by decide) ?_ | with_reducible refine abr_same_ne ?_); (conv => whnf))))
          refine acell rfl ?_
          ((conv => whnf); (repeat ((first | with_reducible refine abr_true rfl ?_ | with_reducible refine abr_false rfl ?_ | with_reducible refine abr_yes rfl ?_ | refine abr_yes (by decide) ?_ | refine abr_no (by decide) ?_ | with_reducible refine abr_same_ne ?_); (conv => whnf))))
          refine astr rfl ?_
          ((conv => whnf); (repeat ((first | with_reducible refine abr_true rfl ?_ | with_reducible refine abr_false rfl ?_ | with_reducible refine abr_yes rfl ?_ | refine abr_yes (by decide) ?_ | refine abr_no (by decide) ?_ | with_reducible refine abr_same_ne ?_); (conv => whnf))))
          (repeat ((first | refine aload (by (repeat (first | with_reducible exact upd_same _ _ _ | assumption | rw [upd_ne _ _ (by first | assumption | (apply Ne.symm; assumption))]))) rfl ?_ | refine afit_i64 (by omega) ?_ | refine arem_nonneg (by omega) (by omega) ?_ | refine adiv_i64 (by omega) (by omega) ?_ | refine abr_yes (by omega) ?_ | refine abr_no (by omega) ?_ | refine amin ?_ | refine amax ?_ | refine afit_u64 (by omega) ?_ | refine afit_u8 (by omega) ?_ | rw [List.length_map]); ((conv => whnf); (repeat ((first | with_reducible refine abr_true rfl ?_ | with_reducible refine abr_false rfl ?_ | with_reducible refine abr_yes rfl ?_ | refine abr_yes (by decide) ?_ | refine abr_no (by decide) ?_ | with_reducible refine abr_same_ne ?_); (conv => whnf))))))
          refine ⟨(i + 1, at_ + 1, lost), ⟨hi2, by dsimp only; rw [st1, List.length_append]; show _ = _ + 1; omega, by dsimp only; rw [st2]; omega⟩, by dsimp only; omega, Sub.refl _, ?_⟩
          ((conv => whnf); (repeat ((first | with_reducible refine abr_true rfl ?_ | with_reducible refine abr_false rfl ?_ | with_reducible refine abr_yes rfl ?_ | refine abr_yes (by decide) ?_ | refine abr_no (by decide) ?_ | with_reducible refine abr_same_ne ?_); (conv => whnf))))
          (repeat' first | with_reducible exact EnvLe.refl _ | (refine EnvLe.node ?_ (by first | exact Or.inl rfl | exact Or.inr (Or.inl rfl) | exact Or.inr (Or.inr ⟨nofun, VLe.slice _ _ _⟩)) ?_))
      · rw [List.take_of_length_le (by omega)] at hat hlost
        ((conv => whnf); (repeat ((first | with_reducible refine abr_true rfl ?_ | with_reducible refine abr_false rfl ?_ | with_reducible refine abr_yes rfl ?_ | refine abr_yes (by decide) ?_ | refine abr_no (by decide) ?_ | with_reducible refine abr_same_ne ?_); (conv => whnf))))
        (repeat ((first | refine aload (by (repeat (first | with_reducible exact upd_same _ _ _ | assumption | rw [upd_ne _ _ (by first | assumption | (apply Ne.symm; assumption))]))) rfl ?_ | refine afit_i64 (by omega) ?_ | refine arem_nonneg (by omega) (by omega) ?_ | refine adiv_i64 (by omega) (by omega) ?_ | refine abr_yes (by omega) ?_ | refine abr_no (by omega) ?_ | refine amin ?_ | refine amax ?_ | refine afit_u64 (by omega) ?_ | refine afit_u8 (by omega) ?_ | rw [List.length_map]); ((conv => whnf); (repeat ((first | with_reducible refine abr_true rfl ?_ | with_reducible refine abr_false rfl ?_ | with_reducible refine abr_yes rfl ?_ | refine abr_yes (by decide) ?_ | refine abr_no (by decide) ?_ | with_reducible refine abr_same_ne ?_); (conv => whnf))))))
        refine acall (alive14 _) ?_
        rintro _ σ_ ⟨rfl, e_⟩
        obtain rfl := e_.symm
        refine ⟨?_, Ext.refl _⟩
        ((conv => whnf); (repeat ((first | with_reducible refine abr_true rfl ?_ | with_reducible refine abr_false rfl ?_ | with_reducible refine abr_yes rfl ?_ | refine abr_yes (by decide) ?_ | refine abr_no (by decide) ?_ | with_reducible refine abr_same_ne ?_); (conv => whnf))))
        rw [List.length_map]
        refine abr_yes (by omega) ?_
        ((conv => whnf); (repeat ((first | with_reducible refine abr_true rfl ?_ | with_reducible refine abr_false rfl ?_ | with_reducible refine abr_yes rfl ?_ | refine abr_yes (by decide) ?_ | refine abr_no (by decide) ?_ | with_reducible refine abr_same_ne ?_); (conv => whnf))))
        refine acall (gHeld id _ _ _ w3) ?_
        rintro _ σ_ ⟨rfl, e_⟩
        obtain rfl := e_.symm
        refine ⟨?_, Ext.refl _⟩
        ((conv => whnf); (repeat ((first | with_reducible refine abr_true rfl ?_ | with_reducible refine abr_false rfl ?_ | with_reducible refine abr_yes rfl ?_ | refine abr_yes (by decide) ?_ | refine abr_no (by decide) ?_ | with_reducible refine abr_same_ne ?_); (conv => whnf))))
        refine acall (gLost id _ _ _ w3) ?_
        rintro _ σ_ ⟨rfl, e_⟩
        obtain rfl := e_.symm
        refine ⟨?_, Ext.refl _⟩
        ((conv => whnf); (repeat ((first | with_reducible refine abr_true rfl ?_ | with_reducible refine abr_false rfl ?_ | with_reducible refine abr_yes rfl ?_ | refine abr_yes (by decide) ?_ | refine abr_no (by decide) ?_ | with_reducible refine abr_same_ne ?_); (conv => whnf))))
        exact aret_dec (by dsimp only; omega) w3.sub
end Go.Proofs.Ytiohpnkfcaahbaa

