/-
  Texts of this claim, pack 5: Cumd, Cjoin, Cgrow, Cumdb, Clensp, Clensr, Cumdc, Clensq, Cumdd, Cmsv.
-/
import Derived.Test.YtgipkpghabelkaaK2
import Derived.Test.YtgipkpghabelkaaK3
import Derived.Test.YtgipkpghabelkaaK4
import Derived.Shelf.Lay
import Derived.Ground.SlbNamesProg
import Derived.Shelf.Bytes.SlJoin
/-
  Packets that are not acknowledged: how many bytes they have.
-/
namespace Go.Proofs.Ytgipkpghabelkaa
set_option linter.unusedVariables false
set_option linter.unusedSimpArgs false
open Go Go.Am

abbrev pkV (fi sn : Int) (l : List (List UInt8)) : AVal := .agg [i64v fi, i64v sn, lists .none l]
def umWidth (w : Int) : Bool := decide (w = 5) || decide (w = 10)
theorem umWidth_iff {w : Int} : umWidth w = true ↔ w = 5 ∨ w = 10 := by simp [umWidth]
theorem umWidth_no {w : Int} (h : ¬ (w = 5 ∨ w = 10)) : umWidth w = false := by simp only [← umWidth_iff] at h; simpa using h

/-- May a field be so long? -/
def fieldBad (l : List (List UInt8)) (i : Nat) : Bool := decide ((l[i]?.getD []).length = 0 ∨ ((l[i]?.getD []).length > 2047 ∧ i + 1 < l.length))
def fieldsBad (l : List (List UInt8)) (i : Nat) : Bool := (List.range i).any (fieldBad l)
theorem fieldsBad_succ (l : List (List UInt8)) (i : Nat) : fieldsBad l (i + 1) = (fieldsBad l i || fieldBad l i) := by unfold fieldsBad; rw [List.range_succ, List.any_append]; simp
theorem fieldsBad_of {l : List (List UInt8)} {i n : Nat} (h : i < n) (hb : fieldBad l i = true) : fieldsBad l n = true := List.any_eq_true.2 ⟨i, List.mem_range.2 h, hb⟩
theorem fieldBad_get {l : List (List UInt8)} {i : Nat} (h : i < l.length) : fieldBad l i = decide (l[i].length = 0 ∨ (l[i].length > 2047 ∧ i + 1 < l.length)) := by
  unfold fieldBad; rw [List.getElem?_eq_getElem h]; rfl
/-- How many bytes fields have, behind a head, with lengths of a width. -/
def fieldsV (l : List (List UInt8)) (h w : Int) : Int :=
  if l.length < 1 ∨ l.length > 24 then 0 else if fieldsBad l l.length = true then 0
  else if h + sizeV ((l.length : Int) - 1) w + (total l : Int) > 4000 then 0 else h + sizeV ((l.length : Int) - 1) w + (total l : Int)
def umSize (fi sn : Int) (l : List (List UInt8)) (w : Int) : Int := if umWidth w = false ∨ fi < 0 ∨ fi > 3 ∨ isNum w sn = false then 0 else fieldsV l (w / 5) 11

theorem uIsWidth (w : Int) (σ : AHeap) : ACalls Try.prog i_umd_isWidth [i64v w] σ fun v σ' => v = boolv (umWidth w) ∧ σ' = σ := by
  refine k_umd_isWidth rfl ?_
  ((conv => whnf); (repeat ((first | with_reducible (first | refine zT rfl ?_ | refine zF rfl ?_ | refine zY rfl ?_) | refine zY (by decide) ?_ | refine zN (by decide) ?_ | with_reducible refine zQ ?_); (conv => whnf))))
  by_cases h : w = 5
  · subst h
    ((conv => whnf); (repeat ((first | with_reducible (first | refine zT rfl ?_ | refine zF rfl ?_ | refine zY rfl ?_) | refine zY (by decide) ?_ | refine zN (by decide) ?_ | with_reducible refine zQ ?_); (conv => whnf))))
    exact aret_same ⟨rfl, rfl⟩
  · refine abr_no h ?_
    ((conv => whnf); (repeat ((first | with_reducible (first | refine zT rfl ?_ | refine zF rfl ?_ | refine zY rfl ?_) | refine zY (by decide) ?_ | refine zN (by decide) ?_ | with_reducible refine zQ ?_); (conv => whnf))))
    refine aret_same ⟨?_, rfl⟩
    unfold umWidth
    rw [decide_eq_false h, Bool.false_or]

theorem uHead (w : Int) (σ : AHeap) (h : 0 ≤ w ∧ w ≤ 9223372036854775807) : ACalls Try.prog i_umd_head [i64v w] σ fun v σ' => v = i64v (w / 5) ∧ σ' = σ := by
  refine k_umd_head rfl ?_
  ((conv => whnf); (repeat ((first | with_reducible (first | refine zT rfl ?_ | refine zF rfl ?_ | refine zY rfl ?_) | refine zY (by decide) ?_ | refine zN (by decide) ?_ | with_reducible refine zQ ?_); (conv => whnf))))
  (repeat ((first | refine aload (by (repeat (first | with_reducible exact upd_same _ _ _ | assumption | rw [upd_ne _ _ (by first | assumption | (apply Ne.symm; assumption))]))) rfl ?_ | refine afit_i64 (by omega) ?_ | refine arem_nonneg (by omega) (by omega) ?_ | refine adiv_i64 (by omega) (by omega) ?_ | refine abr_yes (by omega) ?_ | refine abr_no (by omega) ?_ | refine amin ?_ | refine amax ?_ | refine afit_u64 (by omega) ?_ | refine afit_u8 (by omega) ?_ | rw [List.length_map]); ((conv => whnf); (repeat ((first | with_reducible (first | refine zT rfl ?_ | refine zF rfl ?_ | refine zY rfl ?_) | refine zY (by decide) ?_ | refine zN (by decide) ?_ | with_reducible refine zQ ?_); (conv => whnf))))))
  exact aret_same ⟨rfl, rfl⟩

set_option maxRecDepth 20000 in
theorem usize (fi sn : Int) (l : List (List UInt8)) (w : Int) (σ : AHeap) (hw : umWidth w = true) : ACalls Try.prog i_umd_size [pkV fi sn l, i64v w] σ fun v σ' => v = i64v (fieldsV l (w / 5) 11) ∧ σ' = σ := by
  have hw2 := umWidth_iff.1 hw
  refine k_umd_size rfl ?_
  ((conv => whnf); (repeat ((first | with_reducible (first | refine zT rfl ?_ | refine zF rfl ?_ | refine zY rfl ?_) | refine zY (by decide) ?_ | refine zN (by decide) ?_ | with_reducible refine zQ ?_); (conv => whnf))))
  refine anew rfl fun id hid => ?_
  have hs : Sub (upd σ id (.cells (pkV fi sn l).cells)) σ := Sub.upd_fresh _ hid
  ((conv => whnf); (repeat ((first | with_reducible (first | refine zT rfl ?_ | refine zF rfl ?_ | refine zY rfl ?_) | refine zY (by decide) ?_ | refine zN (by decide) ?_ | with_reducible refine zQ ?_); (conv => whnf))))
  by_cases h1 : l.length < 1
  · (repeat ((first | refine aload (by (repeat (first | with_reducible exact upd_same _ _ _ | assumption | rw [upd_ne _ _ (by first | assumption | (apply Ne.symm; assumption))]))) rfl ?_ | refine afit_i64 (by omega) ?_ | refine arem_nonneg (by omega) (by omega) ?_ | refine adiv_i64 (by omega) (by omega) ?_ | refine abr_yes (by omega) ?_ | refine abr_no (by omega) ?_ | refine amin ?_ | refine amax ?_ | refine afit_u64 (by omega) ?_ | refine afit_u8 (by omega) ?_ | rw [List.length_map]); ((conv => whnf); (repeat ((first | with_reducible (first | refine zT rfl ?_ | refine zF rfl ?_ | refine zY rfl ?_) | refine zY (by decide) ?_ | refine zN (by decide) ?_ | with_reducible refine zQ ?_); (conv => whnf))))))
    exact aret (VLe.refl _) hs ⟨by unfold fieldsV; rw [if_pos (.inl h1)], rfl⟩
  by_cases h2 : l.length > 24
  · (repeat ((first | refine aload (by (repeat (first | with_reducible exact upd_same _ _ _ | assumption | rw [upd_ne _ _ (by first | assumption | (apply Ne.symm; assumption))]))) rfl ?_ | refine afit_i64 (by omega) ?_ | refine arem_nonneg (by omega) (by omega) ?_ | refine adiv_i64 (by omega) (by omega) ?_ | refine abr_yes (by omega) ?_ | refine abr_no (by omega) ?_ | refine amin ?_ | refine amax ?_ | refine afit_u64 (by omega) ?_ | refine afit_u8 (by omega) ?_ | rw [List.length_map]); ((conv => whnf); (repeat ((first | with_reducible (first | refine zT rfl ?_ | refine zF rfl ?_ | refine zY rfl ?_) | refine zY (by decide) ?_ | refine zN (by decide) ?_ | with_reducible refine zQ ?_); (conv => whnf))))))
    exact aret (VLe.refl _) hs ⟨by unfold fieldsV; rw [if_pos (.inr h2)], rfl⟩
  (repeat ((first | refine aload (by (repeat (first | with_reducible exact upd_same _ _ _ | assumption | rw [upd_ne _ _ (by first | assumption | (apply Ne.symm; assumption))]))) rfl ?_ | refine afit_i64 (by omega) ?_ | refine arem_nonneg (by omega) (by omega) ?_ | refine adiv_i64 (by omega) (by omega) ?_ | refine abr_yes (by omega) ?_ | refine abr_no (by omega) ?_ | refine amin ?_ | refine amax ?_ | refine afit_u64 (by omega) ?_ | refine afit_u8 (by omega) ?_ | rw [List.length_map]); ((conv => whnf); (repeat ((first | with_reducible (first | refine zT rfl ?_ | refine zF rfl ?_ | refine zY rfl ?_) | refine zY (by decide) ?_ | refine zN (by decide) ?_ | with_reducible refine zQ ?_); (conv => whnf))))))
  refine acall (uHead w _ (by omega)) ?_
  rintro _ σ_ ⟨rfl, e_⟩
  obtain rfl := e_.symm
  refine ⟨?_, Ext.refl _⟩
  ((conv => whnf); (repeat ((first | with_reducible (first | refine zT rfl ?_ | refine zF rfl ?_ | refine zY rfl ?_) | refine zY (by decide) ?_ | refine zN (by decide) ?_ | with_reducible refine zQ ?_); (conv => whnf))))
  refine acall (lSize ((l.length : Int) - 1) 11 _) ?_
  rintro _ σ_ ⟨rfl, e_⟩
  obtain rfl := e_.symm
  refine ⟨?_, Ext.refl _⟩
  ((conv => whnf); (repeat ((first | with_reducible (first | refine zT rfl ?_ | refine zF rfl ?_ | refine zY rfl ?_) | refine zY (by decide) ?_ | refine zN (by decide) ?_ | with_reducible refine zQ ?_); (conv => whnf))))
  have hsz := sizeV_range ((l.length : Int) - 1) 11
  generalize hSZ : sizeV ((l.length : Int) - 1) 11 = sz at *
  (repeat ((first | refine aload (by (repeat (first | with_reducible exact upd_same _ _ _ | assumption | rw [upd_ne _ _ (by first | assumption | (apply Ne.symm; assumption))]))) rfl ?_ | refine afit_i64 (by omega) ?_ | refine arem_nonneg (by omega) (by omega) ?_ | refine adiv_i64 (by omega) (by omega) ?_ | refine abr_yes (by omega) ?_ | refine abr_no (by omega) ?_ | refine amin ?_ | refine amax ?_ | refine afit_u64 (by omega) ?_ | refine afit_u8 (by omega) ?_ | rw [List.length_map]); ((conv => whnf); (repeat ((first | with_reducible (first | refine zT rfl ?_ | refine zF rfl ?_ | refine zY rfl ?_) | refine zY (by decide) ?_ | refine zN (by decide) ?_ | with_reducible refine zQ ?_); (conv => whnf))))))
  refine aloop (α := Nat × Int) (fun x => [(s5, i64v x.2), (s29, i64v x.1)]) (fun _ => upd σ id (.cells (pkV fi sn l).cells)) (fun x => x.1 ≤ l.length ∧ fieldsBad l x.1 = false ∧ x.2 = w / 5 + sz + (total (l.take x.1) : Int) ∧ x.2 ≤ 4000) (fun x => l.length - x.1) (0, w / 5 + sz) ⟨Nat.zero_le _, rfl, by show w / 5 + sz = w / 5 + sz + ((0 : Nat) : Int); omega, by dsimp only; omega⟩ (Sub.refl _) ?_ ?_
  · ((conv => whnf); (repeat ((first | with_reducible (first | refine zT rfl ?_ | refine zF rfl ?_ | refine zY rfl ?_) | refine zY (by decide) ?_ | refine zN (by decide) ?_ | with_reducible refine zQ ?_); (conv => whnf))))
    (repeat' first | with_reducible exact EnvLe.refl _ | (refine EnvLe.node ?_ (by first | exact Or.inl rfl | exact Or.inr (Or.inl rfl) | exact Or.inr (Or.inr ⟨nofun, VLe.slice _ _ _⟩)) ?_))
  rintro ⟨i, n⟩ ⟨hi, hbad, hn, hle⟩
  dsimp only at hi hbad hn hle ⊢
  have hV (h : fieldsBad l l.length = true ∨ w / 5 + sz + (total l : Int) > 4000) : fieldsV l (w / 5) 11 = 0 := by
    unfold fieldsV
    rw [if_neg (by omega), hSZ]
    by_cases hb : fieldsBad l l.length = true
    · rw [if_pos hb]
    · rw [if_neg hb, if_pos (h.resolve_left hb)]
  by_cases h : i < l.length
  · have hts := total_take_succ l i h
    have htl := total_take_le l (i + 1)
    have hfb := fieldBad_get h
    have hsucc := fieldsBad_succ l i
    rw [hbad, Bool.false_or] at hsucc
    ((conv => whnf); (repeat ((first | with_reducible (first | refine zT rfl ?_ | refine zF rfl ?_ | refine zY rfl ?_) | refine zY (by decide) ?_ | refine zN (by decide) ?_ | with_reducible refine zQ ?_); (conv => whnf))))
    (repeat ((first | refine aload (by (repeat (first | with_reducible exact upd_same _ _ _ | assumption | rw [upd_ne _ _ (by first | assumption | (apply Ne.symm; assumption))]))) rfl ?_ | refine afit_i64 (by omega) ?_ | refine arem_nonneg (by omega) (by omega) ?_ | refine adiv_i64 (by omega) (by omega) ?_ | refine abr_yes (by omega) ?_ | refine abr_no (by omega) ?_ | refine amin ?_ | refine amax ?_ | refine afit_u64 (by omega) ?_ | refine afit_u8 (by omega) ?_ | rw [List.length_map]); ((conv => whnf); (repeat ((first | with_reducible (first | refine zT rfl ?_ | refine zF rfl ?_ | refine zY rfl ?_) | refine zY (by decide) ?_ | refine zN (by decide) ?_ | with_reducible refine zQ ?_); (conv => whnf))))))
    refine aget (by omega) (get_lists h) ?_
    ((conv => whnf); (repeat ((first | with_reducible (first | refine zT rfl ?_ | refine zF rfl ?_ | refine zY rfl ?_) | refine zY (by decide) ?_ | refine zN (by decide) ?_ | with_reducible refine zQ ?_); (conv => whnf))))
    refine acell rfl ?_
    ((conv => whnf); (repeat ((first | with_reducible (first | refine zT rfl ?_ | refine zF rfl ?_ | refine zY rfl ?_) | refine zY (by decide) ?_ | refine zN (by decide) ?_ | with_reducible refine zQ ?_); (conv => whnf))))
    rw [List.length_map]
    by_cases c1 : l[i].length = 0
    · (repeat ((first | refine aload (by (repeat (first | with_reducible exact upd_same _ _ _ | assumption | rw [upd_ne _ _ (by first | assumption | (apply Ne.symm; assumption))]))) rfl ?_ | refine afit_i64 (by omega) ?_ | refine arem_nonneg (by omega) (by omega) ?_ | refine adiv_i64 (by omega) (by omega) ?_ | refine abr_yes (by omega) ?_ | refine abr_no (by omega) ?_ | refine amin ?_ | refine amax ?_ | refine afit_u64 (by omega) ?_ | refine afit_u8 (by omega) ?_ | rw [List.length_map]); ((conv => whnf); (repeat ((first | with_reducible (first | refine zT rfl ?_ | refine zF rfl ?_ | refine zY rfl ?_) | refine zY (by decide) ?_ | refine zN (by decide) ?_ | with_reducible refine zQ ?_); (conv => whnf))))))
      have hbd : fieldBad l i = true := by rw [hfb, decide_eq_true (.inl c1)]
      exact aret (VLe.refl _) hs ⟨by rw [hV (.inl (fieldsBad_of h hbd))], rfl⟩
    (repeat ((first | refine aload (by (repeat (first | with_reducible exact upd_same _ _ _ | assumption | rw [upd_ne _ _ (by first | assumption | (apply Ne.symm; assumption))]))) rfl ?_ | refine afit_i64 (by omega) ?_ | refine arem_nonneg (by omega) (by omega) ?_ | refine adiv_i64 (by omega) (by omega) ?_ | refine abr_yes (by omega) ?_ | refine abr_no (by omega) ?_ | refine amin ?_ | refine amax ?_ | refine afit_u64 (by omega) ?_ | refine afit_u8 (by omega) ?_ | rw [List.length_map]); ((conv => whnf); (repeat ((first | with_reducible (first | refine zT rfl ?_ | refine zF rfl ?_ | refine zY rfl ?_) | refine zY (by decide) ?_ | refine zN (by decide) ?_ | with_reducible refine zQ ?_); (conv => whnf))))))
    by_cases c2 : l[i].length > 2047
    · (repeat ((first | refine aload (by (repeat (first | with_reducible exact upd_same _ _ _ | assumption | rw [upd_ne _ _ (by first | assumption | (apply Ne.symm; assumption))]))) rfl ?_ | refine afit_i64 (by omega) ?_ | refine arem_nonneg (by omega) (by omega) ?_ | refine adiv_i64 (by omega) (by omega) ?_ | refine abr_yes (by omega) ?_ | refine abr_no (by omega) ?_ | refine amin ?_ | refine amax ?_ | refine afit_u64 (by omega) ?_ | refine afit_u8 (by omega) ?_ | rw [List.length_map]); ((conv => whnf); (repeat ((first | with_reducible (first | refine zT rfl ?_ | refine zF rfl ?_ | refine zY rfl ?_) | refine zY (by decide) ?_ | refine zN (by decide) ?_ | with_reducible refine zQ ?_); (conv => whnf))))))
      by_cases c3 : (i : Int) < (l.length : Int) - 1
      · (repeat ((first | refine aload (by (repeat (first | with_reducible exact upd_same _ _ _ | assumption | rw [upd_ne _ _ (by first | assumption | (apply Ne.symm; assumption))]))) rfl ?_ | refine afit_i64 (by omega) ?_ | refine arem_nonneg (by omega) (by omega) ?_ | refine adiv_i64 (by omega) (by omega) ?_ | refine abr_yes (by omega) ?_ | refine abr_no (by omega) ?_ | refine amin ?_ | refine amax ?_ | refine afit_u64 (by omega) ?_ | refine afit_u8 (by omega) ?_ | rw [List.length_map]); ((conv => whnf); (repeat ((first | with_reducible (first | refine zT rfl ?_ | refine zF rfl ?_ | refine zY rfl ?_) | refine zY (by decide) ?_ | refine zN (by decide) ?_ | with_reducible refine zQ ?_); (conv => whnf))))))
        have hbd : fieldBad l i = true := by rw [hfb, decide_eq_true (.inr ⟨c2, by omega⟩)]
        exact aret (VLe.refl _) hs ⟨by rw [hV (.inl (fieldsBad_of h hbd))], rfl⟩
      · (repeat ((first | refine aload (by (repeat (first | with_reducible exact upd_same _ _ _ | assumption | rw [upd_ne _ _ (by first | assumption | (apply Ne.symm; assumption))]))) rfl ?_ | refine afit_i64 (by omega) ?_ | refine arem_nonneg (by omega) (by omega) ?_ | refine adiv_i64 (by omega) (by omega) ?_ | refine abr_yes (by omega) ?_ | refine abr_no (by omega) ?_ | refine amin ?_ | refine amax ?_ | refine afit_u64 (by omega) ?_ | refine afit_u8 (by omega) ?_ | rw [List.length_map]); ((conv => whnf); (repeat ((first | with_reducible (first | refine zT rfl ?_ | refine zF rfl ?_ | refine zY rfl ?_) | refine zY (by decide) ?_ | refine zN (by decide) ?_ | with_reducible refine zQ ?_); (conv => whnf))))))
        have hbd : fieldBad l i = false := by rw [hfb]; exact decide_eq_false (by omega)
        by_cases c4 : (l[i].length : Int) > 4000 - n
        · (repeat ((first | refine aload (by (repeat (first | with_reducible exact upd_same _ _ _ | assumption | rw [upd_ne _ _ (by first | assumption | (apply Ne.symm; assumption))]))) rfl ?_ | refine afit_i64 (by omega) ?_ | refine arem_nonneg (by omega) (by omega) ?_ | refine adiv_i64 (by omega) (by omega) ?_ | refine abr_yes (by omega) ?_ | refine abr_no (by omega) ?_ | refine amin ?_ | refine amax ?_ | refine afit_u64 (by omega) ?_ | refine afit_u8 (by omega) ?_ | rw [List.length_map]); ((conv => whnf); (repeat ((first | with_reducible (first | refine zT rfl ?_ | refine zF rfl ?_ | refine zY rfl ?_) | refine zY (by decide) ?_ | refine zN (by decide) ?_ | with_reducible refine zQ ?_); (conv => whnf))))))
          exact aret (VLe.refl _) hs ⟨by rw [hV (.inr (by omega))], rfl⟩
        · (repeat ((first | refine aload (by (repeat (first | with_reducible exact upd_same _ _ _ | assumption | rw [upd_ne _ _ (by first | assumption | (apply Ne.symm; assumption))]))) rfl ?_ | refine afit_i64 (by omega) ?_ | refine arem_nonneg (by omega) (by omega) ?_ | refine adiv_i64 (by omega) (by omega) ?_ | refine abr_yes (by omega) ?_ | refine abr_no (by omega) ?_ | refine amin ?_ | refine amax ?_ | refine afit_u64 (by omega) ?_ | refine afit_u8 (by omega) ?_ | rw [List.length_map]); ((conv => whnf); (repeat ((first | with_reducible (first | refine zT rfl ?_ | refine zF rfl ?_ | refine zY rfl ?_) | refine zY (by decide) ?_ | refine zN (by decide) ?_ | with_reducible refine zQ ?_); (conv => whnf))))))
          refine ⟨(i + 1, n + l[i].length), ⟨h, by dsimp only; rw [hsucc, hbd], by dsimp only; omega, by dsimp only; omega⟩, by dsimp only; omega, Sub.refl _, ?_⟩
          ((conv => whnf); (repeat ((first | with_reducible (first | refine zT rfl ?_ | refine zF rfl ?_ | refine zY rfl ?_) | refine zY (by decide) ?_ | refine zN (by decide) ?_ | with_reducible refine zQ ?_); (conv => whnf))))
          (repeat' first | with_reducible exact EnvLe.refl _ | (refine EnvLe.node ?_ (by first | exact Or.inl rfl | exact Or.inr (Or.inl rfl) | exact Or.inr (Or.inr ⟨nofun, VLe.slice _ _ _⟩)) ?_))
    · (repeat ((first | refine aload (by (repeat (first | with_reducible exact upd_same _ _ _ | assumption | rw [upd_ne _ _ (by first | assumption | (apply Ne.symm; assumption))]))) rfl ?_ | refine afit_i64 (by omega) ?_ | refine arem_nonneg (by omega) (by omega) ?_ | refine adiv_i64 (by omega) (by omega) ?_ | refine abr_yes (by omega) ?_ | refine abr_no (by omega) ?_ | refine amin ?_ | refine amax ?_ | refine afit_u64 (by omega) ?_ | refine afit_u8 (by omega) ?_ | rw [List.length_map]); ((conv => whnf); (repeat ((first | with_reducible (first | refine zT rfl ?_ | refine zF rfl ?_ | refine zY rfl ?_) | refine zY (by decide) ?_ | refine zN (by decide) ?_ | with_reducible refine zQ ?_); (conv => whnf))))))
      have hbd : fieldBad l i = false := by rw [hfb]; exact decide_eq_false (by omega)
      by_cases c4 : (l[i].length : Int) > 4000 - n
      · (repeat ((first | refine aload (by (repeat (first | with_reducible exact upd_same _ _ _ | assumption | rw [upd_ne _ _ (by first | assumption | (apply Ne.symm; assumption))]))) rfl ?_ | refine afit_i64 (by omega) ?_ | refine arem_nonneg (by omega) (by omega) ?_ | refine adiv_i64 (by omega) (by omega) ?_ | refine abr_yes (by omega) ?_ | refine abr_no (by omega) ?_ | refine amin ?_ | refine amax ?_ | refine afit_u64 (by omega) ?_ | refine afit_u8 (by omega) ?_ | rw [List.length_map]); ((conv => whnf); (repeat ((first | with_reducible (first | refine zT rfl ?_ | refine zF rfl ?_ | refine zY rfl ?_) | refine zY (by decide) ?_ | refine zN (by decide) ?_ | with_reducible refine zQ ?_); (conv => whnf))))))
        exact aret (VLe.refl _) hs ⟨by rw [hV (.inr (by omega))], rfl⟩
      · (repeat ((first | refine aload (by (repeat (first | with_reducible exact upd_same _ _ _ | assumption | rw [upd_ne _ _ (by first | assumption | (apply Ne.symm; assumption))]))) rfl ?_ | refine afit_i64 (by omega) ?_ | refine arem_nonneg (by omega) (by omega) ?_ | refine adiv_i64 (by omega) (by omega) ?_ | refine abr_yes (by omega) ?_ | refine abr_no (by omega) ?_ | refine amin ?_ | refine amax ?_ | refine afit_u64 (by omega) ?_ | refine afit_u8 (by omega) ?_ | rw [List.length_map]); ((conv => whnf); (repeat ((first | with_reducible (first | refine zT rfl ?_ | refine zF rfl ?_ | refine zY rfl ?_) | refine zY (by decide) ?_ | refine zN (by decide) ?_ | with_reducible refine zQ ?_); (conv => whnf))))))
        refine ⟨(i + 1, n + l[i].length), ⟨h, by dsimp only; rw [hsucc, hbd], by dsimp only; omega, by dsimp only; omega⟩, by dsimp only; omega, Sub.refl _, ?_⟩
        ((conv => whnf); (repeat ((first | with_reducible (first | refine zT rfl ?_ | refine zF rfl ?_ | refine zY rfl ?_) | refine zY (by decide) ?_ | refine zN (by decide) ?_ | with_reducible refine zQ ?_); (conv => whnf))))
        (repeat' first | with_reducible exact EnvLe.refl _ | (refine EnvLe.node ?_ (by first | exact Or.inl rfl | exact Or.inr (Or.inl rfl) | exact Or.inr (Or.inr ⟨nofun, VLe.slice _ _ _⟩)) ?_))
  · obtain rfl : i = l.length := by omega
    rw [List.take_of_length_le (Nat.le_refl _)] at hn
    ((conv => whnf); (repeat ((first | with_reducible (first | refine zT rfl ?_ | refine zF rfl ?_ | refine zY rfl ?_) | refine zY (by decide) ?_ | refine zN (by decide) ?_ | with_reducible refine zQ ?_); (conv => whnf))))
    (repeat ((first | refine aload (by (repeat (first | with_reducible exact upd_same _ _ _ | assumption | rw [upd_ne _ _ (by first | assumption | (apply Ne.symm; assumption))]))) rfl ?_ | refine afit_i64 (by omega) ?_ | refine arem_nonneg (by omega) (by omega) ?_ | refine adiv_i64 (by omega) (by omega) ?_ | refine abr_yes (by omega) ?_ | refine abr_no (by omega) ?_ | refine amin ?_ | refine amax ?_ | refine afit_u64 (by omega) ?_ | refine afit_u8 (by omega) ?_ | rw [List.length_map]); ((conv => whnf); (repeat ((first | with_reducible (first | refine zT rfl ?_ | refine zF rfl ?_ | refine zY rfl ?_) | refine zY (by decide) ?_ | refine zN (by decide) ?_ | with_reducible refine zQ ?_); (conv => whnf))))))
    refine aret (VLe.refl _) hs ⟨?_, rfl⟩
    unfold fieldsV
    rw [if_neg (by omega), hbad, hSZ, if_neg (by simp), if_neg (by omega), hn]

set_option maxRecDepth 20000 in
theorem uSize (fi sn : Int) (l : List (List UInt8)) (w : Int) (σ : AHeap) : ACalls Try.prog i_umd_Size [pkV fi sn l, i64v w] σ fun v σ' => v = i64v (umSize fi sn l w) ∧ σ' = σ := by
  refine k_umd_Size rfl ?_
  ((conv => whnf); (repeat ((first | with_reducible (first | refine zT rfl ?_ | refine zF rfl ?_ | refine zY rfl ?_) | refine zY (by decide) ?_ | refine zN (by decide) ?_ | with_reducible refine zQ ?_); (conv => whnf))))
  refine anew rfl fun id hid => ?_
  ((conv => whnf); (repeat ((first | with_reducible (first | refine zT rfl ?_ | refine zF rfl ?_ | refine zY rfl ?_) | refine zY (by decide) ?_ | refine zN (by decide) ?_ | with_reducible refine zQ ?_); (conv => whnf))))
  refine anew rfl fun id2 hid2 => ?_
  have hne : id ≠ id2 := fun e => by subst e; rw [upd_same] at hid2; cases hid2
  ((conv => whnf); (repeat ((first | with_reducible (first | refine zT rfl ?_ | refine zF rfl ?_ | refine zY rfl ?_) | refine zY (by decide) ?_ | refine zN (by decide) ?_ | with_reducible refine zQ ?_); (conv => whnf))))
  refine astore (xs := [i64v w]) (l := [i64v w]) (upd_same _ _ _) (Nat.le_of_ble_eq_true rfl) rfl rfl ?_
  rw [upd_upd]
  have hs : Sub (upd (upd σ id (.cells (pkV fi sn l).cells)) id2 (.cells [i64v w])) σ := (Sub.upd_fresh _ hid2).trans (Sub.upd_fresh _ hid)
  ((conv => whnf); (repeat ((first | with_reducible (first | refine zT rfl ?_ | refine zF rfl ?_ | refine zY rfl ?_) | refine zY (by decide) ?_ | refine zN (by decide) ?_ | with_reducible refine zQ ?_); (conv => whnf))))
  refine acall (uIsWidth w _) ?_
  rintro _ σ_ ⟨rfl, e_⟩
  obtain rfl := e_.symm
  refine ⟨?_, Ext.refl _⟩
  ((conv => whnf); (repeat ((first | with_reducible (first | refine zT rfl ?_ | refine zF rfl ?_ | refine zY rfl ?_) | refine zY (by decide) ?_ | refine zN (by decide) ?_ | with_reducible refine zQ ?_); (conv => whnf))))
  by_cases hw : umWidth w = true
  · rw [hw]
    ((conv => whnf); (repeat ((first | with_reducible (first | refine zT rfl ?_ | refine zF rfl ?_ | refine zY rfl ?_) | refine zY (by decide) ?_ | refine zN (by decide) ?_ | with_reducible refine zQ ?_); (conv => whnf))))
    (repeat ((first | refine aload (by (repeat (first | with_reducible exact upd_same _ _ _ | assumption | rw [upd_ne _ _ (by first | assumption | (apply Ne.symm; assumption))]))) rfl ?_ | refine afit_i64 (by omega) ?_ | refine arem_nonneg (by omega) (by omega) ?_ | refine adiv_i64 (by omega) (by omega) ?_ | refine abr_yes (by omega) ?_ | refine abr_no (by omega) ?_ | refine amin ?_ | refine amax ?_ | refine afit_u64 (by omega) ?_ | refine afit_u8 (by omega) ?_ | rw [List.length_map]); ((conv => whnf); (repeat ((first | with_reducible (first | refine zT rfl ?_ | refine zF rfl ?_ | refine zY rfl ?_) | refine zY (by decide) ?_ | refine zN (by decide) ?_ | with_reducible refine zQ ?_); (conv => whnf))))))
    by_cases h1 : fi < 0
    · (repeat ((first | refine aload (by (repeat (first | with_reducible exact upd_same _ _ _ | assumption | rw [upd_ne _ _ (by first | assumption | (apply Ne.symm; assumption))]))) rfl ?_ | refine afit_i64 (by omega) ?_ | refine arem_nonneg (by omega) (by omega) ?_ | refine adiv_i64 (by omega) (by omega) ?_ | refine abr_yes (by omega) ?_ | refine abr_no (by omega) ?_ | refine amin ?_ | refine amax ?_ | refine afit_u64 (by omega) ?_ | refine afit_u8 (by omega) ?_ | rw [List.length_map]); ((conv => whnf); (repeat ((first | with_reducible (first | refine zT rfl ?_ | refine zF rfl ?_ | refine zY rfl ?_) | refine zY (by decide) ?_ | refine zN (by decide) ?_ | with_reducible refine zQ ?_); (conv => whnf))))))
      exact aret (VLe.refl _) hs ⟨by unfold umSize; rw [if_pos (.inr (.inl h1))], rfl⟩
    (repeat ((first | refine aload (by (repeat (first | with_reducible exact upd_same _ _ _ | assumption | rw [upd_ne _ _ (by first | assumption | (apply Ne.symm; assumption))]))) rfl ?_ | refine afit_i64 (by omega) ?_ | refine arem_nonneg (by omega) (by omega) ?_ | refine adiv_i64 (by omega) (by omega) ?_ | refine abr_yes (by omega) ?_ | refine abr_no (by omega) ?_ | refine amin ?_ | refine amax ?_ | refine afit_u64 (by omega) ?_ | refine afit_u8 (by omega) ?_ | rw [List.length_map]); ((conv => whnf); (repeat ((first | with_reducible (first | refine zT rfl ?_ | refine zF rfl ?_ | refine zY rfl ?_) | refine zY (by decide) ?_ | refine zN (by decide) ?_ | with_reducible refine zQ ?_); (conv => whnf))))))
    by_cases h2 : fi > 3
    · (repeat ((first | refine aload (by (repeat (first | with_reducible exact upd_same _ _ _ | assumption | rw [upd_ne _ _ (by first | assumption | (apply Ne.symm; assumption))]))) rfl ?_ | refine afit_i64 (by omega) ?_ | refine arem_nonneg (by omega) (by omega) ?_ | refine adiv_i64 (by omega) (by omega) ?_ | refine abr_yes (by omega) ?_ | refine abr_no (by omega) ?_ | refine amin ?_ | refine amax ?_ | refine afit_u64 (by omega) ?_ | refine afit_u8 (by omega) ?_ | rw [List.length_map]); ((conv => whnf); (repeat ((first | with_reducible (first | refine zT rfl ?_ | refine zF rfl ?_ | refine zY rfl ?_) | refine zY (by decide) ?_ | refine zN (by decide) ?_ | with_reducible refine zQ ?_); (conv => whnf))))))
      exact aret (VLe.refl _) hs ⟨by unfold umSize; rw [if_pos (.inr (.inr (.inl h2)))], rfl⟩
    (repeat ((first | refine aload (by (repeat (first | with_reducible exact upd_same _ _ _ | assumption | rw [upd_ne _ _ (by first | assumption | (apply Ne.symm; assumption))]))) rfl ?_ | refine afit_i64 (by omega) ?_ | refine arem_nonneg (by omega) (by omega) ?_ | refine adiv_i64 (by omega) (by omega) ?_ | refine abr_yes (by omega) ?_ | refine abr_no (by omega) ?_ | refine amin ?_ | refine amax ?_ | refine afit_u64 (by omega) ?_ | refine afit_u8 (by omega) ?_ | rw [List.length_map]); ((conv => whnf); (repeat ((first | with_reducible (first | refine zT rfl ?_ | refine zF rfl ?_ | refine zY rfl ?_) | refine zY (by decide) ?_ | refine zN (by decide) ?_ | with_reducible refine zQ ?_); (conv => whnf))))))
    refine aloads (l := [i64v w]) (upd_same _ _ _) (by exact Nat.le_refl 1) rfl ?_
    ((conv => whnf); (repeat ((first | with_reducible (first | refine zT rfl ?_ | refine zF rfl ?_ | refine zY rfl ?_) | refine zY (by decide) ?_ | refine zN (by decide) ?_ | with_reducible refine zQ ?_); (conv => whnf))))
    (repeat ((first | refine aload (by (repeat (first | with_reducible exact upd_same _ _ _ | assumption | rw [upd_ne _ _ (by first | assumption | (apply Ne.symm; assumption))]))) rfl ?_ | refine afit_i64 (by omega) ?_ | refine arem_nonneg (by omega) (by omega) ?_ | refine adiv_i64 (by omega) (by omega) ?_ | refine abr_yes (by omega) ?_ | refine abr_no (by omega) ?_ | refine amin ?_ | refine amax ?_ | refine afit_u64 (by omega) ?_ | refine afit_u8 (by omega) ?_ | rw [List.length_map]); ((conv => whnf); (repeat ((first | with_reducible (first | refine zT rfl ?_ | refine zF rfl ?_ | refine zY rfl ?_) | refine zY (by decide) ?_ | refine zN (by decide) ?_ | with_reducible refine zQ ?_); (conv => whnf))))))
    refine acall (sqIs w sn _) ?_
    rintro _ σ_ ⟨rfl, e_⟩
    obtain rfl := e_.symm
    refine ⟨?_, Ext.refl _⟩
    ((conv => whnf); (repeat ((first | with_reducible (first | refine zT rfl ?_ | refine zF rfl ?_ | refine zY rfl ?_) | refine zY (by decide) ?_ | refine zN (by decide) ?_ | with_reducible refine zQ ?_); (conv => whnf))))
    by_cases h3 : isNum w sn = true
    · rw [h3]
      ((conv => whnf); (repeat ((first | with_reducible (first | refine zT rfl ?_ | refine zF rfl ?_ | refine zY rfl ?_) | refine zY (by decide) ?_ | refine zN (by decide) ?_ | with_reducible refine zQ ?_); (conv => whnf))))
      refine aloads (l := [i64v fi, i64v sn, lists .none l]) (by (repeat (first | with_reducible exact upd_same _ _ _ | assumption | rw [upd_ne _ _ (by first | assumption | (apply Ne.symm; assumption))]))) (by exact Nat.le_refl 3) rfl ?_
      ((conv => whnf); (repeat ((first | with_reducible (first | refine zT rfl ?_ | refine zF rfl ?_ | refine zY rfl ?_) | refine zY (by decide) ?_ | refine zN (by decide) ?_ | with_reducible refine zQ ?_); (conv => whnf))))
      refine acall (usize fi sn l w _ hw) ?_
      rintro _ σ_ ⟨rfl, e_⟩
      obtain rfl := e_.symm
      refine ⟨?_, Ext.refl _⟩
      ((conv => whnf); (repeat ((first | with_reducible (first | refine zT rfl ?_ | refine zF rfl ?_ | refine zY rfl ?_) | refine zY (by decide) ?_ | refine zN (by decide) ?_ | with_reducible refine zQ ?_); (conv => whnf))))
      refine aret (VLe.refl _) hs ⟨?_, rfl⟩
      unfold umSize
      rw [hw, h3, if_neg]
      rintro (h | h | h | h)
      · cases h
      · exact h1 h
      · exact h2 h
      · cases h
    · rw [Bool.eq_false_iff.2 h3]
      ((conv => whnf); (repeat ((first | with_reducible (first | refine zT rfl ?_ | refine zF rfl ?_ | refine zY rfl ?_) | refine zY (by decide) ?_ | refine zN (by decide) ?_ | with_reducible refine zQ ?_); (conv => whnf))))
      exact aret (VLe.refl _) hs ⟨by unfold umSize; rw [if_pos (.inr (.inr (.inr (Bool.eq_false_iff.2 h3))))], rfl⟩
  · rw [Bool.eq_false_iff.2 hw]
    ((conv => whnf); (repeat ((first | with_reducible (first | refine zT rfl ?_ | refine zF rfl ?_ | refine zY rfl ?_) | refine zY (by decide) ?_ | refine zN (by decide) ?_ | with_reducible refine zQ ?_); (conv => whnf))))
    exact aret (VLe.refl _) hs ⟨by unfold umSize; rw [if_pos (.inl (Bool.eq_false_iff.2 hw))], rfl⟩

theorem uRight (fi sn : Int) (l : List (List UInt8)) (w : Int) (σ : AHeap) : ACalls Try.prog i_umd_Right [pkV fi sn l, i64v w] σ fun v σ' => v = boolv (decide (umSize fi sn l w > 0)) ∧ σ' = σ := by
  refine k_umd_Right rfl ?_
  ((conv => whnf); (repeat ((first | with_reducible (first | refine zT rfl ?_ | refine zF rfl ?_ | refine zY rfl ?_) | refine zY (by decide) ?_ | refine zN (by decide) ?_ | with_reducible refine zQ ?_); (conv => whnf))))
  refine anew rfl fun id hid => ?_
  have hs : Sub (upd σ id (.cells (pkV fi sn l).cells)) σ := Sub.upd_fresh _ hid
  ((conv => whnf); (repeat ((first | with_reducible (first | refine zT rfl ?_ | refine zF rfl ?_ | refine zY rfl ?_) | refine zY (by decide) ?_ | refine zN (by decide) ?_ | with_reducible refine zQ ?_); (conv => whnf))))
  refine aloads (l := [i64v fi, i64v sn, lists .none l]) (upd_same _ _ _) (by exact Nat.le_refl 3) rfl ?_
  ((conv => whnf); (repeat ((first | with_reducible (first | refine zT rfl ?_ | refine zF rfl ?_ | refine zY rfl ?_) | refine zY (by decide) ?_ | refine zN (by decide) ?_ | with_reducible refine zQ ?_); (conv => whnf))))
  refine acall (uSize fi sn l w _) ?_
  rintro _ σ_ ⟨rfl, e_⟩
  obtain rfl := e_.symm
  refine ⟨?_, Ext.refl _⟩
  ((conv => whnf); (repeat ((first | with_reducible (first | refine zT rfl ?_ | refine zF rfl ?_ | refine zY rfl ?_) | refine zY (by decide) ?_ | refine zN (by decide) ?_ | with_reducible refine zQ ?_); (conv => whnf))))
  exact aret (VLe.refl _) hs ⟨congrArg boolv (dec_congr Iff.rfl), rfl⟩
end Go.Proofs.Ytgipkpghabelkaa
/-
  bytes.Join, out of the library's own contract.
-/
namespace Go.Proofs.Ytgipkpghabelkaa
set_option linter.unusedVariables false
set_option linter.unusedSimpArgs false
open Go Go.Am Go.Shelf Go.Lib
open Go.RowKit (Below)

theorem Inv_fresh {κ : Ghost} {σ : AHeap} {w w' : World} (h : Inv κ σ w) (hb : Below w.heap.size w w') {g : Nat} (hg : w.heap.size ≤ g) {vs : List Value} (ho : Ones vs) (hc : ∀ i v, vs[i]? = some v → w'.cell? ⟨g, i, none⟩ = some v) :
    ∃ κ', κ.le κ' ∧ Inv κ' σ w' ∧ ∀ i v, vs[i]? = some v → κ'.cell g i = some v := by
  have old : ∀ b o v, κ.cell b o = some v → b < w.heap.size := by
    intro b o v e
    have := (h.cell b o v e).1
    unfold World.cell? at this
    refine Classical.byContradiction fun hn => ?_
    rw [show w.heap[b]? = none from Array.getElem?_eq_none (by omega)] at this
    cases this
  have hle : κ.le { κ with cell := fun b o => if b = g then vs[o]? else κ.cell b o } := by
    refine ⟨rfl, rfl, fun b o v e => ?_, fun _ _ e => e, fun _ _ e => e, fun _ _ e => e⟩
    have := old b o v e
    dsimp only
    rw [if_neg (by omega)]; exact e
  refine ⟨_, hle, ?_, fun i v e => ?_⟩
  · refine ⟨h.below.trans (hb.mono h.base), Nat.le_trans h.base hb.size, ?_, ?_, ?_, h.inj, ?_, ?_, ?_, h.fin⟩
    · intro b o v e
      dsimp only at e
      by_cases hbg : b = g
      · rw [if_pos hbg] at e
        subst hbg
        exact ⟨hc o v e, ho v (List.mem_of_getElem? e)⟩
      · rw [if_neg hbg] at e
        obtain ⟨h1, h2⟩ := h.cell b o v e
        exact ⟨by rw [hb.cell (p := ⟨b, o, none⟩) (old b o v e)]; exact h1, h2⟩
    · intro b n e
      obtain ⟨c, ety, f, h1, h2⟩ := h.size b n e
      have hlt : b < w.heap.size := (Array.getElem?_eq_some_iff.1 h1).1
      exact ⟨c, ety, f, by rw [hb.block b hlt]; exact h1, h2⟩
    · intro i b e
      obtain ⟨h1, h2, h3⟩ := h.obj i b e
      refine ⟨h1, Nat.lt_of_lt_of_le h2 hb.size, fun hl o => ?_⟩
      dsimp only
      rw [if_neg (by omega)]; exact h3 hl o
    · intro i cs e
      obtain ⟨b, c, ety, vs', us, h1, h2, h3, h4, h5, h6, h7⟩ := h.cells i cs e
      have hlt := (h.obj i b h1).2.1
      refine ⟨b, c, ety, vs', us, h1, by rw [hb.block b hlt]; exact h2, h3, h4, RepL.mono hle h5, h6, h7⟩
    · intro i es e
      obtain ⟨b, c, clk, h1, h2, h3, h4⟩ := h.map i es e
      have hlt := (h.obj i b h1).2.1
      refine ⟨b, c, clk, h1, by rw [hb.block b hlt]; exact h2, h3, RepL.mono hle h4⟩
    · intro t b p e k
      obtain ⟨h1, ⟨c, ety, h2, h3⟩, h4, h5, h6⟩ := h.tip t b p e k
      have hlt : b < w.heap.size := (Array.getElem?_eq_some_iff.1 h2).1
      refine ⟨h1, ⟨c, ety, by rw [hb.block b hlt]; exact h2, h3⟩, fun o ho => ?_, h5, h6⟩
      dsimp only
      rw [if_neg (by omega)]; exact h4 o ho
  · dsimp only; rw [if_pos rfl]; exact e

theorem bytes_reps (κ : Ghost) : ∀ (l : List UInt8), RepL κ ((l.map byteV).flatMap AVal.cells) (l.map fun x => Value.int .u8 (x.toNat : Int))
  | [] => .nil
  | x :: l => .cons (.v rfl) (bytes_reps κ l)
theorem bytes_vals {κ : Ghost} : ∀ {l : List UInt8} {vs : List Value}, RepL κ ((l.map byteV).flatMap AVal.cells) vs → vs = l.map fun x => Value.int .u8 (x.toNat : Int)
  | [], _, h => by cases h; rfl
  | x :: l, _, h => by
    have h : RepL κ (byteV x :: (l.map byteV).flatMap AVal.cells) _ := h
    cases h with
    | cons h1 h2 =>
      obtain ⟨rfl, _⟩ := h1.v_inv
      rw [bytes_vals h2]; rfl

/-- A fresh slice of bytes, as the framework's. -/
theorem of_fresh {κ : Ghost} {σ : AHeap} {w w' : World} (h : Inv κ σ w) (hb : Below w.heap.size w w') {v : Value} {l : List UInt8} (hf : FreshBytes w.heap.size w' v l) : ∃ κ', κ.le κ' ∧ Inv κ' σ w' ∧ RepV κ' (sl .none l) v := by
  obtain ⟨g, cap, zs, rfl, hg, hcap, _, hz, hr, hbs, hcell, _⟩ := hf
  have hl : (zs.take l.length).length = l.length := by rw [List.length_take]; omega
  obtain ⟨κ', k1, k2, k3⟩ := Inv_fresh h hb hg (vs := l.map fun x => Value.int .u8 (x.toNat : Int)) (by intro v hv; obtain ⟨x, _, rfl⟩ := List.mem_map.1 hv; rfl) (by
    intro i v hv
    rw [List.getElem?_map] at hv
    obtain ⟨x, hx, rfl⟩ := Option.map_eq_some_iff.1 hv
    have hi : i < l.length := (List.getElem?_eq_some_iff.1 hx).1
    rw [hcell i (by omega)]
    rw [← hbs] at hx
    unfold bytesOf at hx
    rw [List.getElem?_map, List.getElem?_take_of_lt hi] at hx
    obtain ⟨z, hz2, rfl⟩ := Option.map_eq_some_iff.1 hx
    have hzr := hr z (List.mem_of_getElem? hz2)
    rw [List.getD_eq_getElem?_getD, hz2, Option.getD_some, UInt8.toNat_ofNat']
    congr 2; omega)
  refine ⟨κ', k1, k2, .slice (vs := l.map fun x => Value.int .u8 (x.toNat : Int)) (by rw [List.length_map]) hcap (bytes_one l) (bytes_reps κ' l) (fun i v hv => ?_) trivial⟩
  rw [Nat.zero_add]; exact k3 i v hv

theorem holds_of {κ : Ghost} {σ : AHeap} {w : World} (h : Inv κ σ w) {l : List UInt8} {t : Tok} {v : Value} (hr : RepV κ (sl t l) v) : HoldsBytes w v l := by
  rcases hr.slice_inv with ⟨⟨a, rfl⟩, hn⟩ | ⟨b, off, cap, vs, rfl, g2, g3, g4, g5, g6⟩
  · have hn : l = [] := by simpa using hn
    subst hn
    exact ⟨a, 0, rfl, fun _ => rfl, fun a h i x hx => by simp at hx⟩
  · rw [List.length_map] at g2 ⊢
    refine ⟨some ⟨b, off, none⟩, cap, rfl, nofun, fun a ha i x hx => ?_⟩
    cases ha
    rw [addr_eq]
    have := bytes_vals g4
    subst this
    exact (h.cell b (off + i) _ (g5 i _ (by rw [List.getElem?_map, hx]; rfl))).1

theorem parts_reps {κ : Ghost} {σ : AHeap} {w : World} (h : Inv κ σ w) : ∀ {l : List (List UInt8)} {vs : List Value}, RepL κ ((l.map (sl .none)).flatMap AVal.cells) vs → vs.length = l.length ∧ ∀ (i : Nat) v x, vs[i]? = some v → l[i]? = some x → HoldsBytes w v x
  | [], _, hr => by cases hr; exact ⟨rfl, fun i v x h => by simp at h⟩
  | a :: l, _, hr => by
    have hr : RepL κ (sl .none a :: (l.map (sl .none)).flatMap AVal.cells) _ := hr
    cases hr with
    | cons h1 h2 =>
      obtain ⟨e1, e2⟩ := parts_reps h h2
      refine ⟨by rw [List.length_cons, List.length_cons, e1], fun i v x hv hx => ?_⟩
      cases i with
      | zero => simp at hv hx; subst hv; subst hx; exact holds_of h h1
      | succ i => simp at hv hx; exact e2 i v x hv hx

theorem join_flatten : ∀ (l : List (List UInt8)), Lib.join l [] = l.flatten
  | [] => rfl
  | a :: l => by rw [Lib.join_cons]; unfold joinTail; simp

shelf_lay SlLaysJ.n14 Slb 14 at Try as Try.lays14

abbrev i_bytes_Join : FuncId := Try.lays14_ren.f 14
theorem Join (l : List (List UInt8)) (t u : Tok) (σ : AHeap) (hn : l.length ≤ 140737488355328) (hlen : l.flatten.length ≤ 140737488355328) :
    ACalls Try.prog i_bytes_Join [.slice 1 (l.map (sl .none)) t, .slice 1 [] u] σ fun v σ' => v = sl .none l.flatten ∧ σ' = σ := by
  rw [ACalls_def]
  intro κ w cargs hI hr
  cases hr with | cons h1 hr =>
  cases hr with | cons h2 hr =>
  cases hr
  have hS : HoldsBytes w _ [] := holds_of (l := []) hI h2
  rename_i v1 v2
  rcases h1.slice_inv with ⟨⟨a, rfl⟩, hl⟩ | ⟨b, off, cap, vs, rfl, g2, g3, g4, g5, g6⟩
  · have hl : l = [] := by simpa using hl
    subst hl
    refine (Any.bytes_Join_none Try.lays14 a 0 v2 w).mono fun e w' ⟨he, hw⟩ => ?_
    subst he; subst hw
    have hb : Below w.heap.size w (w.alloc (.cells #[] (Try.lays14_ren.t 5))) := (Below.refl _ w).alloc (Nat.le_refl _) _
    obtain ⟨κ', k1, k2, _⟩ := Inv_fresh hI hb (Nat.le_refl _) (vs := []) (by intro v hv; simp at hv) (by intro i v hv; simp at hv)
    exact ⟨_, κ', σ, _, rfl, k1, k2, .nil, rfl, rfl⟩
  · rw [List.length_map] at g2 ⊢
    obtain ⟨e1, e2⟩ := parts_reps hI g4
    have hcell : ∀ (i : Nat) v, vs[i]? = some v → w.cell? (Addr.add ⟨b, off, none⟩ i) = some v := fun i v hv => by rw [addr_eq]; exact (hI.cell b (off + i) v (g5 i v hv)).1
    match l, vs, e1 with
    | [], _, _ =>
      refine (Any.bytes_Join_none Try.lays14 (some ⟨b, off, none⟩) cap v2 w).mono fun e w' ⟨he, hw⟩ => ?_
      subst he; subst hw
      have hb : Below w.heap.size w (w.alloc (.cells #[] (Try.lays14_ren.t 5))) := (Below.refl _ w).alloc (Nat.le_refl _) _
      obtain ⟨κ', k1, k2, _⟩ := Inv_fresh hI hb (Nat.le_refl _) (vs := []) (by intro v hv; simp at hv) (by intro i v hv; simp at hv)
      exact ⟨_, κ', σ, _, rfl, k1, k2, .nil, rfl, rfl⟩
    | [x], [v0], _ =>
      obtain ⟨p, c0, rfl, hp, hbytes⟩ := e2 0 v0 x rfl rfl
      have hc0 := hcell 0 _ rfl
      rw [addr_eq, Nat.add_zero] at hc0
      by_cases hx : x.length = 0
      · have hx : x = [] := List.length_eq_zero_iff.1 hx
        subst hx
        refine (Any.bytes_Join_one_empty Try.lays14 b off cap p c0 v2 w hc0).mono fun e w' ⟨he, hw⟩ => ?_
        subst he; subst hw
        exact ⟨_, κ, σ, _, rfl, Ghost.le.refl κ, hI, .nil, rfl, rfl⟩
      · cases p with
        | none => rw [hp rfl] at hx; exact absurd rfl hx
        | some a =>
          simp only [List.flatten_cons, List.flatten_nil, List.append_nil] at hlen ⊢
          refine (Any.bytes_Join_one Try.lays14 b off cap a c0 x v2 w hc0 (hbytes a rfl) (by omega) hlen).mono fun e w' ⟨v', he, hf, hb⟩ => ?_
          subst he
          obtain ⟨κ', k1, k2, k3⟩ := of_fresh hI hb hf
          exact ⟨_, κ', σ, _, rfl, k1, k2, k3, rfl, rfl⟩
    | x :: y :: l, vs, e1 =>
      have hlens : Lib.lens (x :: y :: l) = (x :: y :: l).flatten.length := by unfold Lib.lens; rw [List.length_flatten]
      refine (Any.bytes_Join_many Try.lays14 b off (x :: y :: l).length cap vs (x :: y :: l) v2 [] w rfl (by simp) ⟨e1, hcell, e2⟩ g2 hS hn (by rw [hlens]; simpa using hlen)).mono fun e w' ⟨v', he, hf, hb⟩ => ?_
      subst he
      rw [join_flatten] at hf
      obtain ⟨κ', k1, k2, k3⟩ := of_fresh hI hb hf
      exact ⟨_, κ', σ, _, rfl, k1, k2, k3, rfl, rfl⟩
end Go.Proofs.Ytgipkpghabelkaa
/-
  Appending to a slice with the right to, whatever else stands beside it.
-/
namespace Go.Proofs.Ytgipkpghabelkaa
set_option linter.unusedVariables false
open Go Go.Am

theorem aapp_sub {σ σa σ2 : AHeap} {s bytes : Nat} {xs ys : List AVal} {tk : Tok} {K : AVal → AHeap → Prop} (ho : Owned σ σa tk) (hs : Sub σ2 σa) (hl : (xs.length + ys.length) * bytes ≤ 140737488355328)
    (h : ∀ tk' σ3 σ4, Owned σ σ4 tk' → Sub σ3 σ4 → K (.slice s (xs ++ ys) tk') σ3) : AApp σ2 s bytes xs tk ys K := by
  have fresh : ∀ t', σ2 t' = none → σ t' = none := by
    intro t' ht'
    cases e : σ t' with
    | none => rfl
    | some o => rw [hs _ _ (ho.same_of e)] at ht'; cases ht'
  rcases ho with ⟨rfl, rfl⟩ | ⟨t, h0, rfl, rfl⟩
  · exact aapp_full hl fun t ht => h _ _ _ (.tip (fresh t ht)) (Sub.upd hs _ _)
  · refine aapp_tip (hs _ _ (upd_same _ _ _)) hl fun t' ht' => ?_
    refine h _ _ _ (.tip (fresh t' ht')) (Sub.upd ?_ _ _)
    intro i o e
    have hit : i ≠ t := fun k => by subst k; rw [h0] at e; cases e
    rw [del_ne _ hit]
    exact hs _ _ (by rw [upd_ne _ _ hit]; exact e)
/-- What stands above what has the right to append may (repeat ((first | refine aload (by (repeat (first | with_reducible exact upd_same _ _ _ | assumption | rw [upd_ne _ _ (by first | assumption | (apply Ne.symm; assumption))]))) rfl ?_ | refine afit_i64 (by omega) ?_ | refine arem_nonneg (by omega) (by omega) ?_ | refine adiv_i64 (by omega) (by omega) ?_ | refine abr_yes (by omega) ?_ | refine abr_no (by omega) ?_ | refine amin ?_ | refine amax ?_ | refine afit_u64 (by omega) ?_ | refine afit_u8 (by omega) ?_ | rw [List.length_map]); ((conv => whnf); (repeat ((first | with_reducible (first | refine zT rfl ?_ | refine zF rfl ?_ | refine zY rfl ?_) | refine zY (by decide) ?_ | refine zN (by decide) ?_ | with_reducible refine zQ ?_); (conv => whnf)))))). -/
theorem Owned.less {σ σx σ3 : AHeap} {tk : Tok} (h : Owned σx σ3 tk) (hs : Sub σx σ) : ∃ σ4, Owned σ σ4 tk ∧ Sub σ3 σ4 := by
  rcases h with ⟨rfl, rfl⟩ | ⟨t, h0, rfl, rfl⟩
  · exact ⟨σ, .full _, hs⟩
  · refine ⟨upd σ t .tip, .tip ?_, Sub.upd hs _ _⟩
    cases e : σ t with
    | none => rfl
    | some o => rw [hs _ _ e] at h0; cases h0
theorem aret_sl1 {s : Nat} {xs : List AVal} {t : Tok} {ys : List AVal} {σ σ2 : AHeap} {Q : AVal → AHeap → Prop} (hs : Sub σ σ2) (h : Q (.tup (.slice s xs .none :: ys)) σ2) : ARet (.tup (.slice s xs t :: ys)) σ Q :=
  aret (VLe.tup (VLe.cons (VLe.slice _ _ _) fun _ _ h => h)) hs h
end Go.Proofs.Ytgipkpghabelkaa
/-
  Packets that are not acknowledged: their bytes.
-/
namespace Go.Proofs.Ytgipkpghabelkaa
set_option linter.unusedVariables false
set_option linter.unusedSimpArgs false
open Go Go.Am

/-- The lengths of all fields but the last. -/
def lensOf (l : List (List UInt8)) : List Int := (l.take (l.length - 1)).map fun f => (f.length : Int)
theorem lensOf_length (l : List (List UInt8)) : (lensOf l).length = l.length - 1 := by unfold lensOf; rw [List.length_map, List.length_take]; omega

theorem uLengths (l : List (List UInt8)) (t : Tok) (σ : AHeap) (h1 : 1 ≤ l.length) (h2 : l.length ≤ 1000) : ACalls Try.prog i_umd_lengths [lists t l] σ fun v σ' => v = ints .none (lensOf l) ∧ σ' = σ := by
  refine k_umd_lengths rfl ?_
  ((conv => whnf); (repeat ((first | with_reducible (first | refine zT rfl ?_ | refine zF rfl ?_ | refine zY rfl ?_) | refine zY (by decide) ?_ | refine zN (by decide) ?_ | with_reducible refine zQ ?_); (conv => whnf))))
  (repeat ((first | refine aload (by (repeat (first | with_reducible exact upd_same _ _ _ | assumption | rw [upd_ne _ _ (by first | assumption | (apply Ne.symm; assumption))]))) rfl ?_ | refine afit_i64 (by omega) ?_ | refine arem_nonneg (by omega) (by omega) ?_ | refine adiv_i64 (by omega) (by omega) ?_ | refine abr_yes (by omega) ?_ | refine abr_no (by omega) ?_ | refine amin ?_ | refine amax ?_ | refine afit_u64 (by omega) ?_ | refine afit_u8 (by omega) ?_ | rw [List.length_map]); ((conv => whnf); (repeat ((first | with_reducible (first | refine zT rfl ?_ | refine zF rfl ?_ | refine zY rfl ?_) | refine zY (by decide) ?_ | refine zN (by decide) ?_ | with_reducible refine zQ ?_); (conv => whnf))))))
  refine acut (by omega) (by omega) (by omega) ?_
  ((conv => whnf); (repeat ((first | with_reducible (first | refine zT rfl ?_ | refine zF rfl ?_ | refine zY rfl ?_) | refine zY (by decide) ?_ | refine zN (by decide) ?_ | with_reducible refine zQ ?_); (conv => whnf))))
  have e1 : ((l.length : Int) - 1).toNat = l.length - 1 := by omega
  rw [e1, show (0 : Int).toNat = 0 from rfl, List.drop_zero, ← List.map_take]
  have hl2 : (l.take (l.length - 1)).length = l.length - 1 := by rw [List.length_take]; omega
  have hle : lensOf l = (l.take (l.length - 1)).map fun f => (f.length : Int) := rfl
  generalize l.take (l.length - 1) = m at *
  (repeat ((first | refine aload (by (repeat (first | with_reducible exact upd_same _ _ _ | assumption | rw [upd_ne _ _ (by first | assumption | (apply Ne.symm; assumption))]))) rfl ?_ | refine afit_i64 (by omega) ?_ | refine arem_nonneg (by omega) (by omega) ?_ | refine adiv_i64 (by omega) (by omega) ?_ | refine abr_yes (by omega) ?_ | refine abr_no (by omega) ?_ | refine amin ?_ | refine amax ?_ | refine afit_u64 (by omega) ?_ | refine afit_u8 (by omega) ?_ | rw [List.length_map]); ((conv => whnf); (repeat ((first | with_reducible (first | refine zT rfl ?_ | refine zF rfl ?_ | refine zY rfl ?_) | refine zY (by decide) ?_ | refine zN (by decide) ?_ | with_reducible refine zQ ?_); (conv => whnf))))))
  refine aloop (α := Nat × Tok × AHeap) (fun x => [(s3, ints x.2.1 ((m.take x.1).map fun f => (f.length : Int))), (s12, i64v x.1)]) (fun x => x.2.2) (fun x => x.1 ≤ m.length ∧ Owned σ x.2.2 x.2.1) (fun x => m.length - x.1) (0, .full, σ) ⟨Nat.zero_le _, .full _⟩ (Sub.refl _) ?_ ?_
  · ((conv => whnf); (repeat ((first | with_reducible (first | refine zT rfl ?_ | refine zF rfl ?_ | refine zY rfl ?_) | refine zY (by decide) ?_ | refine zN (by decide) ?_ | with_reducible refine zQ ?_); (conv => whnf))))
    (repeat' first | with_reducible exact EnvLe.refl _ | (refine EnvLe.node ?_ (by first | exact Or.inl rfl | exact Or.inr (Or.inl rfl) | exact Or.inr (Or.inr ⟨nofun, VLe.slice _ _ _⟩)) ?_))
  rintro ⟨i, tk, σa⟩ ⟨hi, ho⟩
  dsimp only at hi ho ⊢
  by_cases h : i < m.length
  · ((conv => whnf); (repeat ((first | with_reducible (first | refine zT rfl ?_ | refine zF rfl ?_ | refine zY rfl ?_) | refine zY (by decide) ?_ | refine zN (by decide) ?_ | with_reducible refine zQ ?_); (conv => whnf))))
    (repeat ((first | refine aload (by (repeat (first | with_reducible exact upd_same _ _ _ | assumption | rw [upd_ne _ _ (by first | assumption | (apply Ne.symm; assumption))]))) rfl ?_ | refine afit_i64 (by omega) ?_ | refine arem_nonneg (by omega) (by omega) ?_ | refine adiv_i64 (by omega) (by omega) ?_ | refine abr_yes (by omega) ?_ | refine abr_no (by omega) ?_ | refine amin ?_ | refine amax ?_ | refine afit_u64 (by omega) ?_ | refine afit_u8 (by omega) ?_ | rw [List.length_map]); ((conv => whnf); (repeat ((first | with_reducible (first | refine zT rfl ?_ | refine zF rfl ?_ | refine zY rfl ?_) | refine zY (by decide) ?_ | refine zN (by decide) ?_ | with_reducible refine zQ ?_); (conv => whnf))))))
    refine aget (by omega) (get_lists h) ?_
    ((conv => whnf); (repeat ((first | with_reducible (first | refine zT rfl ?_ | refine zF rfl ?_ | refine zY rfl ?_) | refine zY (by decide) ?_ | refine zN (by decide) ?_ | with_reducible refine zQ ?_); (conv => whnf))))
    refine acell rfl ?_
    ((conv => whnf); (repeat ((first | with_reducible (first | refine zT rfl ?_ | refine zF rfl ?_ | refine zY rfl ?_) | refine zY (by decide) ?_ | refine zN (by decide) ?_ | with_reducible refine zQ ?_); (conv => whnf))))
    rw [List.length_map]
    refine aapp_sub (ys := [i64v m[i].length]) ho (Sub.refl _) (by rw [List.length_map, List.length_map, List.length_take]; show (_ + 1) * 8 ≤ _; omega) fun tk2 σ3 σ4 ho2 hs2 => ?_
    rw [show List.map i64v ((m.take i).map fun f => (f.length : Int)) ++ [i64v m[i].length] = List.map i64v ((m.take (i + 1)).map fun f => (f.length : Int)) by rw [List.take_add_one, List.getElem?_eq_getElem h, List.map_append, List.map_append]; rfl]
    ((conv => whnf); (repeat ((first | with_reducible (first | refine zT rfl ?_ | refine zF rfl ?_ | refine zY rfl ?_) | refine zY (by decide) ?_ | refine zN (by decide) ?_ | with_reducible refine zQ ?_); (conv => whnf))))
    (repeat ((first | refine aload (by (repeat (first | with_reducible exact upd_same _ _ _ | assumption | rw [upd_ne _ _ (by first | assumption | (apply Ne.symm; assumption))]))) rfl ?_ | refine afit_i64 (by omega) ?_ | refine arem_nonneg (by omega) (by omega) ?_ | refine adiv_i64 (by omega) (by omega) ?_ | refine abr_yes (by omega) ?_ | refine abr_no (by omega) ?_ | refine amin ?_ | refine amax ?_ | refine afit_u64 (by omega) ?_ | refine afit_u8 (by omega) ?_ | rw [List.length_map]); ((conv => whnf); (repeat ((first | with_reducible (first | refine zT rfl ?_ | refine zF rfl ?_ | refine zY rfl ?_) | refine zY (by decide) ?_ | refine zN (by decide) ?_ | with_reducible refine zQ ?_); (conv => whnf))))))
    refine ⟨(i + 1, tk2, σ4), ⟨h, ho2⟩, by dsimp only; omega, hs2, ?_⟩
    ((conv => whnf); (repeat ((first | with_reducible (first | refine zT rfl ?_ | refine zF rfl ?_ | refine zY rfl ?_) | refine zY (by decide) ?_ | refine zN (by decide) ?_ | with_reducible refine zQ ?_); (conv => whnf))))
    (repeat' first | with_reducible exact EnvLe.refl _ | (refine EnvLe.node ?_ (by first | exact Or.inl rfl | exact Or.inr (Or.inl rfl) | exact Or.inr (Or.inr ⟨nofun, VLe.slice _ _ _⟩)) ?_))
  · rw [List.take_of_length_le (by omega)]
    ((conv => whnf); (repeat ((first | with_reducible (first | refine zT rfl ?_ | refine zF rfl ?_ | refine zY rfl ?_) | refine zY (by decide) ?_ | refine zN (by decide) ?_ | with_reducible refine zQ ?_); (conv => whnf))))
    (repeat ((first | refine aload (by (repeat (first | with_reducible exact upd_same _ _ _ | assumption | rw [upd_ne _ _ (by first | assumption | (apply Ne.symm; assumption))]))) rfl ?_ | refine afit_i64 (by omega) ?_ | refine arem_nonneg (by omega) (by omega) ?_ | refine adiv_i64 (by omega) (by omega) ?_ | refine abr_yes (by omega) ?_ | refine abr_no (by omega) ?_ | refine amin ?_ | refine amax ?_ | refine afit_u64 (by omega) ?_ | refine afit_u8 (by omega) ?_ | rw [List.length_map]); ((conv => whnf); (repeat ((first | with_reducible (first | refine zT rfl ?_ | refine zF rfl ?_ | refine zY rfl ?_) | refine zY (by decide) ?_ | refine zN (by decide) ?_ | with_reducible refine zQ ?_); (conv => whnf))))))
    exact aret_sl ho.sub ⟨by rw [hle], rfl⟩

def zeros (w : Int) : Nat := if w = 10 then 3 else 0
def umMore (l : List (List UInt8)) : Bool := decide (l.length > 1)
def umBits (fi sn : Int) (l : List (List UInt8)) (w : Int) : List Bool := numBits 0 (zeros w) ++ numBits fi.toNat 2 ++ [umMore l] ++ numBits sn.toNat w.toNat
def tailB (l : List (List UInt8)) (W : Int) : List UInt8 := (if l.length > 1 then writeBytes (lensOf l) W else []) ++ l.flatten
def umCode (fi sn : Int) (l : List (List UInt8)) (w : Int) : Int := if umWidth w = false then 9 else if umSize fi sn l w > 0 then 0 else 3
def umWrite (fi sn : Int) (l : List (List UInt8)) (w : Int) : List UInt8 := if umCode fi sn l w = 0 then pack (umBits fi sn l w) ++ tailB l 11 else []

structure FieldsOk (l : List (List UInt8)) (h w : Int) : Prop where
  one : 1 ≤ l.length
  most : l.length ≤ 24
  each : ∀ i, (hi : i < l.length) → 1 ≤ l[i].length ∧ (i + 1 < l.length → l[i].length ≤ 2047)
  fits : h + sizeV ((l.length : Int) - 1) w + (total l : Int) ≤ 4000
theorem fieldsV_ok {l : List (List UInt8)} {h w : Int} (k : fieldsV l h w > 0) : FieldsOk l h w := by
  unfold fieldsV at k
  split at k
  · omega
  · rename_i h1
    split at k
    · omega
    · rename_i h2
      split at k
      · omega
      · rename_i h3
        refine ⟨by omega, by omega, fun i hi => ?_, by omega⟩
        have hb : fieldBad l i = false := Bool.eq_false_iff.2 fun hb => h2 (fieldsBad_of hi hb)
        rw [fieldBad_get hi] at hb
        have := of_decide_eq_false hb
        omega
theorem umSize_ok {fi sn : Int} {l : List (List UInt8)} {w : Int} (k : umSize fi sn l w > 0) : (w = 5 ∨ w = 10) ∧ 0 ≤ fi ∧ fi ≤ 3 ∧ (0 ≤ sn ∧ sn < ((2 ^ w.toNat : Nat) : Int)) ∧ fieldsV l (w / 5) 11 > 0 := by
  unfold umSize at k
  split at k
  · omega
  · rename_i h
    have h1 : umWidth w = true := by
      cases e : umWidth w with
      | true => rfl
      | false => exact absurd (.inl e) h
    have h2 : isNum w sn = true := by
      cases e : isNum w sn with
      | true => rfl
      | false => exact absurd (.inr (.inr (.inr e))) h
    have hw := umWidth_iff.1 h1
    have h3 := of_decide_eq_true h2
    have h4 : spaceSize w = ((2 ^ w.toNat : Nat) : Int) := by unfold spaceSize; rw [if_pos (by unfold spaceOk; omega)]
    rw [h4] at h3
    exact ⟨hw, Classical.byContradiction fun k2 => h (.inr (.inl (by omega))), Classical.byContradiction fun k2 => h (.inr (.inr (.inl (by omega)))), h3, k⟩
theorem lensOf_code {l : List (List UInt8)} {h w : Int} {W : Int} (hW : W = 11 ∨ W = 15) (k : FieldsOk l h w) (h2 : 1 < l.length) : writeCode (lensOf l) W = 0 := by
  have h24 := k.most
  have hlen := lensOf_length l
  unfold writeCode
  rw [widthOk_iff.2 hW, if_neg (by simp), if_neg (by omega), if_neg (by omega), if_neg]
  intro hb
  obtain ⟨x, hx, hbad⟩ := List.any_eq_true.1 hb
  unfold lensOf at hx
  obtain ⟨f, hf, rfl⟩ := List.mem_map.1 hx
  obtain ⟨i, hi, rfl⟩ := List.getElem_of_mem hf
  rw [List.length_take] at hi
  have he := k.each i (by omega)
  have := of_decide_eq_true hbad
  rw [List.getElem_take] at this
  have hp : 2 ^ 11 ≤ 2 ^ W.toNat := Nat.pow_le_pow_right (by omega) (by omega)
  generalize 2 ^ W.toNat = q at *
  omega

set_option maxRecDepth 20000 in
theorem uWrite (fi sn : Int) (l : List (List UInt8)) (w : Int) (σ : AHeap) : ACalls Try.prog i_umd_Write [pkV fi sn l, i64v w] σ fun v σ' => v = .tup [sl .none (umWrite fi sn l w), i64v (umCode fi sn l w)] ∧ σ' = σ := by
  refine k_umd_Write rfl ?_
  ((conv => whnf); (repeat ((first | with_reducible (first | refine zT rfl ?_ | refine zF rfl ?_ | refine zY rfl ?_) | refine zY (by decide) ?_ | refine zN (by decide) ?_ | with_reducible refine zQ ?_); (conv => whnf))))
  refine anew rfl fun id hid => ?_
  have hs : Sub (upd σ id (.cells (pkV fi sn l).cells)) σ := Sub.upd_fresh _ hid
  ((conv => whnf); (repeat ((first | with_reducible (first | refine zT rfl ?_ | refine zF rfl ?_ | refine zY rfl ?_) | refine zY (by decide) ?_ | refine zN (by decide) ?_ | with_reducible refine zQ ?_); (conv => whnf))))
  refine acall (uIsWidth w _) ?_
  rintro _ σ_ ⟨rfl, e_⟩
  obtain rfl := e_.symm
  refine ⟨?_, Ext.refl _⟩
  ((conv => whnf); (repeat ((first | with_reducible (first | refine zT rfl ?_ | refine zF rfl ?_ | refine zY rfl ?_) | refine zY (by decide) ?_ | refine zN (by decide) ?_ | with_reducible refine zQ ?_); (conv => whnf))))
  by_cases hw : umWidth w = true
  · rw [hw]
    ((conv => whnf); (repeat ((first | with_reducible (first | refine zT rfl ?_ | refine zF rfl ?_ | refine zY rfl ?_) | refine zY (by decide) ?_ | refine zN (by decide) ?_ | with_reducible refine zQ ?_); (conv => whnf))))
    refine aloads (l := [i64v fi, i64v sn, lists .none l]) (upd_same _ _ _) (by exact Nat.le_refl 3) rfl ?_
    ((conv => whnf); (repeat ((first | with_reducible (first | refine zT rfl ?_ | refine zF rfl ?_ | refine zY rfl ?_) | refine zY (by decide) ?_ | refine zN (by decide) ?_ | with_reducible refine zQ ?_); (conv => whnf))))
    refine acall (uRight fi sn l w _) ?_
    rintro _ σ_ ⟨rfl, e_⟩
    obtain rfl := e_.symm
    refine ⟨?_, Ext.refl _⟩
    ((conv => whnf); (repeat ((first | with_reducible (first | refine zT rfl ?_ | refine zF rfl ?_ | refine zY rfl ?_) | refine zY (by decide) ?_ | refine zN (by decide) ?_ | with_reducible refine zQ ?_); (conv => whnf))))
    by_cases hr : umSize fi sn l w > 0
    · refine abr_false (by rw [decide_eq_true hr]; rfl) ?_
      have hc : umCode fi sn l w = 0 := by unfold umCode; rw [hw, if_neg (by simp), if_pos hr]
      obtain ⟨hw2, hf1, hf2, hsn, hfv⟩ := umSize_ok hr
      have hfo := fieldsV_ok hfv
      have g1 := hfo.one
      have g2 := hfo.most
      have g3 := hfo.fits
      have gs := sizeV_range ((l.length : Int) - 1) 11
      have hz : zeros w ≤ 3 := by unfold zeros; split <;> omega
      have hz2 : (8 : Int) * (w / 5) - 3 - w = ((zeros w : Nat) : Int) := by
        unfold zeros
        rcases hw2 with rfl | rfl
        · rfl
        · rfl
      obtain ⟨f, rfl⟩ : ∃ f : Nat, fi = f := ⟨fi.toNat, by omega⟩
      obtain ⟨m, rfl⟩ : ∃ m : Nat, sn = m := ⟨sn.toNat, by omega⟩
      obtain ⟨W, rfl⟩ : ∃ W : Nat, w = W := ⟨w.toNat, by omega⟩
      rw [Int.toNat_natCast] at hsn
      have hsn2 : m < 2 ^ W := by
        have := hsn.2
        generalize 2 ^ W = q at *
        omega
      have hpow : 2 ^ W ≤ 2 ^ 10 := Nat.pow_le_pow_right (by omega) (by omega)
      have hmore : min ((l.length : Int) - 1) 1 = (((umMore l).toNat : Nat) : Int) := by
        unfold umMore
        by_cases h : l.length > 1
        · rw [decide_eq_true h, show (Bool.toNat true) = 1 from rfl]; omega
        · rw [decide_eq_false h, show (Bool.toNat false) = 0 from rfl]; omega
      ((conv => whnf); (repeat ((first | with_reducible (first | refine zT rfl ?_ | refine zF rfl ?_ | refine zY rfl ?_) | refine zY (by decide) ?_ | refine zN (by decide) ?_ | with_reducible refine zQ ?_); (conv => whnf))))
      refine acall (wNew _) ?_
      rintro _ σ1 ⟨iw, rfl, w1⟩
      refine ⟨?_, w1.ext⟩
      ((conv => whnf); (repeat ((first | with_reducible (first | refine zT rfl ?_ | refine zF rfl ?_ | refine zY rfl ?_) | refine zY (by decide) ?_ | refine zN (by decide) ?_ | with_reducible refine zQ ?_); (conv => whnf))))
      refine aload (w1.sub _ _ (upd_same _ _ _)) rfl ?_
      ((conv => whnf); (repeat ((first | with_reducible (first | refine zT rfl ?_ | refine zF rfl ?_ | refine zY rfl ?_) | refine zY (by decide) ?_ | refine zN (by decide) ?_ | with_reducible refine zQ ?_); (conv => whnf))))
      (repeat ((first | refine aload (by (repeat (first | with_reducible exact upd_same _ _ _ | assumption | rw [upd_ne _ _ (by first | assumption | (apply Ne.symm; assumption))]))) rfl ?_ | refine afit_i64 (by omega) ?_ | refine arem_nonneg (by omega) (by omega) ?_ | refine adiv_i64 (by omega) (by omega) ?_ | refine abr_yes (by omega) ?_ | refine abr_no (by omega) ?_ | refine amin ?_ | refine amax ?_ | refine afit_u64 (by omega) ?_ | refine afit_u8 (by omega) ?_ | rw [List.length_map]); ((conv => whnf); (repeat ((first | with_reducible (first | refine zT rfl ?_ | refine zF rfl ?_ | refine zY rfl ?_) | refine zY (by decide) ?_ | refine zN (by decide) ?_ | with_reducible refine zQ ?_); (conv => whnf))))))
      rw [hmore]
      refine acall (uHead (W : Int) _ (by omega)) ?_
      rintro _ σ_ ⟨rfl, e_⟩
      obtain rfl := e_.symm
      refine ⟨?_, Ext.refl _⟩
      ((conv => whnf); (repeat ((first | with_reducible (first | refine zT rfl ?_ | refine zF rfl ?_ | refine zY rfl ?_) | refine zY (by decide) ?_ | refine zN (by decide) ?_ | with_reducible refine zQ ?_); (conv => whnf))))
      (repeat ((first | refine aload (by (repeat (first | with_reducible exact upd_same _ _ _ | assumption | rw [upd_ne _ _ (by first | assumption | (apply Ne.symm; assumption))]))) rfl ?_ | refine afit_i64 (by omega) ?_ | refine arem_nonneg (by omega) (by omega) ?_ | refine adiv_i64 (by omega) (by omega) ?_ | refine abr_yes (by omega) ?_ | refine abr_no (by omega) ?_ | refine amin ?_ | refine amax ?_ | refine afit_u64 (by omega) ?_ | refine afit_u8 (by omega) ?_ | rw [List.length_map]); ((conv => whnf); (repeat ((first | with_reducible (first | refine zT rfl ?_ | refine zF rfl ?_ | refine zY rfl ?_) | refine zY (by decide) ?_ | refine zN (by decide) ?_ | with_reducible refine zQ ?_); (conv => whnf))))))
      rw [hz2]
      refine acall (wPut iw [] 0 ((zeros (W : Int) : Nat) : Int) _ _ w1 (by omega) (by simp)) ?_
      rintro _ σ2 ⟨rfl, w2⟩
      rw [(put_num [] 0 (zeros (W : Int)) (by simp; omega) (by omega) (Nat.pow_pos (by omega))).2, List.nil_append] at w2
      ((conv => whnf); (repeat ((first | with_reducible (first | refine zT rfl ?_ | refine zF rfl ?_ | refine zY rfl ?_) | refine zY (by decide) ?_ | refine zN (by decide) ?_ | with_reducible refine zQ ?_); (conv => whnf))))
      refine aload (w2.sub _ _ (upd_same _ _ _)) rfl ?_
      ((conv => whnf); (repeat ((first | with_reducible (first | refine zT rfl ?_ | refine zF rfl ?_ | refine zY rfl ?_) | refine zY (by decide) ?_ | refine zN (by decide) ?_ | with_reducible refine zQ ?_); (conv => whnf))))
      (repeat ((first | refine aload (by (repeat (first | with_reducible exact upd_same _ _ _ | assumption | rw [upd_ne _ _ (by first | assumption | (apply Ne.symm; assumption))]))) rfl ?_ | refine afit_i64 (by omega) ?_ | refine arem_nonneg (by omega) (by omega) ?_ | refine adiv_i64 (by omega) (by omega) ?_ | refine abr_yes (by omega) ?_ | refine abr_no (by omega) ?_ | refine amin ?_ | refine amax ?_ | refine afit_u64 (by omega) ?_ | refine afit_u8 (by omega) ?_ | rw [List.length_map]); ((conv => whnf); (repeat ((first | with_reducible (first | refine zT rfl ?_ | refine zF rfl ?_ | refine zY rfl ?_) | refine zY (by decide) ?_ | refine zN (by decide) ?_ | with_reducible refine zQ ?_); (conv => whnf))))))
      refine acall (wPut iw _ f ((2 : Nat) : Int) _ _ w2 (by omega) (by rw [numBits_length]; omega)) ?_
      rintro _ σ3 ⟨rfl, w3⟩
      rw [(put_num _ f 2 (by rw [numBits_length]; omega) (by omega) (by omega)).2] at w3
      ((conv => whnf); (repeat ((first | with_reducible (first | refine zT rfl ?_ | refine zF rfl ?_ | refine zY rfl ?_) | refine zY (by decide) ?_ | refine zN (by decide) ?_ | with_reducible refine zQ ?_); (conv => whnf))))
      refine acall (wPut iw _ (umMore l).toNat 1 _ _ w3 (by cases umMore l <;> decide) (by rw [List.length_append, numBits_length, numBits_length]; omega)) ?_
      rintro _ σ4 ⟨rfl, w4⟩
      rw [(put_bit _ (umMore l) (by rw [List.length_append, numBits_length, numBits_length]; omega)).2] at w4
      ((conv => whnf); (repeat ((first | with_reducible (first | refine zT rfl ?_ | refine zF rfl ?_ | refine zY rfl ?_) | refine zY (by decide) ?_ | refine zN (by decide) ?_ | with_reducible refine zQ ?_); (conv => whnf))))
      refine aload (w4.sub _ _ (upd_same _ _ _)) rfl ?_
      ((conv => whnf); (repeat ((first | with_reducible (first | refine zT rfl ?_ | refine zF rfl ?_ | refine zY rfl ?_) | refine zY (by decide) ?_ | refine zN (by decide) ?_ | with_reducible refine zQ ?_); (conv => whnf))))
      (repeat ((first | refine aload (by (repeat (first | with_reducible exact upd_same _ _ _ | assumption | rw [upd_ne _ _ (by first | assumption | (apply Ne.symm; assumption))]))) rfl ?_ | refine afit_i64 (by omega) ?_ | refine arem_nonneg (by omega) (by omega) ?_ | refine adiv_i64 (by omega) (by omega) ?_ | refine abr_yes (by omega) ?_ | refine abr_no (by omega) ?_ | refine amin ?_ | refine amax ?_ | refine afit_u64 (by omega) ?_ | refine afit_u8 (by omega) ?_ | rw [List.length_map]); ((conv => whnf); (repeat ((first | with_reducible (first | refine zT rfl ?_ | refine zF rfl ?_ | refine zY rfl ?_) | refine zY (by decide) ?_ | refine zN (by decide) ?_ | with_reducible refine zQ ?_); (conv => whnf))))))
      refine acall (wPut iw _ m ((W : Nat) : Int) _ _ w4 (by omega) (by rw [List.length_append, List.length_append, numBits_length, numBits_length]; show _ + 1 ≤ _; omega)) ?_
      rintro _ σ5 ⟨rfl, w5⟩
      rw [(put_num _ m W (by rw [List.length_append, List.length_append, numBits_length, numBits_length]; show _ + 1 + _ ≤ _; omega) (by omega) hsn2).2] at w5
      have hbits : numBits 0 (zeros (W : Int)) ++ numBits f 2 ++ [umMore l] ++ numBits m W = umBits (f : Int) (m : Int) l (W : Int) := by unfold umBits; rw [Int.toNat_natCast, Int.toNat_natCast, Int.toNat_natCast]
      rw [hbits] at w5
      have hbl : (umBits (f : Int) (m : Int) l (W : Int)).length ≤ 16 := by rw [← hbits, List.length_append, List.length_append, List.length_append, numBits_length, numBits_length, numBits_length]; show _ + 1 + _ ≤ _; omega
      have hpl := pack_length (umBits (f : Int) (m : Int) l (W : Int))
      ((conv => whnf); (repeat ((first | with_reducible (first | refine zT rfl ?_ | refine zF rfl ?_ | refine zY rfl ?_) | refine zY (by decide) ?_ | refine zN (by decide) ?_ | with_reducible refine zQ ?_); (conv => whnf))))
      refine acall (wBytesO iw _ _ _ w5 (by omega)) ?_
      rintro _ σ6 ⟨tk, ho, rfl⟩
      refine ⟨?_, ho.ext⟩
      have hsub : Sub σ6 σ := ho.sub.trans (w5.sub.trans hs)
      have hcell : σ6 id = some (.cells (pkV (f : Int) (m : Int) l).cells) := ho.same_of (w5.sub _ _ (upd_same _ _ _))
      obtain ⟨σ7, ho7, hs7⟩ := Owned.less ho w5.sub
      ((conv => whnf); (repeat ((first | with_reducible (first | refine zT rfl ?_ | refine zF rfl ?_ | refine zY rfl ?_) | refine zY (by decide) ?_ | refine zN (by decide) ?_ | with_reducible refine zQ ?_); (conv => whnf))))
      cases hm : umMore l with
      | true =>
        have h2 : l.length > 1 := of_decide_eq_true hm
        have hlc := lensOf_code (W := 11) (.inl rfl) hfo h2
        have hwl : (writeBytes (lensOf l) 11).length ≤ 100 := by
          unfold writeBytes
          rw [if_pos hlc, pack_length, lenBits_length, lensOf_length]
          show ((l.length - 1) * (11 + 1) + 7) / 8 ≤ 100
          omega
        ((conv => whnf); (repeat ((first | with_reducible (first | refine zT rfl ?_ | refine zF rfl ?_ | refine zY rfl ?_) | refine zY (by decide) ?_ | refine zN (by decide) ?_ | with_reducible refine zQ ?_); (conv => whnf))))
        (repeat ((first | refine aload (by (repeat (first | with_reducible exact upd_same _ _ _ | assumption | rw [upd_ne _ _ (by first | assumption | (apply Ne.symm; assumption))]))) rfl ?_ | refine afit_i64 (by omega) ?_ | refine arem_nonneg (by omega) (by omega) ?_ | refine adiv_i64 (by omega) (by omega) ?_ | refine abr_yes (by omega) ?_ | refine abr_no (by omega) ?_ | refine amin ?_ | refine amax ?_ | refine afit_u64 (by omega) ?_ | refine afit_u8 (by omega) ?_ | rw [List.length_map]); ((conv => whnf); (repeat ((first | with_reducible (first | refine zT rfl ?_ | refine zF rfl ?_ | refine zY rfl ?_) | refine zY (by decide) ?_ | refine zN (by decide) ?_ | with_reducible refine zQ ?_); (conv => whnf))))))
        refine acall (uLengths l .none _ g1 (by omega)) ?_
        rintro _ σ_ ⟨rfl, e_⟩
        obtain rfl := e_.symm
        refine ⟨?_, Ext.refl _⟩
        ((conv => whnf); (repeat ((first | with_reducible (first | refine zT rfl ?_ | refine zF rfl ?_ | refine zY rfl ?_) | refine zY (by decide) ?_ | refine zN (by decide) ?_ | with_reducible refine zQ ?_); (conv => whnf))))
        refine acall (lWrite (lensOf l) .none 11 _ (by rw [lensOf_length]; omega)) ?_
        rintro _ σ_ ⟨rfl, e_⟩
        obtain rfl := e_.symm
        refine ⟨?_, Ext.refl _⟩
        ((conv => whnf); (repeat ((first | with_reducible (first | refine zT rfl ?_ | refine zF rfl ?_ | refine zY rfl ?_) | refine zY (by decide) ?_ | refine zN (by decide) ?_ | with_reducible refine zQ ?_); (conv => whnf))))
        rw [hlc]
        ((conv => whnf); (repeat ((first | with_reducible (first | refine zT rfl ?_ | refine zF rfl ?_ | refine zY rfl ?_) | refine zY (by decide) ?_ | refine zN (by decide) ?_ | with_reducible refine zQ ?_); (conv => whnf))))
        refine aapp_sub ho7 hs7 (by rw [List.length_map, List.length_map]; omega) fun tk2 σ8 σ9 ho2 hs2 => ?_
        rw [← List.map_append]
        ((conv => whnf); (repeat ((first | with_reducible (first | refine zT rfl ?_ | refine zF rfl ?_ | refine zY rfl ?_) | refine zY (by decide) ?_ | refine zN (by decide) ?_ | with_reducible refine zQ ?_); (conv => whnf))))
        refine aload (hs2 _ _ (ho2.same_of (upd_same _ _ _))) rfl ?_
        ((conv => whnf); (repeat ((first | with_reducible (first | refine zT rfl ?_ | refine zF rfl ?_ | refine zY rfl ?_) | refine zY (by decide) ?_ | refine zN (by decide) ?_ | with_reducible refine zQ ?_); (conv => whnf))))
        refine acall (Join l .none .full _ (by omega) (show total l ≤ _ by omega)) ?_
        rintro _ σ_ ⟨rfl, e_⟩
        obtain rfl := e_.symm
        refine ⟨?_, Ext.refl _⟩
        ((conv => whnf); (repeat ((first | with_reducible (first | refine zT rfl ?_ | refine zF rfl ?_ | refine zY rfl ?_) | refine zY (by decide) ?_ | refine zN (by decide) ?_ | with_reducible refine zQ ?_); (conv => whnf))))
        refine aapp_sub ho2 hs2 (by rw [List.length_map, List.length_map, List.length_append]; show (_ + total l) * 1 ≤ _; omega) fun tk3 σ10 σ11 ho3 hs3 => ?_
        rw [← List.map_append]
        ((conv => whnf); (repeat ((first | with_reducible (first | refine zT rfl ?_ | refine zF rfl ?_ | refine zY rfl ?_) | refine zY (by decide) ?_ | refine zN (by decide) ?_ | with_reducible refine zQ ?_); (conv => whnf))))
        refine aret_sl1 ((hs3.trans ho3.sub).trans hs) ⟨?_, rfl⟩
        unfold umWrite tailB
        rw [hc, if_pos rfl, if_pos h2, List.append_assoc]
      | false =>
        have h2 : ¬ l.length > 1 := of_decide_eq_false hm
        ((conv => whnf); (repeat ((first | with_reducible (first | refine zT rfl ?_ | refine zF rfl ?_ | refine zY rfl ?_) | refine zY (by decide) ?_ | refine zN (by decide) ?_ | with_reducible refine zQ ?_); (conv => whnf))))
        (repeat ((first | refine aload (by (repeat (first | with_reducible exact upd_same _ _ _ | assumption | rw [upd_ne _ _ (by first | assumption | (apply Ne.symm; assumption))]))) rfl ?_ | refine afit_i64 (by omega) ?_ | refine arem_nonneg (by omega) (by omega) ?_ | refine adiv_i64 (by omega) (by omega) ?_ | refine abr_yes (by omega) ?_ | refine abr_no (by omega) ?_ | refine amin ?_ | refine amax ?_ | refine afit_u64 (by omega) ?_ | refine afit_u8 (by omega) ?_ | rw [List.length_map]); ((conv => whnf); (repeat ((first | with_reducible (first | refine zT rfl ?_ | refine zF rfl ?_ | refine zY rfl ?_) | refine zY (by decide) ?_ | refine zN (by decide) ?_ | with_reducible refine zQ ?_); (conv => whnf))))))
        refine acall (Join l .none .full _ (by omega) (show total l ≤ _ by omega)) ?_
        rintro _ σ_ ⟨rfl, e_⟩
        obtain rfl := e_.symm
        refine ⟨?_, Ext.refl _⟩
        ((conv => whnf); (repeat ((first | with_reducible (first | refine zT rfl ?_ | refine zF rfl ?_ | refine zY rfl ?_) | refine zY (by decide) ?_ | refine zN (by decide) ?_ | with_reducible refine zQ ?_); (conv => whnf))))
        refine aapp_sub ho7 hs7 (by rw [List.length_map, List.length_map]; show (_ + total l) * 1 ≤ _; omega) fun tk2 σ8 σ9 ho2 hs2 => ?_
        rw [← List.map_append]
        ((conv => whnf); (repeat ((first | with_reducible (first | refine zT rfl ?_ | refine zF rfl ?_ | refine zY rfl ?_) | refine zY (by decide) ?_ | refine zN (by decide) ?_ | with_reducible refine zQ ?_); (conv => whnf))))
        refine aret_sl1 ((hs2.trans ho2.sub).trans hs) ⟨?_, rfl⟩
        unfold umWrite tailB
        rw [hc, if_pos rfl, if_neg h2, List.nil_append]
    · refine abr_true (by rw [decide_eq_false hr]; rfl) ?_
      ((conv => whnf); (repeat ((first | with_reducible (first | refine zT rfl ?_ | refine zF rfl ?_ | refine zY rfl ?_) | refine zY (by decide) ?_ | refine zN (by decide) ?_ | with_reducible refine zQ ?_); (conv => whnf))))
      have hc : umCode fi sn l w = 3 := by unfold umCode; rw [hw, if_neg (by simp), if_neg hr]
      exact aret_sl1 hs ⟨by unfold umWrite; rw [hc]; rfl, rfl⟩
  · rw [Bool.eq_false_iff.2 hw]
    ((conv => whnf); (repeat ((first | with_reducible (first | refine zT rfl ?_ | refine zF rfl ?_ | refine zY rfl ?_) | refine zY (by decide) ?_ | refine zN (by decide) ?_ | with_reducible refine zQ ?_); (conv => whnf))))
    have hc : umCode fi sn l w = 9 := by unfold umCode; rw [if_pos (Bool.eq_false_iff.2 hw)]
    exact aret_sl1 hs ⟨by unfold umWrite; rw [hc]; rfl, rfl⟩
end Go.Proofs.Ytgipkpghabelkaa
/-
  What lengths bits begin with: plain laws.
-/
namespace Go.Proofs.Ytgipkpghabelkaa
set_option linter.unusedVariables false
set_option linter.unusedSimpArgs false
open Go Go.Am

def rdLens (x : List Bool) (W : Nat) : Nat → List Int → Nat → List Int × Int × Int
  | 0, _, _ => ([], 0, 2)
  | f + 1, out, k =>
    if x.length < k + (W + 1) then ([], 0, 8)
    else if val 0 ((x.drop (k + 1)).take W) = 0 then ([], 0, 3)
    else if bitD x k = true then (if f = 0 then ([], 0, 2) else rdLens x W f (out ++ [((val 0 ((x.drop (k + 1)).take W) : Nat) : Int)]) (k + (W + 1)))
    else if restOk x (k + (W + 1)) = true then (out ++ [((val 0 ((x.drop (k + 1)).take W) : Nat) : Int)], ((k + (W + 1) + 7) / 8 : Nat), 0) else ([], 0, 3)

theorem bitD_take {l : List Bool} {i M : Nat} (h : i < M) : bitD (l.take M) i = bitD l i := by unfold bitD; rw [List.getElem?_take_of_lt h]
theorem restOk_take {l : List Bool} {k M : Nat} (hk : k ≤ M) (h8 : M % 8 = 0) : restOk (l.take M) k = restOk l k := by
  unfold restOk
  have hp : k + pad k ≤ M := by unfold pad; omega
  rw [List.drop_take, List.take_take, Nat.min_eq_left (by omega)]
theorem rdLens_take (x : List Bool) (W M : Nat) (h8 : M % 8 = 0) : ∀ (f : Nat) (out : List Int) (k : Nat), k + f * (W + 1) ≤ M → rdLens (x.take M) W f out k = rdLens x W f out k
  | 0, _, _, _ => rfl
  | f + 1, out, k, h => by
    rw [Nat.succ_mul] at h
    simp only [rdLens]
    rw [rdLens_take x W M h8 f _ (k + (W + 1)) (by omega), bitD_take (by omega), restOk_take (by omega) h8]
    rw [List.drop_take, List.take_take, Nat.min_eq_left (by omega), List.length_take]
    have e : (min M x.length < k + (W + 1)) ↔ (x.length < k + (W + 1)) := by omega
    by_cases hx : x.length < k + (W + 1)
    · rw [if_pos (e.2 hx), if_pos hx]
    · rw [if_neg (fun h => hx (e.1 h)), if_neg hx]

def readV (b : List UInt8) (w : Int) : List Int × Int × Int := if widthOk w = false then ([], 0, 9) else rdLens (unpack b) w.toNat 23 [] 0
abbrev rdRes (r : List Int × Int × Int) : AVal := .tup [ints .none r.1, i64v r.2.1, i64v r.2.2]

theorem rdLens_len (x : List Bool) (W : Nat) : ∀ (f : Nat) (out : List Int) (k : Nat), out.length + f ≤ 23 → (rdLens x W f out k).1.length ≤ 23
  | 0, _, _, _ => by simp [rdLens]
  | f + 1, out, k, h => by
    simp only [rdLens]
    split
    · simp
    · split
      · simp
      · split
        · split
          · simp
          · exact rdLens_len x W f _ _ (by rw [List.length_append]; show _ + 1 + f ≤ 23; omega)
        · split
          · rw [List.length_append]; show _ + 1 ≤ 23; omega
          · simp
theorem readV_len (b : List UInt8) (w : Int) : (readV b w).1.length ≤ 23 := by
  unfold readV; split
  · simp
  · exact rdLens_len _ _ 23 [] 0 (by simp)

theorem take_one {x : List Bool} {k : Nat} (h : k < x.length) : val 0 ((x.drop k).take 1) = (bitD x k).toNat := by
  rw [List.drop_eq_getElem_cons h, List.take_succ_cons, List.take_zero]
  rw [bitD_get h]
  show 2 * 0 + _ = _
  omega
theorem sizeV_ok {n W : Nat} (hW : W = 11 ∨ W = 15) (h1 : 1 ≤ n) (h2 : n ≤ 23) : sizeV (n : Int) (W : Int) = ((n * (W + 1) + 7) / 8 : Nat) := by
  unfold sizeV
  rw [if_neg]
  · rcases hW with rfl | rfl
    · show (((n : Int) * 12 + 7) / 8) = _
      omega
    · show (((n : Int) * 16 + 7) / 8) = _
      omega
  · rw [widthOk_iff.2 (by omega)]
    rintro (h | h | h)
    · cases h
    · omega
    · omega
end Go.Proofs.Ytgipkpghabelkaa
/-
  How long fields are: what is read.
-/
namespace Go.Proofs.Ytgipkpghabelkaa
set_option linter.unusedVariables false
set_option linter.unusedSimpArgs false
open Go Go.Am

theorem owned_has {σ σb : AHeap} {tk : Tok} : Owned σb σ tk ↔ Has (fun A => Owned (fun _ => none) A tk) σ σb := by
  constructor
  · rintro (⟨rfl, rfl⟩ | ⟨t, h, rfl, rfl⟩)
    · exact ⟨_, .inl ⟨rfl, rfl⟩, fun j hj => absurd rfl hj, rfl⟩
    · refine ⟨_, .inr ⟨t, rfl, rfl, rfl⟩, ?_, ?_⟩
      · intro j hj
        by_cases e : j = t
        · subst e; exact h
        · rw [upd_ne _ _ e] at hj; exact absurd rfl hj
      · rw [join_upd, join_none]
  · rintro ⟨A, ⟨rfl, rfl⟩ | ⟨t, _, rfl, rfl⟩, hd, rfl⟩
    · exact .inl ⟨rfl, rfl⟩
    · exact .inr ⟨t, hd t (by rw [upd_same]; nofun), rfl, by rw [join_upd, join_none]⟩
theorem swap_ro {σ2 σ1 σ0 : AHeap} {j k : Nat} {b : List UInt8} {tk : Tok} (h : Rd σ2 j b k σ1) (h' : Owned σ0 σ1 tk) : ∃ σ', Owned σ' σ2 tk ∧ Rd σ' j b k σ0 := by
  obtain ⟨σ', h1, h2⟩ := (Rd.has.1 h).swap (owned_has.1 h'); exact ⟨σ', owned_has.2 h1, Rd.has.2 h2⟩
theorem swap_or {σ2 σ1 σ0 : AHeap} {j k : Nat} {b : List UInt8} {tk : Tok} (h : Owned σ1 σ2 tk) (h' : Rd σ1 j b k σ0) : ∃ σ', Rd σ2 j b k σ' ∧ Owned σ0 σ' tk := by
  obtain ⟨σ', h1, h2⟩ := (owned_has.1 h).swap (Rd.has.1 h'); exact ⟨σ', Rd.has.2 h1, owned_has.2 h2⟩

theorem getCode_short {len k : Nat} {n : Int} (h1 : 0 ≤ n ∧ n ≤ 64) (h2 : n > (len : Int) - k) : getCode len k n = 8 := by unfold getCode; rw [if_neg (by omega), if_pos h2]
theorem getCode_fine {len k : Nat} {n : Int} (h1 : 0 ≤ n ∧ n ≤ 64) (h2 : ¬ n > (len : Int) - k) : getCode len k n = 0 := by unfold getCode; rw [if_neg (by omega), if_neg h2]
theorem getVal_fine {l : List Bool} {k : Nat} {n : Int} (h : getCode l.length k n = 0) : getVal l k n = val 0 ((l.drop k).take n.toNat) := if_pos h
theorem getAt_fine {len k : Nat} {n : Int} (h : getCode len k n = 0) : getAt len k n = k + n.toNat := if_pos h

set_option maxRecDepth 10000 in
theorem lRead (b : List UInt8) (t : Tok) (w : Int) (σ : AHeap) (hl : b.length ≤ 8000) : ACalls Try.prog i_lens_Read [sl t b, i64v w] σ fun v σ' => v = rdRes (readV b w) ∧ σ' = σ := by
  refine k_lens_Read rfl ?_
  ((conv => whnf); (repeat ((first | with_reducible (first | refine zT rfl ?_ | refine zF rfl ?_ | refine zY rfl ?_) | refine zY (by decide) ?_ | refine zN (by decide) ?_ | with_reducible refine zQ ?_); (conv => whnf))))
  refine ascope' (α := Nat × List Int × Nat × Tok × AHeap × AHeap × Nat) (fun x => [(s7, ints x.2.2.2.1 x.2.1), (s8, .ptr x.2.2.2.2.2.2 0)]) (fun x => x.2.2.2.2.1) (fun _ => 0)
    (fun x => (w = 11 ∨ w = 15) ∧ x.2.1.length + (x.1 + 1) = 23 ∧ x.2.2.1 = x.2.1.length * (w.toNat + 1) ∧ rdLens (unpack (b.take ((23 * (w.toNat + 1) + 7) / 8))) w.toNat (x.1 + 1) x.2.1 x.2.2.1 = readV b w ∧
      Rd x.2.2.2.2.1 x.2.2.2.2.2.2 (b.take ((23 * (w.toNat + 1) + 7) / 8)) x.2.2.1 x.2.2.2.2.2.1 ∧ Owned σ x.2.2.2.2.2.1 x.2.2.2.1) (fun x => x.1) ?_ ?_
  · ((conv => whnf); (repeat ((first | with_reducible (first | refine zT rfl ?_ | refine zF rfl ?_ | refine zY rfl ?_) | refine zY (by decide) ?_ | refine zN (by decide) ?_ | with_reducible refine zQ ?_); (conv => whnf))))
    intro hlab
    ((conv => whnf); (repeat ((first | with_reducible (first | refine zT rfl ?_ | refine zF rfl ?_ | refine zY rfl ?_) | refine zY (by decide) ?_ | refine zN (by decide) ?_ | with_reducible refine zQ ?_); (conv => whnf))))
    refine acall (lIsWidth w _) ?_
    rintro _ σ_ ⟨rfl, e_⟩
    obtain rfl := e_.symm
    refine ⟨?_, Ext.refl _⟩
    ((conv => whnf); (repeat ((first | with_reducible (first | refine zT rfl ?_ | refine zF rfl ?_ | refine zY rfl ?_) | refine zY (by decide) ?_ | refine zN (by decide) ?_ | with_reducible refine zQ ?_); (conv => whnf))))
    by_cases hw : w = 11 ∨ w = 15
    · rw [widthOk_iff.2 hw]
      obtain ⟨W, rfl⟩ : ∃ W : Nat, w = W := ⟨w.toNat, by omega⟩
      have hW : W = 11 ∨ W = 15 := by omega
      ((conv => whnf); (repeat ((first | with_reducible (first | refine zT rfl ?_ | refine zF rfl ?_ | refine zY rfl ?_) | refine zY (by decide) ?_ | refine zN (by decide) ?_ | with_reducible refine zQ ?_); (conv => whnf))))
      rw [List.length_map]
      refine acall (lSize 23 (W : Int) _) ?_
      rintro _ σ_ ⟨rfl, e_⟩
      obtain rfl := e_.symm
      refine ⟨?_, Ext.refl _⟩
      ((conv => whnf); (repeat ((first | with_reducible (first | refine zT rfl ?_ | refine zF rfl ?_ | refine zY rfl ?_) | refine zY (by decide) ?_ | refine zN (by decide) ?_ | with_reducible refine zQ ?_); (conv => whnf))))
      rw [show sizeV 23 (W : Int) = ((23 * (W + 1) + 7) / 8 : Nat) from sizeV_ok (n := 23) hW (by omega) (by omega)]
      have hS : (23 * (W + 1) + 7) / 8 ≤ 46 := by omega
      generalize hSe : (23 * (W + 1) + 7) / 8 = S at *
      (repeat ((first | refine aload (by (repeat (first | with_reducible exact upd_same _ _ _ | assumption | rw [upd_ne _ _ (by first | assumption | (apply Ne.symm; assumption))]))) rfl ?_ | refine afit_i64 (by omega) ?_ | refine arem_nonneg (by omega) (by omega) ?_ | refine adiv_i64 (by omega) (by omega) ?_ | refine abr_yes (by omega) ?_ | refine abr_no (by omega) ?_ | refine amin ?_ | refine amax ?_ | refine afit_u64 (by omega) ?_ | refine afit_u8 (by omega) ?_ | rw [List.length_map]); ((conv => whnf); (repeat ((first | with_reducible (first | refine zT rfl ?_ | refine zF rfl ?_ | refine zY rfl ?_) | refine zY (by decide) ?_ | refine zN (by decide) ?_ | with_reducible refine zQ ?_); (conv => whnf))))))
      refine acut (by omega) (by omega) (by omega) ?_
      ((conv => whnf); (repeat ((first | with_reducible (first | refine zT rfl ?_ | refine zF rfl ?_ | refine zY rfl ?_) | refine zY (by decide) ?_ | refine zN (by decide) ?_ | with_reducible refine zQ ?_); (conv => whnf))))
      rw [show (min (b.length : Int) (S : Int)).toNat = min b.length S by omega, ← List.map_take]
      have e : b.take (min b.length S) = b.take S := by
        by_cases h : b.length ≤ S
        · rw [Nat.min_eq_left h, List.take_of_length_le (Nat.le_refl _), List.take_of_length_le h]
        · rw [Nat.min_eq_right (by omega)]
      rw [e]
      refine acall (rRead (b.take S) _ _ (by rw [List.length_take]; omega)) ?_
      rintro _ σ1 ⟨id, rfl, r1⟩
      refine ⟨?_, r1.ext⟩
      rw [List.take_of_length_le (l := b.take S) (by rw [List.length_take]; omega)] at r1
      ((conv => whnf); (repeat ((first | with_reducible (first | refine zT rfl ?_ | refine zF rfl ?_ | refine zY rfl ?_) | refine zY (by decide) ?_ | refine zN (by decide) ?_ | with_reducible refine zQ ?_); (conv => whnf))))
      refine hlab _ (fun _ _ _ h => h) _ _ _ _ ⟨(22, [], 0, .full, σ1, σ, id), rfl, ⟨hw, rfl, by simp, ?_, ?_, .full _⟩, rfl, Sub.refl _, ?_⟩
      · dsimp only
        rw [Int.toNat_natCast, hSe]
        unfold readV
        rw [widthOk_iff.2 hw, if_neg (by simp), Int.toNat_natCast]
        have := unpack_append (b.take S) (b.drop S)
        have e2 : unpack (b.take S) = (unpack b).take (8 * S) := by
          rw [List.take_append_drop] at this
          rw [this]
          have hul := unpack_length (b.take S)
          by_cases h : b.length ≤ S
          · rw [List.drop_eq_nil_of_le h, List.take_of_length_le h]
            show _ = (unpack b ++ []).take _
            rw [List.append_nil, List.take_of_length_le]
            rw [unpack_length]; omega
          · rw [List.length_take, Nat.min_eq_left (by omega)] at hul
            rw [← hul, List.take_left]
        rw [e2]
        exact rdLens_take _ W (8 * S) (by omega) 23 [] 0 (by omega)
      · dsimp only
        rw [Int.toNat_natCast, hSe]; exact r1
      · ((conv => whnf); (repeat ((first | with_reducible (first | refine zT rfl ?_ | refine zF rfl ?_ | refine zY rfl ?_) | refine zY (by decide) ?_ | refine zN (by decide) ?_ | with_reducible refine zQ ?_); (conv => whnf))))
        (repeat' first | with_reducible exact EnvLe.refl _ | (refine EnvLe.node ?_ (by first | exact Or.inl rfl | exact Or.inr (Or.inl rfl) | exact Or.inr (Or.inr ⟨nofun, VLe.slice _ _ _⟩)) ?_))
    · have hno := widthNo hw
      rw [hno]
      ((conv => whnf); (repeat ((first | with_reducible (first | refine zT rfl ?_ | refine zF rfl ?_ | refine zY rfl ?_) | refine zY (by decide) ?_ | refine zN (by decide) ?_ | with_reducible refine zQ ?_); (conv => whnf))))
      exact aret VLe.tup_sl (Sub.refl _) ⟨by unfold readV; rw [if_pos hno]; rfl, rfl⟩
  · rintro ⟨f, out, k, tk, σ2, σ1, id⟩ ⟨hw, hf, hk, hR, r2, ho⟩
    dsimp only at hw hf hk hR r2 ho ⊢
    refine ⟨_, rfl, ?_⟩
    ((conv => whnf); (repeat ((first | with_reducible (first | refine zT rfl ?_ | refine zF rfl ?_ | refine zY rfl ?_) | refine zY (by decide) ?_ | refine zN (by decide) ?_ | with_reducible refine zQ ?_); (conv => whnf))))
    intro hlab
    obtain ⟨W, rfl⟩ : ∃ W : Nat, w = W := ⟨w.toNat, by omega⟩
    have hW : W = 11 ∨ W = 15 := by omega
    rw [Int.toNat_natCast] at hk hR r2
    generalize hB : b.take ((23 * (W + 1) + 7) / 8) = B at *
    have hul := unpack_length B
    have hBl : B.length ≤ 8000 := by rw [← hB, List.length_take]; omega
    simp only [rdLens] at hR
    have sub2 : Sub σ2 σ := r2.sub.trans ho.sub
    ((conv => whnf); (repeat ((first | with_reducible (first | refine zT rfl ?_ | refine zF rfl ?_ | refine zY rfl ?_) | refine zY (by decide) ?_ | refine zN (by decide) ?_ | with_reducible refine zQ ?_); (conv => whnf))))
    by_cases h1 : k + 1 ≤ 8 * B.length
    · have c1 : getCode (8 * B.length) k 1 = 0 := getCode_fine (by omega) (by omega)
      refine acall (rGet id B k 1 _ _ r2) ?_
      rintro _ σ3 ⟨rfl, r3⟩
      rw [getAt_fine c1] at r3
      rw [c1, getVal_fine (by rw [hul]; exact c1)]
      rw [show (1 : Int).toNat = 1 from rfl] at r3 ⊢
      rw [take_one (by omega)]
      ((conv => whnf); (repeat ((first | with_reducible (first | refine zT rfl ?_ | refine zF rfl ?_ | refine zY rfl ?_) | refine zY (by decide) ?_ | refine zN (by decide) ?_ | with_reducible refine zQ ?_); (conv => whnf))))
      by_cases h2 : k + (W + 1) ≤ 8 * B.length
      · have c2 : getCode (8 * B.length) (k + 1) (W : Int) = 0 := getCode_fine (by omega) (by omega)
        refine acall (rGet id B (k + 1) (W : Int) _ _ r3) ?_
        rintro _ σ4 ⟨rfl, r4⟩
        rw [getAt_fine c2, Int.toNat_natCast, show k + 1 + W = k + (W + 1) by omega] at r4
        rw [c2, getVal_fine (by rw [hul]; exact c2), Int.toNat_natCast]
        rw [if_neg (by omega)] at hR
        have hv := val_lt (((unpack B).drop (k + 1)).take W)
        have hv2 : ((((unpack B).drop (k + 1)).take W)).length ≤ 15 := by rw [List.length_take]; omega
        have hv3 : 2 ^ ((((unpack B).drop (k + 1)).take W)).length ≤ 2 ^ 15 := Nat.pow_le_pow_right (by omega) hv2
        generalize hn : val 0 (((unpack B).drop (k + 1)).take W) = n at *
        ((conv => whnf); (repeat ((first | with_reducible (first | refine zT rfl ?_ | refine zF rfl ?_ | refine zY rfl ?_) | refine zY (by decide) ?_ | refine zN (by decide) ?_ | with_reducible refine zQ ?_); (conv => whnf))))
        by_cases h0 : n = 0
        · rw [if_pos h0] at hR
          refine abr_yes (by omega) ?_
          ((conv => whnf); (repeat ((first | with_reducible (first | refine zT rfl ?_ | refine zF rfl ?_ | refine zY rfl ?_) | refine zY (by decide) ?_ | refine zN (by decide) ?_ | with_reducible refine zQ ?_); (conv => whnf))))
          exact aret VLe.tup_sl (r4.sub.trans ho.sub) ⟨by rw [← hR]; rfl, rfl⟩
        · rw [if_neg h0] at hR
          refine abr_no (by omega) ?_
          ((conv => whnf); (repeat ((first | with_reducible (first | refine zT rfl ?_ | refine zF rfl ?_ | refine zY rfl ?_) | refine zY (by decide) ?_ | refine zN (by decide) ?_ | with_reducible refine zQ ?_); (conv => whnf))))
          (repeat ((first | refine aload (by (repeat (first | with_reducible exact upd_same _ _ _ | assumption | rw [upd_ne _ _ (by first | assumption | (apply Ne.symm; assumption))]))) rfl ?_ | refine afit_i64 (by omega) ?_ | refine arem_nonneg (by omega) (by omega) ?_ | refine adiv_i64 (by omega) (by omega) ?_ | refine abr_yes (by omega) ?_ | refine abr_no (by omega) ?_ | refine amin ?_ | refine amax ?_ | refine afit_u64 (by omega) ?_ | refine afit_u8 (by omega) ?_ | rw [List.length_map]); ((conv => whnf); (repeat ((first | with_reducible (first | refine zT rfl ?_ | refine zF rfl ?_ | refine zY rfl ?_) | refine zY (by decide) ?_ | refine zN (by decide) ?_ | with_reducible refine zQ ?_); (conv => whnf))))))
          obtain ⟨σa, hoa, ra⟩ := swap_ro r4 ho
          refine aapp_owned hoa (by rw [List.length_map]; show (out.length + 1) * 8 ≤ _; omega) fun t' tk' ho' _ => ?_
          obtain ⟨σc, r5, hoc⟩ := swap_or ho' ra
          rw [show List.map i64v out ++ [AVal.v (Value.int IntKind.i64 ((n : Nat) : Int))] = List.map i64v (out ++ [(n : Int)]) by simp]
          have hol : (out ++ [(n : Int)]).length = out.length + 1 := by simp
          ((conv => whnf); (repeat ((first | with_reducible (first | refine zT rfl ?_ | refine zF rfl ?_ | refine zY rfl ?_) | refine zY (by decide) ?_ | refine zN (by decide) ?_ | with_reducible refine zQ ?_); (conv => whnf))))
          cases hbit : bitD (unpack B) k with
          | true =>
            rw [hbit, if_pos rfl] at hR
            ((conv => whnf); (repeat ((first | with_reducible (first | refine zT rfl ?_ | refine zF rfl ?_ | refine zY rfl ?_) | refine zY (by decide) ?_ | refine zN (by decide) ?_ | with_reducible refine zQ ?_); (conv => whnf))))
            (repeat ((first | refine aload (by (repeat (first | with_reducible exact upd_same _ _ _ | assumption | rw [upd_ne _ _ (by first | assumption | (apply Ne.symm; assumption))]))) rfl ?_ | refine afit_i64 (by omega) ?_ | refine arem_nonneg (by omega) (by omega) ?_ | refine adiv_i64 (by omega) (by omega) ?_ | refine abr_yes (by omega) ?_ | refine abr_no (by omega) ?_ | refine amin ?_ | refine amax ?_ | refine afit_u64 (by omega) ?_ | refine afit_u8 (by omega) ?_ | rw [List.length_map]); ((conv => whnf); (repeat ((first | with_reducible (first | refine zT rfl ?_ | refine zF rfl ?_ | refine zY rfl ?_) | refine zY (by decide) ?_ | refine zN (by decide) ?_ | with_reducible refine zQ ?_); (conv => whnf))))))
            rw [hol]
            by_cases hf0 : f = 0
            · rw [if_pos hf0] at hR
              refine abr_yes (by omega) ?_
              ((conv => whnf); (repeat ((first | with_reducible (first | refine zT rfl ?_ | refine zF rfl ?_ | refine zY rfl ?_) | refine zY (by decide) ?_ | refine zN (by decide) ?_ | with_reducible refine zQ ?_); (conv => whnf))))
              exact aret VLe.tup_sl (r5.sub.trans hoc.sub) ⟨by rw [← hR]; rfl, rfl⟩
            · rw [if_neg hf0] at hR
              refine abr_no (by omega) ?_
              ((conv => whnf); (repeat ((first | with_reducible (first | refine zT rfl ?_ | refine zF rfl ?_ | refine zY rfl ?_) | refine zY (by decide) ?_ | refine zN (by decide) ?_ | with_reducible refine zQ ?_); (conv => whnf))))
              obtain ⟨f', rfl⟩ : ∃ f', f = f' + 1 := ⟨f - 1, by omega⟩
              refine ⟨(f', out ++ [(n : Int)], k + (W + 1), tk', upd σa t' .tip, σc, id), rfl, ⟨hw, ?_, ?_, ?_, ?_, hoc⟩, by dsimp only; omega, Sub.refl _, ?_⟩
              · dsimp only; rw [hol]; omega
              · dsimp only; rw [hol, Nat.succ_mul, hk]
              · show rdLens (unpack (b.take ((23 * (W + 1) + 7) / 8))) W (f' + 1) _ _ = _; rw [hB]; exact hR
              · show Rd (upd σa t' .tip) id (b.take ((23 * (W + 1) + 7) / 8)) _ _; rw [hB]; exact r5
              · ((conv => whnf); (repeat ((first | with_reducible (first | refine zT rfl ?_ | refine zF rfl ?_ | refine zY rfl ?_) | refine zY (by decide) ?_ | refine zN (by decide) ?_ | with_reducible refine zQ ?_); (conv => whnf))))
                (repeat' first | with_reducible exact EnvLe.refl _ | (refine EnvLe.node ?_ (by first | exact Or.inl rfl | exact Or.inr (Or.inl rfl) | exact Or.inr (Or.inr ⟨nofun, VLe.slice _ _ _⟩)) ?_))
          | false =>
            rw [hbit, if_neg (by simp)] at hR
            ((conv => whnf); (repeat ((first | with_reducible (first | refine zT rfl ?_ | refine zF rfl ?_ | refine zY rfl ?_) | refine zY (by decide) ?_ | refine zN (by decide) ?_ | with_reducible refine zQ ?_); (conv => whnf))))
            refine acall (rRest id B _ _ _ r5) ?_
            rintro _ σ6 ⟨rfl, r6⟩
            ((conv => whnf); (repeat ((first | with_reducible (first | refine zT rfl ?_ | refine zF rfl ?_ | refine zY rfl ?_) | refine zY (by decide) ?_ | refine zN (by decide) ?_ | with_reducible refine zQ ?_); (conv => whnf))))
            cases hok : restOk (unpack B) (k + (W + 1)) with
            | true =>
              rw [hok, if_pos rfl] at hR
              simp only [if_true]
              ((conv => whnf); (repeat ((first | with_reducible (first | refine zT rfl ?_ | refine zF rfl ?_ | refine zY rfl ?_) | refine zY (by decide) ?_ | refine zN (by decide) ?_ | with_reducible refine zQ ?_); (conv => whnf))))
              (repeat ((first | refine aload (by (repeat (first | with_reducible exact upd_same _ _ _ | assumption | rw [upd_ne _ _ (by first | assumption | (apply Ne.symm; assumption))]))) rfl ?_ | refine afit_i64 (by omega) ?_ | refine arem_nonneg (by omega) (by omega) ?_ | refine adiv_i64 (by omega) (by omega) ?_ | refine abr_yes (by omega) ?_ | refine abr_no (by omega) ?_ | refine amin ?_ | refine amax ?_ | refine afit_u64 (by omega) ?_ | refine afit_u8 (by omega) ?_ | rw [List.length_map]); ((conv => whnf); (repeat ((first | with_reducible (first | refine zT rfl ?_ | refine zF rfl ?_ | refine zY rfl ?_) | refine zY (by decide) ?_ | refine zN (by decide) ?_ | with_reducible refine zQ ?_); (conv => whnf))))))
              rw [hol]
              refine acall (lSize ((out.length + 1 : Nat) : Int) (W : Int) _) ?_
              rintro _ σ_ ⟨rfl, e_⟩
              obtain rfl := e_.symm
              refine ⟨?_, Ext.refl _⟩
              ((conv => whnf); (repeat ((first | with_reducible (first | refine zT rfl ?_ | refine zF rfl ?_ | refine zY rfl ?_) | refine zY (by decide) ?_ | refine zN (by decide) ?_ | with_reducible refine zQ ?_); (conv => whnf))))
              refine aret VLe.tup_sl (r6.sub.trans hoc.sub) ⟨?_, rfl⟩
              rw [← hR, sizeV_ok hW (by omega) (by omega), hk, Nat.succ_mul]
            | false =>
              rw [hok, if_neg (by simp)] at hR
              simp only [Bool.false_eq_true, if_false]
              ((conv => whnf); (repeat ((first | with_reducible (first | refine zT rfl ?_ | refine zF rfl ?_ | refine zY rfl ?_) | refine zY (by decide) ?_ | refine zN (by decide) ?_ | with_reducible refine zQ ?_); (conv => whnf))))
              exact aret VLe.tup_sl (r6.sub.trans hoc.sub) ⟨by rw [← hR]; rfl, rfl⟩
      · have c2 : getCode (8 * B.length) (k + 1) (W : Int) = 8 := getCode_short (by omega) (by omega)
        refine acall (rGet id B (k + 1) (W : Int) _ _ r3) ?_
        rintro _ σ4 ⟨rfl, r4⟩
        rw [if_pos (by omega)] at hR
        rw [c2]
        ((conv => whnf); (repeat ((first | with_reducible (first | refine zT rfl ?_ | refine zF rfl ?_ | refine zY rfl ?_) | refine zY (by decide) ?_ | refine zN (by decide) ?_ | with_reducible refine zQ ?_); (conv => whnf))))
        exact aret VLe.tup_sl (r4.sub.trans ho.sub) ⟨by rw [← hR]; rfl, rfl⟩
    · have c1 : getCode (8 * B.length) k 1 = 8 := getCode_short (by omega) (by omega)
      refine acall (rGet id B k 1 _ _ r2) ?_
      rintro _ σ3 ⟨rfl, r3⟩
      rw [if_pos (by omega)] at hR
      rw [c1]
      ((conv => whnf); (repeat ((first | with_reducible (first | refine zT rfl ?_ | refine zF rfl ?_ | refine zY rfl ?_) | refine zY (by decide) ?_ | refine zN (by decide) ?_ | with_reducible refine zQ ?_); (conv => whnf))))
      exact aret VLe.tup_sl (r3.sub.trans ho.sub) ⟨by rw [← hR]; rfl, rfl⟩
end Go.Proofs.Ytgipkpghabelkaa
/-
  Packets that are not acknowledged: what bytes are.
-/
namespace Go.Proofs.Ytgipkpghabelkaa
set_option linter.unusedVariables false
set_option linter.unusedSimpArgs false
open Go Go.Am

def cutF : List Int → List UInt8 → List (List UInt8) → List (List UInt8) × Int
  | [], b, out => if b.length = 0 then ([], 8) else (out ++ [b], 0)
  | n :: l, b, out => if n > b.length then ([], 8) else cutF l (b.drop n.toNat) (out ++ [b.take n.toNat])

set_option maxRecDepth 20000 in
theorem uFields (b : List UInt8) (l : List Int) (t u : Tok) (σ : AHeap) (hb : b.length ≤ 8000) (hl : l.length ≤ 1000) (h0 : ∀ v ∈ l, 0 ≤ v) : ACalls Try.prog i_umd_fields [sl t b, ints u l] σ fun v σ' => v = .tup [lists .none (cutF l b []).1, i64v (cutF l b []).2] ∧ σ' = σ := by
  refine k_umd_fields rfl ?_
  ((conv => whnf); (repeat ((first | with_reducible (first | refine zT rfl ?_ | refine zF rfl ?_ | refine zY rfl ?_) | refine zY (by decide) ?_ | refine zN (by decide) ?_ | with_reducible refine zQ ?_); (conv => whnf))))
  refine ascope' (α := Nat × List UInt8 × List (List UInt8) × Tok × AHeap) (fun x => [(s0, sl .none x.2.1), (s6, lists x.2.2.2.1 x.2.2.1), (s7, i64v x.1)]) (fun x => x.2.2.2.2) (fun _ => 0) (fun x => x.1 ≤ l.length ∧ x.2.1.length ≤ 8000 ∧ x.2.2.1.length = x.1 ∧ cutF (l.drop x.1) x.2.1 x.2.2.1 = cutF l b [] ∧ Owned σ x.2.2.2.2 x.2.2.2.1) (fun x => l.length - x.1) ?_ ?_
  · ((conv => whnf); (repeat ((first | with_reducible (first | refine zT rfl ?_ | refine zF rfl ?_ | refine zY rfl ?_) | refine zY (by decide) ?_ | refine zN (by decide) ?_ | with_reducible refine zQ ?_); (conv => whnf))))
    intro hlab
    ((conv => whnf); (repeat ((first | with_reducible (first | refine zT rfl ?_ | refine zF rfl ?_ | refine zY rfl ?_) | refine zY (by decide) ?_ | refine zN (by decide) ?_ | with_reducible refine zQ ?_); (conv => whnf))))
    refine hlab _ (fun _ _ _ h => h) _ _ _ _ ⟨(0, b, [], .full, σ), rfl, ⟨Nat.zero_le _, hb, rfl, rfl, .full _⟩, rfl, Sub.refl _, ?_⟩
    ((conv => whnf); (repeat ((first | with_reducible (first | refine zT rfl ?_ | refine zF rfl ?_ | refine zY rfl ?_) | refine zY (by decide) ?_ | refine zN (by decide) ?_ | with_reducible refine zQ ?_); (conv => whnf))))
    (repeat' first | with_reducible exact EnvLe.refl _ | (refine EnvLe.node ?_ (by first | exact Or.inl rfl | exact Or.inr (Or.inl rfl) | exact Or.inr (Or.inr ⟨nofun, VLe.slice _ _ _⟩)) ?_))
  · rintro ⟨i, r, out, tk, σa⟩ ⟨hi, hr, hol, hcut, ho⟩
    dsimp only at hi hr hol hcut ho ⊢
    refine ⟨_, rfl, ?_⟩
    ((conv => whnf); (repeat ((first | with_reducible (first | refine zT rfl ?_ | refine zF rfl ?_ | refine zY rfl ?_) | refine zY (by decide) ?_ | refine zN (by decide) ?_ | with_reducible refine zQ ?_); (conv => whnf))))
    intro hlab
    ((conv => whnf); (repeat ((first | with_reducible (first | refine zT rfl ?_ | refine zF rfl ?_ | refine zY rfl ?_) | refine zY (by decide) ?_ | refine zN (by decide) ?_ | with_reducible refine zQ ?_); (conv => whnf))))
    by_cases h : i < l.length
    · have hv := h0 _ (List.getElem_mem h)
      rw [List.drop_eq_getElem_cons h, cutF] at hcut
      (repeat ((first | refine aload (by (repeat (first | with_reducible exact upd_same _ _ _ | assumption | rw [upd_ne _ _ (by first | assumption | (apply Ne.symm; assumption))]))) rfl ?_ | refine afit_i64 (by omega) ?_ | refine arem_nonneg (by omega) (by omega) ?_ | refine adiv_i64 (by omega) (by omega) ?_ | refine abr_yes (by omega) ?_ | refine abr_no (by omega) ?_ | refine amin ?_ | refine amax ?_ | refine afit_u64 (by omega) ?_ | refine afit_u8 (by omega) ?_ | rw [List.length_map]); ((conv => whnf); (repeat ((first | with_reducible (first | refine zT rfl ?_ | refine zF rfl ?_ | refine zY rfl ?_) | refine zY (by decide) ?_ | refine zN (by decide) ?_ | with_reducible refine zQ ?_); (conv => whnf))))))
      refine aget (by omega) (get_ints h) ?_
      ((conv => whnf); (repeat ((first | with_reducible (first | refine zT rfl ?_ | refine zF rfl ?_ | refine zY rfl ?_) | refine zY (by decide) ?_ | refine zN (by decide) ?_ | with_reducible refine zQ ?_); (conv => whnf))))
      refine acell rfl ?_
      ((conv => whnf); (repeat ((first | with_reducible (first | refine zT rfl ?_ | refine zF rfl ?_ | refine zY rfl ?_) | refine zY (by decide) ?_ | refine zN (by decide) ?_ | with_reducible refine zQ ?_); (conv => whnf))))
      rw [List.length_map]
      by_cases h1 : l[i] > r.length
      · rw [if_pos h1] at hcut
        refine abr_yes h1 ?_
        ((conv => whnf); (repeat ((first | with_reducible (first | refine zT rfl ?_ | refine zF rfl ?_ | refine zY rfl ?_) | refine zY (by decide) ?_ | refine zN (by decide) ?_ | with_reducible refine zQ ?_); (conv => whnf))))
        exact aret_sl1 ho.sub ⟨by rw [← hcut]; rfl, rfl⟩
      · rw [if_neg h1] at hcut
        refine abr_no h1 ?_
        ((conv => whnf); (repeat ((first | with_reducible (first | refine zT rfl ?_ | refine zF rfl ?_ | refine zY rfl ?_) | refine zY (by decide) ?_ | refine zN (by decide) ?_ | with_reducible refine zQ ?_); (conv => whnf))))
        refine aget (by omega) (get_ints h) ?_
        ((conv => whnf); (repeat ((first | with_reducible (first | refine zT rfl ?_ | refine zF rfl ?_ | refine zY rfl ?_) | refine zY (by decide) ?_ | refine zN (by decide) ?_ | with_reducible refine zQ ?_); (conv => whnf))))
        refine acell rfl ?_
        ((conv => whnf); (repeat ((first | with_reducible (first | refine zT rfl ?_ | refine zF rfl ?_ | refine zY rfl ?_) | refine zY (by decide) ?_ | refine zN (by decide) ?_ | with_reducible refine zQ ?_); (conv => whnf))))
        refine aget (by omega) (get_ints h) ?_
        ((conv => whnf); (repeat ((first | with_reducible (first | refine zT rfl ?_ | refine zF rfl ?_ | refine zY rfl ?_) | refine zY (by decide) ?_ | refine zN (by decide) ?_ | with_reducible refine zQ ?_); (conv => whnf))))
        refine acell rfl ?_
        ((conv => whnf); (repeat ((first | with_reducible (first | refine zT rfl ?_ | refine zF rfl ?_ | refine zY rfl ?_) | refine zY (by decide) ?_ | refine zN (by decide) ?_ | with_reducible refine zQ ?_); (conv => whnf))))
        rw [List.length_map]
        refine acut (by omega) (by omega) (by omega) ?_
        ((conv => whnf); (repeat ((first | with_reducible (first | refine zT rfl ?_ | refine zF rfl ?_ | refine zY rfl ?_) | refine zY (by decide) ?_ | refine zN (by decide) ?_ | with_reducible refine zQ ?_); (conv => whnf))))
        refine ⟨rfl, rfl, ?_⟩
        rw [show (0 : Int).toNat = 0 from rfl, List.drop_zero, ← List.map_take]
        ((conv => whnf); (repeat ((first | with_reducible (first | refine zT rfl ?_ | refine zF rfl ?_ | refine zY rfl ?_) | refine zY (by decide) ?_ | refine zN (by decide) ?_ | with_reducible refine zQ ?_); (conv => whnf))))
        refine acall_less (Clone (r.take l[i].toNat) _ _ (by rw [List.length_take]; omega)) ?_
        rintro _ σ4 ⟨tk3, ho3, rfl⟩
        refine ⟨sl .none (r.take l[i].toNat), σa, VLe.slice _ _ _, ho3.sub, ?_, Ext.refl _⟩
        ((conv => whnf); (repeat ((first | with_reducible (first | refine zT rfl ?_ | refine zF rfl ?_ | refine zY rfl ?_) | refine zY (by decide) ?_ | refine zN (by decide) ?_ | with_reducible refine zQ ?_); (conv => whnf))))
        refine aapp_sub (ys := [sl .none (r.take l[i].toNat)]) ho (Sub.refl _) (by rw [List.length_map]; show (out.length + 1) * 24 ≤ _; omega) fun tk2 σ5 σ6 ho2 hs2 => ?_
        rw [show List.map (sl .none) out ++ [sl .none (r.take l[i].toNat)] = List.map (sl .none) (out ++ [r.take l[i].toNat]) by simp]
        ((conv => whnf); (repeat ((first | with_reducible (first | refine zT rfl ?_ | refine zF rfl ?_ | refine zY rfl ?_) | refine zY (by decide) ?_ | refine zN (by decide) ?_ | with_reducible refine zQ ?_); (conv => whnf))))
        refine aget (by omega) (get_ints h) ?_
        ((conv => whnf); (repeat ((first | with_reducible (first | refine zT rfl ?_ | refine zF rfl ?_ | refine zY rfl ?_) | refine zY (by decide) ?_ | refine zN (by decide) ?_ | with_reducible refine zQ ?_); (conv => whnf))))
        refine acell rfl ?_
        ((conv => whnf); (repeat ((first | with_reducible (first | refine zT rfl ?_ | refine zF rfl ?_ | refine zY rfl ?_) | refine zY (by decide) ?_ | refine zN (by decide) ?_ | with_reducible refine zQ ?_); (conv => whnf))))
        rw [List.length_map]
        refine acut (by omega) (by omega) (by omega) ?_
        ((conv => whnf); (repeat ((first | with_reducible (first | refine zT rfl ?_ | refine zF rfl ?_ | refine zY rfl ?_) | refine zY (by decide) ?_ | refine zN (by decide) ?_ | with_reducible refine zQ ?_); (conv => whnf))))
        (repeat ((first | refine aload (by (repeat (first | with_reducible exact upd_same _ _ _ | assumption | rw [upd_ne _ _ (by first | assumption | (apply Ne.symm; assumption))]))) rfl ?_ | refine afit_i64 (by omega) ?_ | refine arem_nonneg (by omega) (by omega) ?_ | refine adiv_i64 (by omega) (by omega) ?_ | refine abr_yes (by omega) ?_ | refine abr_no (by omega) ?_ | refine amin ?_ | refine amax ?_ | refine afit_u64 (by omega) ?_ | refine afit_u8 (by omega) ?_ | rw [List.length_map]); ((conv => whnf); (repeat ((first | with_reducible (first | refine zT rfl ?_ | refine zF rfl ?_ | refine zY rfl ?_) | refine zY (by decide) ?_ | refine zN (by decide) ?_ | with_reducible refine zQ ?_); (conv => whnf))))))
        refine ⟨(i + 1, r.drop l[i].toNat, out ++ [r.take l[i].toNat], tk2, σ6), rfl, ⟨h, ?_, ?_, hcut, ho2⟩, by dsimp only; omega, hs2, ?_⟩
        · dsimp only; rw [List.length_drop]; omega
        · dsimp only; rw [List.length_append]; show _ + 1 = _; omega
        · rw [show ((r.length : Nat) : Int).toNat = r.length by omega, List.take_of_length_le (l := r.map byteV) (by rw [List.length_map]; exact Nat.le_refl _), ← List.map_drop]
          ((conv => whnf); (repeat ((first | with_reducible (first | refine zT rfl ?_ | refine zF rfl ?_ | refine zY rfl ?_) | refine zY (by decide) ?_ | refine zN (by decide) ?_ | with_reducible refine zQ ?_); (conv => whnf))))
          (repeat' first | with_reducible exact EnvLe.refl _ | (refine EnvLe.node ?_ (by first | exact Or.inl rfl | exact Or.inr (Or.inl rfl) | exact Or.inr (Or.inr ⟨nofun, VLe.slice _ _ _⟩)) ?_))
    · obtain rfl : i = l.length := by omega
      rw [List.drop_of_length_le (Nat.le_refl _), cutF] at hcut
      (repeat ((first | refine aload (by (repeat (first | with_reducible exact upd_same _ _ _ | assumption | rw [upd_ne _ _ (by first | assumption | (apply Ne.symm; assumption))]))) rfl ?_ | refine afit_i64 (by omega) ?_ | refine arem_nonneg (by omega) (by omega) ?_ | refine adiv_i64 (by omega) (by omega) ?_ | refine abr_yes (by omega) ?_ | refine abr_no (by omega) ?_ | refine amin ?_ | refine amax ?_ | refine afit_u64 (by omega) ?_ | refine afit_u8 (by omega) ?_ | rw [List.length_map]); ((conv => whnf); (repeat ((first | with_reducible (first | refine zT rfl ?_ | refine zF rfl ?_ | refine zY rfl ?_) | refine zY (by decide) ?_ | refine zN (by decide) ?_ | with_reducible refine zQ ?_); (conv => whnf))))))
      by_cases h1 : r.length = 0
      · rw [if_pos h1] at hcut
        (repeat ((first | refine aload (by (repeat (first | with_reducible exact upd_same _ _ _ | assumption | rw [upd_ne _ _ (by first | assumption | (apply Ne.symm; assumption))]))) rfl ?_ | refine afit_i64 (by omega) ?_ | refine arem_nonneg (by omega) (by omega) ?_ | refine adiv_i64 (by omega) (by omega) ?_ | refine abr_yes (by omega) ?_ | refine abr_no (by omega) ?_ | refine amin ?_ | refine amax ?_ | refine afit_u64 (by omega) ?_ | refine afit_u8 (by omega) ?_ | rw [List.length_map]); ((conv => whnf); (repeat ((first | with_reducible (first | refine zT rfl ?_ | refine zF rfl ?_ | refine zY rfl ?_) | refine zY (by decide) ?_ | refine zN (by decide) ?_ | with_reducible refine zQ ?_); (conv => whnf))))))
        exact aret_sl1 ho.sub ⟨by rw [← hcut]; rfl, rfl⟩
      · rw [if_neg h1] at hcut
        (repeat ((first | refine aload (by (repeat (first | with_reducible exact upd_same _ _ _ | assumption | rw [upd_ne _ _ (by first | assumption | (apply Ne.symm; assumption))]))) rfl ?_ | refine afit_i64 (by omega) ?_ | refine arem_nonneg (by omega) (by omega) ?_ | refine adiv_i64 (by omega) (by omega) ?_ | refine abr_yes (by omega) ?_ | refine abr_no (by omega) ?_ | refine amin ?_ | refine amax ?_ | refine afit_u64 (by omega) ?_ | refine afit_u8 (by omega) ?_ | rw [List.length_map]); ((conv => whnf); (repeat ((first | with_reducible (first | refine zT rfl ?_ | refine zF rfl ?_ | refine zY rfl ?_) | refine zY (by decide) ?_ | refine zN (by decide) ?_ | with_reducible refine zQ ?_); (conv => whnf))))))
        refine acall_less (Clone r _ _ (by omega)) ?_
        rintro _ σ4 ⟨tk3, ho3, rfl⟩
        refine ⟨sl .none r, σa, VLe.slice _ _ _, ho3.sub, ?_, Ext.refl _⟩
        ((conv => whnf); (repeat ((first | with_reducible (first | refine zT rfl ?_ | refine zF rfl ?_ | refine zY rfl ?_) | refine zY (by decide) ?_ | refine zN (by decide) ?_ | with_reducible refine zQ ?_); (conv => whnf))))
        refine aapp_sub (ys := [sl .none r]) ho (Sub.refl _) (by rw [List.length_map]; show (out.length + 1) * 24 ≤ _; omega) fun tk2 σ5 σ6 ho2 hs2 => ?_
        rw [show List.map (sl .none) out ++ [sl .none r] = List.map (sl .none) (out ++ [r]) by simp]
        ((conv => whnf); (repeat ((first | with_reducible (first | refine zT rfl ?_ | refine zF rfl ?_ | refine zY rfl ?_) | refine zY (by decide) ?_ | refine zN (by decide) ?_ | with_reducible refine zQ ?_); (conv => whnf))))
        exact aret_sl1 (hs2.trans ho2.sub) ⟨by rw [← hcut], rfl⟩
end Go.Proofs.Ytgipkpghabelkaa
/-
  Lengths there and back: plain laws.
-/
namespace Go.Proofs.Ytgipkpghabelkaa
set_option linter.unusedVariables false
set_option linter.unusedSimpArgs false
open Go Go.Am

theorem writeCode_ok {l : List Int} {w : Int} (h : writeCode l w = 0) : (w = 11 ∨ w = 15) ∧ 1 ≤ l.length ∧ l.length ≤ 23 ∧ ∀ n ∈ l, badLen w.toNat n = false := by
  unfold writeCode at h
  cases e : widthOk w with
  | false => rw [if_pos e] at h; cases h
  | true =>
    rw [e, if_neg (by simp)] at h
    split at h
    · cases h
    · split at h
      · cases h
      · split at h
        · cases h
        · rename_i h0 h23 hb
          refine ⟨widthOk_iff.1 e, by omega, by omega, fun n hn => ?_⟩
          cases hbn : badLen w.toNat n with
          | false => rfl
          | true => exact absurd (List.any_eq_true.2 ⟨n, hn, hbn⟩) hb
theorem writeCode_mk {l : List Int} {w : Int} (hw : w = 11 ∨ w = 15) (h1 : 1 ≤ l.length) (h2 : l.length ≤ 23) (h : ∀ n ∈ l, badLen w.toNat n = false) : writeCode l w = 0 := by
  unfold writeCode
  rw [widthOk_iff.2 hw, if_neg (by simp), if_neg (by omega), if_neg (by omega), if_neg]
  rw [List.any_eq_true]
  rintro ⟨x, hx, hb⟩
  rw [h x hx] at hb; cases hb
theorem goodLen {W : Nat} {n : Int} (h : badLen W n = false) : ∃ v : Nat, n = v ∧ 1 ≤ v ∧ v < 2 ^ W := by
  have := of_decide_eq_false h
  exact ⟨n.toNat, by omega, by omega, by omega⟩

/-- The bits from one length on. -/
theorem lenBits_from (l : List Int) (W i : Nat) : ∀ d, ∃ r, lenBits l W (i + 1 + d) = lenBits l W i ++ ((decide (i + 1 < l.length) :: numBits ((l[i]?.getD 0).toNat) W) ++ r)
  | 0 => ⟨[], by rw [Nat.add_zero, lenBits_succ]; simp⟩
  | d + 1 => by
    obtain ⟨r, hr⟩ := lenBits_from l W i d
    refine ⟨r ++ (decide (i + 1 + d + 1 < l.length) :: numBits ((l[i + 1 + d]?.getD 0).toNat) W), ?_⟩
    rw [show i + 1 + (d + 1) = (i + 1 + d) + 1 by omega, lenBits_succ, hr]
    simp

theorem split_step (y A R : List Bool) (b : Bool) (v W K : Nat) (hy : y = A ++ (b :: (numBits v W ++ R))) (hA : A.length = K) : K + (W + 1) ≤ y.length ∧ (y.drop (K + 1)).take W = numBits v W ∧ bitD y K = b := by
  subst hy; subst hA
  have hn := numBits_length v W
  refine ⟨by simp [hn], ?_, ?_⟩
  · rw [show A ++ b :: (numBits v W ++ R) = (A ++ [b]) ++ (numBits v W ++ R) by simp]
    rw [List.drop_left' (by simp), List.take_left' hn]
  · rw [bitD_append_right (Nat.le_refl _), Nat.sub_self]; rfl

theorem rd_back (l : List Int) (w : Int) (rest : List Bool) (h : writeCode l w = 0) :
    ∀ (f i : Nat), i < l.length → i + (f + 1) = 23 → rdLens (unpack (writeBytes l w) ++ rest) w.toNat (f + 1) (l.take i) (i * (w.toNat + 1)) = (l, ((writeBytes l w).length : Int), 0) := by
  obtain ⟨hw, h1, h2, hg⟩ := writeCode_ok h
  obtain ⟨W, rfl⟩ : ∃ W : Nat, w = W := ⟨w.toNat, by omega⟩
  have hwb : writeBytes l (W : Int) = pack (lenBits l W l.length) := by unfold writeBytes; rw [if_pos h, Int.toNat_natCast]
  rw [hwb, unpack_pack, pack_length, lenBits_length]
  rw [Int.toNat_natCast] at hg ⊢
  have hxl := lenBits_length l W l.length
  have key : ∀ i (hi : i < l.length), ∃ v R, l[i] = ((v : Nat) : Int) ∧ 1 ≤ v ∧ v < 2 ^ W ∧ lenBits l W l.length = lenBits l W i ++ (decide (i + 1 < l.length) :: (numBits v W ++ R)) := by
    intro i hi
    obtain ⟨v, hv, hv1, hv2⟩ := goodLen (hg _ (List.getElem_mem hi))
    obtain ⟨r, hr⟩ := lenBits_from l W i (l.length - (i + 1))
    rw [show i + 1 + (l.length - (i + 1)) = l.length by omega, List.getElem?_eq_getElem hi, Option.getD_some, hv, Int.toNat_natCast] at hr
    exact ⟨v, r, hv, hv1, hv2, by rw [hr]; simp⟩
  intro f
  induction f with
  | zero =>
    intro i hi hf
    obtain ⟨v, R, hv, hv1, hv2, hsplit⟩ := key i hi
    have hlast : ¬ i + 1 < l.length := by omega
    obtain ⟨s1, s2, s3⟩ := split_step (lenBits l W l.length ++ List.replicate (8 * ((l.length * (W + 1) + 7) / 8) - l.length * (W + 1)) false ++ rest) (lenBits l W i) (R ++ (List.replicate (8 * ((l.length * (W + 1) + 7) / 8) - l.length * (W + 1)) false ++ rest)) (decide (i + 1 < l.length)) v W (i * (W + 1)) (by rw [hsplit]; simp) (lenBits_length _ _ _)
    rw [decide_eq_false hlast] at s3
    simp only [rdLens]
    rw [if_neg (by omega), s2, val_numBits, Nat.mod_eq_of_lt hv2, if_neg (by omega), s3, if_neg (by simp), if_pos]
    · rw [← hv, ← take_snoc (List.getElem?_eq_getElem hi), List.take_of_length_le (by omega), ← Nat.succ_mul, show i.succ = l.length by omega]
    · rw [← Nat.succ_mul, show i.succ = l.length by omega]
      refine decide_eq_true ((val_zero _).2 fun b hb => ?_)
      rw [List.append_assoc, List.drop_left' hxl, List.take_append_of_le_length (by rw [List.length_replicate]; unfold pad; omega)] at hb
      exact (List.mem_replicate.1 (List.mem_of_mem_take hb)).2
  | succ f ih =>
    intro i hi hf
    obtain ⟨v, R, hv, hv1, hv2, hsplit⟩ := key i hi
    obtain ⟨s1, s2, s3⟩ := split_step (lenBits l W l.length ++ List.replicate (8 * ((l.length * (W + 1) + 7) / 8) - l.length * (W + 1)) false ++ rest) (lenBits l W i) (R ++ (List.replicate (8 * ((l.length * (W + 1) + 7) / 8) - l.length * (W + 1)) false ++ rest)) (decide (i + 1 < l.length)) v W (i * (W + 1)) (by rw [hsplit]; simp) (lenBits_length _ _ _)
    rw [rdLens]
    rw [if_neg (by omega), s2, val_numBits, Nat.mod_eq_of_lt hv2, if_neg (by omega), s3]
    by_cases hlast : i + 1 < l.length
    · rw [decide_eq_true hlast, if_pos rfl, if_neg (by omega), ← hv, ← take_snoc (List.getElem?_eq_getElem hi), ← Nat.succ_mul]
      exact ih (i + 1) hlast (by omega)
    · rw [decide_eq_false hlast, if_neg (by simp), if_pos]
      · rw [← hv, ← take_snoc (List.getElem?_eq_getElem hi), List.take_of_length_le (by omega), ← Nat.succ_mul, show i.succ = l.length by omega]
      · rw [← Nat.succ_mul, show i.succ = l.length by omega]
        refine decide_eq_true ((val_zero _).2 fun b hb => ?_)
        rw [List.append_assoc, List.drop_left' hxl, List.take_append_of_le_length (by rw [List.length_replicate]; unfold pad; omega)] at hb
        exact (List.mem_replicate.1 (List.mem_of_mem_take hb)).2

theorem read_back (l : List Int) (w : Int) (behind : List UInt8) (h : writeCode l w = 0) : readV (writeBytes l w ++ behind) w = (l, ((writeBytes l w).length : Int), 0) := by
  obtain ⟨hw, h1, h2, hg⟩ := writeCode_ok h
  unfold readV
  rw [widthOk_iff.2 hw, if_neg (by simp), unpack_append]
  have := rd_back l w (unpack behind) h 22 0 (by omega) (by omega)
  rw [Nat.zero_mul] at this
  exact this

theorem numBits_val : ∀ (n : Nat) (l : List Bool), l.length = n → numBits (val 0 l) n = l := by
  intro n
  induction n with
  | zero => intro l hl; rw [List.length_eq_zero_iff.1 hl]; rfl
  | succ n ih =>
    intro l hl
    have hne : l ≠ [] := fun e => by rw [e] at hl; cases hl
    have e : l = l.dropLast ++ [l.getLast hne] := (List.dropLast_concat_getLast hne).symm
    have hdl : l.dropLast.length = n := by rw [List.length_dropLast, hl]; omega
    rw [e, val_snoc, numBits_parts _ n 1]
    have h1 : (2 * val 0 l.dropLast + (l.getLast hne).toNat) / 2 ^ 1 = val 0 l.dropLast := by
      have : (l.getLast hne).toNat ≤ 1 := by cases l.getLast hne <;> decide
      omega
    rw [h1, ih _ hdl]
    congr 1
    show [(2 * val 0 l.dropLast + (l.getLast hne).toNat).testBit 0] = _
    rw [Nat.testBit_zero]
    cases l.getLast hne <;> simp

theorem unpack_take (b : List UInt8) (n : Nat) : unpack (b.take n) = (unpack b).take (8 * n) := by
  have h := unpack_append (b.take n) (b.drop n)
  rw [List.take_append_drop] at h
  have hul := unpack_length (b.take n)
  rw [List.length_take] at hul
  by_cases hn : n ≤ b.length
  · rw [h, List.take_left' (by rw [hul]; omega)]
  · rw [List.take_of_length_le (l := b) (by omega), List.take_of_length_le (by rw [unpack_length]; omega)]

def allMore (W : Nat) (l : List Int) : List Bool := l.flatMap fun v => true :: numBits v.toNat W
theorem lenBits_more (out : List Int) (v : Int) (W : Nat) : ∀ i, i ≤ out.length → lenBits (out ++ [v]) W i = allMore W (out.take i)
  | 0, _ => rfl
  | i + 1, h => by
    rw [lenBits_succ, lenBits_more out v W i (by omega), decide_eq_true (by rw [List.length_append]; show i + 1 < out.length + 1; omega), List.getElem?_append_left (by omega), List.getElem?_eq_getElem (by omega), Option.getD_some, take_snoc (List.getElem?_eq_getElem (by omega))]
    unfold allMore
    rw [List.flatMap_append, List.flatMap_cons, List.flatMap_nil, List.append_nil]
theorem lenBits_last (out : List Int) (v : Int) (W : Nat) : lenBits (out ++ [v]) W (out.length + 1) = allMore W out ++ (false :: numBits v.toNat W) := by
  rw [lenBits_succ, lenBits_more out v W _ (Nat.le_refl _), List.take_length, decide_eq_false (by rw [List.length_append]; show ¬ out.length + 1 < out.length + 1; omega), List.getElem?_append_right (Nat.le_refl _), Nat.sub_self]
  rfl

theorem take_step (x : List Bool) (k W : Nat) (h : k + (W + 1) ≤ x.length) : x.take (k + (W + 1)) = x.take k ++ (bitD x k :: numBits (val 0 ((x.drop (k + 1)).take W)) W) := by
  rw [List.take_add]
  congr 1
  rw [List.drop_eq_getElem_cons (by omega), List.take_succ_cons, bitD_get (by omega), numBits_val W _ (by rw [List.length_take, List.length_drop]; omega)]

theorem rd_ok (x : List Bool) (W : Nat) (hW : W ≤ 60) (m : List Int) (n : Int) : ∀ (f : Nat) (out : List Int) (k : Nat), rdLens x W f out k = (m, n, 0) → out.length + f = 23 → k = out.length * (W + 1) → x.take k = allMore W out → (∀ v ∈ out, badLen W v = false) →
    1 ≤ m.length ∧ m.length ≤ 23 ∧ (∀ v ∈ m, badLen W v = false) ∧ n = ((m.length * (W + 1) + 7) / 8 : Nat) ∧ m.length * (W + 1) ≤ x.length ∧ x.take (m.length * (W + 1)) = lenBits m W m.length ∧ restOk x (m.length * (W + 1)) = true
  | 0, out, k, h, _, _, _, _ => by simp [rdLens] at h
  | f + 1, out, k, h, hf, hk, ht, hg => by
    rw [rdLens] at h
    by_cases h1 : x.length < k + (W + 1)
    · rw [if_pos h1] at h; simp at h
    rw [if_neg h1] at h
    have hv := val_lt ((x.drop (k + 1)).take W)
    rw [show ((x.drop (k + 1)).take W).length = W by rw [List.length_take, List.length_drop]; omega] at hv
    have hts := take_step x k W (by omega)
    generalize val 0 ((x.drop (k + 1)).take W) = v at h hts hv
    by_cases h2 : v = 0
    · rw [if_pos h2] at h; simp at h
    rw [if_neg h2] at h
    have hgood : badLen W (v : Int) = false := decide_eq_false (by omega)
    have hg2 : ∀ u ∈ out ++ [(v : Int)], badLen W u = false := by
      intro u hu
      rcases List.mem_append.1 hu with hu | hu
      · exact hg u hu
      · simp at hu; subst hu; exact hgood
    have hlen : (out ++ [(v : Int)]).length = out.length + 1 := by simp
    have hkk : k + (W + 1) = (out.length + 1) * (W + 1) := by rw [Nat.succ_mul, hk]
    cases hb : bitD x k with
    | true =>
      rw [hb, if_pos rfl] at h
      by_cases h3 : f = 0
      · rw [if_pos h3] at h; simp at h
      rw [if_neg h3] at h
      refine rd_ok x W hW m n f _ _ h (by rw [hlen]; omega) (by rw [hlen]; exact hkk) ?_ hg2
      rw [hts, ht, hb]
      unfold allMore
      rw [List.flatMap_append, List.flatMap_cons, List.flatMap_nil, List.append_nil, Int.toNat_natCast]
    | false =>
      rw [hb, if_neg (by simp)] at h
      split at h
      · rename_i hr
        injection h with h4 h5
        injection h5 with h5 _
        subst h4
        subst h5
        rw [hlen, ← hkk]
        refine ⟨by omega, by omega, hg2, rfl, by omega, ?_, hr⟩
        rw [lenBits_last, hts, ht, hb, Int.toNat_natCast]
      · simp at h

theorem write_back (b : List UInt8) (w : Int) (m : List Int) (n : Int) (h : readV b w = (m, n, 0)) : writeCode m w = 0 ∧ 0 ≤ n ∧ n ≤ b.length ∧ writeBytes m w = b.take n.toNat := by
  unfold readV at h
  cases e : widthOk w with
  | false => rw [if_pos e] at h; simp at h
  | true =>
    have hw := widthOk_iff.1 e
    rw [e, if_neg (by simp)] at h
    obtain ⟨W, rfl⟩ : ∃ W : Nat, w = W := ⟨w.toNat, by omega⟩
    rw [Int.toNat_natCast] at h
    obtain ⟨h1, h2, h3, rfl, h5, h6, h7⟩ := rd_ok (unpack b) W (by omega) m n 23 [] 0 h rfl (by simp) rfl (by simp)
    have hc : writeCode m (W : Int) = 0 := writeCode_mk hw h1 h2 (by rw [Int.toNat_natCast]; exact h3)
    have hul := unpack_length b
    refine ⟨hc, by omega, by omega, ?_⟩
    unfold writeBytes
    rw [if_pos hc, Int.toNat_natCast, Int.toNat_natCast, ← h6]
    generalize m.length * (W + 1) = T at *
    have hlen : ((unpack b).take T).length = T := by rw [List.length_take]; omega
    have hup := unpack_pack ((unpack b).take T)
    rw [hlen] at hup
    have hz : List.replicate (8 * ((T + 7) / 8) - T) false = ((unpack b).drop T).take (8 * ((T + 7) / 8) - T) := by
      have hp : 8 * ((T + 7) / 8) - T = pad T := by unfold pad; omega
      rw [hp]
      have h0 := (val_zero _).1 (of_decide_eq_true h7)
      have hl2 : (((unpack b).drop T).take (pad T)).length = pad T := by rw [List.length_take, List.length_drop]; unfold pad; omega
      exact (List.eq_replicate_iff.2 ⟨hl2, h0⟩).symm
    rw [hz, ← List.take_add, show T + (8 * ((T + 7) / 8) - T) = 8 * ((T + 7) / 8) by omega, ← unpack_take] at hup
    have := congrArg pack hup
    rw [pack_unpack, pack_unpack] at this
    exact this
end Go.Proofs.Ytgipkpghabelkaa
/-
  Packets that are not acknowledged: what is read.
-/
namespace Go.Proofs.Ytgipkpghabelkaa
set_option linter.unusedVariables false
set_option linter.unusedSimpArgs false
open Go Go.Am

def umRest (b : List UInt8) (w : Int) : List UInt8 := b.drop (w / 5).toNat
def umMoreB (b : List UInt8) (w : Int) : Bool := bitD (unpack b) (zeros w + 2)
def lensAt (b : List UInt8) (w : Int) : List Int × Int × Int := if umMoreB b w = true then readV (umRest b w) 11 else ([], 0, 0)
def umFi (b : List UInt8) (w : Int) : Nat := val 0 (((unpack b).drop (zeros w)).take 2)
def umSn (b : List UInt8) (w : Int) : Nat := val 0 (((unpack b).drop (zeros w + 3)).take w.toNat)
def umCut (b : List UInt8) (w : Int) : List (List UInt8) × Int := cutF (lensAt b w).1 ((umRest b w).drop (lensAt b w).2.1.toNat) []
abbrev none3 : Nat × Nat × List (List UInt8) := (0, 0, [])
def readU (b : List UInt8) (w : Int) : (Nat × Nat × List (List UInt8)) × Int :=
  if umWidth w = false then (none3, 9) else if b.length > 4000 then (none3, 2) else if (b.length : Int) < w / 5 then (none3, 8)
  else if val 0 ((unpack b).take (zeros w)) ≠ 0 then (none3, 3) else if (lensAt b w).2.2 ≠ 0 then (none3, (lensAt b w).2.2)
  else if (umCut b w).2 ≠ 0 then (none3, (umCut b w).2) else ((umFi b w, umSn b w, (umCut b w).1), 0)
abbrev pk3 (p : Nat × Nat × List (List UInt8)) : AVal := pkV (p.1 : Int) (p.2.1 : Int) p.2.2
theorem readV_ok {b : List UInt8} {w : Int} (h : (readV b w).2.2 = 0) : (∀ v ∈ (readV b w).1, 0 ≤ v) ∧ 0 ≤ (readV b w).2.1 ∧ (readV b w).2.1 ≤ b.length := by
  obtain ⟨h1, h2, h3, h4⟩ := write_back b w (readV b w).1 (readV b w).2.1 (Prod.ext rfl (Prod.ext rfl h))
  obtain ⟨_, _, _, h5⟩ := writeCode_ok h1
  refine ⟨fun v hv => ?_, h2, h3⟩
  obtain ⟨k, rfl, _, _⟩ := goodLen (h5 v hv)
  omega

theorem aret_pk {σ σ2 : AHeap} {a b : AVal} {l : List AVal} {tk : Tok} {s : Nat} {c : AVal} {Q : AVal → AHeap → Prop} (hs : Sub σ σ2) (h : Q (.tup [.agg [a, b, .slice s l .none], c]) σ2) : ARet (.tup [.agg [a, b, .slice s l tk], c]) σ Q :=
  aret (VLe.tup (VLe.cons (fun κ v k => by cases k with | agg k => exact .agg (VLe.cons (VLe.refl _) (VLe.cons (VLe.refl _) (VLe.cons (VLe.slice _ _ _) fun _ _ h => h)) _ _ k)) fun _ _ h => h)) hs h

set_option maxRecDepth 20000 in
set_option maxHeartbeats 1000000 in
theorem uRead (b : List UInt8) (t : Tok) (w : Int) (σ : AHeap) (hl : b.length ≤ 140737488355320) : ACalls Try.prog i_umd_Read [sl t b, i64v w] σ fun v σ' => v = .tup [pk3 (readU b w).1, i64v (readU b w).2] ∧ σ' = σ := by
  refine k_umd_Read rfl ?_
  ((conv => whnf); (repeat ((first | with_reducible (first | refine zT rfl ?_ | refine zF rfl ?_ | refine zY rfl ?_) | refine zY (by decide) ?_ | refine zN (by decide) ?_ | with_reducible refine zQ ?_); (conv => whnf))))
  refine anew rfl fun id hid => ?_
  generalize hσ0 : upd σ id (.cells [i64v 0, i64v 0, .slice 1 [] .full]) = σ0
  have hs : Sub σ0 σ := by rw [← hσ0]; exact Sub.upd_fresh _ hid
  have hc0 : σ0 id = some (.cells [i64v 0, i64v 0, .slice 1 [] .full]) := by rw [← hσ0]; exact upd_same _ _ _
  ((conv => whnf); (repeat ((first | with_reducible (first | refine zT rfl ?_ | refine zF rfl ?_ | refine zY rfl ?_) | refine zY (by decide) ?_ | refine zN (by decide) ?_ | with_reducible refine zQ ?_); (conv => whnf))))
  refine acall (uIsWidth w _) ?_
  rintro _ σ_ ⟨rfl, e_⟩
  obtain rfl := e_.symm
  refine ⟨?_, Ext.refl _⟩
  ((conv => whnf); (repeat ((first | with_reducible (first | refine zT rfl ?_ | refine zF rfl ?_ | refine zY rfl ?_) | refine zY (by decide) ?_ | refine zN (by decide) ?_ | with_reducible refine zQ ?_); (conv => whnf))))
  by_cases hw : umWidth w = true
  case neg =>
    have eq : readU b w = (none3, 9) := by unfold readU; rw [if_pos (Bool.eq_false_iff.2 hw)]
    rw [Bool.eq_false_iff.2 hw]
    ((conv => whnf); (repeat ((first | with_reducible (first | refine zT rfl ?_ | refine zF rfl ?_ | refine zY rfl ?_) | refine zY (by decide) ?_ | refine zN (by decide) ?_ | with_reducible refine zQ ?_); (conv => whnf))))
    refine astore (xs := [i64v 0, i64v 0, .slice 1 [] .full]) (l := [i64v 0, i64v 0, .slice 1 [] .full]) hc0 (Nat.le_of_ble_eq_true rfl) rfl rfl ?_
    ((conv => whnf); (repeat ((first | with_reducible (first | refine zT rfl ?_ | refine zF rfl ?_ | refine zY rfl ?_) | refine zY (by decide) ?_ | refine zN (by decide) ?_ | with_reducible refine zQ ?_); (conv => whnf))))
    refine aloads (l := [i64v 0, i64v 0, .slice 1 [] .full]) (upd_same _ _ _) (by exact Nat.le_refl 3) rfl ?_
    ((conv => whnf); (repeat ((first | with_reducible (first | refine zT rfl ?_ | refine zF rfl ?_ | refine zY rfl ?_) | refine zY (by decide) ?_ | refine zN (by decide) ?_ | with_reducible refine zQ ?_); (conv => whnf))))
    exact aret_pk ((Sub.upd hs id _).trans (Sub.upd_fresh _ hid)) ⟨by rw [eq]; rfl, rfl⟩
  rw [hw]
  have hw2 := umWidth_iff.1 hw
  ((conv => whnf); (repeat ((first | with_reducible (first | refine zT rfl ?_ | refine zF rfl ?_ | refine zY rfl ?_) | refine zY (by decide) ?_ | refine zN (by decide) ?_ | with_reducible refine zQ ?_); (conv => whnf))))
  by_cases h1 : b.length > 4000
  · have eq : readU b w = (none3, 2) := by unfold readU; rw [hw, if_neg (by simp), if_pos h1]
    (repeat ((first | refine aload (by (repeat (first | with_reducible exact upd_same _ _ _ | assumption | rw [upd_ne _ _ (by first | assumption | (apply Ne.symm; assumption))]))) rfl ?_ | refine afit_i64 (by omega) ?_ | refine arem_nonneg (by omega) (by omega) ?_ | refine adiv_i64 (by omega) (by omega) ?_ | refine abr_yes (by omega) ?_ | refine abr_no (by omega) ?_ | refine amin ?_ | refine amax ?_ | refine afit_u64 (by omega) ?_ | refine afit_u8 (by omega) ?_ | rw [List.length_map]); ((conv => whnf); (repeat ((first | with_reducible (first | refine zT rfl ?_ | refine zF rfl ?_ | refine zY rfl ?_) | refine zY (by decide) ?_ | refine zN (by decide) ?_ | with_reducible refine zQ ?_); (conv => whnf))))))
    refine astore (xs := [i64v 0, i64v 0, .slice 1 [] .full]) (l := [i64v 0, i64v 0, .slice 1 [] .full]) hc0 (Nat.le_of_ble_eq_true rfl) rfl rfl ?_
    ((conv => whnf); (repeat ((first | with_reducible (first | refine zT rfl ?_ | refine zF rfl ?_ | refine zY rfl ?_) | refine zY (by decide) ?_ | refine zN (by decide) ?_ | with_reducible refine zQ ?_); (conv => whnf))))
    refine aloads (l := [i64v 0, i64v 0, .slice 1 [] .full]) (upd_same _ _ _) (by exact Nat.le_refl 3) rfl ?_
    ((conv => whnf); (repeat ((first | with_reducible (first | refine zT rfl ?_ | refine zF rfl ?_ | refine zY rfl ?_) | refine zY (by decide) ?_ | refine zN (by decide) ?_ | with_reducible refine zQ ?_); (conv => whnf))))
    exact aret_pk ((Sub.upd hs id _).trans (Sub.upd_fresh _ hid)) ⟨by rw [eq]; rfl, rfl⟩
  (repeat ((first | refine aload (by (repeat (first | with_reducible exact upd_same _ _ _ | assumption | rw [upd_ne _ _ (by first | assumption | (apply Ne.symm; assumption))]))) rfl ?_ | refine afit_i64 (by omega) ?_ | refine arem_nonneg (by omega) (by omega) ?_ | refine adiv_i64 (by omega) (by omega) ?_ | refine abr_yes (by omega) ?_ | refine abr_no (by omega) ?_ | refine amin ?_ | refine amax ?_ | refine afit_u64 (by omega) ?_ | refine afit_u8 (by omega) ?_ | rw [List.length_map]); ((conv => whnf); (repeat ((first | with_reducible (first | refine zT rfl ?_ | refine zF rfl ?_ | refine zY rfl ?_) | refine zY (by decide) ?_ | refine zN (by decide) ?_ | with_reducible refine zQ ?_); (conv => whnf))))))
  refine acall (uHead w _ (by omega)) ?_
  rintro _ σ_ ⟨rfl, e_⟩
  obtain rfl := e_.symm
  refine ⟨?_, Ext.refl _⟩
  ((conv => whnf); (repeat ((first | with_reducible (first | refine zT rfl ?_ | refine zF rfl ?_ | refine zY rfl ?_) | refine zY (by decide) ?_ | refine zN (by decide) ?_ | with_reducible refine zQ ?_); (conv => whnf))))
  (repeat ((first | refine aload (by (repeat (first | with_reducible exact upd_same _ _ _ | assumption | rw [upd_ne _ _ (by first | assumption | (apply Ne.symm; assumption))]))) rfl ?_ | refine afit_i64 (by omega) ?_ | refine arem_nonneg (by omega) (by omega) ?_ | refine adiv_i64 (by omega) (by omega) ?_ | refine abr_yes (by omega) ?_ | refine abr_no (by omega) ?_ | refine amin ?_ | refine amax ?_ | refine afit_u64 (by omega) ?_ | refine afit_u8 (by omega) ?_ | rw [List.length_map]); ((conv => whnf); (repeat ((first | with_reducible (first | refine zT rfl ?_ | refine zF rfl ?_ | refine zY rfl ?_) | refine zY (by decide) ?_ | refine zN (by decide) ?_ | with_reducible refine zQ ?_); (conv => whnf))))))
  by_cases h2 : (b.length : Int) < w / 5
  · have eq : readU b w = (none3, 8) := by unfold readU; rw [hw, if_neg (by simp), if_neg h1, if_pos h2]
    (repeat ((first | refine aload (by (repeat (first | with_reducible exact upd_same _ _ _ | assumption | rw [upd_ne _ _ (by first | assumption | (apply Ne.symm; assumption))]))) rfl ?_ | refine afit_i64 (by omega) ?_ | refine arem_nonneg (by omega) (by omega) ?_ | refine adiv_i64 (by omega) (by omega) ?_ | refine abr_yes (by omega) ?_ | refine abr_no (by omega) ?_ | refine amin ?_ | refine amax ?_ | refine afit_u64 (by omega) ?_ | refine afit_u8 (by omega) ?_ | rw [List.length_map]); ((conv => whnf); (repeat ((first | with_reducible (first | refine zT rfl ?_ | refine zF rfl ?_ | refine zY rfl ?_) | refine zY (by decide) ?_ | refine zN (by decide) ?_ | with_reducible refine zQ ?_); (conv => whnf))))))
    refine astore (xs := [i64v 0, i64v 0, .slice 1 [] .full]) (l := [i64v 0, i64v 0, .slice 1 [] .full]) hc0 (Nat.le_of_ble_eq_true rfl) rfl rfl ?_
    ((conv => whnf); (repeat ((first | with_reducible (first | refine zT rfl ?_ | refine zF rfl ?_ | refine zY rfl ?_) | refine zY (by decide) ?_ | refine zN (by decide) ?_ | with_reducible refine zQ ?_); (conv => whnf))))
    refine aloads (l := [i64v 0, i64v 0, .slice 1 [] .full]) (upd_same _ _ _) (by exact Nat.le_refl 3) rfl ?_
    ((conv => whnf); (repeat ((first | with_reducible (first | refine zT rfl ?_ | refine zF rfl ?_ | refine zY rfl ?_) | refine zY (by decide) ?_ | refine zN (by decide) ?_ | with_reducible refine zQ ?_); (conv => whnf))))
    exact aret_pk ((Sub.upd hs id _).trans (Sub.upd_fresh _ hid)) ⟨by rw [eq]; rfl, rfl⟩
  (repeat ((first | refine aload (by (repeat (first | with_reducible exact upd_same _ _ _ | assumption | rw [upd_ne _ _ (by first | assumption | (apply Ne.symm; assumption))]))) rfl ?_ | refine afit_i64 (by omega) ?_ | refine arem_nonneg (by omega) (by omega) ?_ | refine adiv_i64 (by omega) (by omega) ?_ | refine abr_yes (by omega) ?_ | refine abr_no (by omega) ?_ | refine amin ?_ | refine amax ?_ | refine afit_u64 (by omega) ?_ | refine afit_u8 (by omega) ?_ | rw [List.length_map]); ((conv => whnf); (repeat ((first | with_reducible (first | refine zT rfl ?_ | refine zF rfl ?_ | refine zY rfl ?_) | refine zY (by decide) ?_ | refine zN (by decide) ?_ | with_reducible refine zQ ?_); (conv => whnf))))))
  refine acall (rRead b _ _ (by omega)) ?_
  rintro _ σ1 ⟨rid, rfl, r1⟩
  refine ⟨?_, r1.ext⟩
  rw [List.take_of_length_le (by omega)] at r1
  ((conv => whnf); (repeat ((first | with_reducible (first | refine zT rfl ?_ | refine zF rfl ?_ | refine zY rfl ?_) | refine zY (by decide) ?_ | refine zN (by decide) ?_ | with_reducible refine zQ ?_); (conv => whnf))))
  refine acall (uHead w _ (by omega)) ?_
  rintro _ σ_ ⟨rfl, e_⟩
  obtain rfl := e_.symm
  refine ⟨?_, Ext.refl _⟩
  ((conv => whnf); (repeat ((first | with_reducible (first | refine zT rfl ?_ | refine zF rfl ?_ | refine zY rfl ?_) | refine zY (by decide) ?_ | refine zN (by decide) ?_ | with_reducible refine zQ ?_); (conv => whnf))))
  (repeat ((first | refine aload (by (repeat (first | with_reducible exact upd_same _ _ _ | assumption | rw [upd_ne _ _ (by first | assumption | (apply Ne.symm; assumption))]))) rfl ?_ | refine afit_i64 (by omega) ?_ | refine arem_nonneg (by omega) (by omega) ?_ | refine adiv_i64 (by omega) (by omega) ?_ | refine abr_yes (by omega) ?_ | refine abr_no (by omega) ?_ | refine amin ?_ | refine amax ?_ | refine afit_u64 (by omega) ?_ | refine afit_u8 (by omega) ?_ | rw [List.length_map]); ((conv => whnf); (repeat ((first | with_reducible (first | refine zT rfl ?_ | refine zF rfl ?_ | refine zY rfl ?_) | refine zY (by decide) ?_ | refine zN (by decide) ?_ | with_reducible refine zQ ?_); (conv => whnf))))))
  have hz : zeros w ≤ 3 := by unfold zeros; split <;> omega
  have hz2 : (8 : Int) * (w / 5) - 3 - w = ((zeros w : Nat) : Int) := by
    unfold zeros
    rcases hw2 with rfl | rfl
    · rfl
    · rfl
  obtain ⟨W, rfl⟩ : ∃ W : Nat, w = W := ⟨w.toNat, by omega⟩
  have hlen : zeros (W : Int) + 3 + W ≤ 8 * b.length := by omega
  have hul := unpack_length b
  rw [hz2]
  have c1 : getCode (8 * b.length) 0 ((zeros (W : Int) : Nat) : Int) = 0 := getCode_fine (by omega) (by omega)
  refine acall (rGet rid b 0 ((zeros (W : Int) : Nat) : Int) _ _ r1) ?_
  rintro _ σ2 ⟨rfl, r2⟩
  rw [getAt_fine c1, Int.toNat_natCast, Nat.zero_add] at r2
  rw [c1, getVal_fine (by rw [hul]; exact c1), Int.toNat_natCast, List.drop_zero]
  ((conv => whnf); (repeat ((first | with_reducible (first | refine zT rfl ?_ | refine zF rfl ?_ | refine zY rfl ?_) | refine zY (by decide) ?_ | refine zN (by decide) ?_ | with_reducible refine zQ ?_); (conv => whnf))))
  have c2 : getCode (8 * b.length) (zeros (W : Int)) 2 = 0 := getCode_fine (by omega) (by omega)
  refine acall (rGet rid b (zeros (W : Int)) 2 _ _ r2) ?_
  rintro _ σ3 ⟨rfl, r3⟩
  rw [getAt_fine c2, show (2 : Int).toNat = 2 from rfl] at r3
  rw [c2, getVal_fine (by rw [hul]; exact c2), show (2 : Int).toNat = 2 from rfl]
  ((conv => whnf); (repeat ((first | with_reducible (first | refine zT rfl ?_ | refine zF rfl ?_ | refine zY rfl ?_) | refine zY (by decide) ?_ | refine zN (by decide) ?_ | with_reducible refine zQ ?_); (conv => whnf))))
  have c3 : getCode (8 * b.length) (zeros (W : Int) + 2) 1 = 0 := getCode_fine (by omega) (by omega)
  refine acall (rGet rid b (zeros (W : Int) + 2) 1 _ _ r3) ?_
  rintro _ σ4 ⟨rfl, r4⟩
  rw [getAt_fine c3, show (1 : Int).toNat = 1 from rfl] at r4
  rw [c3, getVal_fine (by rw [hul]; exact c3), show (1 : Int).toNat = 1 from rfl, take_one (by omega)]
  ((conv => whnf); (repeat ((first | with_reducible (first | refine zT rfl ?_ | refine zF rfl ?_ | refine zY rfl ?_) | refine zY (by decide) ?_ | refine zN (by decide) ?_ | with_reducible refine zQ ?_); (conv => whnf))))
  have c4 : getCode (8 * b.length) (zeros (W : Int) + 2 + 1) (W : Int) = 0 := getCode_fine (by omega) (by omega)
  refine acall (rGet rid b (zeros (W : Int) + 2 + 1) (W : Int) _ _ r4) ?_
  rintro _ σ5 ⟨rfl, r5⟩
  rw [c4, getVal_fine (by rw [hul]; exact c4), Int.toNat_natCast]
  ((conv => whnf); (repeat ((first | with_reducible (first | refine zT rfl ?_ | refine zF rfl ?_ | refine zY rfl ?_) | refine zY (by decide) ?_ | refine zN (by decide) ?_ | with_reducible refine zQ ?_); (conv => whnf))))
  have hs5 : Sub σ5 σ0 := r5.sub
  have hc5 : σ5 id = some (.cells [i64v 0, i64v 0, .slice 1 [] .full]) := hs5 _ _ hc0
  have hfi : val 0 (((unpack b).drop (zeros (W : Int))).take 2) = umFi b (W : Int) := rfl
  have hsn : val 0 (((unpack b).drop (zeros (W : Int) + 2 + 1)).take W) = umSn b (W : Int) := by unfold umSn; rw [Int.toNat_natCast]
  have hmo : bitD (unpack b) (zeros (W : Int) + 2) = umMoreB b (W : Int) := rfl
  have hfl : umFi b (W : Int) < 4 := by
    have := val_lt (((unpack b).drop (zeros (W : Int))).take 2)
    have h2 : (((unpack b).drop (zeros (W : Int))).take 2).length = 2 := by rw [List.length_take, List.length_drop]; omega
    rw [h2] at this; exact this
  have hsl : umSn b (W : Int) < 2 ^ 10 := by
    rw [← hsn]
    have := val_lt (((unpack b).drop (zeros (W : Int) + 2 + 1)).take W)
    refine Nat.lt_of_lt_of_le this (Nat.pow_le_pow_right (by omega) ?_)
    rw [List.length_take]; omega
  rw [hfi, hsn, hmo]
  by_cases h3 : val 0 ((unpack b).take (zeros (W : Int))) = 0
  case neg =>
    have eq : readU b (W : Int) = (none3, 3) := by unfold readU; rw [hw, if_neg (by simp), if_neg h1, if_neg h2, if_pos h3]
    refine abr_yes (by omega) ?_
    ((conv => whnf); (repeat ((first | with_reducible (first | refine zT rfl ?_ | refine zF rfl ?_ | refine zY rfl ?_) | refine zY (by decide) ?_ | refine zN (by decide) ?_ | with_reducible refine zQ ?_); (conv => whnf))))
    refine astore (xs := [i64v 0, i64v 0, .slice 1 [] .full]) (l := [i64v 0, i64v 0, .slice 1 [] .full]) hc5 (Nat.le_of_ble_eq_true rfl) rfl rfl ?_
    ((conv => whnf); (repeat ((first | with_reducible (first | refine zT rfl ?_ | refine zF rfl ?_ | refine zY rfl ?_) | refine zY (by decide) ?_ | refine zN (by decide) ?_ | with_reducible refine zQ ?_); (conv => whnf))))
    refine aloads (l := [i64v 0, i64v 0, .slice 1 [] .full]) (upd_same _ _ _) (by exact Nat.le_refl 3) rfl ?_
    ((conv => whnf); (repeat ((first | with_reducible (first | refine zT rfl ?_ | refine zF rfl ?_ | refine zY rfl ?_) | refine zY (by decide) ?_ | refine zN (by decide) ?_ | with_reducible refine zQ ?_); (conv => whnf))))
    exact aret_pk ((Sub.upd (hs5.trans hs) id _).trans (Sub.upd_fresh _ hid)) ⟨by rw [eq]; rfl, rfl⟩
  refine abr_no (by omega) ?_
  ((conv => whnf); (repeat ((first | with_reducible (first | refine zT rfl ?_ | refine zF rfl ?_ | refine zY rfl ?_) | refine zY (by decide) ?_ | refine zN (by decide) ?_ | with_reducible refine zQ ?_); (conv => whnf))))
  refine acall (uHead (W : Int) _ (by omega)) ?_
  rintro _ σ_ ⟨rfl, e_⟩
  obtain rfl := e_.symm
  refine ⟨?_, Ext.refl _⟩
  ((conv => whnf); (repeat ((first | with_reducible (first | refine zT rfl ?_ | refine zF rfl ?_ | refine zY rfl ?_) | refine zY (by decide) ?_ | refine zN (by decide) ?_ | with_reducible refine zQ ?_); (conv => whnf))))
  (repeat ((first | refine aload (by (repeat (first | with_reducible exact upd_same _ _ _ | assumption | rw [upd_ne _ _ (by first | assumption | (apply Ne.symm; assumption))]))) rfl ?_ | refine afit_i64 (by omega) ?_ | refine arem_nonneg (by omega) (by omega) ?_ | refine adiv_i64 (by omega) (by omega) ?_ | refine abr_yes (by omega) ?_ | refine abr_no (by omega) ?_ | refine amin ?_ | refine amax ?_ | refine afit_u64 (by omega) ?_ | refine afit_u8 (by omega) ?_ | rw [List.length_map]); ((conv => whnf); (repeat ((first | with_reducible (first | refine zT rfl ?_ | refine zF rfl ?_ | refine zY rfl ?_) | refine zY (by decide) ?_ | refine zN (by decide) ?_ | with_reducible refine zQ ?_); (conv => whnf))))))
  refine acut (by omega) (by omega) (by omega) ?_
  ((conv => whnf); (repeat ((first | with_reducible (first | refine zT rfl ?_ | refine zF rfl ?_ | refine zY rfl ?_) | refine zY (by decide) ?_ | refine zN (by decide) ?_ | with_reducible refine zQ ?_); (conv => whnf))))
  rw [show ((b.length : Nat) : Int).toNat = b.length by omega, List.take_of_length_le (l := b.map byteV) (by rw [List.length_map]; exact Nat.le_refl _), ← List.map_drop, show b.drop ((W : Int) / 5).toNat = umRest b (W : Int) from rfl]
  have hrl : (umRest b (W : Int)).length ≤ 4000 := by unfold umRest; rw [List.length_drop]; omega
  have eq0 : readU b (W : Int) = if (lensAt b (W : Int)).2.2 ≠ 0 then (none3, (lensAt b (W : Int)).2.2) else if (umCut b (W : Int)).2 ≠ 0 then (none3, (umCut b (W : Int)).2) else ((umFi b (W : Int), umSn b (W : Int), (umCut b (W : Int)).1), 0) := by
    unfold readU; rw [hw, if_neg (by simp), if_neg h1, if_neg h2, if_neg (fun h => h h3)]
  generalize umFi b (W : Int) = fi at *
  generalize umSn b (W : Int) = sn at *
  cases hm : umMoreB b (W : Int) with
  | true =>
    have hla : lensAt b (W : Int) = readV (umRest b (W : Int)) 11 := by unfold lensAt; rw [if_pos hm]
    have hcut : umCut b (W : Int) = cutF (readV (umRest b (W : Int)) 11).1 ((umRest b (W : Int)).drop (readV (umRest b (W : Int)) 11).2.1.toNat) [] := by unfold umCut; rw [hla]
    rw [hla] at eq0
    ((conv => whnf); (repeat ((first | with_reducible (first | refine zT rfl ?_ | refine zF rfl ?_ | refine zY rfl ?_) | refine zY (by decide) ?_ | refine zN (by decide) ?_ | with_reducible refine zQ ?_); (conv => whnf))))
    refine acall (lRead (umRest b (W : Int)) _ 11 _ (by omega)) ?_
    rintro _ σ_ ⟨rfl, e_⟩
    obtain rfl := e_.symm
    refine ⟨?_, Ext.refl _⟩
    ((conv => whnf); (repeat ((first | with_reducible (first | refine zT rfl ?_ | refine zF rfl ?_ | refine zY rfl ?_) | refine zY (by decide) ?_ | refine zN (by decide) ?_ | with_reducible refine zQ ?_); (conv => whnf))))
    have hlen23 := readV_len (umRest b (W : Int)) 11
    by_cases h4 : (readV (umRest b (W : Int)) 11).2.2 = 0
    case neg =>
      have eq : readU b (W : Int) = (none3, (readV (umRest b (W : Int)) 11).2.2) := by rw [eq0, if_pos h4]
      refine abr_yes h4 ?_
      ((conv => whnf); (repeat ((first | with_reducible (first | refine zT rfl ?_ | refine zF rfl ?_ | refine zY rfl ?_) | refine zY (by decide) ?_ | refine zN (by decide) ?_ | with_reducible refine zQ ?_); (conv => whnf))))
      refine astore (xs := [i64v 0, i64v 0, .slice 1 [] .full]) (l := [i64v 0, i64v 0, .slice 1 [] .full]) hc5 (Nat.le_of_ble_eq_true rfl) rfl rfl ?_
      ((conv => whnf); (repeat ((first | with_reducible (first | refine zT rfl ?_ | refine zF rfl ?_ | refine zY rfl ?_) | refine zY (by decide) ?_ | refine zN (by decide) ?_ | with_reducible refine zQ ?_); (conv => whnf))))
      refine aloads (l := [i64v 0, i64v 0, .slice 1 [] .full]) (upd_same _ _ _) (by exact Nat.le_refl 3) rfl ?_
      ((conv => whnf); (repeat ((first | with_reducible (first | refine zT rfl ?_ | refine zF rfl ?_ | refine zY rfl ?_) | refine zY (by decide) ?_ | refine zN (by decide) ?_ | with_reducible refine zQ ?_); (conv => whnf))))
      exact aret_pk ((Sub.upd (hs5.trans hs) id _).trans (Sub.upd_fresh _ hid)) ⟨by rw [eq]; rfl, rfl⟩
    obtain ⟨q1, q2, q3⟩ := readV_ok h4
    rw [h4] at eq0
    refine abr_no (fun h => h h4) ?_
    ((conv => whnf); (repeat ((first | with_reducible (first | refine zT rfl ?_ | refine zF rfl ?_ | refine zY rfl ?_) | refine zY (by decide) ?_ | refine zN (by decide) ?_ | with_reducible refine zQ ?_); (conv => whnf))))
    rw [List.length_map]
    refine acut (by omega) (by omega) (by omega) ?_
    ((conv => whnf); (repeat ((first | with_reducible (first | refine zT rfl ?_ | refine zF rfl ?_ | refine zY rfl ?_) | refine zY (by decide) ?_ | refine zN (by decide) ?_ | with_reducible refine zQ ?_); (conv => whnf))))
    rw [show (((umRest b (W : Int)).length : Nat) : Int).toNat = (umRest b (W : Int)).length by omega, List.take_of_length_le (l := (umRest b (W : Int)).map byteV) (by rw [List.length_map]; exact Nat.le_refl _), ← List.map_drop]
    refine acall (uFields ((umRest b (W : Int)).drop (readV (umRest b (W : Int)) 11).2.1.toNat) (readV (umRest b (W : Int)) 11).1 _ .none _ (by rw [List.length_drop]; omega) (by omega) q1) ?_
    rintro _ σ_ ⟨rfl, e_⟩
    obtain rfl := e_.symm
    refine ⟨?_, Ext.refl _⟩
    ((conv => whnf); (repeat ((first | with_reducible (first | refine zT rfl ?_ | refine zF rfl ?_ | refine zY rfl ?_) | refine zY (by decide) ?_ | refine zN (by decide) ?_ | with_reducible refine zQ ?_); (conv => whnf))))
    rw [← hcut]
    by_cases h5 : (umCut b (W : Int)).2 = 0
    case neg =>
      have eq : readU b (W : Int) = (none3, (umCut b (W : Int)).2) := by rw [eq0, if_neg (by simp), if_pos h5]
      refine abr_yes h5 ?_
      ((conv => whnf); (repeat ((first | with_reducible (first | refine zT rfl ?_ | refine zF rfl ?_ | refine zY rfl ?_) | refine zY (by decide) ?_ | refine zN (by decide) ?_ | with_reducible refine zQ ?_); (conv => whnf))))
      refine astore (xs := [i64v 0, i64v 0, .slice 1 [] .full]) (l := [i64v 0, i64v 0, .slice 1 [] .full]) hc5 (Nat.le_of_ble_eq_true rfl) rfl rfl ?_
      ((conv => whnf); (repeat ((first | with_reducible (first | refine zT rfl ?_ | refine zF rfl ?_ | refine zY rfl ?_) | refine zY (by decide) ?_ | refine zN (by decide) ?_ | with_reducible refine zQ ?_); (conv => whnf))))
      refine aloads (l := [i64v 0, i64v 0, .slice 1 [] .full]) (upd_same _ _ _) (by exact Nat.le_refl 3) rfl ?_
      ((conv => whnf); (repeat ((first | with_reducible (first | refine zT rfl ?_ | refine zF rfl ?_ | refine zY rfl ?_) | refine zY (by decide) ?_ | refine zN (by decide) ?_ | with_reducible refine zQ ?_); (conv => whnf))))
      exact aret_pk ((Sub.upd (hs5.trans hs) id _).trans (Sub.upd_fresh _ hid)) ⟨by rw [eq]; rfl, rfl⟩
    have eq : readU b (W : Int) = ((fi, sn, (umCut b (W : Int)).1), 0) := by rw [eq0, if_neg (by simp), if_neg (fun h => h h5)]
    refine abr_no (fun h => h h5) ?_
    ((conv => whnf); (repeat ((first | with_reducible (first | refine zT rfl ?_ | refine zF rfl ?_ | refine zY rfl ?_) | refine zY (by decide) ?_ | refine zN (by decide) ?_ | with_reducible refine zQ ?_); (conv => whnf))))
    (repeat ((first | refine aload (by (repeat (first | with_reducible exact upd_same _ _ _ | assumption | rw [upd_ne _ _ (by first | assumption | (apply Ne.symm; assumption))]))) rfl ?_ | refine afit_i64 (by omega) ?_ | refine arem_nonneg (by omega) (by omega) ?_ | refine adiv_i64 (by omega) (by omega) ?_ | refine abr_yes (by omega) ?_ | refine abr_no (by omega) ?_ | refine amin ?_ | refine amax ?_ | refine afit_u64 (by omega) ?_ | refine afit_u8 (by omega) ?_ | rw [List.length_map]); ((conv => whnf); (repeat ((first | with_reducible (first | refine zT rfl ?_ | refine zF rfl ?_ | refine zY rfl ?_) | refine zY (by decide) ?_ | refine zN (by decide) ?_ | with_reducible refine zQ ?_); (conv => whnf))))))
    refine astore (xs := [i64v fi, i64v sn, lists .none (umCut b (W : Int)).1]) (l := [i64v fi, i64v sn, lists .none (umCut b (W : Int)).1]) hc5 (Nat.le_of_ble_eq_true rfl) rfl rfl ?_
    ((conv => whnf); (repeat ((first | with_reducible (first | refine zT rfl ?_ | refine zF rfl ?_ | refine zY rfl ?_) | refine zY (by decide) ?_ | refine zN (by decide) ?_ | with_reducible refine zQ ?_); (conv => whnf))))
    refine aloads (l := [i64v fi, i64v sn, lists .none (umCut b (W : Int)).1]) (upd_same _ _ _) (by exact Nat.le_refl 3) rfl ?_
    ((conv => whnf); (repeat ((first | with_reducible (first | refine zT rfl ?_ | refine zF rfl ?_ | refine zY rfl ?_) | refine zY (by decide) ?_ | refine zN (by decide) ?_ | with_reducible refine zQ ?_); (conv => whnf))))
    exact aret_pk ((Sub.upd (hs5.trans hs) id _).trans (Sub.upd_fresh _ hid)) ⟨by rw [eq], rfl⟩
  | false =>
    have hla : lensAt b (W : Int) = ([], 0, 0) := by unfold lensAt; rw [hm]; rfl
    have hcut : umCut b (W : Int) = cutF [] (umRest b (W : Int)) [] := by unfold umCut; rw [hla]; rfl
    rw [hla] at eq0
    ((conv => whnf); (repeat ((first | with_reducible (first | refine zT rfl ?_ | refine zF rfl ?_ | refine zY rfl ?_) | refine zY (by decide) ?_ | refine zN (by decide) ?_ | with_reducible refine zQ ?_); (conv => whnf))))
    refine acall (uFields (umRest b (W : Int)) [] _ .full _ (by omega) (by simp) (by simp)) ?_
    rintro _ σ_ ⟨rfl, e_⟩
    obtain rfl := e_.symm
    refine ⟨?_, Ext.refl _⟩
    ((conv => whnf); (repeat ((first | with_reducible (first | refine zT rfl ?_ | refine zF rfl ?_ | refine zY rfl ?_) | refine zY (by decide) ?_ | refine zN (by decide) ?_ | with_reducible refine zQ ?_); (conv => whnf))))
    rw [← hcut]
    by_cases h5 : (umCut b (W : Int)).2 = 0
    case neg =>
      have eq : readU b (W : Int) = (none3, (umCut b (W : Int)).2) := by rw [eq0, if_neg (by simp), if_pos h5]
      refine abr_yes h5 ?_
      ((conv => whnf); (repeat ((first | with_reducible (first | refine zT rfl ?_ | refine zF rfl ?_ | refine zY rfl ?_) | refine zY (by decide) ?_ | refine zN (by decide) ?_ | with_reducible refine zQ ?_); (conv => whnf))))
      refine astore (xs := [i64v 0, i64v 0, .slice 1 [] .full]) (l := [i64v 0, i64v 0, .slice 1 [] .full]) hc5 (Nat.le_of_ble_eq_true rfl) rfl rfl ?_
      ((conv => whnf); (repeat ((first | with_reducible (first | refine zT rfl ?_ | refine zF rfl ?_ | refine zY rfl ?_) | refine zY (by decide) ?_ | refine zN (by decide) ?_ | with_reducible refine zQ ?_); (conv => whnf))))
      refine aloads (l := [i64v 0, i64v 0, .slice 1 [] .full]) (upd_same _ _ _) (by exact Nat.le_refl 3) rfl ?_
      ((conv => whnf); (repeat ((first | with_reducible (first | refine zT rfl ?_ | refine zF rfl ?_ | refine zY rfl ?_) | refine zY (by decide) ?_ | refine zN (by decide) ?_ | with_reducible refine zQ ?_); (conv => whnf))))
      exact aret_pk ((Sub.upd (hs5.trans hs) id _).trans (Sub.upd_fresh _ hid)) ⟨by rw [eq]; rfl, rfl⟩
    have eq : readU b (W : Int) = ((fi, sn, (umCut b (W : Int)).1), 0) := by rw [eq0, if_neg (by simp), if_neg (fun h => h h5)]
    refine abr_no (fun h => h h5) ?_
    ((conv => whnf); (repeat ((first | with_reducible (first | refine zT rfl ?_ | refine zF rfl ?_ | refine zY rfl ?_) | refine zY (by decide) ?_ | refine zN (by decide) ?_ | with_reducible refine zQ ?_); (conv => whnf))))
    (repeat ((first | refine aload (by (repeat (first | with_reducible exact upd_same _ _ _ | assumption | rw [upd_ne _ _ (by first | assumption | (apply Ne.symm; assumption))]))) rfl ?_ | refine afit_i64 (by omega) ?_ | refine arem_nonneg (by omega) (by omega) ?_ | refine adiv_i64 (by omega) (by omega) ?_ | refine abr_yes (by omega) ?_ | refine abr_no (by omega) ?_ | refine amin ?_ | refine amax ?_ | refine afit_u64 (by omega) ?_ | refine afit_u8 (by omega) ?_ | rw [List.length_map]); ((conv => whnf); (repeat ((first | with_reducible (first | refine zT rfl ?_ | refine zF rfl ?_ | refine zY rfl ?_) | refine zY (by decide) ?_ | refine zN (by decide) ?_ | with_reducible refine zQ ?_); (conv => whnf))))))
    refine astore (xs := [i64v fi, i64v sn, lists .none (umCut b (W : Int)).1]) (l := [i64v fi, i64v sn, lists .none (umCut b (W : Int)).1]) hc5 (Nat.le_of_ble_eq_true rfl) rfl rfl ?_
    ((conv => whnf); (repeat ((first | with_reducible (first | refine zT rfl ?_ | refine zF rfl ?_ | refine zY rfl ?_) | refine zY (by decide) ?_ | refine zN (by decide) ?_ | with_reducible refine zQ ?_); (conv => whnf))))
    refine aloads (l := [i64v fi, i64v sn, lists .none (umCut b (W : Int)).1]) (upd_same _ _ _) (by exact Nat.le_refl 3) rfl ?_
    ((conv => whnf); (repeat ((first | with_reducible (first | refine zT rfl ?_ | refine zF rfl ?_ | refine zY rfl ?_) | refine zY (by decide) ?_ | refine zN (by decide) ?_ | with_reducible refine zQ ?_); (conv => whnf))))
    exact aret_pk ((Sub.upd (hs5.trans hs) id _).trans (Sub.upd_fresh _ hid)) ⟨by rw [eq], rfl⟩
end Go.Proofs.Ytgipkpghabelkaa
/-
  Views of rows of bytes that (repeat ((first | refine aload (by (repeat (first | with_reducible exact upd_same _ _ _ | assumption | rw [upd_ne _ _ (by first | assumption | (apply Ne.symm; assumption))]))) rfl ?_ | refine afit_i64 (by omega) ?_ | refine arem_nonneg (by omega) (by omega) ?_ | refine adiv_i64 (by omega) (by omega) ?_ | refine abr_yes (by omega) ?_ | refine abr_no (by omega) ?_ | refine amin ?_ | refine amax ?_ | refine afit_u64 (by omega) ?_ | refine afit_u8 (by omega) ?_ | rw [List.length_map]); ((conv => whnf); (repeat ((first | with_reducible (first | refine zT rfl ?_ | refine zF rfl ?_ | refine zY rfl ?_) | refine zY (by decide) ?_ | refine zN (by decide) ?_ | with_reducible refine zQ ?_); (conv => whnf)))))) on being stored into: what is read of them.
-/
namespace Go.Proofs.Ytgipkpghabelkaa
set_option linter.unusedVariables false
set_option linter.unusedSimpArgs false
open Go Go.Am

/-- A view of a row's bytes, of which some may lie ahead or behind. -/
def MsV (σ : AHeap) (r off : Nat) (b : List UInt8) : Prop := ∃ bs : List UInt8, σ r = some (.cells (bs.map byteV)) ∧ off + b.length ≤ bs.length ∧ (bs.drop off).take b.length = b
theorem MsV.sub {σ σ' : AHeap} {r off : Nat} {b : List UInt8} (h : MsV σ r off b) (k : Sub σ' σ) : MsV σ' r off b := by
  obtain ⟨bs, h1, h2, h3⟩ := h; exact ⟨bs, k _ _ h1, h2, h3⟩
theorem MsV.cut {σ : AHeap} {r off : Nat} {b : List UInt8} (h : MsV σ r off b) {l n : Nat} (hn : l ≤ n) (hl : n ≤ b.length) : MsV σ r (off + l) ((b.take n).drop l) := by
  obtain ⟨bs, h1, h2, h3⟩ := h
  have hlen : ((b.take n).drop l).length = n - l := by rw [List.length_drop, List.length_take]; omega
  refine ⟨bs, h1, by omega, ?_⟩
  rw [hlen]
  conv => rhs; rw [← h3]
  rw [List.take_take, Nat.min_eq_left hl, List.drop_take, List.drop_drop]
theorem CloneW (r off : Nat) (b : List UInt8) (σ : AHeap) (hs : MsV σ r off b) (hl : b.length ≤ 140737488355328) : ACalls Try.prog i_slices_Clone_byte_byte [.ms r 1 off b.length] σ fun v σ' => ∃ tk, Owned σ σ' tk ∧ v = sl tk b := by
  obtain ⟨bs, h1, h2, h3⟩ := hs
  refine k_slices_Clone_byte_byte rfl ?_
  ((conv => whnf); (repeat ((first | with_reducible (first | refine zT rfl ?_ | refine zF rfl ?_ | refine zY rfl ?_) | refine zY (by decide) ?_ | refine zN (by decide) ?_ | with_reducible refine zQ ?_); (conv => whnf))))
  refine ⟨⟨_, h1, by rw [List.length_map]; omega, ?_⟩⟩
  rw [← List.map_drop, ← List.map_take, h3]
  refine aapp_full (by rw [List.length_map]; simp; omega) fun t' ht' => ?_
  ((conv => whnf); (repeat ((first | with_reducible (first | refine zT rfl ?_ | refine zF rfl ?_ | refine zY rfl ?_) | refine zY (by decide) ?_ | refine zN (by decide) ?_ | with_reducible refine zQ ?_); (conv => whnf))))
  exact aret_same ⟨_, .tip ht', rfl⟩
/-- Bytes that are given: as they are, or as a view of a row. -/
def Src (σ : AHeap) (v : AVal) (b : List UInt8) : Prop := (∃ t, v = sl t b) ∨ ∃ r off, v = .ms r 1 off b.length ∧ MsV σ r off b
theorem Src.sub {σ σ' : AHeap} {v : AVal} {b : List UInt8} (h : Src σ v b) (k : Sub σ' σ) : Src σ' v b := by
  rcases h with h | ⟨r, off, h, m⟩
  · exact .inl h
  · exact .inr ⟨r, off, h, m.sub k⟩
theorem acutm {σ : AHeap} {r off l n : Nat} {b : List UInt8} {K : AVal → Prop} (hs : MsV σ r off b) (hl : l ≤ n) (hn : n ≤ b.length) (h : ∀ v, Src σ v ((b.take n).drop l) → K v) : ACutM r 1 off l n K := by
  have hlen : ((b.take n).drop l).length = n - l := by rw [List.length_drop, List.length_take]; omega
  refine ⟨?_⟩
  by_cases e : l < n
  · refine .inl ⟨e, h _ (.inr ⟨r, off + l, by rw [hlen, Nat.mul_one], hs.cut hl hn⟩)⟩
  · refine .inr (.inr ⟨by omega, h _ (.inl ⟨.none, ?_⟩)⟩)
    rw [List.length_eq_zero_iff.1 (by omega : ((b.take n).drop l).length = 0)]; rfl
theorem CloneS (v : AVal) (b : List UInt8) (σ : AHeap) (hs : Src σ v b) (hl : b.length ≤ 140737488355328) : ACalls Try.prog i_slices_Clone_byte_byte [v] σ fun v σ' => ∃ tk, Owned σ σ' tk ∧ v = sl tk b := by
  rcases hs with ⟨t, rfl⟩ | ⟨r, off, rfl, m⟩
  · exact Clone b _ _ hl
  · exact CloneW r off b σ m hl
theorem rReadS (v : AVal) (b : List UInt8) (σ : AHeap) (hs : Src σ v b) (hl : b.length ≤ 140737488355328) : ACalls Try.prog i_bits_Read [v] σ fun v σ' => ∃ id, v = .ptr id 0 ∧ Rd σ' id (b.take 8192) 0 σ := by
  rcases hs with ⟨t, rfl⟩ | ⟨r, off, rfl, m⟩
  · exact rRead b t σ hl
  refine k_bits_Read rfl ?_
  ((conv => whnf); (repeat ((first | with_reducible (first | refine zT rfl ?_ | refine zF rfl ?_ | refine zY rfl ?_) | refine zY (by decide) ?_ | refine zN (by decide) ?_ | with_reducible refine zQ ?_); (conv => whnf))))
  (repeat ((first | refine aload (by (repeat (first | with_reducible exact upd_same _ _ _ | assumption | rw [upd_ne _ _ (by first | assumption | (apply Ne.symm; assumption))]))) rfl ?_ | refine afit_i64 (by omega) ?_ | refine arem_nonneg (by omega) (by omega) ?_ | refine adiv_i64 (by omega) (by omega) ?_ | refine abr_yes (by omega) ?_ | refine abr_no (by omega) ?_ | refine amin ?_ | refine amax ?_ | refine afit_u64 (by omega) ?_ | refine afit_u8 (by omega) ?_ | rw [List.length_map]); ((conv => whnf); (repeat ((first | with_reducible (first | refine zT rfl ?_ | refine zF rfl ?_ | refine zY rfl ?_) | refine zY (by decide) ?_ | refine zN (by decide) ?_ | with_reducible refine zQ ?_); (conv => whnf))))))
  refine acut (by omega) (by omega) (by omega) ?_
  ((conv => whnf); (repeat ((first | with_reducible (first | refine zT rfl ?_ | refine zF rfl ?_ | refine zY rfl ?_) | refine zY (by decide) ?_ | refine zN (by decide) ?_ | with_reducible refine zQ ?_); (conv => whnf))))
  refine ⟨rfl, rfl, ?_⟩
  ((conv => whnf); (repeat ((first | with_reducible (first | refine zT rfl ?_ | refine zF rfl ?_ | refine zY rfl ?_) | refine zY (by decide) ?_ | refine zN (by decide) ?_ | with_reducible refine zQ ?_); (conv => whnf))))
  refine acutm m (by omega) (by omega) fun v hv => ?_
  have e : (b.take (min (b.length : Int) 8192).toNat).drop (Int.toNat 0) = b.take 8192 := by
    rw [show (0 : Int).toNat = 0 from rfl, List.drop_zero, show (min (b.length : Int) 8192).toNat = min b.length 8192 by omega]
    by_cases h : b.length ≤ 8192
    · rw [Nat.min_eq_left h, List.take_of_length_le (Nat.le_refl _), List.take_of_length_le h]
    · rw [Nat.min_eq_right (by omega)]
  rw [e] at hv
  ((conv => whnf); (repeat ((first | with_reducible (first | refine zT rfl ?_ | refine zF rfl ?_ | refine zY rfl ?_) | refine zY (by decide) ?_ | refine zN (by decide) ?_ | with_reducible refine zQ ?_); (conv => whnf))))
  refine acall (CloneS v (b.take 8192) _ hv (by rw [List.length_take]; omega)) ?_
  rintro v σ' ⟨tk, ho, rfl⟩
  refine ⟨?_, ho.ext⟩
  ((conv => whnf); (repeat ((first | with_reducible (first | refine zT rfl ?_ | refine zF rfl ?_ | refine zY rfl ?_) | refine zY (by decide) ?_ | refine zN (by decide) ?_ | with_reducible refine zQ ?_); (conv => whnf))))
  refine anew rfl fun id hid => ?_
  ((conv => whnf); (repeat ((first | with_reducible (first | refine zT rfl ?_ | refine zF rfl ?_ | refine zY rfl ?_) | refine zY (by decide) ?_ | refine zN (by decide) ?_ | with_reducible refine zQ ?_); (conv => whnf))))
  have hσ : σ id = none := by
    rcases ho with ⟨_, rfl⟩ | ⟨t', h0, _, rfl⟩
    · exact hid
    · by_cases e : id = t'
      · subst e; rw [upd_same] at hid; cases hid
      · rw [upd_ne _ _ e] at hid; exact hid
  refine aret (VLe.refl _) (σ' := upd σ id (.cells [sl tk (b.take 8192), i64v 0])) ?_ ⟨id, rfl, hσ, by omega, by rw [List.length_take]; omega, tk, rfl⟩
  exact Sub.upd ho.sub id _
set_option maxRecDepth 10000 in
theorem lReadS (v0 : AVal) (b : List UInt8) (w : Int) (σ : AHeap) (hs0 : Src σ v0 b) (hl : b.length ≤ 8000) : ACalls Try.prog i_lens_Read [v0, i64v w] σ fun v σ' => v = rdRes (readV b w) ∧ σ' = σ := by
  rcases hs0 with ⟨t, rfl⟩ | ⟨r0, off0, rfl, m0⟩
  · exact lRead b t w σ hl
  refine k_lens_Read rfl ?_
  ((conv => whnf); (repeat ((first | with_reducible (first | refine zT rfl ?_ | refine zF rfl ?_ | refine zY rfl ?_) | refine zY (by decide) ?_ | refine zN (by decide) ?_ | with_reducible refine zQ ?_); (conv => whnf))))
  refine ascope' (α := Nat × List Int × Nat × Tok × AHeap × AHeap × Nat) (fun x => [(s7, ints x.2.2.2.1 x.2.1), (s8, .ptr x.2.2.2.2.2.2 0)]) (fun x => x.2.2.2.2.1) (fun _ => 0)
    (fun x => (w = 11 ∨ w = 15) ∧ x.2.1.length + (x.1 + 1) = 23 ∧ x.2.2.1 = x.2.1.length * (w.toNat + 1) ∧ rdLens (unpack (b.take ((23 * (w.toNat + 1) + 7) / 8))) w.toNat (x.1 + 1) x.2.1 x.2.2.1 = readV b w ∧
      Rd x.2.2.2.2.1 x.2.2.2.2.2.2 (b.take ((23 * (w.toNat + 1) + 7) / 8)) x.2.2.1 x.2.2.2.2.2.1 ∧ Owned σ x.2.2.2.2.2.1 x.2.2.2.1) (fun x => x.1) ?_ ?_
  · ((conv => whnf); (repeat ((first | with_reducible (first | refine zT rfl ?_ | refine zF rfl ?_ | refine zY rfl ?_) | refine zY (by decide) ?_ | refine zN (by decide) ?_ | with_reducible refine zQ ?_); (conv => whnf))))
    intro hlab
    ((conv => whnf); (repeat ((first | with_reducible (first | refine zT rfl ?_ | refine zF rfl ?_ | refine zY rfl ?_) | refine zY (by decide) ?_ | refine zN (by decide) ?_ | with_reducible refine zQ ?_); (conv => whnf))))
    refine acall (lIsWidth w _) ?_
    rintro _ σ_ ⟨rfl, e_⟩
    obtain rfl := e_.symm
    refine ⟨?_, Ext.refl _⟩
    ((conv => whnf); (repeat ((first | with_reducible (first | refine zT rfl ?_ | refine zF rfl ?_ | refine zY rfl ?_) | refine zY (by decide) ?_ | refine zN (by decide) ?_ | with_reducible refine zQ ?_); (conv => whnf))))
    by_cases hw : w = 11 ∨ w = 15
    · rw [widthOk_iff.2 hw]
      obtain ⟨W, rfl⟩ : ∃ W : Nat, w = W := ⟨w.toNat, by omega⟩
      have hW : W = 11 ∨ W = 15 := by omega
      ((conv => whnf); (repeat ((first | with_reducible (first | refine zT rfl ?_ | refine zF rfl ?_ | refine zY rfl ?_) | refine zY (by decide) ?_ | refine zN (by decide) ?_ | with_reducible refine zQ ?_); (conv => whnf))))
      refine acall (lSize 23 (W : Int) _) ?_
      rintro _ σ_ ⟨rfl, e_⟩
      obtain rfl := e_.symm
      refine ⟨?_, Ext.refl _⟩
      ((conv => whnf); (repeat ((first | with_reducible (first | refine zT rfl ?_ | refine zF rfl ?_ | refine zY rfl ?_) | refine zY (by decide) ?_ | refine zN (by decide) ?_ | with_reducible refine zQ ?_); (conv => whnf))))
      rw [show sizeV 23 (W : Int) = ((23 * (W + 1) + 7) / 8 : Nat) from sizeV_ok (n := 23) hW (by omega) (by omega)]
      have hS : (23 * (W + 1) + 7) / 8 ≤ 46 := by omega
      generalize hSe : (23 * (W + 1) + 7) / 8 = S at *
      (repeat ((first | refine aload (by (repeat (first | with_reducible exact upd_same _ _ _ | assumption | rw [upd_ne _ _ (by first | assumption | (apply Ne.symm; assumption))]))) rfl ?_ | refine afit_i64 (by omega) ?_ | refine arem_nonneg (by omega) (by omega) ?_ | refine adiv_i64 (by omega) (by omega) ?_ | refine abr_yes (by omega) ?_ | refine abr_no (by omega) ?_ | refine amin ?_ | refine amax ?_ | refine afit_u64 (by omega) ?_ | refine afit_u8 (by omega) ?_ | rw [List.length_map]); ((conv => whnf); (repeat ((first | with_reducible (first | refine zT rfl ?_ | refine zF rfl ?_ | refine zY rfl ?_) | refine zY (by decide) ?_ | refine zN (by decide) ?_ | with_reducible refine zQ ?_); (conv => whnf))))))
      refine acut (by omega) (by omega) (by omega) ?_
      ((conv => whnf); (repeat ((first | with_reducible (first | refine zT rfl ?_ | refine zF rfl ?_ | refine zY rfl ?_) | refine zY (by decide) ?_ | refine zN (by decide) ?_ | with_reducible refine zQ ?_); (conv => whnf))))
      refine acutm m0 (by omega) (by omega) fun v1 hv1 => ?_
      have e : (b.take (min (b.length : Int) (S : Int)).toNat).drop (Int.toNat 0) = b.take S := by
        rw [show (0 : Int).toNat = 0 from rfl, List.drop_zero, show (min (b.length : Int) (S : Int)).toNat = min b.length S by omega]
        by_cases h : b.length ≤ S
        · rw [Nat.min_eq_left h, List.take_of_length_le (Nat.le_refl _), List.take_of_length_le h]
        · rw [Nat.min_eq_right (by omega)]
      rw [e] at hv1
      ((conv => whnf); (repeat ((first | with_reducible (first | refine zT rfl ?_ | refine zF rfl ?_ | refine zY rfl ?_) | refine zY (by decide) ?_ | refine zN (by decide) ?_ | with_reducible refine zQ ?_); (conv => whnf))))
      refine acall (rReadS v1 (b.take S) _ hv1 (by rw [List.length_take]; omega)) ?_
      rintro _ σ1 ⟨id, rfl, r1⟩
      refine ⟨?_, r1.ext⟩
      rw [List.take_of_length_le (l := b.take S) (by rw [List.length_take]; omega)] at r1
      ((conv => whnf); (repeat ((first | with_reducible (first | refine zT rfl ?_ | refine zF rfl ?_ | refine zY rfl ?_) | refine zY (by decide) ?_ | refine zN (by decide) ?_ | with_reducible refine zQ ?_); (conv => whnf))))
      refine hlab _ (fun _ _ _ h => h) _ _ _ _ ⟨(22, [], 0, .full, σ1, σ, id), rfl, ⟨hw, rfl, by simp, ?_, ?_, .full _⟩, rfl, Sub.refl _, ?_⟩
      · dsimp only
        rw [Int.toNat_natCast, hSe]
        unfold readV
        rw [widthOk_iff.2 hw, if_neg (by simp), Int.toNat_natCast]
        have := unpack_append (b.take S) (b.drop S)
        have e2 : unpack (b.take S) = (unpack b).take (8 * S) := by
          rw [List.take_append_drop] at this
          rw [this]
          have hul := unpack_length (b.take S)
          by_cases h : b.length ≤ S
          · rw [List.drop_eq_nil_of_le h, List.take_of_length_le h]
            show _ = (unpack b ++ []).take _
            rw [List.append_nil, List.take_of_length_le]
            rw [unpack_length]; omega
          · rw [List.length_take, Nat.min_eq_left (by omega)] at hul
            rw [← hul, List.take_left]
        rw [e2]
        exact rdLens_take _ W (8 * S) (by omega) 23 [] 0 (by omega)
      · dsimp only
        rw [Int.toNat_natCast, hSe]; exact r1
      · ((conv => whnf); (repeat ((first | with_reducible (first | refine zT rfl ?_ | refine zF rfl ?_ | refine zY rfl ?_) | refine zY (by decide) ?_ | refine zN (by decide) ?_ | with_reducible refine zQ ?_); (conv => whnf))))
        (repeat' first | with_reducible exact EnvLe.refl _ | (refine EnvLe.node ?_ (by first | exact Or.inl rfl | exact Or.inr (Or.inl rfl) | exact Or.inr (Or.inr ⟨nofun, VLe.slice _ _ _⟩)) ?_))
    · have hno := widthNo hw
      rw [hno]
      ((conv => whnf); (repeat ((first | with_reducible (first | refine zT rfl ?_ | refine zF rfl ?_ | refine zY rfl ?_) | refine zY (by decide) ?_ | refine zN (by decide) ?_ | with_reducible refine zQ ?_); (conv => whnf))))
      exact aret VLe.tup_sl (Sub.refl _) ⟨by unfold readV; rw [if_pos hno]; rfl, rfl⟩
  · rintro ⟨f, out, k, tk, σ2, σ1, id⟩ ⟨hw, hf, hk, hR, r2, ho⟩
    dsimp only at hw hf hk hR r2 ho ⊢
    refine ⟨_, rfl, ?_⟩
    ((conv => whnf); (repeat ((first | with_reducible (first | refine zT rfl ?_ | refine zF rfl ?_ | refine zY rfl ?_) | refine zY (by decide) ?_ | refine zN (by decide) ?_ | with_reducible refine zQ ?_); (conv => whnf))))
    intro hlab
    obtain ⟨W, rfl⟩ : ∃ W : Nat, w = W := ⟨w.toNat, by omega⟩
    have hW : W = 11 ∨ W = 15 := by omega
    rw [Int.toNat_natCast] at hk hR r2
    generalize hB : b.take ((23 * (W + 1) + 7) / 8) = B at *
    have hul := unpack_length B
    have hBl : B.length ≤ 8000 := by rw [← hB, List.length_take]; omega
    simp only [rdLens] at hR
    have sub2 : Sub σ2 σ := r2.sub.trans ho.sub
    ((conv => whnf); (repeat ((first | with_reducible (first | refine zT rfl ?_ | refine zF rfl ?_ | refine zY rfl ?_) | refine zY (by decide) ?_ | refine zN (by decide) ?_ | with_reducible refine zQ ?_); (conv => whnf))))
    by_cases h1 : k + 1 ≤ 8 * B.length
    · have c1 : getCode (8 * B.length) k 1 = 0 := getCode_fine (by omega) (by omega)
      refine acall (rGet id B k 1 _ _ r2) ?_
      rintro _ σ3 ⟨rfl, r3⟩
      rw [getAt_fine c1] at r3
      rw [c1, getVal_fine (by rw [hul]; exact c1)]
      rw [show (1 : Int).toNat = 1 from rfl] at r3 ⊢
      rw [take_one (by omega)]
      ((conv => whnf); (repeat ((first | with_reducible (first | refine zT rfl ?_ | refine zF rfl ?_ | refine zY rfl ?_) | refine zY (by decide) ?_ | refine zN (by decide) ?_ | with_reducible refine zQ ?_); (conv => whnf))))
      by_cases h2 : k + (W + 1) ≤ 8 * B.length
      · have c2 : getCode (8 * B.length) (k + 1) (W : Int) = 0 := getCode_fine (by omega) (by omega)
        refine acall (rGet id B (k + 1) (W : Int) _ _ r3) ?_
        rintro _ σ4 ⟨rfl, r4⟩
        rw [getAt_fine c2, Int.toNat_natCast, show k + 1 + W = k + (W + 1) by omega] at r4
        rw [c2, getVal_fine (by rw [hul]; exact c2), Int.toNat_natCast]
        rw [if_neg (by omega)] at hR
        have hv := val_lt (((unpack B).drop (k + 1)).take W)
        have hv2 : ((((unpack B).drop (k + 1)).take W)).length ≤ 15 := by rw [List.length_take]; omega
        have hv3 : 2 ^ ((((unpack B).drop (k + 1)).take W)).length ≤ 2 ^ 15 := Nat.pow_le_pow_right (by omega) hv2
        generalize hn : val 0 (((unpack B).drop (k + 1)).take W) = n at *
        ((conv => whnf); (repeat ((first | with_reducible (first | refine zT rfl ?_ | refine zF rfl ?_ | refine zY rfl ?_) | refine zY (by decide) ?_ | refine zN (by decide) ?_ | with_reducible refine zQ ?_); (conv => whnf))))
        by_cases h0 : n = 0
        · rw [if_pos h0] at hR
          refine abr_yes (by omega) ?_
          ((conv => whnf); (repeat ((first | with_reducible (first | refine zT rfl ?_ | refine zF rfl ?_ | refine zY rfl ?_) | refine zY (by decide) ?_ | refine zN (by decide) ?_ | with_reducible refine zQ ?_); (conv => whnf))))
          exact aret VLe.tup_sl (r4.sub.trans ho.sub) ⟨by rw [← hR]; rfl, rfl⟩
        · rw [if_neg h0] at hR
          refine abr_no (by omega) ?_
          ((conv => whnf); (repeat ((first | with_reducible (first | refine zT rfl ?_ | refine zF rfl ?_ | refine zY rfl ?_) | refine zY (by decide) ?_ | refine zN (by decide) ?_ | with_reducible refine zQ ?_); (conv => whnf))))
          (repeat ((first | refine aload (by (repeat (first | with_reducible exact upd_same _ _ _ | assumption | rw [upd_ne _ _ (by first | assumption | (apply Ne.symm; assumption))]))) rfl ?_ | refine afit_i64 (by omega) ?_ | refine arem_nonneg (by omega) (by omega) ?_ | refine adiv_i64 (by omega) (by omega) ?_ | refine abr_yes (by omega) ?_ | refine abr_no (by omega) ?_ | refine amin ?_ | refine amax ?_ | refine afit_u64 (by omega) ?_ | refine afit_u8 (by omega) ?_ | rw [List.length_map]); ((conv => whnf); (repeat ((first | with_reducible (first | refine zT rfl ?_ | refine zF rfl ?_ | refine zY rfl ?_) | refine zY (by decide) ?_ | refine zN (by decide) ?_ | with_reducible refine zQ ?_); (conv => whnf))))))
          obtain ⟨σa, hoa, ra⟩ := swap_ro r4 ho
          refine aapp_owned hoa (by rw [List.length_map]; show (out.length + 1) * 8 ≤ _; omega) fun t' tk' ho' _ => ?_
          obtain ⟨σc, r5, hoc⟩ := swap_or ho' ra
          rw [show List.map i64v out ++ [AVal.v (Value.int IntKind.i64 ((n : Nat) : Int))] = List.map i64v (out ++ [(n : Int)]) by simp]
          have hol : (out ++ [(n : Int)]).length = out.length + 1 := by simp
          ((conv => whnf); (repeat ((first | with_reducible (first | refine zT rfl ?_ | refine zF rfl ?_ | refine zY rfl ?_) | refine zY (by decide) ?_ | refine zN (by decide) ?_ | with_reducible refine zQ ?_); (conv => whnf))))
          cases hbit : bitD (unpack B) k with
          | true =>
            rw [hbit, if_pos rfl] at hR
            ((conv => whnf); (repeat ((first | with_reducible (first | refine zT rfl ?_ | refine zF rfl ?_ | refine zY rfl ?_) | refine zY (by decide) ?_ | refine zN (by decide) ?_ | with_reducible refine zQ ?_); (conv => whnf))))
            (repeat ((first | refine aload (by (repeat (first | with_reducible exact upd_same _ _ _ | assumption | rw [upd_ne _ _ (by first | assumption | (apply Ne.symm; assumption))]))) rfl ?_ | refine afit_i64 (by omega) ?_ | refine arem_nonneg (by omega) (by omega) ?_ | refine adiv_i64 (by omega) (by omega) ?_ | refine abr_yes (by omega) ?_ | refine abr_no (by omega) ?_ | refine amin ?_ | refine amax ?_ | refine afit_u64 (by omega) ?_ | refine afit_u8 (by omega) ?_ | rw [List.length_map]); ((conv => whnf); (repeat ((first | with_reducible (first | refine zT rfl ?_ | refine zF rfl ?_ | refine zY rfl ?_) | refine zY (by decide) ?_ | refine zN (by decide) ?_ | with_reducible refine zQ ?_); (conv => whnf))))))
            rw [hol]
            by_cases hf0 : f = 0
            · rw [if_pos hf0] at hR
              refine abr_yes (by omega) ?_
              ((conv => whnf); (repeat ((first | with_reducible (first | refine zT rfl ?_ | refine zF rfl ?_ | refine zY rfl ?_) | refine zY (by decide) ?_ | refine zN (by decide) ?_ | with_reducible refine zQ ?_); (conv => whnf))))
              exact aret VLe.tup_sl (r5.sub.trans hoc.sub) ⟨by rw [← hR]; rfl, rfl⟩
            · rw [if_neg hf0] at hR
              refine abr_no (by omega) ?_
              ((conv => whnf); (repeat ((first | with_reducible (first | refine zT rfl ?_ | refine zF rfl ?_ | refine zY rfl ?_) | refine zY (by decide) ?_ | refine zN (by decide) ?_ | with_reducible refine zQ ?_); (conv => whnf))))
              obtain ⟨f', rfl⟩ : ∃ f', f = f' + 1 := ⟨f - 1, by omega⟩
              refine ⟨(f', out ++ [(n : Int)], k + (W + 1), tk', upd σa t' .tip, σc, id), rfl, ⟨hw, ?_, ?_, ?_, ?_, hoc⟩, by dsimp only; omega, Sub.refl _, ?_⟩
              · dsimp only; rw [hol]; omega
              · dsimp only; rw [hol, Nat.succ_mul, hk]
              · show rdLens (unpack (b.take ((23 * (W + 1) + 7) / 8))) W (f' + 1) _ _ = _; rw [hB]; exact hR
              · show Rd (upd σa t' .tip) id (b.take ((23 * (W + 1) + 7) / 8)) _ _; rw [hB]; exact r5
              · ((conv => whnf); (repeat ((first | with_reducible (first | refine zT rfl ?_ | refine zF rfl ?_ | refine zY rfl ?_) | refine zY (by decide) ?_ | refine zN (by decide) ?_ | with_reducible refine zQ ?_); (conv => whnf))))
                (repeat' first | with_reducible exact EnvLe.refl _ | (refine EnvLe.node ?_ (by first | exact Or.inl rfl | exact Or.inr (Or.inl rfl) | exact Or.inr (Or.inr ⟨nofun, VLe.slice _ _ _⟩)) ?_))
          | false =>
            rw [hbit, if_neg (by simp)] at hR
            ((conv => whnf); (repeat ((first | with_reducible (first | refine zT rfl ?_ | refine zF rfl ?_ | refine zY rfl ?_) | refine zY (by decide) ?_ | refine zN (by decide) ?_ | with_reducible refine zQ ?_); (conv => whnf))))
            refine acall (rRest id B _ _ _ r5) ?_
            rintro _ σ6 ⟨rfl, r6⟩
            ((conv => whnf); (repeat ((first | with_reducible (first | refine zT rfl ?_ | refine zF rfl ?_ | refine zY rfl ?_) | refine zY (by decide) ?_ | refine zN (by decide) ?_ | with_reducible refine zQ ?_); (conv => whnf))))
            cases hok : restOk (unpack B) (k + (W + 1)) with
            | true =>
              rw [hok, if_pos rfl] at hR
              simp only [if_true]
              ((conv => whnf); (repeat ((first | with_reducible (first | refine zT rfl ?_ | refine zF rfl ?_ | refine zY rfl ?_) | refine zY (by decide) ?_ | refine zN (by decide) ?_ | with_reducible refine zQ ?_); (conv => whnf))))
              (repeat ((first | refine aload (by (repeat (first | with_reducible exact upd_same _ _ _ | assumption | rw [upd_ne _ _ (by first | assumption | (apply Ne.symm; assumption))]))) rfl ?_ | refine afit_i64 (by omega) ?_ | refine arem_nonneg (by omega) (by omega) ?_ | refine adiv_i64 (by omega) (by omega) ?_ | refine abr_yes (by omega) ?_ | refine abr_no (by omega) ?_ | refine amin ?_ | refine amax ?_ | refine afit_u64 (by omega) ?_ | refine afit_u8 (by omega) ?_ | rw [List.length_map]); ((conv => whnf); (repeat ((first | with_reducible (first | refine zT rfl ?_ | refine zF rfl ?_ | refine zY rfl ?_) | refine zY (by decide) ?_ | refine zN (by decide) ?_ | with_reducible refine zQ ?_); (conv => whnf))))))
              rw [hol]
              refine acall (lSize ((out.length + 1 : Nat) : Int) (W : Int) _) ?_
              rintro _ σ_ ⟨rfl, e_⟩
              obtain rfl := e_.symm
              refine ⟨?_, Ext.refl _⟩
              ((conv => whnf); (repeat ((first | with_reducible (first | refine zT rfl ?_ | refine zF rfl ?_ | refine zY rfl ?_) | refine zY (by decide) ?_ | refine zN (by decide) ?_ | with_reducible refine zQ ?_); (conv => whnf))))
              refine aret VLe.tup_sl (r6.sub.trans hoc.sub) ⟨?_, rfl⟩
              rw [← hR, sizeV_ok hW (by omega) (by omega), hk, Nat.succ_mul]
            | false =>
              rw [hok, if_neg (by simp)] at hR
              simp only [Bool.false_eq_true, if_false]
              ((conv => whnf); (repeat ((first | with_reducible (first | refine zT rfl ?_ | refine zF rfl ?_ | refine zY rfl ?_) | refine zY (by decide) ?_ | refine zN (by decide) ?_ | with_reducible refine zQ ?_); (conv => whnf))))
              exact aret VLe.tup_sl (r6.sub.trans hoc.sub) ⟨by rw [← hR]; rfl, rfl⟩
      · have c2 : getCode (8 * B.length) (k + 1) (W : Int) = 8 := getCode_short (by omega) (by omega)
        refine acall (rGet id B (k + 1) (W : Int) _ _ r3) ?_
        rintro _ σ4 ⟨rfl, r4⟩
        rw [if_pos (by omega)] at hR
        rw [c2]
        ((conv => whnf); (repeat ((first | with_reducible (first | refine zT rfl ?_ | refine zF rfl ?_ | refine zY rfl ?_) | refine zY (by decide) ?_ | refine zN (by decide) ?_ | with_reducible refine zQ ?_); (conv => whnf))))
        exact aret VLe.tup_sl (r4.sub.trans ho.sub) ⟨by rw [← hR]; rfl, rfl⟩
    · have c1 : getCode (8 * B.length) k 1 = 8 := getCode_short (by omega) (by omega)
      refine acall (rGet id B k 1 _ _ r2) ?_
      rintro _ σ3 ⟨rfl, r3⟩
      rw [if_pos (by omega)] at hR
      rw [c1]
      ((conv => whnf); (repeat ((first | with_reducible (first | refine zT rfl ?_ | refine zF rfl ?_ | refine zY rfl ?_) | refine zY (by decide) ?_ | refine zN (by decide) ?_ | with_reducible refine zQ ?_); (conv => whnf))))
      exact aret VLe.tup_sl (r3.sub.trans ho.sub) ⟨by rw [← hR]; rfl, rfl⟩
end Go.Proofs.Ytgipkpghabelkaa
