/-
  Blocks: sizes; what is written is told.
-/
import Derived.Test.YtndphnojmpeogaaClaw30b
namespace Go.Proofs.Ytndphnojmpeogaa
set_option linter.unusedVariables false
set_option linter.unusedSimpArgs false
open Go Go.Am

theorem bEqual (a b : List UInt8) (t u : Tok) (σ : AHeap) : ACalls Try.prog i_bytes_Equal [sl t a, sl u b] σ fun v σ' => v = boolv (decide (a = b)) ∧ σ' = σ := by
  refine k_bytes_Equal rfl ?_
  ((conv => whnf); (repeat ((first | with_reducible refine abr_true rfl ?_ | with_reducible refine abr_false rfl ?_ | with_reducible refine abr_yes rfl ?_ | refine abr_yes (by decide) ?_ | refine abr_no (by decide) ?_ | with_reducible refine abr_same_ne ?_); (conv => whnf))))
  refine astr rfl ?_
  ((conv => whnf); (repeat ((first | with_reducible refine abr_true rfl ?_ | with_reducible refine abr_false rfl ?_ | with_reducible refine abr_yes rfl ?_ | refine abr_yes (by decide) ?_ | refine abr_no (by decide) ?_ | with_reducible refine abr_same_ne ?_); (conv => whnf))))
  refine astr rfl ?_
  ((conv => whnf); (repeat ((first | with_reducible refine abr_true rfl ?_ | with_reducible refine abr_false rfl ?_ | with_reducible refine abr_yes rfl ?_ | refine abr_yes (by decide) ?_ | refine abr_no (by decide) ?_ | with_reducible refine abr_same_ne ?_); (conv => whnf))))
  refine aret_same ⟨congrArg boolv (dec_congr ⟨fun h => ?_, fun h => by rw [h]⟩), rfl⟩
  simpa using h

theorem mSameOne (p q : Part) (σ : AHeap) : ACalls Try.prog i_mux_Same_1 [partV p, partV q] σ fun v σ' => v = boolv (decide (p = q)) ∧ σ' = σ := by
  refine k_mux_Same_1 rfl ?_
  ((conv => whnf); (repeat ((first | with_reducible refine abr_true rfl ?_ | with_reducible refine abr_false rfl ?_ | with_reducible refine abr_yes rfl ?_ | refine abr_yes (by decide) ?_ | refine abr_no (by decide) ?_ | with_reducible refine abr_same_ne ?_); (conv => whnf))))
  refine anew rfl fun id hid => ?_
  ((conv => whnf); (repeat ((first | with_reducible refine abr_true rfl ?_ | with_reducible refine abr_false rfl ?_ | with_reducible refine abr_yes rfl ?_ | refine abr_yes (by decide) ?_ | refine abr_no (by decide) ?_ | with_reducible refine abr_same_ne ?_); (conv => whnf))))
  refine anew rfl fun id2 hid2 => ?_
  have hne : id ≠ id2 := fun e => by subst e; rw [upd_same] at hid2; cases hid2
  have hs : Sub (upd (upd σ id (.cells (partV p).cells)) id2 (.cells (partV q).cells)) σ := (Sub.upd_fresh _ hid2).trans (Sub.upd_fresh _ hid)
  ((conv => whnf); (repeat ((first | with_reducible refine abr_true rfl ?_ | with_reducible refine abr_false rfl ?_ | with_reducible refine abr_yes rfl ?_ | refine abr_yes (by decide) ?_ | refine abr_no (by decide) ?_ | with_reducible refine abr_same_ne ?_); (conv => whnf))))
  (repeat ((first | refine aload (by (repeat (first | with_reducible exact upd_same _ _ _ | assumption | rw [upd_ne _ _ (by first | assumption | (apply Ne.symm; assumption))]))) rfl ?_ | refine afit_i64 (by omega) ?_ | refine arem_nonneg (by omega) (by omega) ?_ | refine adiv_i64 (by omega) (by omega) ?_ | refine abr_yes (by omega) ?_ | refine abr_no (by omega) ?_ | refine amin ?_ | refine amax ?_ | refine afit_u64 (by omega) ?_ | refine afit_u8 (by omega) ?_ | rw [List.length_map]); ((conv => whnf); (repeat ((first | with_reducible refine abr_true rfl ?_ | with_reducible refine abr_false rfl ?_ | with_reducible refine abr_yes rfl ?_ | refine abr_yes (by decide) ?_ | refine abr_no (by decide) ?_ | with_reducible refine abr_same_ne ?_); (conv => whnf))))))
  by_cases h : p.1 = q.1
  · refine abr_yes h ?_
    ((conv => whnf); (repeat ((first | with_reducible refine abr_true rfl ?_ | with_reducible refine abr_false rfl ?_ | with_reducible refine abr_yes rfl ?_ | refine abr_yes (by decide) ?_ | refine abr_no (by decide) ?_ | with_reducible refine abr_same_ne ?_); (conv => whnf))))
    (repeat ((first | refine aload (by (repeat (first | with_reducible exact upd_same _ _ _ | assumption | rw [upd_ne _ _ (by first | assumption | (apply Ne.symm; assumption))]))) rfl ?_ | refine afit_i64 (by omega) ?_ | refine arem_nonneg (by omega) (by omega) ?_ | refine adiv_i64 (by omega) (by omega) ?_ | refine abr_yes (by omega) ?_ | refine abr_no (by omega) ?_ | refine amin ?_ | refine amax ?_ | refine afit_u64 (by omega) ?_ | refine afit_u8 (by omega) ?_ | rw [List.length_map]); ((conv => whnf); (repeat ((first | with_reducible refine abr_true rfl ?_ | with_reducible refine abr_false rfl ?_ | with_reducible refine abr_yes rfl ?_ | refine abr_yes (by decide) ?_ | refine abr_no (by decide) ?_ | with_reducible refine abr_same_ne ?_); (conv => whnf))))))
    refine acall (bEqual p.2 q.2 .none .none _) ?_
    rintro _ σ_ ⟨rfl, e_⟩
    obtain rfl := e_.symm
    refine ⟨?_, Ext.refl _⟩
    ((conv => whnf); (repeat ((first | with_reducible refine abr_true rfl ?_ | with_reducible refine abr_false rfl ?_ | with_reducible refine abr_yes rfl ?_ | refine abr_yes (by decide) ?_ | refine abr_no (by decide) ?_ | with_reducible refine abr_same_ne ?_); (conv => whnf))))
    refine aret (VLe.refl _) hs ⟨congrArg boolv (dec_congr ⟨fun h2 => Prod.ext h h2, fun h2 => by rw [h2]⟩), rfl⟩
  · refine abr_no h ?_
    ((conv => whnf); (repeat ((first | with_reducible refine abr_true rfl ?_ | with_reducible refine abr_false rfl ?_ | with_reducible refine abr_yes rfl ?_ | refine abr_yes (by decide) ?_ | refine abr_no (by decide) ?_ | with_reducible refine abr_same_ne ?_); (conv => whnf))))
    exact aret (VLe.refl _) hs ⟨congrArg boolv (decide_eq_false fun e => h (by rw [e])).symm, rfl⟩

theorem mSame (a b : List Part) (t u : Tok) (σ : AHeap) (hl : a.length ≤ 140737488355320) : ACalls Try.prog i_mux_Same [parts t a, parts u b] σ fun v σ' => v = boolv (decide (a = b)) ∧ σ' = σ := by
  refine k_mux_Same rfl ?_
  ((conv => whnf); (repeat ((first | with_reducible refine abr_true rfl ?_ | with_reducible refine abr_false rfl ?_ | with_reducible refine abr_yes rfl ?_ | refine abr_yes (by decide) ?_ | refine abr_no (by decide) ?_ | with_reducible refine abr_same_ne ?_); (conv => whnf))))
  refine acall (Q := fun v σ' => v = boolv (decide (a = b)) ∧ σ' = σ) ?_ ?_
  · refine k_mux_Part rfl ?_
    ((conv => whnf); (repeat ((first | with_reducible refine abr_true rfl ?_ | with_reducible refine abr_false rfl ?_ | with_reducible refine abr_yes rfl ?_ | refine abr_yes (by decide) ?_ | refine abr_no (by decide) ?_ | with_reducible refine abr_same_ne ?_); (conv => whnf))))
    rw [List.length_map, List.length_map]
    by_cases h : a.length = b.length
    · (repeat ((first | refine aload (by (repeat (first | with_reducible exact upd_same _ _ _ | assumption | rw [upd_ne _ _ (by first | assumption | (apply Ne.symm; assumption))]))) rfl ?_ | refine afit_i64 (by omega) ?_ | refine arem_nonneg (by omega) (by omega) ?_ | refine adiv_i64 (by omega) (by omega) ?_ | refine abr_yes (by omega) ?_ | refine abr_no (by omega) ?_ | refine amin ?_ | refine amax ?_ | refine afit_u64 (by omega) ?_ | refine afit_u8 (by omega) ?_ | rw [List.length_map]); ((conv => whnf); (repeat ((first | with_reducible refine abr_true rfl ?_ | with_reducible refine abr_false rfl ?_ | with_reducible refine abr_yes rfl ?_ | refine abr_yes (by decide) ?_ | refine abr_no (by decide) ?_ | with_reducible refine abr_same_ne ?_); (conv => whnf))))))
      refine aloop (α := Nat) (fun i => [(s17, i64v i)]) (fun _ => σ) (fun i => i ≤ a.length ∧ a.take i = b.take i) (fun i => a.length - i) 0 ⟨Nat.zero_le _, rfl⟩ (Sub.refl _) ?_ ?_
      · ((conv => whnf); (repeat ((first | with_reducible refine abr_true rfl ?_ | with_reducible refine abr_false rfl ?_ | with_reducible refine abr_yes rfl ?_ | refine abr_yes (by decide) ?_ | refine abr_no (by decide) ?_ | with_reducible refine abr_same_ne ?_); (conv => whnf))))
        (repeat' first | with_reducible exact EnvLe.refl _ | (refine EnvLe.node ?_ (by first | exact Or.inl rfl | exact Or.inr (Or.inl rfl) | exact Or.inr (Or.inr ⟨nofun, VLe.slice _ _ _⟩)) ?_))
      rintro i ⟨hi, he⟩
      by_cases h1 : i < a.length
      · have h2 : i < b.length := by omega
        ((conv => whnf); (repeat ((first | with_reducible refine abr_true rfl ?_ | with_reducible refine abr_false rfl ?_ | with_reducible refine abr_yes rfl ?_ | refine abr_yes (by decide) ?_ | refine abr_no (by decide) ?_ | with_reducible refine abr_same_ne ?_); (conv => whnf))))
        (repeat ((first | refine aload (by (repeat (first | with_reducible exact upd_same _ _ _ | assumption | rw [upd_ne _ _ (by first | assumption | (apply Ne.symm; assumption))]))) rfl ?_ | refine afit_i64 (by omega) ?_ | refine arem_nonneg (by omega) (by omega) ?_ | refine adiv_i64 (by omega) (by omega) ?_ | refine abr_yes (by omega) ?_ | refine abr_no (by omega) ?_ | refine amin ?_ | refine amax ?_ | refine afit_u64 (by omega) ?_ | refine afit_u8 (by omega) ?_ | rw [List.length_map]); ((conv => whnf); (repeat ((first | with_reducible refine abr_true rfl ?_ | with_reducible refine abr_false rfl ?_ | with_reducible refine abr_yes rfl ?_ | refine abr_yes (by decide) ?_ | refine abr_no (by decide) ?_ | with_reducible refine abr_same_ne ?_); (conv => whnf))))))
        refine aget (by omega) (get_parts h1) ?_
        ((conv => whnf); (repeat ((first | with_reducible refine abr_true rfl ?_ | with_reducible refine abr_false rfl ?_ | with_reducible refine abr_yes rfl ?_ | refine abr_yes (by decide) ?_ | refine abr_no (by decide) ?_ | with_reducible refine abr_same_ne ?_); (conv => whnf))))
        refine acells (l := [i64v a[i].1, sl .none a[i].2]) (by exact Nat.le_refl 2) rfl ?_
        ((conv => whnf); (repeat ((first | with_reducible refine abr_true rfl ?_ | with_reducible refine abr_false rfl ?_ | with_reducible refine abr_yes rfl ?_ | refine abr_yes (by decide) ?_ | refine abr_no (by decide) ?_ | with_reducible refine abr_same_ne ?_); (conv => whnf))))
        refine anew rfl fun id hid => ?_
        ((conv => whnf); (repeat ((first | with_reducible refine abr_true rfl ?_ | with_reducible refine abr_false rfl ?_ | with_reducible refine abr_yes rfl ?_ | refine abr_yes (by decide) ?_ | refine abr_no (by decide) ?_ | with_reducible refine abr_same_ne ?_); (conv => whnf))))
        refine astore (xs := [i64v a[i].1, sl .none a[i].2]) (l := [i64v a[i].1, sl .none a[i].2]) (upd_same _ _ _) (Nat.le_of_ble_eq_true rfl) rfl rfl ?_
        rw [upd_upd]
        ((conv => whnf); (repeat ((first | with_reducible refine abr_true rfl ?_ | with_reducible refine abr_false rfl ?_ | with_reducible refine abr_yes rfl ?_ | refine abr_yes (by decide) ?_ | refine abr_no (by decide) ?_ | with_reducible refine abr_same_ne ?_); (conv => whnf))))
        refine aget (by omega) (get_parts h2) ?_
        ((conv => whnf); (repeat ((first | with_reducible refine abr_true rfl ?_ | with_reducible refine abr_false rfl ?_ | with_reducible refine abr_yes rfl ?_ | refine abr_yes (by decide) ?_ | refine abr_no (by decide) ?_ | with_reducible refine abr_same_ne ?_); (conv => whnf))))
        refine acells (l := [i64v b[i].1, sl .none b[i].2]) (by exact Nat.le_refl 2) rfl ?_
        ((conv => whnf); (repeat ((first | with_reducible refine abr_true rfl ?_ | with_reducible refine abr_false rfl ?_ | with_reducible refine abr_yes rfl ?_ | refine abr_yes (by decide) ?_ | refine abr_no (by decide) ?_ | with_reducible refine abr_same_ne ?_); (conv => whnf))))
        refine anew rfl fun id2 hid2 => ?_
        ((conv => whnf); (repeat ((first | with_reducible refine abr_true rfl ?_ | with_reducible refine abr_false rfl ?_ | with_reducible refine abr_yes rfl ?_ | refine abr_yes (by decide) ?_ | refine abr_no (by decide) ?_ | with_reducible refine abr_same_ne ?_); (conv => whnf))))
        refine astore (xs := [i64v b[i].1, sl .none b[i].2]) (l := [i64v b[i].1, sl .none b[i].2]) (upd_same _ _ _) (Nat.le_of_ble_eq_true rfl) rfl rfl ?_
        rw [upd_upd]
        have hne : id ≠ id2 := fun e => by subst e; rw [upd_same] at hid2; cases hid2
        have hs : Sub (upd (upd σ id (.cells [i64v a[i].1, sl .none a[i].2])) id2 (.cells [i64v b[i].1, sl .none b[i].2])) σ := (Sub.upd_fresh _ hid2).trans (Sub.upd_fresh _ hid)
        ((conv => whnf); (repeat ((first | with_reducible refine abr_true rfl ?_ | with_reducible refine abr_false rfl ?_ | with_reducible refine abr_yes rfl ?_ | refine abr_yes (by decide) ?_ | refine abr_no (by decide) ?_ | with_reducible refine abr_same_ne ?_); (conv => whnf))))
        refine aloads (l := [i64v a[i].1, sl .none a[i].2]) (by (repeat (first | with_reducible exact upd_same _ _ _ | assumption | rw [upd_ne _ _ (by first | assumption | (apply Ne.symm; assumption))]))) (by exact Nat.le_refl 2) rfl ?_
        ((conv => whnf); (repeat ((first | with_reducible refine abr_true rfl ?_ | with_reducible refine abr_false rfl ?_ | with_reducible refine abr_yes rfl ?_ | refine abr_yes (by decide) ?_ | refine abr_no (by decide) ?_ | with_reducible refine abr_same_ne ?_); (conv => whnf))))
        refine aloads (l := [i64v b[i].1, sl .none b[i].2]) (by (repeat (first | with_reducible exact upd_same _ _ _ | assumption | rw [upd_ne _ _ (by first | assumption | (apply Ne.symm; assumption))]))) (by exact Nat.le_refl 2) rfl ?_
        ((conv => whnf); (repeat ((first | with_reducible refine abr_true rfl ?_ | with_reducible refine abr_false rfl ?_ | with_reducible refine abr_yes rfl ?_ | refine abr_yes (by decide) ?_ | refine abr_no (by decide) ?_ | with_reducible refine abr_same_ne ?_); (conv => whnf))))
        refine ⟨rfl, ?_⟩
        ((conv => whnf); (repeat ((first | with_reducible refine abr_true rfl ?_ | with_reducible refine abr_false rfl ?_ | with_reducible refine abr_yes rfl ?_ | refine abr_yes (by decide) ?_ | refine abr_no (by decide) ?_ | with_reducible refine abr_same_ne ?_); (conv => whnf))))
        refine acall (mSameOne a[i] b[i] _) ?_
        rintro _ σ_ ⟨rfl, e_⟩
        obtain rfl := e_.symm
        ((conv => whnf); (repeat ((first | with_reducible refine abr_true rfl ?_ | with_reducible refine abr_false rfl ?_ | with_reducible refine abr_yes rfl ?_ | refine abr_yes (by decide) ?_ | refine abr_no (by decide) ?_ | with_reducible refine abr_same_ne ?_); (conv => whnf))))
        by_cases h3 : a[i] = b[i]
        · refine abr_false (by rw [decide_eq_true h3]; rfl) ?_
          ((conv => whnf); (repeat ((first | with_reducible refine abr_true rfl ?_ | with_reducible refine abr_false rfl ?_ | with_reducible refine abr_yes rfl ?_ | refine abr_yes (by decide) ?_ | refine abr_no (by decide) ?_ | with_reducible refine abr_same_ne ?_); (conv => whnf))))
          (repeat ((first | refine aload (by (repeat (first | with_reducible exact upd_same _ _ _ | assumption | rw [upd_ne _ _ (by first | assumption | (apply Ne.symm; assumption))]))) rfl ?_ | refine afit_i64 (by omega) ?_ | refine arem_nonneg (by omega) (by omega) ?_ | refine adiv_i64 (by omega) (by omega) ?_ | refine abr_yes (by omega) ?_ | refine abr_no (by omega) ?_ | refine amin ?_ | refine amax ?_ | refine afit_u64 (by omega) ?_ | refine afit_u8 (by omega) ?_ | rw [List.length_map]); ((conv => whnf); (repeat ((first | with_reducible refine abr_true rfl ?_ | with_reducible refine abr_false rfl ?_ | with_reducible refine abr_yes rfl ?_ | refine abr_yes (by decide) ?_ | refine abr_no (by decide) ?_ | with_reducible refine abr_same_ne ?_); (conv => whnf))))))
          refine ⟨i + 1, ⟨h1, ?_⟩, by omega, hs, ?_⟩
          · rw [List.take_add_one, List.take_add_one, he, List.getElem?_eq_getElem h1, List.getElem?_eq_getElem h2, h3]
          · ((conv => whnf); (repeat ((first | with_reducible refine abr_true rfl ?_ | with_reducible refine abr_false rfl ?_ | with_reducible refine abr_yes rfl ?_ | refine abr_yes (by decide) ?_ | refine abr_no (by decide) ?_ | with_reducible refine abr_same_ne ?_); (conv => whnf))))
            (repeat' first | with_reducible exact EnvLe.refl _ | (refine EnvLe.node ?_ (by first | exact Or.inl rfl | exact Or.inr (Or.inl rfl) | exact Or.inr (Or.inr ⟨nofun, VLe.slice _ _ _⟩)) ?_))
        · refine abr_true (by rw [decide_eq_false h3]; rfl) ?_
          ((conv => whnf); (repeat ((first | with_reducible refine abr_true rfl ?_ | with_reducible refine abr_false rfl ?_ | with_reducible refine abr_yes rfl ?_ | refine abr_yes (by decide) ?_ | refine abr_no (by decide) ?_ | with_reducible refine abr_same_ne ?_); (conv => whnf))))
          exact aret (VLe.refl _) hs ⟨congrArg boolv (decide_eq_false fun e => h3 (by subst e; rfl)).symm, rfl⟩
      · rw [List.take_of_length_le (by omega), List.take_of_length_le (by omega)] at he
        ((conv => whnf); (repeat ((first | with_reducible refine abr_true rfl ?_ | with_reducible refine abr_false rfl ?_ | with_reducible refine abr_yes rfl ?_ | refine abr_yes (by decide) ?_ | refine abr_no (by decide) ?_ | with_reducible refine abr_same_ne ?_); (conv => whnf))))
        (repeat ((first | refine aload (by (repeat (first | with_reducible exact upd_same _ _ _ | assumption | rw [upd_ne _ _ (by first | assumption | (apply Ne.symm; assumption))]))) rfl ?_ | refine afit_i64 (by omega) ?_ | refine arem_nonneg (by omega) (by omega) ?_ | refine adiv_i64 (by omega) (by omega) ?_ | refine abr_yes (by omega) ?_ | refine abr_no (by omega) ?_ | refine amin ?_ | refine amax ?_ | refine afit_u64 (by omega) ?_ | refine afit_u8 (by omega) ?_ | rw [List.length_map]); ((conv => whnf); (repeat ((first | with_reducible refine abr_true rfl ?_ | with_reducible refine abr_false rfl ?_ | with_reducible refine abr_yes rfl ?_ | refine abr_yes (by decide) ?_ | refine abr_no (by decide) ?_ | with_reducible refine abr_same_ne ?_); (conv => whnf))))))
        exact aret_same ⟨congrArg boolv (decide_eq_true he).symm, rfl⟩
    · refine abr_yes (by omega) ?_
      ((conv => whnf); (repeat ((first | with_reducible refine abr_true rfl ?_ | with_reducible refine abr_false rfl ?_ | with_reducible refine abr_yes rfl ?_ | refine abr_yes (by decide) ?_ | refine abr_no (by decide) ?_ | with_reducible refine abr_same_ne ?_); (conv => whnf))))
      exact aret_same ⟨congrArg boolv (decide_eq_false fun e => h (by rw [e])).symm, rfl⟩
  · rintro v σ' ⟨rfl, e⟩
    obtain rfl := e.symm
    refine ⟨?_, Ext.refl _⟩
    ((conv => whnf); (repeat ((first | with_reducible refine abr_true rfl ?_ | with_reducible refine abr_false rfl ?_ | with_reducible refine abr_yes rfl ?_ | refine abr_yes (by decide) ?_ | refine abr_no (by decide) ?_ | with_reducible refine abr_same_ne ?_); (conv => whnf))))
    exact aret_same ⟨rfl, rfl⟩

set_option maxRecDepth 20000 in
theorem MuxWrites (l m : List Part) (σ : AHeap) (hl : l.length ≤ 4398046511000) (hm : m.length ≤ 4398046511000) : ACalls Try.prog i_bowlinelaw30_MuxWrites [parts .none l, parts .none m] σ fun v σ' => v = boolv true ∧ σ' = σ := by
  refine k_bowlinelaw30_MuxWrites rfl ?_
  ((conv => whnf); (repeat ((first | with_reducible refine abr_true rfl ?_ | with_reducible refine abr_false rfl ?_ | with_reducible refine abr_yes rfl ?_ | refine abr_yes (by decide) ?_ | refine abr_no (by decide) ?_ | with_reducible refine abr_same_ne ?_); (conv => whnf))))
  refine acall (mGreat l .none _ hl) ?_
  rintro v σ' ⟨⟨g, rfl, hg⟩, e⟩
  obtain rfl := e.symm
  refine ⟨?_, Ext.refl _⟩
  ((conv => whnf); (repeat ((first | with_reducible refine abr_true rfl ?_ | with_reducible refine abr_false rfl ?_ | with_reducible refine abr_yes rfl ?_ | refine abr_yes (by decide) ?_ | refine abr_no (by decide) ?_ | with_reducible refine abr_same_ne ?_); (conv => whnf))))
  cases g with
  | true =>
    ((conv => whnf); (repeat ((first | with_reducible refine abr_true rfl ?_ | with_reducible refine abr_false rfl ?_ | with_reducible refine abr_yes rfl ?_ | refine abr_yes (by decide) ?_ | refine abr_no (by decide) ?_ | with_reducible refine abr_same_ne ?_); (conv => whnf))))
    refine acall (alive30 _) ?_
    rintro _ σ_ ⟨rfl, e_⟩
    obtain rfl := e_.symm
    refine ⟨?_, Ext.refl _⟩
    ((conv => whnf); (repeat ((first | with_reducible refine abr_true rfl ?_ | with_reducible refine abr_false rfl ?_ | with_reducible refine abr_yes rfl ?_ | refine abr_yes (by decide) ?_ | refine abr_no (by decide) ?_ | with_reducible refine abr_same_ne ?_); (conv => whnf))))
    exact aret_same ⟨rfl, rfl⟩
  | false =>
    ((conv => whnf); (repeat ((first | with_reducible refine abr_true rfl ?_ | with_reducible refine abr_false rfl ?_ | with_reducible refine abr_yes rfl ?_ | refine abr_yes (by decide) ?_ | refine abr_no (by decide) ?_ | with_reducible refine abr_same_ne ?_); (conv => whnf))))
    refine acall (mGreat m .none _ hm) ?_
    rintro v σ' ⟨⟨g2, rfl, hg2⟩, e⟩
    obtain rfl := e.symm
    refine ⟨?_, Ext.refl _⟩
    ((conv => whnf); (repeat ((first | with_reducible refine abr_true rfl ?_ | with_reducible refine abr_false rfl ?_ | with_reducible refine abr_yes rfl ?_ | refine abr_yes (by decide) ?_ | refine abr_no (by decide) ?_ | with_reducible refine abr_same_ne ?_); (conv => whnf))))
    cases g2 with
    | true =>
      ((conv => whnf); (repeat ((first | with_reducible refine abr_true rfl ?_ | with_reducible refine abr_false rfl ?_ | with_reducible refine abr_yes rfl ?_ | refine abr_yes (by decide) ?_ | refine abr_no (by decide) ?_ | with_reducible refine abr_same_ne ?_); (conv => whnf))))
      refine acall (alive30 _) ?_
      rintro _ σ_ ⟨rfl, e_⟩
      obtain rfl := e_.symm
      refine ⟨?_, Ext.refl _⟩
      ((conv => whnf); (repeat ((first | with_reducible refine abr_true rfl ?_ | with_reducible refine abr_false rfl ?_ | with_reducible refine abr_yes rfl ?_ | refine abr_yes (by decide) ?_ | refine abr_no (by decide) ?_ | with_reducible refine abr_same_ne ?_); (conv => whnf))))
      exact aret_same ⟨rfl, rfl⟩
    | false =>
      ((conv => whnf); (repeat ((first | with_reducible refine abr_true rfl ?_ | with_reducible refine abr_false rfl ?_ | with_reducible refine abr_yes rfl ?_ | refine abr_yes (by decide) ?_ | refine abr_no (by decide) ?_ | with_reducible refine abr_same_ne ?_); (conv => whnf))))
      have hsm := hg rfl
      refine acall (mWrite l .none _ (by omega)) ?_
      rintro _ σ_ ⟨rfl, e_⟩
      obtain rfl := e_.symm
      refine ⟨?_, Ext.refl _⟩
      ((conv => whnf); (repeat ((first | with_reducible refine abr_true rfl ?_ | with_reducible refine abr_false rfl ?_ | with_reducible refine abr_yes rfl ?_ | refine abr_yes (by decide) ?_ | refine abr_no (by decide) ?_ | with_reducible refine abr_same_ne ?_); (conv => whnf))))
      refine acall (mAs l .none _ hl) ?_
      rintro _ σ_ ⟨rfl, e_⟩
      obtain rfl := e_.symm
      refine ⟨?_, Ext.refl _⟩
      ((conv => whnf); (repeat ((first | with_reducible refine abr_true rfl ?_ | with_reducible refine abr_false rfl ?_ | with_reducible refine abr_yes rfl ?_ | refine abr_yes (by decide) ?_ | refine abr_no (by decide) ?_ | with_reducible refine abr_same_ne ?_); (conv => whnf))))
      refine acall (refWrite30 l .none _ (by omega) (fun p hp => by have := hsm.2 p hp; omega)) ?_
      rintro _ σ_ ⟨rfl, e_⟩
      obtain rfl := e_.symm
      refine ⟨?_, Ext.refl _⟩
      ((conv => whnf); (repeat ((first | with_reducible refine abr_true rfl ?_ | with_reducible refine abr_false rfl ?_ | with_reducible refine abr_yes rfl ?_ | refine abr_yes (by decide) ?_ | refine abr_no (by decide) ?_ | with_reducible refine abr_same_ne ?_); (conv => whnf))))
      refine acall (alive30 _) ?_
      rintro _ σ_ ⟨rfl, e_⟩
      obtain rfl := e_.symm
      refine ⟨?_, Ext.refl _⟩
      ((conv => whnf); (repeat ((first | with_reducible refine abr_true rfl ?_ | with_reducible refine abr_false rfl ?_ | with_reducible refine abr_yes rfl ?_ | refine abr_yes (by decide) ?_ | refine abr_no (by decide) ?_ | with_reducible refine abr_same_ne ?_); (conv => whnf))))
      refine astr rfl ?_
      ((conv => whnf); (repeat ((first | with_reducible refine abr_true rfl ?_ | with_reducible refine abr_false rfl ?_ | with_reducible refine abr_yes rfl ?_ | refine abr_yes (by decide) ?_ | refine abr_no (by decide) ?_ | with_reducible refine abr_same_ne ?_); (conv => whnf))))
      refine astr rfl ?_
      ((conv => whnf); (repeat ((first | with_reducible refine abr_true rfl ?_ | with_reducible refine abr_false rfl ?_ | with_reducible refine abr_yes rfl ?_ | refine abr_yes (by decide) ?_ | refine abr_no (by decide) ?_ | with_reducible refine abr_same_ne ?_); (conv => whnf))))
      refine acall (mSize l .none _ (by omega)) ?_
      rintro _ σ_ ⟨rfl, e_⟩
      obtain rfl := e_.symm
      refine ⟨?_, Ext.refl _⟩
      ((conv => whnf); (repeat ((first | with_reducible refine abr_true rfl ?_ | with_reducible refine abr_false rfl ?_ | with_reducible refine abr_yes rfl ?_ | refine abr_yes (by decide) ?_ | refine abr_no (by decide) ?_ | with_reducible refine abr_same_ne ?_); (conv => whnf))))
      have hlen : askN l = ((writeB l).length : Int) := by
        by_cases hc : askCode l = 0
        · unfold askN writeB; rw [if_pos hc, if_pos hc, List.length_append, body_length]; show _ = ((_ + 2 : Nat) : Int); omega
        · unfold askN writeB; rw [if_neg hc, if_neg hc]; rfl
      rw [List.length_map]
      refine abr_yes hlen ?_
      ((conv => whnf); (repeat ((first | with_reducible refine abr_true rfl ?_ | with_reducible refine abr_false rfl ?_ | with_reducible refine abr_yes rfl ?_ | refine abr_yes (by decide) ?_ | refine abr_no (by decide) ?_ | with_reducible refine abr_same_ne ?_); (conv => whnf))))
      refine acall (mSame l m .none .none _ (by omega)) ?_
      rintro _ σ_ ⟨rfl, e_⟩
      obtain rfl := e_.symm
      refine ⟨?_, Ext.refl _⟩
      ((conv => whnf); (repeat ((first | with_reducible refine abr_true rfl ?_ | with_reducible refine abr_false rfl ?_ | with_reducible refine abr_yes rfl ?_ | refine abr_yes (by decide) ?_ | refine abr_no (by decide) ?_ | with_reducible refine abr_same_ne ?_); (conv => whnf))))
      refine acall (mAs l .none _ hl) ?_
      rintro _ σ_ ⟨rfl, e_⟩
      obtain rfl := e_.symm
      refine ⟨?_, Ext.refl _⟩
      ((conv => whnf); (repeat ((first | with_reducible refine abr_true rfl ?_ | with_reducible refine abr_false rfl ?_ | with_reducible refine abr_yes rfl ?_ | refine abr_yes (by decide) ?_ | refine abr_no (by decide) ?_ | with_reducible refine abr_same_ne ?_); (conv => whnf))))
      refine acall (mAs m .none _ hm) ?_
      rintro _ σ_ ⟨rfl, e_⟩
      obtain rfl := e_.symm
      refine ⟨?_, Ext.refl _⟩
      ((conv => whnf); (repeat ((first | with_reducible refine abr_true rfl ?_ | with_reducible refine abr_false rfl ?_ | with_reducible refine abr_yes rfl ?_ | refine abr_yes (by decide) ?_ | refine abr_no (by decide) ?_ | with_reducible refine abr_same_ne ?_); (conv => whnf))))
      refine acall (refSame30 l m .none .none _ (by omega)) ?_
      rintro _ σ_ ⟨rfl, e_⟩
      obtain rfl := e_.symm
      refine ⟨?_, Ext.refl _⟩
      ((conv => whnf); (repeat ((first | with_reducible refine abr_true rfl ?_ | with_reducible refine abr_false rfl ?_ | with_reducible refine abr_yes rfl ?_ | refine abr_yes (by decide) ?_ | refine abr_no (by decide) ?_ | with_reducible refine abr_same_ne ?_); (conv => whnf))))
      refine aret_same ⟨?_, rfl⟩
      cases decide (l = m) <;> rfl
end Go.Proofs.Ytndphnojmpeogaa

