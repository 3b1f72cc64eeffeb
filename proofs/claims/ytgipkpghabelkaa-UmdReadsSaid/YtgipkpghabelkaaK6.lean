/-
  Texts of this claim, pack 6: Cmsw, Cmsx, Crefbg, Ctok, Chp, Crcut.
-/
import Derived.Test.YtgipkpghabelkaaK3
import Derived.Test.YtgipkpghabelkaaK4
import Derived.Test.YtgipkpghabelkaaK5
/-
  Fields that are cut of views of rows.
-/
namespace Go.Proofs.Ytgipkpghabelkaa
set_option linter.unusedVariables false
set_option linter.unusedSimpArgs false
open Go Go.Am

set_option maxRecDepth 20000 in
theorem uFieldsS (v0 : AVal) (b : List UInt8) (l : List Int) (u : Tok) (σ : AHeap) (hs0 : Src σ v0 b) (hb : b.length ≤ 8000) (hl : l.length ≤ 1000) (h0 : ∀ v ∈ l, 0 ≤ v) : ACalls Try.prog i_umd_fields [v0, ints u l] σ fun v σ' => v = .tup [lists .none (cutF l b []).1, i64v (cutF l b []).2] ∧ σ' = σ := by
  refine k_umd_fields rfl ?_
  ((conv => whnf); (repeat ((first | with_reducible (first | refine zT rfl ?_ | refine zF rfl ?_ | refine zY rfl ?_) | refine zY (by decide) ?_ | refine zN (by decide) ?_ | with_reducible refine zQ ?_); (conv => whnf))))
  refine ascope' (α := Nat × List UInt8 × List (List UInt8) × Tok × AHeap × AVal) (fun x => [(s0, x.2.2.2.2.2), (s6, lists x.2.2.2.1 x.2.2.1), (s7, i64v x.1)]) (fun x => x.2.2.2.2.1) (fun _ => 0) (fun x => x.1 ≤ l.length ∧ x.2.1.length ≤ 8000 ∧ x.2.2.1.length = x.1 ∧ cutF (l.drop x.1) x.2.1 x.2.2.1 = cutF l b [] ∧ Owned σ x.2.2.2.2.1 x.2.2.2.1 ∧ Src σ x.2.2.2.2.2 x.2.1) (fun x => l.length - x.1) ?_ ?_
  · ((conv => whnf); (repeat ((first | with_reducible (first | refine zT rfl ?_ | refine zF rfl ?_ | refine zY rfl ?_) | refine zY (by decide) ?_ | refine zN (by decide) ?_ | with_reducible refine zQ ?_); (conv => whnf))))
    intro hlab
    ((conv => whnf); (repeat ((first | with_reducible (first | refine zT rfl ?_ | refine zF rfl ?_ | refine zY rfl ?_) | refine zY (by decide) ?_ | refine zN (by decide) ?_ | with_reducible refine zQ ?_); (conv => whnf))))
    refine hlab _ (fun _ _ _ h => h) _ _ _ _ ⟨(0, b, [], .full, σ, v0), rfl, ⟨Nat.zero_le _, hb, rfl, rfl, .full _, hs0⟩, rfl, Sub.refl _, ?_⟩
    ((conv => whnf); (repeat ((first | with_reducible (first | refine zT rfl ?_ | refine zF rfl ?_ | refine zY rfl ?_) | refine zY (by decide) ?_ | refine zN (by decide) ?_ | with_reducible refine zQ ?_); (conv => whnf))))
    (repeat' first | with_reducible exact EnvLe.refl _ | (refine EnvLe.node ?_ (by first | exact Or.inl rfl | exact Or.inr (Or.inl rfl) | exact Or.inr (Or.inr ⟨nofun, VLe.slice _ _ _⟩)) ?_))
  · rintro ⟨i, r, out, tk, σa, v⟩ ⟨hi, hr, hol, hcut, ho, hv0⟩
    dsimp only at hi hr hol hcut ho hv0 ⊢
    refine ⟨_, rfl, ?_⟩
    rcases hv0 with ⟨t, rfl⟩ | ⟨rv, ov, rfl, m⟩
    · ((conv => whnf); (repeat ((first | with_reducible (first | refine zT rfl ?_ | refine zF rfl ?_ | refine zY rfl ?_) | refine zY (by decide) ?_ | refine zN (by decide) ?_ | with_reducible refine zQ ?_); (conv => whnf))))
      intro hlab
      ((conv => whnf); (repeat ((first | with_reducible (first | refine zT rfl ?_ | refine zF rfl ?_ | refine zY rfl ?_) | refine zY (by decide) ?_ | refine zN (by decide) ?_ | with_reducible refine zQ ?_); (conv => whnf))))
      by_cases h : i < l.length
      · have hv := h0 _ (List.getElem_mem h)
        rw [List.drop_eq_getElem_cons h, cutF] at hcut
        (repeat ((first | refine aload (by (repeat (first | with_reducible exact upd_same _ _ _ | assumption | rw [upd_ne _ _ (by first | assumption | (apply Ne.symm; assumption))]))) rfl ?_ | refine afit_i64 (by omega) ?_ | refine arem_nonneg (by omega) (by omega) ?_ | refine adiv_i64 (by omega) (by omega) ?_ | refine abr_yes (by omega) ?_ | refine abr_no (by omega) ?_ | refine amin ?_ | refine amax ?_ | refine afit_u64 (by omega) ?_ | refine afit_u8 (by omega) ?_ | rw [List.length_map]); ((conv => whnf); (repeat ((first | with_reducible (first | refine zT rfl ?_ | refine zF rfl ?_ | refine zY rfl ?_) | refine zY (by decide) ?_ | refine zN (by decide) ?_ | with_reducible refine zQ ?_); (conv => whnf))))))
        refine aget (by omega) (get_ints h) ?_
        ((conv => whnf); (repeat ((first | with_reducible (first | refine zT rfl ?_ | refine zF rfl ?_ | refine zY rfl ?_) | refine zY (by decide) ?_ | refine zN (by decide) ?_ | with_reducible refine zQ ?_); (conv => whnf))))
        refine acell rfl ?_
        ((conv => whnf); (repeat ((first | with_reducible (first | refine zT rfl ?_ | refine zF rfl ?_ | refine zY rfl ?_) | refine zY (by decide) ?_ | refine zN (by decide) ?_ | with_reducible refine zQ ?_); (conv => whnf))))
        rw [List.length_map]
        by_cases h1 : l[i] > r.length
        · rw [if_pos h1] at hcut
          refine abr_yes h1 ?_
          ((conv => whnf); (repeat ((first | with_reducible (first | refine zT rfl ?_ | refine zF rfl ?_ | refine zY rfl ?_) | refine zY (by decide) ?_ | refine zN (by decide) ?_ | with_reducible refine zQ ?_); (conv => whnf))))
          exact aret_sl1 ho.sub ⟨by rw [← hcut]; rfl, rfl⟩
        · rw [if_neg h1] at hcut
          refine abr_no h1 ?_
          ((conv => whnf); (repeat ((first | with_reducible (first | refine zT rfl ?_ | refine zF rfl ?_ | refine zY rfl ?_) | refine zY (by decide) ?_ | refine zN (by decide) ?_ | with_reducible refine zQ ?_); (conv => whnf))))
          refine aget (by omega) (get_ints h) ?_
          ((conv => whnf); (repeat ((first | with_reducible (first | refine zT rfl ?_ | refine zF rfl ?_ | refine zY rfl ?_) | refine zY (by decide) ?_ | refine zN (by decide) ?_ | with_reducible refine zQ ?_); (conv => whnf))))
          refine acell rfl ?_
          ((conv => whnf); (repeat ((first | with_reducible (first | refine zT rfl ?_ | refine zF rfl ?_ | refine zY rfl ?_) | refine zY (by decide) ?_ | refine zN (by decide) ?_ | with_reducible refine zQ ?_); (conv => whnf))))
          refine aget (by omega) (get_ints h) ?_
          ((conv => whnf); (repeat ((first | with_reducible (first | refine zT rfl ?_ | refine zF rfl ?_ | refine zY rfl ?_) | refine zY (by decide) ?_ | refine zN (by decide) ?_ | with_reducible refine zQ ?_); (conv => whnf))))
          refine acell rfl ?_
          ((conv => whnf); (repeat ((first | with_reducible (first | refine zT rfl ?_ | refine zF rfl ?_ | refine zY rfl ?_) | refine zY (by decide) ?_ | refine zN (by decide) ?_ | with_reducible refine zQ ?_); (conv => whnf))))
          rw [List.length_map]
          refine acut (by omega) (by omega) (by omega) ?_
          ((conv => whnf); (repeat ((first | with_reducible (first | refine zT rfl ?_ | refine zF rfl ?_ | refine zY rfl ?_) | refine zY (by decide) ?_ | refine zN (by decide) ?_ | with_reducible refine zQ ?_); (conv => whnf))))
          refine ⟨rfl, rfl, ?_⟩
          rw [show (0 : Int).toNat = 0 from rfl, List.drop_zero, ← List.map_take]
          ((conv => whnf); (repeat ((first | with_reducible (first | refine zT rfl ?_ | refine zF rfl ?_ | refine zY rfl ?_) | refine zY (by decide) ?_ | refine zN (by decide) ?_ | with_reducible refine zQ ?_); (conv => whnf))))
          refine acall_less (Clone (r.take l[i].toNat) _ _ (by rw [List.length_take]; omega)) ?_
          rintro _ σ4 ⟨tk3, ho3, rfl⟩
          refine ⟨sl .none (r.take l[i].toNat), σa, VLe.slice _ _ _, ho3.sub, ?_, Ext.refl _⟩
          ((conv => whnf); (repeat ((first | with_reducible (first | refine zT rfl ?_ | refine zF rfl ?_ | refine zY rfl ?_) | refine zY (by decide) ?_ | refine zN (by decide) ?_ | with_reducible refine zQ ?_); (conv => whnf))))
          refine aapp_sub (ys := [sl .none (r.take l[i].toNat)]) ho (Sub.refl _) (by rw [List.length_map]; show (out.length + 1) * 24 ≤ _; omega) fun tk2 σ5 σ6 ho2 hs2 => ?_
          rw [show List.map (sl .none) out ++ [sl .none (r.take l[i].toNat)] = List.map (sl .none) (out ++ [r.take l[i].toNat]) by simp]
          ((conv => whnf); (repeat ((first | with_reducible (first | refine zT rfl ?_ | refine zF rfl ?_ | refine zY rfl ?_) | refine zY (by decide) ?_ | refine zN (by decide) ?_ | with_reducible refine zQ ?_); (conv => whnf))))
          refine aget (by omega) (get_ints h) ?_
          ((conv => whnf); (repeat ((first | with_reducible (first | refine zT rfl ?_ | refine zF rfl ?_ | refine zY rfl ?_) | refine zY (by decide) ?_ | refine zN (by decide) ?_ | with_reducible refine zQ ?_); (conv => whnf))))
          refine acell rfl ?_
          ((conv => whnf); (repeat ((first | with_reducible (first | refine zT rfl ?_ | refine zF rfl ?_ | refine zY rfl ?_) | refine zY (by decide) ?_ | refine zN (by decide) ?_ | with_reducible refine zQ ?_); (conv => whnf))))
          rw [List.length_map]
          refine acut (by omega) (by omega) (by omega) ?_
          ((conv => whnf); (repeat ((first | with_reducible (first | refine zT rfl ?_ | refine zF rfl ?_ | refine zY rfl ?_) | refine zY (by decide) ?_ | refine zN (by decide) ?_ | with_reducible refine zQ ?_); (conv => whnf))))
          (repeat ((first | refine aload (by (repeat (first | with_reducible exact upd_same _ _ _ | assumption | rw [upd_ne _ _ (by first | assumption | (apply Ne.symm; assumption))]))) rfl ?_ | refine afit_i64 (by omega) ?_ | refine arem_nonneg (by omega) (by omega) ?_ | refine adiv_i64 (by omega) (by omega) ?_ | refine abr_yes (by omega) ?_ | refine abr_no (by omega) ?_ | refine amin ?_ | refine amax ?_ | refine afit_u64 (by omega) ?_ | refine afit_u8 (by omega) ?_ | rw [List.length_map]); ((conv => whnf); (repeat ((first | with_reducible (first | refine zT rfl ?_ | refine zF rfl ?_ | refine zY rfl ?_) | refine zY (by decide) ?_ | refine zN (by decide) ?_ | with_reducible refine zQ ?_); (conv => whnf))))))
          refine ⟨(i + 1, r.drop l[i].toNat, out ++ [r.take l[i].toNat], tk2, σ6, sl .none (r.drop l[i].toNat)), rfl, ⟨h, ?_, ?_, hcut, ho2, .inl ⟨_, rfl⟩⟩, by dsimp only; omega, hs2, ?_⟩
          · dsimp only; rw [List.length_drop]; omega
          · dsimp only; rw [List.length_append]; show _ + 1 = _; omega
          · rw [show ((r.length : Nat) : Int).toNat = r.length by omega, List.take_of_length_le (l := r.map byteV) (by rw [List.length_map]; exact Nat.le_refl _), ← List.map_drop]
            ((conv => whnf); (repeat ((first | with_reducible (first | refine zT rfl ?_ | refine zF rfl ?_ | refine zY rfl ?_) | refine zY (by decide) ?_ | refine zN (by decide) ?_ | with_reducible refine zQ ?_); (conv => whnf))))
            (repeat' first | with_reducible exact EnvLe.refl _ | (refine EnvLe.node ?_ (by first | exact Or.inl rfl | exact Or.inr (Or.inl rfl) | exact Or.inr (Or.inr ⟨nofun, VLe.slice _ _ _⟩)) ?_))
      · obtain rfl : i = l.length := by omega
        rw [List.drop_of_length_le (Nat.le_refl _), cutF] at hcut
        (repeat ((first | refine aload (by (repeat (first | with_reducible exact upd_same _ _ _ | assumption | rw [upd_ne _ _ (by first | assumption | (apply Ne.symm; assumption))]))) rfl ?_ | refine afit_i64 (by omega) ?_ | refine arem_nonneg (by omega) (by omega) ?_ | refine adiv_i64 (by omega) (by omega) ?_ | refine abr_yes (by omega) ?_ | refine abr_no (by omega) ?_ | refine amin ?_ | refine amax ?_ | refine afit_u64 (by omega) ?_ | refine afit_u8 (by omega) ?_ | rw [List.length_map]); ((conv => whnf); (repeat ((first | with_reducible (first | refine zT rfl ?_ | refine zF rfl ?_ | refine zY rfl ?_) | refine zY (by decide) ?_ | refine zN (by decide) ?_ | with_reducible refine zQ ?_); (conv => whnf))))))
        by_cases h1 : r.length = 0
        · rw [if_pos h1] at hcut
          (repeat ((first | refine aload (by (repeat (first | with_reducible exact upd_same _ _ _ | assumption | rw [upd_ne _ _ (by first | assumption | (apply Ne.symm; assumption))]))) rfl ?_ | refine afit_i64 (by omega) ?_ | refine arem_nonneg (by omega) (by omega) ?_ | refine adiv_i64 (by omega) (by omega) ?_ | refine abr_yes (by omega) ?_ | refine abr_no (by omega) ?_ | refine amin ?_ | refine amax ?_ | refine afit_u64 (by omega) ?_ | refine afit_u8 (by omega) ?_ | rw [List.length_map]); ((conv => whnf); (repeat ((first | with_reducible (first | refine zT rfl ?_ | refine zF rfl ?_ | refine zY rfl ?_) | refine zY (by decide) ?_ | refine zN (by decide) ?_ | with_reducible refine zQ ?_); (conv => whnf))))))
          exact aret_sl1 ho.sub ⟨by rw [← hcut]; rfl, rfl⟩
        · rw [if_neg h1] at hcut
          (repeat ((first | refine aload (by (repeat (first | with_reducible exact upd_same _ _ _ | assumption | rw [upd_ne _ _ (by first | assumption | (apply Ne.symm; assumption))]))) rfl ?_ | refine afit_i64 (by omega) ?_ | refine arem_nonneg (by omega) (by omega) ?_ | refine adiv_i64 (by omega) (by omega) ?_ | refine abr_yes (by omega) ?_ | refine abr_no (by omega) ?_ | refine amin ?_ | refine amax ?_ | refine afit_u64 (by omega) ?_ | refine afit_u8 (by omega) ?_ | rw [List.length_map]); ((conv => whnf); (repeat ((first | with_reducible (first | refine zT rfl ?_ | refine zF rfl ?_ | refine zY rfl ?_) | refine zY (by decide) ?_ | refine zN (by decide) ?_ | with_reducible refine zQ ?_); (conv => whnf))))))
          refine acall_less (Clone r _ _ (by omega)) ?_
          rintro _ σ4 ⟨tk3, ho3, rfl⟩
          refine ⟨sl .none r, σa, VLe.slice _ _ _, ho3.sub, ?_, Ext.refl _⟩
          ((conv => whnf); (repeat ((first | with_reducible (first | refine zT rfl ?_ | refine zF rfl ?_ | refine zY rfl ?_) | refine zY (by decide) ?_ | refine zN (by decide) ?_ | with_reducible refine zQ ?_); (conv => whnf))))
          refine aapp_sub (ys := [sl .none r]) ho (Sub.refl _) (by rw [List.length_map]; show (out.length + 1) * 24 ≤ _; omega) fun tk2 σ5 σ6 ho2 hs2 => ?_
          rw [show List.map (sl .none) out ++ [sl .none r] = List.map (sl .none) (out ++ [r]) by simp]
          ((conv => whnf); (repeat ((first | with_reducible (first | refine zT rfl ?_ | refine zF rfl ?_ | refine zY rfl ?_) | refine zY (by decide) ?_ | refine zN (by decide) ?_ | with_reducible refine zQ ?_); (conv => whnf))))
          exact aret_sl1 (hs2.trans ho2.sub) ⟨by rw [← hcut], rfl⟩
    · ((conv => whnf); (repeat ((first | with_reducible (first | refine zT rfl ?_ | refine zF rfl ?_ | refine zY rfl ?_) | refine zY (by decide) ?_ | refine zN (by decide) ?_ | with_reducible refine zQ ?_); (conv => whnf))))
      intro hlab
      ((conv => whnf); (repeat ((first | with_reducible (first | refine zT rfl ?_ | refine zF rfl ?_ | refine zY rfl ?_) | refine zY (by decide) ?_ | refine zN (by decide) ?_ | with_reducible refine zQ ?_); (conv => whnf))))
      by_cases h : i < l.length
      · have hv := h0 _ (List.getElem_mem h)
        rw [List.drop_eq_getElem_cons h, cutF] at hcut
        (repeat ((first | refine aload (by (repeat (first | with_reducible exact upd_same _ _ _ | assumption | rw [upd_ne _ _ (by first | assumption | (apply Ne.symm; assumption))]))) rfl ?_ | refine afit_i64 (by omega) ?_ | refine arem_nonneg (by omega) (by omega) ?_ | refine adiv_i64 (by omega) (by omega) ?_ | refine abr_yes (by omega) ?_ | refine abr_no (by omega) ?_ | refine amin ?_ | refine amax ?_ | refine afit_u64 (by omega) ?_ | refine afit_u8 (by omega) ?_ | rw [List.length_map]); ((conv => whnf); (repeat ((first | with_reducible (first | refine zT rfl ?_ | refine zF rfl ?_ | refine zY rfl ?_) | refine zY (by decide) ?_ | refine zN (by decide) ?_ | with_reducible refine zQ ?_); (conv => whnf))))))
        refine aget (by omega) (get_ints h) ?_
        ((conv => whnf); (repeat ((first | with_reducible (first | refine zT rfl ?_ | refine zF rfl ?_ | refine zY rfl ?_) | refine zY (by decide) ?_ | refine zN (by decide) ?_ | with_reducible refine zQ ?_); (conv => whnf))))
        refine acell rfl ?_
        ((conv => whnf); (repeat ((first | with_reducible (first | refine zT rfl ?_ | refine zF rfl ?_ | refine zY rfl ?_) | refine zY (by decide) ?_ | refine zN (by decide) ?_ | with_reducible refine zQ ?_); (conv => whnf))))
        by_cases h1 : l[i] > r.length
        · rw [if_pos h1] at hcut
          refine abr_yes h1 ?_
          ((conv => whnf); (repeat ((first | with_reducible (first | refine zT rfl ?_ | refine zF rfl ?_ | refine zY rfl ?_) | refine zY (by decide) ?_ | refine zN (by decide) ?_ | with_reducible refine zQ ?_); (conv => whnf))))
          exact aret_sl1 ho.sub ⟨by rw [← hcut]; rfl, rfl⟩
        · rw [if_neg h1] at hcut
          refine abr_no h1 ?_
          ((conv => whnf); (repeat ((first | with_reducible (first | refine zT rfl ?_ | refine zF rfl ?_ | refine zY rfl ?_) | refine zY (by decide) ?_ | refine zN (by decide) ?_ | with_reducible refine zQ ?_); (conv => whnf))))
          refine aget (by omega) (get_ints h) ?_
          ((conv => whnf); (repeat ((first | with_reducible (first | refine zT rfl ?_ | refine zF rfl ?_ | refine zY rfl ?_) | refine zY (by decide) ?_ | refine zN (by decide) ?_ | with_reducible refine zQ ?_); (conv => whnf))))
          refine acell rfl ?_
          ((conv => whnf); (repeat ((first | with_reducible (first | refine zT rfl ?_ | refine zF rfl ?_ | refine zY rfl ?_) | refine zY (by decide) ?_ | refine zN (by decide) ?_ | with_reducible refine zQ ?_); (conv => whnf))))
          refine aget (by omega) (get_ints h) ?_
          ((conv => whnf); (repeat ((first | with_reducible (first | refine zT rfl ?_ | refine zF rfl ?_ | refine zY rfl ?_) | refine zY (by decide) ?_ | refine zN (by decide) ?_ | with_reducible refine zQ ?_); (conv => whnf))))
          refine acell rfl ?_
          ((conv => whnf); (repeat ((first | with_reducible (first | refine zT rfl ?_ | refine zF rfl ?_ | refine zY rfl ?_) | refine zY (by decide) ?_ | refine zN (by decide) ?_ | with_reducible refine zQ ?_); (conv => whnf))))
          refine acut (by omega) (by omega) (by omega) ?_
          ((conv => whnf); (repeat ((first | with_reducible (first | refine zT rfl ?_ | refine zF rfl ?_ | refine zY rfl ?_) | refine zY (by decide) ?_ | refine zN (by decide) ?_ | with_reducible refine zQ ?_); (conv => whnf))))
          refine ⟨rfl, rfl, ?_⟩
          ((conv => whnf); (repeat ((first | with_reducible (first | refine zT rfl ?_ | refine zF rfl ?_ | refine zY rfl ?_) | refine zY (by decide) ?_ | refine zN (by decide) ?_ | with_reducible refine zQ ?_); (conv => whnf))))
          refine acutm (m.sub ho.sub) (by omega) (by omega) fun v1 hv1 => ?_
          rw [show (0 : Int).toNat = 0 from rfl, List.drop_zero] at hv1
          ((conv => whnf); (repeat ((first | with_reducible (first | refine zT rfl ?_ | refine zF rfl ?_ | refine zY rfl ?_) | refine zY (by decide) ?_ | refine zN (by decide) ?_ | with_reducible refine zQ ?_); (conv => whnf))))
          refine acall_less (CloneS v1 (r.take l[i].toNat) _ hv1 (by rw [List.length_take]; omega)) ?_
          rintro _ σ4 ⟨tk3, ho3, rfl⟩
          refine ⟨sl .none (r.take l[i].toNat), σa, VLe.slice _ _ _, ho3.sub, ?_, Ext.refl _⟩
          ((conv => whnf); (repeat ((first | with_reducible (first | refine zT rfl ?_ | refine zF rfl ?_ | refine zY rfl ?_) | refine zY (by decide) ?_ | refine zN (by decide) ?_ | with_reducible refine zQ ?_); (conv => whnf))))
          refine aapp_sub (ys := [sl .none (r.take l[i].toNat)]) ho (Sub.refl _) (by rw [List.length_map]; show (out.length + 1) * 24 ≤ _; omega) fun tk2 σ5 σ6 ho2 hs2 => ?_
          rw [show List.map (sl .none) out ++ [sl .none (r.take l[i].toNat)] = List.map (sl .none) (out ++ [r.take l[i].toNat]) by simp]
          ((conv => whnf); (repeat ((first | with_reducible (first | refine zT rfl ?_ | refine zF rfl ?_ | refine zY rfl ?_) | refine zY (by decide) ?_ | refine zN (by decide) ?_ | with_reducible refine zQ ?_); (conv => whnf))))
          refine aget (by omega) (get_ints h) ?_
          ((conv => whnf); (repeat ((first | with_reducible (first | refine zT rfl ?_ | refine zF rfl ?_ | refine zY rfl ?_) | refine zY (by decide) ?_ | refine zN (by decide) ?_ | with_reducible refine zQ ?_); (conv => whnf))))
          refine acell rfl ?_
          ((conv => whnf); (repeat ((first | with_reducible (first | refine zT rfl ?_ | refine zF rfl ?_ | refine zY rfl ?_) | refine zY (by decide) ?_ | refine zN (by decide) ?_ | with_reducible refine zQ ?_); (conv => whnf))))
          refine acut (by omega) (by omega) (by omega) ?_
          ((conv => whnf); (repeat ((first | with_reducible (first | refine zT rfl ?_ | refine zF rfl ?_ | refine zY rfl ?_) | refine zY (by decide) ?_ | refine zN (by decide) ?_ | with_reducible refine zQ ?_); (conv => whnf))))
          refine acutm m (by omega) (by omega) fun v2 hv2 => ?_
          rw [Int.toNat_natCast, List.take_of_length_le (l := r) (Nat.le_refl _)] at hv2
          ((conv => whnf); (repeat ((first | with_reducible (first | refine zT rfl ?_ | refine zF rfl ?_ | refine zY rfl ?_) | refine zY (by decide) ?_ | refine zN (by decide) ?_ | with_reducible refine zQ ?_); (conv => whnf))))
          (repeat ((first | refine aload (by (repeat (first | with_reducible exact upd_same _ _ _ | assumption | rw [upd_ne _ _ (by first | assumption | (apply Ne.symm; assumption))]))) rfl ?_ | refine afit_i64 (by omega) ?_ | refine arem_nonneg (by omega) (by omega) ?_ | refine adiv_i64 (by omega) (by omega) ?_ | refine abr_yes (by omega) ?_ | refine abr_no (by omega) ?_ | refine amin ?_ | refine amax ?_ | refine afit_u64 (by omega) ?_ | refine afit_u8 (by omega) ?_ | rw [List.length_map]); ((conv => whnf); (repeat ((first | with_reducible (first | refine zT rfl ?_ | refine zF rfl ?_ | refine zY rfl ?_) | refine zY (by decide) ?_ | refine zN (by decide) ?_ | with_reducible refine zQ ?_); (conv => whnf))))))
          refine ⟨(i + 1, r.drop l[i].toNat, out ++ [r.take l[i].toNat], tk2, σ6, v2), rfl, ⟨h, ?_, ?_, hcut, ho2, hv2⟩, by dsimp only; omega, hs2, ?_⟩
          · dsimp only; rw [List.length_drop]; omega
          · dsimp only; rw [List.length_append]; show _ + 1 = _; omega
          · ((conv => whnf); (repeat ((first | with_reducible (first | refine zT rfl ?_ | refine zF rfl ?_ | refine zY rfl ?_) | refine zY (by decide) ?_ | refine zN (by decide) ?_ | with_reducible refine zQ ?_); (conv => whnf))))
            (repeat' first | with_reducible exact EnvLe.refl _ | (refine EnvLe.node ?_ (by first | exact Or.inl rfl | exact Or.inr (Or.inl rfl) | exact Or.inr (Or.inr ⟨nofun, VLe.slice _ _ _⟩)) ?_))
      · obtain rfl : i = l.length := by omega
        rw [List.drop_of_length_le (Nat.le_refl _), cutF] at hcut
        (repeat ((first | refine aload (by (repeat (first | with_reducible exact upd_same _ _ _ | assumption | rw [upd_ne _ _ (by first | assumption | (apply Ne.symm; assumption))]))) rfl ?_ | refine afit_i64 (by omega) ?_ | refine arem_nonneg (by omega) (by omega) ?_ | refine adiv_i64 (by omega) (by omega) ?_ | refine abr_yes (by omega) ?_ | refine abr_no (by omega) ?_ | refine amin ?_ | refine amax ?_ | refine afit_u64 (by omega) ?_ | refine afit_u8 (by omega) ?_ | rw [List.length_map]); ((conv => whnf); (repeat ((first | with_reducible (first | refine zT rfl ?_ | refine zF rfl ?_ | refine zY rfl ?_) | refine zY (by decide) ?_ | refine zN (by decide) ?_ | with_reducible refine zQ ?_); (conv => whnf))))))
        by_cases h1 : r.length = 0
        · rw [if_pos h1] at hcut
          (repeat ((first | refine aload (by (repeat (first | with_reducible exact upd_same _ _ _ | assumption | rw [upd_ne _ _ (by first | assumption | (apply Ne.symm; assumption))]))) rfl ?_ | refine afit_i64 (by omega) ?_ | refine arem_nonneg (by omega) (by omega) ?_ | refine adiv_i64 (by omega) (by omega) ?_ | refine abr_yes (by omega) ?_ | refine abr_no (by omega) ?_ | refine amin ?_ | refine amax ?_ | refine afit_u64 (by omega) ?_ | refine afit_u8 (by omega) ?_ | rw [List.length_map]); ((conv => whnf); (repeat ((first | with_reducible (first | refine zT rfl ?_ | refine zF rfl ?_ | refine zY rfl ?_) | refine zY (by decide) ?_ | refine zN (by decide) ?_ | with_reducible refine zQ ?_); (conv => whnf))))))
          exact aret_sl1 ho.sub ⟨by rw [← hcut]; rfl, rfl⟩
        · rw [if_neg h1] at hcut
          (repeat ((first | refine aload (by (repeat (first | with_reducible exact upd_same _ _ _ | assumption | rw [upd_ne _ _ (by first | assumption | (apply Ne.symm; assumption))]))) rfl ?_ | refine afit_i64 (by omega) ?_ | refine arem_nonneg (by omega) (by omega) ?_ | refine adiv_i64 (by omega) (by omega) ?_ | refine abr_yes (by omega) ?_ | refine abr_no (by omega) ?_ | refine amin ?_ | refine amax ?_ | refine afit_u64 (by omega) ?_ | refine afit_u8 (by omega) ?_ | rw [List.length_map]); ((conv => whnf); (repeat ((first | with_reducible (first | refine zT rfl ?_ | refine zF rfl ?_ | refine zY rfl ?_) | refine zY (by decide) ?_ | refine zN (by decide) ?_ | with_reducible refine zQ ?_); (conv => whnf))))))
          refine acall_less (CloneS _ r _ (.inr ⟨_, _, rfl, m.sub ho.sub⟩) (by omega)) ?_
          rintro _ σ4 ⟨tk3, ho3, rfl⟩
          refine ⟨sl .none r, σa, VLe.slice _ _ _, ho3.sub, ?_, Ext.refl _⟩
          ((conv => whnf); (repeat ((first | with_reducible (first | refine zT rfl ?_ | refine zF rfl ?_ | refine zY rfl ?_) | refine zY (by decide) ?_ | refine zN (by decide) ?_ | with_reducible refine zQ ?_); (conv => whnf))))
          refine aapp_sub (ys := [sl .none r]) ho (Sub.refl _) (by rw [List.length_map]; show (out.length + 1) * 24 ≤ _; omega) fun tk2 σ5 σ6 ho2 hs2 => ?_
          rw [show List.map (sl .none) out ++ [sl .none r] = List.map (sl .none) (out ++ [r]) by simp]
          ((conv => whnf); (repeat ((first | with_reducible (first | refine zT rfl ?_ | refine zF rfl ?_ | refine zY rfl ?_) | refine zY (by decide) ?_ | refine zN (by decide) ?_ | with_reducible refine zQ ?_); (conv => whnf))))
          exact aret_sl1 (hs2.trans ho2.sub) ⟨by rw [← hcut], rfl⟩
end Go.Proofs.Ytgipkpghabelkaa
/-
  Packets that are read of views of rows.
-/
namespace Go.Proofs.Ytgipkpghabelkaa
set_option linter.unusedVariables false
set_option linter.unusedSimpArgs false
open Go Go.Am

set_option maxRecDepth 20000 in
set_option maxHeartbeats 2000000 in
theorem uReadS (v0 : AVal) (b : List UInt8) (w : Int) (σ : AHeap) (hs0 : Src σ v0 b) (hl : b.length ≤ 140737488355320) : ACalls Try.prog i_umd_Read [v0, i64v w] σ fun v σ' => v = .tup [pk3 (readU b w).1, i64v (readU b w).2] ∧ σ' = σ := by
  rcases hs0 with ⟨t, rfl⟩ | ⟨r0, off0, rfl, m0⟩
  · exact uRead b t w σ hl
  refine k_umd_Read rfl ?_
  ((conv => whnf); (repeat ((first | with_reducible (first | refine zT rfl ?_ | refine zF rfl ?_ | refine zY rfl ?_) | refine zY (by decide) ?_ | refine zN (by decide) ?_ | with_reducible refine zQ ?_); (conv => whnf))))
  refine anew rfl fun id hid => ?_
  generalize hσ0 : upd σ id (.cells [i64v 0, i64v 0, .slice 1 [] .full]) = σ0
  have hs : Sub σ0 σ := by rw [← hσ0]; exact Sub.upd_fresh _ hid
  have hc0 : σ0 id = some (.cells [i64v 0, i64v 0, .slice 1 [] .full]) := by rw [← hσ0]; exact upd_same _ _ _
  ((conv => whnf); (repeat ((first | with_reducible (first | refine zT rfl ?_ | refine zF rfl ?_ | refine zY rfl ?_) | refine zY (by decide) ?_ | refine zN (by decide) ?_ | with_reducible refine zQ ?_); (conv => whnf))))
  refine acall (uIsWidth w _) ?_
  rintro _ σ_ ⟨rfl, e_⟩
  obtain rfl := e_.symm
  refine ⟨?_, Ext.refl _⟩
  ((conv => whnf); (repeat ((first | with_reducible (first | refine zT rfl ?_ | refine zF rfl ?_ | refine zY rfl ?_) | refine zY (by decide) ?_ | refine zN (by decide) ?_ | with_reducible refine zQ ?_); (conv => whnf))))
  by_cases hw : umWidth w = true
  case neg =>
    have eq : readU b w = (none3, 9) := by unfold readU; rw [if_pos (Bool.eq_false_iff.2 hw)]
    rw [Bool.eq_false_iff.2 hw]
    ((conv => whnf); (repeat ((first | with_reducible (first | refine zT rfl ?_ | refine zF rfl ?_ | refine zY rfl ?_) | refine zY (by decide) ?_ | refine zN (by decide) ?_ | with_reducible refine zQ ?_); (conv => whnf))))
    refine astore (xs := [i64v 0, i64v 0, .slice 1 [] .full]) (l := [i64v 0, i64v 0, .slice 1 [] .full]) hc0 (Nat.le_of_ble_eq_true rfl) rfl rfl ?_
    ((conv => whnf); (repeat ((first | with_reducible (first | refine zT rfl ?_ | refine zF rfl ?_ | refine zY rfl ?_) | refine zY (by decide) ?_ | refine zN (by decide) ?_ | with_reducible refine zQ ?_); (conv => whnf))))
    refine aloads (l := [i64v 0, i64v 0, .slice 1 [] .full]) (upd_same _ _ _) (by exact Nat.le_refl 3) rfl ?_
    ((conv => whnf); (repeat ((first | with_reducible (first | refine zT rfl ?_ | refine zF rfl ?_ | refine zY rfl ?_) | refine zY (by decide) ?_ | refine zN (by decide) ?_ | with_reducible refine zQ ?_); (conv => whnf))))
    exact aret_pk ((Sub.upd hs id _).trans (Sub.upd_fresh _ hid)) ⟨by rw [eq]; rfl, rfl⟩
  rw [hw]
  have hw2 := umWidth_iff.1 hw
  ((conv => whnf); (repeat ((first | with_reducible (first | refine zT rfl ?_ | refine zF rfl ?_ | refine zY rfl ?_) | refine zY (by decide) ?_ | refine zN (by decide) ?_ | with_reducible refine zQ ?_); (conv => whnf))))
  by_cases h1 : b.length > 4000
  · have eq : readU b w = (none3, 2) := by unfold readU; rw [hw, if_neg (by simp), if_pos h1]
    (repeat ((first | refine aload (by (repeat (first | with_reducible exact upd_same _ _ _ | assumption | rw [upd_ne _ _ (by first | assumption | (apply Ne.symm; assumption))]))) rfl ?_ | refine afit_i64 (by omega) ?_ | refine arem_nonneg (by omega) (by omega) ?_ | refine adiv_i64 (by omega) (by omega) ?_ | refine abr_yes (by omega) ?_ | refine abr_no (by omega) ?_ | refine amin ?_ | refine amax ?_ | refine afit_u64 (by omega) ?_ | refine afit_u8 (by omega) ?_ | rw [List.length_map]); ((conv => whnf); (repeat ((first | with_reducible (first | refine zT rfl ?_ | refine zF rfl ?_ | refine zY rfl ?_) | refine zY (by decide) ?_ | refine zN (by decide) ?_ | with_reducible refine zQ ?_); (conv => whnf))))))
    refine astore (xs := [i64v 0, i64v 0, .slice 1 [] .full]) (l := [i64v 0, i64v 0, .slice 1 [] .full]) hc0 (Nat.le_of_ble_eq_true rfl) rfl rfl ?_
    ((conv => whnf); (repeat ((first | with_reducible (first | refine zT rfl ?_ | refine zF rfl ?_ | refine zY rfl ?_) | refine zY (by decide) ?_ | refine zN (by decide) ?_ | with_reducible refine zQ ?_); (conv => whnf))))
    refine aloads (l := [i64v 0, i64v 0, .slice 1 [] .full]) (upd_same _ _ _) (by exact Nat.le_refl 3) rfl ?_
    ((conv => whnf); (repeat ((first | with_reducible (first | refine zT rfl ?_ | refine zF rfl ?_ | refine zY rfl ?_) | refine zY (by decide) ?_ | refine zN (by decide) ?_ | with_reducible refine zQ ?_); (conv => whnf))))
    exact aret_pk ((Sub.upd hs id _).trans (Sub.upd_fresh _ hid)) ⟨by rw [eq]; rfl, rfl⟩
  (repeat ((first | refine aload (by (repeat (first | with_reducible exact upd_same _ _ _ | assumption | rw [upd_ne _ _ (by first | assumption | (apply Ne.symm; assumption))]))) rfl ?_ | refine afit_i64 (by omega) ?_ | refine arem_nonneg (by omega) (by omega) ?_ | refine adiv_i64 (by omega) (by omega) ?_ | refine abr_yes (by omega) ?_ | refine abr_no (by omega) ?_ | refine amin ?_ | refine amax ?_ | refine afit_u64 (by omega) ?_ | refine afit_u8 (by omega) ?_ | rw [List.length_map]); ((conv => whnf); (repeat ((first | with_reducible (first | refine zT rfl ?_ | refine zF rfl ?_ | refine zY rfl ?_) | refine zY (by decide) ?_ | refine zN (by decide) ?_ | with_reducible refine zQ ?_); (conv => whnf))))))
  refine acall (uHead w _ (by omega)) ?_
  rintro _ σ_ ⟨rfl, e_⟩
  obtain rfl := e_.symm
  refine ⟨?_, Ext.refl _⟩
  ((conv => whnf); (repeat ((first | with_reducible (first | refine zT rfl ?_ | refine zF rfl ?_ | refine zY rfl ?_) | refine zY (by decide) ?_ | refine zN (by decide) ?_ | with_reducible refine zQ ?_); (conv => whnf))))
  (repeat ((first | refine aload (by (repeat (first | with_reducible exact upd_same _ _ _ | assumption | rw [upd_ne _ _ (by first | assumption | (apply Ne.symm; assumption))]))) rfl ?_ | refine afit_i64 (by omega) ?_ | refine arem_nonneg (by omega) (by omega) ?_ | refine adiv_i64 (by omega) (by omega) ?_ | refine abr_yes (by omega) ?_ | refine abr_no (by omega) ?_ | refine amin ?_ | refine amax ?_ | refine afit_u64 (by omega) ?_ | refine afit_u8 (by omega) ?_ | rw [List.length_map]); ((conv => whnf); (repeat ((first | with_reducible (first | refine zT rfl ?_ | refine zF rfl ?_ | refine zY rfl ?_) | refine zY (by decide) ?_ | refine zN (by decide) ?_ | with_reducible refine zQ ?_); (conv => whnf))))))
  by_cases h2 : (b.length : Int) < w / 5
  · have eq : readU b w = (none3, 8) := by unfold readU; rw [hw, if_neg (by simp), if_neg h1, if_pos h2]
    (repeat ((first | refine aload (by (repeat (first | with_reducible exact upd_same _ _ _ | assumption | rw [upd_ne _ _ (by first | assumption | (apply Ne.symm; assumption))]))) rfl ?_ | refine afit_i64 (by omega) ?_ | refine arem_nonneg (by omega) (by omega) ?_ | refine adiv_i64 (by omega) (by omega) ?_ | refine abr_yes (by omega) ?_ | refine abr_no (by omega) ?_ | refine amin ?_ | refine amax ?_ | refine afit_u64 (by omega) ?_ | refine afit_u8 (by omega) ?_ | rw [List.length_map]); ((conv => whnf); (repeat ((first | with_reducible (first | refine zT rfl ?_ | refine zF rfl ?_ | refine zY rfl ?_) | refine zY (by decide) ?_ | refine zN (by decide) ?_ | with_reducible refine zQ ?_); (conv => whnf))))))
    refine astore (xs := [i64v 0, i64v 0, .slice 1 [] .full]) (l := [i64v 0, i64v 0, .slice 1 [] .full]) hc0 (Nat.le_of_ble_eq_true rfl) rfl rfl ?_
    ((conv => whnf); (repeat ((first | with_reducible (first | refine zT rfl ?_ | refine zF rfl ?_ | refine zY rfl ?_) | refine zY (by decide) ?_ | refine zN (by decide) ?_ | with_reducible refine zQ ?_); (conv => whnf))))
    refine aloads (l := [i64v 0, i64v 0, .slice 1 [] .full]) (upd_same _ _ _) (by exact Nat.le_refl 3) rfl ?_
    ((conv => whnf); (repeat ((first | with_reducible (first | refine zT rfl ?_ | refine zF rfl ?_ | refine zY rfl ?_) | refine zY (by decide) ?_ | refine zN (by decide) ?_ | with_reducible refine zQ ?_); (conv => whnf))))
    exact aret_pk ((Sub.upd hs id _).trans (Sub.upd_fresh _ hid)) ⟨by rw [eq]; rfl, rfl⟩
  (repeat ((first | refine aload (by (repeat (first | with_reducible exact upd_same _ _ _ | assumption | rw [upd_ne _ _ (by first | assumption | (apply Ne.symm; assumption))]))) rfl ?_ | refine afit_i64 (by omega) ?_ | refine arem_nonneg (by omega) (by omega) ?_ | refine adiv_i64 (by omega) (by omega) ?_ | refine abr_yes (by omega) ?_ | refine abr_no (by omega) ?_ | refine amin ?_ | refine amax ?_ | refine afit_u64 (by omega) ?_ | refine afit_u8 (by omega) ?_ | rw [List.length_map]); ((conv => whnf); (repeat ((first | with_reducible (first | refine zT rfl ?_ | refine zF rfl ?_ | refine zY rfl ?_) | refine zY (by decide) ?_ | refine zN (by decide) ?_ | with_reducible refine zQ ?_); (conv => whnf))))))
  refine acall (rReadS _ b _ (.inr ⟨_, _, rfl, m0.sub hs⟩) (by omega)) ?_
  rintro _ σ1 ⟨rid, rfl, r1⟩
  refine ⟨?_, r1.ext⟩
  rw [List.take_of_length_le (by omega)] at r1
  ((conv => whnf); (repeat ((first | with_reducible (first | refine zT rfl ?_ | refine zF rfl ?_ | refine zY rfl ?_) | refine zY (by decide) ?_ | refine zN (by decide) ?_ | with_reducible refine zQ ?_); (conv => whnf))))
  refine acall (uHead w _ (by omega)) ?_
  rintro _ σ_ ⟨rfl, e_⟩
  obtain rfl := e_.symm
  refine ⟨?_, Ext.refl _⟩
  ((conv => whnf); (repeat ((first | with_reducible (first | refine zT rfl ?_ | refine zF rfl ?_ | refine zY rfl ?_) | refine zY (by decide) ?_ | refine zN (by decide) ?_ | with_reducible refine zQ ?_); (conv => whnf))))
  (repeat ((first | refine aload (by (repeat (first | with_reducible exact upd_same _ _ _ | assumption | rw [upd_ne _ _ (by first | assumption | (apply Ne.symm; assumption))]))) rfl ?_ | refine afit_i64 (by omega) ?_ | refine arem_nonneg (by omega) (by omega) ?_ | refine adiv_i64 (by omega) (by omega) ?_ | refine abr_yes (by omega) ?_ | refine abr_no (by omega) ?_ | refine amin ?_ | refine amax ?_ | refine afit_u64 (by omega) ?_ | refine afit_u8 (by omega) ?_ | rw [List.length_map]); ((conv => whnf); (repeat ((first | with_reducible (first | refine zT rfl ?_ | refine zF rfl ?_ | refine zY rfl ?_) | refine zY (by decide) ?_ | refine zN (by decide) ?_ | with_reducible refine zQ ?_); (conv => whnf))))))
  have hz : zeros w ≤ 3 := by unfold zeros; split <;> omega
  have hz2 : (8 : Int) * (w / 5) - 3 - w = ((zeros w : Nat) : Int) := by
    unfold zeros
    rcases hw2 with rfl | rfl
    · rfl
    · rfl
  obtain ⟨W, rfl⟩ : ∃ W : Nat, w = W := ⟨w.toNat, by omega⟩
  have hlen : zeros (W : Int) + 3 + W ≤ 8 * b.length := by omega
  have hul := unpack_length b
  rw [hz2]
  have c1 : getCode (8 * b.length) 0 ((zeros (W : Int) : Nat) : Int) = 0 := getCode_fine (by omega) (by omega)
  refine acall (rGet rid b 0 ((zeros (W : Int) : Nat) : Int) _ _ r1) ?_
  rintro _ σ2 ⟨rfl, r2⟩
  rw [getAt_fine c1, Int.toNat_natCast, Nat.zero_add] at r2
  rw [c1, getVal_fine (by rw [hul]; exact c1), Int.toNat_natCast, List.drop_zero]
  ((conv => whnf); (repeat ((first | with_reducible (first | refine zT rfl ?_ | refine zF rfl ?_ | refine zY rfl ?_) | refine zY (by decide) ?_ | refine zN (by decide) ?_ | with_reducible refine zQ ?_); (conv => whnf))))
  have c2 : getCode (8 * b.length) (zeros (W : Int)) 2 = 0 := getCode_fine (by omega) (by omega)
  refine acall (rGet rid b (zeros (W : Int)) 2 _ _ r2) ?_
  rintro _ σ3 ⟨rfl, r3⟩
  rw [getAt_fine c2, show (2 : Int).toNat = 2 from rfl] at r3
  rw [c2, getVal_fine (by rw [hul]; exact c2), show (2 : Int).toNat = 2 from rfl]
  ((conv => whnf); (repeat ((first | with_reducible (first | refine zT rfl ?_ | refine zF rfl ?_ | refine zY rfl ?_) | refine zY (by decide) ?_ | refine zN (by decide) ?_ | with_reducible refine zQ ?_); (conv => whnf))))
  have c3 : getCode (8 * b.length) (zeros (W : Int) + 2) 1 = 0 := getCode_fine (by omega) (by omega)
  refine acall (rGet rid b (zeros (W : Int) + 2) 1 _ _ r3) ?_
  rintro _ σ4 ⟨rfl, r4⟩
  rw [getAt_fine c3, show (1 : Int).toNat = 1 from rfl] at r4
  rw [c3, getVal_fine (by rw [hul]; exact c3), show (1 : Int).toNat = 1 from rfl, take_one (by omega)]
  ((conv => whnf); (repeat ((first | with_reducible (first | refine zT rfl ?_ | refine zF rfl ?_ | refine zY rfl ?_) | refine zY (by decide) ?_ | refine zN (by decide) ?_ | with_reducible refine zQ ?_); (conv => whnf))))
  have c4 : getCode (8 * b.length) (zeros (W : Int) + 2 + 1) (W : Int) = 0 := getCode_fine (by omega) (by omega)
  refine acall (rGet rid b (zeros (W : Int) + 2 + 1) (W : Int) _ _ r4) ?_
  rintro _ σ5 ⟨rfl, r5⟩
  rw [c4, getVal_fine (by rw [hul]; exact c4), Int.toNat_natCast]
  ((conv => whnf); (repeat ((first | with_reducible (first | refine zT rfl ?_ | refine zF rfl ?_ | refine zY rfl ?_) | refine zY (by decide) ?_ | refine zN (by decide) ?_ | with_reducible refine zQ ?_); (conv => whnf))))
  have hs5 : Sub σ5 σ0 := r5.sub
  have hc5 : σ5 id = some (.cells [i64v 0, i64v 0, .slice 1 [] .full]) := hs5 _ _ hc0
  have hfi : val 0 (((unpack b).drop (zeros (W : Int))).take 2) = umFi b (W : Int) := rfl
  have hsn : val 0 (((unpack b).drop (zeros (W : Int) + 2 + 1)).take W) = umSn b (W : Int) := by unfold umSn; rw [Int.toNat_natCast]
  have hmo : bitD (unpack b) (zeros (W : Int) + 2) = umMoreB b (W : Int) := rfl
  have hfl : umFi b (W : Int) < 4 := by
    have := val_lt (((unpack b).drop (zeros (W : Int))).take 2)
    have h2 : (((unpack b).drop (zeros (W : Int))).take 2).length = 2 := by rw [List.length_take, List.length_drop]; omega
    rw [h2] at this; exact this
  have hsl : umSn b (W : Int) < 2 ^ 10 := by
    rw [← hsn]
    have := val_lt (((unpack b).drop (zeros (W : Int) + 2 + 1)).take W)
    refine Nat.lt_of_lt_of_le this (Nat.pow_le_pow_right (by omega) ?_)
    rw [List.length_take]; omega
  rw [hfi, hsn, hmo]
  by_cases h3 : val 0 ((unpack b).take (zeros (W : Int))) = 0
  case neg =>
    have eq : readU b (W : Int) = (none3, 3) := by unfold readU; rw [hw, if_neg (by simp), if_neg h1, if_neg h2, if_pos h3]
    refine abr_yes (by omega) ?_
    ((conv => whnf); (repeat ((first | with_reducible (first | refine zT rfl ?_ | refine zF rfl ?_ | refine zY rfl ?_) | refine zY (by decide) ?_ | refine zN (by decide) ?_ | with_reducible refine zQ ?_); (conv => whnf))))
    refine astore (xs := [i64v 0, i64v 0, .slice 1 [] .full]) (l := [i64v 0, i64v 0, .slice 1 [] .full]) hc5 (Nat.le_of_ble_eq_true rfl) rfl rfl ?_
    ((conv => whnf); (repeat ((first | with_reducible (first | refine zT rfl ?_ | refine zF rfl ?_ | refine zY rfl ?_) | refine zY (by decide) ?_ | refine zN (by decide) ?_ | with_reducible refine zQ ?_); (conv => whnf))))
    refine aloads (l := [i64v 0, i64v 0, .slice 1 [] .full]) (upd_same _ _ _) (by exact Nat.le_refl 3) rfl ?_
    ((conv => whnf); (repeat ((first | with_reducible (first | refine zT rfl ?_ | refine zF rfl ?_ | refine zY rfl ?_) | refine zY (by decide) ?_ | refine zN (by decide) ?_ | with_reducible refine zQ ?_); (conv => whnf))))
    exact aret_pk ((Sub.upd (hs5.trans hs) id _).trans (Sub.upd_fresh _ hid)) ⟨by rw [eq]; rfl, rfl⟩
  refine abr_no (by omega) ?_
  ((conv => whnf); (repeat ((first | with_reducible (first | refine zT rfl ?_ | refine zF rfl ?_ | refine zY rfl ?_) | refine zY (by decide) ?_ | refine zN (by decide) ?_ | with_reducible refine zQ ?_); (conv => whnf))))
  refine acall (uHead (W : Int) _ (by omega)) ?_
  rintro _ σ_ ⟨rfl, e_⟩
  obtain rfl := e_.symm
  refine ⟨?_, Ext.refl _⟩
  ((conv => whnf); (repeat ((first | with_reducible (first | refine zT rfl ?_ | refine zF rfl ?_ | refine zY rfl ?_) | refine zY (by decide) ?_ | refine zN (by decide) ?_ | with_reducible refine zQ ?_); (conv => whnf))))
  (repeat ((first | refine aload (by (repeat (first | with_reducible exact upd_same _ _ _ | assumption | rw [upd_ne _ _ (by first | assumption | (apply Ne.symm; assumption))]))) rfl ?_ | refine afit_i64 (by omega) ?_ | refine arem_nonneg (by omega) (by omega) ?_ | refine adiv_i64 (by omega) (by omega) ?_ | refine abr_yes (by omega) ?_ | refine abr_no (by omega) ?_ | refine amin ?_ | refine amax ?_ | refine afit_u64 (by omega) ?_ | refine afit_u8 (by omega) ?_ | rw [List.length_map]); ((conv => whnf); (repeat ((first | with_reducible (first | refine zT rfl ?_ | refine zF rfl ?_ | refine zY rfl ?_) | refine zY (by decide) ?_ | refine zN (by decide) ?_ | with_reducible refine zQ ?_); (conv => whnf))))))
  refine acut (by omega) (by omega) (by omega) ?_
  ((conv => whnf); (repeat ((first | with_reducible (first | refine zT rfl ?_ | refine zF rfl ?_ | refine zY rfl ?_) | refine zY (by decide) ?_ | refine zN (by decide) ?_ | with_reducible refine zQ ?_); (conv => whnf))))
  refine acutm (m0.sub (hs5.trans hs)) (by omega) (by omega) fun v1 hv1 => ?_
  rw [Int.toNat_natCast, List.take_of_length_le (l := b) (Nat.le_refl _), show b.drop ((W : Int) / 5).toNat = umRest b (W : Int) from rfl] at hv1
  have hrl : (umRest b (W : Int)).length ≤ 4000 := by unfold umRest; rw [List.length_drop]; omega
  have eq0 : readU b (W : Int) = if (lensAt b (W : Int)).2.2 ≠ 0 then (none3, (lensAt b (W : Int)).2.2) else if (umCut b (W : Int)).2 ≠ 0 then (none3, (umCut b (W : Int)).2) else ((umFi b (W : Int), umSn b (W : Int), (umCut b (W : Int)).1), 0) := by
    unfold readU; rw [hw, if_neg (by simp), if_neg h1, if_neg h2, if_neg (fun h => h h3)]
  generalize umFi b (W : Int) = fi at *
  generalize umSn b (W : Int) = sn at *
  cases hm : umMoreB b (W : Int) with
  | true =>
    have hla : lensAt b (W : Int) = readV (umRest b (W : Int)) 11 := by unfold lensAt; rw [if_pos hm]
    have hcut : umCut b (W : Int) = cutF (readV (umRest b (W : Int)) 11).1 ((umRest b (W : Int)).drop (readV (umRest b (W : Int)) 11).2.1.toNat) [] := by unfold umCut; rw [hla]
    rw [hla] at eq0
    ((conv => whnf); (repeat ((first | with_reducible (first | refine zT rfl ?_ | refine zF rfl ?_ | refine zY rfl ?_) | refine zY (by decide) ?_ | refine zN (by decide) ?_ | with_reducible refine zQ ?_); (conv => whnf))))
    refine acall (lReadS v1 (umRest b (W : Int)) 11 _ hv1 (by omega)) ?_
    rintro _ σ_ ⟨rfl, e_⟩
    obtain rfl := e_.symm
    refine ⟨?_, Ext.refl _⟩
    ((conv => whnf); (repeat ((first | with_reducible (first | refine zT rfl ?_ | refine zF rfl ?_ | refine zY rfl ?_) | refine zY (by decide) ?_ | refine zN (by decide) ?_ | with_reducible refine zQ ?_); (conv => whnf))))
    have hlen23 := readV_len (umRest b (W : Int)) 11
    by_cases h4 : (readV (umRest b (W : Int)) 11).2.2 = 0
    case neg =>
      have eq : readU b (W : Int) = (none3, (readV (umRest b (W : Int)) 11).2.2) := by rw [eq0, if_pos h4]
      refine abr_yes h4 ?_
      ((conv => whnf); (repeat ((first | with_reducible (first | refine zT rfl ?_ | refine zF rfl ?_ | refine zY rfl ?_) | refine zY (by decide) ?_ | refine zN (by decide) ?_ | with_reducible refine zQ ?_); (conv => whnf))))
      refine astore (xs := [i64v 0, i64v 0, .slice 1 [] .full]) (l := [i64v 0, i64v 0, .slice 1 [] .full]) hc5 (Nat.le_of_ble_eq_true rfl) rfl rfl ?_
      ((conv => whnf); (repeat ((first | with_reducible (first | refine zT rfl ?_ | refine zF rfl ?_ | refine zY rfl ?_) | refine zY (by decide) ?_ | refine zN (by decide) ?_ | with_reducible refine zQ ?_); (conv => whnf))))
      refine aloads (l := [i64v 0, i64v 0, .slice 1 [] .full]) (upd_same _ _ _) (by exact Nat.le_refl 3) rfl ?_
      ((conv => whnf); (repeat ((first | with_reducible (first | refine zT rfl ?_ | refine zF rfl ?_ | refine zY rfl ?_) | refine zY (by decide) ?_ | refine zN (by decide) ?_ | with_reducible refine zQ ?_); (conv => whnf))))
      exact aret_pk ((Sub.upd (hs5.trans hs) id _).trans (Sub.upd_fresh _ hid)) ⟨by rw [eq]; rfl, rfl⟩
    obtain ⟨q1, q2, q3⟩ := readV_ok h4
    rw [h4] at eq0
    refine abr_no (fun h => h h4) ?_
    rcases hv1 with ⟨t1, rfl⟩ | ⟨r1, o1, rfl, m1⟩
    case' inl =>
      ((conv => whnf); (repeat ((first | with_reducible (first | refine zT rfl ?_ | refine zF rfl ?_ | refine zY rfl ?_) | refine zY (by decide) ?_ | refine zN (by decide) ?_ | with_reducible refine zQ ?_); (conv => whnf))))
      rw [List.length_map]
      refine acut (by omega) (by omega) (by omega) ?_
      ((conv => whnf); (repeat ((first | with_reducible (first | refine zT rfl ?_ | refine zF rfl ?_ | refine zY rfl ?_) | refine zY (by decide) ?_ | refine zN (by decide) ?_ | with_reducible refine zQ ?_); (conv => whnf))))
      rw [show (((umRest b (W : Int)).length : Nat) : Int).toNat = (umRest b (W : Int)).length by omega, List.take_of_length_le (l := (umRest b (W : Int)).map byteV) (by rw [List.length_map]; exact Nat.le_refl _), ← List.map_drop]
      refine acall (uFieldsS _ ((umRest b (W : Int)).drop (readV (umRest b (W : Int)) 11).2.1.toNat) (readV (umRest b (W : Int)) 11).1 .none _ (.inl ⟨_, rfl⟩) (by rw [List.length_drop]; omega) (by omega) q1) ?_
    case' inr =>
      ((conv => whnf); (repeat ((first | with_reducible (first | refine zT rfl ?_ | refine zF rfl ?_ | refine zY rfl ?_) | refine zY (by decide) ?_ | refine zN (by decide) ?_ | with_reducible refine zQ ?_); (conv => whnf))))
      refine acut (by omega) (by omega) (by omega) ?_
      ((conv => whnf); (repeat ((first | with_reducible (first | refine zT rfl ?_ | refine zF rfl ?_ | refine zY rfl ?_) | refine zY (by decide) ?_ | refine zN (by decide) ?_ | with_reducible refine zQ ?_); (conv => whnf))))
      refine acutm m1 (by omega) (by omega) fun v2 hv2 => ?_
      rw [Int.toNat_natCast, List.take_of_length_le (l := umRest b (W : Int)) (Nat.le_refl _)] at hv2
      ((conv => whnf); (repeat ((first | with_reducible (first | refine zT rfl ?_ | refine zF rfl ?_ | refine zY rfl ?_) | refine zY (by decide) ?_ | refine zN (by decide) ?_ | with_reducible refine zQ ?_); (conv => whnf))))
      refine acall (uFieldsS v2 ((umRest b (W : Int)).drop (readV (umRest b (W : Int)) 11).2.1.toNat) (readV (umRest b (W : Int)) 11).1 .none _ hv2 (by rw [List.length_drop]; omega) (by omega) q1) ?_
    all_goals
      rintro _ σ_ ⟨rfl, e_⟩
      obtain rfl := e_.symm
      refine ⟨?_, Ext.refl _⟩
      ((conv => whnf); (repeat ((first | with_reducible (first | refine zT rfl ?_ | refine zF rfl ?_ | refine zY rfl ?_) | refine zY (by decide) ?_ | refine zN (by decide) ?_ | with_reducible refine zQ ?_); (conv => whnf))))
      rw [← hcut]
      by_cases h5 : (umCut b (W : Int)).2 = 0
      case neg =>
        have eq : readU b (W : Int) = (none3, (umCut b (W : Int)).2) := by rw [eq0, if_neg (by simp), if_pos h5]
        refine abr_yes h5 ?_
        ((conv => whnf); (repeat ((first | with_reducible (first | refine zT rfl ?_ | refine zF rfl ?_ | refine zY rfl ?_) | refine zY (by decide) ?_ | refine zN (by decide) ?_ | with_reducible refine zQ ?_); (conv => whnf))))
        refine astore (xs := [i64v 0, i64v 0, .slice 1 [] .full]) (l := [i64v 0, i64v 0, .slice 1 [] .full]) hc5 (Nat.le_of_ble_eq_true rfl) rfl rfl ?_
        ((conv => whnf); (repeat ((first | with_reducible (first | refine zT rfl ?_ | refine zF rfl ?_ | refine zY rfl ?_) | refine zY (by decide) ?_ | refine zN (by decide) ?_ | with_reducible refine zQ ?_); (conv => whnf))))
        refine aloads (l := [i64v 0, i64v 0, .slice 1 [] .full]) (upd_same _ _ _) (by exact Nat.le_refl 3) rfl ?_
        ((conv => whnf); (repeat ((first | with_reducible (first | refine zT rfl ?_ | refine zF rfl ?_ | refine zY rfl ?_) | refine zY (by decide) ?_ | refine zN (by decide) ?_ | with_reducible refine zQ ?_); (conv => whnf))))
        exact aret_pk ((Sub.upd (hs5.trans hs) id _).trans (Sub.upd_fresh _ hid)) ⟨by rw [eq]; rfl, rfl⟩
      have eq : readU b (W : Int) = ((fi, sn, (umCut b (W : Int)).1), 0) := by rw [eq0, if_neg (by simp), if_neg (fun h => h h5)]
      refine abr_no (fun h => h h5) ?_
      ((conv => whnf); (repeat ((first | with_reducible (first | refine zT rfl ?_ | refine zF rfl ?_ | refine zY rfl ?_) | refine zY (by decide) ?_ | refine zN (by decide) ?_ | with_reducible refine zQ ?_); (conv => whnf))))
      (repeat ((first | refine aload (by (repeat (first | with_reducible exact upd_same _ _ _ | assumption | rw [upd_ne _ _ (by first | assumption | (apply Ne.symm; assumption))]))) rfl ?_ | refine afit_i64 (by omega) ?_ | refine arem_nonneg (by omega) (by omega) ?_ | refine adiv_i64 (by omega) (by omega) ?_ | refine abr_yes (by omega) ?_ | refine abr_no (by omega) ?_ | refine amin ?_ | refine amax ?_ | refine afit_u64 (by omega) ?_ | refine afit_u8 (by omega) ?_ | rw [List.length_map]); ((conv => whnf); (repeat ((first | with_reducible (first | refine zT rfl ?_ | refine zF rfl ?_ | refine zY rfl ?_) | refine zY (by decide) ?_ | refine zN (by decide) ?_ | with_reducible refine zQ ?_); (conv => whnf))))))
      refine astore (xs := [i64v fi, i64v sn, lists .none (umCut b (W : Int)).1]) (l := [i64v fi, i64v sn, lists .none (umCut b (W : Int)).1]) hc5 (Nat.le_of_ble_eq_true rfl) rfl rfl ?_
      ((conv => whnf); (repeat ((first | with_reducible (first | refine zT rfl ?_ | refine zF rfl ?_ | refine zY rfl ?_) | refine zY (by decide) ?_ | refine zN (by decide) ?_ | with_reducible refine zQ ?_); (conv => whnf))))
      refine aloads (l := [i64v fi, i64v sn, lists .none (umCut b (W : Int)).1]) (upd_same _ _ _) (by exact Nat.le_refl 3) rfl ?_
      ((conv => whnf); (repeat ((first | with_reducible (first | refine zT rfl ?_ | refine zF rfl ?_ | refine zY rfl ?_) | refine zY (by decide) ?_ | refine zN (by decide) ?_ | with_reducible refine zQ ?_); (conv => whnf))))
      exact aret_pk ((Sub.upd (hs5.trans hs) id _).trans (Sub.upd_fresh _ hid)) ⟨by rw [eq], rfl⟩
  | false =>
    have hla : lensAt b (W : Int) = ([], 0, 0) := by unfold lensAt; rw [hm]; rfl
    have hcut : umCut b (W : Int) = cutF [] (umRest b (W : Int)) [] := by unfold umCut; rw [hla]; rfl
    rw [hla] at eq0
    ((conv => whnf); (repeat ((first | with_reducible (first | refine zT rfl ?_ | refine zF rfl ?_ | refine zY rfl ?_) | refine zY (by decide) ?_ | refine zN (by decide) ?_ | with_reducible refine zQ ?_); (conv => whnf))))
    refine acall (uFieldsS v1 (umRest b (W : Int)) [] .full _ hv1 (by omega) (by simp) (by simp)) ?_
    rintro _ σ_ ⟨rfl, e_⟩
    obtain rfl := e_.symm
    refine ⟨?_, Ext.refl _⟩
    ((conv => whnf); (repeat ((first | with_reducible (first | refine zT rfl ?_ | refine zF rfl ?_ | refine zY rfl ?_) | refine zY (by decide) ?_ | refine zN (by decide) ?_ | with_reducible refine zQ ?_); (conv => whnf))))
    rw [← hcut]
    by_cases h5 : (umCut b (W : Int)).2 = 0
    case neg =>
      have eq : readU b (W : Int) = (none3, (umCut b (W : Int)).2) := by rw [eq0, if_neg (by simp), if_pos h5]
      refine abr_yes h5 ?_
      ((conv => whnf); (repeat ((first | with_reducible (first | refine zT rfl ?_ | refine zF rfl ?_ | refine zY rfl ?_) | refine zY (by decide) ?_ | refine zN (by decide) ?_ | with_reducible refine zQ ?_); (conv => whnf))))
      refine astore (xs := [i64v 0, i64v 0, .slice 1 [] .full]) (l := [i64v 0, i64v 0, .slice 1 [] .full]) hc5 (Nat.le_of_ble_eq_true rfl) rfl rfl ?_
      ((conv => whnf); (repeat ((first | with_reducible (first | refine zT rfl ?_ | refine zF rfl ?_ | refine zY rfl ?_) | refine zY (by decide) ?_ | refine zN (by decide) ?_ | with_reducible refine zQ ?_); (conv => whnf))))
      refine aloads (l := [i64v 0, i64v 0, .slice 1 [] .full]) (upd_same _ _ _) (by exact Nat.le_refl 3) rfl ?_
      ((conv => whnf); (repeat ((first | with_reducible (first | refine zT rfl ?_ | refine zF rfl ?_ | refine zY rfl ?_) | refine zY (by decide) ?_ | refine zN (by decide) ?_ | with_reducible refine zQ ?_); (conv => whnf))))
      exact aret_pk ((Sub.upd (hs5.trans hs) id _).trans (Sub.upd_fresh _ hid)) ⟨by rw [eq]; rfl, rfl⟩
    have eq : readU b (W : Int) = ((fi, sn, (umCut b (W : Int)).1), 0) := by rw [eq0, if_neg (by simp), if_neg (fun h => h h5)]
    refine abr_no (fun h => h h5) ?_
    ((conv => whnf); (repeat ((first | with_reducible (first | refine zT rfl ?_ | refine zF rfl ?_ | refine zY rfl ?_) | refine zY (by decide) ?_ | refine zN (by decide) ?_ | with_reducible refine zQ ?_); (conv => whnf))))
    (repeat ((first | refine aload (by (repeat (first | with_reducible exact upd_same _ _ _ | assumption | rw [upd_ne _ _ (by first | assumption | (apply Ne.symm; assumption))]))) rfl ?_ | refine afit_i64 (by omega) ?_ | refine arem_nonneg (by omega) (by omega) ?_ | refine adiv_i64 (by omega) (by omega) ?_ | refine abr_yes (by omega) ?_ | refine abr_no (by omega) ?_ | refine amin ?_ | refine amax ?_ | refine afit_u64 (by omega) ?_ | refine afit_u8 (by omega) ?_ | rw [List.length_map]); ((conv => whnf); (repeat ((first | with_reducible (first | refine zT rfl ?_ | refine zF rfl ?_ | refine zY rfl ?_) | refine zY (by decide) ?_ | refine zN (by decide) ?_ | with_reducible refine zQ ?_); (conv => whnf))))))
    refine astore (xs := [i64v fi, i64v sn, lists .none (umCut b (W : Int)).1]) (l := [i64v fi, i64v sn, lists .none (umCut b (W : Int)).1]) hc5 (Nat.le_of_ble_eq_true rfl) rfl rfl ?_
    ((conv => whnf); (repeat ((first | with_reducible (first | refine zT rfl ?_ | refine zF rfl ?_ | refine zY rfl ?_) | refine zY (by decide) ?_ | refine zN (by decide) ?_ | with_reducible refine zQ ?_); (conv => whnf))))
    refine aloads (l := [i64v fi, i64v sn, lists .none (umCut b (W : Int)).1]) (upd_same _ _ _) (by exact Nat.le_refl 3) rfl ?_
    ((conv => whnf); (repeat ((first | with_reducible (first | refine zT rfl ?_ | refine zF rfl ?_ | refine zY rfl ?_) | refine zY (by decide) ?_ | refine zN (by decide) ?_ | with_reducible refine zQ ?_); (conv => whnf))))
    exact aret_pk ((Sub.upd (hs5.trans hs) id _).trans (Sub.upd_fresh _ hid)) ⟨by rw [eq], rfl⟩
end Go.Proofs.Ytgipkpghabelkaa
/-
  The document's bits and lengths: what is read.
-/
namespace Go.Proofs.Ytgipkpghabelkaa
set_option linter.unusedVariables false
set_option linter.unusedSimpArgs false
open Go Go.Am

abbrev bl (t : Tok) (l : List Bool) : AVal := .slice 1 (l.map boolv) t
theorem get_bools {l : List Bool} {i : Nat} (h : i < l.length) : (l.map boolv)[((i : Nat) : Int).toNat]? = some (boolv l[i]) := by
  rw [Int.toNat_natCast, List.getElem?_map, List.getElem?_eq_getElem h]; rfl

theorem testBit_one (v i : Nat) : decide (((v / 2 ^ i % 2 : Nat) : Int) = 1) = v.testBit i := by
  rw [← testBit_nat]; cases v.testBit i <;> rfl

theorem numBits_get (v : Nat) : ∀ (n m : Nat), m < n → (numBits v n)[m]? = some (v.testBit (n - 1 - m))
  | 0, m, h => by omega
  | n + 1, 0, h => by simp [numBits]
  | n + 1, m + 1, h => by
    simp only [numBits, List.getElem?_cons_succ]
    rw [numBits_get v n m (by omega)]
    congr 2; omega
theorem mask_eq : ∀ m, m < 8 → 256 / 2 ^ (m + 1) = 2 ^ (7 - m) := by decide
theorem mask_le : ∀ m, m < 9 → 256 / 2 ^ (m + 1) ≤ 128 := by decide
theorem mask_half (m : Nat) : 256 / 2 ^ (m + 1) / 2 = 256 / 2 ^ (m + 1 + 1) := by rw [Nat.div_div_eq_div_mul, ← Nat.pow_succ]

set_option maxRecDepth 10000 in
theorem refBits (b : List UInt8) (t : Tok) (σ : AHeap) : ACalls Try.prog i_bowlineref01_Bits [sl t b] σ fun x σ' => x = bl .none (unpack (b.take 8192)) ∧ σ' = σ := by
  refine k_bowlineref01_Bits rfl ?_
  ((conv => whnf); (repeat ((first | with_reducible (first | refine zT rfl ?_ | refine zF rfl ?_ | refine zY rfl ?_) | refine zY (by decide) ?_ | refine zN (by decide) ?_ | with_reducible refine zQ ?_); (conv => whnf))))
  refine aloop (α := Nat × Tok × AHeap) (fun x => [(s3, bl x.2.1 (unpack (b.take x.1))), (s4, i64v x.1)]) (fun x => x.2.2) (fun x => x.1 ≤ b.length ∧ x.1 ≤ 8192 ∧ Owned σ x.2.2 x.2.1) (fun x => 8192 - x.1) (0, .full, σ) ⟨by omega, by omega, .full _⟩ (Sub.refl _) ?_ ?_
  · ((conv => whnf); (repeat ((first | with_reducible (first | refine zT rfl ?_ | refine zF rfl ?_ | refine zY rfl ?_) | refine zY (by decide) ?_ | refine zN (by decide) ?_ | with_reducible refine zQ ?_); (conv => whnf))))
    (repeat' first | with_reducible exact EnvLe.refl _ | (refine EnvLe.node ?_ (by first | exact Or.inl rfl | exact Or.inr (Or.inl rfl) | exact Or.inr (Or.inr ⟨nofun, VLe.slice _ _ _⟩)) ?_))
  · rintro ⟨i, tk, σ1⟩ ⟨hi, hi2, ho⟩
    dsimp only at hi hi2 ho ⊢
    by_cases h : i < b.length
    · by_cases h2 : i < 8192
      · have hul := unpack_length (b.take i)
        rw [List.length_take, Nat.min_eq_left hi] at hul
        ((conv => whnf); (repeat ((first | with_reducible (first | refine zT rfl ?_ | refine zF rfl ?_ | refine zY rfl ?_) | refine zY (by decide) ?_ | refine zN (by decide) ?_ | with_reducible refine zQ ?_); (conv => whnf))))
        (repeat ((first | refine aload (by (repeat (first | with_reducible exact upd_same _ _ _ | assumption | rw [upd_ne _ _ (by first | assumption | (apply Ne.symm; assumption))]))) rfl ?_ | refine afit_i64 (by omega) ?_ | refine arem_nonneg (by omega) (by omega) ?_ | refine adiv_i64 (by omega) (by omega) ?_ | refine abr_yes (by omega) ?_ | refine abr_no (by omega) ?_ | refine amin ?_ | refine amax ?_ | refine afit_u64 (by omega) ?_ | refine afit_u8 (by omega) ?_ | rw [List.length_map]); ((conv => whnf); (repeat ((first | with_reducible (first | refine zT rfl ?_ | refine zF rfl ?_ | refine zY rfl ?_) | refine zY (by decide) ?_ | refine zN (by decide) ?_ | with_reducible refine zQ ?_); (conv => whnf))))))
        refine aloop (α := Nat × Tok × AHeap) (fun x => [(s3, bl x.2.1 (unpack (b.take i) ++ (byteBits b[i]).take x.1)), (s5, u8v (256 / 2 ^ (x.1 + 1)))]) (fun x => x.2.2) (fun x => x.1 ≤ 8 ∧ Owned σ x.2.2 x.2.1) (fun x => 8 - x.1) (0, tk, σ1) ⟨by omega, ho⟩ (Sub.refl _) ?_ ?_
        · ((conv => whnf); (repeat ((first | with_reducible (first | refine zT rfl ?_ | refine zF rfl ?_ | refine zY rfl ?_) | refine zY (by decide) ?_ | refine zN (by decide) ?_ | with_reducible refine zQ ?_); (conv => whnf))))
          dsimp only
          rw [List.take_zero, List.append_nil, show 256 / 2 ^ (0 + 1) = 128 by decide]
          (repeat' first | with_reducible exact EnvLe.refl _ | (refine EnvLe.node ?_ (by first | exact Or.inl rfl | exact Or.inr (Or.inl rfl) | exact Or.inr (Or.inr ⟨nofun, VLe.slice _ _ _⟩)) ?_))
        · rintro ⟨m, tk2, σ2⟩ ⟨hm, ho2⟩
          dsimp only at hm ho2 ⊢
          have hx := b[i].toNat_lt
          by_cases hm8 : m < 8
          · have hle := mask_le m (by omega)
            have hpos : 0 < 256 / 2 ^ (m + 1) := by rw [mask_eq m hm8]; exact Nat.pos_of_ne_zero (by simp)
            ((conv => whnf); (repeat ((first | with_reducible (first | refine zT rfl ?_ | refine zF rfl ?_ | refine zY rfl ?_) | refine zY (by decide) ?_ | refine zN (by decide) ?_ | with_reducible refine zQ ?_); (conv => whnf))))
            refine abr_yes (by omega) ?_
            ((conv => whnf); (repeat ((first | with_reducible (first | refine zT rfl ?_ | refine zF rfl ?_ | refine zY rfl ?_) | refine zY (by decide) ?_ | refine zN (by decide) ?_ | with_reducible refine zQ ?_); (conv => whnf))))
            refine aget (by omega) (get_bytes h) ?_
            ((conv => whnf); (repeat ((first | with_reducible (first | refine zT rfl ?_ | refine zF rfl ?_ | refine zY rfl ?_) | refine zY (by decide) ?_ | refine zN (by decide) ?_ | with_reducible refine zQ ?_); (conv => whnf))))
            refine acell rfl ?_
            ((conv => whnf); (repeat ((first | with_reducible (first | refine zT rfl ?_ | refine zF rfl ?_ | refine zY rfl ?_) | refine zY (by decide) ?_ | refine zN (by decide) ?_ | with_reducible refine zQ ?_); (conv => whnf))))
            refine adiv_u8 (by omega) (by omega) ?_
            ((conv => whnf); (repeat ((first | with_reducible (first | refine zT rfl ?_ | refine zF rfl ?_ | refine zY rfl ?_) | refine zY (by decide) ?_ | refine zN (by decide) ?_ | with_reducible refine zQ ?_); (conv => whnf))))
            refine arem_nat (b := 2) (by omega) ?_
            ((conv => whnf); (repeat ((first | with_reducible (first | refine zT rfl ?_ | refine zF rfl ?_ | refine zY rfl ?_) | refine zY (by decide) ?_ | refine zN (by decide) ?_ | with_reducible refine zQ ?_); (conv => whnf))))
            rw [mask_eq m hm8, testBit_one, ← mask_eq m hm8]
            ((conv => whnf); (repeat ((first | with_reducible (first | refine zT rfl ?_ | refine zF rfl ?_ | refine zY rfl ?_) | refine zY (by decide) ?_ | refine zN (by decide) ?_ | with_reducible refine zQ ?_); (conv => whnf))))
            refine aapp_owned ho2 (by rw [List.length_map, List.length_append, List.length_take, byteBits_length, hul]; show (8 * i + min m 8 + 1) * 1 ≤ _; omega) fun t' tk' ho' _ => ?_
            have hb : (byteBits b[i])[m]? = some (b[i].toNat.testBit (7 - m)) := numBits_get b[i].toNat 8 m hm8
            rw [show List.map boolv (unpack (b.take i) ++ (byteBits b[i]).take m) ++ [AVal.v (Value.bool (b[i].toNat.testBit (7 - m)))] = List.map boolv (unpack (b.take i) ++ (byteBits b[i]).take (m + 1)) by
              rw [take_snoc hb]; simp]
            ((conv => whnf); (repeat ((first | with_reducible (first | refine zT rfl ?_ | refine zF rfl ?_ | refine zY rfl ?_) | refine zY (by decide) ?_ | refine zN (by decide) ?_ | with_reducible refine zQ ?_); (conv => whnf))))
            refine adiv_u8 (b := 2) (by omega) (by omega) ?_
            ((conv => whnf); (repeat ((first | with_reducible (first | refine zT rfl ?_ | refine zF rfl ?_ | refine zY rfl ?_) | refine zY (by decide) ?_ | refine zN (by decide) ?_ | with_reducible refine zQ ?_); (conv => whnf))))
            rw [mask_half]
            refine ⟨(m + 1, tk', _), ⟨by dsimp only; omega, ho'⟩, by dsimp only; omega, Sub.refl _, ?_⟩
            ((conv => whnf); (repeat ((first | with_reducible (first | refine zT rfl ?_ | refine zF rfl ?_ | refine zY rfl ?_) | refine zY (by decide) ?_ | refine zN (by decide) ?_ | with_reducible refine zQ ?_); (conv => whnf))))
            (repeat' first | with_reducible exact EnvLe.refl _ | (refine EnvLe.node ?_ (by first | exact Or.inl rfl | exact Or.inr (Or.inl rfl) | exact Or.inr (Or.inr ⟨nofun, VLe.slice _ _ _⟩)) ?_))
          · have : m = 8 := by omega
            subst this
            ((conv => whnf); (repeat ((first | with_reducible (first | refine zT rfl ?_ | refine zF rfl ?_ | refine zY rfl ?_) | refine zY (by decide) ?_ | refine zN (by decide) ?_ | with_reducible refine zQ ?_); (conv => whnf))))
            (repeat ((first | refine aload (by (repeat (first | with_reducible exact upd_same _ _ _ | assumption | rw [upd_ne _ _ (by first | assumption | (apply Ne.symm; assumption))]))) rfl ?_ | refine afit_i64 (by omega) ?_ | refine arem_nonneg (by omega) (by omega) ?_ | refine adiv_i64 (by omega) (by omega) ?_ | refine abr_yes (by omega) ?_ | refine abr_no (by omega) ?_ | refine amin ?_ | refine amax ?_ | refine afit_u64 (by omega) ?_ | refine afit_u8 (by omega) ?_ | rw [List.length_map]); ((conv => whnf); (repeat ((first | with_reducible (first | refine zT rfl ?_ | refine zF rfl ?_ | refine zY rfl ?_) | refine zY (by decide) ?_ | refine zN (by decide) ?_ | with_reducible refine zQ ?_); (conv => whnf))))))
            refine ⟨(i + 1, tk2, σ2), ⟨by dsimp only; omega, by dsimp only; omega, ho2⟩, by dsimp only; omega, Sub.refl _, ?_⟩
            have e : unpack (b.take (i + 1)) = unpack (b.take i) ++ (byteBits b[i]).take 8 := by
              rw [take_snoc (List.getElem?_eq_getElem h), unpack_append, List.take_of_length_le (l := byteBits b[i]) (by rw [byteBits_length]; omega)]
              congr 1
            ((conv => whnf); (repeat ((first | with_reducible (first | refine zT rfl ?_ | refine zF rfl ?_ | refine zY rfl ?_) | refine zY (by decide) ?_ | refine zN (by decide) ?_ | with_reducible refine zQ ?_); (conv => whnf))))
            rw [e]
            (repeat' first | with_reducible exact EnvLe.refl _ | (refine EnvLe.node ?_ (by first | exact Or.inl rfl | exact Or.inr (Or.inl rfl) | exact Or.inr (Or.inr ⟨nofun, VLe.slice _ _ _⟩)) ?_))
      · ((conv => whnf); (repeat ((first | with_reducible (first | refine zT rfl ?_ | refine zF rfl ?_ | refine zY rfl ?_) | refine zY (by decide) ?_ | refine zN (by decide) ?_ | with_reducible refine zQ ?_); (conv => whnf))))
        (repeat ((first | refine aload (by (repeat (first | with_reducible exact upd_same _ _ _ | assumption | rw [upd_ne _ _ (by first | assumption | (apply Ne.symm; assumption))]))) rfl ?_ | refine afit_i64 (by omega) ?_ | refine arem_nonneg (by omega) (by omega) ?_ | refine adiv_i64 (by omega) (by omega) ?_ | refine abr_yes (by omega) ?_ | refine abr_no (by omega) ?_ | refine amin ?_ | refine amax ?_ | refine afit_u64 (by omega) ?_ | refine afit_u8 (by omega) ?_ | rw [List.length_map]); ((conv => whnf); (repeat ((first | with_reducible (first | refine zT rfl ?_ | refine zF rfl ?_ | refine zY rfl ?_) | refine zY (by decide) ?_ | refine zN (by decide) ?_ | with_reducible refine zQ ?_); (conv => whnf))))))
        refine aret_sl ho.sub ⟨?_, rfl⟩
        rw [show i = 8192 by omega]
    · ((conv => whnf); (repeat ((first | with_reducible (first | refine zT rfl ?_ | refine zF rfl ?_ | refine zY rfl ?_) | refine zY (by decide) ?_ | refine zN (by decide) ?_ | with_reducible refine zQ ?_); (conv => whnf))))
      (repeat ((first | refine aload (by (repeat (first | with_reducible exact upd_same _ _ _ | assumption | rw [upd_ne _ _ (by first | assumption | (apply Ne.symm; assumption))]))) rfl ?_ | refine afit_i64 (by omega) ?_ | refine arem_nonneg (by omega) (by omega) ?_ | refine adiv_i64 (by omega) (by omega) ?_ | refine abr_yes (by omega) ?_ | refine abr_no (by omega) ?_ | refine amin ?_ | refine amax ?_ | refine afit_u64 (by omega) ?_ | refine afit_u8 (by omega) ?_ | rw [List.length_map]); ((conv => whnf); (repeat ((first | with_reducible (first | refine zT rfl ?_ | refine zF rfl ?_ | refine zY rfl ?_) | refine zY (by decide) ?_ | refine zN (by decide) ?_ | with_reducible refine zQ ?_); (conv => whnf))))))
      refine aret_sl ho.sub ⟨?_, rfl⟩
      rw [List.take_of_length_le (by omega), List.take_of_length_le (by omega)]

set_option maxRecDepth 10000 in
theorem refGet (l : List Bool) (t : Tok) (k : Nat) (n : Int) (σ : AHeap) (hk : k ≤ l.length) (hl : l.length ≤ 1000000) :
    ACalls Try.prog i_bowlineref01_Get [bl t l, i64v k, i64v n] σ fun x σ' => x = .tup [u64v (getVal l k n), i64v (getAt l.length k n), i64v (getCode l.length k n)] ∧ σ' = σ := by
  refine k_bowlineref01_Get rfl ?_
  ((conv => whnf); (repeat ((first | with_reducible (first | refine zT rfl ?_ | refine zF rfl ?_ | refine zY rfl ?_) | refine zY (by decide) ?_ | refine zN (by decide) ?_ | with_reducible refine zQ ?_); (conv => whnf))))
  by_cases h1 : n < 0
  · have hc : getCode l.length k n = 1 := by unfold getCode; rw [if_pos (.inl h1)]
    (repeat ((first | refine aload (by (repeat (first | with_reducible exact upd_same _ _ _ | assumption | rw [upd_ne _ _ (by first | assumption | (apply Ne.symm; assumption))]))) rfl ?_ | refine afit_i64 (by omega) ?_ | refine arem_nonneg (by omega) (by omega) ?_ | refine adiv_i64 (by omega) (by omega) ?_ | refine abr_yes (by omega) ?_ | refine abr_no (by omega) ?_ | refine amin ?_ | refine amax ?_ | refine afit_u64 (by omega) ?_ | refine afit_u8 (by omega) ?_ | rw [List.length_map]); ((conv => whnf); (repeat ((first | with_reducible (first | refine zT rfl ?_ | refine zF rfl ?_ | refine zY rfl ?_) | refine zY (by decide) ?_ | refine zN (by decide) ?_ | with_reducible refine zQ ?_); (conv => whnf))))))
    refine aret_same ⟨?_, rfl⟩
    unfold getVal getAt; rw [hc]; rfl
  · by_cases h2 : n > 64
    · have hc : getCode l.length k n = 1 := by unfold getCode; rw [if_pos (.inr h2)]
      (repeat ((first | refine aload (by (repeat (first | with_reducible exact upd_same _ _ _ | assumption | rw [upd_ne _ _ (by first | assumption | (apply Ne.symm; assumption))]))) rfl ?_ | refine afit_i64 (by omega) ?_ | refine arem_nonneg (by omega) (by omega) ?_ | refine adiv_i64 (by omega) (by omega) ?_ | refine abr_yes (by omega) ?_ | refine abr_no (by omega) ?_ | refine amin ?_ | refine amax ?_ | refine afit_u64 (by omega) ?_ | refine afit_u8 (by omega) ?_ | rw [List.length_map]); ((conv => whnf); (repeat ((first | with_reducible (first | refine zT rfl ?_ | refine zF rfl ?_ | refine zY rfl ?_) | refine zY (by decide) ?_ | refine zN (by decide) ?_ | with_reducible refine zQ ?_); (conv => whnf))))))
      refine aret_same ⟨?_, rfl⟩
      unfold getVal getAt; rw [hc]; rfl
    · by_cases h3 : n > (l.length : Int) - k
      · have hc : getCode l.length k n = 8 := by unfold getCode; rw [if_neg (by omega), if_pos h3]
        (repeat ((first | refine aload (by (repeat (first | with_reducible exact upd_same _ _ _ | assumption | rw [upd_ne _ _ (by first | assumption | (apply Ne.symm; assumption))]))) rfl ?_ | refine afit_i64 (by omega) ?_ | refine arem_nonneg (by omega) (by omega) ?_ | refine adiv_i64 (by omega) (by omega) ?_ | refine abr_yes (by omega) ?_ | refine abr_no (by omega) ?_ | refine amin ?_ | refine amax ?_ | refine afit_u64 (by omega) ?_ | refine afit_u8 (by omega) ?_ | rw [List.length_map]); ((conv => whnf); (repeat ((first | with_reducible (first | refine zT rfl ?_ | refine zF rfl ?_ | refine zY rfl ?_) | refine zY (by decide) ?_ | refine zN (by decide) ?_ | with_reducible refine zQ ?_); (conv => whnf))))))
        refine aret_same ⟨?_, rfl⟩
        unfold getVal getAt; rw [hc]; rfl
      · have hc : getCode l.length k n = 0 := by unfold getCode; rw [if_neg (by omega), if_neg h3]
        (repeat ((first | refine aload (by (repeat (first | with_reducible exact upd_same _ _ _ | assumption | rw [upd_ne _ _ (by first | assumption | (apply Ne.symm; assumption))]))) rfl ?_ | refine afit_i64 (by omega) ?_ | refine arem_nonneg (by omega) (by omega) ?_ | refine adiv_i64 (by omega) (by omega) ?_ | refine abr_yes (by omega) ?_ | refine abr_no (by omega) ?_ | refine amin ?_ | refine amax ?_ | refine afit_u64 (by omega) ?_ | refine afit_u8 (by omega) ?_ | rw [List.length_map]); ((conv => whnf); (repeat ((first | with_reducible (first | refine zT rfl ?_ | refine zF rfl ?_ | refine zY rfl ?_) | refine zY (by decide) ?_ | refine zN (by decide) ?_ | with_reducible refine zQ ?_); (conv => whnf))))))
        refine aloop (α := Nat) (fun j => [(s9, u64v (val 0 ((l.drop k).take j))), (s10, i64v ((k + j : Nat) : Int))]) (fun _ => σ) (fun j => j ≤ n.toNat) (fun j => n.toNat - j) 0 (by omega) (Sub.refl _) ?_ ?_
        · ((conv => whnf); (repeat ((first | with_reducible (first | refine zT rfl ?_ | refine zF rfl ?_ | refine zY rfl ?_) | refine zY (by decide) ?_ | refine zN (by decide) ?_ | with_reducible refine zQ ?_); (conv => whnf))))
          (repeat' first | with_reducible exact EnvLe.refl _ | (refine EnvLe.node ?_ (by first | exact Or.inl rfl | exact Or.inr (Or.inl rfl) | exact Or.inr (Or.inr ⟨nofun, VLe.slice _ _ _⟩)) ?_))
        · rintro j hj
          by_cases h : j < n.toNat
          · have hin : k + j < l.length := by omega
            have hv2 : val 0 ((l.drop k).take j) < 2 ^ 63 := by
              have h1 := val_lt ((l.drop k).take j)
              have h2 : ((l.drop k).take j).length ≤ 63 := by rw [List.length_take]; omega
              exact Nat.lt_of_lt_of_le h1 (Nat.pow_le_pow_right (by omega) h2)
            have e : val 0 ((l.drop k).take (j + 1)) = 2 * val 0 ((l.drop k).take j) + l[k + j].toNat := by
              rw [take_snoc (l := l.drop k) (i := j) (x := l[k + j]) (by rw [List.getElem?_drop, List.getElem?_eq_getElem hin]), val_snoc]
            ((conv => whnf); (repeat ((first | with_reducible (first | refine zT rfl ?_ | refine zF rfl ?_ | refine zY rfl ?_) | refine zY (by decide) ?_ | refine zN (by decide) ?_ | with_reducible refine zQ ?_); (conv => whnf))))
            (repeat ((first | refine aload (by (repeat (first | with_reducible exact upd_same _ _ _ | assumption | rw [upd_ne _ _ (by first | assumption | (apply Ne.symm; assumption))]))) rfl ?_ | refine afit_i64 (by omega) ?_ | refine arem_nonneg (by omega) (by omega) ?_ | refine adiv_i64 (by omega) (by omega) ?_ | refine abr_yes (by omega) ?_ | refine abr_no (by omega) ?_ | refine amin ?_ | refine amax ?_ | refine afit_u64 (by omega) ?_ | refine afit_u8 (by omega) ?_ | rw [List.length_map]); ((conv => whnf); (repeat ((first | with_reducible (first | refine zT rfl ?_ | refine zF rfl ?_ | refine zY rfl ?_) | refine zY (by decide) ?_ | refine zN (by decide) ?_ | with_reducible refine zQ ?_); (conv => whnf))))))
            try refine afit_u64 (by omega) ?_
            rw [show (2 : Int) * ((val 0 ((l.drop k).take j) : Nat) : Int) = ((2 * val 0 ((l.drop k).take j) : Nat) : Int) by omega]
            ((conv => whnf); (repeat ((first | with_reducible (first | refine zT rfl ?_ | refine zF rfl ?_ | refine zY rfl ?_) | refine zY (by decide) ?_ | refine zN (by decide) ?_ | with_reducible refine zQ ?_); (conv => whnf))))
            refine aget (by omega) (get_bools hin) ?_
            ((conv => whnf); (repeat ((first | with_reducible (first | refine zT rfl ?_ | refine zF rfl ?_ | refine zY rfl ?_) | refine zY (by decide) ?_ | refine zN (by decide) ?_ | with_reducible refine zQ ?_); (conv => whnf))))
            refine acell rfl ?_
            ((conv => whnf); (repeat ((first | with_reducible (first | refine zT rfl ?_ | refine zF rfl ?_ | refine zY rfl ?_) | refine zY (by decide) ?_ | refine zN (by decide) ?_ | with_reducible refine zQ ?_); (conv => whnf))))
            have nx : ((k + j : Nat) : Int) + 1 = ((k + (j + 1) : Nat) : Int) := by omega
            cases hb : l[k + j] with
            | true =>
              rw [hb] at e
              ((conv => whnf); (repeat ((first | with_reducible (first | refine zT rfl ?_ | refine zF rfl ?_ | refine zY rfl ?_) | refine zY (by decide) ?_ | refine zN (by decide) ?_ | with_reducible refine zQ ?_); (conv => whnf))))
              refine afit_u64 (by omega) ?_
              ((conv => whnf); (repeat ((first | with_reducible (first | refine zT rfl ?_ | refine zF rfl ?_ | refine zY rfl ?_) | refine zY (by decide) ?_ | refine zN (by decide) ?_ | with_reducible refine zQ ?_); (conv => whnf))))
              (repeat ((first | refine aload (by (repeat (first | with_reducible exact upd_same _ _ _ | assumption | rw [upd_ne _ _ (by first | assumption | (apply Ne.symm; assumption))]))) rfl ?_ | refine afit_i64 (by omega) ?_ | refine arem_nonneg (by omega) (by omega) ?_ | refine adiv_i64 (by omega) (by omega) ?_ | refine abr_yes (by omega) ?_ | refine abr_no (by omega) ?_ | refine amin ?_ | refine amax ?_ | refine afit_u64 (by omega) ?_ | refine afit_u8 (by omega) ?_ | rw [List.length_map]); ((conv => whnf); (repeat ((first | with_reducible (first | refine zT rfl ?_ | refine zF rfl ?_ | refine zY rfl ?_) | refine zY (by decide) ?_ | refine zN (by decide) ?_ | with_reducible refine zQ ?_); (conv => whnf))))))
              refine ⟨j + 1, by omega, by omega, Sub.refl _, ?_⟩
              ((conv => whnf); (repeat ((first | with_reducible (first | refine zT rfl ?_ | refine zF rfl ?_ | refine zY rfl ?_) | refine zY (by decide) ?_ | refine zN (by decide) ?_ | with_reducible refine zQ ?_); (conv => whnf))))
              rw [e, show ((2 * val 0 ((l.drop k).take j) : Nat) : Int) + 1 = ((2 * val 0 ((l.drop k).take j) + Bool.toNat true : Nat) : Int) by simp, nx]
              (repeat' first | with_reducible exact EnvLe.refl _ | (refine EnvLe.node ?_ (by first | exact Or.inl rfl | exact Or.inr (Or.inl rfl) | exact Or.inr (Or.inr ⟨nofun, VLe.slice _ _ _⟩)) ?_))
            | false =>
              rw [hb] at e
              ((conv => whnf); (repeat ((first | with_reducible (first | refine zT rfl ?_ | refine zF rfl ?_ | refine zY rfl ?_) | refine zY (by decide) ?_ | refine zN (by decide) ?_ | with_reducible refine zQ ?_); (conv => whnf))))
              (repeat ((first | refine aload (by (repeat (first | with_reducible exact upd_same _ _ _ | assumption | rw [upd_ne _ _ (by first | assumption | (apply Ne.symm; assumption))]))) rfl ?_ | refine afit_i64 (by omega) ?_ | refine arem_nonneg (by omega) (by omega) ?_ | refine adiv_i64 (by omega) (by omega) ?_ | refine abr_yes (by omega) ?_ | refine abr_no (by omega) ?_ | refine amin ?_ | refine amax ?_ | refine afit_u64 (by omega) ?_ | refine afit_u8 (by omega) ?_ | rw [List.length_map]); ((conv => whnf); (repeat ((first | with_reducible (first | refine zT rfl ?_ | refine zF rfl ?_ | refine zY rfl ?_) | refine zY (by decide) ?_ | refine zN (by decide) ?_ | with_reducible refine zQ ?_); (conv => whnf))))))
              refine ⟨j + 1, by omega, by omega, Sub.refl _, ?_⟩
              ((conv => whnf); (repeat ((first | with_reducible (first | refine zT rfl ?_ | refine zF rfl ?_ | refine zY rfl ?_) | refine zY (by decide) ?_ | refine zN (by decide) ?_ | with_reducible refine zQ ?_); (conv => whnf))))
              rw [e, nx]
              (repeat' first | with_reducible exact EnvLe.refl _ | (refine EnvLe.node ?_ (by first | exact Or.inl rfl | exact Or.inr (Or.inl rfl) | exact Or.inr (Or.inr ⟨nofun, VLe.slice _ _ _⟩)) ?_))
          · have : j = n.toNat := by omega
            subst this
            ((conv => whnf); (repeat ((first | with_reducible (first | refine zT rfl ?_ | refine zF rfl ?_ | refine zY rfl ?_) | refine zY (by decide) ?_ | refine zN (by decide) ?_ | with_reducible refine zQ ?_); (conv => whnf))))
            (repeat ((first | refine aload (by (repeat (first | with_reducible exact upd_same _ _ _ | assumption | rw [upd_ne _ _ (by first | assumption | (apply Ne.symm; assumption))]))) rfl ?_ | refine afit_i64 (by omega) ?_ | refine arem_nonneg (by omega) (by omega) ?_ | refine adiv_i64 (by omega) (by omega) ?_ | refine abr_yes (by omega) ?_ | refine abr_no (by omega) ?_ | refine amin ?_ | refine amax ?_ | refine afit_u64 (by omega) ?_ | refine afit_u8 (by omega) ?_ | rw [List.length_map]); ((conv => whnf); (repeat ((first | with_reducible (first | refine zT rfl ?_ | refine zF rfl ?_ | refine zY rfl ?_) | refine zY (by decide) ?_ | refine zN (by decide) ?_ | with_reducible refine zQ ?_); (conv => whnf))))))
            refine aret_same ⟨?_, rfl⟩
            unfold getVal getAt
            rw [if_pos hc, if_pos hc, hc, show ((k + n.toNat : Nat) : Int) = (k : Int) + n by omega]

set_option maxRecDepth 10000 in
theorem refRead (b : List UInt8) (t : Tok) (w : Int) (σ : AHeap) (hl : b.length ≤ 8000) : ACalls Try.prog i_bowlineref08_Read [sl t b, i64v w] σ fun v σ' => v = rdRes (readV b w) ∧ σ' = σ := by
  refine k_bowlineref08_Read rfl ?_
  by_cases hw : w = 11 ∨ w = 15
  · obtain ⟨W, rfl⟩ : ∃ W : Nat, w = W := ⟨w.toNat, by omega⟩
    have hW : W = 11 ∨ W = 15 := by omega
    have hul := unpack_length b
    ((conv => whnf); (repeat ((first | with_reducible (first | refine zT rfl ?_ | refine zF rfl ?_ | refine zY rfl ?_) | refine zY (by decide) ?_ | refine zN (by decide) ?_ | with_reducible refine zQ ?_); (conv => whnf))))
    refine abr_dec (fun ha => ?_) (fun ha => ?_)
    all_goals
      ((conv => whnf); (repeat ((first | with_reducible (first | refine zT rfl ?_ | refine zF rfl ?_ | refine zY rfl ?_) | refine zY (by decide) ?_ | refine zN (by decide) ?_ | with_reducible refine zQ ?_); (conv => whnf))))
      first
        | refine abr_no (fun h => h (by omega)) ?_
        | skip
      ((conv => whnf); (repeat ((first | with_reducible (first | refine zT rfl ?_ | refine zF rfl ?_ | refine zY rfl ?_) | refine zY (by decide) ?_ | refine zN (by decide) ?_ | with_reducible refine zQ ?_); (conv => whnf))))
      refine acall (refBits b _ _) ?_
      rintro _ σ_ ⟨rfl, e_⟩
      obtain rfl := e_.symm
      refine ⟨?_, Ext.refl _⟩
      rw [List.take_of_length_le (l := b) (by omega)]
      ((conv => whnf); (repeat ((first | with_reducible (first | refine zT rfl ?_ | refine zF rfl ?_ | refine zY rfl ?_) | refine zY (by decide) ?_ | refine zN (by decide) ?_ | with_reducible refine zQ ?_); (conv => whnf))))
      refine aloop (α := Nat × List Int × Nat × Tok × AHeap) (fun x => [(s8, ints x.2.2.2.1 x.2.1), (s9, i64v x.2.2.1)]) (fun x => x.2.2.2.2)
        (fun x => x.2.1.length + (x.1 + 1) = 23 ∧ x.2.2.1 ≤ 8 * b.length ∧ rdLens (unpack b) W (x.1 + 1) x.2.1 x.2.2.1 = readV b (W : Int) ∧ Owned σ x.2.2.2.2 x.2.2.2.1) (fun x => x.1) (22, [], 0, .full, σ) ⟨rfl, Nat.zero_le _, by unfold readV; rw [widthOk_iff.2 hw, if_neg (by simp), Int.toNat_natCast], .full _⟩ (Sub.refl _) ?_ ?_
      · ((conv => whnf); (repeat ((first | with_reducible (first | refine zT rfl ?_ | refine zF rfl ?_ | refine zY rfl ?_) | refine zY (by decide) ?_ | refine zN (by decide) ?_ | with_reducible refine zQ ?_); (conv => whnf))))
        (repeat' first | with_reducible exact EnvLe.refl _ | (refine EnvLe.node ?_ (by first | exact Or.inl rfl | exact Or.inr (Or.inl rfl) | exact Or.inr (Or.inr ⟨nofun, VLe.slice _ _ _⟩)) ?_))
      · rintro ⟨f, out, k, tk, σ1⟩ ⟨hf, hk, hR, ho⟩
        dsimp only at hf hk hR ho ⊢
        simp only [rdLens] at hR
        ((conv => whnf); (repeat ((first | with_reducible (first | refine zT rfl ?_ | refine zF rfl ?_ | refine zY rfl ?_) | refine zY (by decide) ?_ | refine zN (by decide) ?_ | with_reducible refine zQ ?_); (conv => whnf))))
        (repeat ((first | refine aload (by (repeat (first | with_reducible exact upd_same _ _ _ | assumption | rw [upd_ne _ _ (by first | assumption | (apply Ne.symm; assumption))]))) rfl ?_ | refine afit_i64 (by omega) ?_ | refine arem_nonneg (by omega) (by omega) ?_ | refine adiv_i64 (by omega) (by omega) ?_ | refine abr_yes (by omega) ?_ | refine abr_no (by omega) ?_ | refine amin ?_ | refine amax ?_ | refine afit_u64 (by omega) ?_ | refine afit_u8 (by omega) ?_ | rw [List.length_map]); ((conv => whnf); (repeat ((first | with_reducible (first | refine zT rfl ?_ | refine zF rfl ?_ | refine zY rfl ?_) | refine zY (by decide) ?_ | refine zN (by decide) ?_ | with_reducible refine zQ ?_); (conv => whnf))))))
        rw [hul]
        (repeat ((first | refine aload (by (repeat (first | with_reducible exact upd_same _ _ _ | assumption | rw [upd_ne _ _ (by first | assumption | (apply Ne.symm; assumption))]))) rfl ?_ | refine afit_i64 (by omega) ?_ | refine arem_nonneg (by omega) (by omega) ?_ | refine adiv_i64 (by omega) (by omega) ?_ | refine abr_yes (by omega) ?_ | refine abr_no (by omega) ?_ | refine amin ?_ | refine amax ?_ | refine afit_u64 (by omega) ?_ | refine afit_u8 (by omega) ?_ | rw [List.length_map]); ((conv => whnf); (repeat ((first | with_reducible (first | refine zT rfl ?_ | refine zF rfl ?_ | refine zY rfl ?_) | refine zY (by decide) ?_ | refine zN (by decide) ?_ | with_reducible refine zQ ?_); (conv => whnf))))))
        by_cases h2 : k + (W + 1) ≤ 8 * b.length
        · rw [if_neg (by omega)] at hR
          refine abr_no (by omega) ?_
          ((conv => whnf); (repeat ((first | with_reducible (first | refine zT rfl ?_ | refine zF rfl ?_ | refine zY rfl ?_) | refine zY (by decide) ?_ | refine zN (by decide) ?_ | with_reducible refine zQ ?_); (conv => whnf))))
          (repeat ((first | refine aload (by (repeat (first | with_reducible exact upd_same _ _ _ | assumption | rw [upd_ne _ _ (by first | assumption | (apply Ne.symm; assumption))]))) rfl ?_ | refine afit_i64 (by omega) ?_ | refine arem_nonneg (by omega) (by omega) ?_ | refine adiv_i64 (by omega) (by omega) ?_ | refine abr_yes (by omega) ?_ | refine abr_no (by omega) ?_ | refine amin ?_ | refine amax ?_ | refine afit_u64 (by omega) ?_ | refine afit_u8 (by omega) ?_ | rw [List.length_map]); ((conv => whnf); (repeat ((first | with_reducible (first | refine zT rfl ?_ | refine zF rfl ?_ | refine zY rfl ?_) | refine zY (by decide) ?_ | refine zN (by decide) ?_ | with_reducible refine zQ ?_); (conv => whnf))))))
          have c2 : getCode (unpack b).length (k + 1) (W : Int) = 0 := getCode_fine (by omega) (by omega)
          rw [show (k : Int) + 1 = ((k + 1 : Nat) : Int) by omega]
          refine acall (refGet (unpack b) _ (k + 1) (W : Int) _ (by omega) (by omega)) ?_
          rintro _ σ_ ⟨rfl, e_⟩
          obtain rfl := e_.symm
          refine ⟨?_, Ext.refl _⟩
          ((conv => whnf); (repeat ((first | with_reducible (first | refine zT rfl ?_ | refine zF rfl ?_ | refine zY rfl ?_) | refine zY (by decide) ?_ | refine zN (by decide) ?_ | with_reducible refine zQ ?_); (conv => whnf))))
          rw [c2, getVal_fine c2, getAt_fine c2, Int.toNat_natCast, show k + 1 + W = k + (W + 1) by omega]
          have hv := val_lt (((unpack b).drop (k + 1)).take W)
          have hv2 : ((((unpack b).drop (k + 1)).take W)).length ≤ 15 := by rw [List.length_take]; omega
          have hv3 : 2 ^ ((((unpack b).drop (k + 1)).take W)).length ≤ 2 ^ 15 := Nat.pow_le_pow_right (by omega) hv2
          generalize hn : val 0 (((unpack b).drop (k + 1)).take W) = n at *
          have hkl : k < (unpack b).length := by omega
          ((conv => whnf); (repeat ((first | with_reducible (first | refine zT rfl ?_ | refine zF rfl ?_ | refine zY rfl ?_) | refine zY (by decide) ?_ | refine zN (by decide) ?_ | with_reducible refine zQ ?_); (conv => whnf))))
          refine aget (by omega) (get_bools hkl) ?_
          ((conv => whnf); (repeat ((first | with_reducible (first | refine zT rfl ?_ | refine zF rfl ?_ | refine zY rfl ?_) | refine zY (by decide) ?_ | refine zN (by decide) ?_ | with_reducible refine zQ ?_); (conv => whnf))))
          refine acell rfl ?_
          rw [← bitD_get hkl]
          ((conv => whnf); (repeat ((first | with_reducible (first | refine zT rfl ?_ | refine zF rfl ?_ | refine zY rfl ?_) | refine zY (by decide) ?_ | refine zN (by decide) ?_ | with_reducible refine zQ ?_); (conv => whnf))))
          by_cases h0 : n = 0
          · rw [if_pos h0] at hR
            refine abr_yes (by omega) ?_
            ((conv => whnf); (repeat ((first | with_reducible (first | refine zT rfl ?_ | refine zF rfl ?_ | refine zY rfl ?_) | refine zY (by decide) ?_ | refine zN (by decide) ?_ | with_reducible refine zQ ?_); (conv => whnf))))
            exact aret VLe.tup_sl ho.sub ⟨by rw [← hR]; rfl, rfl⟩
          · rw [if_neg h0] at hR
            refine abr_no (by omega) ?_
            ((conv => whnf); (repeat ((first | with_reducible (first | refine zT rfl ?_ | refine zF rfl ?_ | refine zY rfl ?_) | refine zY (by decide) ?_ | refine zN (by decide) ?_ | with_reducible refine zQ ?_); (conv => whnf))))
            (repeat ((first | refine aload (by (repeat (first | with_reducible exact upd_same _ _ _ | assumption | rw [upd_ne _ _ (by first | assumption | (apply Ne.symm; assumption))]))) rfl ?_ | refine afit_i64 (by omega) ?_ | refine arem_nonneg (by omega) (by omega) ?_ | refine adiv_i64 (by omega) (by omega) ?_ | refine abr_yes (by omega) ?_ | refine abr_no (by omega) ?_ | refine amin ?_ | refine amax ?_ | refine afit_u64 (by omega) ?_ | refine afit_u8 (by omega) ?_ | rw [List.length_map]); ((conv => whnf); (repeat ((first | with_reducible (first | refine zT rfl ?_ | refine zF rfl ?_ | refine zY rfl ?_) | refine zY (by decide) ?_ | refine zN (by decide) ?_ | with_reducible refine zQ ?_); (conv => whnf))))))
            refine aapp_owned ho (by rw [List.length_map]; show (out.length + 1) * 8 ≤ _; omega) fun t' tk' ho' _ => ?_
            rw [show List.map i64v out ++ [AVal.v (Value.int IntKind.i64 ((n : Nat) : Int))] = List.map i64v (out ++ [(n : Int)]) by simp]
            have hol : (out ++ [(n : Int)]).length = out.length + 1 := by simp
            ((conv => whnf); (repeat ((first | with_reducible (first | refine zT rfl ?_ | refine zF rfl ?_ | refine zY rfl ?_) | refine zY (by decide) ?_ | refine zN (by decide) ?_ | with_reducible refine zQ ?_); (conv => whnf))))
            cases hbit : bitD (unpack b) k with
            | true =>
              rw [hbit, if_pos rfl] at hR
              ((conv => whnf); (repeat ((first | with_reducible (first | refine zT rfl ?_ | refine zF rfl ?_ | refine zY rfl ?_) | refine zY (by decide) ?_ | refine zN (by decide) ?_ | with_reducible refine zQ ?_); (conv => whnf))))
              (repeat ((first | refine aload (by (repeat (first | with_reducible exact upd_same _ _ _ | assumption | rw [upd_ne _ _ (by first | assumption | (apply Ne.symm; assumption))]))) rfl ?_ | refine afit_i64 (by omega) ?_ | refine arem_nonneg (by omega) (by omega) ?_ | refine adiv_i64 (by omega) (by omega) ?_ | refine abr_yes (by omega) ?_ | refine abr_no (by omega) ?_ | refine amin ?_ | refine amax ?_ | refine afit_u64 (by omega) ?_ | refine afit_u8 (by omega) ?_ | rw [List.length_map]); ((conv => whnf); (repeat ((first | with_reducible (first | refine zT rfl ?_ | refine zF rfl ?_ | refine zY rfl ?_) | refine zY (by decide) ?_ | refine zN (by decide) ?_ | with_reducible refine zQ ?_); (conv => whnf))))))
              rw [hol]
              by_cases hf0 : f = 0
              · rw [if_pos hf0] at hR
                refine abr_yes (by omega) ?_
                ((conv => whnf); (repeat ((first | with_reducible (first | refine zT rfl ?_ | refine zF rfl ?_ | refine zY rfl ?_) | refine zY (by decide) ?_ | refine zN (by decide) ?_ | with_reducible refine zQ ?_); (conv => whnf))))
                exact aret VLe.tup_sl ho'.sub ⟨by rw [← hR]; rfl, rfl⟩
              · rw [if_neg hf0] at hR
                refine abr_no (by omega) ?_
                ((conv => whnf); (repeat ((first | with_reducible (first | refine zT rfl ?_ | refine zF rfl ?_ | refine zY rfl ?_) | refine zY (by decide) ?_ | refine zN (by decide) ?_ | with_reducible refine zQ ?_); (conv => whnf))))
                obtain ⟨f', rfl⟩ : ∃ f', f = f' + 1 := ⟨f - 1, by omega⟩
                refine ⟨(f', out ++ [(n : Int)], k + (W + 1), tk', upd σ t' .tip), ⟨by dsimp only; rw [hol]; omega, by dsimp only; omega, hR, ho'⟩, by dsimp only; omega, Sub.refl _, ?_⟩
                ((conv => whnf); (repeat ((first | with_reducible (first | refine zT rfl ?_ | refine zF rfl ?_ | refine zY rfl ?_) | refine zY (by decide) ?_ | refine zN (by decide) ?_ | with_reducible refine zQ ?_); (conv => whnf))))
                (repeat' first | with_reducible exact EnvLe.refl _ | (refine EnvLe.node ?_ (by first | exact Or.inl rfl | exact Or.inr (Or.inl rfl) | exact Or.inr (Or.inr ⟨nofun, VLe.slice _ _ _⟩)) ?_))
            | false =>
              rw [hbit, if_neg (by simp)] at hR
              ((conv => whnf); (repeat ((first | with_reducible (first | refine zT rfl ?_ | refine zF rfl ?_ | refine zY rfl ?_) | refine zY (by decide) ?_ | refine zN (by decide) ?_ | with_reducible refine zQ ?_); (conv => whnf))))
              generalize hK : k + (W + 1) = K at *
              have hp7 := pad_le K
              refine aloop (α := Nat) (fun j => [(s9, i64v ((K + j : Nat) : Int))]) (fun _ => upd σ t' .tip) (fun j => j ≤ pad K ∧ val 0 (((unpack b).drop K).take j) = 0) (fun j => pad K - j) 0 ⟨by omega, rfl⟩ (Sub.refl _) ?_ ?_
              · ((conv => whnf); (repeat ((first | with_reducible (first | refine zT rfl ?_ | refine zF rfl ?_ | refine zY rfl ?_) | refine zY (by decide) ?_ | refine zN (by decide) ?_ | with_reducible refine zQ ?_); (conv => whnf))))
                (repeat' first | with_reducible exact EnvLe.refl _ | (refine EnvLe.node ?_ (by first | exact Or.inl rfl | exact Or.inr (Or.inl rfl) | exact Or.inr (Or.inr ⟨nofun, VLe.slice _ _ _⟩)) ?_))
              · rintro j ⟨hj, hv⟩
                by_cases h : j < pad K
                · have hin : K + j < (unpack b).length := by unfold pad at h; omega
                  have e : val 0 (((unpack b).drop K).take (j + 1)) = 2 * val 0 (((unpack b).drop K).take j) + (unpack b)[K + j].toNat := by
                    rw [take_snoc (l := (unpack b).drop K) (i := j) (x := (unpack b)[K + j]) (by rw [List.getElem?_drop, List.getElem?_eq_getElem hin]), val_snoc]
                  have hm : (K + j) % 8 ≠ 0 := by unfold pad at h; omega
                  ((conv => whnf); (repeat ((first | with_reducible (first | refine zT rfl ?_ | refine zF rfl ?_ | refine zY rfl ?_) | refine zY (by decide) ?_ | refine zN (by decide) ?_ | with_reducible refine zQ ?_); (conv => whnf))))
                  (repeat ((first | refine aload (by (repeat (first | with_reducible exact upd_same _ _ _ | assumption | rw [upd_ne _ _ (by first | assumption | (apply Ne.symm; assumption))]))) rfl ?_ | refine afit_i64 (by omega) ?_ | refine arem_nonneg (by omega) (by omega) ?_ | refine adiv_i64 (by omega) (by omega) ?_ | refine abr_yes (by omega) ?_ | refine abr_no (by omega) ?_ | refine amin ?_ | refine amax ?_ | refine afit_u64 (by omega) ?_ | refine afit_u8 (by omega) ?_ | rw [List.length_map]); ((conv => whnf); (repeat ((first | with_reducible (first | refine zT rfl ?_ | refine zF rfl ?_ | refine zY rfl ?_) | refine zY (by decide) ?_ | refine zN (by decide) ?_ | with_reducible refine zQ ?_); (conv => whnf))))))
                  refine aget (by omega) (get_bools hin) ?_
                  ((conv => whnf); (repeat ((first | with_reducible (first | refine zT rfl ?_ | refine zF rfl ?_ | refine zY rfl ?_) | refine zY (by decide) ?_ | refine zN (by decide) ?_ | with_reducible refine zQ ?_); (conv => whnf))))
                  refine acell rfl ?_
                  ((conv => whnf); (repeat ((first | with_reducible (first | refine zT rfl ?_ | refine zF rfl ?_ | refine zY rfl ?_) | refine zY (by decide) ?_ | refine zN (by decide) ?_ | with_reducible refine zQ ?_); (conv => whnf))))
                  cases hb : (unpack b)[K + j] with
                  | true =>
                    have hno : restOk (unpack b) K = false := by
                      unfold restOk
                      refine decide_eq_false fun h0 => ?_
                      rw [val_zero] at h0
                      have : (unpack b)[K + j] ∈ ((unpack b).drop K).take (pad K) := by
                        have h2 : j < (((unpack b).drop K).take (pad K)).length := by rw [List.length_take, List.length_drop]; omega
                        have h3 : (((unpack b).drop K).take (pad K))[j] = (unpack b)[K + j] := by rw [List.getElem_take, List.getElem_drop]
                        rw [← h3]; exact List.getElem_mem h2
                      have := h0 _ this
                      rw [hb] at this; cases this
                    rw [hno, if_neg (by simp)] at hR
                    ((conv => whnf); (repeat ((first | with_reducible (first | refine zT rfl ?_ | refine zF rfl ?_ | refine zY rfl ?_) | refine zY (by decide) ?_ | refine zN (by decide) ?_ | with_reducible refine zQ ?_); (conv => whnf))))
                    exact aret VLe.tup_sl ho'.sub ⟨by rw [← hR]; rfl, rfl⟩
                  | false =>
                    rw [hb, hv] at e
                    ((conv => whnf); (repeat ((first | with_reducible (first | refine zT rfl ?_ | refine zF rfl ?_ | refine zY rfl ?_) | refine zY (by decide) ?_ | refine zN (by decide) ?_ | with_reducible refine zQ ?_); (conv => whnf))))
                    (repeat ((first | refine aload (by (repeat (first | with_reducible exact upd_same _ _ _ | assumption | rw [upd_ne _ _ (by first | assumption | (apply Ne.symm; assumption))]))) rfl ?_ | refine afit_i64 (by omega) ?_ | refine arem_nonneg (by omega) (by omega) ?_ | refine adiv_i64 (by omega) (by omega) ?_ | refine abr_yes (by omega) ?_ | refine abr_no (by omega) ?_ | refine amin ?_ | refine amax ?_ | refine afit_u64 (by omega) ?_ | refine afit_u8 (by omega) ?_ | rw [List.length_map]); ((conv => whnf); (repeat ((first | with_reducible (first | refine zT rfl ?_ | refine zF rfl ?_ | refine zY rfl ?_) | refine zY (by decide) ?_ | refine zN (by decide) ?_ | with_reducible refine zQ ?_); (conv => whnf))))))
                    refine ⟨j + 1, ⟨by omega, e⟩, by omega, Sub.refl _, ?_⟩
                    ((conv => whnf); (repeat ((first | with_reducible (first | refine zT rfl ?_ | refine zF rfl ?_ | refine zY rfl ?_) | refine zY (by decide) ?_ | refine zN (by decide) ?_ | with_reducible refine zQ ?_); (conv => whnf))))
                    rw [show ((K + j : Nat) : Int) + 1 = ((K + (j + 1) : Nat) : Int) by omega]
                    (repeat' first | with_reducible exact EnvLe.refl _ | (refine EnvLe.node ?_ (by first | exact Or.inl rfl | exact Or.inr (Or.inl rfl) | exact Or.inr (Or.inr ⟨nofun, VLe.slice _ _ _⟩)) ?_))
                · have hjp : j = pad K := by omega
                  have hm : (K + j) % 8 = 0 := by subst hjp; unfold pad; omega
                  have hok : restOk (unpack b) K = true := by subst hjp; exact decide_eq_true hv
                  rw [hok, if_pos rfl] at hR
                  ((conv => whnf); (repeat ((first | with_reducible (first | refine zT rfl ?_ | refine zF rfl ?_ | refine zY rfl ?_) | refine zY (by decide) ?_ | refine zN (by decide) ?_ | with_reducible refine zQ ?_); (conv => whnf))))
                  (repeat ((first | refine aload (by (repeat (first | with_reducible exact upd_same _ _ _ | assumption | rw [upd_ne _ _ (by first | assumption | (apply Ne.symm; assumption))]))) rfl ?_ | refine afit_i64 (by omega) ?_ | refine arem_nonneg (by omega) (by omega) ?_ | refine adiv_i64 (by omega) (by omega) ?_ | refine abr_yes (by omega) ?_ | refine abr_no (by omega) ?_ | refine amin ?_ | refine amax ?_ | refine afit_u64 (by omega) ?_ | refine afit_u8 (by omega) ?_ | rw [List.length_map]); ((conv => whnf); (repeat ((first | with_reducible (first | refine zT rfl ?_ | refine zF rfl ?_ | refine zY rfl ?_) | refine zY (by decide) ?_ | refine zN (by decide) ?_ | with_reducible refine zQ ?_); (conv => whnf))))))
                  refine aret VLe.tup_sl ho'.sub ⟨?_, rfl⟩
                  rw [← hR, hjp]
                  show rdRes (_, _, _) = rdRes (_, _, _)
                  rw [show ((K + pad K : Nat) : Int) / 8 = (((K + 7) / 8 : Nat) : Int) by unfold pad; omega]
        · rw [if_pos (by omega)] at hR
          refine abr_yes (by omega) ?_
          ((conv => whnf); (repeat ((first | with_reducible (first | refine zT rfl ?_ | refine zF rfl ?_ | refine zY rfl ?_) | refine zY (by decide) ?_ | refine zN (by decide) ?_ | with_reducible refine zQ ?_); (conv => whnf))))
          exact aret VLe.tup_sl ho.sub ⟨by rw [← hR]; rfl, rfl⟩
  · have hno := widthNo hw
    have g1 : w ≠ 11 := fun h => hw (.inl h)
    have g2 : w ≠ 15 := fun h => hw (.inr h)
    ((conv => whnf); (repeat ((first | with_reducible (first | refine zT rfl ?_ | refine zF rfl ?_ | refine zY rfl ?_) | refine zY (by decide) ?_ | refine zN (by decide) ?_ | with_reducible refine zQ ?_); (conv => whnf))))
    refine abr_yes g1 ?_
    ((conv => whnf); (repeat ((first | with_reducible (first | refine zT rfl ?_ | refine zF rfl ?_ | refine zY rfl ?_) | refine zY (by decide) ?_ | refine zN (by decide) ?_ | with_reducible refine zQ ?_); (conv => whnf))))
    refine abr_yes g2 ?_
    ((conv => whnf); (repeat ((first | with_reducible (first | refine zT rfl ?_ | refine zF rfl ?_ | refine zY rfl ?_) | refine zY (by decide) ?_ | refine zN (by decide) ?_ | with_reducible refine zQ ?_); (conv => whnf))))
    exact aret VLe.tup_sl (Sub.refl _) ⟨by unfold readV; rw [if_pos hno]; rfl, rfl⟩
end Go.Proofs.Ytgipkpghabelkaa
/-
  The right to append, beside whatever else is known of the heap.
-/
namespace Go.Proofs.Ytgipkpghabelkaa
set_option linter.unusedVariables false
set_option linter.unusedSimpArgs false
open Go Go.Am

theorem sub_none {σ σ' : AHeap} (h : Sub σ σ') {id : Nat} (k : σ id = none) : σ' id = none := by
  cases e : σ' id with
  | none => rfl
  | some o => rw [h _ _ e] at k; cases k
theorem sub_del {σ σb : AHeap} {id : Nat} (h : Sub σ σb) (h1 : σb id = none) : Sub (del σ id) σb := fun j o hj => by
  have hne : j ≠ id := fun e => by subst e; rw [h1] at hj; cases hj
  rw [del_ne _ hne]; exact h _ _ hj
theorem sub_upd {σ σb : AHeap} {id : Nat} (o : AObj) (h : Sub σ σb) (h1 : σb id = none) : Sub (upd σ id o) σb := fun j x hj => by
  have hne : j ≠ id := fun e => by subst e; rw [h1] at hj; cases hj
  rw [upd_ne _ _ hne]; exact h _ _ hj
/-- A token that is there, and is not of the heap below. -/
def TokIn (σ σb : AHeap) (tk : Tok) : Prop := tk = .full ∨ ∃ t, tk = .tip t ∧ σ t = some .tip ∧ σb t = none
theorem TokIn.full (σ σb : AHeap) : TokIn σ σb .full := .inl rfl
theorem TokIn.ne {σ σb : AHeap} {tk : Tok} {id : Nat} (o : AObj) (h : TokIn σ σb tk) (k : ∀ t, tk = .tip t → id ≠ t) : TokIn (upd σ id o) σb tk := by
  rcases h with rfl | ⟨t, rfl, h1, h2⟩
  · exact .inl rfl
  · exact .inr ⟨t, rfl, by rw [upd_ne _ _ (Ne.symm (k t rfl))]; exact h1, h2⟩
theorem TokIn.ne_of {σ σb : AHeap} {tk : Tok} {id : Nat} {o : AObj} (h : TokIn σ σb tk) (k : σ id = some o) (ho : o.isTip = false) : ∀ t, tk = .tip t → id ≠ t := by
  rintro t rfl e
  subst e
  rcases h with h | ⟨t', h0, h1, h2⟩
  · cases h
  · cases h0; rw [h1] at k; cases k; cases ho
/-- Something of the heap below is set. -/
theorem TokIn.set {σ σb : AHeap} {tk : Tok} {id : Nat} {o : AObj} (x : AObj) (h : TokIn σ σb tk) (k : σ id = some o) (ho : o.isTip = false) : TokIn (upd σ id x) σb tk := h.ne x (h.ne_of k ho)
theorem TokIn.ext {σ σ' σb : AHeap} {tk : Tok} (h : TokIn σ σb tk) (k : ∀ t, σ t = some .tip → σ' t = some .tip) : TokIn σ' σb tk := by
  rcases h with rfl | ⟨t, rfl, h1, h2⟩
  · exact .inl rfl
  · exact .inr ⟨t, rfl, k t h1, h2⟩
theorem Owned.tokIn {σ σb σ' : AHeap} {tk : Tok} (hs : Sub σ σb) (h : Owned σ σ' tk) : TokIn σ' σb tk := by
  rcases h with ⟨rfl, rfl⟩ | ⟨t, h0, rfl, rfl⟩
  · exact .inl rfl
  · exact .inr ⟨t, rfl, upd_same _ _ _, sub_none hs h0⟩
theorem aapp_in {σ σb : AHeap} {s bytes : Nat} {xs ys : List AVal} {tk : Tok} {K : AVal → AHeap → Prop} (h : TokIn σ σb tk) (hs : Sub σ σb) (hl : (xs.length + ys.length) * bytes ≤ 140737488355328)
    (k : ∀ t' σ', Ext σ σ' → Sub σ' σb → TokIn σ' σb (.tip t') → K (.slice s (xs ++ ys) (.tip t')) σ') : AApp σ s bytes xs tk ys K := by
  rcases h with rfl | ⟨t, rfl, h1, h2⟩
  · refine aapp_full hl fun t ht => k t _ (Ext.upd_fresh _ ht) (sub_upd _ hs (sub_none hs ht)) (.inr ⟨t, rfl, upd_same _ _ _, sub_none hs ht⟩)
  · refine aapp_tip h1 hl fun t' ht' => ?_
    have hb : σb t' = none := sub_none hs ht'
    refine k t' _ (fun id o ho e => ?_) (sub_upd _ (sub_del hs h2) hb) (.inr ⟨t', rfl, upd_same _ _ _, hb⟩)
    have hne : id ≠ t := fun q => by subst q; rw [h1] at e; cases e; cases ho
    have e2 : del σ t id = some o := by rw [del_ne _ hne]; exact e
    rw [upd_ne]; exact e2
    intro q; subst q; rw [e] at ht'; cases ht'
end Go.Proofs.Ytgipkpghabelkaa
/-
  A heap by what is known of it: objects and rights to append that are new, each apart from the others.
-/
namespace Go.Proofs.Ytgipkpghabelkaa
set_option linter.unusedVariables false
set_option linter.unusedSimpArgs false
open Go Go.Am

inductive HE where
  | o (i : Nat) (x : AObj)
  | t (k : Tok)
def HE.id : HE → Option Nat
  | .o i _ => some i
  | .t (.tip k) => some k
  | .t _ => none
def HE.ok (σ : AHeap) : HE → Prop
  | .o i x => σ i = some x
  | .t .full => True
  | .t (.tip k) => σ k = some .tip
  | .t _ => False
def ids (L : List HE) : List Nat := L.filterMap HE.id
theorem mem_ids {L : List HE} {i : Nat} : i ∈ ids L ↔ ∃ e ∈ L, e.id = some i := List.mem_filterMap
structure Hp (σb : AHeap) (L : List HE) (σ : AHeap) : Prop where
  sub : Sub σ σb
  nd : (ids L).Nodup
  ok : ∀ e ∈ L, e.ok σ
  new : ∀ i ∈ ids L, σb i = none

theorem HE.ok_ne {e : HE} {σ σ' : AHeap} (h : e.ok σ) (k : ∀ j, e.id = some j → σ' j = σ j) : e.ok σ' := by
  cases e with
  | o j y => exact (k j rfl).trans h
  | t q => cases q with
    | none => exact h
    | full => exact h
    | own _ => exact h
    | tip j => exact (k j rfl).trans h
theorem HE.ok_sub {e : HE} {σ σ' : AHeap} (h : e.ok σ) (k : Sub σ' σ) : e.ok σ' := by
  cases e with
  | o j y => exact k _ _ h
  | t q => cases q with
    | none => exact h
    | full => exact h
    | own _ => exact h
    | tip j => exact k _ _ h
theorem HE.live {e : HE} {σ : AHeap} {i : Nat} (h : e.ok σ) (hi : e.id = some i) : σ i ≠ none := by
  cases e with
  | o j y => cases hi; intro e; rw [show σ i = some y from h] at e; cases e
  | t q => cases q with
    | none => cases hi
    | full => cases hi
    | own _ => cases hi
    | tip j => cases hi; intro e; rw [show σ i = some .tip from h] at e; cases e

theorem perm_erase : ∀ {L : List HE} {k : Nat} {e : HE}, L[k]? = some e → L.Perm (e :: L.eraseIdx k)
  | [], _, _, h => by simp at h
  | a :: l, 0, e, h => by simp at h; subst h; exact .refl _
  | a :: l, k + 1, e, h => ((perm_erase (L := l) (by simpa using h)).cons a).trans (.swap ..)
theorem perm_set : ∀ {L : List HE} {k : Nat} {e : HE}, k < L.length → (e :: L.eraseIdx k).Perm (L.set k e)
  | [], _, _, h => by simp at h
  | a :: l, 0, e, h => .refl _
  | a :: l, k + 1, e, h => (List.Perm.swap ..).trans ((perm_set (L := l) (by simpa using h)).cons a)
theorem del_none {σ : AHeap} {i j : Nat} (h : σ j = none) : del σ i j = none := by unfold del; split <;> simp [h]
namespace Hp
variable {σb σ : AHeap} {L : List HE}
theorem nil (σ : AHeap) : Hp σ [] σ := ⟨Sub.refl _, .nil, nofun, nofun⟩
theorem fresh (H : Hp σb L σ) {i : Nat} (h : σ i = none) : i ∉ ids L ∧ σb i = none :=
  ⟨fun hm => let ⟨e, he, hi⟩ := mem_ids.1 hm; HE.live (H.ok e he) hi h, sub_none H.sub h⟩
theorem cons_o (H : Hp σb L σ) {i : Nat} (h : σ i = none) (x : AObj) : Hp σb (.o i x :: L) (upd σ i x) := by
  obtain ⟨h1, h2⟩ := H.fresh h
  refine ⟨sub_upd _ H.sub h2, List.nodup_cons.2 ⟨h1, H.nd⟩, fun e he => ?_, fun j hj => ?_⟩
  · rcases List.mem_cons.1 he with rfl | he
    · exact upd_same _ _ _
    · exact HE.ok_ne (H.ok e he) fun j hj => upd_ne _ _ fun e' => h1 (mem_ids.2 ⟨e, he, e' ▸ hj⟩)
  · rcases List.mem_cons.1 (show j ∈ i :: ids L from hj) with rfl | hj
    · exact h2
    · exact H.new j hj
theorem cons_tip (H : Hp σb L σ) {i : Nat} (h : σ i = none) : Hp σb (.t (.tip i) :: L) (upd σ i .tip) := by
  obtain ⟨h1, h2⟩ := H.fresh h
  refine ⟨sub_upd _ H.sub h2, List.nodup_cons.2 ⟨h1, H.nd⟩, fun e he => ?_, fun j hj => ?_⟩
  · rcases List.mem_cons.1 he with rfl | he
    · exact upd_same _ _ _
    · exact HE.ok_ne (H.ok e he) fun j hj => upd_ne _ _ fun e' => h1 (mem_ids.2 ⟨e, he, e' ▸ hj⟩)
  · rcases List.mem_cons.1 (show j ∈ i :: ids L from hj) with rfl | hj
    · exact h2
    · exact H.new j hj
theorem cons_full (H : Hp σb L σ) : Hp σb (.t .full :: L) σ :=
  ⟨H.sub, H.nd, fun e he => (List.mem_cons.1 he).elim (fun h => by subst h; trivial) (H.ok e), H.new⟩
theorem perm {L' : List HE} (H : Hp σb L σ) (p : L.Perm L') : Hp σb L' σ :=
  ⟨H.sub, (p.filterMap _).nodup_iff.1 H.nd, fun e he => H.ok e (p.mem_iff.2 he), fun i hi => H.new i ((p.filterMap _).mem_iff.2 hi)⟩
theorem tail {e : HE} (H : Hp σb (e :: L) σ) : Hp σb L σ := by
  refine ⟨H.sub, ?_, fun x hx => H.ok x (List.mem_cons_of_mem _ hx), fun i hi => H.new i ?_⟩
  · have := H.nd
    unfold ids at *
    rw [List.filterMap_cons] at this
    split at this
    · exact this
    · exact (List.nodup_cons.1 this).2
  · obtain ⟨x, hx, hi⟩ := mem_ids.1 hi
    exact mem_ids.2 ⟨x, List.mem_cons_of_mem _ hx, hi⟩
theorem front (H : Hp σb L σ) {k : Nat} {e : HE} (hk : L[k]? = some e) : Hp σb (e :: L.eraseIdx k) σ := by
  exact H.perm (perm_erase hk)
theorem back {k : Nat} {e : HE} (hk : k < L.length) (H : Hp σb (e :: L.eraseIdx k) σ) : Hp σb (L.set k e) σ := H.perm (perm_set hk)
theorem get (H : Hp σb L σ) {k i : Nat} {x : AObj} (hk : L[k]? = some (.o i x)) : σ i = some x := H.ok _ (List.mem_of_getElem? hk)
theorem upd_head {i : Nat} {x : AObj} (H : Hp σb (.o i x :: L) σ) (y : AObj) : Hp σb (.o i y :: L) (upd σ i y) := by
  have h1 : i ∉ ids L := (List.nodup_cons.1 (show (i :: ids L).Nodup from H.nd)).1
  have h2 : σb i = none := H.new i (List.mem_cons_self ..)
  refine ⟨sub_upd _ H.sub h2, H.nd, fun e he => ?_, H.new⟩
  rcases List.mem_cons.1 he with rfl | he
  · exact upd_same _ _ _
  · exact HE.ok_ne (H.ok e (List.mem_cons_of_mem _ he)) fun j hj => upd_ne _ _ fun e' => h1 (mem_ids.2 ⟨e, he, e' ▸ hj⟩)
theorem set (H : Hp σb L σ) {k i : Nat} {x : AObj} (hk : L[k]? = some (.o i x)) (y : AObj) : Hp σb (L.set k (.o i y)) (upd σ i y) :=
  back (List.getElem?_eq_some_iff.1 hk).1 ((H.front hk).upd_head y)
theorem more {σ' : AHeap} (H : Hp σb L σ) (s : Sub σ' σ) : Hp σb L σ' := ⟨s.trans H.sub, H.nd, fun e he => HE.ok_sub (H.ok e he) s, H.new⟩
theorem rebase {σ0 : AHeap} (H : Hp σb L σ) (s : Sub σb σ0) : Hp σ0 L σ := ⟨H.sub.trans s, H.nd, H.ok, fun i hi => sub_none s (H.new i hi)⟩
theorem join {M : List HE} {σ' : AHeap} (H : Hp σb L σ) (N : Hp σ M σ') : Hp σb (M ++ L) σ' := by
  refine ⟨N.sub.trans H.sub, ?_, fun e he => ?_, fun i hi => ?_⟩
  · unfold ids; rw [List.filterMap_append]
    refine List.nodup_append.2 ⟨N.nd, H.nd, fun a ha b hb e => ?_⟩
    subst e
    obtain ⟨x, hx, hi⟩ := mem_ids.1 hb
    exact HE.live (H.ok x hx) hi (N.new a ha)
  · rcases List.mem_append.1 he with he | he
    · exact N.ok e he
    · exact HE.ok_sub (H.ok e he) N.sub
  · unfold ids at hi; rw [List.filterMap_append] at hi
    rcases List.mem_append.1 hi with hi | hi
    · exact sub_none H.sub (N.new i hi)
    · exact H.new i hi
theorem ext {M : List HE} {σ' : AHeap} (N : Hp σ M σ') : Ext σ σ' := fun i o _ e => N.sub i o e
theorem owned {σ' : AHeap} {tk : Tok} (H : Hp σb L σ) (h : Owned σ σ' tk) : Hp σb (.t tk :: L) σ' := by
  rcases h with ⟨rfl, rfl⟩ | ⟨t, h0, rfl, rfl⟩
  · exact H.cons_full
  · exact H.cons_tip h0
theorem toOwned {tk : Tok} {σ' : AHeap} (H : Hp σ [.t tk] σ') : ∃ σ2, Owned σ σ2 tk ∧ Sub σ' σ2 := by
  have := H.ok _ (List.mem_cons_self ..)
  cases tk with
  | none => exact this.elim
  | full => exact ⟨σ, .full _, H.sub⟩
  | own _ => exact this.elim
  | tip t => exact ⟨upd σ t .tip, .tip (H.new t (List.mem_cons_self ..)), fun i o e => by
      by_cases h : i = t
      · subst h; rw [upd_same] at e; cases e; exact this
      · rw [upd_ne _ _ h] at e; exact H.sub _ _ e⟩
/-- The first of two lists alone. -/
theorem left {L M : List HE} (H : Hp σb (L ++ M) σ) : Hp σb L σ := by
  refine ⟨H.sub, ?_, fun e he => H.ok e (List.mem_append_left _ he), fun i hi => H.new i ?_⟩
  · have := H.nd
    unfold ids at this ⊢
    rw [List.filterMap_append] at this
    exact (List.nodup_append.1 this).1
  · obtain ⟨x, hx, hi⟩ := mem_ids.1 hi
    exact mem_ids.2 ⟨x, List.mem_append_left _ hx, hi⟩
theorem comm (L M : List HE) (H : Hp σb (L ++ M) σ) : Hp σb (M ++ L) σ := H.perm List.perm_append_comm
/-- An object is given up. -/
theorem del_head {i : Nat} {x : AObj} (H : Hp σb (.o i x :: L) σ) : Hp σb L (del σ i) := by
  have h1 : i ∉ ids L := (List.nodup_cons.1 (show (i :: ids L).Nodup from H.nd)).1
  have h2 : σb i = none := H.new i (List.mem_cons_self ..)
  refine ⟨sub_del H.sub h2, H.tail.nd, fun e he => ?_, H.tail.new⟩
  exact HE.ok_ne (H.ok e (List.mem_cons_of_mem _ he)) fun j hj => del_ne _ fun e' => h1 (mem_ids.2 ⟨e, he, e' ▸ hj⟩)
theorem del_tip {i : Nat} (H : Hp σb (.t (.tip i) :: L) σ) : Hp σb L (del σ i) := by
  have h1 : i ∉ ids L := (List.nodup_cons.1 (show (i :: ids L).Nodup from H.nd)).1
  have h2 : σb i = none := H.new i (List.mem_cons_self ..)
  refine ⟨sub_del H.sub h2, H.tail.nd, fun e he => ?_, H.tail.new⟩
  exact HE.ok_ne (H.ok e (List.mem_cons_of_mem _ he)) fun j hj => del_ne _ fun e' => h1 (mem_ids.2 ⟨e, he, e' ▸ hj⟩)
end Hp

def setLK : List HE → Nat → HE → (List HE → Prop) → Prop
  | _ :: l, 0, x, k => k (x :: l)
  | e :: l, n + 1, x, k => setLK l n x fun l' => k (e :: l')
  | [], _, _, _ => False
theorem setLK_spec : ∀ {L : List HE} {n : Nat} {x : HE} {k : List HE → Prop}, setLK L n x k → n < L.length ∧ k (L.set n x)
  | [], _, _, _, h => h.elim
  | _ :: _, 0, _, _, h => ⟨Nat.zero_lt_succ _, h⟩
  | e :: l, n + 1, x, k, h => let ⟨a, b⟩ := setLK_spec (L := l) h; ⟨Nat.succ_lt_succ a, b⟩
def eraLK : List HE → Nat → (List HE → Prop) → Prop
  | _ :: l, 0, k => k l
  | e :: l, n + 1, k => eraLK l n fun l' => k (e :: l')
  | [], _, _ => False
theorem eraLK_spec : ∀ {L : List HE} {n : Nat} {k : List HE → Prop}, eraLK L n k → n < L.length ∧ k (L.eraseIdx n)
  | [], _, _, h => h.elim
  | _ :: _, 0, _, h => ⟨Nat.zero_lt_succ _, h⟩
  | e :: l, n + 1, k, h => let ⟨a, b⟩ := eraLK_spec (L := l) h; ⟨Nat.succ_lt_succ a, b⟩
theorem splice_cons {z : AVal} {zs xs : List AVal} {n : Nat} : splice (z :: zs) (n + 1) xs = z :: splice zs n xs := by
  unfold splice; rw [List.take_succ_cons, show n + 1 + xs.length = (n + xs.length) + 1 by omega, List.drop_succ_cons]; rfl
theorem putK_spec : ∀ {cs : List AVal} {off : Nat} {xs : List AVal} {k : List AVal → Prop}, putK cs off xs k → off + xs.length ≤ cs.length ∧ k (splice cs off xs)
  | cs, 0, [], k, h => ⟨Nat.zero_le _, by unfold splice; simpa [putK] using h⟩
  | z :: zs, 0, x :: xs, k, h => by
    have h : putK zs 0 xs fun l => k (x :: l) := h
    obtain ⟨a, b⟩ := putK_spec h
    refine ⟨by simp only [List.length_cons] at *; omega, ?_⟩
    have e : splice (z :: zs) 0 (x :: xs) = x :: splice zs 0 xs := by unfold splice; simp
    rw [e]; exact b
  | z :: zs, n + 1, xs, k, h => by
    have h : putK zs n xs fun l => k (z :: l) := by cases xs <;> exact h
    obtain ⟨a, b⟩ := putK_spec h
    refine ⟨by simp only [List.length_cons] at *; omega, ?_⟩
    rw [splice_cons]; exact b
  | [], 0, x :: xs, k, h => by exact (show False from h).elim
  | [], n + 1, xs, k, h => by cases xs <;> exact (show False from h).elim
def dtK : List AVal → Nat → Nat → (List AVal → Prop) → Prop
  | _ :: l, o + 1, n, k => dtK l o n k
  | x :: l, 0, n + 1, k => dtK l 0 n fun m => k (x :: m)
  | _, 0, 0, k => k []
  | [], _ + 1, _, _ => False
  | [], 0, _ + 1, _ => False
theorem dtK_spec : ∀ {cs : List AVal} {off n : Nat} {k : List AVal → Prop}, dtK cs off n k → off + n ≤ cs.length ∧ k ((cs.drop off).take n)
  | c :: l, o + 1, n, k, h => by
    have h : dtK l o n k := h
    obtain ⟨a, b⟩ := dtK_spec h
    exact ⟨by simp only [List.length_cons]; omega, by rw [List.drop_succ_cons]; exact b⟩
  | x :: l, 0, n + 1, k, h => by
    have h : dtK l 0 n fun m => k (x :: m) := h
    obtain ⟨a, b⟩ := dtK_spec h
    exact ⟨by simp only [List.length_cons]; omega, by simpa using b⟩
  | c :: l, 0, 0, k, h => ⟨by simp, by simpa [dtK] using h⟩
  | [], 0, 0, k, h => ⟨by simp, by simpa [dtK] using h⟩
  | [], _ + 1, _, _, h => (show False from h).elim
  | [], 0, _ + 1, _, h => (show False from h).elim

theorem acellA {cs : List AVal} {off n : Nat} {K : AVal → Prop} (h : dtK cs off n fun l => K (.agg l)) : ACell cs off (some n) K := let ⟨a, b⟩ := dtK_spec h; acells a rfl b
/-- Where an entry stands in a list. -/
inductive AtK : List HE → Nat → HE → Prop
  | h {e : HE} {l : List HE} : AtK (e :: l) 0 e
  | t {e d : HE} {l : List HE} {k : Nat} : AtK l k e → AtK (d :: l) (k + 1) e
theorem AtK.get {L : List HE} {k : Nat} {e : HE} (h : AtK L k e) : L[k]? = some e := by
  induction h with
  | h => rfl
  | t _ ih => rw [List.getElem?_cons_succ]; exact ih
section ops
variable {σb σ : AHeap} {L : List HE}
theorem hnew (H : Hp σb L σ) {xs : List AVal} {K : Nat → AHeap → Prop} (hc : xs.all AVal.isCell = true) (h : ∀ i σ', Hp σb (.o i (.cells xs) :: L) σ' → K i σ') : ANew σ xs K :=
  anew hc fun i hi => h i _ (H.cons_o hi _)
theorem hnewmap (H : Hp σb L σ) {K : Nat → AHeap → Prop} (h : ∀ i σ', Hp σb (.o i (.map []) :: L) σ' → K i σ') : ANewMap σ K :=
  ⟨fun i hi => h i _ (H.cons_o hi _)⟩
theorem hload (H : Hp σb L σ) {k i off : Nat} {cs : List AVal} {x : AVal} {K : AVal → Prop} (hk : L[k]? = some (.o i (.cells cs))) (hx : cs[off]? = some x) (h : K x) : ALoad σ i off none K :=
  aload (H.get hk) hx h
theorem hloadA (H : Hp σb L σ) {k i off n : Nat} {cs : List AVal} {K : AVal → Prop} (hk : L[k]? = some (.o i (.cells cs))) (h : dtK cs off n fun l => K (.agg l)) : ALoad σ i off (some n) K :=
  let ⟨a, b⟩ := dtK_spec h; aloads (H.get hk) a rfl b
theorem hstore (H : Hp σb L σ) {k i off : Nat} {cs xs : List AVal} {K : AHeap → Prop} (hk : L[k]? = some (.o i (.cells cs))) (hc : xs.all AVal.isCell = true)
    (h : putK cs off xs fun l => setLK L k (.o i (.cells l)) fun L' => ∀ σ', Hp σb L' σ' → K σ') : AStore σ i off xs K :=
  let ⟨a, b⟩ := putK_spec h; let ⟨_, d⟩ := setLK_spec b; astore (H.get hk) a hc rfl (d _ (H.set hk _))
theorem hloadB {σ0 : AHeap} {L : List HE} (H : Hp σ0 L σ) {i off : Nat} {cs : List AVal} {x : AVal} {K : AVal → Prop} (b : σ0 i = some (.cells cs)) (hx : cs[off]? = some x) (h : K x) : ALoad σ i off none K :=
  aload (H.sub _ _ b) hx h
theorem hloadAB {σ0 : AHeap} {L : List HE} (H : Hp σ0 L σ) {i off n : Nat} {cs : List AVal} {K : AVal → Prop} (b : σ0 i = some (.cells cs)) (h : dtK cs off n fun l => K (.agg l)) : ALoad σ i off (some n) K :=
  let ⟨a, c⟩ := dtK_spec h; aloads (H.sub _ _ b) a rfl c
theorem hlookB {σ0 : AHeap} {L : List HE} (H : Hp σ0 L σ) {i : Nat} {es : List (Int × AVal)} {n : Int} {zero : AVal} {K : AVal → Prop} (b : σ0 i = some (.map es)) (h : K (((es.find? fun e => e.1 == n).map (·.2)).getD zero)) : ALook σ i n zero K :=
  ⟨es, H.sub _ _ b, h⟩
theorem hlook (H : Hp σb L σ) {k i : Nat} {es : List (Int × AVal)} {n : Int} {zero : AVal} {K : AVal → Prop} (hk : L[k]? = some (.o i (.map es))) (h : K (((es.find? fun e => e.1 == n).map (·.2)).getD zero)) : ALook σ i n zero K :=
  ⟨es, H.get hk, h⟩
theorem hmset (H : Hp σb L σ) {k i : Nat} {es : List (Int × AVal)} {n : Int} {x : AVal} {K : AHeap → Prop} (hk : L[k]? = some (.o i (.map es))) (hx : x.isCell = true)
    (h : setLK L k (.o i (.map (mapSet es n x))) fun L' => ∀ σ', Hp σb L' σ' → K σ') : AMset σ i n x K :=
  let ⟨_, d⟩ := setLK_spec h; ⟨es, H.get hk, hx, d _ (H.set hk _)⟩
theorem hmdel (H : Hp σb L σ) {k i : Nat} {es : List (Int × AVal)} {n : Int} {K : AHeap → Prop} (hk : L[k]? = some (.o i (.map es)))
    (h : setLK L k (.o i (.map (mapDel es n))) fun L' => ∀ σ', Hp σb L' σ' → K σ') : AMdel σ i n K :=
  let ⟨_, d⟩ := setLK_spec h; ⟨es, H.get hk, d _ (H.set hk _)⟩
theorem happ0 {s bytes : Nat} {xs ys : List AVal} {tk : Tok} {K : AVal → AHeap → Prop} (H : Hp σb (.t tk :: L) σ) (hl : (xs.length + ys.length) * bytes ≤ 140737488355328)
    (h : ∀ tk' σ', Hp σb (.t tk' :: L) σ' → K (.slice s (xs ++ ys) tk') σ') : AApp σ s bytes xs tk ys K := by
  have h0 := H.ok _ (List.mem_cons_self ..)
  cases tk with
  | none => exact h0.elim
  | own _ => exact h0.elim
  | full => exact aapp_full hl fun t ht => h _ _ (H.tail.cons_tip ht)
  | tip t =>
    refine aapp_tip h0 hl fun t' ht' => h _ _ ?_
    exact H.del_tip.cons_tip (del_none ht')
theorem happ {k : Nat} {s bytes : Nat} {xs ys : List AVal} {tk : Tok} {K : AVal → AHeap → Prop} (H : Hp σb L σ) (hk : L[k]? = some (.t tk)) (hl : (xs.length + ys.length) * bytes ≤ 140737488355328)
    (h : ∀ tk', setLK L k (.t tk') fun L' => ∀ σ', Hp σb L' σ' → K (.slice s (xs ++ ys) tk') σ') : AApp σ s bytes xs tk ys K :=
  happ0 (H.front hk) hl fun tk' σ' H' => (setLK_spec (h tk')).2 σ' (H'.back (List.getElem?_eq_some_iff.1 hk).1)
/-- An append to a slice that no right is known of yet but is full. -/
theorem happF {s bytes : Nat} {xs ys : List AVal} {K : AVal → AHeap → Prop} (H : Hp σb L σ) (hl : (xs.length + ys.length) * bytes ≤ 140737488355328)
    (h : ∀ tk' σ', Hp σb (.t tk' :: L) σ' → K (.slice s (xs ++ ys) tk') σ') : AApp σ s bytes xs .full ys K := happ0 H.cons_full hl h
theorem happnew (H : Hp σb L σ) {s bytes : Nat} {ys : List AVal} {K : AVal → AHeap → Prop} (hy : ys ≠ []) (hl : ys.length * bytes ≤ 140737488355328) (ho : ys.all (okElem s) = true)
    (h : ∀ r σ', Hp σb (.o r (.cells (ys.flatMap AVal.cells)) :: L) σ' → K (.ms r s 0 ys.length) σ') : AAppNew σ s bytes [] .full ys K :=
  aappnew hy hl ho fun r hr => h r _ (H.cons_o hr _)
theorem happm (H : Hp σb L σ) {k r s len bytes : Nat} {ys cs : List AVal} {K : AVal → AHeap → Prop} (hk : L[k]? = some (.o r (.cells cs))) (hc : len * s = cs.length) (hl : (len + ys.length) * bytes ≤ 140737488355328) (ho : ys.all (okElem s) = true)
    (h : ∀ r', setLK L k (.o r' (.cells (cs ++ ys.flatMap AVal.cells))) fun L' => ∀ σ', Hp σb L' σ' → K (.ms r' s 0 (len + ys.length)) σ') : AAppM σ r s 0 len bytes ys K := by
  refine aappm (H.get hk) hc hl ho fun r' hr' => (setLK_spec (h r')).2 _ ?_
  refine Hp.back (List.getElem?_eq_some_iff.1 hk).1 ?_
  exact ((H.front hk).del_head).cons_o (del_none hr') _
theorem zL (H : Hp σb L σ) {k i off : Nat} {cs : List AVal} {x : AVal} {K : AVal → Prop} (hk : AtK L k (.o i (.cells cs))) (hx : cs[off]? = some x) (h : K x) : ALoad σ i off none K := hload H hk.get hx h
theorem zA (H : Hp σb L σ) {k i off n : Nat} {cs : List AVal} {K : AVal → Prop} (hk : AtK L k (.o i (.cells cs))) (h : dtK cs off n fun l => K (.agg l)) : ALoad σ i off (some n) K := hloadA H hk.get h
theorem zS (H : Hp σb L σ) {k i off : Nat} {cs xs : List AVal} {K : AHeap → Prop} (hk : AtK L k (.o i (.cells cs))) (hc : xs.all AVal.isCell = true)
    (h : putK cs off xs fun l => setLK L k (.o i (.cells l)) fun L' => ∀ σ', Hp σb L' σ' → K σ') : AStore σ i off xs K := hstore H hk.get hc h
theorem zB {σ0 : AHeap} {L : List HE} (H : Hp σ0 L σ) {i off : Nat} {cs : List AVal} {x : AVal} {K : AVal → Prop} (b : σ0 i = some (.cells cs)) (hx : cs[off]? = some x) (h : K x) : ALoad σ i off none K := hloadB H b hx h
theorem zC {σ0 : AHeap} {L : List HE} (H : Hp σ0 L σ) {i off n : Nat} {cs : List AVal} {K : AVal → Prop} (b : σ0 i = some (.cells cs)) (h : dtK cs off n fun l => K (.agg l)) : ALoad σ i off (some n) K := hloadAB H b h
theorem zMs (H : Hp σb L σ) {k i : Nat} {es : List (Int × AVal)} {n : Int} {x : AVal} {K : AHeap → Prop} (hk : AtK L k (.o i (.map es))) (hx : x.isCell = true)
    (h : setLK L k (.o i (.map (mapSet es n x))) fun L' => ∀ σ', Hp σb L' σ' → K σ') : AMset σ i n x K := hmset H hk.get hx h
theorem zMd (H : Hp σb L σ) {k i : Nat} {es : List (Int × AVal)} {n : Int} {K : AHeap → Prop} (hk : AtK L k (.o i (.map es)))
    (h : setLK L k (.o i (.map (mapDel es n))) fun L' => ∀ σ', Hp σb L' σ' → K σ') : AMdel σ i n K := hmdel H hk.get h
theorem zP {k : Nat} {s bytes : Nat} {xs ys : List AVal} {tk : Tok} {K : AVal → AHeap → Prop} (H : Hp σb L σ) (hk : AtK L k (.t tk)) (hl : (xs.length + ys.length) * bytes ≤ 140737488355328)
    (h : ∀ tk', setLK L k (.t tk') fun L' => ∀ σ', Hp σb L' σ' → K (.slice s (xs ++ ys) tk') σ') : AApp σ s bytes xs tk ys K := happ H hk.get hl h
theorem zR {cs : List AVal} {off : Nat} {x : AVal} {K : AVal → Prop} (hx : cs[off]? = some x) (h : K x) : ACell cs off none K := acell hx h
end ops
end Go.Proofs.Ytgipkpghabelkaa
/-
  The document's fields: what is cut.
-/
namespace Go.Proofs.Ytgipkpghabelkaa
set_option linter.unusedVariables false
set_option linter.unusedSimpArgs false
open Go Go.Am

def lensM (b : List UInt8) (more : Bool) : List Int × Int × Int := if more = true then readV b 11 else ([], 0, 0)
def cutL (b : List UInt8) (more : Bool) : List (List UInt8) × Int := if (lensM b more).2.2 ≠ 0 then ([], (lensM b more).2.2) else cutF (lensM b more).1 (b.drop (lensM b more).2.1.toNat) []
theorem readV_top {b : List UInt8} (h : (readV b 11).2.2 = 0) : ∀ v ∈ (readV b 11).1, 0 ≤ v ∧ v ≤ 65536 := by
  obtain ⟨h1, h2, h3, h4⟩ := write_back b 11 (readV b 11).1 (readV b 11).2.1 (Prod.ext rfl (Prod.ext rfl h))
  obtain ⟨_, _, _, h5⟩ := writeCode_ok h1
  intro v hv
  obtain ⟨k, rfl, _, h6⟩ := goodLen (h5 v hv)
  have : 2 ^ Int.toNat 11 = 2048 := by decide
  omega
set_option maxRecDepth 20000 in
set_option maxHeartbeats 2000000 in
theorem rCut09 (b : List UInt8) (t : Tok) (more : Bool) (σ : AHeap) (hb : b.length ≤ 8000) : ACalls Try.prog i_bowlineref09_Cut [sl t b, boolv more, i64v 11] σ fun v σ' => v = .tup [lists .none (cutL b more).1, i64v (cutL b more).2] ∧ σ' = σ := by
  refine k_bowlineref09_Cut rfl ?_
  have H := Hp.nil σ
  have hln := readV_len b 11
  cases more
  case' false =>
    ((conv => whnf); (repeat ((first | with_reducible (first | refine zT rfl ?_ | refine zF rfl ?_ | refine zY rfl ?_) | refine zY (by decide) ?_ | refine zN (by decide) ?_ | with_reducible refine zQ ?_); (conv => whnf))))
    have hci : cutL b false = cutF [] b [] := by unfold cutL; rfl
    rw [hci, cutF]
    refine aloop (α := Unit) (fun y => [(s9, i64v 0), (s13, lists .full []), (s14, i64v 0)]) (fun y => σ) (fun y => True) (fun y => 0) () trivial (Sub.refl _) ?_ ?_
    · ((conv => whnf); (repeat ((first | with_reducible (first | refine zT rfl ?_ | refine zF rfl ?_ | refine zY rfl ?_) | refine zY (by decide) ?_ | refine zN (by decide) ?_ | with_reducible refine zQ ?_); (conv => whnf))))
      (repeat' first | with_reducible exact EnvLe.refl _ | (refine EnvLe.node ?_ (by first | exact Or.inl rfl | exact Or.inr (Or.inl rfl) | exact Or.inr (Or.inr ⟨nofun, VLe.slice _ _ _⟩)) ?_))
    rintro ⟨⟩ _
    ((conv => whnf); (repeat ((first | with_reducible (first | refine zT rfl ?_ | refine zF rfl ?_ | refine zY rfl ?_) | refine zY (by decide) ?_ | refine zN (by decide) ?_ | with_reducible refine zQ ?_); (conv => whnf))))
    (repeat ((first | refine zI (by omega) ?_ | refine zE (by omega) (by omega) ?_ | refine zD (by omega) (by omega) ?_ | refine zY (by omega) ?_ | refine zN (by omega) ?_ | refine amin ?_ | refine amax ?_ | refine zU (by omega) ?_ | refine z8 (by omega) ?_ | refine zX (by omega) (by omega) ?_ | refine zR rfl ?_ | refine acellA ?_ | refine zB H b1 rfl ?_ | refine zC H b1 ?_ | refine zB H b2 rfl ?_ | refine zC H b2 ?_ | refine zB H b3 rfl ?_ | refine zC H b3 ?_ | refine zB H b4 rfl ?_ | refine zC H b4 ?_ | (apply zL H; (· repeat first | exact .h | apply AtK.t); (· rfl)) | (apply zA H; (· repeat first | exact .h | apply AtK.t)) | (apply zS H; (· repeat first | exact .h | apply AtK.t); (· rfl); (conv => whnf); clear H; intro τ H) | rw [List.length_map]); ((conv => whnf); (repeat ((first | with_reducible (first | refine zT rfl ?_ | refine zF rfl ?_ | refine zY rfl ?_) | refine zY (by decide) ?_ | refine zN (by decide) ?_ | with_reducible refine zQ ?_); (conv => whnf))))))
    by_cases h1 : b.length = 0
    · rw [if_pos h1]
      (repeat ((first | refine zI (by omega) ?_ | refine zE (by omega) (by omega) ?_ | refine zD (by omega) (by omega) ?_ | refine zY (by omega) ?_ | refine zN (by omega) ?_ | refine amin ?_ | refine amax ?_ | refine zU (by omega) ?_ | refine z8 (by omega) ?_ | refine zX (by omega) (by omega) ?_ | refine zR rfl ?_ | refine acellA ?_ | refine zB H b1 rfl ?_ | refine zC H b1 ?_ | refine zB H b2 rfl ?_ | refine zC H b2 ?_ | refine zB H b3 rfl ?_ | refine zC H b3 ?_ | refine zB H b4 rfl ?_ | refine zC H b4 ?_ | (apply zL H; (· repeat first | exact .h | apply AtK.t); (· rfl)) | (apply zA H; (· repeat first | exact .h | apply AtK.t)) | (apply zS H; (· repeat first | exact .h | apply AtK.t); (· rfl); (conv => whnf); clear H; intro τ H) | rw [List.length_map]); ((conv => whnf); (repeat ((first | with_reducible (first | refine zT rfl ?_ | refine zF rfl ?_ | refine zY rfl ?_) | refine zY (by decide) ?_ | refine zN (by decide) ?_ | with_reducible refine zQ ?_); (conv => whnf))))))
      exact aret VLe.tup_sl (Sub.refl _) ⟨rfl, rfl⟩
    · rw [if_neg h1]
      (repeat ((first | refine zI (by omega) ?_ | refine zE (by omega) (by omega) ?_ | refine zD (by omega) (by omega) ?_ | refine zY (by omega) ?_ | refine zN (by omega) ?_ | refine amin ?_ | refine amax ?_ | refine zU (by omega) ?_ | refine z8 (by omega) ?_ | refine zX (by omega) (by omega) ?_ | refine zR rfl ?_ | refine acellA ?_ | refine zB H b1 rfl ?_ | refine zC H b1 ?_ | refine zB H b2 rfl ?_ | refine zC H b2 ?_ | refine zB H b3 rfl ?_ | refine zC H b3 ?_ | refine zB H b4 rfl ?_ | refine zC H b4 ?_ | (apply zL H; (· repeat first | exact .h | apply AtK.t); (· rfl)) | (apply zA H; (· repeat first | exact .h | apply AtK.t)) | (apply zS H; (· repeat first | exact .h | apply AtK.t); (· rfl); (conv => whnf); clear H; intro τ H) | rw [List.length_map]); ((conv => whnf); (repeat ((first | with_reducible (first | refine zT rfl ?_ | refine zF rfl ?_ | refine zY rfl ?_) | refine zY (by decide) ?_ | refine zN (by decide) ?_ | with_reducible refine zQ ?_); (conv => whnf))))))
      refine acut (by omega) (by omega) (by omega) ?_
      ((conv => whnf); (repeat ((first | with_reducible (first | refine zT rfl ?_ | refine zF rfl ?_ | refine zY rfl ?_) | refine zY (by decide) ?_ | refine zN (by decide) ?_ | with_reducible refine zQ ?_); (conv => whnf))))
      rw [Int.toNat_natCast, show (0 : Int).toNat = 0 from rfl, List.drop_zero, List.take_of_length_le (l := b.map byteV) (by rw [List.length_map]; exact Nat.le_refl _)]
      refine happF H (by show (0 + 1) * 24 ≤ _; omega) ?_
      clear H
      intro tk2 τ H
      ((conv => whnf); (repeat ((first | with_reducible (first | refine zT rfl ?_ | refine zF rfl ?_ | refine zY rfl ?_) | refine zY (by decide) ?_ | refine zN (by decide) ?_ | with_reducible refine zQ ?_); (conv => whnf))))
      (repeat ((first | refine zI (by omega) ?_ | refine zE (by omega) (by omega) ?_ | refine zD (by omega) (by omega) ?_ | refine zY (by omega) ?_ | refine zN (by omega) ?_ | refine amin ?_ | refine amax ?_ | refine zU (by omega) ?_ | refine z8 (by omega) ?_ | refine zX (by omega) (by omega) ?_ | refine zR rfl ?_ | refine acellA ?_ | refine zB H b1 rfl ?_ | refine zC H b1 ?_ | refine zB H b2 rfl ?_ | refine zC H b2 ?_ | refine zB H b3 rfl ?_ | refine zC H b3 ?_ | refine zB H b4 rfl ?_ | refine zC H b4 ?_ | (apply zL H; (· repeat first | exact .h | apply AtK.t); (· rfl)) | (apply zA H; (· repeat first | exact .h | apply AtK.t)) | (apply zS H; (· repeat first | exact .h | apply AtK.t); (· rfl); (conv => whnf); clear H; intro τ H) | rw [List.length_map]); ((conv => whnf); (repeat ((first | with_reducible (first | refine zT rfl ?_ | refine zF rfl ?_ | refine zY rfl ?_) | refine zY (by decide) ?_ | refine zN (by decide) ?_ | with_reducible refine zQ ?_); (conv => whnf))))))
      exact aret VLe.tup_sl H.sub ⟨by simp [cutTok], rfl⟩
  case' true =>
    ((conv => whnf); (repeat ((first | with_reducible (first | refine zT rfl ?_ | refine zF rfl ?_ | refine zY rfl ?_) | refine zY (by decide) ?_ | refine zN (by decide) ?_ | with_reducible refine zQ ?_); (conv => whnf))))
    refine acall (refRead b _ 11 σ hb) ?_
    rintro _ σ_ ⟨rfl, e_⟩
    obtain rfl := e_.symm
    refine ⟨?_, Ext.refl _⟩
    ((conv => whnf); (repeat ((first | with_reducible (first | refine zT rfl ?_ | refine zF rfl ?_ | refine zY rfl ?_) | refine zY (by decide) ?_ | refine zN (by decide) ?_ | with_reducible refine zQ ?_); (conv => whnf))))
    by_cases he : (readV b 11).2.2 = 0
    case neg =>
      have hci : cutL b true = ([], (readV b 11).2.2) := by unfold cutL; rw [if_pos (show (lensM b true).2.2 ≠ 0 from he)]; rfl
      rw [hci]
      (repeat ((first | refine zI (by omega) ?_ | refine zE (by omega) (by omega) ?_ | refine zD (by omega) (by omega) ?_ | refine zY (by omega) ?_ | refine zN (by omega) ?_ | refine amin ?_ | refine amax ?_ | refine zU (by omega) ?_ | refine z8 (by omega) ?_ | refine zX (by omega) (by omega) ?_ | refine zR rfl ?_ | refine acellA ?_ | refine zB H b1 rfl ?_ | refine zC H b1 ?_ | refine zB H b2 rfl ?_ | refine zC H b2 ?_ | refine zB H b3 rfl ?_ | refine zC H b3 ?_ | refine zB H b4 rfl ?_ | refine zC H b4 ?_ | (apply zL H; (· repeat first | exact .h | apply AtK.t); (· rfl)) | (apply zA H; (· repeat first | exact .h | apply AtK.t)) | (apply zS H; (· repeat first | exact .h | apply AtK.t); (· rfl); (conv => whnf); clear H; intro τ H) | rw [List.length_map]); ((conv => whnf); (repeat ((first | with_reducible (first | refine zT rfl ?_ | refine zF rfl ?_ | refine zY rfl ?_) | refine zY (by decide) ?_ | refine zN (by decide) ?_ | with_reducible refine zQ ?_); (conv => whnf))))))
      exact aret VLe.tup_sl (Sub.refl _) ⟨rfl, rfl⟩
    obtain ⟨q1, q2, q3⟩ := readV_ok he
    have q4 := readV_top he
    have hci : cutL b true = cutF (readV b 11).1 (b.drop (readV b 11).2.1.toNat) [] := by unfold cutL; rw [if_neg (show ¬ (lensM b true).2.2 ≠ 0 from fun h => h he)]; rfl
    rw [hci]
    (repeat ((first | refine zI (by omega) ?_ | refine zE (by omega) (by omega) ?_ | refine zD (by omega) (by omega) ?_ | refine zY (by omega) ?_ | refine zN (by omega) ?_ | refine amin ?_ | refine amax ?_ | refine zU (by omega) ?_ | refine z8 (by omega) ?_ | refine zX (by omega) (by omega) ?_ | refine zR rfl ?_ | refine acellA ?_ | refine zB H b1 rfl ?_ | refine zC H b1 ?_ | refine zB H b2 rfl ?_ | refine zC H b2 ?_ | refine zB H b3 rfl ?_ | refine zC H b3 ?_ | refine zB H b4 rfl ?_ | refine zC H b4 ?_ | (apply zL H; (· repeat first | exact .h | apply AtK.t); (· rfl)) | (apply zA H; (· repeat first | exact .h | apply AtK.t)) | (apply zS H; (· repeat first | exact .h | apply AtK.t); (· rfl); (conv => whnf); clear H; intro τ H) | rw [List.length_map]); ((conv => whnf); (repeat ((first | with_reducible (first | refine zT rfl ?_ | refine zF rfl ?_ | refine zY rfl ?_) | refine zY (by decide) ?_ | refine zN (by decide) ?_ | with_reducible refine zQ ?_); (conv => whnf))))))
    obtain ⟨n, hn⟩ : ∃ n : Nat, (readV b 11).2.1 = n := ⟨(readV b 11).2.1.toNat, by omega⟩
    have hnb : n ≤ b.length := by omega
    rw [hn] at *
    generalize (readV b 11).1 = l at *
    rw [Int.toNat_natCast]
    refine aloop (α := Nat × Nat × List (List UInt8) × Tok × AHeap) (fun y => [(s9, i64v y.2.1), (s13, lists y.2.2.2.1 y.2.2.1), (s14, i64v y.1)]) (fun y => y.2.2.2.2) (fun y => y.1 ≤ l.length ∧ y.2.1 ≤ b.length ∧ y.2.2.1.length = y.1 ∧ cutF (l.drop y.1) (b.drop y.2.1) y.2.2.1 = cutF l (b.drop n) [] ∧ Hp σ [.t y.2.2.2.1] y.2.2.2.2) (fun y => l.length - y.1) (0, n, [], .full, σ) ⟨Nat.zero_le _, by dsimp only; omega, rfl, rfl, H.cons_full⟩ (Sub.refl _) ?_ ?_
    · ((conv => whnf); (repeat ((first | with_reducible (first | refine zT rfl ?_ | refine zF rfl ?_ | refine zY rfl ?_) | refine zY (by decide) ?_ | refine zN (by decide) ?_ | with_reducible refine zQ ?_); (conv => whnf))))
      (repeat' first | with_reducible exact EnvLe.refl _ | (refine EnvLe.node ?_ (by first | exact Or.inl rfl | exact Or.inr (Or.inl rfl) | exact Or.inr (Or.inr ⟨nofun, VLe.slice _ _ _⟩)) ?_))
    clear H
    rintro ⟨i, a, out, tk, τ⟩ ⟨hi, ha, hol, hcut, H⟩
    dsimp only at hi ha hol hcut H ⊢
    ((conv => whnf); (repeat ((first | with_reducible (first | refine zT rfl ?_ | refine zF rfl ?_ | refine zY rfl ?_) | refine zY (by decide) ?_ | refine zN (by decide) ?_ | with_reducible refine zQ ?_); (conv => whnf))))
    (repeat ((first | refine zI (by omega) ?_ | refine zE (by omega) (by omega) ?_ | refine zD (by omega) (by omega) ?_ | refine zY (by omega) ?_ | refine zN (by omega) ?_ | refine amin ?_ | refine amax ?_ | refine zU (by omega) ?_ | refine z8 (by omega) ?_ | refine zX (by omega) (by omega) ?_ | refine zR rfl ?_ | refine acellA ?_ | refine zB H b1 rfl ?_ | refine zC H b1 ?_ | refine zB H b2 rfl ?_ | refine zC H b2 ?_ | refine zB H b3 rfl ?_ | refine zC H b3 ?_ | refine zB H b4 rfl ?_ | refine zC H b4 ?_ | (apply zL H; (· repeat first | exact .h | apply AtK.t); (· rfl)) | (apply zA H; (· repeat first | exact .h | apply AtK.t)) | (apply zS H; (· repeat first | exact .h | apply AtK.t); (· rfl); (conv => whnf); clear H; intro τ H) | rw [List.length_map]); ((conv => whnf); (repeat ((first | with_reducible (first | refine zT rfl ?_ | refine zF rfl ?_ | refine zY rfl ?_) | refine zY (by decide) ?_ | refine zN (by decide) ?_ | with_reducible refine zQ ?_); (conv => whnf))))))
    by_cases h : i < l.length
    · have hv := q4 _ (List.getElem_mem h)
      rw [List.drop_eq_getElem_cons h, cutF, List.length_drop] at hcut
      (repeat ((first | refine zI (by omega) ?_ | refine zE (by omega) (by omega) ?_ | refine zD (by omega) (by omega) ?_ | refine zY (by omega) ?_ | refine zN (by omega) ?_ | refine amin ?_ | refine amax ?_ | refine zU (by omega) ?_ | refine z8 (by omega) ?_ | refine zX (by omega) (by omega) ?_ | refine zR rfl ?_ | refine acellA ?_ | refine zB H b1 rfl ?_ | refine zC H b1 ?_ | refine zB H b2 rfl ?_ | refine zC H b2 ?_ | refine zB H b3 rfl ?_ | refine zC H b3 ?_ | refine zB H b4 rfl ?_ | refine zC H b4 ?_ | (apply zL H; (· repeat first | exact .h | apply AtK.t); (· rfl)) | (apply zA H; (· repeat first | exact .h | apply AtK.t)) | (apply zS H; (· repeat first | exact .h | apply AtK.t); (· rfl); (conv => whnf); clear H; intro τ H) | rw [List.length_map]); ((conv => whnf); (repeat ((first | with_reducible (first | refine zT rfl ?_ | refine zF rfl ?_ | refine zY rfl ?_) | refine zY (by decide) ?_ | refine zN (by decide) ?_ | with_reducible refine zQ ?_); (conv => whnf))))))
      refine aget (by omega) (get_ints h) ?_
      ((conv => whnf); (repeat ((first | with_reducible (first | refine zT rfl ?_ | refine zF rfl ?_ | refine zY rfl ?_) | refine zY (by decide) ?_ | refine zN (by decide) ?_ | with_reducible refine zQ ?_); (conv => whnf))))
      (repeat ((first | refine zI (by omega) ?_ | refine zE (by omega) (by omega) ?_ | refine zD (by omega) (by omega) ?_ | refine zY (by omega) ?_ | refine zN (by omega) ?_ | refine amin ?_ | refine amax ?_ | refine zU (by omega) ?_ | refine z8 (by omega) ?_ | refine zX (by omega) (by omega) ?_ | refine zR rfl ?_ | refine acellA ?_ | refine zB H b1 rfl ?_ | refine zC H b1 ?_ | refine zB H b2 rfl ?_ | refine zC H b2 ?_ | refine zB H b3 rfl ?_ | refine zC H b3 ?_ | refine zB H b4 rfl ?_ | refine zC H b4 ?_ | (apply zL H; (· repeat first | exact .h | apply AtK.t); (· rfl)) | (apply zA H; (· repeat first | exact .h | apply AtK.t)) | (apply zS H; (· repeat first | exact .h | apply AtK.t); (· rfl); (conv => whnf); clear H; intro τ H) | rw [List.length_map]); ((conv => whnf); (repeat ((first | with_reducible (first | refine zT rfl ?_ | refine zF rfl ?_ | refine zY rfl ?_) | refine zY (by decide) ?_ | refine zN (by decide) ?_ | with_reducible refine zQ ?_); (conv => whnf))))))
      by_cases h1 : (a : Int) + l[i] > b.length
      · rw [if_pos (by omega)] at hcut
        (repeat ((first | refine zI (by omega) ?_ | refine zE (by omega) (by omega) ?_ | refine zD (by omega) (by omega) ?_ | refine zY (by omega) ?_ | refine zN (by omega) ?_ | refine amin ?_ | refine amax ?_ | refine zU (by omega) ?_ | refine z8 (by omega) ?_ | refine zX (by omega) (by omega) ?_ | refine zR rfl ?_ | refine acellA ?_ | refine zB H b1 rfl ?_ | refine zC H b1 ?_ | refine zB H b2 rfl ?_ | refine zC H b2 ?_ | refine zB H b3 rfl ?_ | refine zC H b3 ?_ | refine zB H b4 rfl ?_ | refine zC H b4 ?_ | (apply zL H; (· repeat first | exact .h | apply AtK.t); (· rfl)) | (apply zA H; (· repeat first | exact .h | apply AtK.t)) | (apply zS H; (· repeat first | exact .h | apply AtK.t); (· rfl); (conv => whnf); clear H; intro τ H) | rw [List.length_map]); ((conv => whnf); (repeat ((first | with_reducible (first | refine zT rfl ?_ | refine zF rfl ?_ | refine zY rfl ?_) | refine zY (by decide) ?_ | refine zN (by decide) ?_ | with_reducible refine zQ ?_); (conv => whnf))))))
        exact aret VLe.tup_sl H.sub ⟨by rw [← hcut]; rfl, rfl⟩
      · rw [if_neg (by omega)] at hcut
        (repeat ((first | refine zI (by omega) ?_ | refine zE (by omega) (by omega) ?_ | refine zD (by omega) (by omega) ?_ | refine zY (by omega) ?_ | refine zN (by omega) ?_ | refine amin ?_ | refine amax ?_ | refine zU (by omega) ?_ | refine z8 (by omega) ?_ | refine zX (by omega) (by omega) ?_ | refine zR rfl ?_ | refine acellA ?_ | refine zB H b1 rfl ?_ | refine zC H b1 ?_ | refine zB H b2 rfl ?_ | refine zC H b2 ?_ | refine zB H b3 rfl ?_ | refine zC H b3 ?_ | refine zB H b4 rfl ?_ | refine zC H b4 ?_ | (apply zL H; (· repeat first | exact .h | apply AtK.t); (· rfl)) | (apply zA H; (· repeat first | exact .h | apply AtK.t)) | (apply zS H; (· repeat first | exact .h | apply AtK.t); (· rfl); (conv => whnf); clear H; intro τ H) | rw [List.length_map]); ((conv => whnf); (repeat ((first | with_reducible (first | refine zT rfl ?_ | refine zF rfl ?_ | refine zY rfl ?_) | refine zY (by decide) ?_ | refine zN (by decide) ?_ | with_reducible refine zQ ?_); (conv => whnf))))))
        refine aget (by omega) (get_ints h) ?_
        ((conv => whnf); (repeat ((first | with_reducible (first | refine zT rfl ?_ | refine zF rfl ?_ | refine zY rfl ?_) | refine zY (by decide) ?_ | refine zN (by decide) ?_ | with_reducible refine zQ ?_); (conv => whnf))))
        (repeat ((first | refine zI (by omega) ?_ | refine zE (by omega) (by omega) ?_ | refine zD (by omega) (by omega) ?_ | refine zY (by omega) ?_ | refine zN (by omega) ?_ | refine amin ?_ | refine amax ?_ | refine zU (by omega) ?_ | refine z8 (by omega) ?_ | refine zX (by omega) (by omega) ?_ | refine zR rfl ?_ | refine acellA ?_ | refine zB H b1 rfl ?_ | refine zC H b1 ?_ | refine zB H b2 rfl ?_ | refine zC H b2 ?_ | refine zB H b3 rfl ?_ | refine zC H b3 ?_ | refine zB H b4 rfl ?_ | refine zC H b4 ?_ | (apply zL H; (· repeat first | exact .h | apply AtK.t); (· rfl)) | (apply zA H; (· repeat first | exact .h | apply AtK.t)) | (apply zS H; (· repeat first | exact .h | apply AtK.t); (· rfl); (conv => whnf); clear H; intro τ H) | rw [List.length_map]); ((conv => whnf); (repeat ((first | with_reducible (first | refine zT rfl ?_ | refine zF rfl ?_ | refine zY rfl ?_) | refine zY (by decide) ?_ | refine zN (by decide) ?_ | with_reducible refine zQ ?_); (conv => whnf))))))
        refine acut (by omega) (by omega) (by omega) ?_
        ((conv => whnf); (repeat ((first | with_reducible (first | refine zT rfl ?_ | refine zF rfl ?_ | refine zY rfl ?_) | refine zY (by decide) ?_ | refine zN (by decide) ?_ | with_reducible refine zQ ?_); (conv => whnf))))
        rw [show ((a : Int) + l[i]).toNat = a + l[i].toNat by omega, Int.toNat_natCast, ← List.map_take, ← List.map_drop]
        have hcc : (b.take (a + l[i].toNat)).drop a = (b.drop a).take l[i].toNat := by rw [List.drop_take, Nat.add_sub_cancel_left]
        rw [hcc]
        rw [show (AVal.slice 1 (((b.drop a).take l[i].toNat).map byteV) (cutTok (some (Opd.t s45)) (some (Opd.t s51)) t)) = sl .none ((b.drop a).take l[i].toNat) from rfl]
        apply zP H
        · (repeat first | exact .h | apply AtK.t)
        · exact (by rw [List.length_map]; show (_ + 1) * 24 ≤ _; omega)
        intro tk2
        (conv => whnf)
        clear H
        intro τ H
        ((conv => whnf); (repeat ((first | with_reducible (first | refine zT rfl ?_ | refine zF rfl ?_ | refine zY rfl ?_) | refine zY (by decide) ?_ | refine zN (by decide) ?_ | with_reducible refine zQ ?_); (conv => whnf))))
        rw [show List.map (sl .none) out ++ [sl .none ((b.drop a).take l[i].toNat)] = List.map (sl .none) (out ++ [(b.drop a).take l[i].toNat]) by simp] at *
        refine aget (by omega) (get_ints h) ?_
        ((conv => whnf); (repeat ((first | with_reducible (first | refine zT rfl ?_ | refine zF rfl ?_ | refine zY rfl ?_) | refine zY (by decide) ?_ | refine zN (by decide) ?_ | with_reducible refine zQ ?_); (conv => whnf))))
        (repeat ((first | refine zI (by omega) ?_ | refine zE (by omega) (by omega) ?_ | refine zD (by omega) (by omega) ?_ | refine zY (by omega) ?_ | refine zN (by omega) ?_ | refine amin ?_ | refine amax ?_ | refine zU (by omega) ?_ | refine z8 (by omega) ?_ | refine zX (by omega) (by omega) ?_ | refine zR rfl ?_ | refine acellA ?_ | refine zB H b1 rfl ?_ | refine zC H b1 ?_ | refine zB H b2 rfl ?_ | refine zC H b2 ?_ | refine zB H b3 rfl ?_ | refine zC H b3 ?_ | refine zB H b4 rfl ?_ | refine zC H b4 ?_ | (apply zL H; (· repeat first | exact .h | apply AtK.t); (· rfl)) | (apply zA H; (· repeat first | exact .h | apply AtK.t)) | (apply zS H; (· repeat first | exact .h | apply AtK.t); (· rfl); (conv => whnf); clear H; intro τ H) | rw [List.length_map]); ((conv => whnf); (repeat ((first | with_reducible (first | refine zT rfl ?_ | refine zF rfl ?_ | refine zY rfl ?_) | refine zY (by decide) ?_ | refine zN (by decide) ?_ | with_reducible refine zQ ?_); (conv => whnf))))))
        rw [show (a : Int) + l[i] = ((a + l[i].toNat : Nat) : Int) by omega]
        refine ⟨(i + 1, a + l[i].toNat, out ++ [(b.drop a).take l[i].toNat], tk2, τ), ⟨h, by dsimp only; omega, by dsimp only; rw [List.length_append]; show _ + 1 = _; omega, by dsimp only; rw [← hcut, List.drop_drop], H⟩, by dsimp only; omega, Sub.refl _, ?_⟩
        ((conv => whnf); (repeat ((first | with_reducible (first | refine zT rfl ?_ | refine zF rfl ?_ | refine zY rfl ?_) | refine zY (by decide) ?_ | refine zN (by decide) ?_ | with_reducible refine zQ ?_); (conv => whnf))))
        (repeat' first | with_reducible exact EnvLe.refl _ | (refine EnvLe.node ?_ (by first | exact Or.inl rfl | exact Or.inr (Or.inl rfl) | exact Or.inr (Or.inr ⟨nofun, VLe.slice _ _ _⟩)) ?_))
    · (repeat ((first | refine zI (by omega) ?_ | refine zE (by omega) (by omega) ?_ | refine zD (by omega) (by omega) ?_ | refine zY (by omega) ?_ | refine zN (by omega) ?_ | refine amin ?_ | refine amax ?_ | refine zU (by omega) ?_ | refine z8 (by omega) ?_ | refine zX (by omega) (by omega) ?_ | refine zR rfl ?_ | refine acellA ?_ | refine zB H b1 rfl ?_ | refine zC H b1 ?_ | refine zB H b2 rfl ?_ | refine zC H b2 ?_ | refine zB H b3 rfl ?_ | refine zC H b3 ?_ | refine zB H b4 rfl ?_ | refine zC H b4 ?_ | (apply zL H; (· repeat first | exact .h | apply AtK.t); (· rfl)) | (apply zA H; (· repeat first | exact .h | apply AtK.t)) | (apply zS H; (· repeat first | exact .h | apply AtK.t); (· rfl); (conv => whnf); clear H; intro τ H) | rw [List.length_map]); ((conv => whnf); (repeat ((first | with_reducible (first | refine zT rfl ?_ | refine zF rfl ?_ | refine zY rfl ?_) | refine zY (by decide) ?_ | refine zN (by decide) ?_ | with_reducible refine zQ ?_); (conv => whnf))))))
      obtain rfl : i = l.length := by omega
      rw [List.drop_of_length_le (Nat.le_refl _), cutF, List.length_drop] at hcut
      by_cases h1 : a ≥ b.length
      · rw [if_pos (by omega)] at hcut
        (repeat ((first | refine zI (by omega) ?_ | refine zE (by omega) (by omega) ?_ | refine zD (by omega) (by omega) ?_ | refine zY (by omega) ?_ | refine zN (by omega) ?_ | refine amin ?_ | refine amax ?_ | refine zU (by omega) ?_ | refine z8 (by omega) ?_ | refine zX (by omega) (by omega) ?_ | refine zR rfl ?_ | refine acellA ?_ | refine zB H b1 rfl ?_ | refine zC H b1 ?_ | refine zB H b2 rfl ?_ | refine zC H b2 ?_ | refine zB H b3 rfl ?_ | refine zC H b3 ?_ | refine zB H b4 rfl ?_ | refine zC H b4 ?_ | (apply zL H; (· repeat first | exact .h | apply AtK.t); (· rfl)) | (apply zA H; (· repeat first | exact .h | apply AtK.t)) | (apply zS H; (· repeat first | exact .h | apply AtK.t); (· rfl); (conv => whnf); clear H; intro τ H) | rw [List.length_map]); ((conv => whnf); (repeat ((first | with_reducible (first | refine zT rfl ?_ | refine zF rfl ?_ | refine zY rfl ?_) | refine zY (by decide) ?_ | refine zN (by decide) ?_ | with_reducible refine zQ ?_); (conv => whnf))))))
        exact aret VLe.tup_sl H.sub ⟨by rw [← hcut]; rfl, rfl⟩
      · rw [if_neg (by omega)] at hcut
        (repeat ((first | refine zI (by omega) ?_ | refine zE (by omega) (by omega) ?_ | refine zD (by omega) (by omega) ?_ | refine zY (by omega) ?_ | refine zN (by omega) ?_ | refine amin ?_ | refine amax ?_ | refine zU (by omega) ?_ | refine z8 (by omega) ?_ | refine zX (by omega) (by omega) ?_ | refine zR rfl ?_ | refine acellA ?_ | refine zB H b1 rfl ?_ | refine zC H b1 ?_ | refine zB H b2 rfl ?_ | refine zC H b2 ?_ | refine zB H b3 rfl ?_ | refine zC H b3 ?_ | refine zB H b4 rfl ?_ | refine zC H b4 ?_ | (apply zL H; (· repeat first | exact .h | apply AtK.t); (· rfl)) | (apply zA H; (· repeat first | exact .h | apply AtK.t)) | (apply zS H; (· repeat first | exact .h | apply AtK.t); (· rfl); (conv => whnf); clear H; intro τ H) | rw [List.length_map]); ((conv => whnf); (repeat ((first | with_reducible (first | refine zT rfl ?_ | refine zF rfl ?_ | refine zY rfl ?_) | refine zY (by decide) ?_ | refine zN (by decide) ?_ | with_reducible refine zQ ?_); (conv => whnf))))))
        refine acut (by omega) (by omega) (by omega) ?_
        ((conv => whnf); (repeat ((first | with_reducible (first | refine zT rfl ?_ | refine zF rfl ?_ | refine zY rfl ?_) | refine zY (by decide) ?_ | refine zN (by decide) ?_ | with_reducible refine zQ ?_); (conv => whnf))))
        rw [Int.toNat_natCast, Int.toNat_natCast, List.take_of_length_le (l := b.map byteV) (by rw [List.length_map]; exact Nat.le_refl _), ← List.map_drop]
        apply zP H
        · (repeat first | exact .h | apply AtK.t)
        · exact (by rw [List.length_map]; show (_ + 1) * 24 ≤ _; omega)
        intro tk2
        (conv => whnf)
        clear H
        intro τ H
        ((conv => whnf); (repeat ((first | with_reducible (first | refine zT rfl ?_ | refine zF rfl ?_ | refine zY rfl ?_) | refine zY (by decide) ?_ | refine zN (by decide) ?_ | with_reducible refine zQ ?_); (conv => whnf))))
        (repeat ((first | refine zI (by omega) ?_ | refine zE (by omega) (by omega) ?_ | refine zD (by omega) (by omega) ?_ | refine zY (by omega) ?_ | refine zN (by omega) ?_ | refine amin ?_ | refine amax ?_ | refine zU (by omega) ?_ | refine z8 (by omega) ?_ | refine zX (by omega) (by omega) ?_ | refine zR rfl ?_ | refine acellA ?_ | refine zB H b1 rfl ?_ | refine zC H b1 ?_ | refine zB H b2 rfl ?_ | refine zC H b2 ?_ | refine zB H b3 rfl ?_ | refine zC H b3 ?_ | refine zB H b4 rfl ?_ | refine zC H b4 ?_ | (apply zL H; (· repeat first | exact .h | apply AtK.t); (· rfl)) | (apply zA H; (· repeat first | exact .h | apply AtK.t)) | (apply zS H; (· repeat first | exact .h | apply AtK.t); (· rfl); (conv => whnf); clear H; intro τ H) | rw [List.length_map]); ((conv => whnf); (repeat ((first | with_reducible (first | refine zT rfl ?_ | refine zF rfl ?_ | refine zY rfl ?_) | refine zY (by decide) ?_ | refine zN (by decide) ?_ | with_reducible refine zQ ?_); (conv => whnf))))))
        exact aret VLe.tup_sl H.sub ⟨by rw [← hcut]; simp [cutTok], rfl⟩
end Go.Proofs.Ytgipkpghabelkaa
