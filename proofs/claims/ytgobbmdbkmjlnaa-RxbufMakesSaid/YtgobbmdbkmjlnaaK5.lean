/-
  Texts of this claim, pack 5: Crxba, Cqrow, Crxbb, Crxbc, Crxbd, Cmsa.
-/
import Derived.Test.YtgobbmdbkmjlnaaK3
import Derived.Test.YtgobbmdbkmjlnaaK4
/-
  What came in parts: plain contracts of what a buffer does.
-/
namespace Go.Proofs.Ytgobbmdbkmjlnaa
set_option linter.unusedVariables false
set_option linter.unusedSimpArgs false
set_option maxRecDepth 20000
open Go Go.Am

theorem buEmpty (b : List UInt8) (σ : AHeap) : ACalls Try.prog i_rxbuf_right_1 [sl .none b] σ fun v σ' => v = boolv (decide (b = [])) ∧ σ' = σ := by
  refine k_rxbuf_right_1 rfl ?_
  (refine wX ?_)
  refine aret_same ⟨?_, rfl⟩
  rw [List.length_map]
  exact congrArg boolv (dec_congr ⟨fun h => List.length_eq_zero_iff.1 (by omega), fun h => by subst h; rfl⟩)
/-- Is one of them empty? -/
def hollowB (l : List (List UInt8)) : Bool := l.any fun b => decide (b = [])
theorem buIndex (l : List (List UInt8)) (t : Tok) (σ : AHeap) (hl : l.length ≤ 140737488355328) : ACalls Try.prog i_slices_IndexFunc_byte_byte [lists t l, .func i_rxbuf_right_1 [] []] σ fun v σ' => (∃ n : Int, v = i64v n ∧ (n ≥ 0 ↔ hollowB l = true)) ∧ σ' = σ := by
  refine k_slices_IndexFunc_byte_byte rfl ?_
  (refine wX ?_)
  refine aloop (α := Nat) (fun i => [(s8, i64v i)]) (fun _ => σ) (fun i => i ≤ l.length ∧ hollowB (l.take i) = false) (fun i => l.length - i) 0 ⟨Nat.zero_le _, rfl⟩ (Sub.refl _) ?_ ?_
  · (refine wX ?_)
    (repeat' first | with_reducible exact EnvLe.refl _ | (refine EnvLe.node ?_ (by first | exact Or.inl rfl | exact Or.inr (Or.inl rfl) | exact Or.inr (Or.inr ⟨nofun, VLe.slice _ _ _⟩)) ?_))
  rintro i ⟨hi, hw⟩
  by_cases h : i < l.length
  · (refine wX ?_)
    (repeat ((first | refine aload (by (repeat (first | with_reducible exact upd_same _ _ _ | assumption | rw [upd_ne _ _ (by first | assumption | (apply Ne.symm; assumption))]))) rfl ?_ | refine afit_i64 (by omega) ?_ | refine arem_nonneg (by omega) (by omega) ?_ | refine adiv_i64 (by omega) (by omega) ?_ | refine abr_yes (by omega) ?_ | refine abr_no (by omega) ?_ | refine amin ?_ | refine amax ?_ | refine afit_u64 (by omega) ?_ | refine afit_u8 (by omega) ?_ | rw [List.length_map]); (refine wX ?_)))
    refine aget (by omega) (get_lists h) ?_
    (refine wX ?_)
    refine acell rfl ?_
    (refine wX ?_)
    refine ⟨rfl, ?_⟩
    (refine wX ?_)
    refine acall (buEmpty l[i] _) ?_
    rintro _ σ_ ⟨rfl, e_⟩
    obtain rfl := e_.symm
    (refine wX ?_)
    have e : hollowB (l.take (i + 1)) = decide (l[i] = []) := by unfold hollowB at hw ⊢; rw [List.take_add_one, List.getElem?_eq_getElem h, List.any_append, hw]; simp
    by_cases hc : l[i] = []
    · rw [decide_eq_true hc]
      (refine wX ?_)
      refine aret_same ⟨⟨_, rfl, ⟨fun _ => ?_, fun _ => by omega⟩⟩, rfl⟩
      exact List.any_eq_true.2 ⟨l[i], List.getElem_mem h, decide_eq_true hc⟩
    · rw [decide_eq_false hc] at e ⊢
      (refine wX ?_)
      (repeat ((first | refine aload (by (repeat (first | with_reducible exact upd_same _ _ _ | assumption | rw [upd_ne _ _ (by first | assumption | (apply Ne.symm; assumption))]))) rfl ?_ | refine afit_i64 (by omega) ?_ | refine arem_nonneg (by omega) (by omega) ?_ | refine adiv_i64 (by omega) (by omega) ?_ | refine abr_yes (by omega) ?_ | refine abr_no (by omega) ?_ | refine amin ?_ | refine amax ?_ | refine afit_u64 (by omega) ?_ | refine afit_u8 (by omega) ?_ | rw [List.length_map]); (refine wX ?_)))
      refine ⟨i + 1, ⟨by omega, e⟩, by omega, Sub.refl _, ?_⟩
      (refine wX ?_)
      (repeat' first | with_reducible exact EnvLe.refl _ | (refine EnvLe.node ?_ (by first | exact Or.inl rfl | exact Or.inr (Or.inl rfl) | exact Or.inr (Or.inr ⟨nofun, VLe.slice _ _ _⟩)) ?_))
  · rw [List.take_of_length_le (by omega)] at hw
    (refine wX ?_)
    (repeat ((first | refine aload (by (repeat (first | with_reducible exact upd_same _ _ _ | assumption | rw [upd_ne _ _ (by first | assumption | (apply Ne.symm; assumption))]))) rfl ?_ | refine afit_i64 (by omega) ?_ | refine arem_nonneg (by omega) (by omega) ?_ | refine adiv_i64 (by omega) (by omega) ?_ | refine abr_yes (by omega) ?_ | refine abr_no (by omega) ?_ | refine amin ?_ | refine amax ?_ | refine afit_u64 (by omega) ?_ | refine afit_u8 (by omega) ?_ | rw [List.length_map]); (refine wX ?_)))
    exact aret_same ⟨⟨-1, rfl, ⟨fun h => by omega, fun h => by rw [hw] at h; cases h⟩⟩, rfl⟩
theorem buContains (l : List (List UInt8)) (t : Tok) (σ : AHeap) (hl : l.length ≤ 140737488355328) : ACalls Try.prog i_slices_ContainsFunc_byte_byte [lists t l, .func i_rxbuf_right_1 [] []] σ fun v σ' => v = boolv (hollowB l) ∧ σ' = σ := by
  refine k_slices_ContainsFunc_byte_byte rfl ?_
  (refine wX ?_)
  refine acall (buIndex l t _ hl) ?_
  rintro _ σ_ ⟨⟨n, rfl, hn⟩, e_⟩
  obtain rfl := e_.symm
  refine ⟨?_, Ext.refl _⟩
  (refine wX ?_)
  have e : hollowB l = decide (0 ≤ n) := by
    cases hh : hollowB l with
    | true => exact (decide_eq_true (hn.2 hh)).symm
    | false => exact (decide_eq_false (fun k => by rw [hn.1 k] at hh; cases hh)).symm
  rw [e]
  exact aret_same ⟨congrArg boolv (dec_congr Iff.rfl), rfl⟩

theorem gapsL_len {to : Int} : ∀ {l : List Sp} {k : Int}, (gapsL to k l).length ≤ l.length + 1
  | [], k => by unfold gapsL; split <;> simp
  | y :: l, k => by
    unfold gapsL
    rw [List.length_append, List.length_cons]
    have := gapsL_len (to := to) (l := l) (k := y.2)
    split <;> simp <;> omega
def gapsV (to : Int) (l : List Sp) : List Sp := if 1 ≤ to ∧ to ≤ 65536 then gapsL to 0 l else []
set_option maxRecDepth 20000 in
theorem sGaps {σ : AHeap} {is : Nat} {l : List Sp} {tk : Tok} (b1 : σ is = some (.cells [spL tk l])) (k : SOk l) (to : Int) : ACalls Try.prog i_spans_Set_Gaps [.ptr is 0, i64v to] σ fun v σ' => ∃ u, Owned σ σ' u ∧ v = spL u (gapsV to l) := by
  refine k_spans_Set_Gaps rfl ?_
  have H := Hp.nil σ
  (refine wX ?_)
  unfold gapsV
  by_cases h1 : to < 1
  · rw [if_neg (by omega)]
    (repeat ((first | refine zI (by omega) ?_ | refine zE (by omega) (by omega) ?_ | refine zD (by omega) (by omega) ?_ | refine zY (by omega) ?_ | refine zN (by omega) ?_ | refine amin ?_ | refine amax ?_ | refine zU (by omega) ?_ | refine z8 (by omega) ?_ | refine zX (by omega) (by omega) ?_ | refine zR rfl ?_ | refine acellA ?_ | refine zB H b1 rfl ?_ | refine zC H b1 ?_ | (apply zL H; (· repeat first | exact .h | apply AtK.t); (· rfl)) | (apply zA H; (· repeat first | exact .h | apply AtK.t)) | (apply zS H; (· repeat first | exact .h | apply AtK.t); (· rfl); (conv => whnf); clear H; intro τ H) | rw [List.length_map]); (refine wX ?_)))
    exact aret_same ⟨_, .full σ, rfl⟩
  by_cases h2 : to > 65536
  · rw [if_neg (by omega)]
    (repeat ((first | refine zI (by omega) ?_ | refine zE (by omega) (by omega) ?_ | refine zD (by omega) (by omega) ?_ | refine zY (by omega) ?_ | refine zN (by omega) ?_ | refine amin ?_ | refine amax ?_ | refine zU (by omega) ?_ | refine z8 (by omega) ?_ | refine zX (by omega) (by omega) ?_ | refine zR rfl ?_ | refine acellA ?_ | refine zB H b1 rfl ?_ | refine zC H b1 ?_ | (apply zL H; (· repeat first | exact .h | apply AtK.t); (· rfl)) | (apply zA H; (· repeat first | exact .h | apply AtK.t)) | (apply zS H; (· repeat first | exact .h | apply AtK.t); (· rfl); (conv => whnf); clear H; intro τ H) | rw [List.length_map]); (refine wX ?_)))
    exact aret_same ⟨_, .full σ, rfl⟩
  rw [if_pos (by omega)]
  (repeat ((first | refine zI (by omega) ?_ | refine zE (by omega) (by omega) ?_ | refine zD (by omega) (by omega) ?_ | refine zY (by omega) ?_ | refine zN (by omega) ?_ | refine amin ?_ | refine amax ?_ | refine zU (by omega) ?_ | refine z8 (by omega) ?_ | refine zX (by omega) (by omega) ?_ | refine zR rfl ?_ | refine acellA ?_ | refine zB H b1 rfl ?_ | refine zC H b1 ?_ | (apply zL H; (· repeat first | exact .h | apply AtK.t); (· rfl)) | (apply zA H; (· repeat first | exact .h | apply AtK.t)) | (apply zS H; (· repeat first | exact .h | apply AtK.t); (· rfl); (conv => whnf); clear H; intro τ H) | rw [List.length_map]); (refine wX ?_)))
  refine aloop (α := Nat × Int × List Sp × Tok × AHeap) (fun y => [(s24, i64v y.1), (s6, i64v y.2.1), (s5, spL y.2.2.2.1 y.2.2.1)]) (fun y => y.2.2.2.2) (fun y => y.1 ≤ l.length ∧ y.2.2.1.length ≤ y.1 ∧ y.2.2.1 ++ gapsL to y.2.1 (l.drop y.1) = gapsL to 0 l ∧ Hp σ [.t y.2.2.2.1] y.2.2.2.2) (fun y => l.length - y.1)
    (0, 0, [], .full, σ) ⟨Nat.zero_le _, Nat.zero_le _, rfl, H.cons_full⟩ (Sub.refl _) ?_ ?_
  · (refine wX ?_)
    (repeat' first | with_reducible exact EnvLe.refl _ | (refine EnvLe.node ?_ (by first | exact Or.inl rfl | exact Or.inr (Or.inl rfl) | exact Or.inr (Or.inr ⟨nofun, VLe.slice _ _ _⟩)) ?_))
  clear H
  rintro ⟨i, at_, out, tk1, τ⟩ ⟨hi, ho, he, H⟩
  dsimp only at hi ho he H ⊢
  have := k.k
  (refine wX ?_)
  by_cases h : i < l.length
  · rw [List.drop_eq_getElem_cons h, show gapsL to at_ (l[i] :: l.drop (i + 1)) = (if l[i].1 > at_ ∧ at_ < to then [(at_, min l[i].1 to)] else []) ++ gapsL to l[i].2 (l.drop (i + 1)) from rfl] at he
    (repeat ((first | refine zI (by omega) ?_ | refine zE (by omega) (by omega) ?_ | refine zD (by omega) (by omega) ?_ | refine zY (by omega) ?_ | refine zN (by omega) ?_ | refine amin ?_ | refine amax ?_ | refine zU (by omega) ?_ | refine z8 (by omega) ?_ | refine zX (by omega) (by omega) ?_ | refine zR rfl ?_ | refine acellA ?_ | refine zB H b1 rfl ?_ | refine zC H b1 ?_ | (apply zL H; (· repeat first | exact .h | apply AtK.t); (· rfl)) | (apply zA H; (· repeat first | exact .h | apply AtK.t)) | (apply zS H; (· repeat first | exact .h | apply AtK.t); (· rfl); (conv => whnf); clear H; intro τ H) | rw [List.length_map]); (refine wX ?_)))
    refine aget (by omega) (get_sp h) ?_
    generalize l[i] = y at *
    obtain ⟨ya, yb⟩ := y
    (refine wX ?_)
    (repeat ((first | refine zI (by omega) ?_ | refine zE (by omega) (by omega) ?_ | refine zD (by omega) (by omega) ?_ | refine zY (by omega) ?_ | refine zN (by omega) ?_ | refine amin ?_ | refine amax ?_ | refine zU (by omega) ?_ | refine z8 (by omega) ?_ | refine zX (by omega) (by omega) ?_ | refine zR rfl ?_ | refine acellA ?_ | refine zB H b1 rfl ?_ | refine zC H b1 ?_ | (apply zL H; (· repeat first | exact .h | apply AtK.t); (· rfl)) | (apply zA H; (· repeat first | exact .h | apply AtK.t)) | (apply zS H; (· repeat first | exact .h | apply AtK.t); (· rfl); (conv => whnf); clear H; intro τ H) | rw [List.length_map]); (refine wX ?_)))
    refine hnew H rfl ?_
    clear H
    intro iy τ H
    (refine wX ?_)
    (repeat ((first | refine zI (by omega) ?_ | refine zE (by omega) (by omega) ?_ | refine zD (by omega) (by omega) ?_ | refine zY (by omega) ?_ | refine zN (by omega) ?_ | refine amin ?_ | refine amax ?_ | refine zU (by omega) ?_ | refine z8 (by omega) ?_ | refine zX (by omega) (by omega) ?_ | refine zR rfl ?_ | refine acellA ?_ | refine zB H b1 rfl ?_ | refine zC H b1 ?_ | (apply zL H; (· repeat first | exact .h | apply AtK.t); (· rfl)) | (apply zA H; (· repeat first | exact .h | apply AtK.t)) | (apply zS H; (· repeat first | exact .h | apply AtK.t); (· rfl); (conv => whnf); clear H; intro τ H) | rw [List.length_map]); (refine wX ?_)))
    dsimp only at he
    by_cases c1 : ya > at_
    · by_cases c2 : at_ < to
      · rw [if_pos ⟨c1, c2⟩] at he
        (repeat ((first | refine zI (by omega) ?_ | refine zE (by omega) (by omega) ?_ | refine zD (by omega) (by omega) ?_ | refine zY (by omega) ?_ | refine zN (by omega) ?_ | refine amin ?_ | refine amax ?_ | refine zU (by omega) ?_ | refine z8 (by omega) ?_ | refine zX (by omega) (by omega) ?_ | refine zR rfl ?_ | refine acellA ?_ | refine zB H b1 rfl ?_ | refine zC H b1 ?_ | (apply zL H; (· repeat first | exact .h | apply AtK.t); (· rfl)) | (apply zA H; (· repeat first | exact .h | apply AtK.t)) | (apply zS H; (· repeat first | exact .h | apply AtK.t); (· rfl); (conv => whnf); clear H; intro τ H) | rw [List.length_map]); (refine wX ?_)))
        apply zP H
        · (repeat first | exact .h | apply AtK.t)
        · exact (by rw [List.length_map]; show (_ + 1) * 16 ≤ _; omega)
        intro tk2
        (conv => whnf)
        clear H
        intro τ H
        (refine wX ?_)
        rw [show [AVal.agg [i64v at_, i64v (min ya to)]] = [spV (at_, min ya to)] from rfl, sp_snoc]
        (repeat ((first | refine zI (by omega) ?_ | refine zE (by omega) (by omega) ?_ | refine zD (by omega) (by omega) ?_ | refine zY (by omega) ?_ | refine zN (by omega) ?_ | refine amin ?_ | refine amax ?_ | refine zU (by omega) ?_ | refine z8 (by omega) ?_ | refine zX (by omega) (by omega) ?_ | refine zR rfl ?_ | refine acellA ?_ | refine zB H b1 rfl ?_ | refine zC H b1 ?_ | (apply zL H; (· repeat first | exact .h | apply AtK.t); (· rfl)) | (apply zA H; (· repeat first | exact .h | apply AtK.t)) | (apply zS H; (· repeat first | exact .h | apply AtK.t); (· rfl); (conv => whnf); clear H; intro τ H) | rw [List.length_map]); (refine wX ?_)))
        refine ⟨(i + 1, yb, out ++ [(at_, min ya to)], tk2, τ), ⟨h, by dsimp only; rw [List.length_append, List.length_singleton]; omega, by dsimp only; rw [← he, List.append_assoc], H.tail⟩, by dsimp only; omega, Sub.refl _, ?_⟩
        (refine wX ?_)
        (repeat' first | with_reducible exact EnvLe.refl _ | (refine EnvLe.node ?_ (by first | exact Or.inl rfl | exact Or.inr (Or.inl rfl) | exact Or.inr (Or.inr ⟨nofun, VLe.slice _ _ _⟩)) ?_))
      · rw [if_neg (fun h => c2 h.2)] at he
        (repeat ((first | refine zI (by omega) ?_ | refine zE (by omega) (by omega) ?_ | refine zD (by omega) (by omega) ?_ | refine zY (by omega) ?_ | refine zN (by omega) ?_ | refine amin ?_ | refine amax ?_ | refine zU (by omega) ?_ | refine z8 (by omega) ?_ | refine zX (by omega) (by omega) ?_ | refine zR rfl ?_ | refine acellA ?_ | refine zB H b1 rfl ?_ | refine zC H b1 ?_ | (apply zL H; (· repeat first | exact .h | apply AtK.t); (· rfl)) | (apply zA H; (· repeat first | exact .h | apply AtK.t)) | (apply zS H; (· repeat first | exact .h | apply AtK.t); (· rfl); (conv => whnf); clear H; intro τ H) | rw [List.length_map]); (refine wX ?_)))
        refine ⟨(i + 1, yb, out, tk1, τ), ⟨h, by dsimp only; omega, he, H.tail⟩, by dsimp only; omega, Sub.refl _, ?_⟩
        (refine wX ?_)
        (repeat' first | with_reducible exact EnvLe.refl _ | (refine EnvLe.node ?_ (by first | exact Or.inl rfl | exact Or.inr (Or.inl rfl) | exact Or.inr (Or.inr ⟨nofun, VLe.slice _ _ _⟩)) ?_))
    · rw [if_neg (fun h => c1 h.1)] at he
      (repeat ((first | refine zI (by omega) ?_ | refine zE (by omega) (by omega) ?_ | refine zD (by omega) (by omega) ?_ | refine zY (by omega) ?_ | refine zN (by omega) ?_ | refine amin ?_ | refine amax ?_ | refine zU (by omega) ?_ | refine z8 (by omega) ?_ | refine zX (by omega) (by omega) ?_ | refine zR rfl ?_ | refine acellA ?_ | refine zB H b1 rfl ?_ | refine zC H b1 ?_ | (apply zL H; (· repeat first | exact .h | apply AtK.t); (· rfl)) | (apply zA H; (· repeat first | exact .h | apply AtK.t)) | (apply zS H; (· repeat first | exact .h | apply AtK.t); (· rfl); (conv => whnf); clear H; intro τ H) | rw [List.length_map]); (refine wX ?_)))
      refine ⟨(i + 1, yb, out, tk1, τ), ⟨h, by dsimp only; omega, he, H.tail⟩, by dsimp only; omega, Sub.refl _, ?_⟩
      (refine wX ?_)
      (repeat' first | with_reducible exact EnvLe.refl _ | (refine EnvLe.node ?_ (by first | exact Or.inl rfl | exact Or.inr (Or.inl rfl) | exact Or.inr (Or.inr ⟨nofun, VLe.slice _ _ _⟩)) ?_))
  · rw [List.drop_eq_nil_of_le (by omega), show gapsL to at_ [] = if at_ < to then [(at_, to)] else [] from rfl] at he
    (repeat ((first | refine zI (by omega) ?_ | refine zE (by omega) (by omega) ?_ | refine zD (by omega) (by omega) ?_ | refine zY (by omega) ?_ | refine zN (by omega) ?_ | refine amin ?_ | refine amax ?_ | refine zU (by omega) ?_ | refine z8 (by omega) ?_ | refine zX (by omega) (by omega) ?_ | refine zR rfl ?_ | refine acellA ?_ | refine zB H b1 rfl ?_ | refine zC H b1 ?_ | (apply zL H; (· repeat first | exact .h | apply AtK.t); (· rfl)) | (apply zA H; (· repeat first | exact .h | apply AtK.t)) | (apply zS H; (· repeat first | exact .h | apply AtK.t); (· rfl); (conv => whnf); clear H; intro τ H) | rw [List.length_map]); (refine wX ?_)))
    rw [← he]
    by_cases c : at_ < to
    · rw [if_pos c]
      (repeat ((first | refine zI (by omega) ?_ | refine zE (by omega) (by omega) ?_ | refine zD (by omega) (by omega) ?_ | refine zY (by omega) ?_ | refine zN (by omega) ?_ | refine amin ?_ | refine amax ?_ | refine zU (by omega) ?_ | refine z8 (by omega) ?_ | refine zX (by omega) (by omega) ?_ | refine zR rfl ?_ | refine acellA ?_ | refine zB H b1 rfl ?_ | refine zC H b1 ?_ | (apply zL H; (· repeat first | exact .h | apply AtK.t); (· rfl)) | (apply zA H; (· repeat first | exact .h | apply AtK.t)) | (apply zS H; (· repeat first | exact .h | apply AtK.t); (· rfl); (conv => whnf); clear H; intro τ H) | rw [List.length_map]); (refine wX ?_)))
      apply zP H
      · (repeat first | exact .h | apply AtK.t)
      · exact (by rw [List.length_map]; show (_ + 1) * 16 ≤ _; omega)
      intro tk2
      (conv => whnf)
      clear H
      intro τ H
      (refine wX ?_)
      rw [show [AVal.agg [i64v at_, i64v to]] = [spV (at_, to)] from rfl, sp_snoc]
      (refine wX ?_)
      (repeat ((first | refine zI (by omega) ?_ | refine zE (by omega) (by omega) ?_ | refine zD (by omega) (by omega) ?_ | refine zY (by omega) ?_ | refine zN (by omega) ?_ | refine amin ?_ | refine amax ?_ | refine zU (by omega) ?_ | refine z8 (by omega) ?_ | refine zX (by omega) (by omega) ?_ | refine zR rfl ?_ | refine acellA ?_ | refine zB H b1 rfl ?_ | refine zC H b1 ?_ | (apply zL H; (· repeat first | exact .h | apply AtK.t); (· rfl)) | (apply zA H; (· repeat first | exact .h | apply AtK.t)) | (apply zS H; (· repeat first | exact .h | apply AtK.t); (· rfl); (conv => whnf); clear H; intro τ H) | rw [List.length_map]); (refine wX ?_)))
      obtain ⟨σ2, q1, q2⟩ := H.toOwned
      exact aret (VLe.refl _) q2 ⟨tk2, q1, rfl⟩
    · rw [if_neg c, List.append_nil]
      (repeat ((first | refine zI (by omega) ?_ | refine zE (by omega) (by omega) ?_ | refine zD (by omega) (by omega) ?_ | refine zY (by omega) ?_ | refine zN (by omega) ?_ | refine amin ?_ | refine amax ?_ | refine zU (by omega) ?_ | refine z8 (by omega) ?_ | refine zX (by omega) (by omega) ?_ | refine zR rfl ?_ | refine acellA ?_ | refine zB H b1 rfl ?_ | refine zC H b1 ?_ | (apply zL H; (· repeat first | exact .h | apply AtK.t); (· rfl)) | (apply zA H; (· repeat first | exact .h | apply AtK.t)) | (apply zS H; (· repeat first | exact .h | apply AtK.t); (· rfl); (conv => whnf); clear H; intro τ H) | rw [List.length_map]); (refine wX ?_)))
      obtain ⟨σ2, q1, q2⟩ := H.toOwned
      exact aret (VLe.refl _) q2 ⟨tk1, q1, rfl⟩

/-- A piece's cells: its bytes, what is there, its end (-1: unknown), where fields begin, its FI. -/
abbrev peC (v : AVal) (is : Nat) (e : Int) (ig : Nat) (fi : Int) : List AVal := [v, .ptr is 0, i64v e, .map ig, i64v fi]
abbrev buC (im : Nat) : List AVal := [.map im]
def topL (l : List Sp) : Int := match l.getLast? with
  | none => 0
  | some y => y.2
def wholeV (l : List Sp) (e : Int) : Bool := decide (e > 0) && hasS (0, e) l
def fitsC (l : List Sp) (e : Int) (y : Sp) (ends : Bool) : Int :=
  if (e ≠ -1 ∧ (y.2 > e ∨ (ends = true ∧ y.2 ≠ e))) ∨ (ends = true ∧ topL l > y.2) then 3 else if hasS y l = true then 12 else 0
def missL (l : List Sp) (e : Int) : List Sp := if e ≠ -1 then gapsV e l else gapsV (topL l) l ++ [(topL l, 0)]
def rightB (p : Pk) : Bool := !(decide (p.fs.length < 1) || decide (p.fs.length > 24) || hollowB p.fs || decide (p.fi < 0) || decide (p.fi > 3)) && (decide (0 ≤ p.off) && decide (p.off ≤ 4000) && (p.part || decide (p.off = 0)) && decide ((total p.fs : Int) ≤ 4000 - p.off))

section
variable {σ : AHeap} {ib im ip is ig : Nat} {e fi : Int} {es : List (Int × AVal)} {l : List Sp} {tk : Tok} {v : AVal}
theorem buMade (b1 : σ ib = some (.cells (buC im))) : ACalls Try.prog i_rxbuf_Buffer_made [.ptr ib 0] σ fun v σ' => v = boolv true ∧ σ' = σ := by
  refine k_rxbuf_Buffer_made rfl ?_
  have H := Hp.nil σ
  (refine wX ?_)
  (repeat ((first | refine zI (by omega) ?_ | refine zE (by omega) (by omega) ?_ | refine zD (by omega) (by omega) ?_ | refine zY (by omega) ?_ | refine zN (by omega) ?_ | refine amin ?_ | refine amax ?_ | refine zU (by omega) ?_ | refine z8 (by omega) ?_ | refine zX (by omega) (by omega) ?_ | refine zR rfl ?_ | refine acellA ?_ | refine zB H b1 rfl ?_ | refine zC H b1 ?_ | (apply zL H; (· repeat first | exact .h | apply AtK.t); (· rfl)) | (apply zA H; (· repeat first | exact .h | apply AtK.t)) | (apply zS H; (· repeat first | exact .h | apply AtK.t); (· rfl); (conv => whnf); clear H; intro τ H) | rw [List.length_map]); (refine wX ?_)))
  exact aret (VLe.refl _) H.sub ⟨rfl, rfl⟩
theorem buFind (b1 : σ ib = some (.cells (buC im))) (b2 : σ im = some (.map es)) (sn : Int) (he : es.find? (fun e => e.1 == sn) = some (sn, .ptr ip 0)) :
    ACalls Try.prog i_rxbuf_Buffer_find [.ptr ib 0, i64v sn] σ fun v σ' => v = .tup [.ptr ip 0, i64v 0] ∧ σ' = σ := by
  refine k_rxbuf_Buffer_find rfl ?_
  have H := Hp.nil σ
  (refine wX ?_)
  refine acall (buMade b1) ?_
  rintro _ σ_ ⟨rfl, e_⟩
  obtain rfl := e_.symm
  refine ⟨?_, Ext.refl _⟩
  (refine wX ?_)
  (repeat ((first | refine zI (by omega) ?_ | refine zE (by omega) (by omega) ?_ | refine zD (by omega) (by omega) ?_ | refine zY (by omega) ?_ | refine zN (by omega) ?_ | refine amin ?_ | refine amax ?_ | refine zU (by omega) ?_ | refine z8 (by omega) ?_ | refine zX (by omega) (by omega) ?_ | refine zR rfl ?_ | refine acellA ?_ | refine zB H b1 rfl ?_ | refine zC H b1 ?_ | refine zB H b2 rfl ?_ | refine zC H b2 ?_ | (apply zL H; (· repeat first | exact .h | apply AtK.t); (· rfl)) | (apply zA H; (· repeat first | exact .h | apply AtK.t)) | (apply zS H; (· repeat first | exact .h | apply AtK.t); (· rfl); (conv => whnf); clear H; intro τ H) | rw [List.length_map]); (refine wX ?_)))
  refine hlookB H b2 ?_
  rw [he]
  (refine wX ?_)
  (repeat ((first | refine zI (by omega) ?_ | refine zE (by omega) (by omega) ?_ | refine zD (by omega) (by omega) ?_ | refine zY (by omega) ?_ | refine zN (by omega) ?_ | refine amin ?_ | refine amax ?_ | refine zU (by omega) ?_ | refine z8 (by omega) ?_ | refine zX (by omega) (by omega) ?_ | refine zR rfl ?_ | refine acellA ?_ | refine zB H b1 rfl ?_ | refine zC H b1 ?_ | refine zB H b2 rfl ?_ | refine zC H b2 ?_ | (apply zL H; (· repeat first | exact .h | apply AtK.t); (· rfl)) | (apply zA H; (· repeat first | exact .h | apply AtK.t)) | (apply zS H; (· repeat first | exact .h | apply AtK.t); (· rfl); (conv => whnf); clear H; intro τ H) | rw [List.length_map]); (refine wX ?_)))
  exact aret (VLe.refl _) H.sub ⟨rfl, rfl⟩
theorem buNone (b1 : σ ib = some (.cells (buC im))) (b2 : σ im = some (.map es)) (sn : Int) (he : es.find? (fun e => e.1 == sn) = none) :
    ACalls Try.prog i_rxbuf_Buffer_find [.ptr ib 0, i64v sn] σ fun v σ' => v = .tup [.v (.pointer none), i64v 4] ∧ σ' = σ := by
  refine k_rxbuf_Buffer_find rfl ?_
  have H := Hp.nil σ
  (refine wX ?_)
  refine acall (buMade b1) ?_
  rintro _ σ_ ⟨rfl, e_⟩
  obtain rfl := e_.symm
  refine ⟨?_, Ext.refl _⟩
  (refine wX ?_)
  (repeat ((first | refine zI (by omega) ?_ | refine zE (by omega) (by omega) ?_ | refine zD (by omega) (by omega) ?_ | refine zY (by omega) ?_ | refine zN (by omega) ?_ | refine amin ?_ | refine amax ?_ | refine zU (by omega) ?_ | refine z8 (by omega) ?_ | refine zX (by omega) (by omega) ?_ | refine zR rfl ?_ | refine acellA ?_ | refine zB H b1 rfl ?_ | refine zC H b1 ?_ | refine zB H b2 rfl ?_ | refine zC H b2 ?_ | (apply zL H; (· repeat first | exact .h | apply AtK.t); (· rfl)) | (apply zA H; (· repeat first | exact .h | apply AtK.t)) | (apply zS H; (· repeat first | exact .h | apply AtK.t); (· rfl); (conv => whnf); clear H; intro τ H) | rw [List.length_map]); (refine wX ?_)))
  refine hlookB H b2 ?_
  rw [he]
  (refine wX ?_)
  (repeat ((first | refine zI (by omega) ?_ | refine zE (by omega) (by omega) ?_ | refine zD (by omega) (by omega) ?_ | refine zY (by omega) ?_ | refine zN (by omega) ?_ | refine amin ?_ | refine amax ?_ | refine zU (by omega) ?_ | refine z8 (by omega) ?_ | refine zX (by omega) (by omega) ?_ | refine zR rfl ?_ | refine acellA ?_ | refine zB H b1 rfl ?_ | refine zC H b1 ?_ | refine zB H b2 rfl ?_ | refine zC H b2 ?_ | (apply zL H; (· repeat first | exact .h | apply AtK.t); (· rfl)) | (apply zA H; (· repeat first | exact .h | apply AtK.t)) | (apply zS H; (· repeat first | exact .h | apply AtK.t); (· rfl); (conv => whnf); clear H; intro τ H) | rw [List.length_map]); (refine wX ?_)))
  exact aret (VLe.refl _) H.sub ⟨rfl, rfl⟩
theorem peWhole (b1 : σ ip = some (.cells (peC v is e ig fi))) (b2 : σ is = some (.cells [spL tk l])) (hl : l.length ≤ 1000000) : ACalls Try.prog i_rxbuf_piece_whole [.ptr ip 0] σ fun v σ' => v = boolv (wholeV l e) ∧ σ' = σ := by
  refine k_rxbuf_piece_whole rfl ?_
  have H := Hp.nil σ
  (refine wX ?_)
  (repeat ((first | refine zI (by omega) ?_ | refine zE (by omega) (by omega) ?_ | refine zD (by omega) (by omega) ?_ | refine zY (by omega) ?_ | refine zN (by omega) ?_ | refine amin ?_ | refine amax ?_ | refine zU (by omega) ?_ | refine z8 (by omega) ?_ | refine zX (by omega) (by omega) ?_ | refine zR rfl ?_ | refine acellA ?_ | refine zB H b1 rfl ?_ | refine zC H b1 ?_ | refine zB H b2 rfl ?_ | refine zC H b2 ?_ | (apply zL H; (· repeat first | exact .h | apply AtK.t); (· rfl)) | (apply zA H; (· repeat first | exact .h | apply AtK.t)) | (apply zS H; (· repeat first | exact .h | apply AtK.t); (· rfl); (conv => whnf); clear H; intro τ H) | rw [List.length_map]); (refine wX ?_)))
  unfold wholeV
  by_cases h : e > 0
  · rw [decide_eq_true h]
    (repeat ((first | refine zI (by omega) ?_ | refine zE (by omega) (by omega) ?_ | refine zD (by omega) (by omega) ?_ | refine zY (by omega) ?_ | refine zN (by omega) ?_ | refine amin ?_ | refine amax ?_ | refine zU (by omega) ?_ | refine z8 (by omega) ?_ | refine zX (by omega) (by omega) ?_ | refine zR rfl ?_ | refine acellA ?_ | refine zB H b1 rfl ?_ | refine zC H b1 ?_ | refine zB H b2 rfl ?_ | refine zC H b2 ?_ | (apply zL H; (· repeat first | exact .h | apply AtK.t); (· rfl)) | (apply zA H; (· repeat first | exact .h | apply AtK.t)) | (apply zS H; (· repeat first | exact .h | apply AtK.t); (· rfl); (conv => whnf); clear H; intro τ H) | rw [List.length_map]); (refine wX ?_)))
    refine acall (sHas (0, e) b2 hl) ?_
    rintro _ σ_ ⟨rfl, e_⟩
    obtain rfl := e_.symm
    refine ⟨?_, Ext.refl _⟩
    (refine wX ?_)
    exact aret (VLe.refl _) H.sub ⟨by rw [Bool.true_and], rfl⟩
  · rw [decide_eq_false h]
    (repeat ((first | refine zI (by omega) ?_ | refine zE (by omega) (by omega) ?_ | refine zD (by omega) (by omega) ?_ | refine zY (by omega) ?_ | refine zN (by omega) ?_ | refine amin ?_ | refine amax ?_ | refine zU (by omega) ?_ | refine z8 (by omega) ?_ | refine zX (by omega) (by omega) ?_ | refine zR rfl ?_ | refine acellA ?_ | refine zB H b1 rfl ?_ | refine zC H b1 ?_ | refine zB H b2 rfl ?_ | refine zC H b2 ?_ | (apply zL H; (· repeat first | exact .h | apply AtK.t); (· rfl)) | (apply zA H; (· repeat first | exact .h | apply AtK.t)) | (apply zS H; (· repeat first | exact .h | apply AtK.t); (· rfl); (conv => whnf); clear H; intro τ H) | rw [List.length_map]); (refine wX ?_)))
    exact aret (VLe.refl _) H.sub ⟨rfl, rfl⟩
theorem peTop (b1 : σ ip = some (.cells (peC v is e ig fi))) (b2 : σ is = some (.cells [spL tk l])) (hl : l.length ≤ 1000000) : ACalls Try.prog i_rxbuf_piece_top [.ptr ip 0] σ fun v σ' => v = i64v (topL l) ∧ σ' = σ := by
  refine k_rxbuf_piece_top rfl ?_
  have H := Hp.nil σ
  (refine wX ?_)
  (repeat ((first | refine zI (by omega) ?_ | refine zE (by omega) (by omega) ?_ | refine zD (by omega) (by omega) ?_ | refine zY (by omega) ?_ | refine zN (by omega) ?_ | refine amin ?_ | refine amax ?_ | refine zU (by omega) ?_ | refine z8 (by omega) ?_ | refine zX (by omega) (by omega) ?_ | refine zR rfl ?_ | refine acellA ?_ | refine zB H b1 rfl ?_ | refine zC H b1 ?_ | refine zB H b2 rfl ?_ | refine zC H b2 ?_ | (apply zL H; (· repeat first | exact .h | apply AtK.t); (· rfl)) | (apply zA H; (· repeat first | exact .h | apply AtK.t)) | (apply zS H; (· repeat first | exact .h | apply AtK.t); (· rfl); (conv => whnf); clear H; intro τ H) | rw [List.length_map]); (refine wX ?_)))
  refine acall_less (sSpans b2 hl) ?_
  rintro _ σ2 ⟨u, hu, rfl⟩
  refine ⟨spL .none l, σ, VLe.slice _ _ _, hu.sub, ?_, Ext.refl _⟩
  (refine wX ?_)
  rw [List.length_map]
  unfold topL
  rcases snoc_cases l with rfl | ⟨r, z, rfl⟩
  · (refine wX ?_)
    (repeat ((first | refine zI (by omega) ?_ | refine zE (by omega) (by omega) ?_ | refine zD (by omega) (by omega) ?_ | refine zY (by omega) ?_ | refine zN (by omega) ?_ | refine amin ?_ | refine amax ?_ | refine zU (by omega) ?_ | refine z8 (by omega) ?_ | refine zX (by omega) (by omega) ?_ | refine zR rfl ?_ | refine acellA ?_ | refine zB H b1 rfl ?_ | refine zC H b1 ?_ | refine zB H b2 rfl ?_ | refine zC H b2 ?_ | (apply zL H; (· repeat first | exact .h | apply AtK.t); (· rfl)) | (apply zA H; (· repeat first | exact .h | apply AtK.t)) | (apply zS H; (· repeat first | exact .h | apply AtK.t); (· rfl); (conv => whnf); clear H; intro τ H) | rw [List.length_map]); (refine wX ?_)))
    exact aret (VLe.refl _) H.sub ⟨rfl, rfl⟩
  · rw [List.getLast?_concat]
    have hl' : (r ++ [z]).length = r.length + 1 := by simp
    have hg : ((r ++ [z]).map spV)[((((r ++ [z]).length : Nat) : Int) - 1).toNat]? = some (spV z) := by
      rw [List.map_append, show ((((r ++ [z]).length : Nat) : Int) - 1).toNat = (r.map spV).length by rw [List.length_map]; omega]; simp
    (repeat ((first | refine zI (by omega) ?_ | refine zE (by omega) (by omega) ?_ | refine zD (by omega) (by omega) ?_ | refine zY (by omega) ?_ | refine zN (by omega) ?_ | refine amin ?_ | refine amax ?_ | refine zU (by omega) ?_ | refine z8 (by omega) ?_ | refine zX (by omega) (by omega) ?_ | refine zR rfl ?_ | refine acellA ?_ | refine zB H b1 rfl ?_ | refine zC H b1 ?_ | refine zB H b2 rfl ?_ | refine zC H b2 ?_ | (apply zL H; (· repeat first | exact .h | apply AtK.t); (· rfl)) | (apply zA H; (· repeat first | exact .h | apply AtK.t)) | (apply zS H; (· repeat first | exact .h | apply AtK.t); (· rfl); (conv => whnf); clear H; intro τ H) | rw [List.length_map]); (refine wX ?_)))
    refine aget (by omega) hg ?_
    (refine wX ?_)
    (repeat ((first | refine zI (by omega) ?_ | refine zE (by omega) (by omega) ?_ | refine zD (by omega) (by omega) ?_ | refine zY (by omega) ?_ | refine zN (by omega) ?_ | refine amin ?_ | refine amax ?_ | refine zU (by omega) ?_ | refine z8 (by omega) ?_ | refine zX (by omega) (by omega) ?_ | refine zR rfl ?_ | refine acellA ?_ | refine zB H b1 rfl ?_ | refine zC H b1 ?_ | refine zB H b2 rfl ?_ | refine zC H b2 ?_ | (apply zL H; (· repeat first | exact .h | apply AtK.t); (· rfl)) | (apply zA H; (· repeat first | exact .h | apply AtK.t)) | (apply zS H; (· repeat first | exact .h | apply AtK.t); (· rfl); (conv => whnf); clear H; intro τ H) | rw [List.length_map]); (refine wX ?_)))
    exact aret (VLe.refl _) H.sub ⟨rfl, rfl⟩
theorem buWhole (b1 : σ ib = some (.cells (buC im))) (b2 : σ im = some (.map es)) (sn : Int) (he : es.find? (fun e => e.1 == sn) = some (sn, .ptr ip 0)) (b3 : σ ip = some (.cells (peC v is e ig fi))) (b4 : σ is = some (.cells [spL tk l])) (hl : l.length ≤ 1000000) :
    ACalls Try.prog i_rxbuf_Buffer_Whole [.ptr ib 0, i64v sn] σ fun v σ' => v = boolv (wholeV l e) ∧ σ' = σ := by
  refine k_rxbuf_Buffer_Whole rfl ?_
  have H := Hp.nil σ
  (refine wX ?_)
  refine acall (buFind b1 b2 sn he) ?_
  rintro _ σ_ ⟨rfl, e_⟩
  obtain rfl := e_.symm
  refine ⟨?_, Ext.refl _⟩
  (refine wX ?_)
  (repeat ((first | refine zI (by omega) ?_ | refine zE (by omega) (by omega) ?_ | refine zD (by omega) (by omega) ?_ | refine zY (by omega) ?_ | refine zN (by omega) ?_ | refine amin ?_ | refine amax ?_ | refine zU (by omega) ?_ | refine z8 (by omega) ?_ | refine zX (by omega) (by omega) ?_ | refine zR rfl ?_ | refine acellA ?_ | refine zB H b1 rfl ?_ | refine zC H b1 ?_ | refine zB H b2 rfl ?_ | refine zC H b2 ?_ | refine zB H b3 rfl ?_ | refine zC H b3 ?_ | refine zB H b4 rfl ?_ | refine zC H b4 ?_ | (apply zL H; (· repeat first | exact .h | apply AtK.t); (· rfl)) | (apply zA H; (· repeat first | exact .h | apply AtK.t)) | (apply zS H; (· repeat first | exact .h | apply AtK.t); (· rfl); (conv => whnf); clear H; intro τ H) | rw [List.length_map]); (refine wX ?_)))
  refine acall (peWhole b3 b4 hl) ?_
  rintro _ σ_ ⟨rfl, e_⟩
  obtain rfl := e_.symm
  refine ⟨?_, Ext.refl _⟩
  (refine wX ?_)
  exact aret (VLe.refl _) H.sub ⟨rfl, rfl⟩
theorem buWholeNone (b1 : σ ib = some (.cells (buC im))) (b2 : σ im = some (.map es)) (sn : Int) (he : es.find? (fun e => e.1 == sn) = none) :
    ACalls Try.prog i_rxbuf_Buffer_Whole [.ptr ib 0, i64v sn] σ fun v σ' => v = boolv false ∧ σ' = σ := by
  refine k_rxbuf_Buffer_Whole rfl ?_
  have H := Hp.nil σ
  (refine wX ?_)
  refine acall (buNone b1 b2 sn he) ?_
  rintro _ σ_ ⟨rfl, e_⟩
  obtain rfl := e_.symm
  refine ⟨?_, Ext.refl _⟩
  (refine wX ?_)
  (repeat ((first | refine zI (by omega) ?_ | refine zE (by omega) (by omega) ?_ | refine zD (by omega) (by omega) ?_ | refine zY (by omega) ?_ | refine zN (by omega) ?_ | refine amin ?_ | refine amax ?_ | refine zU (by omega) ?_ | refine z8 (by omega) ?_ | refine zX (by omega) (by omega) ?_ | refine zR rfl ?_ | refine acellA ?_ | refine zB H b1 rfl ?_ | refine zC H b1 ?_ | refine zB H b2 rfl ?_ | refine zC H b2 ?_ | (apply zL H; (· repeat first | exact .h | apply AtK.t); (· rfl)) | (apply zA H; (· repeat first | exact .h | apply AtK.t)) | (apply zS H; (· repeat first | exact .h | apply AtK.t); (· rfl); (conv => whnf); clear H; intro τ H) | rw [List.length_map]); (refine wX ?_)))
  exact aret (VLe.refl _) H.sub ⟨rfl, rfl⟩
set_option maxRecDepth 20000 in
theorem peFits (b1 : σ ip = some (.cells (peC v is e ig fi))) (b2 : σ is = some (.cells [spL tk l])) (hl : l.length ≤ 1000000) (y : Sp) (ends : Bool) : ACalls Try.prog i_rxbuf_piece_fits [.ptr ip 0, spV y, boolv ends] σ fun v σ' => v = i64v (fitsC l e y ends) ∧ σ' = σ := by
  obtain ⟨ya, yb⟩ := y
  refine k_rxbuf_piece_fits rfl ?_
  have H := Hp.nil σ
  (refine wX ?_)
  refine hnew H rfl ?_
  clear H
  intro i4 τ H
  (refine wX ?_)
  replace H : Hp σ [.o i4 (.cells [i64v ya, i64v yb])] τ := H
  (repeat ((first | refine zI (by omega) ?_ | refine zE (by omega) (by omega) ?_ | refine zD (by omega) (by omega) ?_ | refine zY (by omega) ?_ | refine zN (by omega) ?_ | refine amin ?_ | refine amax ?_ | refine zU (by omega) ?_ | refine z8 (by omega) ?_ | refine zX (by omega) (by omega) ?_ | refine zR rfl ?_ | refine acellA ?_ | refine zB H b1 rfl ?_ | refine zC H b1 ?_ | refine zB H b2 rfl ?_ | refine zC H b2 ?_ | (apply zL H; (· repeat first | exact .h | apply AtK.t); (· rfl)) | (apply zA H; (· repeat first | exact .h | apply AtK.t)) | (apply zS H; (· repeat first | exact .h | apply AtK.t); (· rfl); (conv => whnf); clear H; intro τ H) | rw [List.length_map]); (refine wX ?_)))
  unfold fitsC
  dsimp only
  by_cases h1 : e = -1
  · (repeat ((first | refine zI (by omega) ?_ | refine zE (by omega) (by omega) ?_ | refine zD (by omega) (by omega) ?_ | refine zY (by omega) ?_ | refine zN (by omega) ?_ | refine amin ?_ | refine amax ?_ | refine zU (by omega) ?_ | refine z8 (by omega) ?_ | refine zX (by omega) (by omega) ?_ | refine zR rfl ?_ | refine acellA ?_ | refine zB H b1 rfl ?_ | refine zC H b1 ?_ | refine zB H b2 rfl ?_ | refine zC H b2 ?_ | (apply zL H; (· repeat first | exact .h | apply AtK.t); (· rfl)) | (apply zA H; (· repeat first | exact .h | apply AtK.t)) | (apply zS H; (· repeat first | exact .h | apply AtK.t); (· rfl); (conv => whnf); clear H; intro τ H) | rw [List.length_map]); (refine wX ?_)))
    cases ends
    · rw [if_neg (by simp; omega)]
      (refine wX ?_)
      (repeat ((first | refine zI (by omega) ?_ | refine zE (by omega) (by omega) ?_ | refine zD (by omega) (by omega) ?_ | refine zY (by omega) ?_ | refine zN (by omega) ?_ | refine amin ?_ | refine amax ?_ | refine zU (by omega) ?_ | refine z8 (by omega) ?_ | refine zX (by omega) (by omega) ?_ | refine zR rfl ?_ | refine acellA ?_ | refine zB H b1 rfl ?_ | refine zC H b1 ?_ | refine zB H b2 rfl ?_ | refine zC H b2 ?_ | (apply zL H; (· repeat first | exact .h | apply AtK.t); (· rfl)) | (apply zA H; (· repeat first | exact .h | apply AtK.t)) | (apply zS H; (· repeat first | exact .h | apply AtK.t); (· rfl); (conv => whnf); clear H; intro τ H) | rw [List.length_map]); (refine wX ?_)))
      refine acall (sHas (ya, yb) (H.sub _ _ b2) hl) ?_
      rintro _ σ_ ⟨rfl, e_⟩
      obtain rfl := e_.symm
      refine ⟨?_, Ext.refl _⟩
      (refine wX ?_)
      cases hasS (ya, yb) l
      · (refine wX ?_)
        (repeat ((first | refine zI (by omega) ?_ | refine zE (by omega) (by omega) ?_ | refine zD (by omega) (by omega) ?_ | refine zY (by omega) ?_ | refine zN (by omega) ?_ | refine amin ?_ | refine amax ?_ | refine zU (by omega) ?_ | refine z8 (by omega) ?_ | refine zX (by omega) (by omega) ?_ | refine zR rfl ?_ | refine acellA ?_ | refine zB H b1 rfl ?_ | refine zC H b1 ?_ | refine zB H b2 rfl ?_ | refine zC H b2 ?_ | (apply zL H; (· repeat first | exact .h | apply AtK.t); (· rfl)) | (apply zA H; (· repeat first | exact .h | apply AtK.t)) | (apply zS H; (· repeat first | exact .h | apply AtK.t); (· rfl); (conv => whnf); clear H; intro τ H) | rw [List.length_map]); (refine wX ?_)))
        exact aret (VLe.refl _) H.sub ⟨rfl, rfl⟩
      · (refine wX ?_)
        (repeat ((first | refine zI (by omega) ?_ | refine zE (by omega) (by omega) ?_ | refine zD (by omega) (by omega) ?_ | refine zY (by omega) ?_ | refine zN (by omega) ?_ | refine amin ?_ | refine amax ?_ | refine zU (by omega) ?_ | refine z8 (by omega) ?_ | refine zX (by omega) (by omega) ?_ | refine zR rfl ?_ | refine acellA ?_ | refine zB H b1 rfl ?_ | refine zC H b1 ?_ | refine zB H b2 rfl ?_ | refine zC H b2 ?_ | (apply zL H; (· repeat first | exact .h | apply AtK.t); (· rfl)) | (apply zA H; (· repeat first | exact .h | apply AtK.t)) | (apply zS H; (· repeat first | exact .h | apply AtK.t); (· rfl); (conv => whnf); clear H; intro τ H) | rw [List.length_map]); (refine wX ?_)))
        exact aret (VLe.refl _) H.sub ⟨rfl, rfl⟩
    · (refine wX ?_)
      (repeat ((first | refine zI (by omega) ?_ | refine zE (by omega) (by omega) ?_ | refine zD (by omega) (by omega) ?_ | refine zY (by omega) ?_ | refine zN (by omega) ?_ | refine amin ?_ | refine amax ?_ | refine zU (by omega) ?_ | refine z8 (by omega) ?_ | refine zX (by omega) (by omega) ?_ | refine zR rfl ?_ | refine acellA ?_ | refine zB H b1 rfl ?_ | refine zC H b1 ?_ | refine zB H b2 rfl ?_ | refine zC H b2 ?_ | (apply zL H; (· repeat first | exact .h | apply AtK.t); (· rfl)) | (apply zA H; (· repeat first | exact .h | apply AtK.t)) | (apply zS H; (· repeat first | exact .h | apply AtK.t); (· rfl); (conv => whnf); clear H; intro τ H) | rw [List.length_map]); (refine wX ?_)))
      (refine wX ?_)
      (repeat ((first | refine zI (by omega) ?_ | refine zE (by omega) (by omega) ?_ | refine zD (by omega) (by omega) ?_ | refine zY (by omega) ?_ | refine zN (by omega) ?_ | refine amin ?_ | refine amax ?_ | refine zU (by omega) ?_ | refine z8 (by omega) ?_ | refine zX (by omega) (by omega) ?_ | refine zR rfl ?_ | refine acellA ?_ | refine zB H b1 rfl ?_ | refine zC H b1 ?_ | refine zB H b2 rfl ?_ | refine zC H b2 ?_ | (apply zL H; (· repeat first | exact .h | apply AtK.t); (· rfl)) | (apply zA H; (· repeat first | exact .h | apply AtK.t)) | (apply zS H; (· repeat first | exact .h | apply AtK.t); (· rfl); (conv => whnf); clear H; intro τ H) | rw [List.length_map]); (refine wX ?_)))
      refine acall (peTop (H.sub _ _ b1) (H.sub _ _ b2) hl) ?_
      rintro _ σ_ ⟨rfl, e_⟩
      obtain rfl := e_.symm
      refine ⟨?_, Ext.refl _⟩
      (refine wX ?_)
      by_cases h4 : topL l > yb
      · rw [if_pos (.inr ⟨rfl, h4⟩)]
        (repeat ((first | refine zI (by omega) ?_ | refine zE (by omega) (by omega) ?_ | refine zD (by omega) (by omega) ?_ | refine zY (by omega) ?_ | refine zN (by omega) ?_ | refine amin ?_ | refine amax ?_ | refine zU (by omega) ?_ | refine z8 (by omega) ?_ | refine zX (by omega) (by omega) ?_ | refine zR rfl ?_ | refine acellA ?_ | refine zB H b1 rfl ?_ | refine zC H b1 ?_ | refine zB H b2 rfl ?_ | refine zC H b2 ?_ | (apply zL H; (· repeat first | exact .h | apply AtK.t); (· rfl)) | (apply zA H; (· repeat first | exact .h | apply AtK.t)) | (apply zS H; (· repeat first | exact .h | apply AtK.t); (· rfl); (conv => whnf); clear H; intro τ H) | rw [List.length_map]); (refine wX ?_)))
        exact aret (VLe.refl _) H.sub ⟨rfl, rfl⟩
      · rw [if_neg (by omega)]
        (refine wX ?_)
        (repeat ((first | refine zI (by omega) ?_ | refine zE (by omega) (by omega) ?_ | refine zD (by omega) (by omega) ?_ | refine zY (by omega) ?_ | refine zN (by omega) ?_ | refine amin ?_ | refine amax ?_ | refine zU (by omega) ?_ | refine z8 (by omega) ?_ | refine zX (by omega) (by omega) ?_ | refine zR rfl ?_ | refine acellA ?_ | refine zB H b1 rfl ?_ | refine zC H b1 ?_ | refine zB H b2 rfl ?_ | refine zC H b2 ?_ | (apply zL H; (· repeat first | exact .h | apply AtK.t); (· rfl)) | (apply zA H; (· repeat first | exact .h | apply AtK.t)) | (apply zS H; (· repeat first | exact .h | apply AtK.t); (· rfl); (conv => whnf); clear H; intro τ H) | rw [List.length_map]); (refine wX ?_)))
        refine acall (sHas (ya, yb) (H.sub _ _ b2) hl) ?_
        rintro _ σ_ ⟨rfl, e_⟩
        obtain rfl := e_.symm
        refine ⟨?_, Ext.refl _⟩
        (refine wX ?_)
        cases hasS (ya, yb) l
        · (refine wX ?_)
          (repeat ((first | refine zI (by omega) ?_ | refine zE (by omega) (by omega) ?_ | refine zD (by omega) (by omega) ?_ | refine zY (by omega) ?_ | refine zN (by omega) ?_ | refine amin ?_ | refine amax ?_ | refine zU (by omega) ?_ | refine z8 (by omega) ?_ | refine zX (by omega) (by omega) ?_ | refine zR rfl ?_ | refine acellA ?_ | refine zB H b1 rfl ?_ | refine zC H b1 ?_ | refine zB H b2 rfl ?_ | refine zC H b2 ?_ | (apply zL H; (· repeat first | exact .h | apply AtK.t); (· rfl)) | (apply zA H; (· repeat first | exact .h | apply AtK.t)) | (apply zS H; (· repeat first | exact .h | apply AtK.t); (· rfl); (conv => whnf); clear H; intro τ H) | rw [List.length_map]); (refine wX ?_)))
          exact aret (VLe.refl _) H.sub ⟨rfl, rfl⟩
        · (refine wX ?_)
          (repeat ((first | refine zI (by omega) ?_ | refine zE (by omega) (by omega) ?_ | refine zD (by omega) (by omega) ?_ | refine zY (by omega) ?_ | refine zN (by omega) ?_ | refine amin ?_ | refine amax ?_ | refine zU (by omega) ?_ | refine z8 (by omega) ?_ | refine zX (by omega) (by omega) ?_ | refine zR rfl ?_ | refine acellA ?_ | refine zB H b1 rfl ?_ | refine zC H b1 ?_ | refine zB H b2 rfl ?_ | refine zC H b2 ?_ | (apply zL H; (· repeat first | exact .h | apply AtK.t); (· rfl)) | (apply zA H; (· repeat first | exact .h | apply AtK.t)) | (apply zS H; (· repeat first | exact .h | apply AtK.t); (· rfl); (conv => whnf); clear H; intro τ H) | rw [List.length_map]); (refine wX ?_)))
          exact aret (VLe.refl _) H.sub ⟨rfl, rfl⟩
  · (repeat ((first | refine zI (by omega) ?_ | refine zE (by omega) (by omega) ?_ | refine zD (by omega) (by omega) ?_ | refine zY (by omega) ?_ | refine zN (by omega) ?_ | refine amin ?_ | refine amax ?_ | refine zU (by omega) ?_ | refine z8 (by omega) ?_ | refine zX (by omega) (by omega) ?_ | refine zR rfl ?_ | refine acellA ?_ | refine zB H b1 rfl ?_ | refine zC H b1 ?_ | refine zB H b2 rfl ?_ | refine zC H b2 ?_ | (apply zL H; (· repeat first | exact .h | apply AtK.t); (· rfl)) | (apply zA H; (· repeat first | exact .h | apply AtK.t)) | (apply zS H; (· repeat first | exact .h | apply AtK.t); (· rfl); (conv => whnf); clear H; intro τ H) | rw [List.length_map]); (refine wX ?_)))
    by_cases h2 : yb > e
    · rw [if_pos (.inl ⟨h1, .inl h2⟩)]
      (repeat ((first | refine zI (by omega) ?_ | refine zE (by omega) (by omega) ?_ | refine zD (by omega) (by omega) ?_ | refine zY (by omega) ?_ | refine zN (by omega) ?_ | refine amin ?_ | refine amax ?_ | refine zU (by omega) ?_ | refine z8 (by omega) ?_ | refine zX (by omega) (by omega) ?_ | refine zR rfl ?_ | refine acellA ?_ | refine zB H b1 rfl ?_ | refine zC H b1 ?_ | refine zB H b2 rfl ?_ | refine zC H b2 ?_ | (apply zL H; (· repeat first | exact .h | apply AtK.t); (· rfl)) | (apply zA H; (· repeat first | exact .h | apply AtK.t)) | (apply zS H; (· repeat first | exact .h | apply AtK.t); (· rfl); (conv => whnf); clear H; intro τ H) | rw [List.length_map]); (refine wX ?_)))
      exact aret (VLe.refl _) H.sub ⟨rfl, rfl⟩
    · (refine wX ?_)
      (repeat ((first | refine zI (by omega) ?_ | refine zE (by omega) (by omega) ?_ | refine zD (by omega) (by omega) ?_ | refine zY (by omega) ?_ | refine zN (by omega) ?_ | refine amin ?_ | refine amax ?_ | refine zU (by omega) ?_ | refine z8 (by omega) ?_ | refine zX (by omega) (by omega) ?_ | refine zR rfl ?_ | refine acellA ?_ | refine zB H b1 rfl ?_ | refine zC H b1 ?_ | refine zB H b2 rfl ?_ | refine zC H b2 ?_ | (apply zL H; (· repeat first | exact .h | apply AtK.t); (· rfl)) | (apply zA H; (· repeat first | exact .h | apply AtK.t)) | (apply zS H; (· repeat first | exact .h | apply AtK.t); (· rfl); (conv => whnf); clear H; intro τ H) | rw [List.length_map]); (refine wX ?_)))
      cases ends
      · rw [if_neg (by simp; omega)]
        (refine wX ?_)
        (repeat ((first | refine zI (by omega) ?_ | refine zE (by omega) (by omega) ?_ | refine zD (by omega) (by omega) ?_ | refine zY (by omega) ?_ | refine zN (by omega) ?_ | refine amin ?_ | refine amax ?_ | refine zU (by omega) ?_ | refine z8 (by omega) ?_ | refine zX (by omega) (by omega) ?_ | refine zR rfl ?_ | refine acellA ?_ | refine zB H b1 rfl ?_ | refine zC H b1 ?_ | refine zB H b2 rfl ?_ | refine zC H b2 ?_ | (apply zL H; (· repeat first | exact .h | apply AtK.t); (· rfl)) | (apply zA H; (· repeat first | exact .h | apply AtK.t)) | (apply zS H; (· repeat first | exact .h | apply AtK.t); (· rfl); (conv => whnf); clear H; intro τ H) | rw [List.length_map]); (refine wX ?_)))
        refine acall (sHas (ya, yb) (H.sub _ _ b2) hl) ?_
        rintro _ σ_ ⟨rfl, e_⟩
        obtain rfl := e_.symm
        refine ⟨?_, Ext.refl _⟩
        (refine wX ?_)
        cases hasS (ya, yb) l
        · (refine wX ?_)
          (repeat ((first | refine zI (by omega) ?_ | refine zE (by omega) (by omega) ?_ | refine zD (by omega) (by omega) ?_ | refine zY (by omega) ?_ | refine zN (by omega) ?_ | refine amin ?_ | refine amax ?_ | refine zU (by omega) ?_ | refine z8 (by omega) ?_ | refine zX (by omega) (by omega) ?_ | refine zR rfl ?_ | refine acellA ?_ | refine zB H b1 rfl ?_ | refine zC H b1 ?_ | refine zB H b2 rfl ?_ | refine zC H b2 ?_ | (apply zL H; (· repeat first | exact .h | apply AtK.t); (· rfl)) | (apply zA H; (· repeat first | exact .h | apply AtK.t)) | (apply zS H; (· repeat first | exact .h | apply AtK.t); (· rfl); (conv => whnf); clear H; intro τ H) | rw [List.length_map]); (refine wX ?_)))
          exact aret (VLe.refl _) H.sub ⟨rfl, rfl⟩
        · (refine wX ?_)
          (repeat ((first | refine zI (by omega) ?_ | refine zE (by omega) (by omega) ?_ | refine zD (by omega) (by omega) ?_ | refine zY (by omega) ?_ | refine zN (by omega) ?_ | refine amin ?_ | refine amax ?_ | refine zU (by omega) ?_ | refine z8 (by omega) ?_ | refine zX (by omega) (by omega) ?_ | refine zR rfl ?_ | refine acellA ?_ | refine zB H b1 rfl ?_ | refine zC H b1 ?_ | refine zB H b2 rfl ?_ | refine zC H b2 ?_ | (apply zL H; (· repeat first | exact .h | apply AtK.t); (· rfl)) | (apply zA H; (· repeat first | exact .h | apply AtK.t)) | (apply zS H; (· repeat first | exact .h | apply AtK.t); (· rfl); (conv => whnf); clear H; intro τ H) | rw [List.length_map]); (refine wX ?_)))
          exact aret (VLe.refl _) H.sub ⟨rfl, rfl⟩
      · (refine wX ?_)
        (repeat ((first | refine zI (by omega) ?_ | refine zE (by omega) (by omega) ?_ | refine zD (by omega) (by omega) ?_ | refine zY (by omega) ?_ | refine zN (by omega) ?_ | refine amin ?_ | refine amax ?_ | refine zU (by omega) ?_ | refine z8 (by omega) ?_ | refine zX (by omega) (by omega) ?_ | refine zR rfl ?_ | refine acellA ?_ | refine zB H b1 rfl ?_ | refine zC H b1 ?_ | refine zB H b2 rfl ?_ | refine zC H b2 ?_ | (apply zL H; (· repeat first | exact .h | apply AtK.t); (· rfl)) | (apply zA H; (· repeat first | exact .h | apply AtK.t)) | (apply zS H; (· repeat first | exact .h | apply AtK.t); (· rfl); (conv => whnf); clear H; intro τ H) | rw [List.length_map]); (refine wX ?_)))
        by_cases h3 : yb = e
        · (repeat ((first | refine zI (by omega) ?_ | refine zE (by omega) (by omega) ?_ | refine zD (by omega) (by omega) ?_ | refine zY (by omega) ?_ | refine zN (by omega) ?_ | refine amin ?_ | refine amax ?_ | refine zU (by omega) ?_ | refine z8 (by omega) ?_ | refine zX (by omega) (by omega) ?_ | refine zR rfl ?_ | refine acellA ?_ | refine zB H b1 rfl ?_ | refine zC H b1 ?_ | refine zB H b2 rfl ?_ | refine zC H b2 ?_ | (apply zL H; (· repeat first | exact .h | apply AtK.t); (· rfl)) | (apply zA H; (· repeat first | exact .h | apply AtK.t)) | (apply zS H; (· repeat first | exact .h | apply AtK.t); (· rfl); (conv => whnf); clear H; intro τ H) | rw [List.length_map]); (refine wX ?_)))
          refine acall (peTop (H.sub _ _ b1) (H.sub _ _ b2) hl) ?_
          rintro _ σ_ ⟨rfl, e_⟩
          obtain rfl := e_.symm
          refine ⟨?_, Ext.refl _⟩
          (refine wX ?_)
          by_cases h4 : topL l > yb
          · rw [if_pos (.inr ⟨rfl, h4⟩)]
            (repeat ((first | refine zI (by omega) ?_ | refine zE (by omega) (by omega) ?_ | refine zD (by omega) (by omega) ?_ | refine zY (by omega) ?_ | refine zN (by omega) ?_ | refine amin ?_ | refine amax ?_ | refine zU (by omega) ?_ | refine z8 (by omega) ?_ | refine zX (by omega) (by omega) ?_ | refine zR rfl ?_ | refine acellA ?_ | refine zB H b1 rfl ?_ | refine zC H b1 ?_ | refine zB H b2 rfl ?_ | refine zC H b2 ?_ | (apply zL H; (· repeat first | exact .h | apply AtK.t); (· rfl)) | (apply zA H; (· repeat first | exact .h | apply AtK.t)) | (apply zS H; (· repeat first | exact .h | apply AtK.t); (· rfl); (conv => whnf); clear H; intro τ H) | rw [List.length_map]); (refine wX ?_)))
            exact aret (VLe.refl _) H.sub ⟨rfl, rfl⟩
          · rw [if_neg (by omega)]
            (repeat ((first | refine zI (by omega) ?_ | refine zE (by omega) (by omega) ?_ | refine zD (by omega) (by omega) ?_ | refine zY (by omega) ?_ | refine zN (by omega) ?_ | refine amin ?_ | refine amax ?_ | refine zU (by omega) ?_ | refine z8 (by omega) ?_ | refine zX (by omega) (by omega) ?_ | refine zR rfl ?_ | refine acellA ?_ | refine zB H b1 rfl ?_ | refine zC H b1 ?_ | refine zB H b2 rfl ?_ | refine zC H b2 ?_ | (apply zL H; (· repeat first | exact .h | apply AtK.t); (· rfl)) | (apply zA H; (· repeat first | exact .h | apply AtK.t)) | (apply zS H; (· repeat first | exact .h | apply AtK.t); (· rfl); (conv => whnf); clear H; intro τ H) | rw [List.length_map]); (refine wX ?_)))
            refine acall (sHas (ya, yb) (H.sub _ _ b2) hl) ?_
            rintro _ σ_ ⟨rfl, e_⟩
            obtain rfl := e_.symm
            refine ⟨?_, Ext.refl _⟩
            (refine wX ?_)
            cases hasS (ya, yb) l
            · (refine wX ?_)
              (repeat ((first | refine zI (by omega) ?_ | refine zE (by omega) (by omega) ?_ | refine zD (by omega) (by omega) ?_ | refine zY (by omega) ?_ | refine zN (by omega) ?_ | refine amin ?_ | refine amax ?_ | refine zU (by omega) ?_ | refine z8 (by omega) ?_ | refine zX (by omega) (by omega) ?_ | refine zR rfl ?_ | refine acellA ?_ | refine zB H b1 rfl ?_ | refine zC H b1 ?_ | refine zB H b2 rfl ?_ | refine zC H b2 ?_ | (apply zL H; (· repeat first | exact .h | apply AtK.t); (· rfl)) | (apply zA H; (· repeat first | exact .h | apply AtK.t)) | (apply zS H; (· repeat first | exact .h | apply AtK.t); (· rfl); (conv => whnf); clear H; intro τ H) | rw [List.length_map]); (refine wX ?_)))
              exact aret (VLe.refl _) H.sub ⟨rfl, rfl⟩
            · (refine wX ?_)
              (repeat ((first | refine zI (by omega) ?_ | refine zE (by omega) (by omega) ?_ | refine zD (by omega) (by omega) ?_ | refine zY (by omega) ?_ | refine zN (by omega) ?_ | refine amin ?_ | refine amax ?_ | refine zU (by omega) ?_ | refine z8 (by omega) ?_ | refine zX (by omega) (by omega) ?_ | refine zR rfl ?_ | refine acellA ?_ | refine zB H b1 rfl ?_ | refine zC H b1 ?_ | refine zB H b2 rfl ?_ | refine zC H b2 ?_ | (apply zL H; (· repeat first | exact .h | apply AtK.t); (· rfl)) | (apply zA H; (· repeat first | exact .h | apply AtK.t)) | (apply zS H; (· repeat first | exact .h | apply AtK.t); (· rfl); (conv => whnf); clear H; intro τ H) | rw [List.length_map]); (refine wX ?_)))
              exact aret (VLe.refl _) H.sub ⟨rfl, rfl⟩
        · rw [if_pos (.inl ⟨h1, .inr ⟨rfl, h3⟩⟩)]
          (repeat ((first | refine zI (by omega) ?_ | refine zE (by omega) (by omega) ?_ | refine zD (by omega) (by omega) ?_ | refine zY (by omega) ?_ | refine zN (by omega) ?_ | refine amin ?_ | refine amax ?_ | refine zU (by omega) ?_ | refine z8 (by omega) ?_ | refine zX (by omega) (by omega) ?_ | refine zR rfl ?_ | refine acellA ?_ | refine zB H b1 rfl ?_ | refine zC H b1 ?_ | refine zB H b2 rfl ?_ | refine zC H b2 ?_ | (apply zL H; (· repeat first | exact .h | apply AtK.t); (· rfl)) | (apply zA H; (· repeat first | exact .h | apply AtK.t)) | (apply zS H; (· repeat first | exact .h | apply AtK.t); (· rfl); (conv => whnf); clear H; intro τ H) | rw [List.length_map]); (refine wX ?_)))
          exact aret (VLe.refl _) H.sub ⟨rfl, rfl⟩
end
end Go.Proofs.Ytgobbmdbkmjlnaa
/-
  Rows that are stored into, anywhere in a list.
-/
namespace Go.Proofs.Ytgobbmdbkmjlnaa
set_option linter.unusedVariables false
set_option linter.unusedSimpArgs false
open Go Go.Am

section ops
variable {σb σ : AHeap} {L : List HE}
theorem row_set (H : Hp σb L σ) {xs : List AVal} {k r q : Nat} {y : AVal} {K : AHeap → Prop} (hk : AtK L k (.o r (.cells xs))) (h : q < xs.length) (hy : y.isCell = true)
    (hK : setLK L k (.o r (.cells (xs.set q y))) fun L' => ∀ τ', Hp σb L' τ' → K τ') : AStore σ r (0 + ((q : Nat) : Int).toNat * 1) [y] K := by
  rw [Int.toNat_natCast, Nat.mul_one, Nat.zero_add]
  refine astore (H.get hk.get) (by show q + 1 ≤ _; omega) (by show (y.isCell && true) = true; rw [hy]; rfl) (l := xs.set q y) ?_ ((setLK_spec hK).2 _ (H.set hk.get _))
  unfold splice
  rw [List.set_eq_take_append_cons_drop, if_pos h, List.append_assoc]; rfl
end ops
end Go.Proofs.Ytgobbmdbkmjlnaa
/-
  What came in parts: bytes are filled in.
-/
namespace Go.Proofs.Ytgobbmdbkmjlnaa
set_option linter.unusedVariables false
set_option linter.unusedSimpArgs false
set_option maxRecDepth 20000
open Go Go.Am

/-- A row of bytes that is stored into, or none yet. -/
inductive RB : AVal → List UInt8 → List HE → Prop
  | nil : RB (.slice 1 [] .full) [] []
  | row (r : Nat) (D : List UInt8) : D ≠ [] → RB (.ms r 1 0 D.length) D [.o r (.cells (D.map byteV))]
def BOk (σ : AHeap) (v : AVal) (D : List UInt8) : Prop := (v = .slice 1 [] .full ∧ D = []) ∨ ∃ r, v = .ms r 1 0 D.length ∧ σ r = some (.cells (D.map byteV)) ∧ D ≠ []
theorem RB.dv {σb σ : AHeap} {v : AVal} {D : List UInt8} {E F G : List HE} (h : RB v D E) (H : Hp σb (F ++ (E ++ G)) σ) : BOk σ v D := by
  cases h with
  | nil => exact .inl ⟨rfl, rfl⟩
  | row r D hx => exact .inr ⟨r, rfl, H.ok (.o r (.cells (D.map byteV))) (by simp), hx⟩
theorem RB.isCell {v : AVal} {D : List UInt8} {E : List HE} (h : RB v D E) : v.isCell = true := by cases h <;> rfl
theorem cloneB {σ : AHeap} {v : AVal} {D : List UInt8} (h : BOk σ v D) (hl : D.length ≤ 140737488355328) : ACalls Try.prog i_slices_Clone_byte_byte [v] σ fun v' σ' => ∃ E, RB v' D E ∧ Hp σ E σ' := by
  have H := Hp.nil σ
  rcases h with ⟨rfl, rfl⟩ | ⟨r, rfl, hs, hn⟩
  · refine acall_less (CloneM [] .full σ (by simp)) ?_
    rintro _ σ' (⟨_, rfl, rfl⟩ | ⟨h, _⟩)
    · exact ⟨_, _, VLe.refl _, Sub.refl _, [], .nil, H⟩
    · exact absurd rfl h
  · refine km_slices_Clone_byte_byte rfl ?_
    (refine wX ?_)
    refine ⟨⟨_, hs, by simp, ?_⟩⟩
    rw [List.drop_zero, List.take_of_length_le (by simp)]
    have hm : D.map byteV ≠ [] := by simpa using hn
    refine happnew H hm (by rw [List.length_map]; omega) (bytes_ok D) fun r2 τ H => ?_
    rw [List.length_map]
    rw [bytes_flat] at H
    (refine wX ?_)
    exact aret (VLe.refl _) (Sub.refl _) ⟨_, .row r2 D hn, H⟩
/-- Bytes put where there are none. -/
def fillN (l : List Sp) (f : Nat) (d D : List UInt8) : Nat → List UInt8
  | 0 => D
  | k + 1 => if hasS ((f : Int) + (k : Int), (f : Int) + (k : Int) + 1) l = true then fillN l f d D k else (fillN l f d D k).set (f + k) (d[k]?.getD 0)
theorem fillN_len (l : List Sp) (f : Nat) (d D : List UInt8) : ∀ k, (fillN l f d D k).length = D.length
  | 0 => rfl
  | k + 1 => by
    unfold fillN
    split
    · exact fillN_len l f d D k
    · rw [List.length_set]; exact fillN_len l f d D k
def wideB (D : List UInt8) (to : Nat) : List UInt8 := if D.length < to then D ++ List.replicate (to - D.length) 0 else D
theorem wideB_len (D : List UInt8) (to : Nat) : (wideB D to).length = max D.length to := by
  unfold wideB
  split
  · rw [List.length_append, List.length_replicate]; omega
  · omega
def fillB (l : List Sp) (f : Nat) (d D : List UInt8) : List UInt8 := fillN l f d (wideB D (f + d.length)) d.length
theorem fillB_len (l : List Sp) (f : Nat) (d D : List UInt8) : (fillB l f d D).length = max D.length (f + d.length) := by unfold fillB; rw [fillN_len, wideB_len]

section
variable {σb σ : AHeap} {ip is ig : Nat} {e fi : Int} {l : List Sp} {tk : Tok} {v : AVal} {D : List UInt8} {E G : List HE}
set_option maxHeartbeats 2000000 in
theorem peFill (h : RB v D E) (H : Hp σb (E ++ (.o ip (.cells (peC v is e ig fi)) :: .o is (.cells [spL tk l]) :: G)) σ) (f : Nat) (d : List UInt8) (hd : d ≠ []) (hf : f + d.length ≤ 1000000) (hD : D.length ≤ 1000000) (hl : l.length ≤ 1000000) :
    ACalls Try.prog i_rxbuf_piece_fill [.ptr ip 0, i64v f, sl .none d] σ fun r σ' => r = .tup [] ∧ ∃ v' E', RB v' (fillB l f d D) E' ∧ Hp σb (E' ++ (.o ip (.cells (peC v' is e ig fi)) :: .o is (.cells [spL tk l]) :: G)) σ' := by
  have hdl : d.length ≠ 0 := by simpa using hd
  refine km_rxbuf_piece_fill rfl ?_
  (refine wX ?_)
  (repeat ((first | refine zI (by omega) ?_ | refine zE (by omega) (by omega) ?_ | refine zD (by omega) (by omega) ?_ | refine zY (by omega) ?_ | refine zN (by omega) ?_ | refine amin ?_ | refine amax ?_ | refine zU (by omega) ?_ | refine z8 (by omega) ?_ | refine zX (by omega) (by omega) ?_ | refine zR rfl ?_ | refine acellA ?_ | (apply zL H; (· repeat first | exact .h | apply AtK.t); (· rfl)) | (apply zA H; (· repeat first | exact .h | apply AtK.t)) | (apply zS H; (· repeat first | exact .h | apply AtK.t); (· rfl); (conv => whnf); clear H; intro τ H) | rw [List.length_map]); (refine wX ?_)))
  obtain ⟨D1, hD1⟩ : ∃ D1, D1 = wideB D (f + d.length) := ⟨_, rfl⟩
  have hl1 : D1.length = max D.length (f + d.length) := by rw [hD1]; exact wideB_len _ _
  have hD1n : D1 ≠ [] := fun h => by rw [h] at hl1; simp at hl1; omega
  unfold fillB
  rw [← hD1]
  by_cases hlt : D.length < f + d.length
  case' pos =>
    unfold wideB at hD1
    rw [if_pos hlt] at hD1
    cases h
    case' nil =>
      replace H : Hp σb (.o ip (.cells (peC (.slice 1 [] .full) is e ig fi)) :: .o is (.cells [spL tk l]) :: G) σ := H
      (repeat ((first | refine zI (by omega) ?_ | refine zE (by omega) (by omega) ?_ | refine zD (by omega) (by omega) ?_ | refine zY (by omega) ?_ | refine zN (by omega) ?_ | refine amin ?_ | refine amax ?_ | refine zU (by omega) ?_ | refine z8 (by omega) ?_ | refine zX (by omega) (by omega) ?_ | refine zR rfl ?_ | refine acellA ?_ | (apply zL H; (· repeat first | exact .h | apply AtK.t); (· rfl)) | (apply zA H; (· repeat first | exact .h | apply AtK.t)) | (apply zS H; (· repeat first | exact .h | apply AtK.t); (· rfl); (conv => whnf); clear H; intro τ H) | rw [List.length_map]); (refine wX ?_)))
      have e0 : (((f : Nat) : Int) + ((d.length : Nat) : Int) - (([] : List AVal).length : Nat)).toNat = f + d.length - ([] : List UInt8).length := by simp; omega
      rw [e0]
      have e1 : List.replicate (f + d.length - ([] : List UInt8).length) (AVal.v (.int .u8 0)) = D1.map byteV := by rw [hD1, List.nil_append, List.map_replicate]; rfl
      rw [e1]
      refine ⟨by simp; omega, by simp; omega, by simp; omega, .inr (happnew H (by simpa using hD1n) (by rw [List.length_map]; omega) (bytes_ok D1) fun r τ H => ?_)⟩
      rw [bytes_flat] at H
      rw [List.length_map]
      (refine wX ?_)
    case' row r hx =>
      replace H : Hp σb (.o r (.cells (D.map byteV)) :: .o ip (.cells (peC (.ms r 1 0 D.length) is e ig fi)) :: .o is (.cells [spL tk l]) :: G) σ := H
      (repeat ((first | refine zI (by omega) ?_ | refine zE (by omega) (by omega) ?_ | refine zD (by omega) (by omega) ?_ | refine zY (by omega) ?_ | refine zN (by omega) ?_ | refine amin ?_ | refine amax ?_ | refine zU (by omega) ?_ | refine z8 (by omega) ?_ | refine zX (by omega) (by omega) ?_ | refine zR rfl ?_ | refine acellA ?_ | (apply zL H; (· repeat first | exact .h | apply AtK.t); (· rfl)) | (apply zA H; (· repeat first | exact .h | apply AtK.t)) | (apply zS H; (· repeat first | exact .h | apply AtK.t); (· rfl); (conv => whnf); clear H; intro τ H) | rw [List.length_map]); (refine wX ?_)))
      have e0 : (((f : Nat) : Int) + ((d.length : Nat) : Int) - (D.length : Nat)).toNat = f + d.length - D.length := by omega
      rw [e0]
      have e1 : List.replicate (f + d.length - D.length) (AVal.v (.int .u8 0)) = (List.replicate (f + d.length - D.length) (0 : UInt8)).map byteV := by rw [List.map_replicate]; rfl
      rw [e1]
      refine ⟨by omega, by omega, by omega, happm H (k := 0) rfl (by simp) (by simp; omega) (bytes_ok _) fun r2 τ H => ?_⟩
      rw [bytes_flat, ← List.map_append, ← hD1] at H
      rw [show D.length + (List.map byteV (List.replicate (f + d.length - D.length) (0 : UInt8))).length = D1.length by rw [hD1]; simp]
      clear e1 e0
      generalize r2 = r at *
      (refine wX ?_)
    all_goals
      apply zS H
      · (repeat first | exact .h | apply AtK.t)
      · rfl
      (conv => whnf)
      clear H
      intro τ H
      (refine wX ?_)
      replace H : Hp σb (.o r (.cells (D1.map byteV)) :: .o ip (.cells (peC (.ms r 1 0 D1.length) is e ig fi)) :: .o is (.cells [spL tk l]) :: G) τ := H
  case' neg =>
    unfold wideB at hD1
    rw [if_neg hlt] at hD1
    subst hD1
    cases h
    case' nil => exact absurd rfl hD1n
    case' row r hx =>
      replace H : Hp σb (.o r (.cells (D1.map byteV)) :: .o ip (.cells (peC (.ms r 1 0 D1.length) is e ig fi)) :: .o is (.cells [spL tk l]) :: G) σ := H
      generalize σ = τ at *
  all_goals
    (repeat ((first | refine zI (by omega) ?_ | refine zE (by omega) (by omega) ?_ | refine zD (by omega) (by omega) ?_ | refine zY (by omega) ?_ | refine zN (by omega) ?_ | refine amin ?_ | refine amax ?_ | refine zU (by omega) ?_ | refine z8 (by omega) ?_ | refine zX (by omega) (by omega) ?_ | refine zR rfl ?_ | refine acellA ?_ | (apply zL H; (· repeat first | exact .h | apply AtK.t); (· rfl)) | (apply zA H; (· repeat first | exact .h | apply AtK.t)) | (apply zS H; (· repeat first | exact .h | apply AtK.t); (· rfl); (conv => whnf); clear H; intro τ H) | rw [List.length_map]); (refine wX ?_)))
    refine aloop (α := Nat × AHeap) (fun y => [(s37, i64v y.1)]) (fun y => y.2) (fun y => y.1 ≤ d.length ∧ Hp σb (.o r (.cells ((fillN l f d D1 y.1).map byteV)) :: .o ip (.cells (peC (.ms r 1 0 D1.length) is e ig fi)) :: .o is (.cells [spL tk l]) :: G) y.2) (fun y => d.length - y.1)
      (0, τ) ⟨Nat.zero_le _, H⟩ (Sub.refl _) ?_ ?_
    · (refine wX ?_)
      (repeat' first | with_reducible exact EnvLe.refl _ | (refine EnvLe.node ?_ (by first | exact Or.inl rfl | exact Or.inr (Or.inl rfl) | exact Or.inr (Or.inr ⟨nofun, VLe.slice _ _ _⟩)) ?_))
    clear H
    rintro ⟨k, υ⟩ ⟨hk, H⟩
    dsimp only at hk H ⊢
    (refine wX ?_)
    by_cases h : k < d.length
    · (repeat ((first | refine zI (by omega) ?_ | refine zE (by omega) (by omega) ?_ | refine zD (by omega) (by omega) ?_ | refine zY (by omega) ?_ | refine zN (by omega) ?_ | refine amin ?_ | refine amax ?_ | refine zU (by omega) ?_ | refine z8 (by omega) ?_ | refine zX (by omega) (by omega) ?_ | refine zR rfl ?_ | refine acellA ?_ | (apply zL H; (· repeat first | exact .h | apply AtK.t); (· rfl)) | (apply zA H; (· repeat first | exact .h | apply AtK.t)) | (apply zS H; (· repeat first | exact .h | apply AtK.t); (· rfl); (conv => whnf); clear H; intro τ H) | rw [List.length_map]); (refine wX ?_)))
      refine aget (by omega) (get_bytes h) ?_
      (refine wX ?_)
      refine acell rfl ?_
      (refine wX ?_)
      (repeat ((first | refine zI (by omega) ?_ | refine zE (by omega) (by omega) ?_ | refine zD (by omega) (by omega) ?_ | refine zY (by omega) ?_ | refine zN (by omega) ?_ | refine amin ?_ | refine amax ?_ | refine zU (by omega) ?_ | refine z8 (by omega) ?_ | refine zX (by omega) (by omega) ?_ | refine zR rfl ?_ | refine acellA ?_ | (apply zL H; (· repeat first | exact .h | apply AtK.t); (· rfl)) | (apply zA H; (· repeat first | exact .h | apply AtK.t)) | (apply zS H; (· repeat first | exact .h | apply AtK.t); (· rfl); (conv => whnf); clear H; intro τ H) | rw [List.length_map]); (refine wX ?_)))
      refine acall (sHas ((f : Int) + (k : Int), (f : Int) + (k : Int) + 1) (H.get (k := 2) rfl) hl) ?_
      rintro _ σ_ ⟨rfl, e_⟩
      obtain rfl := e_.symm
      refine ⟨?_, Ext.refl _⟩
      (refine wX ?_)
      have hs : fillN l f d D1 (k + 1) = if hasS ((f : Int) + (k : Int), (f : Int) + (k : Int) + 1) l = true then fillN l f d D1 k else (fillN l f d D1 k).set (f + k) (d[k]?.getD 0) := rfl
      rcases (show hasS ((f : Int) + (k : Int), (f : Int) + (k : Int) + 1) l = false ∨ hasS ((f : Int) + (k : Int), (f : Int) + (k : Int) + 1) l = true by cases hasS ((f : Int) + (k : Int), (f : Int) + (k : Int) + 1) l <;> simp) with hh | hh
      · rw [hh, if_neg (by simp)] at hs
        rw [hh]
        (refine wX ?_)
        (repeat ((first | refine zI (by omega) ?_ | refine zE (by omega) (by omega) ?_ | refine zD (by omega) (by omega) ?_ | refine zY (by omega) ?_ | refine zN (by omega) ?_ | refine amin ?_ | refine amax ?_ | refine zU (by omega) ?_ | refine z8 (by omega) ?_ | refine zX (by omega) (by omega) ?_ | refine zR rfl ?_ | refine acellA ?_ | (apply zL H; (· repeat first | exact .h | apply AtK.t); (· rfl)) | (apply zA H; (· repeat first | exact .h | apply AtK.t)) | (apply zS H; (· repeat first | exact .h | apply AtK.t); (· rfl); (conv => whnf); clear H; intro τ H) | rw [List.length_map]); (refine wX ?_)))
        rw [List.getElem?_eq_getElem h, Option.getD_some] at hs
        have e2 : 0 + ((f : Int) + (k : Int)).toNat * 1 = 0 + ((f + k : Nat) : Int).toNat * 1 := by omega
        rw [e2]
        refine row_set H .h (by rw [List.length_map, fillN_len]; omega) rfl ?_
        (conv => whnf)
        clear H
        intro υ H
        rw [← List.map_set, ← hs] at H
        (refine wX ?_)
        (repeat ((first | refine zI (by omega) ?_ | refine zE (by omega) (by omega) ?_ | refine zD (by omega) (by omega) ?_ | refine zY (by omega) ?_ | refine zN (by omega) ?_ | refine amin ?_ | refine amax ?_ | refine zU (by omega) ?_ | refine z8 (by omega) ?_ | refine zX (by omega) (by omega) ?_ | refine zR rfl ?_ | refine acellA ?_ | (apply zL H; (· repeat first | exact .h | apply AtK.t); (· rfl)) | (apply zA H; (· repeat first | exact .h | apply AtK.t)) | (apply zS H; (· repeat first | exact .h | apply AtK.t); (· rfl); (conv => whnf); clear H; intro τ H) | rw [List.length_map]); (refine wX ?_)))
        refine ⟨(k + 1, υ), ⟨h, H⟩, by dsimp only; omega, Sub.refl _, ?_⟩
        (refine wX ?_)
        (repeat' first | with_reducible exact EnvLe.refl _ | (refine EnvLe.node ?_ (by first | exact Or.inl rfl | exact Or.inr (Or.inl rfl) | exact Or.inr (Or.inr ⟨nofun, VLe.slice _ _ _⟩)) ?_))
      · rw [hh, if_pos rfl] at hs
        rw [hh]
        (refine wX ?_)
        (repeat ((first | refine zI (by omega) ?_ | refine zE (by omega) (by omega) ?_ | refine zD (by omega) (by omega) ?_ | refine zY (by omega) ?_ | refine zN (by omega) ?_ | refine amin ?_ | refine amax ?_ | refine zU (by omega) ?_ | refine z8 (by omega) ?_ | refine zX (by omega) (by omega) ?_ | refine zR rfl ?_ | refine acellA ?_ | (apply zL H; (· repeat first | exact .h | apply AtK.t); (· rfl)) | (apply zA H; (· repeat first | exact .h | apply AtK.t)) | (apply zS H; (· repeat first | exact .h | apply AtK.t); (· rfl); (conv => whnf); clear H; intro τ H) | rw [List.length_map]); (refine wX ?_)))
        refine ⟨(k + 1, υ), ⟨h, by rw [hs]; exact H⟩, by dsimp only; omega, Sub.refl _, ?_⟩
        (refine wX ?_)
        (repeat' first | with_reducible exact EnvLe.refl _ | (refine EnvLe.node ?_ (by first | exact Or.inl rfl | exact Or.inr (Or.inl rfl) | exact Or.inr (Or.inr ⟨nofun, VLe.slice _ _ _⟩)) ?_))
    · obtain rfl : k = d.length := by omega
      (repeat ((first | refine zI (by omega) ?_ | refine zE (by omega) (by omega) ?_ | refine zD (by omega) (by omega) ?_ | refine zY (by omega) ?_ | refine zN (by omega) ?_ | refine amin ?_ | refine amax ?_ | refine zU (by omega) ?_ | refine z8 (by omega) ?_ | refine zX (by omega) (by omega) ?_ | refine zR rfl ?_ | refine acellA ?_ | (apply zL H; (· repeat first | exact .h | apply AtK.t); (· rfl)) | (apply zA H; (· repeat first | exact .h | apply AtK.t)) | (apply zS H; (· repeat first | exact .h | apply AtK.t); (· rfl); (conv => whnf); clear H; intro τ H) | rw [List.length_map]); (refine wX ?_)))
      refine aret (VLe.refl _) (Sub.refl _) ⟨rfl, .ms r 1 0 D1.length, [.o r (.cells ((fillN l f d D1 d.length).map byteV))], ?_, H⟩
      have := RB.row r (fillN l f d D1 d.length) (fun h => by have := fillN_len l f d D1 d.length; rw [h] at this; simp at this; omega)
      rw [fillN_len] at this
      exact this
end
end Go.Proofs.Ytgobbmdbkmjlnaa
/-
  What came in parts: may a packet come; where fields begin and end is noted.
-/
namespace Go.Proofs.Ytgobbmdbkmjlnaa
set_option linter.unusedVariables false
set_option linter.unusedSimpArgs false
set_option maxRecDepth 20000
open Go Go.Am

set_option maxHeartbeats 2000000 in
theorem buRight (p : Pk) (σ : AHeap) (hl : p.fs.length ≤ 1000) (ht : total p.fs ≤ 140737488355328) : ACalls Try.prog i_rxbuf_right [amV p] σ fun v σ' => v = boolv (rightB p) ∧ σ' = σ := by
  refine k_rxbuf_right rfl ?_
  have H := Hp.nil σ
  (refine wX ?_)
  refine hnew H rfl ?_
  clear H
  intro i1 τ H
  (refine wX ?_)
  (repeat ((first | refine zI (by omega) ?_ | refine zE (by omega) (by omega) ?_ | refine zD (by omega) (by omega) ?_ | refine zY (by omega) ?_ | refine zN (by omega) ?_ | refine amin ?_ | refine amax ?_ | refine zU (by omega) ?_ | refine z8 (by omega) ?_ | refine zX (by omega) (by omega) ?_ | refine zR rfl ?_ | refine acellA ?_ | (apply zL H; (· repeat first | exact .h | apply AtK.t); (· rfl)) | (apply zA H; (· repeat first | exact .h | apply AtK.t)) | (apply zS H; (· repeat first | exact .h | apply AtK.t); (· rfl); (conv => whnf); clear H; intro τ H) | rw [List.length_map]); (refine wX ?_)))
  unfold rightB
  have no : ∀ {x : Bool}, x = true → (!x && (decide (0 ≤ p.off) && decide (p.off ≤ 4000) && (p.part || decide (p.off = 0)) && decide ((total p.fs : Int) ≤ 4000 - p.off))) = false := fun h => by rw [h]; rfl
  by_cases a1 : p.fs.length < 1
  · rw [no (by rw [decide_eq_true a1]; rfl)]
    (repeat ((first | refine zI (by omega) ?_ | refine zE (by omega) (by omega) ?_ | refine zD (by omega) (by omega) ?_ | refine zY (by omega) ?_ | refine zN (by omega) ?_ | refine amin ?_ | refine amax ?_ | refine zU (by omega) ?_ | refine z8 (by omega) ?_ | refine zX (by omega) (by omega) ?_ | refine zR rfl ?_ | refine acellA ?_ | (apply zL H; (· repeat first | exact .h | apply AtK.t); (· rfl)) | (apply zA H; (· repeat first | exact .h | apply AtK.t)) | (apply zS H; (· repeat first | exact .h | apply AtK.t); (· rfl); (conv => whnf); clear H; intro τ H) | rw [List.length_map]); (refine wX ?_)))
    exact aret (VLe.refl _) H.sub ⟨rfl, rfl⟩
  (repeat ((first | refine zI (by omega) ?_ | refine zE (by omega) (by omega) ?_ | refine zD (by omega) (by omega) ?_ | refine zY (by omega) ?_ | refine zN (by omega) ?_ | refine amin ?_ | refine amax ?_ | refine zU (by omega) ?_ | refine z8 (by omega) ?_ | refine zX (by omega) (by omega) ?_ | refine zR rfl ?_ | refine acellA ?_ | (apply zL H; (· repeat first | exact .h | apply AtK.t); (· rfl)) | (apply zA H; (· repeat first | exact .h | apply AtK.t)) | (apply zS H; (· repeat first | exact .h | apply AtK.t); (· rfl); (conv => whnf); clear H; intro τ H) | rw [List.length_map]); (refine wX ?_)))
  by_cases a2 : p.fs.length > 24
  · rw [no (by rw [decide_eq_true a2]; simp)]
    (repeat ((first | refine zI (by omega) ?_ | refine zE (by omega) (by omega) ?_ | refine zD (by omega) (by omega) ?_ | refine zY (by omega) ?_ | refine zN (by omega) ?_ | refine amin ?_ | refine amax ?_ | refine zU (by omega) ?_ | refine z8 (by omega) ?_ | refine zX (by omega) (by omega) ?_ | refine zR rfl ?_ | refine acellA ?_ | (apply zL H; (· repeat first | exact .h | apply AtK.t); (· rfl)) | (apply zA H; (· repeat first | exact .h | apply AtK.t)) | (apply zS H; (· repeat first | exact .h | apply AtK.t); (· rfl); (conv => whnf); clear H; intro τ H) | rw [List.length_map]); (refine wX ?_)))
    exact aret (VLe.refl _) H.sub ⟨rfl, rfl⟩
  (repeat ((first | refine zI (by omega) ?_ | refine zE (by omega) (by omega) ?_ | refine zD (by omega) (by omega) ?_ | refine zY (by omega) ?_ | refine zN (by omega) ?_ | refine amin ?_ | refine amax ?_ | refine zU (by omega) ?_ | refine z8 (by omega) ?_ | refine zX (by omega) (by omega) ?_ | refine zR rfl ?_ | refine acellA ?_ | (apply zL H; (· repeat first | exact .h | apply AtK.t); (· rfl)) | (apply zA H; (· repeat first | exact .h | apply AtK.t)) | (apply zS H; (· repeat first | exact .h | apply AtK.t); (· rfl); (conv => whnf); clear H; intro τ H) | rw [List.length_map]); (refine wX ?_)))
  refine acall (buContains p.fs .none τ (by omega)) ?_
  rintro _ σ_ ⟨rfl, e_⟩
  obtain rfl := e_.symm
  refine ⟨?_, Ext.refl _⟩
  (refine wX ?_)
  rcases (show hollowB p.fs = false ∨ hollowB p.fs = true by cases hollowB p.fs <;> simp) with a3 | a3
  rotate_left
  · rw [no (by rw [a3]; simp), a3]
    (refine wX ?_)
    (repeat ((first | refine zI (by omega) ?_ | refine zE (by omega) (by omega) ?_ | refine zD (by omega) (by omega) ?_ | refine zY (by omega) ?_ | refine zN (by omega) ?_ | refine amin ?_ | refine amax ?_ | refine zU (by omega) ?_ | refine z8 (by omega) ?_ | refine zX (by omega) (by omega) ?_ | refine zR rfl ?_ | refine acellA ?_ | (apply zL H; (· repeat first | exact .h | apply AtK.t); (· rfl)) | (apply zA H; (· repeat first | exact .h | apply AtK.t)) | (apply zS H; (· repeat first | exact .h | apply AtK.t); (· rfl); (conv => whnf); clear H; intro τ H) | rw [List.length_map]); (refine wX ?_)))
    exact aret (VLe.refl _) H.sub ⟨rfl, rfl⟩
  rw [a3]
  (refine wX ?_)
  (repeat ((first | refine zI (by omega) ?_ | refine zE (by omega) (by omega) ?_ | refine zD (by omega) (by omega) ?_ | refine zY (by omega) ?_ | refine zN (by omega) ?_ | refine amin ?_ | refine amax ?_ | refine zU (by omega) ?_ | refine z8 (by omega) ?_ | refine zX (by omega) (by omega) ?_ | refine zR rfl ?_ | refine acellA ?_ | (apply zL H; (· repeat first | exact .h | apply AtK.t); (· rfl)) | (apply zA H; (· repeat first | exact .h | apply AtK.t)) | (apply zS H; (· repeat first | exact .h | apply AtK.t); (· rfl); (conv => whnf); clear H; intro τ H) | rw [List.length_map]); (refine wX ?_)))
  by_cases a4 : p.fi < 0
  · rw [no (by rw [decide_eq_true a4]; simp)]
    (repeat ((first | refine zI (by omega) ?_ | refine zE (by omega) (by omega) ?_ | refine zD (by omega) (by omega) ?_ | refine zY (by omega) ?_ | refine zN (by omega) ?_ | refine amin ?_ | refine amax ?_ | refine zU (by omega) ?_ | refine z8 (by omega) ?_ | refine zX (by omega) (by omega) ?_ | refine zR rfl ?_ | refine acellA ?_ | (apply zL H; (· repeat first | exact .h | apply AtK.t); (· rfl)) | (apply zA H; (· repeat first | exact .h | apply AtK.t)) | (apply zS H; (· repeat first | exact .h | apply AtK.t); (· rfl); (conv => whnf); clear H; intro τ H) | rw [List.length_map]); (refine wX ?_)))
    exact aret (VLe.refl _) H.sub ⟨rfl, rfl⟩
  (repeat ((first | refine zI (by omega) ?_ | refine zE (by omega) (by omega) ?_ | refine zD (by omega) (by omega) ?_ | refine zY (by omega) ?_ | refine zN (by omega) ?_ | refine amin ?_ | refine amax ?_ | refine zU (by omega) ?_ | refine z8 (by omega) ?_ | refine zX (by omega) (by omega) ?_ | refine zR rfl ?_ | refine acellA ?_ | (apply zL H; (· repeat first | exact .h | apply AtK.t); (· rfl)) | (apply zA H; (· repeat first | exact .h | apply AtK.t)) | (apply zS H; (· repeat first | exact .h | apply AtK.t); (· rfl); (conv => whnf); clear H; intro τ H) | rw [List.length_map]); (refine wX ?_)))
  by_cases a5 : p.fi > 3
  · rw [no (by rw [decide_eq_true a5]; simp)]
    (repeat ((first | refine zI (by omega) ?_ | refine zE (by omega) (by omega) ?_ | refine zD (by omega) (by omega) ?_ | refine zY (by omega) ?_ | refine zN (by omega) ?_ | refine amin ?_ | refine amax ?_ | refine zU (by omega) ?_ | refine z8 (by omega) ?_ | refine zX (by omega) (by omega) ?_ | refine zR rfl ?_ | refine acellA ?_ | (apply zL H; (· repeat first | exact .h | apply AtK.t); (· rfl)) | (apply zA H; (· repeat first | exact .h | apply AtK.t)) | (apply zS H; (· repeat first | exact .h | apply AtK.t); (· rfl); (conv => whnf); clear H; intro τ H) | rw [List.length_map]); (refine wX ?_)))
    exact aret (VLe.refl _) H.sub ⟨rfl, rfl⟩
  (repeat ((first | refine zI (by omega) ?_ | refine zE (by omega) (by omega) ?_ | refine zD (by omega) (by omega) ?_ | refine zY (by omega) ?_ | refine zN (by omega) ?_ | refine amin ?_ | refine amax ?_ | refine zU (by omega) ?_ | refine z8 (by omega) ?_ | refine zX (by omega) (by omega) ?_ | refine zR rfl ?_ | refine acellA ?_ | (apply zL H; (· repeat first | exact .h | apply AtK.t); (· rfl)) | (apply zA H; (· repeat first | exact .h | apply AtK.t)) | (apply zS H; (· repeat first | exact .h | apply AtK.t); (· rfl); (conv => whnf); clear H; intro τ H) | rw [List.length_map]); (refine wX ?_)))
  rw [decide_eq_false a1, decide_eq_false a2, decide_eq_false a4, decide_eq_false a5, show (!(false || false || false || false || false)) = true from rfl, Bool.true_and]
  by_cases q1 : 0 ≤ p.off
  case neg =>
    rw [decide_eq_false q1]
    (repeat ((first | refine zI (by omega) ?_ | refine zE (by omega) (by omega) ?_ | refine zD (by omega) (by omega) ?_ | refine zY (by omega) ?_ | refine zN (by omega) ?_ | refine amin ?_ | refine amax ?_ | refine zU (by omega) ?_ | refine z8 (by omega) ?_ | refine zX (by omega) (by omega) ?_ | refine zR rfl ?_ | refine acellA ?_ | (apply zL H; (· repeat first | exact .h | apply AtK.t); (· rfl)) | (apply zA H; (· repeat first | exact .h | apply AtK.t)) | (apply zS H; (· repeat first | exact .h | apply AtK.t); (· rfl); (conv => whnf); clear H; intro τ H) | rw [List.length_map]); (refine wX ?_)))
    exact aret (VLe.refl _) H.sub ⟨rfl, rfl⟩
  rw [decide_eq_true q1]
  (repeat ((first | refine zI (by omega) ?_ | refine zE (by omega) (by omega) ?_ | refine zD (by omega) (by omega) ?_ | refine zY (by omega) ?_ | refine zN (by omega) ?_ | refine amin ?_ | refine amax ?_ | refine zU (by omega) ?_ | refine z8 (by omega) ?_ | refine zX (by omega) (by omega) ?_ | refine zR rfl ?_ | refine acellA ?_ | (apply zL H; (· repeat first | exact .h | apply AtK.t); (· rfl)) | (apply zA H; (· repeat first | exact .h | apply AtK.t)) | (apply zS H; (· repeat first | exact .h | apply AtK.t); (· rfl); (conv => whnf); clear H; intro τ H) | rw [List.length_map]); (refine wX ?_)))
  by_cases q2 : p.off ≤ 4000
  case neg =>
    rw [decide_eq_false q2]
    (repeat ((first | refine zI (by omega) ?_ | refine zE (by omega) (by omega) ?_ | refine zD (by omega) (by omega) ?_ | refine zY (by omega) ?_ | refine zN (by omega) ?_ | refine amin ?_ | refine amax ?_ | refine zU (by omega) ?_ | refine z8 (by omega) ?_ | refine zX (by omega) (by omega) ?_ | refine zR rfl ?_ | refine acellA ?_ | (apply zL H; (· repeat first | exact .h | apply AtK.t); (· rfl)) | (apply zA H; (· repeat first | exact .h | apply AtK.t)) | (apply zS H; (· repeat first | exact .h | apply AtK.t); (· rfl); (conv => whnf); clear H; intro τ H) | rw [List.length_map]); (refine wX ?_)))
    exact aret (VLe.refl _) H.sub ⟨rfl, rfl⟩
  rw [decide_eq_true q2]
  (repeat ((first | refine zI (by omega) ?_ | refine zE (by omega) (by omega) ?_ | refine zD (by omega) (by omega) ?_ | refine zY (by omega) ?_ | refine zN (by omega) ?_ | refine amin ?_ | refine amax ?_ | refine zU (by omega) ?_ | refine z8 (by omega) ?_ | refine zX (by omega) (by omega) ?_ | refine zR rfl ?_ | refine acellA ?_ | (apply zL H; (· repeat first | exact .h | apply AtK.t); (· rfl)) | (apply zA H; (· repeat first | exact .h | apply AtK.t)) | (apply zS H; (· repeat first | exact .h | apply AtK.t); (· rfl); (conv => whnf); clear H; intro τ H) | rw [List.length_map]); (refine wX ?_)))
  rcases (show p.part = false ∨ p.part = true by cases p.part <;> simp) with q3 | q3
  · refine abr_false q3 ?_
    rw [q3]
    (refine wX ?_)
    (repeat ((first | refine zI (by omega) ?_ | refine zE (by omega) (by omega) ?_ | refine zD (by omega) (by omega) ?_ | refine zY (by omega) ?_ | refine zN (by omega) ?_ | refine amin ?_ | refine amax ?_ | refine zU (by omega) ?_ | refine z8 (by omega) ?_ | refine zX (by omega) (by omega) ?_ | refine zR rfl ?_ | refine acellA ?_ | (apply zL H; (· repeat first | exact .h | apply AtK.t); (· rfl)) | (apply zA H; (· repeat first | exact .h | apply AtK.t)) | (apply zS H; (· repeat first | exact .h | apply AtK.t); (· rfl); (conv => whnf); clear H; intro τ H) | rw [List.length_map]); (refine wX ?_)))
    by_cases q4 : p.off = 0
    case neg =>
      rw [decide_eq_false q4]
      (refine wX ?_)
      (repeat ((first | refine zI (by omega) ?_ | refine zE (by omega) (by omega) ?_ | refine zD (by omega) (by omega) ?_ | refine zY (by omega) ?_ | refine zN (by omega) ?_ | refine amin ?_ | refine amax ?_ | refine zU (by omega) ?_ | refine z8 (by omega) ?_ | refine zX (by omega) (by omega) ?_ | refine zR rfl ?_ | refine acellA ?_ | (apply zL H; (· repeat first | exact .h | apply AtK.t); (· rfl)) | (apply zA H; (· repeat first | exact .h | apply AtK.t)) | (apply zS H; (· repeat first | exact .h | apply AtK.t); (· rfl); (conv => whnf); clear H; intro τ H) | rw [List.length_map]); (refine wX ?_)))
      exact aret (VLe.refl _) H.sub ⟨rfl, rfl⟩
    rw [decide_eq_true q4]
    (refine wX ?_)
    (repeat ((first | refine zI (by omega) ?_ | refine zE (by omega) (by omega) ?_ | refine zD (by omega) (by omega) ?_ | refine zY (by omega) ?_ | refine zN (by omega) ?_ | refine amin ?_ | refine amax ?_ | refine zU (by omega) ?_ | refine z8 (by omega) ?_ | refine zX (by omega) (by omega) ?_ | refine zR rfl ?_ | refine acellA ?_ | (apply zL H; (· repeat first | exact .h | apply AtK.t); (· rfl)) | (apply zA H; (· repeat first | exact .h | apply AtK.t)) | (apply zS H; (· repeat first | exact .h | apply AtK.t); (· rfl); (conv => whnf); clear H; intro τ H) | rw [List.length_map]); (refine wX ?_)))
    refine acall (aData p τ hl ht) ?_
    rintro _ σ_ ⟨rfl, e_⟩
    obtain rfl := e_.symm
    refine ⟨?_, Ext.refl _⟩
    (refine wX ?_)
    (repeat ((first | refine zI (by omega) ?_ | refine zE (by omega) (by omega) ?_ | refine zD (by omega) (by omega) ?_ | refine zY (by omega) ?_ | refine zN (by omega) ?_ | refine amin ?_ | refine amax ?_ | refine zU (by omega) ?_ | refine z8 (by omega) ?_ | refine zX (by omega) (by omega) ?_ | refine zR rfl ?_ | refine acellA ?_ | (apply zL H; (· repeat first | exact .h | apply AtK.t); (· rfl)) | (apply zA H; (· repeat first | exact .h | apply AtK.t)) | (apply zS H; (· repeat first | exact .h | apply AtK.t); (· rfl); (conv => whnf); clear H; intro τ H) | rw [List.length_map]); (refine wX ?_)))
    exact aret (VLe.refl _) H.sub ⟨by unfold total; simp, rfl⟩
  · refine abr_true q3 ?_
    rw [q3]
    (refine wX ?_)
    (repeat ((first | refine zI (by omega) ?_ | refine zE (by omega) (by omega) ?_ | refine zD (by omega) (by omega) ?_ | refine zY (by omega) ?_ | refine zN (by omega) ?_ | refine amin ?_ | refine amax ?_ | refine zU (by omega) ?_ | refine z8 (by omega) ?_ | refine zX (by omega) (by omega) ?_ | refine zR rfl ?_ | refine acellA ?_ | (apply zL H; (· repeat first | exact .h | apply AtK.t); (· rfl)) | (apply zA H; (· repeat first | exact .h | apply AtK.t)) | (apply zS H; (· repeat first | exact .h | apply AtK.t); (· rfl); (conv => whnf); clear H; intro τ H) | rw [List.length_map]); (refine wX ?_)))
    refine acall (aData p τ hl ht) ?_
    rintro _ σ_ ⟨rfl, e_⟩
    obtain rfl := e_.symm
    refine ⟨?_, Ext.refl _⟩
    (refine wX ?_)
    (repeat ((first | refine zI (by omega) ?_ | refine zE (by omega) (by omega) ?_ | refine zD (by omega) (by omega) ?_ | refine zY (by omega) ?_ | refine zN (by omega) ?_ | refine amin ?_ | refine amax ?_ | refine zU (by omega) ?_ | refine z8 (by omega) ?_ | refine zX (by omega) (by omega) ?_ | refine zR rfl ?_ | refine acellA ?_ | (apply zL H; (· repeat first | exact .h | apply AtK.t); (· rfl)) | (apply zA H; (· repeat first | exact .h | apply AtK.t)) | (apply zS H; (· repeat first | exact .h | apply AtK.t); (· rfl); (conv => whnf); clear H; intro τ H) | rw [List.length_map]); (refine wX ?_)))
    exact aret (VLe.refl _) H.sub ⟨by unfold total; simp, rfl⟩

/-- Where fields begin and end. -/
abbrev trueV : AVal := boolv true
def note1 (p : Pk) (em : List (Int × AVal)) : List (Int × AVal) := if p.off = 0 then em else if bitsOp .and .i64 p.fi 2 = 0 then mapSet em p.off trueV else em
def noteN (p : Pk) (em : List (Int × AVal)) : Nat → List (Int × AVal)
  | 0 => em
  | k + 1 => if k > 0 then mapSet (noteN p em k) (p.off + (total (p.fs.take k) : Int)) trueV else noteN p em k
def noteM (p : Pk) (ends : Bool) (em : List (Int × AVal)) : List (Int × AVal) :=
  if ends = true then noteN p (note1 p em) p.fs.length else if bitsOp .and .i64 p.fi 1 = 0 then mapSet (noteN p (note1 p em) p.fs.length) (p.off + (total p.fs : Int)) trueV else noteN p (note1 p em) p.fs.length
def noteF1 (p : Pk) (fi : Int) : Int := if p.off = 0 then bitsOp .or .i64 fi (bitsOp .and .i64 p.fi 2) else fi
def noteF (p : Pk) (ends : Bool) (fi : Int) : Int := if ends = true then bitsOp .or .i64 (noteF1 p fi) (bitsOp .and .i64 p.fi 1) else noteF1 p fi
def noteE (p : Pk) (ends : Bool) (e : Int) : Int := if ends = true then p.off + (total p.fs : Int) else e

section
variable {σb σ : AHeap} {ip is ig : Nat} {e fi : Int} {l : List Sp} {tk : Tok} {v : AVal} {em : List (Int × AVal)} {G : List HE}
set_option maxHeartbeats 2000000 in
theorem peNote (H : Hp σb (.o ip (.cells (peC v is e ig fi)) :: .o ig (.map em) :: G) σ) (hv : v.isCell = true) (p : Pk) (ends : Bool) (ho : 0 ≤ p.off ∧ p.off ≤ 1000000) (hn : p.fs.length ≤ 1000) (ht : total p.fs ≤ 1000000) :
    ACalls Try.prog i_rxbuf_piece_note [.ptr ip 0, amV p, boolv ends] σ fun r σ' => r = .tup [] ∧ Hp σb (.o ip (.cells (peC v is (noteE p ends e) ig (noteF p ends fi))) :: .o ig (.map (noteM p ends em)) :: G) σ' := by
  refine k_rxbuf_piece_note rfl ?_
  (refine wX ?_)
  refine hnew H rfl ?_
  clear H
  intro i4 τ H
  (refine wX ?_)
  (repeat ((first | refine zI (by omega) ?_ | refine zE (by omega) (by omega) ?_ | refine zD (by omega) (by omega) ?_ | refine zY (by omega) ?_ | refine zN (by omega) ?_ | refine amin ?_ | refine amax ?_ | refine zU (by omega) ?_ | refine z8 (by omega) ?_ | refine zX (by omega) (by omega) ?_ | refine zR rfl ?_ | refine acellA ?_ | (apply zL H; (· repeat first | exact .h | apply AtK.t); (· rfl)) | (apply zA H; (· repeat first | exact .h | apply AtK.t)) | (apply zS H; (· repeat first | exact .h | apply AtK.t); (· rfl); (conv => whnf); clear H; intro τ H) | rw [List.length_map]); (refine wX ?_)))
  unfold noteE noteF noteM
  obtain ⟨m1, hm1⟩ : ∃ m1, m1 = note1 p em := ⟨_, rfl⟩
  rw [← hm1]
  have hat : ∀ k, total (p.fs.take k) ≤ 1000000 := fun k => Nat.le_trans (total_take_le _ _) ht
  by_cases h0 : p.off = 0
  case' pos =>
    have e1 : m1 = em := by rw [hm1]; unfold note1; rw [if_pos h0]
    have e2 : noteF1 p fi = bitsOp .or .i64 fi (bitsOp .and .i64 p.fi 2) := by unfold noteF1; rw [if_pos h0]
    rw [e2]
    (repeat ((first | refine zI (by omega) ?_ | refine zE (by omega) (by omega) ?_ | refine zD (by omega) (by omega) ?_ | refine zY (by omega) ?_ | refine zN (by omega) ?_ | refine amin ?_ | refine amax ?_ | refine zU (by omega) ?_ | refine z8 (by omega) ?_ | refine zX (by omega) (by omega) ?_ | refine zR rfl ?_ | refine acellA ?_ | (apply zL H; (· repeat first | exact .h | apply AtK.t); (· rfl)) | (apply zA H; (· repeat first | exact .h | apply AtK.t)) | (apply zS H; (· repeat first | exact .h | apply AtK.t); (· rfl); (conv => whnf); clear H; intro τ H) | rw [List.length_map]); (refine wX ?_)))
    refine abits_eq rfl ?_
    (refine wX ?_)
    (repeat ((first | refine zI (by omega) ?_ | refine zE (by omega) (by omega) ?_ | refine zD (by omega) (by omega) ?_ | refine zY (by omega) ?_ | refine zN (by omega) ?_ | refine amin ?_ | refine amax ?_ | refine zU (by omega) ?_ | refine z8 (by omega) ?_ | refine zX (by omega) (by omega) ?_ | refine zR rfl ?_ | refine acellA ?_ | (apply zL H; (· repeat first | exact .h | apply AtK.t); (· rfl)) | (apply zA H; (· repeat first | exact .h | apply AtK.t)) | (apply zS H; (· repeat first | exact .h | apply AtK.t); (· rfl); (conv => whnf); clear H; intro τ H) | rw [List.length_map]); (refine wX ?_)))
    refine abits_eq rfl ?_
    (refine wX ?_)
    (repeat ((first | refine zI (by omega) ?_ | refine zE (by omega) (by omega) ?_ | refine zD (by omega) (by omega) ?_ | refine zY (by omega) ?_ | refine zN (by omega) ?_ | refine amin ?_ | refine amax ?_ | refine zU (by omega) ?_ | refine z8 (by omega) ?_ | refine zX (by omega) (by omega) ?_ | refine zR rfl ?_ | refine acellA ?_ | (apply zL H; (· repeat first | exact .h | apply AtK.t); (· rfl)) | (apply zA H; (· repeat first | exact .h | apply AtK.t)) | (apply zS H; (· repeat first | exact .h | apply AtK.t); (· rfl); (conv => whnf); clear H; intro τ H) | rw [List.length_map]); (refine wX ?_)))
    rw [← e1] at H
    clear e1 e2
    generalize bitsOp .or .i64 fi (bitsOp .and .i64 p.fi 2) = fi1 at *
  case' neg =>
    have e2 : noteF1 p fi = fi := by unfold noteF1; rw [if_neg h0]
    rw [e2]
    (repeat ((first | refine zI (by omega) ?_ | refine zE (by omega) (by omega) ?_ | refine zD (by omega) (by omega) ?_ | refine zY (by omega) ?_ | refine zN (by omega) ?_ | refine amin ?_ | refine amax ?_ | refine zU (by omega) ?_ | refine z8 (by omega) ?_ | refine zX (by omega) (by omega) ?_ | refine zR rfl ?_ | refine acellA ?_ | (apply zL H; (· repeat first | exact .h | apply AtK.t); (· rfl)) | (apply zA H; (· repeat first | exact .h | apply AtK.t)) | (apply zS H; (· repeat first | exact .h | apply AtK.t); (· rfl); (conv => whnf); clear H; intro τ H) | rw [List.length_map]); (refine wX ?_)))
    refine abits_eq rfl ?_
    (refine wX ?_)
    (repeat ((first | refine zI (by omega) ?_ | refine zE (by omega) (by omega) ?_ | refine zD (by omega) (by omega) ?_ | refine zY (by omega) ?_ | refine zN (by omega) ?_ | refine amin ?_ | refine amax ?_ | refine zU (by omega) ?_ | refine z8 (by omega) ?_ | refine zX (by omega) (by omega) ?_ | refine zR rfl ?_ | refine acellA ?_ | (apply zL H; (· repeat first | exact .h | apply AtK.t); (· rfl)) | (apply zA H; (· repeat first | exact .h | apply AtK.t)) | (apply zS H; (· repeat first | exact .h | apply AtK.t); (· rfl); (conv => whnf); clear H; intro τ H) | rw [List.length_map]); (refine wX ?_)))
    by_cases hb : bitsOp .and .i64 p.fi 2 = 0
    case' pos =>
      have e1 : m1 = mapSet em p.off trueV := by rw [hm1]; unfold note1; rw [if_neg h0, if_pos hb]
      (repeat ((first | refine zI (by omega) ?_ | refine zE (by omega) (by omega) ?_ | refine zD (by omega) (by omega) ?_ | refine zY (by omega) ?_ | refine zN (by omega) ?_ | refine amin ?_ | refine amax ?_ | refine zU (by omega) ?_ | refine z8 (by omega) ?_ | refine zX (by omega) (by omega) ?_ | refine zR rfl ?_ | refine acellA ?_ | (apply zL H; (· repeat first | exact .h | apply AtK.t); (· rfl)) | (apply zA H; (· repeat first | exact .h | apply AtK.t)) | (apply zS H; (· repeat first | exact .h | apply AtK.t); (· rfl); (conv => whnf); clear H; intro τ H) | rw [List.length_map]); (refine wX ?_)))
      apply zMs H
      · (repeat first | exact .h | apply AtK.t)
      · rfl
      (conv => whnf)
      clear H
      intro τ H
      (refine wX ?_)
      rw [← e1] at H
      clear e1 e2
      generalize fi = fi1 at *
    case' neg =>
      have e1 : m1 = em := by rw [hm1]; unfold note1; rw [if_neg h0, if_neg hb]
      (repeat ((first | refine zI (by omega) ?_ | refine zE (by omega) (by omega) ?_ | refine zD (by omega) (by omega) ?_ | refine zY (by omega) ?_ | refine zN (by omega) ?_ | refine amin ?_ | refine amax ?_ | refine zU (by omega) ?_ | refine z8 (by omega) ?_ | refine zX (by omega) (by omega) ?_ | refine zR rfl ?_ | refine acellA ?_ | (apply zL H; (· repeat first | exact .h | apply AtK.t); (· rfl)) | (apply zA H; (· repeat first | exact .h | apply AtK.t)) | (apply zS H; (· repeat first | exact .h | apply AtK.t); (· rfl); (conv => whnf); clear H; intro τ H) | rw [List.length_map]); (refine wX ?_)))
      rw [← e1] at H
      clear e1 e2
      generalize fi = fi1 at *
  all_goals
    (repeat ((first | refine zI (by omega) ?_ | refine zE (by omega) (by omega) ?_ | refine zD (by omega) (by omega) ?_ | refine zY (by omega) ?_ | refine zN (by omega) ?_ | refine amin ?_ | refine amax ?_ | refine zU (by omega) ?_ | refine z8 (by omega) ?_ | refine zX (by omega) (by omega) ?_ | refine zR rfl ?_ | refine acellA ?_ | (apply zL H; (· repeat first | exact .h | apply AtK.t); (· rfl)) | (apply zA H; (· repeat first | exact .h | apply AtK.t)) | (apply zS H; (· repeat first | exact .h | apply AtK.t); (· rfl); (conv => whnf); clear H; intro τ H) | rw [List.length_map]); (refine wX ?_)))
    refine aloop (α := Nat × AHeap) (fun y => [(s35, i64v y.1), (s6, i64v (p.off + (total (p.fs.take y.1) : Int)))]) (fun y => y.2) (fun y => y.1 ≤ p.fs.length ∧ Hp σb (.o i4 (.cells (amC p)) :: .o ip (.cells (peC v is e ig fi1)) :: .o ig (.map (noteN p m1 y.1)) :: G) y.2) (fun y => p.fs.length - y.1)
      (0, τ) ⟨Nat.zero_le _, H⟩ (Sub.refl _) ?_ ?_
    · (refine wX ?_)
      rw [show p.off + (total (p.fs.take 0) : Int) = p.off by rw [List.take_zero]; show p.off + ((0 : Nat) : Int) = _; omega]
      (repeat' first | with_reducible exact EnvLe.refl _ | (refine EnvLe.node ?_ (by first | exact Or.inl rfl | exact Or.inr (Or.inl rfl) | exact Or.inr (Or.inr ⟨nofun, VLe.slice _ _ _⟩)) ?_))
    clear H
    rintro ⟨k, υ⟩ ⟨hk, H⟩
    dsimp only at hk H ⊢
    have hak := hat k
    (refine wX ?_)
    by_cases h : k < p.fs.length
    · (repeat ((first | refine zI (by omega) ?_ | refine zE (by omega) (by omega) ?_ | refine zD (by omega) (by omega) ?_ | refine zY (by omega) ?_ | refine zN (by omega) ?_ | refine amin ?_ | refine amax ?_ | refine zU (by omega) ?_ | refine z8 (by omega) ?_ | refine zX (by omega) (by omega) ?_ | refine zR rfl ?_ | refine acellA ?_ | (apply zL H; (· repeat first | exact .h | apply AtK.t); (· rfl)) | (apply zA H; (· repeat first | exact .h | apply AtK.t)) | (apply zS H; (· repeat first | exact .h | apply AtK.t); (· rfl); (conv => whnf); clear H; intro τ H) | rw [List.length_map]); (refine wX ?_)))
      refine aget (by omega) (get_lists h) ?_
      (refine wX ?_)
      refine acell rfl ?_
      (refine wX ?_)
      (repeat ((first | refine zI (by omega) ?_ | refine zE (by omega) (by omega) ?_ | refine zD (by omega) (by omega) ?_ | refine zY (by omega) ?_ | refine zN (by omega) ?_ | refine amin ?_ | refine amax ?_ | refine zU (by omega) ?_ | refine z8 (by omega) ?_ | refine zX (by omega) (by omega) ?_ | refine zR rfl ?_ | refine acellA ?_ | (apply zL H; (· repeat first | exact .h | apply AtK.t); (· rfl)) | (apply zA H; (· repeat first | exact .h | apply AtK.t)) | (apply zS H; (· repeat first | exact .h | apply AtK.t); (· rfl); (conv => whnf); clear H; intro τ H) | rw [List.length_map]); (refine wX ?_)))
      have hs : noteN p m1 (k + 1) = if k > 0 then mapSet (noteN p m1 k) (p.off + (total (p.fs.take k) : Int)) trueV else noteN p m1 k := rfl
      have hal := hat (k + 1)
      have hts := total_take_succ p.fs k h
      by_cases h0 : k > 0
      case' pos =>
        rw [if_pos h0] at hs
        (repeat ((first | refine zI (by omega) ?_ | refine zE (by omega) (by omega) ?_ | refine zD (by omega) (by omega) ?_ | refine zY (by omega) ?_ | refine zN (by omega) ?_ | refine amin ?_ | refine amax ?_ | refine zU (by omega) ?_ | refine z8 (by omega) ?_ | refine zX (by omega) (by omega) ?_ | refine zR rfl ?_ | refine acellA ?_ | (apply zL H; (· repeat first | exact .h | apply AtK.t); (· rfl)) | (apply zA H; (· repeat first | exact .h | apply AtK.t)) | (apply zS H; (· repeat first | exact .h | apply AtK.t); (· rfl); (conv => whnf); clear H; intro τ H) | rw [List.length_map]); (refine wX ?_)))
        apply zMs H
        · (repeat first | exact .h | apply AtK.t)
        · rfl
        (conv => whnf)
        clear H
        intro τ H
        (refine wX ?_)
        rw [← hs] at H
      case' neg =>
        rw [if_neg h0] at hs
        rw [← hs] at H
      all_goals
        (repeat ((first | refine zI (by omega) ?_ | refine zE (by omega) (by omega) ?_ | refine zD (by omega) (by omega) ?_ | refine zY (by omega) ?_ | refine zN (by omega) ?_ | refine amin ?_ | refine amax ?_ | refine zU (by omega) ?_ | refine z8 (by omega) ?_ | refine zX (by omega) (by omega) ?_ | refine zR rfl ?_ | refine acellA ?_ | (apply zL H; (· repeat first | exact .h | apply AtK.t); (· rfl)) | (apply zA H; (· repeat first | exact .h | apply AtK.t)) | (apply zS H; (· repeat first | exact .h | apply AtK.t); (· rfl); (conv => whnf); clear H; intro τ H) | rw [List.length_map]); (refine wX ?_)))
        rw [show p.off + (total (p.fs.take k) : Int) + (p.fs[k].length : Int) = p.off + (total (p.fs.take (k + 1)) : Int) by omega]
        first
          | (refine ⟨(k + 1, υ), ⟨h, H⟩, by dsimp only; omega, Sub.refl _, ?_⟩; (refine wX ?_); (repeat' first | with_reducible exact EnvLe.refl _ | (refine EnvLe.node ?_ (by first | exact Or.inl rfl | exact Or.inr (Or.inl rfl) | exact Or.inr (Or.inr ⟨nofun, VLe.slice _ _ _⟩)) ?_)))
          | (refine ⟨(k + 1, τ), ⟨h, H⟩, by dsimp only; omega, Sub.refl _, ?_⟩; (refine wX ?_); (repeat' first | with_reducible exact EnvLe.refl _ | (refine EnvLe.node ?_ (by first | exact Or.inl rfl | exact Or.inr (Or.inl rfl) | exact Or.inr (Or.inr ⟨nofun, VLe.slice _ _ _⟩)) ?_)))
    · obtain rfl : k = p.fs.length := by omega
      rw [List.take_length]
      rw [List.take_length] at hak
      (repeat ((first | refine zI (by omega) ?_ | refine zE (by omega) (by omega) ?_ | refine zD (by omega) (by omega) ?_ | refine zY (by omega) ?_ | refine zN (by omega) ?_ | refine amin ?_ | refine amax ?_ | refine zU (by omega) ?_ | refine z8 (by omega) ?_ | refine zX (by omega) (by omega) ?_ | refine zR rfl ?_ | refine acellA ?_ | (apply zL H; (· repeat first | exact .h | apply AtK.t); (· rfl)) | (apply zA H; (· repeat first | exact .h | apply AtK.t)) | (apply zS H; (· repeat first | exact .h | apply AtK.t); (· rfl); (conv => whnf); clear H; intro τ H) | rw [List.length_map]); (refine wX ?_)))
      cases ends
      · (refine wX ?_)
        (repeat ((first | refine zI (by omega) ?_ | refine zE (by omega) (by omega) ?_ | refine zD (by omega) (by omega) ?_ | refine zY (by omega) ?_ | refine zN (by omega) ?_ | refine amin ?_ | refine amax ?_ | refine zU (by omega) ?_ | refine z8 (by omega) ?_ | refine zX (by omega) (by omega) ?_ | refine zR rfl ?_ | refine acellA ?_ | (apply zL H; (· repeat first | exact .h | apply AtK.t); (· rfl)) | (apply zA H; (· repeat first | exact .h | apply AtK.t)) | (apply zS H; (· repeat first | exact .h | apply AtK.t); (· rfl); (conv => whnf); clear H; intro τ H) | rw [List.length_map]); (refine wX ?_)))
        refine abits_eq rfl ?_
        (refine wX ?_)
        rw [if_neg (by simp), if_neg (by simp), if_neg (by simp)]
        by_cases hb : bitsOp .and .i64 p.fi 1 = 0
        · rw [if_pos hb]
          (repeat ((first | refine zI (by omega) ?_ | refine zE (by omega) (by omega) ?_ | refine zD (by omega) (by omega) ?_ | refine zY (by omega) ?_ | refine zN (by omega) ?_ | refine amin ?_ | refine amax ?_ | refine zU (by omega) ?_ | refine z8 (by omega) ?_ | refine zX (by omega) (by omega) ?_ | refine zR rfl ?_ | refine acellA ?_ | (apply zL H; (· repeat first | exact .h | apply AtK.t); (· rfl)) | (apply zA H; (· repeat first | exact .h | apply AtK.t)) | (apply zS H; (· repeat first | exact .h | apply AtK.t); (· rfl); (conv => whnf); clear H; intro τ H) | rw [List.length_map]); (refine wX ?_)))
          apply zMs H
          · (repeat first | exact .h | apply AtK.t)
          · rfl
          (conv => whnf)
          clear H
          intro τ H
          (refine wX ?_)
          exact aret (VLe.refl _) (Sub.refl _) ⟨rfl, H.tail⟩
        · rw [if_neg hb]
          (repeat ((first | refine zI (by omega) ?_ | refine zE (by omega) (by omega) ?_ | refine zD (by omega) (by omega) ?_ | refine zY (by omega) ?_ | refine zN (by omega) ?_ | refine amin ?_ | refine amax ?_ | refine zU (by omega) ?_ | refine z8 (by omega) ?_ | refine zX (by omega) (by omega) ?_ | refine zR rfl ?_ | refine acellA ?_ | (apply zL H; (· repeat first | exact .h | apply AtK.t); (· rfl)) | (apply zA H; (· repeat first | exact .h | apply AtK.t)) | (apply zS H; (· repeat first | exact .h | apply AtK.t); (· rfl); (conv => whnf); clear H; intro τ H) | rw [List.length_map]); (refine wX ?_)))
          exact aret (VLe.refl _) (Sub.refl _) ⟨rfl, H.tail⟩
      · (refine wX ?_)
        (repeat ((first | refine zI (by omega) ?_ | refine zE (by omega) (by omega) ?_ | refine zD (by omega) (by omega) ?_ | refine zY (by omega) ?_ | refine zN (by omega) ?_ | refine amin ?_ | refine amax ?_ | refine zU (by omega) ?_ | refine z8 (by omega) ?_ | refine zX (by omega) (by omega) ?_ | refine zR rfl ?_ | refine acellA ?_ | (apply zL H; (· repeat first | exact .h | apply AtK.t); (· rfl)) | (apply zA H; (· repeat first | exact .h | apply AtK.t)) | (apply zS H; (· repeat first | exact .h | apply AtK.t); (· rfl); (conv => whnf); clear H; intro τ H) | rw [List.length_map]); (refine wX ?_)))
        refine abits_eq rfl ?_
        (refine wX ?_)
        (repeat ((first | refine zI (by omega) ?_ | refine zE (by omega) (by omega) ?_ | refine zD (by omega) (by omega) ?_ | refine zY (by omega) ?_ | refine zN (by omega) ?_ | refine amin ?_ | refine amax ?_ | refine zU (by omega) ?_ | refine z8 (by omega) ?_ | refine zX (by omega) (by omega) ?_ | refine zR rfl ?_ | refine acellA ?_ | (apply zL H; (· repeat first | exact .h | apply AtK.t); (· rfl)) | (apply zA H; (· repeat first | exact .h | apply AtK.t)) | (apply zS H; (· repeat first | exact .h | apply AtK.t); (· rfl); (conv => whnf); clear H; intro τ H) | rw [List.length_map]); (refine wX ?_)))
        refine abits_eq rfl ?_
        (refine wX ?_)
        (repeat ((first | refine zI (by omega) ?_ | refine zE (by omega) (by omega) ?_ | refine zD (by omega) (by omega) ?_ | refine zY (by omega) ?_ | refine zN (by omega) ?_ | refine amin ?_ | refine amax ?_ | refine zU (by omega) ?_ | refine z8 (by omega) ?_ | refine zX (by omega) (by omega) ?_ | refine zR rfl ?_ | refine acellA ?_ | (apply zL H; (· repeat first | exact .h | apply AtK.t); (· rfl)) | (apply zA H; (· repeat first | exact .h | apply AtK.t)) | (apply zS H; (· repeat first | exact .h | apply AtK.t); (· rfl); (conv => whnf); clear H; intro τ H) | rw [List.length_map]); (refine wX ?_)))
        exact aret (VLe.refl _) (Sub.refl _) ⟨rfl, H.tail⟩
end
end Go.Proofs.Ytgobbmdbkmjlnaa
/-
  What came in parts: a packet that comes.
-/
namespace Go.Proofs.Ytgobbmdbkmjlnaa
set_option linter.unusedVariables false
set_option linter.unusedSimpArgs false
set_option maxRecDepth 20000
open Go Go.Am

theorem Hp.mid {σb σ : AHeap} {A B C : List HE} (H : Hp σb (A ++ (B ++ C)) σ) : Hp σb (B ++ (A ++ C)) σ :=
  H.perm (by rw [← List.append_assoc, ← List.append_assoc]; exact List.perm_append_comm.append_right _)
theorem Hp.mid2 {σb σ : AHeap} {A B C D : List HE} (H : Hp σb (A ++ (B ++ (C ++ D))) σ) : Hp σb (A ++ (C ++ (B ++ D))) σ :=
  H.perm (List.Perm.append_left A (by rw [← List.append_assoc, ← List.append_assoc]; exact List.perm_append_comm.append_right _))
theorem Hp.rest {σb σ : AHeap} {A L : List HE} (H : Hp σb (A ++ L) σ) : Hp σb L σ := (H.perm List.perm_append_comm).left
theorem RB.cells1 {v : AVal} {D : List UInt8} {E : List HE} (h : RB v D E) : v.cells = [v] := by cases h <;> rfl
theorem mapSet_same : ∀ {es : List (Int × AVal)} {n : Int} {x : AVal}, es.find? (fun e => e.1 == n) = some (n, x) → mapSet es n x = es
  | [], _, _, h => by simp at h
  | (m, y) :: r, n, x, h => by
    rw [List.find?_cons] at h
    by_cases hm : m = n
    · subst hm
      simp at h
      subst h
      simp [mapSet]
    · have hb : (m == n) = false := by simp [hm]
      dsimp only at h
      rw [hb] at h
      simp [mapSet, hm, mapSet_same (es := r) h]
theorem mapSet_new {es : List (Int × AVal)} {n : Int} {x : AVal} (h : es.find? (fun e => e.1 == n) = none) : mapSet es n x = es ++ [(n, x)] := by
  induction es with
  | nil => rfl
  | cons a r ih =>
    rw [List.find?_cons] at h
    obtain ⟨m, y⟩ := a
    by_cases hm : m = n
    · subst hm; simp at h
    · have hb : (m == n) = false := by simp [hm]
      dsimp only at h
      rw [hb] at h
      simp [mapSet, hm, ih h]
def endsB (p : Pk) : Bool := !p.part || p.last
/-- A packet's bytes, as a span. -/
def spanP (p : Pk) : Sp := (p.off, p.off + (total p.fs : Int))
/-- What Put says, of what is there of a piece. -/
def putK (p : Pk) (l : List Sp) (e : Int) : Int :=
  if rightB p = false then 1 else if fitsC l e (spanP p) (endsB p) ≠ 0 then fitsC l e (spanP p) (endsB p) else addC (spanP p) l
theorem right_ok {p : Pk} (h : rightB p = true) : 1 ≤ p.fs.length ∧ p.fs.length ≤ 24 ∧ (∀ f ∈ p.fs, f ≠ []) ∧ 0 ≤ p.fi ∧ p.fi ≤ 3 ∧ 0 ≤ p.off ∧ p.off ≤ 4000 ∧ (p.part = true ∨ p.off = 0) ∧ p.off + (total p.fs : Int) ≤ 4000 := by
  unfold rightB at h
  simp only [Bool.and_eq_true, Bool.not_eq_true', Bool.or_eq_false_iff, decide_eq_false_iff_not, decide_eq_true_eq, Bool.or_eq_true] at h
  obtain ⟨⟨⟨⟨⟨h1, h2⟩, h3⟩, h4⟩, h5⟩, ⟨⟨h6, h7⟩, h8⟩, h9⟩ := h
  refine ⟨by omega, by omega, fun f hf e => ?_, by omega, by omega, h6, h7, h8, by omega⟩
  have : hollowB p.fs = true := List.any_eq_true.2 ⟨f, hf, decide_eq_true e⟩
  rw [this] at h3; cases h3
theorem right_pos {p : Pk} (h : rightB p = true) : 1 ≤ total p.fs := by
  obtain ⟨h1, _, h3, _⟩ := right_ok h
  have h4 := total_get (l := p.fs) (i := 0) (by omega)
  have h5 : p.fs[0].length ≠ 0 := fun e => h3 _ (List.getElem_mem (by omega)) (List.length_eq_zero_iff.1 e)
  omega

section
variable {σb σ : AHeap} {ib im ip is ig : Nat} {e fi : Int} {l : List Sp} {tk : Tok} {v : AVal} {D : List UInt8} {em es : List (Int × AVal)} {E G : List HE}
theorem peFillA (h : RB v D E) (H : Hp σb (.o ip (.cells (peC v is e ig fi)) :: .o is (.cells [spL tk l]) :: (E ++ G)) σ) (f : Nat) (off : Int) (ho : off = f) (d : List UInt8) (hd : d ≠ []) (hf : f + d.length ≤ 1000000) (hD : D.length ≤ 1000000) (hl : l.length ≤ 1000000) :
    ACalls Try.prog i_rxbuf_piece_fill [.ptr ip 0, i64v off, sl .none d] σ fun r σ' => r = .tup [] ∧ ∃ v' E', RB v' (fillB l f d D) E' ∧ Hp σb (.o ip (.cells (peC v' is e ig fi)) :: .o is (.cells [spL tk l]) :: (E' ++ G)) σ' := by
  subst ho
  refine acall_less (peFill h (Hp.mid (A := [.o ip (.cells (peC v is e ig fi)), .o is (.cells [spL tk l])]) H) f d hd hf hD hl) ?_
  rintro _ σ' ⟨rfl, v', E', h', H'⟩
  exact ⟨_, _, VLe.refl _, Sub.refl _, rfl, v', E', h', Hp.mid (B := [.o ip (.cells (peC v' is e ig fi)), .o is (.cells [spL tk l])]) H'⟩

set_option maxHeartbeats 8000000 in
theorem buPutOld (h : RB v D E) (H : Hp σb (.o ip (.cells (peC v is e ig fi)) :: .o is (.cells [spL tk l]) :: .o ig (.map em) :: .o ib (.cells (buC im)) :: .o im (.map es) :: (E ++ G)) σ) (p : Pk) (he : es.find? (fun e => e.1 == p.sn) = some (p.sn, .ptr ip 0)) (hs : SOk l)
    (hD : D.length ≤ 1000000) (hl : p.fs.length ≤ 1000) (ht : total p.fs ≤ 1000000) :
    ACalls Try.prog i_rxbuf_Buffer_Put [.ptr ib 0, amV p] σ fun r σ' => r = i64v (putK p l e) ∧
      ((putK p l e ≠ 0 ∧ ∃ u, Hp σb (.o ip (.cells (peC v is e ig fi)) :: .o is (.cells [spL u l]) :: .o ig (.map em) :: .o ib (.cells (buC im)) :: .o im (.map es) :: (E ++ G)) σ') ∨
       (putK p l e = 0 ∧ ∃ v2 E2 u, RB v2 (fillB l p.off.toNat p.fs.flatten D) E2 ∧ Hp σb (.o ip (.cells (peC v2 is (noteE p (endsB p) e) ig (noteF p (endsB p) fi))) :: .o is (.cells [spL u (addS (spanP p) l)]) :: .o ig (.map (noteM p (endsB p) em)) :: .o ib (.cells (buC im)) :: .o im (.map es) :: (E2 ++ G)) σ')) := by
  refine k_rxbuf_Buffer_Put rfl ?_
  (refine wX ?_)
  refine hnew H rfl ?_
  clear H
  intro i3 τ H
  (refine wX ?_)
  refine acall (buMade (H.get (k := 4) rfl)) ?_
  rintro _ σ_ ⟨rfl, e_⟩
  obtain rfl := e_.symm
  refine ⟨?_, Ext.refl _⟩
  (refine wX ?_)
  (repeat ((first | refine zI (by omega) ?_ | refine zE (by omega) (by omega) ?_ | refine zD (by omega) (by omega) ?_ | refine zY (by omega) ?_ | refine zN (by omega) ?_ | refine amin ?_ | refine amax ?_ | refine zU (by omega) ?_ | refine z8 (by omega) ?_ | refine zX (by omega) (by omega) ?_ | refine zR rfl ?_ | refine acellA ?_ | (apply zL H; (· repeat first | exact .h | apply AtK.t); (· rfl)) | (apply zA H; (· repeat first | exact .h | apply AtK.t)) | (apply zS H; (· repeat first | exact .h | apply AtK.t); (· rfl); (conv => whnf); clear H; intro τ H) | rw [List.length_map]); (refine wX ?_)))
  refine acall (buRight p τ hl (by omega)) ?_
  rintro _ σ_ ⟨rfl, e_⟩
  obtain rfl := e_.symm
  refine ⟨?_, Ext.refl _⟩
  (refine wX ?_)
  rcases (show rightB p = false ∨ rightB p = true by cases rightB p <;> simp) with hr | hr
  · have hk : putK p l e = 1 := by unfold putK; rw [if_pos hr]
    rw [hr]
    (refine wX ?_)
    (repeat ((first | refine zI (by omega) ?_ | refine zE (by omega) (by omega) ?_ | refine zD (by omega) (by omega) ?_ | refine zY (by omega) ?_ | refine zN (by omega) ?_ | refine amin ?_ | refine amax ?_ | refine zU (by omega) ?_ | refine z8 (by omega) ?_ | refine zX (by omega) (by omega) ?_ | refine zR rfl ?_ | refine acellA ?_ | (apply zL H; (· repeat first | exact .h | apply AtK.t); (· rfl)) | (apply zA H; (· repeat first | exact .h | apply AtK.t)) | (apply zS H; (· repeat first | exact .h | apply AtK.t); (· rfl); (conv => whnf); clear H; intro τ H) | rw [List.length_map]); (refine wX ?_)))
    exact aret (VLe.refl _) (Sub.refl _) ⟨by rw [hk], .inl ⟨by rw [hk]; decide, ⟨tk, H.tail⟩⟩⟩
  rw [hr]
  obtain ⟨g1, g2, g3, g4, g5, g6, g7, g8, g9⟩ := right_ok hr
  have gp := right_pos hr
  have hdn : p.fs.flatten ≠ [] := fun h => by have : total p.fs = 0 := by unfold total; rw [h]; rfl
                                              omega
  have htl : p.fs.flatten.length = total p.fs := rfl
  (refine wX ?_)
  (repeat ((first | refine zI (by omega) ?_ | refine zE (by omega) (by omega) ?_ | refine zD (by omega) (by omega) ?_ | refine zY (by omega) ?_ | refine zN (by omega) ?_ | refine amin ?_ | refine amax ?_ | refine zU (by omega) ?_ | refine z8 (by omega) ?_ | refine zX (by omega) (by omega) ?_ | refine zR rfl ?_ | refine acellA ?_ | (apply zL H; (· repeat first | exact .h | apply AtK.t); (· rfl)) | (apply zA H; (· repeat first | exact .h | apply AtK.t)) | (apply zS H; (· repeat first | exact .h | apply AtK.t); (· rfl); (conv => whnf); clear H; intro τ H) | rw [List.length_map]); (refine wX ?_)))
  refine acall (aData p τ hl (by omega)) ?_
  rintro _ σ_ ⟨rfl, e_⟩
  obtain rfl := e_.symm
  refine ⟨?_, Ext.refl _⟩
  (refine wX ?_)
  (repeat ((first | refine zI (by omega) ?_ | refine zE (by omega) (by omega) ?_ | refine zD (by omega) (by omega) ?_ | refine zY (by omega) ?_ | refine zN (by omega) ?_ | refine amin ?_ | refine amax ?_ | refine zU (by omega) ?_ | refine z8 (by omega) ?_ | refine zX (by omega) (by omega) ?_ | refine zR rfl ?_ | refine acellA ?_ | (apply zL H; (· repeat first | exact .h | apply AtK.t); (· rfl)) | (apply zA H; (· repeat first | exact .h | apply AtK.t)) | (apply zS H; (· repeat first | exact .h | apply AtK.t); (· rfl); (conv => whnf); clear H; intro τ H) | rw [List.length_map]); (refine wX ?_)))
  refine hnew H rfl ?_
  clear H
  intro i6 τ H
  (refine wX ?_)
  (repeat ((first | refine zI (by omega) ?_ | refine zE (by omega) (by omega) ?_ | refine zD (by omega) (by omega) ?_ | refine zY (by omega) ?_ | refine zN (by omega) ?_ | refine amin ?_ | refine amax ?_ | refine zU (by omega) ?_ | refine z8 (by omega) ?_ | refine zX (by omega) (by omega) ?_ | refine zR rfl ?_ | refine acellA ?_ | (apply zL H; (· repeat first | exact .h | apply AtK.t); (· rfl)) | (apply zA H; (· repeat first | exact .h | apply AtK.t)) | (apply zS H; (· repeat first | exact .h | apply AtK.t); (· rfl); (conv => whnf); clear H; intro τ H) | rw [List.length_map]); (refine wX ?_)))
  rcases (show p.part = false ∨ p.part = true by cases p.part <;> simp) with hp | hp
  · have hen : endsB p = true := by unfold endsB; rw [hp]; rfl
    refine abr_true (show (!p.part) = true by rw [hp]; rfl) ?_
    (refine wX ?_)
    (repeat ((first | refine zI (by omega) ?_ | refine zE (by omega) (by omega) ?_ | refine zD (by omega) (by omega) ?_ | refine zY (by omega) ?_ | refine zN (by omega) ?_ | refine amin ?_ | refine amax ?_ | refine zU (by omega) ?_ | refine z8 (by omega) ?_ | refine zX (by omega) (by omega) ?_ | refine zR rfl ?_ | refine acellA ?_ | (apply zL H; (· repeat first | exact .h | apply AtK.t); (· rfl)) | (apply zA H; (· repeat first | exact .h | apply AtK.t)) | (apply zS H; (· repeat first | exact .h | apply AtK.t); (· rfl); (conv => whnf); clear H; intro τ H) | rw [List.length_map]); (refine wX ?_)))
    refine hlook H (k := 6) rfl ?_
    rw [he, Option.map_some, Option.getD_some]
    (refine wX ?_)
    (repeat ((first | refine zI (by omega) ?_ | refine zE (by omega) (by omega) ?_ | refine zD (by omega) (by omega) ?_ | refine zY (by omega) ?_ | refine zN (by omega) ?_ | refine amin ?_ | refine amax ?_ | refine zU (by omega) ?_ | refine z8 (by omega) ?_ | refine zX (by omega) (by omega) ?_ | refine zR rfl ?_ | refine acellA ?_ | (apply zL H; (· repeat first | exact .h | apply AtK.t); (· rfl)) | (apply zA H; (· repeat first | exact .h | apply AtK.t)) | (apply zS H; (· repeat first | exact .h | apply AtK.t); (· rfl); (conv => whnf); clear H; intro τ H) | rw [List.length_map]); (refine wX ?_)))
    replace H := Hp.mid (A := [.o i6 (.cells [i64v p.off, i64v (p.off + (total p.fs : Int))]), .o i3 (.cells (amC p))]) (B := [.o ip (.cells (peC v is e ig fi)), .o is (.cells [spL tk l]), .o ig (.map em)]) (C := .o ib (.cells (buC im)) :: .o im (.map es) :: (E ++ G)) H
    replace H : Hp σb (.o ip (.cells (peC v is e ig fi)) :: .o is (.cells [spL tk l]) :: .o ig (.map em) :: .o i6 (.cells [i64v p.off, i64v (p.off + (total p.fs : Int))]) :: .o i3 (.cells (amC p)) :: .o ib (.cells (buC im)) :: .o im (.map es) :: (E ++ G)) τ := H
    refine acall (peFits (H.get (k := 0) rfl) (H.get (k := 1) rfl) (by have := hs.k; omega) (spanP p) true) ?_
    rintro _ σ_ ⟨rfl, e_⟩
    obtain rfl := e_.symm
    refine ⟨?_, Ext.refl _⟩
    (refine wX ?_)
    have hk : putK p l e = if fitsC l e (spanP p) true ≠ 0 then fitsC l e (spanP p) true else addC (spanP p) l := by unfold putK; rw [if_neg (by rw [hr]; simp), hen]
    by_cases hc : fitsC l e (spanP p) true = 0
    case neg =>
      rw [if_pos hc] at hk
      (repeat ((first | refine zI (by omega) ?_ | refine zE (by omega) (by omega) ?_ | refine zD (by omega) (by omega) ?_ | refine zY (by omega) ?_ | refine zN (by omega) ?_ | refine amin ?_ | refine amax ?_ | refine zU (by omega) ?_ | refine z8 (by omega) ?_ | refine zX (by omega) (by omega) ?_ | refine zR rfl ?_ | refine acellA ?_ | (apply zL H; (· repeat first | exact .h | apply AtK.t); (· rfl)) | (apply zA H; (· repeat first | exact .h | apply AtK.t)) | (apply zS H; (· repeat first | exact .h | apply AtK.t); (· rfl); (conv => whnf); clear H; intro τ H) | rw [List.length_map]); (refine wX ?_)))
      exact aret (VLe.refl _) (Sub.refl _) ⟨by rw [hk], .inl ⟨by rw [hk]; exact hc, ⟨tk, Hp.rest (A := [.o i6 (.cells [i64v p.off, i64v (p.off + (total p.fs : Int))]), .o i3 (.cells (amC p))]) (Hp.mid (A := [.o ip (.cells (peC v is e ig fi)), .o is (.cells [spL tk l]), .o ig (.map em)]) (B := [.o i6 (.cells [i64v p.off, i64v (p.off + (total p.fs : Int))]), .o i3 (.cells (amC p))]) (C := .o ib (.cells (buC im)) :: .o im (.map es) :: (E ++ G)) H)⟩⟩⟩
    rw [if_neg (by rw [hc]; simp)] at hk
    rw [hc]
    (refine wX ?_)
    (repeat ((first | refine zI (by omega) ?_ | refine zE (by omega) (by omega) ?_ | refine zD (by omega) (by omega) ?_ | refine zY (by omega) ?_ | refine zN (by omega) ?_ | refine amin ?_ | refine amax ?_ | refine zU (by omega) ?_ | refine z8 (by omega) ?_ | refine zX (by omega) (by omega) ?_ | refine zR rfl ?_ | refine acellA ?_ | (apply zL H; (· repeat first | exact .h | apply AtK.t); (· rfl)) | (apply zA H; (· repeat first | exact .h | apply AtK.t)) | (apply zS H; (· repeat first | exact .h | apply AtK.t); (· rfl); (conv => whnf); clear H; intro τ H) | rw [List.length_map]); (refine wX ?_)))
    refine acall (cloneB (RB.dv (F := [.o ip (.cells (peC v is e ig fi)), .o is (.cells [spL tk l]), .o ig (.map em), .o i6 (.cells [i64v p.off, i64v (p.off + (total p.fs : Int))]), .o i3 (.cells (amC p)), .o ib (.cells (buC im)), .o im (.map es)]) h H) (by omega)) ?_
    rintro v1 υ ⟨E1, h1, N⟩
    refine ⟨?_, N.ext⟩
    replace H := Hp.mid (A := E1) (B := [.o ip (.cells (peC v is e ig fi)), .o is (.cells [spL tk l]), .o ig (.map em), .o i6 (.cells [i64v p.off, i64v (p.off + (total p.fs : Int))]), .o i3 (.cells (amC p)), .o ib (.cells (buC im)), .o im (.map es)]) (C := E ++ G) (H.join N)
    replace H : Hp σb (.o ip (.cells (peC v is e ig fi)) :: .o is (.cells [spL tk l]) :: .o ig (.map em) :: .o i6 (.cells [i64v p.off, i64v (p.off + (total p.fs : Int))]) :: .o i3 (.cells (amC p)) :: .o ib (.cells (buC im)) :: .o im (.map es) :: (E1 ++ (E ++ G))) υ := H
    clear N
    (refine wX ?_)
    (repeat ((first | refine zI (by omega) ?_ | refine zE (by omega) (by omega) ?_ | refine zD (by omega) (by omega) ?_ | refine zY (by omega) ?_ | refine zN (by omega) ?_ | refine amin ?_ | refine amax ?_ | refine zU (by omega) ?_ | refine z8 (by omega) ?_ | refine zX (by omega) (by omega) ?_ | refine zR rfl ?_ | refine acellA ?_ | (apply zL H; (· repeat first | exact .h | apply AtK.t); (· rfl)) | (apply zA H; (· repeat first | exact .h | apply AtK.t)) | (apply zS H; (· repeat first | exact .h | apply AtK.t); (· rfl); (conv => whnf); clear H; intro τ H) | rw [List.length_map]); (refine wX ?_)))
    rw [h1.cells1]
    (refine wX ?_)
    apply zS H
    · exact .h
    · show (v1.isCell && true) = true
      rw [h1.isCell]; rfl
    (conv => whnf)
    clear H
    intro τ H
    (refine wX ?_)
    (repeat ((first | refine zI (by omega) ?_ | refine zE (by omega) (by omega) ?_ | refine zD (by omega) (by omega) ?_ | refine zY (by omega) ?_ | refine zN (by omega) ?_ | refine amin ?_ | refine amax ?_ | refine zU (by omega) ?_ | refine z8 (by omega) ?_ | refine zX (by omega) (by omega) ?_ | refine zR rfl ?_ | refine acellA ?_ | (apply zL H; (· repeat first | exact .h | apply AtK.t); (· rfl)) | (apply zA H; (· repeat first | exact .h | apply AtK.t)) | (apply zS H; (· repeat first | exact .h | apply AtK.t); (· rfl); (conv => whnf); clear H; intro τ H) | rw [List.length_map]); (refine wX ?_)))
    replace H : Hp σb (.o ip (.cells (peC v1 is e ig fi)) :: .o is (.cells [spL tk l]) :: (E1 ++ ([.o ig (.map em), .o i6 (.cells [i64v p.off, i64v (p.off + (total p.fs : Int))]), .o i3 (.cells (amC p)), .o ib (.cells (buC im)), .o im (.map es)] ++ (E ++ G)))) τ :=
      Hp.mid (B := [.o ip (.cells (peC v1 is e ig fi)), .o is (.cells [spL tk l])]) (Hp.mid (A := [.o ip (.cells (peC v1 is e ig fi)), .o is (.cells [spL tk l]), .o ig (.map em), .o i6 (.cells [i64v p.off, i64v (p.off + (total p.fs : Int))]), .o i3 (.cells (amC p)), .o ib (.cells (buC im)), .o im (.map es)]) (B := E1) (C := E ++ G) H)
    refine acall (peFillA h1 H p.off.toNat p.off (by omega) p.fs.flatten hdn (by show p.off.toNat + p.fs.flatten.length ≤ _; omega) hD (by have := hs.k; omega)) ?_
    clear H h1
    rintro _ τ ⟨rfl, v2, E2, h2, H⟩
    replace H : Hp σb (.o ip (.cells (peC v2 is e ig fi)) :: .o is (.cells [spL tk l]) :: .o ig (.map em) :: .o i6 (.cells [i64v p.off, i64v (p.off + (total p.fs : Int))]) :: .o i3 (.cells (amC p)) :: .o ib (.cells (buC im)) :: .o im (.map es) :: (E2 ++ (E ++ G))) τ := Hp.mid2 (A := [.o ip (.cells (peC v2 is e ig fi)), .o is (.cells [spL tk l])]) (B := E2) (C := [.o ig (.map em), .o i6 (.cells [i64v p.off, i64v (p.off + (total p.fs : Int))]), .o i3 (.cells (amC p)), .o ib (.cells (buC im)), .o im (.map es)]) H
    (refine wX ?_)
    (repeat ((first | refine zI (by omega) ?_ | refine zE (by omega) (by omega) ?_ | refine zD (by omega) (by omega) ?_ | refine zY (by omega) ?_ | refine zN (by omega) ?_ | refine amin ?_ | refine amax ?_ | refine zU (by omega) ?_ | refine z8 (by omega) ?_ | refine zX (by omega) (by omega) ?_ | refine zR rfl ?_ | refine acellA ?_ | (apply zL H; (· repeat first | exact .h | apply AtK.t); (· rfl)) | (apply zA H; (· repeat first | exact .h | apply AtK.t)) | (apply zS H; (· repeat first | exact .h | apply AtK.t); (· rfl); (conv => whnf); clear H; intro τ H) | rw [List.length_map]); (refine wX ?_)))
    refine acall (sAdd (H.perm (.swap _ _ _)) (spanP p) (by have := hs.k; omega)) ?_
    clear H
    rintro _ τ ⟨rfl, u, H⟩
    replace H : Hp σb (.o is (.cells [spL u (addS (spanP p) l)]) :: .o ip (.cells (peC v2 is e ig fi)) :: .o ig (.map em) :: .o i6 (.cells [i64v p.off, i64v (p.off + (total p.fs : Int))]) :: .o i3 (.cells (amC p)) :: .o ib (.cells (buC im)) :: .o im (.map es) :: (E2 ++ (E ++ G))) τ := H
    (refine wX ?_)
    by_cases ha : addC (spanP p) l = 0
    case neg =>
      rw [add_no ha] at H
      (repeat ((first | refine zI (by omega) ?_ | refine zE (by omega) (by omega) ?_ | refine zD (by omega) (by omega) ?_ | refine zY (by omega) ?_ | refine zN (by omega) ?_ | refine amin ?_ | refine amax ?_ | refine zU (by omega) ?_ | refine z8 (by omega) ?_ | refine zX (by omega) (by omega) ?_ | refine zR rfl ?_ | refine acellA ?_ | (apply zL H; (· repeat first | exact .h | apply AtK.t); (· rfl)) | (apply zA H; (· repeat first | exact .h | apply AtK.t)) | (apply zS H; (· repeat first | exact .h | apply AtK.t); (· rfl); (conv => whnf); clear H; intro τ H) | rw [List.length_map]); (refine wX ?_)))
      rw [RB.cells1 h]
      (refine wX ?_)
      apply zS H
      · repeat first | exact .h | apply AtK.t
      · show ((v : AVal).isCell && true) = true
        rw [RB.isCell h]; rfl
      (conv => whnf)
      clear H
      intro τ H
      (refine wX ?_)
      have H := Hp.rest (A := E2) (Hp.mid (A := [.o is (.cells [spL u l]), .o ip (.cells (peC v is e ig fi)), .o ig (.map em), .o i6 (.cells [i64v p.off, i64v (p.off + (total p.fs : Int))]), .o i3 (.cells (amC p)), .o ib (.cells (buC im)), .o im (.map es)]) (B := E2) H)
      (repeat ((first | refine zI (by omega) ?_ | refine zE (by omega) (by omega) ?_ | refine zD (by omega) (by omega) ?_ | refine zY (by omega) ?_ | refine zN (by omega) ?_ | refine amin ?_ | refine amax ?_ | refine zU (by omega) ?_ | refine z8 (by omega) ?_ | refine zX (by omega) (by omega) ?_ | refine zR rfl ?_ | refine acellA ?_ | (apply zL H; (· repeat first | exact .h | apply AtK.t); (· rfl)) | (apply zA H; (· repeat first | exact .h | apply AtK.t)) | (apply zS H; (· repeat first | exact .h | apply AtK.t); (· rfl); (conv => whnf); clear H; intro τ H) | rw [List.length_map]); (refine wX ?_)))
      exact aret (VLe.refl _) (Sub.refl _) ⟨by rw [hk], .inl ⟨by rw [hk]; exact ha, ⟨u, Hp.rest (A := [.o i6 (.cells [i64v p.off, i64v (p.off + (total p.fs : Int))]), .o i3 (.cells (amC p))]) (Hp.mid (A := [.o ip (.cells (peC v is e ig fi)), .o is (.cells [spL u l]), .o ig (.map em)]) (B := [.o i6 (.cells [i64v p.off, i64v (p.off + (total p.fs : Int))]), .o i3 (.cells (amC p))]) (C := .o ib (.cells (buC im)) :: .o im (.map es) :: (E ++ G)) (H.perm (.swap _ _ _)))⟩⟩⟩
    rw [ha]
    (refine wX ?_)
    (repeat ((first | refine zI (by omega) ?_ | refine zE (by omega) (by omega) ?_ | refine zD (by omega) (by omega) ?_ | refine zY (by omega) ?_ | refine zN (by omega) ?_ | refine amin ?_ | refine amax ?_ | refine zU (by omega) ?_ | refine z8 (by omega) ?_ | refine zX (by omega) (by omega) ?_ | refine zR rfl ?_ | refine acellA ?_ | (apply zL H; (· repeat first | exact .h | apply AtK.t); (· rfl)) | (apply zA H; (· repeat first | exact .h | apply AtK.t)) | (apply zS H; (· repeat first | exact .h | apply AtK.t); (· rfl); (conv => whnf); clear H; intro τ H) | rw [List.length_map]); (refine wX ?_)))
    replace H : Hp σb (.o ip (.cells (peC v2 is e ig fi)) :: .o ig (.map em) :: .o is (.cells [spL u (addS (spanP p) l)]) :: (.o i6 (.cells [i64v p.off, i64v (p.off + (total p.fs : Int))]) :: .o i3 (.cells (amC p)) :: .o ib (.cells (buC im)) :: .o im (.map es) :: (E2 ++ (E ++ G)))) τ := H.perm (.trans (.swap _ _ _) (.cons _ (.swap _ _ _)))
    refine acall (peNote H h2.isCell p true (by omega) (by omega) (by omega)) ?_
    clear H
    rintro _ τ ⟨rfl, H⟩
    (refine wX ?_)
    (repeat ((first | refine zI (by omega) ?_ | refine zE (by omega) (by omega) ?_ | refine zD (by omega) (by omega) ?_ | refine zY (by omega) ?_ | refine zN (by omega) ?_ | refine amin ?_ | refine amax ?_ | refine zU (by omega) ?_ | refine z8 (by omega) ?_ | refine zX (by omega) (by omega) ?_ | refine zR rfl ?_ | refine acellA ?_ | (apply zL H; (· repeat first | exact .h | apply AtK.t); (· rfl)) | (apply zA H; (· repeat first | exact .h | apply AtK.t)) | (apply zS H; (· repeat first | exact .h | apply AtK.t); (· rfl); (conv => whnf); clear H; intro τ H) | rw [List.length_map]); (refine wX ?_)))
    apply zMs H
    · (repeat first | exact .h | apply AtK.t)
    · rfl
    (conv => whnf)
    clear H
    intro τ H
    (refine wX ?_)
    rw [mapSet_same he] at H
    (repeat ((first | refine zI (by omega) ?_ | refine zE (by omega) (by omega) ?_ | refine zD (by omega) (by omega) ?_ | refine zY (by omega) ?_ | refine zN (by omega) ?_ | refine amin ?_ | refine amax ?_ | refine zU (by omega) ?_ | refine z8 (by omega) ?_ | refine zX (by omega) (by omega) ?_ | refine zR rfl ?_ | refine acellA ?_ | (apply zL H; (· repeat first | exact .h | apply AtK.t); (· rfl)) | (apply zA H; (· repeat first | exact .h | apply AtK.t)) | (apply zS H; (· repeat first | exact .h | apply AtK.t); (· rfl); (conv => whnf); clear H; intro τ H) | rw [List.length_map]); (refine wX ?_)))
    rw [hen]
    exact aret (VLe.refl _) (Sub.refl _) ⟨by rw [hk, ha], .inr ⟨by rw [hk, ha], ⟨v2, E2, u, h2, (Hp.rest (A := E) (Hp.mid (A := .o ip (.cells (peC v2 is (noteE p true e) ig (noteF p true fi))) :: .o ig (.map (noteM p true em)) :: .o is (.cells [spL u (addS (spanP p) l)]) :: .o ib (.cells (buC im)) :: .o im (.map es) :: E2) (B := E) (C := G) (Hp.rest (A := [.o i6 (.cells [i64v p.off, i64v (p.off + (total p.fs : Int))]), .o i3 (.cells (amC p))]) (Hp.mid (A := [.o ip (.cells (peC v2 is (noteE p true e) ig (noteF p true fi))), .o ig (.map (noteM p true em)), .o is (.cells [spL u (addS (spanP p) l)])]) (B := [.o i6 (.cells [i64v p.off, i64v (p.off + (total p.fs : Int))]), .o i3 (.cells (amC p))]) (C := .o ib (.cells (buC im)) :: .o im (.map es) :: (E2 ++ (E ++ G))) H)))).perm (.cons _ (.swap _ _ _))⟩⟩⟩
  · have hen : endsB p = p.last := by unfold endsB; rw [hp]; rfl
    refine abr_false (show (!p.part) = false by rw [hp]; rfl) ?_
    (refine wX ?_)
    (repeat ((first | refine zI (by omega) ?_ | refine zE (by omega) (by omega) ?_ | refine zD (by omega) (by omega) ?_ | refine zY (by omega) ?_ | refine zN (by omega) ?_ | refine amin ?_ | refine amax ?_ | refine zU (by omega) ?_ | refine z8 (by omega) ?_ | refine zX (by omega) (by omega) ?_ | refine zR rfl ?_ | refine acellA ?_ | (apply zL H; (· repeat first | exact .h | apply AtK.t); (· rfl)) | (apply zA H; (· repeat first | exact .h | apply AtK.t)) | (apply zS H; (· repeat first | exact .h | apply AtK.t); (· rfl); (conv => whnf); clear H; intro τ H) | rw [List.length_map]); (refine wX ?_)))
    refine hlook H (k := 6) rfl ?_
    rw [he, Option.map_some, Option.getD_some]
    (refine wX ?_)
    (repeat ((first | refine zI (by omega) ?_ | refine zE (by omega) (by omega) ?_ | refine zD (by omega) (by omega) ?_ | refine zY (by omega) ?_ | refine zN (by omega) ?_ | refine amin ?_ | refine amax ?_ | refine zU (by omega) ?_ | refine z8 (by omega) ?_ | refine zX (by omega) (by omega) ?_ | refine zR rfl ?_ | refine acellA ?_ | (apply zL H; (· repeat first | exact .h | apply AtK.t); (· rfl)) | (apply zA H; (· repeat first | exact .h | apply AtK.t)) | (apply zS H; (· repeat first | exact .h | apply AtK.t); (· rfl); (conv => whnf); clear H; intro τ H) | rw [List.length_map]); (refine wX ?_)))
    replace H := Hp.mid (A := [.o i6 (.cells [i64v p.off, i64v (p.off + (total p.fs : Int))]), .o i3 (.cells (amC p))]) (B := [.o ip (.cells (peC v is e ig fi)), .o is (.cells [spL tk l]), .o ig (.map em)]) (C := .o ib (.cells (buC im)) :: .o im (.map es) :: (E ++ G)) H
    replace H : Hp σb (.o ip (.cells (peC v is e ig fi)) :: .o is (.cells [spL tk l]) :: .o ig (.map em) :: .o i6 (.cells [i64v p.off, i64v (p.off + (total p.fs : Int))]) :: .o i3 (.cells (amC p)) :: .o ib (.cells (buC im)) :: .o im (.map es) :: (E ++ G)) τ := H
    refine acall (peFits (H.get (k := 0) rfl) (H.get (k := 1) rfl) (by have := hs.k; omega) (spanP p) p.last) ?_
    rintro _ σ_ ⟨rfl, e_⟩
    obtain rfl := e_.symm
    refine ⟨?_, Ext.refl _⟩
    (refine wX ?_)
    have hk : putK p l e = if fitsC l e (spanP p) p.last ≠ 0 then fitsC l e (spanP p) p.last else addC (spanP p) l := by unfold putK; rw [if_neg (by rw [hr]; simp), hen]
    by_cases hc : fitsC l e (spanP p) p.last = 0
    case neg =>
      rw [if_pos hc] at hk
      (repeat ((first | refine zI (by omega) ?_ | refine zE (by omega) (by omega) ?_ | refine zD (by omega) (by omega) ?_ | refine zY (by omega) ?_ | refine zN (by omega) ?_ | refine amin ?_ | refine amax ?_ | refine zU (by omega) ?_ | refine z8 (by omega) ?_ | refine zX (by omega) (by omega) ?_ | refine zR rfl ?_ | refine acellA ?_ | (apply zL H; (· repeat first | exact .h | apply AtK.t); (· rfl)) | (apply zA H; (· repeat first | exact .h | apply AtK.t)) | (apply zS H; (· repeat first | exact .h | apply AtK.t); (· rfl); (conv => whnf); clear H; intro τ H) | rw [List.length_map]); (refine wX ?_)))
      exact aret (VLe.refl _) (Sub.refl _) ⟨by rw [hk], .inl ⟨by rw [hk]; exact hc, ⟨tk, Hp.rest (A := [.o i6 (.cells [i64v p.off, i64v (p.off + (total p.fs : Int))]), .o i3 (.cells (amC p))]) (Hp.mid (A := [.o ip (.cells (peC v is e ig fi)), .o is (.cells [spL tk l]), .o ig (.map em)]) (B := [.o i6 (.cells [i64v p.off, i64v (p.off + (total p.fs : Int))]), .o i3 (.cells (amC p))]) (C := .o ib (.cells (buC im)) :: .o im (.map es) :: (E ++ G)) H)⟩⟩⟩
    rw [if_neg (by rw [hc]; simp)] at hk
    rw [hc]
    (refine wX ?_)
    (repeat ((first | refine zI (by omega) ?_ | refine zE (by omega) (by omega) ?_ | refine zD (by omega) (by omega) ?_ | refine zY (by omega) ?_ | refine zN (by omega) ?_ | refine amin ?_ | refine amax ?_ | refine zU (by omega) ?_ | refine z8 (by omega) ?_ | refine zX (by omega) (by omega) ?_ | refine zR rfl ?_ | refine acellA ?_ | (apply zL H; (· repeat first | exact .h | apply AtK.t); (· rfl)) | (apply zA H; (· repeat first | exact .h | apply AtK.t)) | (apply zS H; (· repeat first | exact .h | apply AtK.t); (· rfl); (conv => whnf); clear H; intro τ H) | rw [List.length_map]); (refine wX ?_)))
    refine acall (cloneB (RB.dv (F := [.o ip (.cells (peC v is e ig fi)), .o is (.cells [spL tk l]), .o ig (.map em), .o i6 (.cells [i64v p.off, i64v (p.off + (total p.fs : Int))]), .o i3 (.cells (amC p)), .o ib (.cells (buC im)), .o im (.map es)]) h H) (by omega)) ?_
    rintro v1 υ ⟨E1, h1, N⟩
    refine ⟨?_, N.ext⟩
    replace H := Hp.mid (A := E1) (B := [.o ip (.cells (peC v is e ig fi)), .o is (.cells [spL tk l]), .o ig (.map em), .o i6 (.cells [i64v p.off, i64v (p.off + (total p.fs : Int))]), .o i3 (.cells (amC p)), .o ib (.cells (buC im)), .o im (.map es)]) (C := E ++ G) (H.join N)
    replace H : Hp σb (.o ip (.cells (peC v is e ig fi)) :: .o is (.cells [spL tk l]) :: .o ig (.map em) :: .o i6 (.cells [i64v p.off, i64v (p.off + (total p.fs : Int))]) :: .o i3 (.cells (amC p)) :: .o ib (.cells (buC im)) :: .o im (.map es) :: (E1 ++ (E ++ G))) υ := H
    clear N
    (refine wX ?_)
    (repeat ((first | refine zI (by omega) ?_ | refine zE (by omega) (by omega) ?_ | refine zD (by omega) (by omega) ?_ | refine zY (by omega) ?_ | refine zN (by omega) ?_ | refine amin ?_ | refine amax ?_ | refine zU (by omega) ?_ | refine z8 (by omega) ?_ | refine zX (by omega) (by omega) ?_ | refine zR rfl ?_ | refine acellA ?_ | (apply zL H; (· repeat first | exact .h | apply AtK.t); (· rfl)) | (apply zA H; (· repeat first | exact .h | apply AtK.t)) | (apply zS H; (· repeat first | exact .h | apply AtK.t); (· rfl); (conv => whnf); clear H; intro τ H) | rw [List.length_map]); (refine wX ?_)))
    rw [h1.cells1]
    (refine wX ?_)
    apply zS H
    · exact .h
    · show (v1.isCell && true) = true
      rw [h1.isCell]; rfl
    (conv => whnf)
    clear H
    intro τ H
    (refine wX ?_)
    (repeat ((first | refine zI (by omega) ?_ | refine zE (by omega) (by omega) ?_ | refine zD (by omega) (by omega) ?_ | refine zY (by omega) ?_ | refine zN (by omega) ?_ | refine amin ?_ | refine amax ?_ | refine zU (by omega) ?_ | refine z8 (by omega) ?_ | refine zX (by omega) (by omega) ?_ | refine zR rfl ?_ | refine acellA ?_ | (apply zL H; (· repeat first | exact .h | apply AtK.t); (· rfl)) | (apply zA H; (· repeat first | exact .h | apply AtK.t)) | (apply zS H; (· repeat first | exact .h | apply AtK.t); (· rfl); (conv => whnf); clear H; intro τ H) | rw [List.length_map]); (refine wX ?_)))
    replace H : Hp σb (.o ip (.cells (peC v1 is e ig fi)) :: .o is (.cells [spL tk l]) :: (E1 ++ ([.o ig (.map em), .o i6 (.cells [i64v p.off, i64v (p.off + (total p.fs : Int))]), .o i3 (.cells (amC p)), .o ib (.cells (buC im)), .o im (.map es)] ++ (E ++ G)))) τ :=
      Hp.mid (B := [.o ip (.cells (peC v1 is e ig fi)), .o is (.cells [spL tk l])]) (Hp.mid (A := [.o ip (.cells (peC v1 is e ig fi)), .o is (.cells [spL tk l]), .o ig (.map em), .o i6 (.cells [i64v p.off, i64v (p.off + (total p.fs : Int))]), .o i3 (.cells (amC p)), .o ib (.cells (buC im)), .o im (.map es)]) (B := E1) (C := E ++ G) H)
    refine acall (peFillA h1 H p.off.toNat p.off (by omega) p.fs.flatten hdn (by show p.off.toNat + p.fs.flatten.length ≤ _; omega) hD (by have := hs.k; omega)) ?_
    clear H h1
    rintro _ τ ⟨rfl, v2, E2, h2, H⟩
    replace H : Hp σb (.o ip (.cells (peC v2 is e ig fi)) :: .o is (.cells [spL tk l]) :: .o ig (.map em) :: .o i6 (.cells [i64v p.off, i64v (p.off + (total p.fs : Int))]) :: .o i3 (.cells (amC p)) :: .o ib (.cells (buC im)) :: .o im (.map es) :: (E2 ++ (E ++ G))) τ := Hp.mid2 (A := [.o ip (.cells (peC v2 is e ig fi)), .o is (.cells [spL tk l])]) (B := E2) (C := [.o ig (.map em), .o i6 (.cells [i64v p.off, i64v (p.off + (total p.fs : Int))]), .o i3 (.cells (amC p)), .o ib (.cells (buC im)), .o im (.map es)]) H
    (refine wX ?_)
    (repeat ((first | refine zI (by omega) ?_ | refine zE (by omega) (by omega) ?_ | refine zD (by omega) (by omega) ?_ | refine zY (by omega) ?_ | refine zN (by omega) ?_ | refine amin ?_ | refine amax ?_ | refine zU (by omega) ?_ | refine z8 (by omega) ?_ | refine zX (by omega) (by omega) ?_ | refine zR rfl ?_ | refine acellA ?_ | (apply zL H; (· repeat first | exact .h | apply AtK.t); (· rfl)) | (apply zA H; (· repeat first | exact .h | apply AtK.t)) | (apply zS H; (· repeat first | exact .h | apply AtK.t); (· rfl); (conv => whnf); clear H; intro τ H) | rw [List.length_map]); (refine wX ?_)))
    refine acall (sAdd (H.perm (.swap _ _ _)) (spanP p) (by have := hs.k; omega)) ?_
    clear H
    rintro _ τ ⟨rfl, u, H⟩
    replace H : Hp σb (.o is (.cells [spL u (addS (spanP p) l)]) :: .o ip (.cells (peC v2 is e ig fi)) :: .o ig (.map em) :: .o i6 (.cells [i64v p.off, i64v (p.off + (total p.fs : Int))]) :: .o i3 (.cells (amC p)) :: .o ib (.cells (buC im)) :: .o im (.map es) :: (E2 ++ (E ++ G))) τ := H
    (refine wX ?_)
    by_cases ha : addC (spanP p) l = 0
    case neg =>
      rw [add_no ha] at H
      (repeat ((first | refine zI (by omega) ?_ | refine zE (by omega) (by omega) ?_ | refine zD (by omega) (by omega) ?_ | refine zY (by omega) ?_ | refine zN (by omega) ?_ | refine amin ?_ | refine amax ?_ | refine zU (by omega) ?_ | refine z8 (by omega) ?_ | refine zX (by omega) (by omega) ?_ | refine zR rfl ?_ | refine acellA ?_ | (apply zL H; (· repeat first | exact .h | apply AtK.t); (· rfl)) | (apply zA H; (· repeat first | exact .h | apply AtK.t)) | (apply zS H; (· repeat first | exact .h | apply AtK.t); (· rfl); (conv => whnf); clear H; intro τ H) | rw [List.length_map]); (refine wX ?_)))
      rw [RB.cells1 h]
      (refine wX ?_)
      apply zS H
      · repeat first | exact .h | apply AtK.t
      · show ((v : AVal).isCell && true) = true
        rw [RB.isCell h]; rfl
      (conv => whnf)
      clear H
      intro τ H
      (refine wX ?_)
      have H := Hp.rest (A := E2) (Hp.mid (A := [.o is (.cells [spL u l]), .o ip (.cells (peC v is e ig fi)), .o ig (.map em), .o i6 (.cells [i64v p.off, i64v (p.off + (total p.fs : Int))]), .o i3 (.cells (amC p)), .o ib (.cells (buC im)), .o im (.map es)]) (B := E2) H)
      (repeat ((first | refine zI (by omega) ?_ | refine zE (by omega) (by omega) ?_ | refine zD (by omega) (by omega) ?_ | refine zY (by omega) ?_ | refine zN (by omega) ?_ | refine amin ?_ | refine amax ?_ | refine zU (by omega) ?_ | refine z8 (by omega) ?_ | refine zX (by omega) (by omega) ?_ | refine zR rfl ?_ | refine acellA ?_ | (apply zL H; (· repeat first | exact .h | apply AtK.t); (· rfl)) | (apply zA H; (· repeat first | exact .h | apply AtK.t)) | (apply zS H; (· repeat first | exact .h | apply AtK.t); (· rfl); (conv => whnf); clear H; intro τ H) | rw [List.length_map]); (refine wX ?_)))
      exact aret (VLe.refl _) (Sub.refl _) ⟨by rw [hk], .inl ⟨by rw [hk]; exact ha, ⟨u, Hp.rest (A := [.o i6 (.cells [i64v p.off, i64v (p.off + (total p.fs : Int))]), .o i3 (.cells (amC p))]) (Hp.mid (A := [.o ip (.cells (peC v is e ig fi)), .o is (.cells [spL u l]), .o ig (.map em)]) (B := [.o i6 (.cells [i64v p.off, i64v (p.off + (total p.fs : Int))]), .o i3 (.cells (amC p))]) (C := .o ib (.cells (buC im)) :: .o im (.map es) :: (E ++ G)) (H.perm (.swap _ _ _)))⟩⟩⟩
    rw [ha]
    (refine wX ?_)
    (repeat ((first | refine zI (by omega) ?_ | refine zE (by omega) (by omega) ?_ | refine zD (by omega) (by omega) ?_ | refine zY (by omega) ?_ | refine zN (by omega) ?_ | refine amin ?_ | refine amax ?_ | refine zU (by omega) ?_ | refine z8 (by omega) ?_ | refine zX (by omega) (by omega) ?_ | refine zR rfl ?_ | refine acellA ?_ | (apply zL H; (· repeat first | exact .h | apply AtK.t); (· rfl)) | (apply zA H; (· repeat first | exact .h | apply AtK.t)) | (apply zS H; (· repeat first | exact .h | apply AtK.t); (· rfl); (conv => whnf); clear H; intro τ H) | rw [List.length_map]); (refine wX ?_)))
    replace H : Hp σb (.o ip (.cells (peC v2 is e ig fi)) :: .o ig (.map em) :: .o is (.cells [spL u (addS (spanP p) l)]) :: (.o i6 (.cells [i64v p.off, i64v (p.off + (total p.fs : Int))]) :: .o i3 (.cells (amC p)) :: .o ib (.cells (buC im)) :: .o im (.map es) :: (E2 ++ (E ++ G)))) τ := H.perm (.trans (.swap _ _ _) (.cons _ (.swap _ _ _)))
    refine acall (peNote H h2.isCell p p.last (by omega) (by omega) (by omega)) ?_
    clear H
    rintro _ τ ⟨rfl, H⟩
    (refine wX ?_)
    (repeat ((first | refine zI (by omega) ?_ | refine zE (by omega) (by omega) ?_ | refine zD (by omega) (by omega) ?_ | refine zY (by omega) ?_ | refine zN (by omega) ?_ | refine amin ?_ | refine amax ?_ | refine zU (by omega) ?_ | refine z8 (by omega) ?_ | refine zX (by omega) (by omega) ?_ | refine zR rfl ?_ | refine acellA ?_ | (apply zL H; (· repeat first | exact .h | apply AtK.t); (· rfl)) | (apply zA H; (· repeat first | exact .h | apply AtK.t)) | (apply zS H; (· repeat first | exact .h | apply AtK.t); (· rfl); (conv => whnf); clear H; intro τ H) | rw [List.length_map]); (refine wX ?_)))
    apply zMs H
    · (repeat first | exact .h | apply AtK.t)
    · rfl
    (conv => whnf)
    clear H
    intro τ H
    (refine wX ?_)
    rw [mapSet_same he] at H
    (repeat ((first | refine zI (by omega) ?_ | refine zE (by omega) (by omega) ?_ | refine zD (by omega) (by omega) ?_ | refine zY (by omega) ?_ | refine zN (by omega) ?_ | refine amin ?_ | refine amax ?_ | refine zU (by omega) ?_ | refine z8 (by omega) ?_ | refine zX (by omega) (by omega) ?_ | refine zR rfl ?_ | refine acellA ?_ | (apply zL H; (· repeat first | exact .h | apply AtK.t); (· rfl)) | (apply zA H; (· repeat first | exact .h | apply AtK.t)) | (apply zS H; (· repeat first | exact .h | apply AtK.t); (· rfl); (conv => whnf); clear H; intro τ H) | rw [List.length_map]); (refine wX ?_)))
    rw [hen]
    exact aret (VLe.refl _) (Sub.refl _) ⟨by rw [hk, ha], .inr ⟨by rw [hk, ha], ⟨v2, E2, u, h2, (Hp.rest (A := E) (Hp.mid (A := .o ip (.cells (peC v2 is (noteE p p.last e) ig (noteF p p.last fi))) :: .o ig (.map (noteM p p.last em)) :: .o is (.cells [spL u (addS (spanP p) l)]) :: .o ib (.cells (buC im)) :: .o im (.map es) :: E2) (B := E) (C := G) (Hp.rest (A := [.o i6 (.cells [i64v p.off, i64v (p.off + (total p.fs : Int))]), .o i3 (.cells (amC p))]) (Hp.mid (A := [.o ip (.cells (peC v2 is (noteE p p.last e) ig (noteF p p.last fi))), .o ig (.map (noteM p p.last em)), .o is (.cells [spL u (addS (spanP p) l)])]) (B := [.o i6 (.cells [i64v p.off, i64v (p.off + (total p.fs : Int))]), .o i3 (.cells (amC p))]) (C := .o ib (.cells (buC im)) :: .o im (.map es) :: (E2 ++ (E ++ G))) H)))).perm (.cons _ (.swap _ _ _))⟩⟩⟩

set_option maxHeartbeats 8000000 in
theorem buPutNew (H : Hp σb (.o ib (.cells (buC im)) :: .o im (.map es) :: G) σ) (p : Pk) (hf : es.find? (fun e => e.1 == p.sn) = none) (hl : p.fs.length ≤ 1000) (ht : total p.fs ≤ 1000000) :
    ACalls Try.prog i_rxbuf_Buffer_Put [.ptr ib 0, amV p] σ fun r σ' => r = i64v (putK p [] (-1)) ∧
      ((putK p [] (-1) ≠ 0 ∧ Hp σb (.o ib (.cells (buC im)) :: .o im (.map es) :: G) σ') ∨
       (putK p [] (-1) = 0 ∧ ∃ ip is ig v2 E2 u, RB v2 (fillB [] p.off.toNat p.fs.flatten []) E2 ∧ Hp σb (.o ip (.cells (peC v2 is (noteE p (endsB p) (-1)) ig (noteF p (endsB p) 0))) :: .o is (.cells [spL u (addS (spanP p) [])]) :: .o ig (.map (noteM p (endsB p) [])) :: .o ib (.cells (buC im)) :: .o im (.map (es ++ [(p.sn, .ptr ip 0)])) :: (E2 ++ G)) σ')) := by
  refine k_rxbuf_Buffer_Put rfl ?_
  (refine wX ?_)
  refine hnew H rfl ?_
  clear H
  intro i3 τ H
  (refine wX ?_)
  refine acall (buMade (H.get (k := 1) rfl)) ?_
  rintro _ σ_ ⟨rfl, e_⟩
  obtain rfl := e_.symm
  refine ⟨?_, Ext.refl _⟩
  (refine wX ?_)
  (repeat ((first | refine zI (by omega) ?_ | refine zE (by omega) (by omega) ?_ | refine zD (by omega) (by omega) ?_ | refine zY (by omega) ?_ | refine zN (by omega) ?_ | refine amin ?_ | refine amax ?_ | refine zU (by omega) ?_ | refine z8 (by omega) ?_ | refine zX (by omega) (by omega) ?_ | refine zR rfl ?_ | refine acellA ?_ | (apply zL H; (· repeat first | exact .h | apply AtK.t); (· rfl)) | (apply zA H; (· repeat first | exact .h | apply AtK.t)) | (apply zS H; (· repeat first | exact .h | apply AtK.t); (· rfl); (conv => whnf); clear H; intro τ H) | rw [List.length_map]); (refine wX ?_)))
  refine acall (buRight p τ hl (by omega)) ?_
  rintro _ σ_ ⟨rfl, e_⟩
  obtain rfl := e_.symm
  refine ⟨?_, Ext.refl _⟩
  (refine wX ?_)
  rcases (show rightB p = false ∨ rightB p = true by cases rightB p <;> simp) with hr | hr
  · have hk : putK p [] (-1) = 1 := by unfold putK; rw [if_pos hr]
    rw [hr]
    (refine wX ?_)
    (repeat ((first | refine zI (by omega) ?_ | refine zE (by omega) (by omega) ?_ | refine zD (by omega) (by omega) ?_ | refine zY (by omega) ?_ | refine zN (by omega) ?_ | refine amin ?_ | refine amax ?_ | refine zU (by omega) ?_ | refine z8 (by omega) ?_ | refine zX (by omega) (by omega) ?_ | refine zR rfl ?_ | refine acellA ?_ | (apply zL H; (· repeat first | exact .h | apply AtK.t); (· rfl)) | (apply zA H; (· repeat first | exact .h | apply AtK.t)) | (apply zS H; (· repeat first | exact .h | apply AtK.t); (· rfl); (conv => whnf); clear H; intro τ H) | rw [List.length_map]); (refine wX ?_)))
    exact aret (VLe.refl _) (Sub.refl _) ⟨by rw [hk], .inl ⟨by rw [hk]; decide, H.tail⟩⟩
  rw [hr]
  obtain ⟨g1, g2, g3, g4, g5, g6, g7, g8, g9⟩ := right_ok hr
  have gp := right_pos hr
  have hdn : p.fs.flatten ≠ [] := fun h => by have : total p.fs = 0 := by unfold total; rw [h]; rfl
                                              omega
  have htl : p.fs.flatten.length = total p.fs := rfl
  (refine wX ?_)
  (repeat ((first | refine zI (by omega) ?_ | refine zE (by omega) (by omega) ?_ | refine zD (by omega) (by omega) ?_ | refine zY (by omega) ?_ | refine zN (by omega) ?_ | refine amin ?_ | refine amax ?_ | refine zU (by omega) ?_ | refine z8 (by omega) ?_ | refine zX (by omega) (by omega) ?_ | refine zR rfl ?_ | refine acellA ?_ | (apply zL H; (· repeat first | exact .h | apply AtK.t); (· rfl)) | (apply zA H; (· repeat first | exact .h | apply AtK.t)) | (apply zS H; (· repeat first | exact .h | apply AtK.t); (· rfl); (conv => whnf); clear H; intro τ H) | rw [List.length_map]); (refine wX ?_)))
  refine acall (aData p τ hl (by omega)) ?_
  rintro _ σ_ ⟨rfl, e_⟩
  obtain rfl := e_.symm
  refine ⟨?_, Ext.refl _⟩
  (refine wX ?_)
  (repeat ((first | refine zI (by omega) ?_ | refine zE (by omega) (by omega) ?_ | refine zD (by omega) (by omega) ?_ | refine zY (by omega) ?_ | refine zN (by omega) ?_ | refine amin ?_ | refine amax ?_ | refine zU (by omega) ?_ | refine z8 (by omega) ?_ | refine zX (by omega) (by omega) ?_ | refine zR rfl ?_ | refine acellA ?_ | (apply zL H; (· repeat first | exact .h | apply AtK.t); (· rfl)) | (apply zA H; (· repeat first | exact .h | apply AtK.t)) | (apply zS H; (· repeat first | exact .h | apply AtK.t); (· rfl); (conv => whnf); clear H; intro τ H) | rw [List.length_map]); (refine wX ?_)))
  refine hnew H rfl ?_
  clear H
  intro i6 τ H
  (refine wX ?_)
  (repeat ((first | refine zI (by omega) ?_ | refine zE (by omega) (by omega) ?_ | refine zD (by omega) (by omega) ?_ | refine zY (by omega) ?_ | refine zN (by omega) ?_ | refine amin ?_ | refine amax ?_ | refine zU (by omega) ?_ | refine z8 (by omega) ?_ | refine zX (by omega) (by omega) ?_ | refine zR rfl ?_ | refine acellA ?_ | (apply zL H; (· repeat first | exact .h | apply AtK.t); (· rfl)) | (apply zA H; (· repeat first | exact .h | apply AtK.t)) | (apply zS H; (· repeat first | exact .h | apply AtK.t); (· rfl); (conv => whnf); clear H; intro τ H) | rw [List.length_map]); (refine wX ?_)))
  rcases (show p.part = false ∨ p.part = true by cases p.part <;> simp) with hp | hp
  · have hen : endsB p = true := by unfold endsB; rw [hp]; rfl
    refine abr_true (show (!p.part) = true by rw [hp]; rfl) ?_
    (refine wX ?_)
    (repeat ((first | refine zI (by omega) ?_ | refine zE (by omega) (by omega) ?_ | refine zD (by omega) (by omega) ?_ | refine zY (by omega) ?_ | refine zN (by omega) ?_ | refine amin ?_ | refine amax ?_ | refine zU (by omega) ?_ | refine z8 (by omega) ?_ | refine zX (by omega) (by omega) ?_ | refine zR rfl ?_ | refine acellA ?_ | (apply zL H; (· repeat first | exact .h | apply AtK.t); (· rfl)) | (apply zA H; (· repeat first | exact .h | apply AtK.t)) | (apply zS H; (· repeat first | exact .h | apply AtK.t); (· rfl); (conv => whnf); clear H; intro τ H) | rw [List.length_map]); (refine wX ?_)))
    refine hlook H (k := 3) rfl ?_
    rw [hf]
    (refine wX ?_)
    (repeat ((first | refine zI (by omega) ?_ | refine zE (by omega) (by omega) ?_ | refine zD (by omega) (by omega) ?_ | refine zY (by omega) ?_ | refine zN (by omega) ?_ | refine amin ?_ | refine amax ?_ | refine zU (by omega) ?_ | refine z8 (by omega) ?_ | refine zX (by omega) (by omega) ?_ | refine zR rfl ?_ | refine acellA ?_ | (apply zL H; (· repeat first | exact .h | apply AtK.t); (· rfl)) | (apply zA H; (· repeat first | exact .h | apply AtK.t)) | (apply zS H; (· repeat first | exact .h | apply AtK.t); (· rfl); (conv => whnf); clear H; intro τ H) | rw [List.length_map]); (refine wX ?_)))
    refine acall (sNew [] .full τ (by simp)) ?_
    rintro _ σ2 (⟨h, _⟩ | ⟨_, is, u0, rfl, N⟩)
    · exact (h rfl).elim
    refine ⟨?_, N.ext⟩
    replace H := H.join N
    clear N
    (refine wX ?_)
    (repeat ((first | refine zI (by omega) ?_ | refine zE (by omega) (by omega) ?_ | refine zD (by omega) (by omega) ?_ | refine zY (by omega) ?_ | refine zN (by omega) ?_ | refine amin ?_ | refine amax ?_ | refine zU (by omega) ?_ | refine z8 (by omega) ?_ | refine zX (by omega) (by omega) ?_ | refine zR rfl ?_ | refine acellA ?_ | (apply zL H; (· repeat first | exact .h | apply AtK.t); (· rfl)) | (apply zA H; (· repeat first | exact .h | apply AtK.t)) | (apply zS H; (· repeat first | exact .h | apply AtK.t); (· rfl); (conv => whnf); clear H; intro τ H) | rw [List.length_map]); (refine wX ?_)))
    refine hnewmap H ?_
    clear H
    intro ig τ H
    (refine wX ?_)
    (repeat ((first | refine zI (by omega) ?_ | refine zE (by omega) (by omega) ?_ | refine zD (by omega) (by omega) ?_ | refine zY (by omega) ?_ | refine zN (by omega) ?_ | refine amin ?_ | refine amax ?_ | refine zU (by omega) ?_ | refine z8 (by omega) ?_ | refine zX (by omega) (by omega) ?_ | refine zR rfl ?_ | refine acellA ?_ | (apply zL H; (· repeat first | exact .h | apply AtK.t); (· rfl)) | (apply zA H; (· repeat first | exact .h | apply AtK.t)) | (apply zS H; (· repeat first | exact .h | apply AtK.t); (· rfl); (conv => whnf); clear H; intro τ H) | rw [List.length_map]); (refine wX ?_)))
    refine hnew H rfl ?_
    clear H
    intro ip τ H
    (refine wX ?_)
    (repeat ((first | refine zI (by omega) ?_ | refine zE (by omega) (by omega) ?_ | refine zD (by omega) (by omega) ?_ | refine zY (by omega) ?_ | refine zN (by omega) ?_ | refine amin ?_ | refine amax ?_ | refine zU (by omega) ?_ | refine z8 (by omega) ?_ | refine zX (by omega) (by omega) ?_ | refine zR rfl ?_ | refine acellA ?_ | (apply zL H; (· repeat first | exact .h | apply AtK.t); (· rfl)) | (apply zA H; (· repeat first | exact .h | apply AtK.t)) | (apply zS H; (· repeat first | exact .h | apply AtK.t); (· rfl); (conv => whnf); clear H; intro τ H) | rw [List.length_map]); (refine wX ?_)))
    replace H : Hp σb (.o ip (.cells (peC (.slice 1 [] .full) is (-1) ig 0)) :: .o is (.cells [spL u0 []]) :: .o ig (.map []) :: .o i6 (.cells [i64v p.off, i64v (p.off + (total p.fs : Int))]) :: .o i3 (.cells (amC p)) :: .o ib (.cells (buC im)) :: .o im (.map es) :: ([] ++ G)) τ := H.perm (.cons _ (.swap _ _ _))
    refine acall (peFits (H.get (k := 0) rfl) (H.get (k := 1) rfl) (by have := SOk.nil.k; omega) (spanP p) true) ?_
    rintro _ σ_ ⟨rfl, e_⟩
    obtain rfl := e_.symm
    refine ⟨?_, Ext.refl _⟩
    (refine wX ?_)
    have hk : putK p [] (-1) = if fitsC [] (-1) (spanP p) true ≠ 0 then fitsC [] (-1) (spanP p) true else addC (spanP p) [] := by unfold putK; rw [if_neg (by rw [hr]; simp), hen]
    by_cases hc : fitsC [] (-1) (spanP p) true = 0
    case neg =>
      rw [if_pos hc] at hk
      (repeat ((first | refine zI (by omega) ?_ | refine zE (by omega) (by omega) ?_ | refine zD (by omega) (by omega) ?_ | refine zY (by omega) ?_ | refine zN (by omega) ?_ | refine amin ?_ | refine amax ?_ | refine zU (by omega) ?_ | refine z8 (by omega) ?_ | refine zX (by omega) (by omega) ?_ | refine zR rfl ?_ | refine acellA ?_ | (apply zL H; (· repeat first | exact .h | apply AtK.t); (· rfl)) | (apply zA H; (· repeat first | exact .h | apply AtK.t)) | (apply zS H; (· repeat first | exact .h | apply AtK.t); (· rfl); (conv => whnf); clear H; intro τ H) | rw [List.length_map]); (refine wX ?_)))
      exact aret (VLe.refl _) (Sub.refl _) ⟨by rw [hk], .inl ⟨by rw [hk]; exact hc, Hp.rest (A := [.o ip (.cells (peC (.slice 1 [] .full) is (-1) ig 0)), .o is (.cells [spL u0 []]), .o ig (.map [])] ++ [.o i6 (.cells [i64v p.off, i64v (p.off + (total p.fs : Int))]), .o i3 (.cells (amC p))]) H⟩⟩
    rw [if_neg (by rw [hc]; simp)] at hk
    rw [hc]
    (refine wX ?_)
    (repeat ((first | refine zI (by omega) ?_ | refine zE (by omega) (by omega) ?_ | refine zD (by omega) (by omega) ?_ | refine zY (by omega) ?_ | refine zN (by omega) ?_ | refine amin ?_ | refine amax ?_ | refine zU (by omega) ?_ | refine z8 (by omega) ?_ | refine zX (by omega) (by omega) ?_ | refine zR rfl ?_ | refine acellA ?_ | (apply zL H; (· repeat first | exact .h | apply AtK.t); (· rfl)) | (apply zA H; (· repeat first | exact .h | apply AtK.t)) | (apply zS H; (· repeat first | exact .h | apply AtK.t); (· rfl); (conv => whnf); clear H; intro τ H) | rw [List.length_map]); (refine wX ?_)))
    refine acall (cloneB (RB.dv (F := [.o ip (.cells (peC (.slice 1 [] .full) is (-1) ig 0)), .o is (.cells [spL u0 []]), .o ig (.map []), .o i6 (.cells [i64v p.off, i64v (p.off + (total p.fs : Int))]), .o i3 (.cells (amC p)), .o ib (.cells (buC im)), .o im (.map es)]) RB.nil H) (by simp)) ?_
    rintro v1 υ ⟨E1, h1, N⟩
    refine ⟨?_, N.ext⟩
    replace H := Hp.mid (A := E1) (B := [.o ip (.cells (peC (.slice 1 [] .full) is (-1) ig 0)), .o is (.cells [spL u0 []]), .o ig (.map []), .o i6 (.cells [i64v p.off, i64v (p.off + (total p.fs : Int))]), .o i3 (.cells (amC p)), .o ib (.cells (buC im)), .o im (.map es)]) (C := ([] : List HE) ++ G) (H.join N)
    replace H : Hp σb (.o ip (.cells (peC (.slice 1 [] .full) is (-1) ig 0)) :: .o is (.cells [spL u0 []]) :: .o ig (.map []) :: .o i6 (.cells [i64v p.off, i64v (p.off + (total p.fs : Int))]) :: .o i3 (.cells (amC p)) :: .o ib (.cells (buC im)) :: .o im (.map es) :: (E1 ++ (([] : List HE) ++ G))) υ := H
    clear N
    (refine wX ?_)
    (repeat ((first | refine zI (by omega) ?_ | refine zE (by omega) (by omega) ?_ | refine zD (by omega) (by omega) ?_ | refine zY (by omega) ?_ | refine zN (by omega) ?_ | refine amin ?_ | refine amax ?_ | refine zU (by omega) ?_ | refine z8 (by omega) ?_ | refine zX (by omega) (by omega) ?_ | refine zR rfl ?_ | refine acellA ?_ | (apply zL H; (· repeat first | exact .h | apply AtK.t); (· rfl)) | (apply zA H; (· repeat first | exact .h | apply AtK.t)) | (apply zS H; (· repeat first | exact .h | apply AtK.t); (· rfl); (conv => whnf); clear H; intro τ H) | rw [List.length_map]); (refine wX ?_)))
    rw [h1.cells1]
    (refine wX ?_)
    apply zS H
    · exact .h
    · show (v1.isCell && true) = true
      rw [h1.isCell]; rfl
    (conv => whnf)
    clear H
    intro τ H
    (refine wX ?_)
    (repeat ((first | refine zI (by omega) ?_ | refine zE (by omega) (by omega) ?_ | refine zD (by omega) (by omega) ?_ | refine zY (by omega) ?_ | refine zN (by omega) ?_ | refine amin ?_ | refine amax ?_ | refine zU (by omega) ?_ | refine z8 (by omega) ?_ | refine zX (by omega) (by omega) ?_ | refine zR rfl ?_ | refine acellA ?_ | (apply zL H; (· repeat first | exact .h | apply AtK.t); (· rfl)) | (apply zA H; (· repeat first | exact .h | apply AtK.t)) | (apply zS H; (· repeat first | exact .h | apply AtK.t); (· rfl); (conv => whnf); clear H; intro τ H) | rw [List.length_map]); (refine wX ?_)))
    replace H : Hp σb (.o ip (.cells (peC v1 is (-1) ig 0)) :: .o is (.cells [spL u0 []]) :: (E1 ++ ([.o ig (.map []), .o i6 (.cells [i64v p.off, i64v (p.off + (total p.fs : Int))]), .o i3 (.cells (amC p)), .o ib (.cells (buC im)), .o im (.map es)] ++ (([] : List HE) ++ G)))) τ :=
      Hp.mid (B := [.o ip (.cells (peC v1 is (-1) ig 0)), .o is (.cells [spL u0 []])]) (Hp.mid (A := [.o ip (.cells (peC v1 is (-1) ig 0)), .o is (.cells [spL u0 []]), .o ig (.map []), .o i6 (.cells [i64v p.off, i64v (p.off + (total p.fs : Int))]), .o i3 (.cells (amC p)), .o ib (.cells (buC im)), .o im (.map es)]) (B := E1) (C := ([] : List HE) ++ G) H)
    refine acall (peFillA h1 H p.off.toNat p.off (by omega) p.fs.flatten hdn (by show p.off.toNat + p.fs.flatten.length ≤ _; omega) (by simp) (by have := SOk.nil.k; omega)) ?_
    clear H h1
    rintro _ τ ⟨rfl, v2, E2, h2, H⟩
    replace H : Hp σb (.o ip (.cells (peC v2 is (-1) ig 0)) :: .o is (.cells [spL u0 []]) :: .o ig (.map []) :: .o i6 (.cells [i64v p.off, i64v (p.off + (total p.fs : Int))]) :: .o i3 (.cells (amC p)) :: .o ib (.cells (buC im)) :: .o im (.map es) :: (E2 ++ (([] : List HE) ++ G))) τ := Hp.mid2 (A := [.o ip (.cells (peC v2 is (-1) ig 0)), .o is (.cells [spL u0 []])]) (B := E2) (C := [.o ig (.map []), .o i6 (.cells [i64v p.off, i64v (p.off + (total p.fs : Int))]), .o i3 (.cells (amC p)), .o ib (.cells (buC im)), .o im (.map es)]) H
    (refine wX ?_)
    (repeat ((first | refine zI (by omega) ?_ | refine zE (by omega) (by omega) ?_ | refine zD (by omega) (by omega) ?_ | refine zY (by omega) ?_ | refine zN (by omega) ?_ | refine amin ?_ | refine amax ?_ | refine zU (by omega) ?_ | refine z8 (by omega) ?_ | refine zX (by omega) (by omega) ?_ | refine zR rfl ?_ | refine acellA ?_ | (apply zL H; (· repeat first | exact .h | apply AtK.t); (· rfl)) | (apply zA H; (· repeat first | exact .h | apply AtK.t)) | (apply zS H; (· repeat first | exact .h | apply AtK.t); (· rfl); (conv => whnf); clear H; intro τ H) | rw [List.length_map]); (refine wX ?_)))
    refine acall (sAdd (H.perm (.swap _ _ _)) (spanP p) (by have := SOk.nil.k; omega)) ?_
    clear H
    rintro _ τ ⟨rfl, u, H⟩
    replace H : Hp σb (.o is (.cells [spL u (addS (spanP p) [])]) :: .o ip (.cells (peC v2 is (-1) ig 0)) :: .o ig (.map []) :: .o i6 (.cells [i64v p.off, i64v (p.off + (total p.fs : Int))]) :: .o i3 (.cells (amC p)) :: .o ib (.cells (buC im)) :: .o im (.map es) :: (E2 ++ (([] : List HE) ++ G))) τ := H
    (refine wX ?_)
    by_cases ha : addC (spanP p) [] = 0
    case neg =>
      rw [add_no ha] at H
      (repeat ((first | refine zI (by omega) ?_ | refine zE (by omega) (by omega) ?_ | refine zD (by omega) (by omega) ?_ | refine zY (by omega) ?_ | refine zN (by omega) ?_ | refine amin ?_ | refine amax ?_ | refine zU (by omega) ?_ | refine z8 (by omega) ?_ | refine zX (by omega) (by omega) ?_ | refine zR rfl ?_ | refine acellA ?_ | (apply zL H; (· repeat first | exact .h | apply AtK.t); (· rfl)) | (apply zA H; (· repeat first | exact .h | apply AtK.t)) | (apply zS H; (· repeat first | exact .h | apply AtK.t); (· rfl); (conv => whnf); clear H; intro τ H) | rw [List.length_map]); (refine wX ?_)))
      have H := Hp.rest (A := E2) (Hp.mid (A := [.o is (.cells [spL u []]), .o ip (.cells (peC (.slice 1 [] .full) is (-1) ig 0)), .o ig (.map []), .o i6 (.cells [i64v p.off, i64v (p.off + (total p.fs : Int))]), .o i3 (.cells (amC p)), .o ib (.cells (buC im)), .o im (.map es)]) (B := E2) H)
      (repeat ((first | refine zI (by omega) ?_ | refine zE (by omega) (by omega) ?_ | refine zD (by omega) (by omega) ?_ | refine zY (by omega) ?_ | refine zN (by omega) ?_ | refine amin ?_ | refine amax ?_ | refine zU (by omega) ?_ | refine z8 (by omega) ?_ | refine zX (by omega) (by omega) ?_ | refine zR rfl ?_ | refine acellA ?_ | (apply zL H; (· repeat first | exact .h | apply AtK.t); (· rfl)) | (apply zA H; (· repeat first | exact .h | apply AtK.t)) | (apply zS H; (· repeat first | exact .h | apply AtK.t); (· rfl); (conv => whnf); clear H; intro τ H) | rw [List.length_map]); (refine wX ?_)))
      exact aret (VLe.refl _) (Sub.refl _) ⟨by rw [hk], .inl ⟨by rw [hk]; exact ha, Hp.rest (A := [.o is (.cells [spL u []]), .o ip (.cells (peC (.slice 1 [] .full) is (-1) ig 0)), .o ig (.map [])] ++ [.o i6 (.cells [i64v p.off, i64v (p.off + (total p.fs : Int))]), .o i3 (.cells (amC p))]) H⟩⟩
    rw [ha]
    (refine wX ?_)
    (repeat ((first | refine zI (by omega) ?_ | refine zE (by omega) (by omega) ?_ | refine zD (by omega) (by omega) ?_ | refine zY (by omega) ?_ | refine zN (by omega) ?_ | refine amin ?_ | refine amax ?_ | refine zU (by omega) ?_ | refine z8 (by omega) ?_ | refine zX (by omega) (by omega) ?_ | refine zR rfl ?_ | refine acellA ?_ | (apply zL H; (· repeat first | exact .h | apply AtK.t); (· rfl)) | (apply zA H; (· repeat first | exact .h | apply AtK.t)) | (apply zS H; (· repeat first | exact .h | apply AtK.t); (· rfl); (conv => whnf); clear H; intro τ H) | rw [List.length_map]); (refine wX ?_)))
    replace H : Hp σb (.o ip (.cells (peC v2 is (-1) ig 0)) :: .o ig (.map []) :: .o is (.cells [spL u (addS (spanP p) [])]) :: (.o i6 (.cells [i64v p.off, i64v (p.off + (total p.fs : Int))]) :: .o i3 (.cells (amC p)) :: .o ib (.cells (buC im)) :: .o im (.map es) :: (E2 ++ (([] : List HE) ++ G)))) τ := H.perm (.trans (.swap _ _ _) (.cons _ (.swap _ _ _)))
    refine acall (peNote H h2.isCell p true (by omega) (by omega) (by omega)) ?_
    clear H
    rintro _ τ ⟨rfl, H⟩
    (refine wX ?_)
    (repeat ((first | refine zI (by omega) ?_ | refine zE (by omega) (by omega) ?_ | refine zD (by omega) (by omega) ?_ | refine zY (by omega) ?_ | refine zN (by omega) ?_ | refine amin ?_ | refine amax ?_ | refine zU (by omega) ?_ | refine z8 (by omega) ?_ | refine zX (by omega) (by omega) ?_ | refine zR rfl ?_ | refine acellA ?_ | (apply zL H; (· repeat first | exact .h | apply AtK.t); (· rfl)) | (apply zA H; (· repeat first | exact .h | apply AtK.t)) | (apply zS H; (· repeat first | exact .h | apply AtK.t); (· rfl); (conv => whnf); clear H; intro τ H) | rw [List.length_map]); (refine wX ?_)))
    apply zMs H
    · (repeat first | exact .h | apply AtK.t)
    · rfl
    (conv => whnf)
    clear H
    intro τ H
    (refine wX ?_)
    rw [mapSet_new hf] at H
    (repeat ((first | refine zI (by omega) ?_ | refine zE (by omega) (by omega) ?_ | refine zD (by omega) (by omega) ?_ | refine zY (by omega) ?_ | refine zN (by omega) ?_ | refine amin ?_ | refine amax ?_ | refine zU (by omega) ?_ | refine z8 (by omega) ?_ | refine zX (by omega) (by omega) ?_ | refine zR rfl ?_ | refine acellA ?_ | (apply zL H; (· repeat first | exact .h | apply AtK.t); (· rfl)) | (apply zA H; (· repeat first | exact .h | apply AtK.t)) | (apply zS H; (· repeat first | exact .h | apply AtK.t); (· rfl); (conv => whnf); clear H; intro τ H) | rw [List.length_map]); (refine wX ?_)))
    rw [hen]
    exact aret (VLe.refl _) (Sub.refl _) ⟨by rw [hk, ha], .inr ⟨by rw [hk, ha], ⟨ip, is, ig, v2, E2, u, h2, (Hp.rest (A := [.o i6 (.cells [i64v p.off, i64v (p.off + (total p.fs : Int))]), .o i3 (.cells (amC p))]) (Hp.mid (A := [.o ip (.cells (peC v2 is (noteE p true (-1)) ig (noteF p true 0))), .o ig (.map (noteM p true [])), .o is (.cells [spL u (addS (spanP p) [])])]) (B := [.o i6 (.cells [i64v p.off, i64v (p.off + (total p.fs : Int))]), .o i3 (.cells (amC p))]) (C := .o ib (.cells (buC im)) :: .o im (.map (es ++ [(p.sn, AVal.ptr ip 0)])) :: (E2 ++ G)) H)).perm (.cons _ (.swap _ _ _))⟩⟩⟩
  · have hen : endsB p = p.last := by unfold endsB; rw [hp]; rfl
    refine abr_false (show (!p.part) = false by rw [hp]; rfl) ?_
    (refine wX ?_)
    (repeat ((first | refine zI (by omega) ?_ | refine zE (by omega) (by omega) ?_ | refine zD (by omega) (by omega) ?_ | refine zY (by omega) ?_ | refine zN (by omega) ?_ | refine amin ?_ | refine amax ?_ | refine zU (by omega) ?_ | refine z8 (by omega) ?_ | refine zX (by omega) (by omega) ?_ | refine zR rfl ?_ | refine acellA ?_ | (apply zL H; (· repeat first | exact .h | apply AtK.t); (· rfl)) | (apply zA H; (· repeat first | exact .h | apply AtK.t)) | (apply zS H; (· repeat first | exact .h | apply AtK.t); (· rfl); (conv => whnf); clear H; intro τ H) | rw [List.length_map]); (refine wX ?_)))
    refine hlook H (k := 3) rfl ?_
    rw [hf]
    (refine wX ?_)
    (repeat ((first | refine zI (by omega) ?_ | refine zE (by omega) (by omega) ?_ | refine zD (by omega) (by omega) ?_ | refine zY (by omega) ?_ | refine zN (by omega) ?_ | refine amin ?_ | refine amax ?_ | refine zU (by omega) ?_ | refine z8 (by omega) ?_ | refine zX (by omega) (by omega) ?_ | refine zR rfl ?_ | refine acellA ?_ | (apply zL H; (· repeat first | exact .h | apply AtK.t); (· rfl)) | (apply zA H; (· repeat first | exact .h | apply AtK.t)) | (apply zS H; (· repeat first | exact .h | apply AtK.t); (· rfl); (conv => whnf); clear H; intro τ H) | rw [List.length_map]); (refine wX ?_)))
    refine acall (sNew [] .full τ (by simp)) ?_
    rintro _ σ2 (⟨h, _⟩ | ⟨_, is, u0, rfl, N⟩)
    · exact (h rfl).elim
    refine ⟨?_, N.ext⟩
    replace H := H.join N
    clear N
    (refine wX ?_)
    (repeat ((first | refine zI (by omega) ?_ | refine zE (by omega) (by omega) ?_ | refine zD (by omega) (by omega) ?_ | refine zY (by omega) ?_ | refine zN (by omega) ?_ | refine amin ?_ | refine amax ?_ | refine zU (by omega) ?_ | refine z8 (by omega) ?_ | refine zX (by omega) (by omega) ?_ | refine zR rfl ?_ | refine acellA ?_ | (apply zL H; (· repeat first | exact .h | apply AtK.t); (· rfl)) | (apply zA H; (· repeat first | exact .h | apply AtK.t)) | (apply zS H; (· repeat first | exact .h | apply AtK.t); (· rfl); (conv => whnf); clear H; intro τ H) | rw [List.length_map]); (refine wX ?_)))
    refine hnewmap H ?_
    clear H
    intro ig τ H
    (refine wX ?_)
    (repeat ((first | refine zI (by omega) ?_ | refine zE (by omega) (by omega) ?_ | refine zD (by omega) (by omega) ?_ | refine zY (by omega) ?_ | refine zN (by omega) ?_ | refine amin ?_ | refine amax ?_ | refine zU (by omega) ?_ | refine z8 (by omega) ?_ | refine zX (by omega) (by omega) ?_ | refine zR rfl ?_ | refine acellA ?_ | (apply zL H; (· repeat first | exact .h | apply AtK.t); (· rfl)) | (apply zA H; (· repeat first | exact .h | apply AtK.t)) | (apply zS H; (· repeat first | exact .h | apply AtK.t); (· rfl); (conv => whnf); clear H; intro τ H) | rw [List.length_map]); (refine wX ?_)))
    refine hnew H rfl ?_
    clear H
    intro ip τ H
    (refine wX ?_)
    (repeat ((first | refine zI (by omega) ?_ | refine zE (by omega) (by omega) ?_ | refine zD (by omega) (by omega) ?_ | refine zY (by omega) ?_ | refine zN (by omega) ?_ | refine amin ?_ | refine amax ?_ | refine zU (by omega) ?_ | refine z8 (by omega) ?_ | refine zX (by omega) (by omega) ?_ | refine zR rfl ?_ | refine acellA ?_ | (apply zL H; (· repeat first | exact .h | apply AtK.t); (· rfl)) | (apply zA H; (· repeat first | exact .h | apply AtK.t)) | (apply zS H; (· repeat first | exact .h | apply AtK.t); (· rfl); (conv => whnf); clear H; intro τ H) | rw [List.length_map]); (refine wX ?_)))
    replace H : Hp σb (.o ip (.cells (peC (.slice 1 [] .full) is (-1) ig 0)) :: .o is (.cells [spL u0 []]) :: .o ig (.map []) :: .o i6 (.cells [i64v p.off, i64v (p.off + (total p.fs : Int))]) :: .o i3 (.cells (amC p)) :: .o ib (.cells (buC im)) :: .o im (.map es) :: ([] ++ G)) τ := H.perm (.cons _ (.swap _ _ _))
    refine acall (peFits (H.get (k := 0) rfl) (H.get (k := 1) rfl) (by have := SOk.nil.k; omega) (spanP p) p.last) ?_
    rintro _ σ_ ⟨rfl, e_⟩
    obtain rfl := e_.symm
    refine ⟨?_, Ext.refl _⟩
    (refine wX ?_)
    have hk : putK p [] (-1) = if fitsC [] (-1) (spanP p) p.last ≠ 0 then fitsC [] (-1) (spanP p) p.last else addC (spanP p) [] := by unfold putK; rw [if_neg (by rw [hr]; simp), hen]
    by_cases hc : fitsC [] (-1) (spanP p) p.last = 0
    case neg =>
      rw [if_pos hc] at hk
      (repeat ((first | refine zI (by omega) ?_ | refine zE (by omega) (by omega) ?_ | refine zD (by omega) (by omega) ?_ | refine zY (by omega) ?_ | refine zN (by omega) ?_ | refine amin ?_ | refine amax ?_ | refine zU (by omega) ?_ | refine z8 (by omega) ?_ | refine zX (by omega) (by omega) ?_ | refine zR rfl ?_ | refine acellA ?_ | (apply zL H; (· repeat first | exact .h | apply AtK.t); (· rfl)) | (apply zA H; (· repeat first | exact .h | apply AtK.t)) | (apply zS H; (· repeat first | exact .h | apply AtK.t); (· rfl); (conv => whnf); clear H; intro τ H) | rw [List.length_map]); (refine wX ?_)))
      exact aret (VLe.refl _) (Sub.refl _) ⟨by rw [hk], .inl ⟨by rw [hk]; exact hc, Hp.rest (A := [.o ip (.cells (peC (.slice 1 [] .full) is (-1) ig 0)), .o is (.cells [spL u0 []]), .o ig (.map [])] ++ [.o i6 (.cells [i64v p.off, i64v (p.off + (total p.fs : Int))]), .o i3 (.cells (amC p))]) H⟩⟩
    rw [if_neg (by rw [hc]; simp)] at hk
    rw [hc]
    (refine wX ?_)
    (repeat ((first | refine zI (by omega) ?_ | refine zE (by omega) (by omega) ?_ | refine zD (by omega) (by omega) ?_ | refine zY (by omega) ?_ | refine zN (by omega) ?_ | refine amin ?_ | refine amax ?_ | refine zU (by omega) ?_ | refine z8 (by omega) ?_ | refine zX (by omega) (by omega) ?_ | refine zR rfl ?_ | refine acellA ?_ | (apply zL H; (· repeat first | exact .h | apply AtK.t); (· rfl)) | (apply zA H; (· repeat first | exact .h | apply AtK.t)) | (apply zS H; (· repeat first | exact .h | apply AtK.t); (· rfl); (conv => whnf); clear H; intro τ H) | rw [List.length_map]); (refine wX ?_)))
    refine acall (cloneB (RB.dv (F := [.o ip (.cells (peC (.slice 1 [] .full) is (-1) ig 0)), .o is (.cells [spL u0 []]), .o ig (.map []), .o i6 (.cells [i64v p.off, i64v (p.off + (total p.fs : Int))]), .o i3 (.cells (amC p)), .o ib (.cells (buC im)), .o im (.map es)]) RB.nil H) (by simp)) ?_
    rintro v1 υ ⟨E1, h1, N⟩
    refine ⟨?_, N.ext⟩
    replace H := Hp.mid (A := E1) (B := [.o ip (.cells (peC (.slice 1 [] .full) is (-1) ig 0)), .o is (.cells [spL u0 []]), .o ig (.map []), .o i6 (.cells [i64v p.off, i64v (p.off + (total p.fs : Int))]), .o i3 (.cells (amC p)), .o ib (.cells (buC im)), .o im (.map es)]) (C := ([] : List HE) ++ G) (H.join N)
    replace H : Hp σb (.o ip (.cells (peC (.slice 1 [] .full) is (-1) ig 0)) :: .o is (.cells [spL u0 []]) :: .o ig (.map []) :: .o i6 (.cells [i64v p.off, i64v (p.off + (total p.fs : Int))]) :: .o i3 (.cells (amC p)) :: .o ib (.cells (buC im)) :: .o im (.map es) :: (E1 ++ (([] : List HE) ++ G))) υ := H
    clear N
    (refine wX ?_)
    (repeat ((first | refine zI (by omega) ?_ | refine zE (by omega) (by omega) ?_ | refine zD (by omega) (by omega) ?_ | refine zY (by omega) ?_ | refine zN (by omega) ?_ | refine amin ?_ | refine amax ?_ | refine zU (by omega) ?_ | refine z8 (by omega) ?_ | refine zX (by omega) (by omega) ?_ | refine zR rfl ?_ | refine acellA ?_ | (apply zL H; (· repeat first | exact .h | apply AtK.t); (· rfl)) | (apply zA H; (· repeat first | exact .h | apply AtK.t)) | (apply zS H; (· repeat first | exact .h | apply AtK.t); (· rfl); (conv => whnf); clear H; intro τ H) | rw [List.length_map]); (refine wX ?_)))
    rw [h1.cells1]
    (refine wX ?_)
    apply zS H
    · exact .h
    · show (v1.isCell && true) = true
      rw [h1.isCell]; rfl
    (conv => whnf)
    clear H
    intro τ H
    (refine wX ?_)
    (repeat ((first | refine zI (by omega) ?_ | refine zE (by omega) (by omega) ?_ | refine zD (by omega) (by omega) ?_ | refine zY (by omega) ?_ | refine zN (by omega) ?_ | refine amin ?_ | refine amax ?_ | refine zU (by omega) ?_ | refine z8 (by omega) ?_ | refine zX (by omega) (by omega) ?_ | refine zR rfl ?_ | refine acellA ?_ | (apply zL H; (· repeat first | exact .h | apply AtK.t); (· rfl)) | (apply zA H; (· repeat first | exact .h | apply AtK.t)) | (apply zS H; (· repeat first | exact .h | apply AtK.t); (· rfl); (conv => whnf); clear H; intro τ H) | rw [List.length_map]); (refine wX ?_)))
    replace H : Hp σb (.o ip (.cells (peC v1 is (-1) ig 0)) :: .o is (.cells [spL u0 []]) :: (E1 ++ ([.o ig (.map []), .o i6 (.cells [i64v p.off, i64v (p.off + (total p.fs : Int))]), .o i3 (.cells (amC p)), .o ib (.cells (buC im)), .o im (.map es)] ++ (([] : List HE) ++ G)))) τ :=
      Hp.mid (B := [.o ip (.cells (peC v1 is (-1) ig 0)), .o is (.cells [spL u0 []])]) (Hp.mid (A := [.o ip (.cells (peC v1 is (-1) ig 0)), .o is (.cells [spL u0 []]), .o ig (.map []), .o i6 (.cells [i64v p.off, i64v (p.off + (total p.fs : Int))]), .o i3 (.cells (amC p)), .o ib (.cells (buC im)), .o im (.map es)]) (B := E1) (C := ([] : List HE) ++ G) H)
    refine acall (peFillA h1 H p.off.toNat p.off (by omega) p.fs.flatten hdn (by show p.off.toNat + p.fs.flatten.length ≤ _; omega) (by simp) (by have := SOk.nil.k; omega)) ?_
    clear H h1
    rintro _ τ ⟨rfl, v2, E2, h2, H⟩
    replace H : Hp σb (.o ip (.cells (peC v2 is (-1) ig 0)) :: .o is (.cells [spL u0 []]) :: .o ig (.map []) :: .o i6 (.cells [i64v p.off, i64v (p.off + (total p.fs : Int))]) :: .o i3 (.cells (amC p)) :: .o ib (.cells (buC im)) :: .o im (.map es) :: (E2 ++ (([] : List HE) ++ G))) τ := Hp.mid2 (A := [.o ip (.cells (peC v2 is (-1) ig 0)), .o is (.cells [spL u0 []])]) (B := E2) (C := [.o ig (.map []), .o i6 (.cells [i64v p.off, i64v (p.off + (total p.fs : Int))]), .o i3 (.cells (amC p)), .o ib (.cells (buC im)), .o im (.map es)]) H
    (refine wX ?_)
    (repeat ((first | refine zI (by omega) ?_ | refine zE (by omega) (by omega) ?_ | refine zD (by omega) (by omega) ?_ | refine zY (by omega) ?_ | refine zN (by omega) ?_ | refine amin ?_ | refine amax ?_ | refine zU (by omega) ?_ | refine z8 (by omega) ?_ | refine zX (by omega) (by omega) ?_ | refine zR rfl ?_ | refine acellA ?_ | (apply zL H; (· repeat first | exact .h | apply AtK.t); (· rfl)) | (apply zA H; (· repeat first | exact .h | apply AtK.t)) | (apply zS H; (· repeat first | exact .h | apply AtK.t); (· rfl); (conv => whnf); clear H; intro τ H) | rw [List.length_map]); (refine wX ?_)))
    refine acall (sAdd (H.perm (.swap _ _ _)) (spanP p) (by have := SOk.nil.k; omega)) ?_
    clear H
    rintro _ τ ⟨rfl, u, H⟩
    replace H : Hp σb (.o is (.cells [spL u (addS (spanP p) [])]) :: .o ip (.cells (peC v2 is (-1) ig 0)) :: .o ig (.map []) :: .o i6 (.cells [i64v p.off, i64v (p.off + (total p.fs : Int))]) :: .o i3 (.cells (amC p)) :: .o ib (.cells (buC im)) :: .o im (.map es) :: (E2 ++ (([] : List HE) ++ G))) τ := H
    (refine wX ?_)
    by_cases ha : addC (spanP p) [] = 0
    case neg =>
      rw [add_no ha] at H
      (repeat ((first | refine zI (by omega) ?_ | refine zE (by omega) (by omega) ?_ | refine zD (by omega) (by omega) ?_ | refine zY (by omega) ?_ | refine zN (by omega) ?_ | refine amin ?_ | refine amax ?_ | refine zU (by omega) ?_ | refine z8 (by omega) ?_ | refine zX (by omega) (by omega) ?_ | refine zR rfl ?_ | refine acellA ?_ | (apply zL H; (· repeat first | exact .h | apply AtK.t); (· rfl)) | (apply zA H; (· repeat first | exact .h | apply AtK.t)) | (apply zS H; (· repeat first | exact .h | apply AtK.t); (· rfl); (conv => whnf); clear H; intro τ H) | rw [List.length_map]); (refine wX ?_)))
      have H := Hp.rest (A := E2) (Hp.mid (A := [.o is (.cells [spL u []]), .o ip (.cells (peC (.slice 1 [] .full) is (-1) ig 0)), .o ig (.map []), .o i6 (.cells [i64v p.off, i64v (p.off + (total p.fs : Int))]), .o i3 (.cells (amC p)), .o ib (.cells (buC im)), .o im (.map es)]) (B := E2) H)
      (repeat ((first | refine zI (by omega) ?_ | refine zE (by omega) (by omega) ?_ | refine zD (by omega) (by omega) ?_ | refine zY (by omega) ?_ | refine zN (by omega) ?_ | refine amin ?_ | refine amax ?_ | refine zU (by omega) ?_ | refine z8 (by omega) ?_ | refine zX (by omega) (by omega) ?_ | refine zR rfl ?_ | refine acellA ?_ | (apply zL H; (· repeat first | exact .h | apply AtK.t); (· rfl)) | (apply zA H; (· repeat first | exact .h | apply AtK.t)) | (apply zS H; (· repeat first | exact .h | apply AtK.t); (· rfl); (conv => whnf); clear H; intro τ H) | rw [List.length_map]); (refine wX ?_)))
      exact aret (VLe.refl _) (Sub.refl _) ⟨by rw [hk], .inl ⟨by rw [hk]; exact ha, Hp.rest (A := [.o is (.cells [spL u []]), .o ip (.cells (peC (.slice 1 [] .full) is (-1) ig 0)), .o ig (.map [])] ++ [.o i6 (.cells [i64v p.off, i64v (p.off + (total p.fs : Int))]), .o i3 (.cells (amC p))]) H⟩⟩
    rw [ha]
    (refine wX ?_)
    (repeat ((first | refine zI (by omega) ?_ | refine zE (by omega) (by omega) ?_ | refine zD (by omega) (by omega) ?_ | refine zY (by omega) ?_ | refine zN (by omega) ?_ | refine amin ?_ | refine amax ?_ | refine zU (by omega) ?_ | refine z8 (by omega) ?_ | refine zX (by omega) (by omega) ?_ | refine zR rfl ?_ | refine acellA ?_ | (apply zL H; (· repeat first | exact .h | apply AtK.t); (· rfl)) | (apply zA H; (· repeat first | exact .h | apply AtK.t)) | (apply zS H; (· repeat first | exact .h | apply AtK.t); (· rfl); (conv => whnf); clear H; intro τ H) | rw [List.length_map]); (refine wX ?_)))
    replace H : Hp σb (.o ip (.cells (peC v2 is (-1) ig 0)) :: .o ig (.map []) :: .o is (.cells [spL u (addS (spanP p) [])]) :: (.o i6 (.cells [i64v p.off, i64v (p.off + (total p.fs : Int))]) :: .o i3 (.cells (amC p)) :: .o ib (.cells (buC im)) :: .o im (.map es) :: (E2 ++ (([] : List HE) ++ G)))) τ := H.perm (.trans (.swap _ _ _) (.cons _ (.swap _ _ _)))
    refine acall (peNote H h2.isCell p p.last (by omega) (by omega) (by omega)) ?_
    clear H
    rintro _ τ ⟨rfl, H⟩
    (refine wX ?_)
    (repeat ((first | refine zI (by omega) ?_ | refine zE (by omega) (by omega) ?_ | refine zD (by omega) (by omega) ?_ | refine zY (by omega) ?_ | refine zN (by omega) ?_ | refine amin ?_ | refine amax ?_ | refine zU (by omega) ?_ | refine z8 (by omega) ?_ | refine zX (by omega) (by omega) ?_ | refine zR rfl ?_ | refine acellA ?_ | (apply zL H; (· repeat first | exact .h | apply AtK.t); (· rfl)) | (apply zA H; (· repeat first | exact .h | apply AtK.t)) | (apply zS H; (· repeat first | exact .h | apply AtK.t); (· rfl); (conv => whnf); clear H; intro τ H) | rw [List.length_map]); (refine wX ?_)))
    apply zMs H
    · (repeat first | exact .h | apply AtK.t)
    · rfl
    (conv => whnf)
    clear H
    intro τ H
    (refine wX ?_)
    rw [mapSet_new hf] at H
    (repeat ((first | refine zI (by omega) ?_ | refine zE (by omega) (by omega) ?_ | refine zD (by omega) (by omega) ?_ | refine zY (by omega) ?_ | refine zN (by omega) ?_ | refine amin ?_ | refine amax ?_ | refine zU (by omega) ?_ | refine z8 (by omega) ?_ | refine zX (by omega) (by omega) ?_ | refine zR rfl ?_ | refine acellA ?_ | (apply zL H; (· repeat first | exact .h | apply AtK.t); (· rfl)) | (apply zA H; (· repeat first | exact .h | apply AtK.t)) | (apply zS H; (· repeat first | exact .h | apply AtK.t); (· rfl); (conv => whnf); clear H; intro τ H) | rw [List.length_map]); (refine wX ?_)))
    rw [hen]
    exact aret (VLe.refl _) (Sub.refl _) ⟨by rw [hk, ha], .inr ⟨by rw [hk, ha], ⟨ip, is, ig, v2, E2, u, h2, (Hp.rest (A := [.o i6 (.cells [i64v p.off, i64v (p.off + (total p.fs : Int))]), .o i3 (.cells (amC p))]) (Hp.mid (A := [.o ip (.cells (peC v2 is (noteE p p.last (-1)) ig (noteF p p.last 0))), .o ig (.map (noteM p p.last [])), .o is (.cells [spL u (addS (spanP p) [])])]) (B := [.o i6 (.cells [i64v p.off, i64v (p.off + (total p.fs : Int))]), .o i3 (.cells (amC p))]) (C := .o ib (.cells (buC im)) :: .o im (.map (es ++ [(p.sn, AVal.ptr ip 0)])) :: (E2 ++ G)) H)).perm (.cons _ (.swap _ _ _))⟩⟩⟩
end
end Go.Proofs.Ytgobbmdbkmjlnaa
/-
  Views of rows of bytes that (repeat ((first | refine aload (by (repeat (first | with_reducible exact upd_same _ _ _ | assumption | rw [upd_ne _ _ (by first | assumption | (apply Ne.symm; assumption))]))) rfl ?_ | refine afit_i64 (by omega) ?_ | refine arem_nonneg (by omega) (by omega) ?_ | refine adiv_i64 (by omega) (by omega) ?_ | refine abr_yes (by omega) ?_ | refine abr_no (by omega) ?_ | refine amin ?_ | refine amax ?_ | refine afit_u64 (by omega) ?_ | refine afit_u8 (by omega) ?_ | rw [List.length_map]); (refine wX ?_))) on being stored into: cut, and copied.
-/
namespace Go.Proofs.Ytgobbmdbkmjlnaa
set_option linter.unusedVariables false
set_option linter.unusedSimpArgs false
open Go Go.Am

/-- A view of a row's bytes, of which some may lie ahead or behind. -/
def MsV (σ : AHeap) (r off : Nat) (b : List UInt8) : Prop := ∃ bs : List UInt8, σ r = some (.cells (bs.map byteV)) ∧ off + b.length ≤ bs.length ∧ (bs.drop off).take b.length = b
theorem MsV.sub {σ σ' : AHeap} {r off : Nat} {b : List UInt8} (h : MsV σ r off b) (k : Sub σ' σ) : MsV σ' r off b := by
  obtain ⟨bs, h1, h2, h3⟩ := h; exact ⟨bs, k _ _ h1, h2, h3⟩
theorem MsV.cut {σ : AHeap} {r off : Nat} {b : List UInt8} (h : MsV σ r off b) {l n : Nat} (hn : l ≤ n) (hl : n ≤ b.length) : MsV σ r (off + l) ((b.take n).drop l) := by
  obtain ⟨bs, h1, h2, h3⟩ := h
  have hlen : ((b.take n).drop l).length = n - l := by rw [List.length_drop, List.length_take]; omega
  refine ⟨bs, h1, by omega, ?_⟩
  rw [hlen]
  conv => rhs; rw [← h3]
  rw [List.take_take, Nat.min_eq_left hl, List.drop_take, List.drop_drop]
theorem CloneW (r off : Nat) (b : List UInt8) (σ : AHeap) (hs : MsV σ r off b) (hl : b.length ≤ 140737488355328) : ACalls Try.prog i_slices_Clone_byte_byte [.ms r 1 off b.length] σ fun v σ' => ∃ tk, Owned σ σ' tk ∧ v = sl tk b := by
  obtain ⟨bs, h1, h2, h3⟩ := hs
  refine k_slices_Clone_byte_byte rfl ?_
  (refine wX ?_)
  refine ⟨⟨_, h1, by rw [List.length_map]; omega, ?_⟩⟩
  rw [← List.map_drop, ← List.map_take, h3]
  refine aapp_full (by rw [List.length_map]; simp; omega) fun t' ht' => ?_
  (refine wX ?_)
  exact aret_same ⟨_, .tip ht', rfl⟩
/-- Bytes that are given: as they are, or as a view of a row. -/
def Src (σ : AHeap) (v : AVal) (b : List UInt8) : Prop := (∃ t, v = sl t b) ∨ ∃ r off, v = .ms r 1 off b.length ∧ MsV σ r off b
theorem Src.sub {σ σ' : AHeap} {v : AVal} {b : List UInt8} (h : Src σ v b) (k : Sub σ' σ) : Src σ' v b := by
  rcases h with h | ⟨r, off, h, m⟩
  · exact .inl h
  · exact .inr ⟨r, off, h, m.sub k⟩
theorem acutm {σ : AHeap} {r off l n : Nat} {b : List UInt8} {K : AVal → Prop} (hs : MsV σ r off b) (hl : l ≤ n) (hn : n ≤ b.length) (h : ∀ v, Src σ v ((b.take n).drop l) → K v) : ACutM r 1 off l n K := by
  have hlen : ((b.take n).drop l).length = n - l := by rw [List.length_drop, List.length_take]; omega
  refine ⟨?_⟩
  by_cases e : l < n
  · refine .inl ⟨e, h _ (.inr ⟨r, off + l, by rw [hlen, Nat.mul_one], hs.cut hl hn⟩)⟩
  · refine .inr (.inr ⟨by omega, h _ (.inl ⟨.none, ?_⟩)⟩)
    rw [List.length_eq_zero_iff.1 (by omega : ((b.take n).drop l).length = 0)]; rfl
theorem CloneS (v : AVal) (b : List UInt8) (σ : AHeap) (hs : Src σ v b) (hl : b.length ≤ 140737488355328) : ACalls Try.prog i_slices_Clone_byte_byte [v] σ fun v σ' => ∃ tk, Owned σ σ' tk ∧ v = sl tk b := by
  rcases hs with ⟨t, rfl⟩ | ⟨r, off, rfl, m⟩
  · exact Clone b _ _ hl
  · exact CloneW r off b σ m hl
end Go.Proofs.Ytgobbmdbkmjlnaa
