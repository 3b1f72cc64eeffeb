/-
  Texts of this claim, pack 8: Camdb, Cdsa, Cdsb, Cdsc, Cdsd, Cpcs, Cresg.
-/
import Derived.Test.YtgobbmdbkmjlnaaK3
import Derived.Test.YtgobbmdbkmjlnaaK5
import Derived.Test.YtgobbmdbkmjlnaaK6
import Derived.Test.YtgobbmdbkmjlnaaK7
/-
  Packets that are acknowledged: their data, and which are equal; the document's sizes.
-/
namespace Go.Proofs.Ytgobbmdbkmjlnaa
set_option linter.unusedVariables false
set_option linter.unusedSimpArgs false
open Go Go.Am

theorem pk_eq {a b : Pk} : a = b ↔ a.poll = b.poll ∧ a.fi = b.fi ∧ a.sn = b.sn ∧ a.part = b.part ∧ a.last = b.last ∧ a.off = b.off ∧ a.fs = b.fs := by
  cases a; cases b; simp
theorem bool_cmp {a b : Bool} : (a == b) = decide (a = b) := by cases a <;> cases b <;> rfl
theorem rSame10 (a b : Pk) (σ : AHeap) (hl : a.fs.length ≤ 140737488355320) : ACalls Try.prog i_bowlineref10_Same [amV a, amV b] σ fun v σ' => v = boolv (decide (a = b)) ∧ σ' = σ := by
  refine k_bowlineref10_Same rfl ?_
  have H := Hp.nil σ
  have no (h : ¬ a = b) {υ : AHeap} {v : AVal} (e : v = boolv false) (hυ : υ = σ) : v = boolv (decide (a = b)) ∧ υ = σ := ⟨by rw [e, decide_eq_false h], hυ⟩
  (refine wX ?_)
  refine hnew H rfl ?_
  clear H
  intro i1 τ H
  (refine wX ?_)
  refine hnew H rfl ?_
  clear H
  intro i2 τ H
  (refine wX ?_)
  (repeat ((first | refine zI (by omega) ?_ | refine zE (by omega) (by omega) ?_ | refine zD (by omega) (by omega) ?_ | refine zY (by omega) ?_ | refine zN (by omega) ?_ | refine amin ?_ | refine amax ?_ | refine zU (by omega) ?_ | refine z8 (by omega) ?_ | refine zX (by omega) (by omega) ?_ | refine zR rfl ?_ | refine acellA ?_ | (apply zL H; (· repeat first | exact .h | apply AtK.t); (· rfl)) | (apply zA H; (· repeat first | exact .h | apply AtK.t)) | (apply zS H; (· repeat first | exact .h | apply AtK.t); (· rfl); (conv => whnf); clear H; intro τ H) | rw [List.length_map]); (refine wX ?_)))
  rw [bool_cmp]
  by_cases h1 : a.poll = b.poll
  case neg => refine abr_no h1 ?_; (refine wX ?_); (repeat ((first | refine zI (by omega) ?_ | refine zE (by omega) (by omega) ?_ | refine zD (by omega) (by omega) ?_ | refine zY (by omega) ?_ | refine zN (by omega) ?_ | refine amin ?_ | refine amax ?_ | refine zU (by omega) ?_ | refine z8 (by omega) ?_ | refine zX (by omega) (by omega) ?_ | refine zR rfl ?_ | refine acellA ?_ | (apply zL H; (· repeat first | exact .h | apply AtK.t); (· rfl)) | (apply zA H; (· repeat first | exact .h | apply AtK.t)) | (apply zS H; (· repeat first | exact .h | apply AtK.t); (· rfl); (conv => whnf); clear H; intro τ H) | rw [List.length_map]); (refine wX ?_))); exact aret (VLe.refl _) H.sub (no (fun e => h1 (by rw [e])) rfl rfl)
  refine abr_yes h1 ?_
  (refine wX ?_)
  (repeat ((first | refine zI (by omega) ?_ | refine zE (by omega) (by omega) ?_ | refine zD (by omega) (by omega) ?_ | refine zY (by omega) ?_ | refine zN (by omega) ?_ | refine amin ?_ | refine amax ?_ | refine zU (by omega) ?_ | refine z8 (by omega) ?_ | refine zX (by omega) (by omega) ?_ | refine zR rfl ?_ | refine acellA ?_ | (apply zL H; (· repeat first | exact .h | apply AtK.t); (· rfl)) | (apply zA H; (· repeat first | exact .h | apply AtK.t)) | (apply zS H; (· repeat first | exact .h | apply AtK.t); (· rfl); (conv => whnf); clear H; intro τ H) | rw [List.length_map]); (refine wX ?_)))
  by_cases h2 : a.fi = b.fi
  case neg => (repeat ((first | refine zI (by omega) ?_ | refine zE (by omega) (by omega) ?_ | refine zD (by omega) (by omega) ?_ | refine zY (by omega) ?_ | refine zN (by omega) ?_ | refine amin ?_ | refine amax ?_ | refine zU (by omega) ?_ | refine z8 (by omega) ?_ | refine zX (by omega) (by omega) ?_ | refine zR rfl ?_ | refine acellA ?_ | (apply zL H; (· repeat first | exact .h | apply AtK.t); (· rfl)) | (apply zA H; (· repeat first | exact .h | apply AtK.t)) | (apply zS H; (· repeat first | exact .h | apply AtK.t); (· rfl); (conv => whnf); clear H; intro τ H) | rw [List.length_map]); (refine wX ?_))); exact aret (VLe.refl _) H.sub (no (fun e => h2 (by rw [e])) rfl rfl)
  (repeat ((first | refine zI (by omega) ?_ | refine zE (by omega) (by omega) ?_ | refine zD (by omega) (by omega) ?_ | refine zY (by omega) ?_ | refine zN (by omega) ?_ | refine amin ?_ | refine amax ?_ | refine zU (by omega) ?_ | refine z8 (by omega) ?_ | refine zX (by omega) (by omega) ?_ | refine zR rfl ?_ | refine acellA ?_ | (apply zL H; (· repeat first | exact .h | apply AtK.t); (· rfl)) | (apply zA H; (· repeat first | exact .h | apply AtK.t)) | (apply zS H; (· repeat first | exact .h | apply AtK.t); (· rfl); (conv => whnf); clear H; intro τ H) | rw [List.length_map]); (refine wX ?_)))
  by_cases h3 : a.sn = b.sn
  case neg => (repeat ((first | refine zI (by omega) ?_ | refine zE (by omega) (by omega) ?_ | refine zD (by omega) (by omega) ?_ | refine zY (by omega) ?_ | refine zN (by omega) ?_ | refine amin ?_ | refine amax ?_ | refine zU (by omega) ?_ | refine z8 (by omega) ?_ | refine zX (by omega) (by omega) ?_ | refine zR rfl ?_ | refine acellA ?_ | (apply zL H; (· repeat first | exact .h | apply AtK.t); (· rfl)) | (apply zA H; (· repeat first | exact .h | apply AtK.t)) | (apply zS H; (· repeat first | exact .h | apply AtK.t); (· rfl); (conv => whnf); clear H; intro τ H) | rw [List.length_map]); (refine wX ?_))); exact aret (VLe.refl _) H.sub (no (fun e => h3 (by rw [e])) rfl rfl)
  (repeat ((first | refine zI (by omega) ?_ | refine zE (by omega) (by omega) ?_ | refine zD (by omega) (by omega) ?_ | refine zY (by omega) ?_ | refine zN (by omega) ?_ | refine amin ?_ | refine amax ?_ | refine zU (by omega) ?_ | refine z8 (by omega) ?_ | refine zX (by omega) (by omega) ?_ | refine zR rfl ?_ | refine acellA ?_ | (apply zL H; (· repeat first | exact .h | apply AtK.t); (· rfl)) | (apply zA H; (· repeat first | exact .h | apply AtK.t)) | (apply zS H; (· repeat first | exact .h | apply AtK.t); (· rfl); (conv => whnf); clear H; intro τ H) | rw [List.length_map]); (refine wX ?_)))
  rw [bool_cmp]
  by_cases h4 : a.part = b.part
  case neg => refine abr_no h4 ?_; (refine wX ?_); (repeat ((first | refine zI (by omega) ?_ | refine zE (by omega) (by omega) ?_ | refine zD (by omega) (by omega) ?_ | refine zY (by omega) ?_ | refine zN (by omega) ?_ | refine amin ?_ | refine amax ?_ | refine zU (by omega) ?_ | refine z8 (by omega) ?_ | refine zX (by omega) (by omega) ?_ | refine zR rfl ?_ | refine acellA ?_ | (apply zL H; (· repeat first | exact .h | apply AtK.t); (· rfl)) | (apply zA H; (· repeat first | exact .h | apply AtK.t)) | (apply zS H; (· repeat first | exact .h | apply AtK.t); (· rfl); (conv => whnf); clear H; intro τ H) | rw [List.length_map]); (refine wX ?_))); exact aret (VLe.refl _) H.sub (no (fun e => h4 (by rw [e])) rfl rfl)
  refine abr_yes h4 ?_
  (refine wX ?_)
  (repeat ((first | refine zI (by omega) ?_ | refine zE (by omega) (by omega) ?_ | refine zD (by omega) (by omega) ?_ | refine zY (by omega) ?_ | refine zN (by omega) ?_ | refine amin ?_ | refine amax ?_ | refine zU (by omega) ?_ | refine z8 (by omega) ?_ | refine zX (by omega) (by omega) ?_ | refine zR rfl ?_ | refine acellA ?_ | (apply zL H; (· repeat first | exact .h | apply AtK.t); (· rfl)) | (apply zA H; (· repeat first | exact .h | apply AtK.t)) | (apply zS H; (· repeat first | exact .h | apply AtK.t); (· rfl); (conv => whnf); clear H; intro τ H) | rw [List.length_map]); (refine wX ?_)))
  rw [bool_cmp]
  by_cases h5 : a.last = b.last
  case neg => refine abr_no h5 ?_; (refine wX ?_); (repeat ((first | refine zI (by omega) ?_ | refine zE (by omega) (by omega) ?_ | refine zD (by omega) (by omega) ?_ | refine zY (by omega) ?_ | refine zN (by omega) ?_ | refine amin ?_ | refine amax ?_ | refine zU (by omega) ?_ | refine z8 (by omega) ?_ | refine zX (by omega) (by omega) ?_ | refine zR rfl ?_ | refine acellA ?_ | (apply zL H; (· repeat first | exact .h | apply AtK.t); (· rfl)) | (apply zA H; (· repeat first | exact .h | apply AtK.t)) | (apply zS H; (· repeat first | exact .h | apply AtK.t); (· rfl); (conv => whnf); clear H; intro τ H) | rw [List.length_map]); (refine wX ?_))); exact aret (VLe.refl _) H.sub (no (fun e => h5 (by rw [e])) rfl rfl)
  refine abr_yes h5 ?_
  (refine wX ?_)
  (repeat ((first | refine zI (by omega) ?_ | refine zE (by omega) (by omega) ?_ | refine zD (by omega) (by omega) ?_ | refine zY (by omega) ?_ | refine zN (by omega) ?_ | refine amin ?_ | refine amax ?_ | refine zU (by omega) ?_ | refine z8 (by omega) ?_ | refine zX (by omega) (by omega) ?_ | refine zR rfl ?_ | refine acellA ?_ | (apply zL H; (· repeat first | exact .h | apply AtK.t); (· rfl)) | (apply zA H; (· repeat first | exact .h | apply AtK.t)) | (apply zS H; (· repeat first | exact .h | apply AtK.t); (· rfl); (conv => whnf); clear H; intro τ H) | rw [List.length_map]); (refine wX ?_)))
  by_cases h6 : a.off = b.off
  case neg => (repeat ((first | refine zI (by omega) ?_ | refine zE (by omega) (by omega) ?_ | refine zD (by omega) (by omega) ?_ | refine zY (by omega) ?_ | refine zN (by omega) ?_ | refine amin ?_ | refine amax ?_ | refine zU (by omega) ?_ | refine z8 (by omega) ?_ | refine zX (by omega) (by omega) ?_ | refine zR rfl ?_ | refine acellA ?_ | (apply zL H; (· repeat first | exact .h | apply AtK.t); (· rfl)) | (apply zA H; (· repeat first | exact .h | apply AtK.t)) | (apply zS H; (· repeat first | exact .h | apply AtK.t); (· rfl); (conv => whnf); clear H; intro τ H) | rw [List.length_map]); (refine wX ?_))); exact aret (VLe.refl _) H.sub (no (fun e => h6 (by rw [e])) rfl rfl)
  (repeat ((first | refine zI (by omega) ?_ | refine zE (by omega) (by omega) ?_ | refine zD (by omega) (by omega) ?_ | refine zY (by omega) ?_ | refine zN (by omega) ?_ | refine amin ?_ | refine amax ?_ | refine zU (by omega) ?_ | refine z8 (by omega) ?_ | refine zX (by omega) (by omega) ?_ | refine zR rfl ?_ | refine acellA ?_ | (apply zL H; (· repeat first | exact .h | apply AtK.t); (· rfl)) | (apply zA H; (· repeat first | exact .h | apply AtK.t)) | (apply zS H; (· repeat first | exact .h | apply AtK.t); (· rfl); (conv => whnf); clear H; intro τ H) | rw [List.length_map]); (refine wX ?_)))
  refine acall (refSameF a.fs b.fs .none .none τ hl) ?_
  rintro _ σ_ ⟨rfl, e_⟩
  obtain rfl := e_.symm
  refine ⟨?_, Ext.refl _⟩
  (refine wX ?_)
  exact aret (VLe.refl _) H.sub ⟨congrArg boolv (dec_congr ⟨fun h => pk_eq.2 ⟨h1, h2, h3, h4, h5, h6, h⟩, fun h => by rw [h]⟩), rfl⟩
theorem rHead10 (part : Bool) (w : Int) (σ : AHeap) : ACalls Try.prog i_bowlineref10_Head [boolv part, i64v w] σ fun v σ' => v = i64v (amHead part w) ∧ σ' = σ := by
  refine k_bowlineref10_Head rfl ?_
  (refine wX ?_)
  by_cases h1 : w = 10
  · have e : amHead part w = 2 + (if part = true then 2 else 0) := by unfold amHead; rw [if_pos (amWidth_iff.2 (.inl h1)), if_neg (by omega)]
    rw [e]
    (repeat ((first | refine zI (by omega) ?_ | refine zE (by omega) (by omega) ?_ | refine zD (by omega) (by omega) ?_ | refine zY (by omega) ?_ | refine zN (by omega) ?_ | refine amin ?_ | refine amax ?_ | refine zU (by omega) ?_ | refine z8 (by omega) ?_ | refine zX (by omega) (by omega) ?_ | refine zR rfl ?_ | refine acellA ?_ | (apply zL H; (· repeat first | exact .h | apply AtK.t); (· rfl)) | (apply zA H; (· repeat first | exact .h | apply AtK.t)) | (apply zS H; (· repeat first | exact .h | apply AtK.t); (· rfl); (conv => whnf); clear H; intro τ H) | rw [List.length_map]); (refine wX ?_)))
    cases part
    all_goals
      (refine wX ?_)
      (repeat ((first | refine zI (by omega) ?_ | refine zE (by omega) (by omega) ?_ | refine zD (by omega) (by omega) ?_ | refine zY (by omega) ?_ | refine zN (by omega) ?_ | refine amin ?_ | refine amax ?_ | refine zU (by omega) ?_ | refine z8 (by omega) ?_ | refine zX (by omega) (by omega) ?_ | refine zR rfl ?_ | refine acellA ?_ | (apply zL H; (· repeat first | exact .h | apply AtK.t); (· rfl)) | (apply zA H; (· repeat first | exact .h | apply AtK.t)) | (apply zS H; (· repeat first | exact .h | apply AtK.t); (· rfl); (conv => whnf); clear H; intro τ H) | rw [List.length_map]); (refine wX ?_)))
      exact aret_same ⟨rfl, rfl⟩
  by_cases h2 : w = 16
  · have e : amHead part w = 3 + (if part = true then 2 else 0) := by unfold amHead; rw [if_pos (amWidth_iff.2 (.inr h2)), if_pos h2]
    rw [e]
    (repeat ((first | refine zI (by omega) ?_ | refine zE (by omega) (by omega) ?_ | refine zD (by omega) (by omega) ?_ | refine zY (by omega) ?_ | refine zN (by omega) ?_ | refine amin ?_ | refine amax ?_ | refine zU (by omega) ?_ | refine z8 (by omega) ?_ | refine zX (by omega) (by omega) ?_ | refine zR rfl ?_ | refine acellA ?_ | (apply zL H; (· repeat first | exact .h | apply AtK.t); (· rfl)) | (apply zA H; (· repeat first | exact .h | apply AtK.t)) | (apply zS H; (· repeat first | exact .h | apply AtK.t); (· rfl); (conv => whnf); clear H; intro τ H) | rw [List.length_map]); (refine wX ?_)))
    cases part
    all_goals
      (refine wX ?_)
      (repeat ((first | refine zI (by omega) ?_ | refine zE (by omega) (by omega) ?_ | refine zD (by omega) (by omega) ?_ | refine zY (by omega) ?_ | refine zN (by omega) ?_ | refine amin ?_ | refine amax ?_ | refine zU (by omega) ?_ | refine z8 (by omega) ?_ | refine zX (by omega) (by omega) ?_ | refine zR rfl ?_ | refine acellA ?_ | (apply zL H; (· repeat first | exact .h | apply AtK.t); (· rfl)) | (apply zA H; (· repeat first | exact .h | apply AtK.t)) | (apply zS H; (· repeat first | exact .h | apply AtK.t); (· rfl); (conv => whnf); clear H; intro τ H) | rw [List.length_map]); (refine wX ?_)))
      exact aret_same ⟨rfl, rfl⟩
  have e : amHead part w = 0 := by unfold amHead; rw [if_neg (by rw [amWidth_iff]; omega)]
  rw [e]
  (repeat ((first | refine zI (by omega) ?_ | refine zE (by omega) (by omega) ?_ | refine zD (by omega) (by omega) ?_ | refine zY (by omega) ?_ | refine zN (by omega) ?_ | refine amin ?_ | refine amax ?_ | refine zU (by omega) ?_ | refine z8 (by omega) ?_ | refine zX (by omega) (by omega) ?_ | refine zR rfl ?_ | refine acellA ?_ | (apply zL H; (· repeat first | exact .h | apply AtK.t); (· rfl)) | (apply zA H; (· repeat first | exact .h | apply AtK.t)) | (apply zS H; (· repeat first | exact .h | apply AtK.t); (· rfl); (conv => whnf); clear H; intro τ H) | rw [List.length_map]); (refine wX ?_)))
  cases part
  all_goals
    (refine wX ?_)
    (repeat ((first | refine zI (by omega) ?_ | refine zE (by omega) (by omega) ?_ | refine zD (by omega) (by omega) ?_ | refine zY (by omega) ?_ | refine zN (by omega) ?_ | refine amin ?_ | refine amax ?_ | refine zU (by omega) ?_ | refine z8 (by omega) ?_ | refine zX (by omega) (by omega) ?_ | refine zR rfl ?_ | refine acellA ?_ | (apply zL H; (· repeat first | exact .h | apply AtK.t); (· rfl)) | (apply zA H; (· repeat first | exact .h | apply AtK.t)) | (apply zS H; (· repeat first | exact .h | apply AtK.t); (· rfl); (conv => whnf); clear H; intro τ H) | rw [List.length_map]); (refine wX ?_)))
    exact aret_same ⟨rfl, rfl⟩
theorem rWidths10 (w : Int) (σ : AHeap) : ACalls Try.prog i_bowlineref10_widths [i64v w] σ fun v σ' => v = .tup [i64v (lenW w), i64v (offW w)] ∧ σ' = σ := by
  refine k_bowlineref10_widths rfl ?_
  (refine wX ?_)
  by_cases h : w = 10
  · refine abr_yes h ?_
    (refine wX ?_)
    exact aret_same ⟨by unfold lenW offW; rw [if_pos h, if_pos h], rfl⟩
  · refine abr_no h ?_
    (refine wX ?_)
    exact aret_same ⟨by unfold lenW offW; rw [if_neg h, if_neg h], rfl⟩
set_option maxRecDepth 20000 in
theorem rData10 (p : Pk) (σ : AHeap) (hn : p.fs.length ≤ 1000) (ht : total p.fs ≤ 1000000) : ACalls Try.prog i_bowlineref10_Data [amV p] σ fun v σ' => v = sl .none p.fs.flatten ∧ σ' = σ := by
  refine k_bowlineref10_Data rfl ?_
  have H := Hp.nil σ
  (refine wX ?_)
  refine hnew H rfl ?_
  clear H
  intro id τ H
  (refine wX ?_)
  have b1 : True := trivial
  refine aloop (α := Nat × Tok × AHeap) (fun y => [(s3, sl y.2.1 (p.fs.take y.1).flatten), (s4, i64v y.1)]) (fun y => y.2.2) (fun y => y.1 ≤ p.fs.length ∧ Hp σ [.t y.2.1, .o id (.cells (amV p).cells)] y.2.2) (fun y => p.fs.length - y.1) (0, .full, τ) ⟨Nat.zero_le _, H.cons_full⟩ (Sub.refl _) ?_ ?_
  · (refine wX ?_)
    (repeat' first | with_reducible exact EnvLe.refl _ | (refine EnvLe.node ?_ (by first | exact Or.inl rfl | exact Or.inr (Or.inl rfl) | exact Or.inr (Or.inr ⟨nofun, VLe.slice _ _ _⟩)) ?_))
  clear H
  rintro ⟨i, tk, τ⟩ ⟨hi, H⟩
  dsimp only at hi H ⊢
  (refine wX ?_)
  (repeat ((first | refine zI (by omega) ?_ | refine zE (by omega) (by omega) ?_ | refine zD (by omega) (by omega) ?_ | refine zY (by omega) ?_ | refine zN (by omega) ?_ | refine amin ?_ | refine amax ?_ | refine zU (by omega) ?_ | refine z8 (by omega) ?_ | refine zX (by omega) (by omega) ?_ | refine zR rfl ?_ | refine acellA ?_ | refine zB H b1 rfl ?_ | refine zC H b1 ?_ | (apply zL H; (· repeat first | exact .h | apply AtK.t); (· rfl)) | (apply zA H; (· repeat first | exact .h | apply AtK.t)) | (apply zS H; (· repeat first | exact .h | apply AtK.t); (· rfl); (conv => whnf); clear H; intro τ H) | rw [List.length_map]); (refine wX ?_)))
  have htt := total_take_le p.fs i
  by_cases h : i < p.fs.length
  · have hts := total_take_succ p.fs i h
    have htl := total_take_le p.fs (i + 1)
    (repeat ((first | refine zI (by omega) ?_ | refine zE (by omega) (by omega) ?_ | refine zD (by omega) (by omega) ?_ | refine zY (by omega) ?_ | refine zN (by omega) ?_ | refine amin ?_ | refine amax ?_ | refine zU (by omega) ?_ | refine z8 (by omega) ?_ | refine zX (by omega) (by omega) ?_ | refine zR rfl ?_ | refine acellA ?_ | refine zB H b1 rfl ?_ | refine zC H b1 ?_ | (apply zL H; (· repeat first | exact .h | apply AtK.t); (· rfl)) | (apply zA H; (· repeat first | exact .h | apply AtK.t)) | (apply zS H; (· repeat first | exact .h | apply AtK.t); (· rfl); (conv => whnf); clear H; intro τ H) | rw [List.length_map]); (refine wX ?_)))
    refine aget (by omega) (get_lists h) ?_
    (refine wX ?_)
    (repeat ((first | refine zI (by omega) ?_ | refine zE (by omega) (by omega) ?_ | refine zD (by omega) (by omega) ?_ | refine zY (by omega) ?_ | refine zN (by omega) ?_ | refine amin ?_ | refine amax ?_ | refine zU (by omega) ?_ | refine z8 (by omega) ?_ | refine zX (by omega) (by omega) ?_ | refine zR rfl ?_ | refine acellA ?_ | refine zB H b1 rfl ?_ | refine zC H b1 ?_ | (apply zL H; (· repeat first | exact .h | apply AtK.t); (· rfl)) | (apply zA H; (· repeat first | exact .h | apply AtK.t)) | (apply zS H; (· repeat first | exact .h | apply AtK.t); (· rfl); (conv => whnf); clear H; intro τ H) | rw [List.length_map]); (refine wX ?_)))
    apply zP H
    · (repeat first | exact .h | apply AtK.t)
    · exact (by rw [List.length_map, List.length_map]; show (total (p.fs.take i) + _) * 1 ≤ _; omega)
    intro tk2
    (conv => whnf)
    clear H
    intro τ H
    (refine wX ?_)
    rw [← List.map_append]
    (repeat ((first | refine zI (by omega) ?_ | refine zE (by omega) (by omega) ?_ | refine zD (by omega) (by omega) ?_ | refine zY (by omega) ?_ | refine zN (by omega) ?_ | refine amin ?_ | refine amax ?_ | refine zU (by omega) ?_ | refine z8 (by omega) ?_ | refine zX (by omega) (by omega) ?_ | refine zR rfl ?_ | refine acellA ?_ | refine zB H b1 rfl ?_ | refine zC H b1 ?_ | (apply zL H; (· repeat first | exact .h | apply AtK.t); (· rfl)) | (apply zA H; (· repeat first | exact .h | apply AtK.t)) | (apply zS H; (· repeat first | exact .h | apply AtK.t); (· rfl); (conv => whnf); clear H; intro τ H) | rw [List.length_map]); (refine wX ?_)))
    refine ⟨(i + 1, tk2, τ), ⟨h, H⟩, by dsimp only; omega, Sub.refl _, ?_⟩
    dsimp only
    rw [List.take_add_one, List.getElem?_eq_getElem h, List.flatten_append, show (some p.fs[i]).toList.flatten = p.fs[i] by simp]
    (refine wX ?_)
    (repeat' first | with_reducible exact EnvLe.refl _ | (refine EnvLe.node ?_ (by first | exact Or.inl rfl | exact Or.inr (Or.inl rfl) | exact Or.inr (Or.inr ⟨nofun, VLe.slice _ _ _⟩)) ?_))
  · rw [List.take_of_length_le (by omega)]
    (repeat ((first | refine zI (by omega) ?_ | refine zE (by omega) (by omega) ?_ | refine zD (by omega) (by omega) ?_ | refine zY (by omega) ?_ | refine zN (by omega) ?_ | refine amin ?_ | refine amax ?_ | refine zU (by omega) ?_ | refine z8 (by omega) ?_ | refine zX (by omega) (by omega) ?_ | refine zR rfl ?_ | refine acellA ?_ | refine zB H b1 rfl ?_ | refine zC H b1 ?_ | (apply zL H; (· repeat first | exact .h | apply AtK.t); (· rfl)) | (apply zA H; (· repeat first | exact .h | apply AtK.t)) | (apply zS H; (· repeat first | exact .h | apply AtK.t); (· rfl); (conv => whnf); clear H; intro τ H) | rw [List.length_map]); (refine wX ?_)))
    exact aret (VLe.slice _ _ _) H.sub ⟨rfl, rfl⟩
set_option maxRecDepth 20000 in
theorem rFields10 (l : List (List UInt8)) (t : Tok) (h w : Int) (σ : AHeap) (hh : 0 ≤ h ∧ h ≤ 100) (hl : l.length ≤ 140737488355320) (hd : ∀ f ∈ l, f.length ≤ 140737488355320) : ACalls Try.prog i_bowlineref09_Fields [lists t l, i64v h, i64v w] σ fun v σ' => v = i64v (fieldsV l h w) ∧ σ' = σ := by
  refine k_bowlineref09_Fields rfl ?_
  have H := Hp.nil σ
  (refine wX ?_)
  by_cases h1 : l.length < 1
  · (repeat ((first | refine zI (by omega) ?_ | refine zE (by omega) (by omega) ?_ | refine zD (by omega) (by omega) ?_ | refine zY (by omega) ?_ | refine zN (by omega) ?_ | refine amin ?_ | refine amax ?_ | refine zU (by omega) ?_ | refine z8 (by omega) ?_ | refine zX (by omega) (by omega) ?_ | refine zR rfl ?_ | refine acellA ?_ | (apply zL H; (· repeat first | exact .h | apply AtK.t); (· rfl)) | (apply zA H; (· repeat first | exact .h | apply AtK.t)) | (apply zS H; (· repeat first | exact .h | apply AtK.t); (· rfl); (conv => whnf); clear H; intro τ H) | rw [List.length_map]); (refine wX ?_)))
    exact aret_same ⟨by unfold fieldsV; rw [if_pos (.inl h1)], rfl⟩
  by_cases h2 : l.length > 24
  · (repeat ((first | refine zI (by omega) ?_ | refine zE (by omega) (by omega) ?_ | refine zD (by omega) (by omega) ?_ | refine zY (by omega) ?_ | refine zN (by omega) ?_ | refine amin ?_ | refine amax ?_ | refine zU (by omega) ?_ | refine z8 (by omega) ?_ | refine zX (by omega) (by omega) ?_ | refine zR rfl ?_ | refine acellA ?_ | (apply zL H; (· repeat first | exact .h | apply AtK.t); (· rfl)) | (apply zA H; (· repeat first | exact .h | apply AtK.t)) | (apply zS H; (· repeat first | exact .h | apply AtK.t); (· rfl); (conv => whnf); clear H; intro τ H) | rw [List.length_map]); (refine wX ?_)))
    exact aret_same ⟨by unfold fieldsV; rw [if_pos (.inr h2)], rfl⟩
  (repeat ((first | refine zI (by omega) ?_ | refine zE (by omega) (by omega) ?_ | refine zD (by omega) (by omega) ?_ | refine zY (by omega) ?_ | refine zN (by omega) ?_ | refine amin ?_ | refine amax ?_ | refine zU (by omega) ?_ | refine z8 (by omega) ?_ | refine zX (by omega) (by omega) ?_ | refine zR rfl ?_ | refine acellA ?_ | (apply zL H; (· repeat first | exact .h | apply AtK.t); (· rfl)) | (apply zA H; (· repeat first | exact .h | apply AtK.t)) | (apply zS H; (· repeat first | exact .h | apply AtK.t); (· rfl); (conv => whnf); clear H; intro τ H) | rw [List.length_map]); (refine wX ?_)))
  have hsz := sizeV_range ((l.length : Int) - 1) w
  have h0 : ¬ l.length > 1 → sizeV ((l.length : Int) - 1) w = 0 := fun h => by unfold sizeV; rw [if_pos (.inr (.inl (by omega)))]
  generalize hSZ : sizeV ((l.length : Int) - 1) w = sz at *
  have hV (h9 : fieldsBad l l.length = true ∨ h + sz + (total l : Int) > 4000) : fieldsV l h w = 0 := by
    unfold fieldsV
    rw [if_neg (by omega), hSZ]
    by_cases hb : fieldsBad l l.length = true
    · rw [if_pos hb]
    · rw [if_neg hb, if_pos (h9.resolve_left hb)]
  by_cases hm : l.length > 1
  case' pos =>
    (repeat ((first | refine zI (by omega) ?_ | refine zE (by omega) (by omega) ?_ | refine zD (by omega) (by omega) ?_ | refine zY (by omega) ?_ | refine zN (by omega) ?_ | refine amin ?_ | refine amax ?_ | refine zU (by omega) ?_ | refine z8 (by omega) ?_ | refine zX (by omega) (by omega) ?_ | refine zR rfl ?_ | refine acellA ?_ | (apply zL H; (· repeat first | exact .h | apply AtK.t); (· rfl)) | (apply zA H; (· repeat first | exact .h | apply AtK.t)) | (apply zS H; (· repeat first | exact .h | apply AtK.t); (· rfl); (conv => whnf); clear H; intro τ H) | rw [List.length_map]); (refine wX ?_)))
    refine acall (refSz ((l.length : Int) - 1) w σ) ?_
    rintro _ σ_ ⟨rfl, e_⟩
    obtain rfl := e_.symm
    refine ⟨?_, Ext.refl _⟩
    (refine wX ?_)
    rw [hSZ]
    (repeat ((first | refine zI (by omega) ?_ | refine zE (by omega) (by omega) ?_ | refine zD (by omega) (by omega) ?_ | refine zY (by omega) ?_ | refine zN (by omega) ?_ | refine amin ?_ | refine amax ?_ | refine zU (by omega) ?_ | refine z8 (by omega) ?_ | refine zX (by omega) (by omega) ?_ | refine zR rfl ?_ | refine acellA ?_ | (apply zL H; (· repeat first | exact .h | apply AtK.t); (· rfl)) | (apply zA H; (· repeat first | exact .h | apply AtK.t)) | (apply zS H; (· repeat first | exact .h | apply AtK.t); (· rfl); (conv => whnf); clear H; intro τ H) | rw [List.length_map]); (refine wX ?_)))
    obtain ⟨n0, hn0⟩ : ∃ n0, n0 = h + sz := ⟨_, rfl⟩
    rw [show h + sz = n0 from hn0.symm]
  case' neg =>
    (repeat ((first | refine zI (by omega) ?_ | refine zE (by omega) (by omega) ?_ | refine zD (by omega) (by omega) ?_ | refine zY (by omega) ?_ | refine zN (by omega) ?_ | refine amin ?_ | refine amax ?_ | refine zU (by omega) ?_ | refine z8 (by omega) ?_ | refine zX (by omega) (by omega) ?_ | refine zR rfl ?_ | refine acellA ?_ | (apply zL H; (· repeat first | exact .h | apply AtK.t); (· rfl)) | (apply zA H; (· repeat first | exact .h | apply AtK.t)) | (apply zS H; (· repeat first | exact .h | apply AtK.t); (· rfl); (conv => whnf); clear H; intro τ H) | rw [List.length_map]); (refine wX ?_)))
    obtain ⟨n0, hn0⟩ : ∃ n0, n0 = h + sz := ⟨_, rfl⟩
    have e0 : h = n0 := by rw [hn0, h0 hm]; omega
    rw [show i64v h = i64v n0 by rw [e0]]
  all_goals
    refine aloop (α := Nat × Int) (fun x => [(s8, i64v x.2), (s9, i64v x.1)]) (fun _ => σ) (fun x => x.1 ≤ l.length ∧ fieldsBad l x.1 = false ∧ x.2 = h + sz + (total (l.take x.1) : Int) ∧ (x.1 = 0 ∨ x.2 ≤ 4000)) (fun x => l.length - x.1) (0, n0) ⟨Nat.zero_le _, rfl, by dsimp only; rw [hn0]; show h + sz = h + sz + ((0 : Nat) : Int); omega, .inl rfl⟩ (Sub.refl _) ?_ ?_
    · (refine wX ?_)
      (repeat' first | with_reducible exact EnvLe.refl _ | (refine EnvLe.node ?_ (by first | exact Or.inl rfl | exact Or.inr (Or.inl rfl) | exact Or.inr (Or.inr ⟨nofun, VLe.slice _ _ _⟩)) ?_))
    rintro ⟨i, n⟩ ⟨hi, hbad, hn, hle⟩
    dsimp only at hi hbad hn hle ⊢
    by_cases hil : i < l.length
    · have hts := total_take_succ l i hil
      have htl := total_take_le l (i + 1)
      have hfb := fieldBad_get hil
      have hsucc := fieldsBad_succ l i
      have hdl := hd _ (List.getElem_mem hil)
      have ht0 : i = 0 → total (l.take i) = 0 := fun e => by rw [e]; rfl
      rw [hbad, Bool.false_or] at hsucc
      (refine wX ?_)
      (repeat ((first | refine zI (by omega) ?_ | refine zE (by omega) (by omega) ?_ | refine zD (by omega) (by omega) ?_ | refine zY (by omega) ?_ | refine zN (by omega) ?_ | refine amin ?_ | refine amax ?_ | refine zU (by omega) ?_ | refine z8 (by omega) ?_ | refine zX (by omega) (by omega) ?_ | refine zR rfl ?_ | refine acellA ?_ | (apply zL H; (· repeat first | exact .h | apply AtK.t); (· rfl)) | (apply zA H; (· repeat first | exact .h | apply AtK.t)) | (apply zS H; (· repeat first | exact .h | apply AtK.t); (· rfl); (conv => whnf); clear H; intro τ H) | rw [List.length_map]); (refine wX ?_)))
      refine aget (by omega) (get_lists hil) ?_
      (refine wX ?_)
      (repeat ((first | refine zI (by omega) ?_ | refine zE (by omega) (by omega) ?_ | refine zD (by omega) (by omega) ?_ | refine zY (by omega) ?_ | refine zN (by omega) ?_ | refine amin ?_ | refine amax ?_ | refine zU (by omega) ?_ | refine z8 (by omega) ?_ | refine zX (by omega) (by omega) ?_ | refine zR rfl ?_ | refine acellA ?_ | (apply zL H; (· repeat first | exact .h | apply AtK.t); (· rfl)) | (apply zA H; (· repeat first | exact .h | apply AtK.t)) | (apply zS H; (· repeat first | exact .h | apply AtK.t); (· rfl); (conv => whnf); clear H; intro τ H) | rw [List.length_map]); (refine wX ?_)))
      by_cases c1 : l[i].length = 0
      · have hbd : fieldBad l i = true := by rw [hfb, decide_eq_true (.inl c1)]
        (repeat ((first | refine zI (by omega) ?_ | refine zE (by omega) (by omega) ?_ | refine zD (by omega) (by omega) ?_ | refine zY (by omega) ?_ | refine zN (by omega) ?_ | refine amin ?_ | refine amax ?_ | refine zU (by omega) ?_ | refine z8 (by omega) ?_ | refine zX (by omega) (by omega) ?_ | refine zR rfl ?_ | refine acellA ?_ | (apply zL H; (· repeat first | exact .h | apply AtK.t); (· rfl)) | (apply zA H; (· repeat first | exact .h | apply AtK.t)) | (apply zS H; (· repeat first | exact .h | apply AtK.t); (· rfl); (conv => whnf); clear H; intro τ H) | rw [List.length_map]); (refine wX ?_)))
        exact aret_same ⟨by rw [hV (.inl (fieldsBad_of hil hbd))], rfl⟩
      (repeat ((first | refine zI (by omega) ?_ | refine zE (by omega) (by omega) ?_ | refine zD (by omega) (by omega) ?_ | refine zY (by omega) ?_ | refine zN (by omega) ?_ | refine amin ?_ | refine amax ?_ | refine zU (by omega) ?_ | refine z8 (by omega) ?_ | refine zX (by omega) (by omega) ?_ | refine zR rfl ?_ | refine acellA ?_ | (apply zL H; (· repeat first | exact .h | apply AtK.t); (· rfl)) | (apply zA H; (· repeat first | exact .h | apply AtK.t)) | (apply zS H; (· repeat first | exact .h | apply AtK.t); (· rfl); (conv => whnf); clear H; intro τ H) | rw [List.length_map]); (refine wX ?_)))
      by_cases c3 : i + 1 < l.length
      · first
        | (exfalso; omega)
        | (
            (repeat ((first | refine zI (by omega) ?_ | refine zE (by omega) (by omega) ?_ | refine zD (by omega) (by omega) ?_ | refine zY (by omega) ?_ | refine zN (by omega) ?_ | refine amin ?_ | refine amax ?_ | refine zU (by omega) ?_ | refine z8 (by omega) ?_ | refine zX (by omega) (by omega) ?_ | refine zR rfl ?_ | refine acellA ?_ | (apply zL H; (· repeat first | exact .h | apply AtK.t); (· rfl)) | (apply zA H; (· repeat first | exact .h | apply AtK.t)) | (apply zS H; (· repeat first | exact .h | apply AtK.t); (· rfl); (conv => whnf); clear H; intro τ H) | rw [List.length_map]); (refine wX ?_)))
            refine aget (by omega) (get_lists hil) ?_
            (refine wX ?_)
            (repeat ((first | refine zI (by omega) ?_ | refine zE (by omega) (by omega) ?_ | refine zD (by omega) (by omega) ?_ | refine zY (by omega) ?_ | refine zN (by omega) ?_ | refine amin ?_ | refine amax ?_ | refine zU (by omega) ?_ | refine z8 (by omega) ?_ | refine zX (by omega) (by omega) ?_ | refine zR rfl ?_ | refine acellA ?_ | (apply zL H; (· repeat first | exact .h | apply AtK.t); (· rfl)) | (apply zA H; (· repeat first | exact .h | apply AtK.t)) | (apply zS H; (· repeat first | exact .h | apply AtK.t); (· rfl); (conv => whnf); clear H; intro τ H) | rw [List.length_map]); (refine wX ?_)))
            by_cases c2 : l[i].length > 2047
            · have hbd : fieldBad l i = true := by rw [hfb, decide_eq_true (.inr ⟨c2, c3⟩)]
              (repeat ((first | refine zI (by omega) ?_ | refine zE (by omega) (by omega) ?_ | refine zD (by omega) (by omega) ?_ | refine zY (by omega) ?_ | refine zN (by omega) ?_ | refine amin ?_ | refine amax ?_ | refine zU (by omega) ?_ | refine z8 (by omega) ?_ | refine zX (by omega) (by omega) ?_ | refine zR rfl ?_ | refine acellA ?_ | (apply zL H; (· repeat first | exact .h | apply AtK.t); (· rfl)) | (apply zA H; (· repeat first | exact .h | apply AtK.t)) | (apply zS H; (· repeat first | exact .h | apply AtK.t); (· rfl); (conv => whnf); clear H; intro τ H) | rw [List.length_map]); (refine wX ?_)))
              exact aret_same ⟨by rw [hV (.inl (fieldsBad_of hil hbd))], rfl⟩
            have hbd : fieldBad l i = false := by rw [hfb]; exact decide_eq_false (by omega)
            (repeat ((first | refine zI (by omega) ?_ | refine zE (by omega) (by omega) ?_ | refine zD (by omega) (by omega) ?_ | refine zY (by omega) ?_ | refine zN (by omega) ?_ | refine amin ?_ | refine amax ?_ | refine zU (by omega) ?_ | refine z8 (by omega) ?_ | refine zX (by omega) (by omega) ?_ | refine zR rfl ?_ | refine acellA ?_ | (apply zL H; (· repeat first | exact .h | apply AtK.t); (· rfl)) | (apply zA H; (· repeat first | exact .h | apply AtK.t)) | (apply zS H; (· repeat first | exact .h | apply AtK.t); (· rfl); (conv => whnf); clear H; intro τ H) | rw [List.length_map]); (refine wX ?_)))
            refine aget (by omega) (get_lists hil) ?_
            (refine wX ?_)
            (repeat ((first | refine zI (by omega) ?_ | refine zE (by omega) (by omega) ?_ | refine zD (by omega) (by omega) ?_ | refine zY (by omega) ?_ | refine zN (by omega) ?_ | refine amin ?_ | refine amax ?_ | refine zU (by omega) ?_ | refine z8 (by omega) ?_ | refine zX (by omega) (by omega) ?_ | refine zR rfl ?_ | refine acellA ?_ | (apply zL H; (· repeat first | exact .h | apply AtK.t); (· rfl)) | (apply zA H; (· repeat first | exact .h | apply AtK.t)) | (apply zS H; (· repeat first | exact .h | apply AtK.t); (· rfl); (conv => whnf); clear H; intro τ H) | rw [List.length_map]); (refine wX ?_)))
            by_cases c4 : n + (l[i].length : Int) > 4000
            · (repeat ((first | refine zI (by omega) ?_ | refine zE (by omega) (by omega) ?_ | refine zD (by omega) (by omega) ?_ | refine zY (by omega) ?_ | refine zN (by omega) ?_ | refine amin ?_ | refine amax ?_ | refine zU (by omega) ?_ | refine z8 (by omega) ?_ | refine zX (by omega) (by omega) ?_ | refine zR rfl ?_ | refine acellA ?_ | (apply zL H; (· repeat first | exact .h | apply AtK.t); (· rfl)) | (apply zA H; (· repeat first | exact .h | apply AtK.t)) | (apply zS H; (· repeat first | exact .h | apply AtK.t); (· rfl); (conv => whnf); clear H; intro τ H) | rw [List.length_map]); (refine wX ?_)))
              exact aret_same ⟨by rw [hV (.inr (by omega))], rfl⟩
            · (repeat ((first | refine zI (by omega) ?_ | refine zE (by omega) (by omega) ?_ | refine zD (by omega) (by omega) ?_ | refine zY (by omega) ?_ | refine zN (by omega) ?_ | refine amin ?_ | refine amax ?_ | refine zU (by omega) ?_ | refine z8 (by omega) ?_ | refine zX (by omega) (by omega) ?_ | refine zR rfl ?_ | refine acellA ?_ | (apply zL H; (· repeat first | exact .h | apply AtK.t); (· rfl)) | (apply zA H; (· repeat first | exact .h | apply AtK.t)) | (apply zS H; (· repeat first | exact .h | apply AtK.t); (· rfl); (conv => whnf); clear H; intro τ H) | rw [List.length_map]); (refine wX ?_)))
              refine ⟨(i + 1, n + l[i].length), ⟨hil, by dsimp only; rw [hsucc, hbd], by dsimp only; omega, by dsimp only; omega⟩, by dsimp only; omega, Sub.refl _, ?_⟩
              (refine wX ?_)
              (repeat' first | with_reducible exact EnvLe.refl _ | (refine EnvLe.node ?_ (by first | exact Or.inl rfl | exact Or.inr (Or.inl rfl) | exact Or.inr (Or.inr ⟨nofun, VLe.slice _ _ _⟩)) ?_)))
      · have hbd : fieldBad l i = false := by rw [hfb]; exact decide_eq_false (by omega)
        (repeat ((first | refine zI (by omega) ?_ | refine zE (by omega) (by omega) ?_ | refine zD (by omega) (by omega) ?_ | refine zY (by omega) ?_ | refine zN (by omega) ?_ | refine amin ?_ | refine amax ?_ | refine zU (by omega) ?_ | refine z8 (by omega) ?_ | refine zX (by omega) (by omega) ?_ | refine zR rfl ?_ | refine acellA ?_ | (apply zL H; (· repeat first | exact .h | apply AtK.t); (· rfl)) | (apply zA H; (· repeat first | exact .h | apply AtK.t)) | (apply zS H; (· repeat first | exact .h | apply AtK.t); (· rfl); (conv => whnf); clear H; intro τ H) | rw [List.length_map]); (refine wX ?_)))
        refine aget (by omega) (get_lists hil) ?_
        (refine wX ?_)
        (repeat ((first | refine zI (by omega) ?_ | refine zE (by omega) (by omega) ?_ | refine zD (by omega) (by omega) ?_ | refine zY (by omega) ?_ | refine zN (by omega) ?_ | refine amin ?_ | refine amax ?_ | refine zU (by omega) ?_ | refine z8 (by omega) ?_ | refine zX (by omega) (by omega) ?_ | refine zR rfl ?_ | refine acellA ?_ | (apply zL H; (· repeat first | exact .h | apply AtK.t); (· rfl)) | (apply zA H; (· repeat first | exact .h | apply AtK.t)) | (apply zS H; (· repeat first | exact .h | apply AtK.t); (· rfl); (conv => whnf); clear H; intro τ H) | rw [List.length_map]); (refine wX ?_)))
        by_cases c4 : n + (l[i].length : Int) > 4000
        · (repeat ((first | refine zI (by omega) ?_ | refine zE (by omega) (by omega) ?_ | refine zD (by omega) (by omega) ?_ | refine zY (by omega) ?_ | refine zN (by omega) ?_ | refine amin ?_ | refine amax ?_ | refine zU (by omega) ?_ | refine z8 (by omega) ?_ | refine zX (by omega) (by omega) ?_ | refine zR rfl ?_ | refine acellA ?_ | (apply zL H; (· repeat first | exact .h | apply AtK.t); (· rfl)) | (apply zA H; (· repeat first | exact .h | apply AtK.t)) | (apply zS H; (· repeat first | exact .h | apply AtK.t); (· rfl); (conv => whnf); clear H; intro τ H) | rw [List.length_map]); (refine wX ?_)))
          exact aret_same ⟨by rw [hV (.inr (by omega))], rfl⟩
        · (repeat ((first | refine zI (by omega) ?_ | refine zE (by omega) (by omega) ?_ | refine zD (by omega) (by omega) ?_ | refine zY (by omega) ?_ | refine zN (by omega) ?_ | refine amin ?_ | refine amax ?_ | refine zU (by omega) ?_ | refine z8 (by omega) ?_ | refine zX (by omega) (by omega) ?_ | refine zR rfl ?_ | refine acellA ?_ | (apply zL H; (· repeat first | exact .h | apply AtK.t); (· rfl)) | (apply zA H; (· repeat first | exact .h | apply AtK.t)) | (apply zS H; (· repeat first | exact .h | apply AtK.t); (· rfl); (conv => whnf); clear H; intro τ H) | rw [List.length_map]); (refine wX ?_)))
          refine ⟨(i + 1, n + l[i].length), ⟨hil, by dsimp only; rw [hsucc, hbd], by dsimp only; omega, by dsimp only; omega⟩, by dsimp only; omega, Sub.refl _, ?_⟩
          (refine wX ?_)
          (repeat' first | with_reducible exact EnvLe.refl _ | (refine EnvLe.node ?_ (by first | exact Or.inl rfl | exact Or.inr (Or.inl rfl) | exact Or.inr (Or.inr ⟨nofun, VLe.slice _ _ _⟩)) ?_))
    · obtain rfl : i = l.length := by omega
      rw [List.take_of_length_le (Nat.le_refl _)] at hn
      (refine wX ?_)
      (repeat ((first | refine zI (by omega) ?_ | refine zE (by omega) (by omega) ?_ | refine zD (by omega) (by omega) ?_ | refine zY (by omega) ?_ | refine zN (by omega) ?_ | refine amin ?_ | refine amax ?_ | refine zU (by omega) ?_ | refine z8 (by omega) ?_ | refine zX (by omega) (by omega) ?_ | refine zR rfl ?_ | refine acellA ?_ | (apply zL H; (· repeat first | exact .h | apply AtK.t); (· rfl)) | (apply zA H; (· repeat first | exact .h | apply AtK.t)) | (apply zS H; (· repeat first | exact .h | apply AtK.t); (· rfl); (conv => whnf); clear H; intro τ H) | rw [List.length_map]); (refine wX ?_)))
      refine aret_same ⟨?_, rfl⟩
      unfold fieldsV
      rw [if_neg (by omega), hbad, hSZ, if_neg (by simp), if_neg (by omega), hn]
set_option maxRecDepth 20000 in
theorem rSize10 (p : Pk) (w : Int) (σ : AHeap) (hl : p.fs.length ≤ 140737488355320) (hd : ∀ f ∈ p.fs, f.length ≤ 140737488355320) : ACalls Try.prog i_bowlineref10_Size [amV p, i64v w] σ fun v σ' => v = i64v (amSize p w) ∧ σ' = σ := by
  refine k_bowlineref10_Size rfl ?_
  have H := Hp.nil σ
  (refine wX ?_)
  refine hnew H rfl ?_
  clear H
  intro id τ H
  (refine wX ?_)
  have bad (h : amBad p w) {υ : AHeap} {v : AVal} (e : v = i64v 0) (hυ : υ = σ) : v = i64v (amSize p w) ∧ υ = σ := ⟨by rw [e]; unfold amSize; rw [if_pos h], hυ⟩
  refine acall (rWidths10 w τ) ?_
  rintro _ σ_ ⟨rfl, e_⟩
  obtain rfl := e_.symm
  refine ⟨?_, Ext.refl _⟩
  (refine wX ?_)
  refine acall (rHead10 false w τ) ?_
  rintro _ σ_ ⟨rfl, e_⟩
  obtain rfl := e_.symm
  refine ⟨?_, Ext.refl _⟩
  (refine wX ?_)
  cases hw : amWidth w
  · have e : amHead false w = 0 := by unfold amHead; rw [hw]; rfl
    rw [e]
    (refine wX ?_)
    exact aret (VLe.refl _) H.sub (bad (.inl (.inl hw)) rfl rfl)
  have e : amHead false w ≠ 0 := by unfold amHead; rw [if_pos hw]; split <;> decide
  refine abr_no e ?_
  (refine wX ?_)
  (repeat ((first | refine zI (by omega) ?_ | refine zE (by omega) (by omega) ?_ | refine zD (by omega) (by omega) ?_ | refine zY (by omega) ?_ | refine zN (by omega) ?_ | refine amin ?_ | refine amax ?_ | refine zU (by omega) ?_ | refine z8 (by omega) ?_ | refine zX (by omega) (by omega) ?_ | refine zR rfl ?_ | refine acellA ?_ | (apply zL H; (· repeat first | exact .h | apply AtK.t); (· rfl)) | (apply zA H; (· repeat first | exact .h | apply AtK.t)) | (apply zS H; (· repeat first | exact .h | apply AtK.t); (· rfl); (conv => whnf); clear H; intro τ H) | rw [List.length_map]); (refine wX ?_)))
  by_cases h1 : p.fi < 0
  · (repeat ((first | refine zI (by omega) ?_ | refine zE (by omega) (by omega) ?_ | refine zD (by omega) (by omega) ?_ | refine zY (by omega) ?_ | refine zN (by omega) ?_ | refine amin ?_ | refine amax ?_ | refine zU (by omega) ?_ | refine z8 (by omega) ?_ | refine zX (by omega) (by omega) ?_ | refine zR rfl ?_ | refine acellA ?_ | (apply zL H; (· repeat first | exact .h | apply AtK.t); (· rfl)) | (apply zA H; (· repeat first | exact .h | apply AtK.t)) | (apply zS H; (· repeat first | exact .h | apply AtK.t); (· rfl); (conv => whnf); clear H; intro τ H) | rw [List.length_map]); (refine wX ?_)))
    exact aret (VLe.refl _) H.sub (bad (.inl (.inr (.inl h1))) rfl rfl)
  by_cases h2 : p.fi > 3
  · (repeat ((first | refine zI (by omega) ?_ | refine zE (by omega) (by omega) ?_ | refine zD (by omega) (by omega) ?_ | refine zY (by omega) ?_ | refine zN (by omega) ?_ | refine amin ?_ | refine amax ?_ | refine zU (by omega) ?_ | refine z8 (by omega) ?_ | refine zX (by omega) (by omega) ?_ | refine zR rfl ?_ | refine acellA ?_ | (apply zL H; (· repeat first | exact .h | apply AtK.t); (· rfl)) | (apply zA H; (· repeat first | exact .h | apply AtK.t)) | (apply zS H; (· repeat first | exact .h | apply AtK.t); (· rfl); (conv => whnf); clear H; intro τ H) | rw [List.length_map]); (refine wX ?_)))
    exact aret (VLe.refl _) H.sub (bad (.inl (.inr (.inr (.inl h2)))) rfl rfl)
  (repeat ((first | refine zI (by omega) ?_ | refine zE (by omega) (by omega) ?_ | refine zD (by omega) (by omega) ?_ | refine zY (by omega) ?_ | refine zN (by omega) ?_ | refine amin ?_ | refine amax ?_ | refine zU (by omega) ?_ | refine z8 (by omega) ?_ | refine zX (by omega) (by omega) ?_ | refine zR rfl ?_ | refine acellA ?_ | (apply zL H; (· repeat first | exact .h | apply AtK.t); (· rfl)) | (apply zA H; (· repeat first | exact .h | apply AtK.t)) | (apply zS H; (· repeat first | exact .h | apply AtK.t); (· rfl); (conv => whnf); clear H; intro τ H) | rw [List.length_map]); (refine wX ?_)))
  refine acall (refIs02 w p.sn τ) ?_
  rintro _ σ_ ⟨rfl, e_⟩
  obtain rfl := e_.symm
  refine ⟨?_, Ext.refl _⟩
  (refine wX ?_)
  cases h3 : isNum w p.sn
  · (refine wX ?_)
    exact aret (VLe.refl _) H.sub (bad (.inl (.inr (.inr (.inr h3)))) rfl rfl)
  (refine wX ?_)
  (repeat ((first | refine zI (by omega) ?_ | refine zE (by omega) (by omega) ?_ | refine zD (by omega) (by omega) ?_ | refine zY (by omega) ?_ | refine zN (by omega) ?_ | refine amin ?_ | refine amax ?_ | refine zU (by omega) ?_ | refine z8 (by omega) ?_ | refine zX (by omega) (by omega) ?_ | refine zR rfl ?_ | refine acellA ?_ | (apply zL H; (· repeat first | exact .h | apply AtK.t); (· rfl)) | (apply zA H; (· repeat first | exact .h | apply AtK.t)) | (apply zS H; (· repeat first | exact .h | apply AtK.t); (· rfl); (conv => whnf); clear H; intro τ H) | rw [List.length_map]); (refine wX ?_)))
  have hw2 := amWidth_iff.1 hw
  by_cases h4 : p.off < 0
  · (repeat ((first | refine zI (by omega) ?_ | refine zE (by omega) (by omega) ?_ | refine zD (by omega) (by omega) ?_ | refine zY (by omega) ?_ | refine zN (by omega) ?_ | refine amin ?_ | refine amax ?_ | refine zU (by omega) ?_ | refine z8 (by omega) ?_ | refine zX (by omega) (by omega) ?_ | refine zR rfl ?_ | refine acellA ?_ | (apply zL H; (· repeat first | exact .h | apply AtK.t); (· rfl)) | (apply zA H; (· repeat first | exact .h | apply AtK.t)) | (apply zS H; (· repeat first | exact .h | apply AtK.t); (· rfl); (conv => whnf); clear H; intro τ H) | rw [List.length_map]); (refine wX ?_)))
    exact aret (VLe.refl _) H.sub (bad (.inr (.inr (.inl h4))) rfl rfl)
  (repeat ((first | refine zI (by omega) ?_ | refine zE (by omega) (by omega) ?_ | refine zD (by omega) (by omega) ?_ | refine zY (by omega) ?_ | refine zN (by omega) ?_ | refine amin ?_ | refine amax ?_ | refine zU (by omega) ?_ | refine z8 (by omega) ?_ | refine zX (by omega) (by omega) ?_ | refine zR rfl ?_ | refine acellA ?_ | (apply zL H; (· repeat first | exact .h | apply AtK.t); (· rfl)) | (apply zA H; (· repeat first | exact .h | apply AtK.t)) | (apply zS H; (· repeat first | exact .h | apply AtK.t); (· rfl); (conv => whnf); clear H; intro τ H) | rw [List.length_map]); (refine wX ?_)))
  have htop : spaceSize (offW w) = offTop w := by rcases hw2 with rfl | rfl <;> decide
  refine acall (refSize02 (offW w) τ) ?_
  rintro _ σ_ ⟨rfl, e_⟩
  obtain rfl := e_.symm
  refine ⟨?_, Ext.refl _⟩
  (refine wX ?_)
  rw [htop]
  by_cases h5 : p.off ≥ offTop w
  · (repeat ((first | refine zI (by omega) ?_ | refine zE (by omega) (by omega) ?_ | refine zD (by omega) (by omega) ?_ | refine zY (by omega) ?_ | refine zN (by omega) ?_ | refine amin ?_ | refine amax ?_ | refine zU (by omega) ?_ | refine z8 (by omega) ?_ | refine zX (by omega) (by omega) ?_ | refine zR rfl ?_ | refine acellA ?_ | (apply zL H; (· repeat first | exact .h | apply AtK.t); (· rfl)) | (apply zA H; (· repeat first | exact .h | apply AtK.t)) | (apply zS H; (· repeat first | exact .h | apply AtK.t); (· rfl); (conv => whnf); clear H; intro τ H) | rw [List.length_map]); (refine wX ?_)))
    exact aret (VLe.refl _) H.sub (bad (.inr (.inr (.inr h5))) rfl rfl)
  (repeat ((first | refine zI (by omega) ?_ | refine zE (by omega) (by omega) ?_ | refine zD (by omega) (by omega) ?_ | refine zY (by omega) ?_ | refine zN (by omega) ?_ | refine amin ?_ | refine amax ?_ | refine zU (by omega) ?_ | refine z8 (by omega) ?_ | refine zX (by omega) (by omega) ?_ | refine zR rfl ?_ | refine acellA ?_ | (apply zL H; (· repeat first | exact .h | apply AtK.t); (· rfl)) | (apply zA H; (· repeat first | exact .h | apply AtK.t)) | (apply zS H; (· repeat first | exact .h | apply AtK.t); (· rfl); (conv => whnf); clear H; intro τ H) | rw [List.length_map]); (refine wX ?_)))
  have hrest : ¬ (p.part = false ∧ (p.last = true ∨ p.off ≠ 0)) → ¬ amBad p w := by
    rintro a (h | h | h | h)
    · rcases h with h | h | h | h
      · rw [hw] at h; cases h
      · exact h1 h
      · exact h2 h
      · rw [h3] at h; cases h
    · exact a h
    · exact h4 h
    · exact h5 h
  have hhr := amHead_range p.part w
  cases hp : p.part
  · (refine wX ?_)
    (repeat ((first | refine zI (by omega) ?_ | refine zE (by omega) (by omega) ?_ | refine zD (by omega) (by omega) ?_ | refine zY (by omega) ?_ | refine zN (by omega) ?_ | refine amin ?_ | refine amax ?_ | refine zU (by omega) ?_ | refine z8 (by omega) ?_ | refine zX (by omega) (by omega) ?_ | refine zR rfl ?_ | refine acellA ?_ | (apply zL H; (· repeat first | exact .h | apply AtK.t); (· rfl)) | (apply zA H; (· repeat first | exact .h | apply AtK.t)) | (apply zS H; (· repeat first | exact .h | apply AtK.t); (· rfl); (conv => whnf); clear H; intro τ H) | rw [List.length_map]); (refine wX ?_)))
    cases hla : p.last
    · (refine wX ?_)
      (repeat ((first | refine zI (by omega) ?_ | refine zE (by omega) (by omega) ?_ | refine zD (by omega) (by omega) ?_ | refine zY (by omega) ?_ | refine zN (by omega) ?_ | refine amin ?_ | refine amax ?_ | refine zU (by omega) ?_ | refine z8 (by omega) ?_ | refine zX (by omega) (by omega) ?_ | refine zR rfl ?_ | refine acellA ?_ | (apply zL H; (· repeat first | exact .h | apply AtK.t); (· rfl)) | (apply zA H; (· repeat first | exact .h | apply AtK.t)) | (apply zS H; (· repeat first | exact .h | apply AtK.t); (· rfl); (conv => whnf); clear H; intro τ H) | rw [List.length_map]); (refine wX ?_)))
      by_cases h6 : p.off = 0
      case neg =>
        (repeat ((first | refine zI (by omega) ?_ | refine zE (by omega) (by omega) ?_ | refine zD (by omega) (by omega) ?_ | refine zY (by omega) ?_ | refine zN (by omega) ?_ | refine amin ?_ | refine amax ?_ | refine zU (by omega) ?_ | refine z8 (by omega) ?_ | refine zX (by omega) (by omega) ?_ | refine zR rfl ?_ | refine acellA ?_ | (apply zL H; (· repeat first | exact .h | apply AtK.t); (· rfl)) | (apply zA H; (· repeat first | exact .h | apply AtK.t)) | (apply zS H; (· repeat first | exact .h | apply AtK.t); (· rfl); (conv => whnf); clear H; intro τ H) | rw [List.length_map]); (refine wX ?_)))
        exact aret (VLe.refl _) H.sub (bad (.inr (.inl ⟨hp, .inr h6⟩)) rfl rfl)
      have hnb := hrest (fun h => by
        rcases h.2 with h | h
        · rw [hla] at h; cases h
        · exact h h6)
      (repeat ((first | refine zI (by omega) ?_ | refine zE (by omega) (by omega) ?_ | refine zD (by omega) (by omega) ?_ | refine zY (by omega) ?_ | refine zN (by omega) ?_ | refine amin ?_ | refine amax ?_ | refine zU (by omega) ?_ | refine z8 (by omega) ?_ | refine zX (by omega) (by omega) ?_ | refine zR rfl ?_ | refine acellA ?_ | (apply zL H; (· repeat first | exact .h | apply AtK.t); (· rfl)) | (apply zA H; (· repeat first | exact .h | apply AtK.t)) | (apply zS H; (· repeat first | exact .h | apply AtK.t); (· rfl); (conv => whnf); clear H; intro τ H) | rw [List.length_map]); (refine wX ?_)))
      refine acall (rHead10 p.part w τ) ?_
      rintro _ σ_ ⟨rfl, e_⟩
      obtain rfl := e_.symm
      refine ⟨?_, Ext.refl _⟩
      (refine wX ?_)
      refine acall (rFields10 p.fs .none (amHead p.part w) (lenW w) τ (by omega) hl hd) ?_
      rintro _ σ_ ⟨rfl, e_⟩
      obtain rfl := e_.symm
      refine ⟨?_, Ext.refl _⟩
      (refine wX ?_)
      exact aret (VLe.refl _) H.sub ⟨by unfold amSize; rw [if_neg hnb], rfl⟩
    · (refine wX ?_)
      (repeat ((first | refine zI (by omega) ?_ | refine zE (by omega) (by omega) ?_ | refine zD (by omega) (by omega) ?_ | refine zY (by omega) ?_ | refine zN (by omega) ?_ | refine amin ?_ | refine amax ?_ | refine zU (by omega) ?_ | refine z8 (by omega) ?_ | refine zX (by omega) (by omega) ?_ | refine zR rfl ?_ | refine acellA ?_ | (apply zL H; (· repeat first | exact .h | apply AtK.t); (· rfl)) | (apply zA H; (· repeat first | exact .h | apply AtK.t)) | (apply zS H; (· repeat first | exact .h | apply AtK.t); (· rfl); (conv => whnf); clear H; intro τ H) | rw [List.length_map]); (refine wX ?_)))
      exact aret (VLe.refl _) H.sub (bad (.inr (.inl ⟨hp, .inl hla⟩)) rfl rfl)
  · (refine wX ?_)
    (repeat ((first | refine zI (by omega) ?_ | refine zE (by omega) (by omega) ?_ | refine zD (by omega) (by omega) ?_ | refine zY (by omega) ?_ | refine zN (by omega) ?_ | refine amin ?_ | refine amax ?_ | refine zU (by omega) ?_ | refine z8 (by omega) ?_ | refine zX (by omega) (by omega) ?_ | refine zR rfl ?_ | refine acellA ?_ | (apply zL H; (· repeat first | exact .h | apply AtK.t); (· rfl)) | (apply zA H; (· repeat first | exact .h | apply AtK.t)) | (apply zS H; (· repeat first | exact .h | apply AtK.t); (· rfl); (conv => whnf); clear H; intro τ H) | rw [List.length_map]); (refine wX ?_)))
    have hnb := hrest (fun h => by (have := h.1; rw [hp] at this; cases this))
    refine acall (rHead10 p.part w τ) ?_
    rintro _ σ_ ⟨rfl, e_⟩
    obtain rfl := e_.symm
    refine ⟨?_, Ext.refl _⟩
    (refine wX ?_)
    refine acall (rFields10 p.fs .none (amHead p.part w) (lenW w) τ (by omega) hl hd) ?_
    rintro _ σ_ ⟨rfl, e_⟩
    obtain rfl := e_.symm
    refine ⟨?_, Ext.refl _⟩
    (refine wX ?_)
    exact aret (VLe.refl _) H.sub ⟨by unfold amSize; rw [if_neg hnb], rfl⟩
end Go.Proofs.Ytgobbmdbkmjlnaa
/-
  What is kept to be sent again, the document's: entries in a row that is stored into; what reads them.
-/
namespace Go.Proofs.Ytgobbmdbkmjlnaa
set_option linter.unusedVariables false
set_option linter.unusedSimpArgs false
set_option maxRecDepth 20000
open Go Go.Am

/-- An entry: its packet, its truths' view and row, the spans that they are, how often it was considered. -/
structure DE where
  p : Pk
  v : AVal
  L : List Bool
  m : List Sp
  c : Int
  E : List HE
def DE.cells (d : DE) : List AVal := [boolv d.p.poll, i64v d.p.fi, i64v d.p.sn, boolv d.p.part, boolv d.p.last, i64v d.p.off, lists .none d.p.fs, d.v, i64v d.c]
def deC (l : List DE) : List AVal := l.flatMap DE.cells
theorem DE.len (d : DE) : d.cells.length = 9 := rfl
theorem deC_nil : deC [] = [] := rfl
theorem deC_cons (d : DE) (l : List DE) : deC (d :: l) = d.cells ++ deC l := rfl
theorem deC_append (a b : List DE) : deC (a ++ b) = deC a ++ deC b := List.flatMap_append
theorem deC_len : ∀ l : List DE, (deC l).length = l.length * 9
  | [] => rfl
  | d :: l => by rw [deC_cons, List.length_append, deC_len l, List.length_cons, DE.len]; omega
theorem deC_get : ∀ {l : List DE} {i k : Nat} (h : i < l.length), k < 9 → (deC l)[i * 9 + k]? = l[i].cells[k]?
  | d :: l, 0, k, h, hk => by
    rw [deC_cons, Nat.zero_mul, Nat.zero_add, List.getElem?_append_left (by rw [DE.len]; omega)]; rfl
  | d :: l, i + 1, k, h, hk => by
    have h2 : i < l.length := by simpa using h
    rw [deC_cons, List.getElem?_append_right (by rw [DE.len]; omega), DE.len, show (i + 1) * 9 + k - 9 = i * 9 + k by omega, deC_get h2 hk]; rfl
structure DE.Ok (d : DE) : Prop where
  rt : RT2 d.v d.L d.E
  rel : Rel d.m d.L
  so : SOk d.m
  fl : d.p.fs.length ≤ 1000
  tot : total d.p.fs ≤ 4000
  sn : inR d.p.sn
/-- A view of the entries: none, or of a row. -/
def DVw (σ : AHeap) (w : AVal) (l : List DE) : Prop := (w = .slice 9 [] .full ∧ l = []) ∨ ∃ r, w = .ms r 9 0 l.length ∧ σ r = some (.cells (deC l)) ∧ l ≠ []
section
variable {σ : AHeap} {ix : Nat} {wd : Int} {w : AVal} {l : List DE}
def findD (l : List DE) (sn : Int) : Int := match l.findIdx? fun d => d.p.sn == sn with
  | none => -1
  | some i => (i : Int)
theorem findD_at {l : List DE} {sn : Int} {i : Nat} (h : i < l.length) (h1 : l[i].p.sn = sn) (h2 : ∀ j, (hj : j < i) → l[j].p.sn ≠ sn) : findD l sn = i := by
  have : l.findIdx? (fun d => d.p.sn == sn) = some i := by
    rw [List.findIdx?_eq_some_iff_getElem]
    exact ⟨h, by simp [h1], fun j hj => by simp [h2 j hj]⟩
  unfold findD; rw [this]
theorem findD_no {l : List DE} {sn : Int} (h : ∀ d ∈ l, d.p.sn ≠ sn) : findD l sn = -1 := by
  have : l.findIdx? (fun d => d.p.sn == sn) = none := by
    rw [List.findIdx?_eq_none_iff]
    intro d hd; simp [h d hd]
  unfold findD; rw [this]
theorem dFind (b1 : σ ix = some (.cells [i64v wd, w])) (hw : DVw σ w l) (hl : l.length ≤ 100000) (sn : Int) : ACalls Try.prog i_bowlineref19_Store_Find [.ptr ix 0, i64v sn] σ fun v σ' => v = i64v (findD l sn) ∧ σ' = σ := by
  refine k_bowlineref19_Store_Find rfl ?_
  have H := Hp.nil σ
  (refine wX ?_)
  refine aloop (α := Nat) (fun i => [(s5, i64v i)]) (fun _ => σ) (fun i => i ≤ l.length ∧ ∀ j, (hj : j < l.length) → j < i → l[j].p.sn ≠ sn) (fun i => l.length - i) 0 ⟨Nat.zero_le _, fun j hj h => absurd h (Nat.not_lt_zero _)⟩ (Sub.refl _) ?_ ?_
  · (refine wX ?_)
    (repeat' first | with_reducible exact EnvLe.refl _ | (refine EnvLe.node ?_ (by first | exact Or.inl rfl | exact Or.inr (Or.inl rfl) | exact Or.inr (Or.inr ⟨nofun, VLe.slice _ _ _⟩)) ?_))
  rintro i ⟨hi, hno⟩
  (refine wX ?_)
  (repeat ((first | refine zI (by omega) ?_ | refine zE (by omega) (by omega) ?_ | refine zD (by omega) (by omega) ?_ | refine zY (by omega) ?_ | refine zN (by omega) ?_ | refine amin ?_ | refine amax ?_ | refine zU (by omega) ?_ | refine z8 (by omega) ?_ | refine zX (by omega) (by omega) ?_ | refine zR rfl ?_ | refine acellA ?_ | refine zB H b1 rfl ?_ | refine zC H b1 ?_ | refine zB H b2 rfl ?_ | refine zC H b2 ?_ | (apply zL H; (· repeat first | exact .h | apply AtK.t); (· rfl)) | (apply zA H; (· repeat first | exact .h | apply AtK.t)) | (apply zS H; (· repeat first | exact .h | apply AtK.t); (· rfl); (conv => whnf); clear H; intro τ H) | rw [List.length_map]); (refine wX ?_)))
  rcases hw with ⟨rfl, rfl⟩ | ⟨r, rfl, b2, hne⟩
  · refine zN (by simp) ?_
    (refine wX ?_)
    exact aret (VLe.refl _) (Sub.refl _) ⟨rfl, rfl⟩
  · (refine wX ?_)
    by_cases h : i < l.length
    · (repeat ((first | refine zI (by omega) ?_ | refine zE (by omega) (by omega) ?_ | refine zD (by omega) (by omega) ?_ | refine zY (by omega) ?_ | refine zN (by omega) ?_ | refine amin ?_ | refine amax ?_ | refine zU (by omega) ?_ | refine z8 (by omega) ?_ | refine zX (by omega) (by omega) ?_ | refine zR rfl ?_ | refine acellA ?_ | refine zB H b1 rfl ?_ | refine zC H b1 ?_ | refine zB H b2 rfl ?_ | refine zC H b2 ?_ | (apply zL H; (· repeat first | exact .h | apply AtK.t); (· rfl)) | (apply zA H; (· repeat first | exact .h | apply AtK.t)) | (apply zS H; (· repeat first | exact .h | apply AtK.t); (· rfl); (conv => whnf); clear H; intro τ H) | rw [List.length_map]); (refine wX ?_)))
      refine zB H b2 (x := i64v l[i].p.sn) (by rw [show 0 + ((i : Nat) : Int).toNat * 9 + 2 = i * 9 + 2 by omega]; exact deC_get h (by decide)) ?_
      (refine wX ?_)
      by_cases hs : l[i].p.sn = sn
      · (repeat ((first | refine zI (by omega) ?_ | refine zE (by omega) (by omega) ?_ | refine zD (by omega) (by omega) ?_ | refine zY (by omega) ?_ | refine zN (by omega) ?_ | refine amin ?_ | refine amax ?_ | refine zU (by omega) ?_ | refine z8 (by omega) ?_ | refine zX (by omega) (by omega) ?_ | refine zR rfl ?_ | refine acellA ?_ | refine zB H b1 rfl ?_ | refine zC H b1 ?_ | refine zB H b2 rfl ?_ | refine zC H b2 ?_ | (apply zL H; (· repeat first | exact .h | apply AtK.t); (· rfl)) | (apply zA H; (· repeat first | exact .h | apply AtK.t)) | (apply zS H; (· repeat first | exact .h | apply AtK.t); (· rfl); (conv => whnf); clear H; intro τ H) | rw [List.length_map]); (refine wX ?_)))
        exact aret (VLe.refl _) (Sub.refl _) ⟨by rw [findD_at h hs fun j hj => hno j (by omega) hj], rfl⟩
      · (repeat ((first | refine zI (by omega) ?_ | refine zE (by omega) (by omega) ?_ | refine zD (by omega) (by omega) ?_ | refine zY (by omega) ?_ | refine zN (by omega) ?_ | refine amin ?_ | refine amax ?_ | refine zU (by omega) ?_ | refine z8 (by omega) ?_ | refine zX (by omega) (by omega) ?_ | refine zR rfl ?_ | refine acellA ?_ | refine zB H b1 rfl ?_ | refine zC H b1 ?_ | refine zB H b2 rfl ?_ | refine zC H b2 ?_ | (apply zL H; (· repeat first | exact .h | apply AtK.t); (· rfl)) | (apply zA H; (· repeat first | exact .h | apply AtK.t)) | (apply zS H; (· repeat first | exact .h | apply AtK.t); (· rfl); (conv => whnf); clear H; intro τ H) | rw [List.length_map]); (refine wX ?_)))
        refine ⟨i + 1, ⟨by omega, fun j hj hji => ?_⟩, by omega, Sub.refl _, ?_⟩
        · by_cases e : j = i
          · subst e; exact hs
          · exact hno j hj (by omega)
        (refine wX ?_)
        (repeat' first | with_reducible exact EnvLe.refl _ | (refine EnvLe.node ?_ (by first | exact Or.inl rfl | exact Or.inr (Or.inl rfl) | exact Or.inr (Or.inr ⟨nofun, VLe.slice _ _ _⟩)) ?_))
    · (repeat ((first | refine zI (by omega) ?_ | refine zE (by omega) (by omega) ?_ | refine zD (by omega) (by omega) ?_ | refine zY (by omega) ?_ | refine zN (by omega) ?_ | refine amin ?_ | refine amax ?_ | refine zU (by omega) ?_ | refine z8 (by omega) ?_ | refine zX (by omega) (by omega) ?_ | refine zR rfl ?_ | refine acellA ?_ | refine zB H b1 rfl ?_ | refine zC H b1 ?_ | refine zB H b2 rfl ?_ | refine zC H b2 ?_ | (apply zL H; (· repeat first | exact .h | apply AtK.t); (· rfl)) | (apply zA H; (· repeat first | exact .h | apply AtK.t)) | (apply zS H; (· repeat first | exact .h | apply AtK.t); (· rfl); (conv => whnf); clear H; intro τ H) | rw [List.length_map]); (refine wX ?_)))
      exact aret (VLe.refl _) (Sub.refl _) ⟨by rw [findD_no fun d hd => by
        obtain ⟨j, hj, rfl⟩ := List.getElem_of_mem hd
        exact hno j hj (by omega)], rfl⟩
theorem dtK_of : ∀ {cs : List AVal} {off n : Nat} {K : List AVal → Prop}, off + n ≤ cs.length → K ((cs.drop off).take n) → dtK cs off n K
  | c :: cs, off + 1, n, K, h, k => by
    show dtK cs off n K
    exact dtK_of (by rw [List.length_cons] at h; omega) k
  | c :: cs, 0, n + 1, K, h, k => by
    show dtK cs 0 n fun m => K (c :: m)
    exact dtK_of (by rw [List.length_cons] at h; omega) k
  | [], 0, 0, K, h, k => k
  | c :: cs, 0, 0, K, h, k => k
  | [], off + 1, n, K, h, k => by simp at h
  | [], 0, n + 1, K, h, k => by simp at h
theorem deC_take {l : List DE} {i k n : Nat} (h : i < l.length) (hk : k + n ≤ 9) : ((deC l).drop (i * 9 + k)).take n = (l[i].cells.drop k).take n := by
  refine List.ext_getElem? fun j => ?_
  by_cases hj : j < n
  · rw [List.getElem?_take_of_lt hj, List.getElem?_take_of_lt hj, List.getElem?_drop, List.getElem?_drop, Nat.add_assoc, deC_get h (by omega)]
  · rw [List.getElem?_take_eq_none (by omega), List.getElem?_take_eq_none (by omega)]
theorem dtK_de {l : List DE} {i k n off : Nat} {K : List AVal → Prop} (h : i < l.length) (ho : off = i * 9 + k) (hk : k + n ≤ 9) (hK : K ((l[i].cells.drop k).take n)) : dtK (deC l) off n K := by
  subst ho
  refine dtK_of ?_ (by rw [deC_take h hk]; exact hK)
  rw [deC_len]
  have : (i + 1) * 9 ≤ l.length * 9 := Nat.mul_le_mul_right _ h
  omega
theorem dSpan (b1 : σ ix = some (.cells [i64v wd, w])) (hw : DVw σ w l) {at_ : Nat} (h : at_ < l.length) (ok : l[at_].Ok) (a b : Int) :
    ACalls Try.prog i_bowlineref19_Store_span [.ptr ix 0, i64v at_, i64v a, i64v b] σ fun v σ' => v = .tup [spV (spanV (total l[at_].p.fs : Int) a b).1, i64v (spanV (total l[at_].p.fs : Int) a b).2] ∧ σ' = σ := by
  refine k_bowlineref19_Store_span rfl ?_
  have H := Hp.nil σ
  rcases hw with ⟨rfl, rfl⟩ | ⟨r, rfl, b2, hne⟩
  · simp at h
  (refine wX ?_)
  refine hnew H rfl ?_
  clear H
  intro i8 τ H
  (refine wX ?_)
  (repeat ((first | refine zI (by omega) ?_ | refine zE (by omega) (by omega) ?_ | refine zD (by omega) (by omega) ?_ | refine zY (by omega) ?_ | refine zN (by omega) ?_ | refine amin ?_ | refine amax ?_ | refine zU (by omega) ?_ | refine z8 (by omega) ?_ | refine zX (by omega) (by omega) ?_ | refine zR rfl ?_ | refine acellA ?_ | refine zB H b1 rfl ?_ | refine zC H b1 ?_ | refine zB H b2 rfl ?_ | refine zC H b2 ?_ | (apply zL H; (· repeat first | exact .h | apply AtK.t); (· rfl)) | (apply zA H; (· repeat first | exact .h | apply AtK.t)) | (apply zS H; (· repeat first | exact .h | apply AtK.t); (· rfl); (conv => whnf); clear H; intro τ H) | rw [List.length_map]); (refine wX ?_)))
  refine dtK_de (k := 0) h (by omega) (by decide) ?_
  rw [show (l[at_].cells.drop 0).take 7 = (amV l[at_].p).cells from rfl]
  (refine wX ?_)
  generalize l[at_] = d at *
  refine acall (rData10 d.p _ (by have := ok.fl; omega) (by have := ok.tot; omega)) ?_
  rintro _ σ_ ⟨rfl, e_⟩
  obtain rfl := e_.symm
  refine ⟨?_, Ext.refl _⟩
  (refine wX ?_)
  rw [List.length_map, show d.p.fs.flatten.length = total d.p.fs from rfl]
  generalize (total d.p.fs : Int) = n at *
  unfold spanV
  by_cases ha : a < 0
  · rw [if_pos (.inl ha)]
    (repeat ((first | refine zI (by omega) ?_ | refine zE (by omega) (by omega) ?_ | refine zD (by omega) (by omega) ?_ | refine zY (by omega) ?_ | refine zN (by omega) ?_ | refine amin ?_ | refine amax ?_ | refine zU (by omega) ?_ | refine z8 (by omega) ?_ | refine zX (by omega) (by omega) ?_ | refine zR rfl ?_ | refine acellA ?_ | refine zB H b1 rfl ?_ | refine zC H b1 ?_ | refine zB H b2 rfl ?_ | refine zC H b2 ?_ | (apply zL H; (· repeat first | exact .h | apply AtK.t); (· rfl)) | (apply zA H; (· repeat first | exact .h | apply AtK.t)) | (apply zS H; (· repeat first | exact .h | apply AtK.t); (· rfl); (conv => whnf); clear H; intro τ H) | rw [List.length_map]); (refine wX ?_)))
    exact aret (VLe.refl _) H.sub ⟨rfl, rfl⟩
  (repeat ((first | refine zI (by omega) ?_ | refine zE (by omega) (by omega) ?_ | refine zD (by omega) (by omega) ?_ | refine zY (by omega) ?_ | refine zN (by omega) ?_ | refine amin ?_ | refine amax ?_ | refine zU (by omega) ?_ | refine z8 (by omega) ?_ | refine zX (by omega) (by omega) ?_ | refine zR rfl ?_ | refine acellA ?_ | refine zB H b1 rfl ?_ | refine zC H b1 ?_ | refine zB H b2 rfl ?_ | refine zC H b2 ?_ | (apply zL H; (· repeat first | exact .h | apply AtK.t); (· rfl)) | (apply zA H; (· repeat first | exact .h | apply AtK.t)) | (apply zS H; (· repeat first | exact .h | apply AtK.t); (· rfl); (conv => whnf); clear H; intro τ H) | rw [List.length_map]); (refine wX ?_)))
  by_cases hb : b < 0
  · rw [if_pos (.inr hb)]
    (repeat ((first | refine zI (by omega) ?_ | refine zE (by omega) (by omega) ?_ | refine zD (by omega) (by omega) ?_ | refine zY (by omega) ?_ | refine zN (by omega) ?_ | refine amin ?_ | refine amax ?_ | refine zU (by omega) ?_ | refine z8 (by omega) ?_ | refine zX (by omega) (by omega) ?_ | refine zR rfl ?_ | refine acellA ?_ | refine zB H b1 rfl ?_ | refine zC H b1 ?_ | refine zB H b2 rfl ?_ | refine zC H b2 ?_ | (apply zL H; (· repeat first | exact .h | apply AtK.t); (· rfl)) | (apply zA H; (· repeat first | exact .h | apply AtK.t)) | (apply zS H; (· repeat first | exact .h | apply AtK.t); (· rfl); (conv => whnf); clear H; intro τ H) | rw [List.length_map]); (refine wX ?_)))
    exact aret (VLe.refl _) H.sub ⟨rfl, rfl⟩
  rw [if_neg (by omega)]
  (repeat ((first | refine zI (by omega) ?_ | refine zE (by omega) (by omega) ?_ | refine zD (by omega) (by omega) ?_ | refine zY (by omega) ?_ | refine zN (by omega) ?_ | refine amin ?_ | refine amax ?_ | refine zU (by omega) ?_ | refine z8 (by omega) ?_ | refine zX (by omega) (by omega) ?_ | refine zR rfl ?_ | refine acellA ?_ | refine zB H b1 rfl ?_ | refine zC H b1 ?_ | refine zB H b2 rfl ?_ | refine zC H b2 ?_ | (apply zL H; (· repeat first | exact .h | apply AtK.t); (· rfl)) | (apply zA H; (· repeat first | exact .h | apply AtK.t)) | (apply zS H; (· repeat first | exact .h | apply AtK.t); (· rfl); (conv => whnf); clear H; intro τ H) | rw [List.length_map]); (refine wX ?_)))
  obtain ⟨q, hq0⟩ : ∃ q, q = if b = 0 ∨ b > n then n else b := ⟨_, rfl⟩
  rw [← hq0]
  by_cases hb0 : b = 0
  · rw [if_pos (.inl hb0)] at hq0
    subst hq0
    (repeat ((first | refine zI (by omega) ?_ | refine zE (by omega) (by omega) ?_ | refine zD (by omega) (by omega) ?_ | refine zY (by omega) ?_ | refine zN (by omega) ?_ | refine amin ?_ | refine amax ?_ | refine zU (by omega) ?_ | refine z8 (by omega) ?_ | refine zX (by omega) (by omega) ?_ | refine zR rfl ?_ | refine acellA ?_ | refine zB H b1 rfl ?_ | refine zC H b1 ?_ | refine zB H b2 rfl ?_ | refine zC H b2 ?_ | (apply zL H; (· repeat first | exact .h | apply AtK.t); (· rfl)) | (apply zA H; (· repeat first | exact .h | apply AtK.t)) | (apply zS H; (· repeat first | exact .h | apply AtK.t); (· rfl); (conv => whnf); clear H; intro τ H) | rw [List.length_map]); (refine wX ?_)))
    by_cases hq : a ≥ q
    · rw [if_pos hq]
      (repeat ((first | refine zI (by omega) ?_ | refine zE (by omega) (by omega) ?_ | refine zD (by omega) (by omega) ?_ | refine zY (by omega) ?_ | refine zN (by omega) ?_ | refine amin ?_ | refine amax ?_ | refine zU (by omega) ?_ | refine z8 (by omega) ?_ | refine zX (by omega) (by omega) ?_ | refine zR rfl ?_ | refine acellA ?_ | refine zB H b1 rfl ?_ | refine zC H b1 ?_ | refine zB H b2 rfl ?_ | refine zC H b2 ?_ | (apply zL H; (· repeat first | exact .h | apply AtK.t); (· rfl)) | (apply zA H; (· repeat first | exact .h | apply AtK.t)) | (apply zS H; (· repeat first | exact .h | apply AtK.t); (· rfl); (conv => whnf); clear H; intro τ H) | rw [List.length_map]); (refine wX ?_)))
      exact aret (VLe.refl _) H.sub ⟨rfl, rfl⟩
    · rw [if_neg hq]
      (repeat ((first | refine zI (by omega) ?_ | refine zE (by omega) (by omega) ?_ | refine zD (by omega) (by omega) ?_ | refine zY (by omega) ?_ | refine zN (by omega) ?_ | refine amin ?_ | refine amax ?_ | refine zU (by omega) ?_ | refine z8 (by omega) ?_ | refine zX (by omega) (by omega) ?_ | refine zR rfl ?_ | refine acellA ?_ | refine zB H b1 rfl ?_ | refine zC H b1 ?_ | refine zB H b2 rfl ?_ | refine zC H b2 ?_ | (apply zL H; (· repeat first | exact .h | apply AtK.t); (· rfl)) | (apply zA H; (· repeat first | exact .h | apply AtK.t)) | (apply zS H; (· repeat first | exact .h | apply AtK.t); (· rfl); (conv => whnf); clear H; intro τ H) | rw [List.length_map]); (refine wX ?_)))
      exact aret (VLe.refl _) H.sub ⟨rfl, rfl⟩
  · (repeat ((first | refine zI (by omega) ?_ | refine zE (by omega) (by omega) ?_ | refine zD (by omega) (by omega) ?_ | refine zY (by omega) ?_ | refine zN (by omega) ?_ | refine amin ?_ | refine amax ?_ | refine zU (by omega) ?_ | refine z8 (by omega) ?_ | refine zX (by omega) (by omega) ?_ | refine zR rfl ?_ | refine acellA ?_ | refine zB H b1 rfl ?_ | refine zC H b1 ?_ | refine zB H b2 rfl ?_ | refine zC H b2 ?_ | (apply zL H; (· repeat first | exact .h | apply AtK.t); (· rfl)) | (apply zA H; (· repeat first | exact .h | apply AtK.t)) | (apply zS H; (· repeat first | exact .h | apply AtK.t); (· rfl); (conv => whnf); clear H; intro τ H) | rw [List.length_map]); (refine wX ?_)))
    by_cases hbn : b > n
    · rw [if_pos (.inr hbn)] at hq0
      subst hq0
      (repeat ((first | refine zI (by omega) ?_ | refine zE (by omega) (by omega) ?_ | refine zD (by omega) (by omega) ?_ | refine zY (by omega) ?_ | refine zN (by omega) ?_ | refine amin ?_ | refine amax ?_ | refine zU (by omega) ?_ | refine z8 (by omega) ?_ | refine zX (by omega) (by omega) ?_ | refine zR rfl ?_ | refine acellA ?_ | refine zB H b1 rfl ?_ | refine zC H b1 ?_ | refine zB H b2 rfl ?_ | refine zC H b2 ?_ | (apply zL H; (· repeat first | exact .h | apply AtK.t); (· rfl)) | (apply zA H; (· repeat first | exact .h | apply AtK.t)) | (apply zS H; (· repeat first | exact .h | apply AtK.t); (· rfl); (conv => whnf); clear H; intro τ H) | rw [List.length_map]); (refine wX ?_)))
      by_cases hq : a ≥ q
      · rw [if_pos hq]
        (repeat ((first | refine zI (by omega) ?_ | refine zE (by omega) (by omega) ?_ | refine zD (by omega) (by omega) ?_ | refine zY (by omega) ?_ | refine zN (by omega) ?_ | refine amin ?_ | refine amax ?_ | refine zU (by omega) ?_ | refine z8 (by omega) ?_ | refine zX (by omega) (by omega) ?_ | refine zR rfl ?_ | refine acellA ?_ | refine zB H b1 rfl ?_ | refine zC H b1 ?_ | refine zB H b2 rfl ?_ | refine zC H b2 ?_ | (apply zL H; (· repeat first | exact .h | apply AtK.t); (· rfl)) | (apply zA H; (· repeat first | exact .h | apply AtK.t)) | (apply zS H; (· repeat first | exact .h | apply AtK.t); (· rfl); (conv => whnf); clear H; intro τ H) | rw [List.length_map]); (refine wX ?_)))
        exact aret (VLe.refl _) H.sub ⟨rfl, rfl⟩
      · rw [if_neg hq]
        (repeat ((first | refine zI (by omega) ?_ | refine zE (by omega) (by omega) ?_ | refine zD (by omega) (by omega) ?_ | refine zY (by omega) ?_ | refine zN (by omega) ?_ | refine amin ?_ | refine amax ?_ | refine zU (by omega) ?_ | refine z8 (by omega) ?_ | refine zX (by omega) (by omega) ?_ | refine zR rfl ?_ | refine acellA ?_ | refine zB H b1 rfl ?_ | refine zC H b1 ?_ | refine zB H b2 rfl ?_ | refine zC H b2 ?_ | (apply zL H; (· repeat first | exact .h | apply AtK.t); (· rfl)) | (apply zA H; (· repeat first | exact .h | apply AtK.t)) | (apply zS H; (· repeat first | exact .h | apply AtK.t); (· rfl); (conv => whnf); clear H; intro τ H) | rw [List.length_map]); (refine wX ?_)))
        exact aret (VLe.refl _) H.sub ⟨rfl, rfl⟩
    · rw [if_neg (by omega)] at hq0
      subst hq0
      (repeat ((first | refine zI (by omega) ?_ | refine zE (by omega) (by omega) ?_ | refine zD (by omega) (by omega) ?_ | refine zY (by omega) ?_ | refine zN (by omega) ?_ | refine amin ?_ | refine amax ?_ | refine zU (by omega) ?_ | refine z8 (by omega) ?_ | refine zX (by omega) (by omega) ?_ | refine zR rfl ?_ | refine acellA ?_ | refine zB H b1 rfl ?_ | refine zC H b1 ?_ | refine zB H b2 rfl ?_ | refine zC H b2 ?_ | (apply zL H; (· repeat first | exact .h | apply AtK.t); (· rfl)) | (apply zA H; (· repeat first | exact .h | apply AtK.t)) | (apply zS H; (· repeat first | exact .h | apply AtK.t); (· rfl); (conv => whnf); clear H; intro τ H) | rw [List.length_map]); (refine wX ?_)))
      by_cases hq : a ≥ q
      · rw [if_pos hq]
        (repeat ((first | refine zI (by omega) ?_ | refine zE (by omega) (by omega) ?_ | refine zD (by omega) (by omega) ?_ | refine zY (by omega) ?_ | refine zN (by omega) ?_ | refine amin ?_ | refine amax ?_ | refine zU (by omega) ?_ | refine z8 (by omega) ?_ | refine zX (by omega) (by omega) ?_ | refine zR rfl ?_ | refine acellA ?_ | refine zB H b1 rfl ?_ | refine zC H b1 ?_ | refine zB H b2 rfl ?_ | refine zC H b2 ?_ | (apply zL H; (· repeat first | exact .h | apply AtK.t); (· rfl)) | (apply zA H; (· repeat first | exact .h | apply AtK.t)) | (apply zS H; (· repeat first | exact .h | apply AtK.t); (· rfl); (conv => whnf); clear H; intro τ H) | rw [List.length_map]); (refine wX ?_)))
        exact aret (VLe.refl _) H.sub ⟨rfl, rfl⟩
      · rw [if_neg hq]
        (repeat ((first | refine zI (by omega) ?_ | refine zE (by omega) (by omega) ?_ | refine zD (by omega) (by omega) ?_ | refine zY (by omega) ?_ | refine zN (by omega) ?_ | refine amin ?_ | refine amax ?_ | refine zU (by omega) ?_ | refine z8 (by omega) ?_ | refine zX (by omega) (by omega) ?_ | refine zR rfl ?_ | refine acellA ?_ | refine zB H b1 rfl ?_ | refine zC H b1 ?_ | refine zB H b2 rfl ?_ | refine zC H b2 ?_ | (apply zL H; (· repeat first | exact .h | apply AtK.t); (· rfl)) | (apply zA H; (· repeat first | exact .h | apply AtK.t)) | (apply zS H; (· repeat first | exact .h | apply AtK.t); (· rfl); (conv => whnf); clear H; intro τ H) | rw [List.length_map]); (refine wX ?_)))
        exact aret (VLe.refl _) H.sub ⟨rfl, rfl⟩
theorem dBytes (b1 : σ ix = some (.cells [i64v wd, w])) (hw : DVw σ w l) {at_ : Nat} (h : at_ < l.length) (hT : TOk σ l[at_].v l[at_].L) (ok : l[at_].Ok) :
    ACalls Try.prog i_bowlineref19_Store_Bytes [.ptr ix 0, i64v at_] σ fun v σ' => v = i64v (cntL l[at_].m) ∧ σ' = σ := by
  refine k_bowlineref19_Store_Bytes rfl ?_
  have H := Hp.nil σ
  rcases hw with ⟨rfl, rfl⟩ | ⟨r, rfl, b2, hne⟩
  · simp at h
  have hcl := rel_cnt ok.so ok.rel
  have hlen := ok.rel.len
  (refine wX ?_)
  (repeat ((first | refine zI (by omega) ?_ | refine zE (by omega) (by omega) ?_ | refine zD (by omega) (by omega) ?_ | refine zY (by omega) ?_ | refine zN (by omega) ?_ | refine amin ?_ | refine amax ?_ | refine zU (by omega) ?_ | refine z8 (by omega) ?_ | refine zX (by omega) (by omega) ?_ | refine zR rfl ?_ | refine acellA ?_ | refine zB H b1 rfl ?_ | refine zC H b1 ?_ | refine zB H b2 rfl ?_ | refine zC H b2 ?_ | refine zB H b3 rfl ?_ | refine zC H b3 ?_ | (apply zL H; (· repeat first | exact .h | apply AtK.t); (· rfl)) | (apply zA H; (· repeat first | exact .h | apply AtK.t)) | (apply zS H; (· repeat first | exact .h | apply AtK.t); (· rfl); (conv => whnf); clear H; intro τ H) | rw [List.length_map]); (refine wX ?_)))
  refine dtK_de (k := 7) h (by omega) (by decide) ?_
  rw [show (l[at_].cells.drop 7).take 1 = [l[at_].v] from rfl]
  (refine wX ?_)
  (repeat ((first | refine zI (by omega) ?_ | refine zE (by omega) (by omega) ?_ | refine zD (by omega) (by omega) ?_ | refine zY (by omega) ?_ | refine zN (by omega) ?_ | refine amin ?_ | refine amax ?_ | refine zU (by omega) ?_ | refine z8 (by omega) ?_ | refine zX (by omega) (by omega) ?_ | refine zR rfl ?_ | refine acellA ?_ | refine zB H b1 rfl ?_ | refine zC H b1 ?_ | refine zB H b2 rfl ?_ | refine zC H b2 ?_ | refine zB H b3 rfl ?_ | refine zC H b3 ?_ | (apply zL H; (· repeat first | exact .h | apply AtK.t); (· rfl)) | (apply zA H; (· repeat first | exact .h | apply AtK.t)) | (apply zS H; (· repeat first | exact .h | apply AtK.t); (· rfl); (conv => whnf); clear H; intro τ H) | rw [List.length_map]); (refine wX ?_)))
  refine zB H b2 (x := l[at_].v) (by rw [show 0 + ((at_ : Nat) : Int).toNat * 9 + 7 + 0 = at_ * 9 + 7 by omega]; exact deC_get h (by decide)) ?_
  (refine wX ?_)
  generalize l[at_] = d at *
  have hc : ((cntT d.L (0, (d.L.length : Int)) : Nat) : Int) = cntL d.m := hcl
  rcases hT with ⟨hv, hL⟩ | ⟨r2, hv, b3, hL⟩
  · rw [hL] at hc
    rw [hv]
    (repeat ((first | refine zI (by omega) ?_ | refine zE (by omega) (by omega) ?_ | refine zD (by omega) (by omega) ?_ | refine zY (by omega) ?_ | refine zN (by omega) ?_ | refine amin ?_ | refine amax ?_ | refine zU (by omega) ?_ | refine z8 (by omega) ?_ | refine zX (by omega) (by omega) ?_ | refine zR rfl ?_ | refine acellA ?_ | refine zB H b1 rfl ?_ | refine zC H b1 ?_ | refine zB H b2 rfl ?_ | refine zC H b2 ?_ | refine zB H b3 rfl ?_ | refine zC H b3 ?_ | (apply zL H; (· repeat first | exact .h | apply AtK.t); (· rfl)) | (apply zA H; (· repeat first | exact .h | apply AtK.t)) | (apply zS H; (· repeat first | exact .h | apply AtK.t); (· rfl); (conv => whnf); clear H; intro τ H) | rw [List.length_map]); (refine wX ?_)))
    refine acall (rCount03 (σ := σ) (L := []) (.inl ⟨rfl, rfl⟩) (0, 0) (by simp) (by decide) (by decide) (by decide)) ?_
    rintro _ σ_ ⟨rfl, e_⟩
    obtain rfl := e_.symm
    refine ⟨?_, Ext.refl _⟩
    (refine wX ?_)
    exact aret (VLe.refl _) (Sub.refl _) ⟨by rw [← hc]; rfl, rfl⟩
  · rw [hv]
    (repeat ((first | refine zI (by omega) ?_ | refine zE (by omega) (by omega) ?_ | refine zD (by omega) (by omega) ?_ | refine zY (by omega) ?_ | refine zN (by omega) ?_ | refine amin ?_ | refine amax ?_ | refine zU (by omega) ?_ | refine z8 (by omega) ?_ | refine zX (by omega) (by omega) ?_ | refine zR rfl ?_ | refine acellA ?_ | refine zB H b1 rfl ?_ | refine zC H b1 ?_ | refine zB H b2 rfl ?_ | refine zC H b2 ?_ | refine zB H b3 rfl ?_ | refine zC H b3 ?_ | (apply zL H; (· repeat first | exact .h | apply AtK.t); (· rfl)) | (apply zA H; (· repeat first | exact .h | apply AtK.t)) | (apply zS H; (· repeat first | exact .h | apply AtK.t); (· rfl); (conv => whnf); clear H; intro τ H) | rw [List.length_map]); (refine wX ?_)))
    refine acall (rCount03 (σ := σ) (L := d.L) (.inr ⟨r2, rfl, b3, hL⟩) (0, (d.L.length : Int)) (by omega) (by dsimp only; omega) (by dsimp only; omega) (by dsimp only; omega)) ?_
    rintro _ σ_ ⟨rfl, e_⟩
    obtain rfl := e_.symm
    refine ⟨?_, Ext.refl _⟩
    (refine wX ?_)
    exact aret (VLe.refl _) (Sub.refl _) ⟨by rw [← hc], rfl⟩

end
end Go.Proofs.Ytgobbmdbkmjlnaa
/-
  What is kept to be sent again, the document's: what is put in, and dropped.
-/
namespace Go.Proofs.Ytgobbmdbkmjlnaa
set_option linter.unusedVariables false
set_option linter.unusedSimpArgs false
set_option maxRecDepth 20000
open Go Go.Am

inductive RD : AVal → List DE → List HE → Prop
  | nil : RD (.slice 9 [] .full) [] []
  | row (r : Nat) (l : List DE) : l ≠ [] → RD (.ms r 9 0 l.length) l [.o r (.cells (deC l))]
theorem RD.vw {σb σ : AHeap} {w : AVal} {l : List DE} {E F G : List HE} (h : RD w l E) (H : Hp σb (F ++ (E ++ G)) σ) : DVw σ w l := by
  cases h with
  | nil => exact .inl ⟨rfl, rfl⟩
  | row r l hl => exact .inr ⟨r, rfl, H.ok _ (List.mem_append.2 (.inr (List.mem_append.2 (.inl (List.mem_singleton.2 rfl))))), hl⟩
theorem RD.isCell {w : AVal} {l : List DE} {E : List HE} (h : RD w l E) : w.isCell = true := by cases h <;> rfl
theorem RD.row_of {w : AVal} {l : List DE} {E : List HE} (h : RD w l E) (hn : l ≠ []) : ∃ r, w = .ms r 9 0 l.length ∧ E = [.o r (.cells (deC l))] := by
  cases h with
  | nil => exact absurd rfl hn
  | row r l hl => exact ⟨r, rfl, rfl⟩
def CellsOk (l : List DE) : Prop := ∀ d ∈ l, d.v.isCell = true
theorem de_ok {d : DE} (h : d.v.isCell = true) : d.cells.all AVal.isCell = true := by
  unfold DE.cells
  simp only [List.all_cons, List.all_nil, h, Bool.and_true]
  rfl
theorem deC_ok {l : List DE} (h : CellsOk l) : (deC l).all AVal.isCell = true := by
  unfold deC
  rw [List.all_flatMap]
  exact List.all_eq_true.2 fun d hd => de_ok (h d hd)
theorem okElem9 {cs : List AVal} (h : cs.length = 9) (hc : cs.all AVal.isCell = true) : okElem 9 (.agg cs) = true := by
  show (Nat.beq cs.length 9 && cs.all AVal.isCell) = true
  rw [h, hc]; rfl
theorem chunk_ok : ∀ (n : Nat) (l : List AVal), l.length = n * 9 → l.all AVal.isCell = true → (chunkA 9 n l).all (okElem 9) = true
  | 0, _, _, _ => rfl
  | n + 1, l, h, hc => by
    rw [Nat.succ_mul] at h
    show (okElem 9 (.agg (l.take 9)) && (chunkA 9 n (l.drop 9)).all (okElem 9)) = true
    rw [okElem9 (by rw [List.length_take]; omega) (List.all_eq_true.2 fun x hx => List.all_eq_true.1 hc x (List.mem_of_mem_take hx)), chunk_ok n _ (by rw [List.length_drop]; omega) (List.all_eq_true.2 fun x hx => List.all_eq_true.1 hc x (List.mem_of_mem_drop hx))]
    rfl
section
variable {σb : AHeap}
/-- A row of entries, with some more. -/
theorem rd_app {v : AVal} {xs : List DE} {E G : List HE} {τ : AHeap} (h : RD v xs E) (H : Hp σb (E ++ G) τ) (ds : List DE) (hl : xs.length + ds.length ≤ 100000) (ys : List AVal) (hy : ys.flatMap AVal.cells = deC ds) (hn : ys.length = ds.length) (ho : ys.all (okElem 9) = true)
    {K : AVal → AHeap → Prop} (hK : ∀ v' E' τ', RD v' (xs ++ ds) E' → Hp σb (E' ++ G) τ' → K v' τ') :
    (∀ s t, v = .slice 9 s t → AAppNew τ 9 96 s t ys K) ∧ (∀ r ln, v = .ms r 9 0 ln → AAppM τ r 9 0 ln 96 ys K) := by
  cases h with
  | nil =>
    refine ⟨fun s t e => ?_, fun r ln e => (by cases e)⟩
    cases e
    cases ds with
    | nil =>
      obtain rfl : ys = [] := List.length_eq_zero_iff.1 hn
      exact aappnew_none (by simp) (hK _ _ τ .nil H)
    | cons d ds =>
      refine happnew H (by intro e; rw [e] at hn; cases hn) (by rw [hn]; simp only [List.length_nil] at hl; omega) ho fun r τ' H' => ?_
      rw [hy] at H'
      rw [hn]
      exact hK _ _ τ' (.row r (d :: ds) (by simp)) H'
  | row r _ hx =>
    refine ⟨fun s t e => (by cases e), fun r' ln e => ?_⟩
    cases e
    refine happm H (k := 0) rfl (deC_len xs).symm (by rw [hn]; omega) ho fun r2 τ' H' => ?_
    rw [hy, ← deC_append] at H'
    have := hK _ _ τ' (.row r2 (xs ++ ds) (by simp [hx])) H'
    rw [List.length_append] at this
    rw [hn]
    exact this
end
theorem amSize_rgS (p : Pk) (w : Int) : 0 ≤ amSize p w ∧ amSize p w ≤ 4000 := by
  have h1 := sizeV_range ((p.fs.length : Int) - 1) (lenW w)
  have h2 := amHead_range p.part w
  unfold amSize fieldsV
  repeat' split
  all_goals omega
theorem one_cells (d : DE) : [AVal.agg d.cells].flatMap AVal.cells = deC [d] := by
  show d.cells ++ [] = d.cells ++ []
  rfl
theorem oneD_ok {d : DE} (h : d.v.isCell = true) : [AVal.agg d.cells].all (okElem 9) = true := by
  show (okElem 9 (.agg d.cells) && true) = true
  rw [okElem9 rfl (de_ok h)]; rfl
def newD (p : Pk) : DE := ⟨p, .slice 1 [] .full, [], [], 0, []⟩
theorem split_at (l : List DE) (n : Int) : ∃ A B, l = A ++ B ∧ (∀ d ∈ A, d.p.sn < n) ∧ (∀ d B', B = d :: B' → ¬ d.p.sn < n) := by
  induction l with
  | nil => exact ⟨[], [], rfl, nofun, nofun⟩
  | cons d l ih =>
    by_cases h : d.p.sn < n
    · obtain ⟨A, B, rfl, h1, h2⟩ := ih
      refine ⟨d :: A, B, rfl, fun x hx => ?_, h2⟩
      rcases List.mem_cons.1 hx with rfl | hx
      · exact h
      · exact h1 x hx
    · exact ⟨[], d :: l, rfl, nofun, fun x B' e => by cases e; exact h⟩
def dPutC (wd : Int) (l : List DE) (p : Pk) : Int := if p.part = true ∨ ¬ amSize p wd > 0 then 3 else if findD l p.sn ≥ 0 then 12 else 0
theorem Hp.dropJ {σb σ : AHeap} {x a b c : HE} {F : List HE} (H : Hp σb ([x] ++ ([a, b] ++ (c :: F))) σ) : Hp σb (x :: ([a] ++ F)) σ := by
  have H1 := H.front (k := 2) rfl
  have H2 := H1.tail.front (k := 2) rfl
  exact H2.tail
section
variable {σb σ : AHeap} {ix : Nat} {wd : Int} {w : AVal} {l : List DE} {Er F : List HE}
set_option maxHeartbeats 4000000 in
theorem dPut (hr : RD w l Er) (H : Hp σb (.o ix (.cells [i64v wd, w]) :: (Er ++ F)) σ) (hl : l.length ≤ 1000) (hv : CellsOk l) (p : Pk) (hfl : p.fs.length ≤ 1000) (hto : total p.fs ≤ 1000000) :
    ACalls Try.prog i_bowlineref19_Store_Put [.ptr ix 0, amV p] σ fun v σ' => v = i64v (dPutC wd l p) ∧ ∃ w' l' Er', RD w' l' Er' ∧ Hp σb (.o ix (.cells [i64v wd, w']) :: (Er' ++ F)) σ' ∧
      ((dPutC wd l p ≠ 0 ∧ l' = l) ∨ (dPutC wd l p = 0 ∧ ∃ A B, l = A ++ B ∧ (∀ d ∈ A, d.p.sn < p.sn) ∧ (∀ d B', B = d :: B' → ¬ d.p.sn < p.sn) ∧ l' = A ++ newD p :: B)) := by
  refine km_bowlineref19_Store_Put rfl ?_
  (refine wX ?_)
  refine hnew H rfl ?_
  clear H
  intro i3 τ H
  (refine wX ?_)
  (repeat ((first | refine zI (by omega) ?_ | refine zE (by omega) (by omega) ?_ | refine zD (by omega) (by omega) ?_ | refine zY (by omega) ?_ | refine zN (by omega) ?_ | refine amin ?_ | refine amax ?_ | refine zU (by omega) ?_ | refine z8 (by omega) ?_ | refine zX (by omega) (by omega) ?_ | refine zR rfl ?_ | refine acellA ?_ | (apply zL H; (· repeat first | exact .h | apply AtK.t); (· rfl)) | (apply zA H; (· repeat first | exact .h | apply AtK.t)) | (apply zS H; (· repeat first | exact .h | apply AtK.t); (· rfl); (conv => whnf); clear H; intro τ H) | rw [List.length_map]); (refine wX ?_)))
  unfold dPutC
  have hwv := hr.vw (F := [.o i3 (.cells (amV p).cells), .o ix (.cells [i64v wd, w])]) (G := F) H
  by_cases hpart : p.part = true
  · rw [if_pos (.inl hpart)]
    refine abr_true hpart ?_
    (refine wX ?_)
    exact aret (VLe.refl _) (Sub.refl _) ⟨rfl, w, l, Er, hr, H.tail, .inl ⟨by decide, rfl⟩⟩
  refine abr_false (by simpa using hpart) ?_
  (refine wX ?_)
  (repeat ((first | refine zI (by omega) ?_ | refine zE (by omega) (by omega) ?_ | refine zD (by omega) (by omega) ?_ | refine zY (by omega) ?_ | refine zN (by omega) ?_ | refine amin ?_ | refine amax ?_ | refine zU (by omega) ?_ | refine z8 (by omega) ?_ | refine zX (by omega) (by omega) ?_ | refine zR rfl ?_ | refine acellA ?_ | (apply zL H; (· repeat first | exact .h | apply AtK.t); (· rfl)) | (apply zA H; (· repeat first | exact .h | apply AtK.t)) | (apply zS H; (· repeat first | exact .h | apply AtK.t); (· rfl); (conv => whnf); clear H; intro τ H) | rw [List.length_map]); (refine wX ?_)))
  have hd : ∀ f ∈ p.fs, f.length ≤ 140737488355320 := fun f hf => by
    obtain ⟨i, hi, rfl⟩ := List.getElem_of_mem hf
    have := total_get (l := p.fs) hi; omega
  refine acall (rSize10 p wd τ (by omega) hd) ?_
  rintro _ σ_ ⟨rfl, e_⟩
  obtain rfl := e_.symm
  refine ⟨?_, Ext.refl _⟩
  (refine wX ?_)
  have hsz0 := amSize_rgS p wd
  by_cases hs : amSize p wd > 0
  case neg =>
    rw [if_pos (.inr hs)]
    (repeat ((first | refine zI (by omega) ?_ | refine zE (by omega) (by omega) ?_ | refine zD (by omega) (by omega) ?_ | refine zY (by omega) ?_ | refine zN (by omega) ?_ | refine amin ?_ | refine amax ?_ | refine zU (by omega) ?_ | refine z8 (by omega) ?_ | refine zX (by omega) (by omega) ?_ | refine zR rfl ?_ | refine acellA ?_ | (apply zL H; (· repeat first | exact .h | apply AtK.t); (· rfl)) | (apply zA H; (· repeat first | exact .h | apply AtK.t)) | (apply zS H; (· repeat first | exact .h | apply AtK.t); (· rfl); (conv => whnf); clear H; intro τ H) | rw [List.length_map]); (refine wX ?_)))
    exact aret (VLe.refl _) (Sub.refl _) ⟨rfl, w, l, Er, hr, H.tail, .inl ⟨by decide, rfl⟩⟩
  rw [if_neg (by rintro (h | h) <;> contradiction)]
  (repeat ((first | refine zI (by omega) ?_ | refine zE (by omega) (by omega) ?_ | refine zD (by omega) (by omega) ?_ | refine zY (by omega) ?_ | refine zN (by omega) ?_ | refine amin ?_ | refine amax ?_ | refine zU (by omega) ?_ | refine z8 (by omega) ?_ | refine zX (by omega) (by omega) ?_ | refine zR rfl ?_ | refine acellA ?_ | (apply zL H; (· repeat first | exact .h | apply AtK.t); (· rfl)) | (apply zA H; (· repeat first | exact .h | apply AtK.t)) | (apply zS H; (· repeat first | exact .h | apply AtK.t); (· rfl); (conv => whnf); clear H; intro τ H) | rw [List.length_map]); (refine wX ?_)))
  refine acall (dFind (H.get (k := 1) rfl) hwv (by omega) p.sn) ?_
  rintro _ σ_ ⟨rfl, e_⟩
  obtain rfl := e_.symm
  refine ⟨?_, Ext.refl _⟩
  (refine wX ?_)
  by_cases hf : findD l p.sn ≥ 0
  · rw [if_pos hf]
    (repeat ((first | refine zI (by omega) ?_ | refine zE (by omega) (by omega) ?_ | refine zD (by omega) (by omega) ?_ | refine zY (by omega) ?_ | refine zN (by omega) ?_ | refine amin ?_ | refine amax ?_ | refine zU (by omega) ?_ | refine z8 (by omega) ?_ | refine zX (by omega) (by omega) ?_ | refine zR rfl ?_ | refine acellA ?_ | (apply zL H; (· repeat first | exact .h | apply AtK.t); (· rfl)) | (apply zA H; (· repeat first | exact .h | apply AtK.t)) | (apply zS H; (· repeat first | exact .h | apply AtK.t); (· rfl); (conv => whnf); clear H; intro τ H) | rw [List.length_map]); (refine wX ?_)))
    exact aret (VLe.refl _) (Sub.refl _) ⟨rfl, w, l, Er, hr, H.tail, .inl ⟨by decide, rfl⟩⟩
  rw [if_neg hf]
  have hnf : ∀ d ∈ l, d.p.sn ≠ p.sn := fun d hd' e => hf (by
    unfold findD
    cases h : l.findIdx? (fun d => d.p.sn == p.sn) with
    | none => have := (List.findIdx?_eq_none_iff.1 h) d hd'; simp [e] at this
    | some i => dsimp only; omega)
  (repeat ((first | refine zI (by omega) ?_ | refine zE (by omega) (by omega) ?_ | refine zD (by omega) (by omega) ?_ | refine zY (by omega) ?_ | refine zN (by omega) ?_ | refine amin ?_ | refine amax ?_ | refine zU (by omega) ?_ | refine z8 (by omega) ?_ | refine zX (by omega) (by omega) ?_ | refine zR rfl ?_ | refine acellA ?_ | (apply zL H; (· repeat first | exact .h | apply AtK.t); (· rfl)) | (apply zA H; (· repeat first | exact .h | apply AtK.t)) | (apply zS H; (· repeat first | exact .h | apply AtK.t); (· rfl); (conv => whnf); clear H; intro τ H) | rw [List.length_map]); (refine wX ?_)))
  cases hr with
  | nil =>
    (refine wX ?_)
    (repeat ((first | refine zI (by omega) ?_ | refine zE (by omega) (by omega) ?_ | refine zD (by omega) (by omega) ?_ | refine zY (by omega) ?_ | refine zN (by omega) ?_ | refine amin ?_ | refine amax ?_ | refine zU (by omega) ?_ | refine z8 (by omega) ?_ | refine zX (by omega) (by omega) ?_ | refine zR rfl ?_ | refine acellA ?_ | (apply zL H; (· repeat first | exact .h | apply AtK.t); (· rfl)) | (apply zA H; (· repeat first | exact .h | apply AtK.t)) | (apply zS H; (· repeat first | exact .h | apply AtK.t); (· rfl); (conv => whnf); clear H; intro τ H) | rw [List.length_map]); (refine wX ?_)))
    refine aloop (α := Unit) (fun _ => [(s5, .slice 9 [] .full), (s6, i64v 0)]) (fun _ => τ) (fun _ => True) (fun _ => 0) () trivial (Sub.refl _) ?_ ?_
    · (refine wX ?_)
      (repeat' first | with_reducible exact EnvLe.refl _ | (refine EnvLe.node ?_ (by first | exact Or.inl rfl | exact Or.inr (Or.inl rfl) | exact Or.inr (Or.inr ⟨nofun, VLe.slice _ _ _⟩)) ?_))
    rintro ⟨⟩ -
    (refine wX ?_)
    (repeat ((first | refine zI (by omega) ?_ | refine zE (by omega) (by omega) ?_ | refine zD (by omega) (by omega) ?_ | refine zY (by omega) ?_ | refine zN (by omega) ?_ | refine amin ?_ | refine amax ?_ | refine zU (by omega) ?_ | refine z8 (by omega) ?_ | refine zX (by omega) (by omega) ?_ | refine zR rfl ?_ | refine acellA ?_ | (apply zL H; (· repeat first | exact .h | apply AtK.t); (· rfl)) | (apply zA H; (· repeat first | exact .h | apply AtK.t)) | (apply zS H; (· repeat first | exact .h | apply AtK.t); (· rfl); (conv => whnf); clear H; intro τ H) | rw [List.length_map]); (refine wX ?_)))
    refine (rd_app .nil (E := []) H [newD p] (by simp) [.agg (newD p).cells] (one_cells _) rfl (oneD_ok rfl) ?_).1 _ _ rfl
    clear H
    intro w2 E2 τ H2 H
    cases H2 with
    | row r2 _ hne2 =>
    (refine wX ?_)
    (repeat ((first | refine zI (by omega) ?_ | refine zE (by omega) (by omega) ?_ | refine zD (by omega) (by omega) ?_ | refine zY (by omega) ?_ | refine zN (by omega) ?_ | refine amin ?_ | refine amax ?_ | refine zU (by omega) ?_ | refine z8 (by omega) ?_ | refine zX (by omega) (by omega) ?_ | refine zR rfl ?_ | refine acellA ?_ | (apply zL H; (· repeat first | exact .h | apply AtK.t); (· rfl)) | (apply zA H; (· repeat first | exact .h | apply AtK.t)) | (apply zS H; (· repeat first | exact .h | apply AtK.t); (· rfl); (conv => whnf); clear H; intro τ H) | rw [List.length_map]); (refine wX ?_)))
    refine acut (by omega) (by simp) (by simp) ?_
    (refine wX ?_)
    refine (rd_app (.row r2 ([] ++ [newD p]) hne2) (E := [.o r2 (.cells (deC ([] ++ [newD p])))]) H [] (by simp) _ (by simp [deC_nil]) (by simp) (by simp) ?_).2 _ _ rfl
    clear H
    intro w3 E3 τ H3 H
    have H1 : Hp σb (.o i3 (.cells (amV p).cells) :: .o ix (.cells [i64v wd, .slice 9 [] .full]) :: (E3 ++ F)) τ := Hp.mid (A := E3) (B := [_, _]) (C := F) H
    clear H
    have H := H1
    clear H1
    cases H3 with
    | row r3 _ hne3 =>
    (refine wX ?_)
    (repeat ((first | refine zI (by omega) ?_ | refine zE (by omega) (by omega) ?_ | refine zD (by omega) (by omega) ?_ | refine zY (by omega) ?_ | refine zN (by omega) ?_ | refine amin ?_ | refine amax ?_ | refine zU (by omega) ?_ | refine z8 (by omega) ?_ | refine zX (by omega) (by omega) ?_ | refine zR rfl ?_ | refine acellA ?_ | (apply zL H; (· repeat first | exact .h | apply AtK.t); (· rfl)) | (apply zA H; (· repeat first | exact .h | apply AtK.t)) | (apply zS H; (· repeat first | exact .h | apply AtK.t); (· rfl); (conv => whnf); clear H; intro τ H) | rw [List.length_map]); (refine wX ?_)))
    exact aret (VLe.refl _) (Sub.refl _) ⟨rfl, _, _, _, .row r3 _ hne3, H.tail, .inr ⟨rfl, [], [], rfl, nofun, nofun, rfl⟩⟩
  | row r _ hne =>
    (refine wX ?_)
    (repeat ((first | refine zI (by omega) ?_ | refine zE (by omega) (by omega) ?_ | refine zD (by omega) (by omega) ?_ | refine zY (by omega) ?_ | refine zN (by omega) ?_ | refine amin ?_ | refine amax ?_ | refine zU (by omega) ?_ | refine z8 (by omega) ?_ | refine zX (by omega) (by omega) ?_ | refine zR rfl ?_ | refine acellA ?_ | (apply zL H; (· repeat first | exact .h | apply AtK.t); (· rfl)) | (apply zA H; (· repeat first | exact .h | apply AtK.t)) | (apply zS H; (· repeat first | exact .h | apply AtK.t); (· rfl); (conv => whnf); clear H; intro τ H) | rw [List.length_map]); (refine wX ?_)))
    obtain ⟨A, B, hAB, hA, hB⟩ := split_at l p.sn
    have hlen : l.length = A.length + B.length := by rw [hAB, List.length_append]
    refine aloop (α := Nat × AVal × List HE × AHeap) (fun y => [(s5, y.2.1), (s6, i64v y.1)]) (fun y => y.2.2.2) (fun y => y.1 ≤ A.length ∧ RD y.2.1 (l.take y.1) y.2.2.1 ∧ Hp σb ([.o i3 (.cells (amV p).cells), .o ix (.cells [i64v wd, .ms r 9 0 l.length]), .o r (.cells (deC l))] ++ (y.2.2.1 ++ F)) y.2.2.2) (fun y => A.length - y.1)
      (0, .slice 9 [] .full, [], τ) ⟨Nat.zero_le _, .nil, H⟩ (Sub.refl _) ?_ ?_
    · (refine wX ?_)
      (repeat' first | with_reducible exact EnvLe.refl _ | (refine EnvLe.node ?_ (by first | exact Or.inl rfl | exact Or.inr (Or.inl rfl) | exact Or.inr (Or.inr ⟨nofun, VLe.slice _ _ _⟩)) ?_))
    clear H
    rintro ⟨i, v, E, τ⟩ ⟨hi, hv2, H⟩
    dsimp only at hi hv2 H ⊢
    obtain ⟨xs, hxs⟩ : ∃ xs, xs = l.take i := ⟨_, rfl⟩
    rw [← hxs] at hv2
    have hxl : xs.length = i := by rw [hxs, List.length_take]; omega
    have H0 : Hp σb (.o i3 (.cells (amV p).cells) :: .o ix (.cells [i64v wd, .ms r 9 0 l.length]) :: .o r (.cells (deC l)) :: (E ++ F)) τ := H
    clear H
    have H := H0
    clear H0
    (refine wX ?_)
    (repeat ((first | refine zI (by omega) ?_ | refine zE (by omega) (by omega) ?_ | refine zD (by omega) (by omega) ?_ | refine zY (by omega) ?_ | refine zN (by omega) ?_ | refine amin ?_ | refine amax ?_ | refine zU (by omega) ?_ | refine z8 (by omega) ?_ | refine zX (by omega) (by omega) ?_ | refine zR rfl ?_ | refine acellA ?_ | (apply zL H; (· repeat first | exact .h | apply AtK.t); (· rfl)) | (apply zA H; (· repeat first | exact .h | apply AtK.t)) | (apply zS H; (· repeat first | exact .h | apply AtK.t); (· rfl); (conv => whnf); clear H; intro τ H) | rw [List.length_map]); (refine wX ?_)))
    by_cases h1 : i < A.length
    · have hil : i < l.length := by omega
      have hlt : l[i].p.sn < p.sn := hA _ (by
        have e : l[i]? = some A[i] := by rw [hAB, List.getElem?_append_left h1, List.getElem?_eq_getElem h1]
        rw [List.getElem?_eq_getElem hil] at e
        rw [Option.some.inj e]
        exact List.getElem_mem h1)
      have hcv := hv _ (List.getElem_mem hil)
      (repeat ((first | refine zI (by omega) ?_ | refine zE (by omega) (by omega) ?_ | refine zD (by omega) (by omega) ?_ | refine zY (by omega) ?_ | refine zN (by omega) ?_ | refine amin ?_ | refine amax ?_ | refine zU (by omega) ?_ | refine z8 (by omega) ?_ | refine zX (by omega) (by omega) ?_ | refine zR rfl ?_ | refine acellA ?_ | (apply zL H; (· repeat first | exact .h | apply AtK.t); (· rfl)) | (apply zA H; (· repeat first | exact .h | apply AtK.t)) | (apply zS H; (· repeat first | exact .h | apply AtK.t); (· rfl); (conv => whnf); clear H; intro τ H) | rw [List.length_map]); (refine wX ?_)))
      refine hload H (k := 2) (x := i64v l[i].p.sn) rfl (by rw [show 0 + ((i : Nat) : Int).toNat * 9 + 2 = i * 9 + 2 by omega]; exact deC_get hil (by decide)) ?_
      (refine wX ?_)
      (repeat ((first | refine zI (by omega) ?_ | refine zE (by omega) (by omega) ?_ | refine zD (by omega) (by omega) ?_ | refine zY (by omega) ?_ | refine zN (by omega) ?_ | refine amin ?_ | refine amax ?_ | refine zU (by omega) ?_ | refine z8 (by omega) ?_ | refine zX (by omega) (by omega) ?_ | refine zR rfl ?_ | refine acellA ?_ | (apply zL H; (· repeat first | exact .h | apply AtK.t); (· rfl)) | (apply zA H; (· repeat first | exact .h | apply AtK.t)) | (apply zS H; (· repeat first | exact .h | apply AtK.t); (· rfl); (conv => whnf); clear H; intro τ H) | rw [List.length_map]); (refine wX ?_)))
      refine dtK_de (k := 0) hil (by omega) (by decide) ?_
      rw [show (l[i].cells.drop 0).take 9 = l[i].cells from rfl]
      (refine wX ?_)
      rw [oneD_ok hcv]
      (refine wX ?_)
      cases hv2 with
      | nil =>
        (refine wX ?_)
        (repeat ((first | refine zI (by omega) ?_ | refine zE (by omega) (by omega) ?_ | refine zD (by omega) (by omega) ?_ | refine zY (by omega) ?_ | refine zN (by omega) ?_ | refine amin ?_ | refine amax ?_ | refine zU (by omega) ?_ | refine z8 (by omega) ?_ | refine zX (by omega) (by omega) ?_ | refine zR rfl ?_ | refine acellA ?_ | (apply zL H; (· repeat first | exact .h | apply AtK.t); (· rfl)) | (apply zA H; (· repeat first | exact .h | apply AtK.t)) | (apply zS H; (· repeat first | exact .h | apply AtK.t); (· rfl); (conv => whnf); clear H; intro τ H) | rw [List.length_map]); (refine wX ?_)))
        refine (rd_app .nil (E := []) (G := [.o i3 (.cells (amV p).cells), .o ix (.cells [i64v wd, .ms r 9 0 l.length]), .o r (.cells (deC l))] ++ F) H [l[i]] (by simp) [.agg l[i].cells] (one_cells _) rfl (oneD_ok hcv) ?_).1 _ _ rfl
        clear H
        intro w2 E2 τ H2 H
        (refine wX ?_)
        (repeat ((first | refine zI (by omega) ?_ | refine zE (by omega) (by omega) ?_ | refine zD (by omega) (by omega) ?_ | refine zY (by omega) ?_ | refine zN (by omega) ?_ | refine amin ?_ | refine amax ?_ | refine zU (by omega) ?_ | refine z8 (by omega) ?_ | refine zX (by omega) (by omega) ?_ | refine zR rfl ?_ | refine acellA ?_ | (apply zL H; (· repeat first | exact .h | apply AtK.t); (· rfl)) | (apply zA H; (· repeat first | exact .h | apply AtK.t)) | (apply zS H; (· repeat first | exact .h | apply AtK.t); (· rfl); (conv => whnf); clear H; intro τ H) | rw [List.length_map]); (refine wX ?_)))
        refine ⟨(i + 1, w2, E2, τ), ⟨h1, ?_, Hp.mid (A := E2) (B := [_, _, _]) (C := F) H⟩, by dsimp only; omega, Sub.refl _, ?_⟩
        · rw [show l.take (i + 1) = [] ++ [l[i]] by rw [List.take_add_one, List.getElem?_eq_getElem hil, ← hxs]; rfl]; exact H2
        (refine wX ?_)
        (repeat' first | with_reducible exact EnvLe.refl _ | (refine EnvLe.node ?_ (by first | exact Or.inl rfl | exact Or.inr (Or.inl rfl) | exact Or.inr (Or.inr ⟨nofun, VLe.slice _ _ _⟩)) ?_))
      | row rv _ hnv =>
        (refine wX ?_)
        (repeat ((first | refine zI (by omega) ?_ | refine zE (by omega) (by omega) ?_ | refine zD (by omega) (by omega) ?_ | refine zY (by omega) ?_ | refine zN (by omega) ?_ | refine amin ?_ | refine amax ?_ | refine zU (by omega) ?_ | refine z8 (by omega) ?_ | refine zX (by omega) (by omega) ?_ | refine zR rfl ?_ | refine acellA ?_ | (apply zL H; (· repeat first | exact .h | apply AtK.t); (· rfl)) | (apply zA H; (· repeat first | exact .h | apply AtK.t)) | (apply zS H; (· repeat first | exact .h | apply AtK.t); (· rfl); (conv => whnf); clear H; intro τ H) | rw [List.length_map]); (refine wX ?_)))
        refine (rd_app (.row rv xs hnv) (E := [.o rv (.cells (deC xs))]) (G := [.o i3 (.cells (amV p).cells), .o ix (.cells [i64v wd, .ms r 9 0 l.length]), .o r (.cells (deC l))] ++ F) (Hp.mid (A := [_, _, _]) (B := [.o rv (.cells (deC xs))]) (C := F) H) [l[i]] (by simp only [List.length_singleton]; omega) [.agg l[i].cells] (one_cells _) rfl (oneD_ok hcv) ?_).2 _ _ rfl
        clear H
        intro w2 E2 τ H2 H
        (refine wX ?_)
        (repeat ((first | refine zI (by omega) ?_ | refine zE (by omega) (by omega) ?_ | refine zD (by omega) (by omega) ?_ | refine zY (by omega) ?_ | refine zN (by omega) ?_ | refine amin ?_ | refine amax ?_ | refine zU (by omega) ?_ | refine z8 (by omega) ?_ | refine zX (by omega) (by omega) ?_ | refine zR rfl ?_ | refine acellA ?_ | (apply zL H; (· repeat first | exact .h | apply AtK.t); (· rfl)) | (apply zA H; (· repeat first | exact .h | apply AtK.t)) | (apply zS H; (· repeat first | exact .h | apply AtK.t); (· rfl); (conv => whnf); clear H; intro τ H) | rw [List.length_map]); (refine wX ?_)))
        refine ⟨(i + 1, w2, E2, τ), ⟨h1, ?_, Hp.mid (A := E2) (B := [_, _, _]) (C := F) H⟩, by dsimp only; omega, Sub.refl _, ?_⟩
        · rw [show l.take (i + 1) = xs ++ [l[i]] by rw [List.take_add_one, List.getElem?_eq_getElem hil, ← hxs]; rfl]; exact H2
        (refine wX ?_)
        (repeat' first | with_reducible exact EnvLe.refl _ | (refine EnvLe.node ?_ (by first | exact Or.inl rfl | exact Or.inr (Or.inl rfl) | exact Or.inr (Or.inr ⟨nofun, VLe.slice _ _ _⟩)) ?_))
    · obtain rfl : A.length = i := by omega
      by_cases hil : A.length < l.length
      case pos =>
        have hge : ¬ l[A.length].p.sn < p.sn := by
          cases B with
          | nil => simp at hlen; omega
          | cons d B' =>
            have e : l[A.length]? = some d := by rw [hAB, List.getElem?_append_right (Nat.le_refl _), Nat.sub_self]; rfl
            rw [List.getElem?_eq_getElem hil] at e
            rw [Option.some.inj e]
            exact hB d B' rfl
        (repeat ((first | refine zI (by omega) ?_ | refine zE (by omega) (by omega) ?_ | refine zD (by omega) (by omega) ?_ | refine zY (by omega) ?_ | refine zN (by omega) ?_ | refine amin ?_ | refine amax ?_ | refine zU (by omega) ?_ | refine z8 (by omega) ?_ | refine zX (by omega) (by omega) ?_ | refine zR rfl ?_ | refine acellA ?_ | (apply zL H; (· repeat first | exact .h | apply AtK.t); (· rfl)) | (apply zA H; (· repeat first | exact .h | apply AtK.t)) | (apply zS H; (· repeat first | exact .h | apply AtK.t); (· rfl); (conv => whnf); clear H; intro τ H) | rw [List.length_map]); (refine wX ?_)))
        refine hload H (k := 2) (x := i64v l[A.length].p.sn) rfl (by rw [show 0 + ((A.length : Nat) : Int).toNat * 9 + 2 = A.length * 9 + 2 by omega]; exact deC_get hil (by decide)) ?_
        (refine wX ?_)
        (repeat ((first | refine zI (by omega) ?_ | refine zE (by omega) (by omega) ?_ | refine zD (by omega) (by omega) ?_ | refine zY (by omega) ?_ | refine zN (by omega) ?_ | refine amin ?_ | refine amax ?_ | refine zU (by omega) ?_ | refine z8 (by omega) ?_ | refine zX (by omega) (by omega) ?_ | refine zR rfl ?_ | refine acellA ?_ | (apply zL H; (· repeat first | exact .h | apply AtK.t); (· rfl)) | (apply zA H; (· repeat first | exact .h | apply AtK.t)) | (apply zS H; (· repeat first | exact .h | apply AtK.t); (· rfl); (conv => whnf); clear H; intro τ H) | rw [List.length_map]); (refine wX ?_)))
        cases hv2 with
        | nil =>
          (refine wX ?_)
          (repeat ((first | refine zI (by omega) ?_ | refine zE (by omega) (by omega) ?_ | refine zD (by omega) (by omega) ?_ | refine zY (by omega) ?_ | refine zN (by omega) ?_ | refine amin ?_ | refine amax ?_ | refine zU (by omega) ?_ | refine z8 (by omega) ?_ | refine zX (by omega) (by omega) ?_ | refine zR rfl ?_ | refine acellA ?_ | (apply zL H; (· repeat first | exact .h | apply AtK.t); (· rfl)) | (apply zA H; (· repeat first | exact .h | apply AtK.t)) | (apply zS H; (· repeat first | exact .h | apply AtK.t); (· rfl); (conv => whnf); clear H; intro τ H) | rw [List.length_map]); (refine wX ?_)))
          refine (rd_app (.nil) (E := []) (G := [.o i3 (.cells (amV p).cells), .o ix (.cells [i64v wd, .ms r 9 0 l.length]), .o r (.cells (deC l))] ++ F) (H) [newD p] (by simp only [List.length_singleton, List.length_nil]; omega) [.agg (newD p).cells] (one_cells _) rfl (oneD_ok rfl) ?_).1 _ _ rfl
          clear H
          intro w2 E2 τ H2 H
          obtain ⟨r2, rfl, rfl⟩ := H2.row_of (by simp)
          have hne2 : ([newD p]) ≠ [] := by simp
          replace H : Hp σb (.o r2 (.cells (deC ([] ++ [newD p]))) :: .o i3 (.cells (amV p).cells) :: .o ix (.cells [i64v wd, .ms r 9 0 l.length]) :: .o r (.cells (deC l)) :: F) τ := H
          (refine wX ?_)
          (repeat ((first | refine zI (by omega) ?_ | refine zE (by omega) (by omega) ?_ | refine zD (by omega) (by omega) ?_ | refine zY (by omega) ?_ | refine zN (by omega) ?_ | refine amin ?_ | refine amax ?_ | refine zU (by omega) ?_ | refine z8 (by omega) ?_ | refine zX (by omega) (by omega) ?_ | refine zR rfl ?_ | refine acellA ?_ | (apply zL H; (· repeat first | exact .h | apply AtK.t); (· rfl)) | (apply zA H; (· repeat first | exact .h | apply AtK.t)) | (apply zS H; (· repeat first | exact .h | apply AtK.t); (· rfl); (conv => whnf); clear H; intro τ H) | rw [List.length_map]); (refine wX ?_)))
          refine acut (by omega) (by omega) (by omega) ?_
          rw [Int.toNat_natCast, Int.toNat_natCast]
          refine ⟨.inl ⟨hil, ?_⟩⟩
          (refine wX ?_)
          refine ⟨⟨_, H.get (k := 3) rfl, by rw [deC_len]; omega, ?_⟩⟩
          have hch : (((deC l).drop (0 + A.length * 9)).take ((l.length - A.length) * 9)) = deC B := by
            rw [hAB, deC_append, show 0 + A.length * 9 = (deC A).length by rw [deC_len]; omega, List.drop_left, List.take_of_length_le (by rw [deC_len]; simp only [List.length_append]; omega)]
          rw [hch]
          obtain ⟨c1, c2, c3⟩ := chunkA_spec 9 (l.length - A.length) (deC B) (by rw [deC_len]; omega)
          refine (rd_app (.row r2 ([] ++ [newD p]) (by simp)) (E := [.o r2 (.cells (deC ([] ++ [newD p])))]) (G := [.o i3 (.cells (amV p).cells), .o ix (.cells [i64v wd, .ms r 9 0 l.length]), .o r (.cells (deC l))] ++ F) H B (by simp only [List.length_append, List.length_singleton, List.length_nil]; omega) _ c3 (by rw [c1]; omega) (chunk_ok _ _ (by rw [deC_len]; omega) (deC_ok fun d hd => hv d (by rw [hAB]; exact List.mem_append.2 (.inr hd)))) ?_).2 _ _ rfl
          clear H
          intro w3 E3 τ H3 H
          obtain ⟨r3, rfl, rfl⟩ := H3.row_of (by simp)
          replace H : Hp σb (.o r3 (.cells (deC ([] ++ [newD p] ++ B))) :: .o i3 (.cells (amV p).cells) :: .o ix (.cells [i64v wd, .ms r 9 0 l.length]) :: .o r (.cells (deC l)) :: F) τ := H
          (refine wX ?_)
          (repeat ((first | refine zI (by omega) ?_ | refine zE (by omega) (by omega) ?_ | refine zD (by omega) (by omega) ?_ | refine zY (by omega) ?_ | refine zN (by omega) ?_ | refine amin ?_ | refine amax ?_ | refine zU (by omega) ?_ | refine z8 (by omega) ?_ | refine zX (by omega) (by omega) ?_ | refine zR rfl ?_ | refine acellA ?_ | (apply zL H; (· repeat first | exact .h | apply AtK.t); (· rfl)) | (apply zA H; (· repeat first | exact .h | apply AtK.t)) | (apply zS H; (· repeat first | exact .h | apply AtK.t); (· rfl); (conv => whnf); clear H; intro τ H) | rw [List.length_map]); (refine wX ?_)))
          exact aret (VLe.refl _) (Sub.refl _) ⟨rfl, _, _, _, H3, (Hp.mid (A := [.o r3 _, .o i3 _]) (B := [.o ix _]) (C := .o r _ :: F) H).dropJ, .inr ⟨rfl, A, B, hAB, hA, hB, by rw [show A = [] by rw [hAB, List.take_left] at hxs; exact hxs.symm]; simp⟩⟩
        | row rv _ hnv =>
          (refine wX ?_)
          (repeat ((first | refine zI (by omega) ?_ | refine zE (by omega) (by omega) ?_ | refine zD (by omega) (by omega) ?_ | refine zY (by omega) ?_ | refine zN (by omega) ?_ | refine amin ?_ | refine amax ?_ | refine zU (by omega) ?_ | refine z8 (by omega) ?_ | refine zX (by omega) (by omega) ?_ | refine zR rfl ?_ | refine acellA ?_ | (apply zL H; (· repeat first | exact .h | apply AtK.t); (· rfl)) | (apply zA H; (· repeat first | exact .h | apply AtK.t)) | (apply zS H; (· repeat first | exact .h | apply AtK.t); (· rfl); (conv => whnf); clear H; intro τ H) | rw [List.length_map]); (refine wX ?_)))
          refine (rd_app (.row rv xs hnv) (E := [.o rv (.cells (deC xs))]) (G := [.o i3 (.cells (amV p).cells), .o ix (.cells [i64v wd, .ms r 9 0 l.length]), .o r (.cells (deC l))] ++ F) (Hp.mid (A := [_, _, _]) (B := [.o rv (.cells (deC xs))]) (C := F) H) [newD p] (by simp only [List.length_singleton, List.length_nil]; omega) [.agg (newD p).cells] (one_cells _) rfl (oneD_ok rfl) ?_).2 _ _ rfl
          clear H
          intro w2 E2 τ H2 H
          obtain ⟨r2, rfl, rfl⟩ := H2.row_of (by simp)
          have hne2 : ([newD p]) ≠ [] := by simp
          replace H : Hp σb (.o r2 (.cells (deC (xs ++ [newD p]))) :: .o i3 (.cells (amV p).cells) :: .o ix (.cells [i64v wd, .ms r 9 0 l.length]) :: .o r (.cells (deC l)) :: F) τ := H
          (refine wX ?_)
          (repeat ((first | refine zI (by omega) ?_ | refine zE (by omega) (by omega) ?_ | refine zD (by omega) (by omega) ?_ | refine zY (by omega) ?_ | refine zN (by omega) ?_ | refine amin ?_ | refine amax ?_ | refine zU (by omega) ?_ | refine z8 (by omega) ?_ | refine zX (by omega) (by omega) ?_ | refine zR rfl ?_ | refine acellA ?_ | (apply zL H; (· repeat first | exact .h | apply AtK.t); (· rfl)) | (apply zA H; (· repeat first | exact .h | apply AtK.t)) | (apply zS H; (· repeat first | exact .h | apply AtK.t); (· rfl); (conv => whnf); clear H; intro τ H) | rw [List.length_map]); (refine wX ?_)))
          refine acut (by omega) (by omega) (by omega) ?_
          rw [Int.toNat_natCast, Int.toNat_natCast]
          refine ⟨.inl ⟨hil, ?_⟩⟩
          (refine wX ?_)
          refine ⟨⟨_, H.get (k := 3) rfl, by rw [deC_len]; omega, ?_⟩⟩
          have hch : (((deC l).drop (0 + A.length * 9)).take ((l.length - A.length) * 9)) = deC B := by
            rw [hAB, deC_append, show 0 + A.length * 9 = (deC A).length by rw [deC_len]; omega, List.drop_left, List.take_of_length_le (by rw [deC_len]; simp only [List.length_append]; omega)]
          rw [hch]
          obtain ⟨c1, c2, c3⟩ := chunkA_spec 9 (l.length - A.length) (deC B) (by rw [deC_len]; omega)
          refine (rd_app (.row r2 (xs ++ [newD p]) (by simp)) (E := [.o r2 (.cells (deC (xs ++ [newD p])))]) (G := [.o i3 (.cells (amV p).cells), .o ix (.cells [i64v wd, .ms r 9 0 l.length]), .o r (.cells (deC l))] ++ F) H B (by simp only [List.length_append, List.length_singleton, List.length_nil]; omega) _ c3 (by rw [c1]; omega) (chunk_ok _ _ (by rw [deC_len]; omega) (deC_ok fun d hd => hv d (by rw [hAB]; exact List.mem_append.2 (.inr hd)))) ?_).2 _ _ rfl
          clear H
          intro w3 E3 τ H3 H
          obtain ⟨r3, rfl, rfl⟩ := H3.row_of (by simp)
          replace H : Hp σb (.o r3 (.cells (deC (xs ++ [newD p] ++ B))) :: .o i3 (.cells (amV p).cells) :: .o ix (.cells [i64v wd, .ms r 9 0 l.length]) :: .o r (.cells (deC l)) :: F) τ := H
          (refine wX ?_)
          (repeat ((first | refine zI (by omega) ?_ | refine zE (by omega) (by omega) ?_ | refine zD (by omega) (by omega) ?_ | refine zY (by omega) ?_ | refine zN (by omega) ?_ | refine amin ?_ | refine amax ?_ | refine zU (by omega) ?_ | refine z8 (by omega) ?_ | refine zX (by omega) (by omega) ?_ | refine zR rfl ?_ | refine acellA ?_ | (apply zL H; (· repeat first | exact .h | apply AtK.t); (· rfl)) | (apply zA H; (· repeat first | exact .h | apply AtK.t)) | (apply zS H; (· repeat first | exact .h | apply AtK.t); (· rfl); (conv => whnf); clear H; intro τ H) | rw [List.length_map]); (refine wX ?_)))
          exact aret (VLe.refl _) (Sub.refl _) ⟨rfl, _, _, _, H3, (Hp.mid (A := [.o r3 _, .o i3 _]) (B := [.o ix _]) (C := .o r _ :: F) H).dropJ, .inr ⟨rfl, A, B, hAB, hA, hB, by rw [show A = xs by rw [hAB, List.take_left] at hxs; exact hxs.symm]; simp⟩⟩
      case neg =>
        have hBn : B = [] := List.length_eq_zero_iff.1 (by omega)
        (repeat ((first | refine zI (by omega) ?_ | refine zE (by omega) (by omega) ?_ | refine zD (by omega) (by omega) ?_ | refine zY (by omega) ?_ | refine zN (by omega) ?_ | refine amin ?_ | refine amax ?_ | refine zU (by omega) ?_ | refine z8 (by omega) ?_ | refine zX (by omega) (by omega) ?_ | refine zR rfl ?_ | refine acellA ?_ | (apply zL H; (· repeat first | exact .h | apply AtK.t); (· rfl)) | (apply zA H; (· repeat first | exact .h | apply AtK.t)) | (apply zS H; (· repeat first | exact .h | apply AtK.t); (· rfl); (conv => whnf); clear H; intro τ H) | rw [List.length_map]); (refine wX ?_)))
        cases hv2 with
        | nil =>
          (refine wX ?_)
          (repeat ((first | refine zI (by omega) ?_ | refine zE (by omega) (by omega) ?_ | refine zD (by omega) (by omega) ?_ | refine zY (by omega) ?_ | refine zN (by omega) ?_ | refine amin ?_ | refine amax ?_ | refine zU (by omega) ?_ | refine z8 (by omega) ?_ | refine zX (by omega) (by omega) ?_ | refine zR rfl ?_ | refine acellA ?_ | (apply zL H; (· repeat first | exact .h | apply AtK.t); (· rfl)) | (apply zA H; (· repeat first | exact .h | apply AtK.t)) | (apply zS H; (· repeat first | exact .h | apply AtK.t); (· rfl); (conv => whnf); clear H; intro τ H) | rw [List.length_map]); (refine wX ?_)))
          refine (rd_app (.nil) (E := []) (G := [.o i3 (.cells (amV p).cells), .o ix (.cells [i64v wd, .ms r 9 0 l.length]), .o r (.cells (deC l))] ++ F) (H) [newD p] (by simp only [List.length_singleton, List.length_nil]; omega) [.agg (newD p).cells] (one_cells _) rfl (oneD_ok rfl) ?_).1 _ _ rfl
          clear H
          intro w2 E2 τ H2 H
          obtain ⟨r2, rfl, rfl⟩ := H2.row_of (by simp)
          have hne2 : ([newD p]) ≠ [] := by simp
          replace H : Hp σb (.o r2 (.cells (deC ([] ++ [newD p]))) :: .o i3 (.cells (amV p).cells) :: .o ix (.cells [i64v wd, .ms r 9 0 l.length]) :: .o r (.cells (deC l)) :: F) τ := H
          (refine wX ?_)
          (repeat ((first | refine zI (by omega) ?_ | refine zE (by omega) (by omega) ?_ | refine zD (by omega) (by omega) ?_ | refine zY (by omega) ?_ | refine zN (by omega) ?_ | refine amin ?_ | refine amax ?_ | refine zU (by omega) ?_ | refine z8 (by omega) ?_ | refine zX (by omega) (by omega) ?_ | refine zR rfl ?_ | refine acellA ?_ | (apply zL H; (· repeat first | exact .h | apply AtK.t); (· rfl)) | (apply zA H; (· repeat first | exact .h | apply AtK.t)) | (apply zS H; (· repeat first | exact .h | apply AtK.t); (· rfl); (conv => whnf); clear H; intro τ H) | rw [List.length_map]); (refine wX ?_)))
          refine acut (by omega) (by omega) (by omega) ?_
          rw [Int.toNat_natCast, Int.toNat_natCast]
          refine ⟨.inr (.inr ⟨by omega, ?_⟩)⟩
          (refine wX ?_)
          refine (rd_app (.row r2 ([] ++ [newD p]) (by simp)) (E := [.o r2 (.cells (deC ([] ++ [newD p])))]) (G := [.o i3 (.cells (amV p).cells), .o ix (.cells [i64v wd, .ms r 9 0 l.length]), .o r (.cells (deC l))] ++ F) H [] (by simp only [List.length_append, List.length_singleton, List.length_nil]; omega) [] rfl rfl rfl ?_).2 _ _ rfl
          clear H
          intro w3 E3 τ H3 H
          obtain ⟨r3, rfl, rfl⟩ := H3.row_of (by simp)
          replace H : Hp σb (.o r3 (.cells (deC ([] ++ [newD p] ++ []))) :: .o i3 (.cells (amV p).cells) :: .o ix (.cells [i64v wd, .ms r 9 0 l.length]) :: .o r (.cells (deC l)) :: F) τ := H
          (refine wX ?_)
          (repeat ((first | refine zI (by omega) ?_ | refine zE (by omega) (by omega) ?_ | refine zD (by omega) (by omega) ?_ | refine zY (by omega) ?_ | refine zN (by omega) ?_ | refine amin ?_ | refine amax ?_ | refine zU (by omega) ?_ | refine z8 (by omega) ?_ | refine zX (by omega) (by omega) ?_ | refine zR rfl ?_ | refine acellA ?_ | (apply zL H; (· repeat first | exact .h | apply AtK.t); (· rfl)) | (apply zA H; (· repeat first | exact .h | apply AtK.t)) | (apply zS H; (· repeat first | exact .h | apply AtK.t); (· rfl); (conv => whnf); clear H; intro τ H) | rw [List.length_map]); (refine wX ?_)))
          exact aret (VLe.refl _) (Sub.refl _) ⟨rfl, _, _, _, H3, (Hp.mid (A := [.o r3 _, .o i3 _]) (B := [.o ix _]) (C := .o r _ :: F) H).dropJ, .inr ⟨rfl, A, B, hAB, hA, hB, by rw [hBn, show A = [] by rw [hAB, List.take_left] at hxs; exact hxs.symm]; simp⟩⟩
        | row rv _ hnv =>
          (refine wX ?_)
          (repeat ((first | refine zI (by omega) ?_ | refine zE (by omega) (by omega) ?_ | refine zD (by omega) (by omega) ?_ | refine zY (by omega) ?_ | refine zN (by omega) ?_ | refine amin ?_ | refine amax ?_ | refine zU (by omega) ?_ | refine z8 (by omega) ?_ | refine zX (by omega) (by omega) ?_ | refine zR rfl ?_ | refine acellA ?_ | (apply zL H; (· repeat first | exact .h | apply AtK.t); (· rfl)) | (apply zA H; (· repeat first | exact .h | apply AtK.t)) | (apply zS H; (· repeat first | exact .h | apply AtK.t); (· rfl); (conv => whnf); clear H; intro τ H) | rw [List.length_map]); (refine wX ?_)))
          refine (rd_app (.row rv xs hnv) (E := [.o rv (.cells (deC xs))]) (G := [.o i3 (.cells (amV p).cells), .o ix (.cells [i64v wd, .ms r 9 0 l.length]), .o r (.cells (deC l))] ++ F) (Hp.mid (A := [_, _, _]) (B := [.o rv (.cells (deC xs))]) (C := F) H) [newD p] (by simp only [List.length_singleton, List.length_nil]; omega) [.agg (newD p).cells] (one_cells _) rfl (oneD_ok rfl) ?_).2 _ _ rfl
          clear H
          intro w2 E2 τ H2 H
          obtain ⟨r2, rfl, rfl⟩ := H2.row_of (by simp)
          have hne2 : ([newD p]) ≠ [] := by simp
          replace H : Hp σb (.o r2 (.cells (deC (xs ++ [newD p]))) :: .o i3 (.cells (amV p).cells) :: .o ix (.cells [i64v wd, .ms r 9 0 l.length]) :: .o r (.cells (deC l)) :: F) τ := H
          (refine wX ?_)
          (repeat ((first | refine zI (by omega) ?_ | refine zE (by omega) (by omega) ?_ | refine zD (by omega) (by omega) ?_ | refine zY (by omega) ?_ | refine zN (by omega) ?_ | refine amin ?_ | refine amax ?_ | refine zU (by omega) ?_ | refine z8 (by omega) ?_ | refine zX (by omega) (by omega) ?_ | refine zR rfl ?_ | refine acellA ?_ | (apply zL H; (· repeat first | exact .h | apply AtK.t); (· rfl)) | (apply zA H; (· repeat first | exact .h | apply AtK.t)) | (apply zS H; (· repeat first | exact .h | apply AtK.t); (· rfl); (conv => whnf); clear H; intro τ H) | rw [List.length_map]); (refine wX ?_)))
          refine acut (by omega) (by omega) (by omega) ?_
          rw [Int.toNat_natCast, Int.toNat_natCast]
          refine ⟨.inr (.inr ⟨by omega, ?_⟩)⟩
          (refine wX ?_)
          refine (rd_app (.row r2 (xs ++ [newD p]) (by simp)) (E := [.o r2 (.cells (deC (xs ++ [newD p])))]) (G := [.o i3 (.cells (amV p).cells), .o ix (.cells [i64v wd, .ms r 9 0 l.length]), .o r (.cells (deC l))] ++ F) H [] (by simp only [List.length_append, List.length_singleton, List.length_nil]; omega) [] rfl rfl rfl ?_).2 _ _ rfl
          clear H
          intro w3 E3 τ H3 H
          obtain ⟨r3, rfl, rfl⟩ := H3.row_of (by simp)
          replace H : Hp σb (.o r3 (.cells (deC (xs ++ [newD p] ++ []))) :: .o i3 (.cells (amV p).cells) :: .o ix (.cells [i64v wd, .ms r 9 0 l.length]) :: .o r (.cells (deC l)) :: F) τ := H
          (refine wX ?_)
          (repeat ((first | refine zI (by omega) ?_ | refine zE (by omega) (by omega) ?_ | refine zD (by omega) (by omega) ?_ | refine zY (by omega) ?_ | refine zN (by omega) ?_ | refine amin ?_ | refine amax ?_ | refine zU (by omega) ?_ | refine z8 (by omega) ?_ | refine zX (by omega) (by omega) ?_ | refine zR rfl ?_ | refine acellA ?_ | (apply zL H; (· repeat first | exact .h | apply AtK.t); (· rfl)) | (apply zA H; (· repeat first | exact .h | apply AtK.t)) | (apply zS H; (· repeat first | exact .h | apply AtK.t); (· rfl); (conv => whnf); clear H; intro τ H) | rw [List.length_map]); (refine wX ?_)))
          exact aret (VLe.refl _) (Sub.refl _) ⟨rfl, _, _, _, H3, (Hp.mid (A := [.o r3 _, .o i3 _]) (B := [.o ix _]) (C := .o r _ :: F) H).dropJ, .inr ⟨rfl, A, B, hAB, hA, hB, by rw [hBn, show A = xs by rw [hAB, List.take_left] at hxs; exact hxs.symm]; simp⟩⟩
end
end Go.Proofs.Ytgobbmdbkmjlnaa
/-
  What is kept to be sent again, the document's: what is dropped; what is due, and due no more.
-/
namespace Go.Proofs.Ytgobbmdbkmjlnaa
set_option linter.unusedVariables false
set_option linter.unusedSimpArgs false
set_option maxRecDepth 20000
open Go Go.Am

theorem RD.nil_of {w : AVal} {l : List DE} {E : List HE} (h : RD w l E) (hn : l = []) : w = .slice 9 [] .full ∧ E = [] := by
  cases h with
  | nil => exact ⟨rfl, rfl⟩
  | row r l hl => exact absurd hn hl
theorem Hp.drop0 {σb σ : AHeap} {x a : HE} {F : List HE} (H : Hp σb (x :: a :: F) σ) : Hp σb (x :: ([] ++ F)) σ := (H.front (k := 1) rfl).tail
theorem Hp.drop1 {σb σ : AHeap} {x a b : HE} {F : List HE} (H : Hp σb (a :: x :: b :: F) σ) : Hp σb (x :: ([a] ++ F)) σ := (((H.front (k := 2) rfl).tail).front (k := 1) rfl)
theorem findD_spec (l : List DE) (sn : Int) : (findD l sn = -1 ∧ ∀ d ∈ l, d.p.sn ≠ sn) ∨ ∃ A d B, l = A ++ d :: B ∧ findD l sn = A.length ∧ d.p.sn = sn ∧ ∀ x ∈ A, x.p.sn ≠ sn := by
  induction l with
  | nil => exact .inl ⟨rfl, nofun⟩
  | cons d l ih =>
    by_cases h : d.p.sn = sn
    · exact .inr ⟨[], d, l, rfl, findD_at (i := 0) (by simp) h (fun j hj => absurd hj (Nat.not_lt_zero _)), h, nofun⟩
    · rcases ih with ⟨h1, h2⟩ | ⟨A, x, B, rfl, h1, h2, h3⟩
      · refine .inl ⟨findD_no fun y hy => ?_, fun y hy => ?_⟩ <;>
        · rcases List.mem_cons.1 hy with rfl | hy
          · exact h
          · exact h2 y hy
      · have hA : ∀ y ∈ d :: A, y.p.sn ≠ sn := fun y hy => by
          rcases List.mem_cons.1 hy with rfl | hy
          · exact h
          · exact h3 y hy
        refine .inr ⟨d :: A, x, B, rfl, findD_at (i := (d :: A).length) (by simp) ?_ (fun j hj => ?_), h2, hA⟩
        · show ((d :: A) ++ x :: B)[(d :: A).length].p.sn = sn
          rw [List.getElem_append_right (Nat.le_refl _)]
          simpa using h2
        · have e : ((d :: A) ++ x :: B)[j]'(by simp only [List.length_append]; omega) = (d :: A)[j] := List.getElem_append_left hj
          show (((d :: A) ++ x :: B)[j]'(by simp only [List.length_append]; omega)).p.sn ≠ sn
          rw [e]
          exact hA _ (List.getElem_mem hj)
section
variable {σb σ : AHeap} {ix : Nat} {wd : Int} {w : AVal} {l : List DE} {Er F : List HE}
set_option maxHeartbeats 4000000 in
theorem dDrop (hr : RD w l Er) (H : Hp σb (.o ix (.cells [i64v wd, w]) :: (Er ++ F)) σ) (hl : l.length ≤ 1000) (hv : CellsOk l) (sn : Int) :
    ACalls Try.prog i_bowlineref19_Store_Drop [.ptr ix 0, i64v sn] σ fun v σ' => v = i64v (if findD l sn ≥ 0 then 0 else 4) ∧ ∃ w' l' Er', RD w' l' Er' ∧ Hp σb (.o ix (.cells [i64v wd, w']) :: (Er' ++ F)) σ' ∧
      ((findD l sn < 0 ∧ l' = l) ∨ (∃ A d B, l = A ++ d :: B ∧ d.p.sn = sn ∧ l' = A ++ B)) := by
  refine km_bowlineref19_Store_Drop rfl ?_
  (refine wX ?_)
  have hwv := hr.vw (F := [.o ix (.cells [i64v wd, w])]) (G := F) H
  refine acall (dFind (H.get (k := 0) rfl) hwv (by omega) sn) ?_
  rintro _ σ_ ⟨rfl, e_⟩
  obtain rfl := e_.symm
  refine ⟨?_, Ext.refl _⟩
  (refine wX ?_)
  rcases findD_spec l sn with ⟨h1, h2⟩ | ⟨A, d, B, hAB, h1, h2, h3⟩
  · rw [h1]
    (refine wX ?_)
    (repeat ((first | refine zI (by omega) ?_ | refine zE (by omega) (by omega) ?_ | refine zD (by omega) (by omega) ?_ | refine zY (by omega) ?_ | refine zN (by omega) ?_ | refine amin ?_ | refine amax ?_ | refine zU (by omega) ?_ | refine z8 (by omega) ?_ | refine zX (by omega) (by omega) ?_ | refine zR rfl ?_ | refine acellA ?_ | (apply zL H; (· repeat first | exact .h | apply AtK.t); (· rfl)) | (apply zA H; (· repeat first | exact .h | apply AtK.t)) | (apply zS H; (· repeat first | exact .h | apply AtK.t); (· rfl); (conv => whnf); clear H; intro τ H) | rw [List.length_map]); (refine wX ?_)))
    exact aret (VLe.refl _) (Sub.refl _) ⟨rfl, w, l, Er, hr, H, .inl ⟨by decide, rfl⟩⟩
  have hlen : l.length = A.length + (B.length + 1) := by rw [hAB, List.length_append, List.length_cons]
  rw [h1, if_pos (by omega)]
  obtain ⟨r, rfl, rfl⟩ := hr.row_of (by rw [hAB]; simp)
  replace H : Hp σb (.o ix (.cells [i64v wd, .ms r 9 0 l.length]) :: .o r (.cells (deC l)) :: F) σ := H
  (refine wX ?_)
  (repeat ((first | refine zI (by omega) ?_ | refine zE (by omega) (by omega) ?_ | refine zD (by omega) (by omega) ?_ | refine zY (by omega) ?_ | refine zN (by omega) ?_ | refine amin ?_ | refine amax ?_ | refine zU (by omega) ?_ | refine z8 (by omega) ?_ | refine zX (by omega) (by omega) ?_ | refine zR rfl ?_ | refine acellA ?_ | (apply zL H; (· repeat first | exact .h | apply AtK.t); (· rfl)) | (apply zA H; (· repeat first | exact .h | apply AtK.t)) | (apply zS H; (· repeat first | exact .h | apply AtK.t); (· rfl); (conv => whnf); clear H; intro τ H) | rw [List.length_map]); (refine wX ?_)))
  refine acut (by omega) (by omega) (by omega) ?_
  rw [Int.toNat_natCast, show (0 : Int).toNat = 0 from rfl]
  refine ⟨.inr (.inl ⟨rfl, ?_⟩)⟩
  (refine wX ?_)
  refine ⟨⟨_, H.get (k := 1) rfl, by rw [deC_len]; omega, ?_⟩⟩
  have hcA : (((deC l).drop 0).take (A.length * 9)) = deC A := by
    rw [List.drop_zero, hAB, deC_append, ← deC_len A, List.take_left]
  rw [hcA]
  obtain ⟨c1, c2, c3⟩ := chunkA_spec 9 A.length (deC A) (deC_len A)
  refine (rd_app .nil (E := []) (G := [.o ix (.cells [i64v wd, .ms r 9 0 l.length]), .o r (.cells (deC l))] ++ F) H A (by simp only [List.length_nil]; omega) _ c3 c1 (chunk_ok _ _ (deC_len A) (deC_ok fun x hx => hv x (by rw [hAB]; exact List.mem_append.2 (.inl hx)))) ?_).1 _ _ rfl
  clear H
  intro w2 E2 τ H2 H
  rw [List.nil_append] at H2
  have hcB : (((deC l).drop (0 + (A.length + 1) * 9)).take ((l.length - (A.length + 1)) * 9)) = deC B := by
    rw [hAB, deC_append, deC_cons, ← List.append_assoc, show 0 + (A.length + 1) * 9 = (deC A ++ d.cells).length by rw [List.length_append, deC_len, DE.len]; omega, List.drop_left, List.take_of_length_le (by rw [deC_len]; simp only [List.length_append, List.length_cons]; omega)]
  by_cases hA0 : A = []
  · obtain ⟨rfl, rfl⟩ := H2.nil_of hA0
    replace H : Hp σb (.o ix (.cells [i64v wd, .ms r 9 0 l.length]) :: .o r (.cells (deC l)) :: F) τ := H
    (refine wX ?_)
    (repeat ((first | refine zI (by omega) ?_ | refine zE (by omega) (by omega) ?_ | refine zD (by omega) (by omega) ?_ | refine zY (by omega) ?_ | refine zN (by omega) ?_ | refine amin ?_ | refine amax ?_ | refine zU (by omega) ?_ | refine z8 (by omega) ?_ | refine zX (by omega) (by omega) ?_ | refine zR rfl ?_ | refine acellA ?_ | (apply zL H; (· repeat first | exact .h | apply AtK.t); (· rfl)) | (apply zA H; (· repeat first | exact .h | apply AtK.t)) | (apply zS H; (· repeat first | exact .h | apply AtK.t); (· rfl); (conv => whnf); clear H; intro τ H) | rw [List.length_map]); (refine wX ?_)))
    refine acut (by omega) (by omega) (by omega) ?_
    rw [Int.toNat_natCast, show ((A.length : Int) + 1).toNat = A.length + 1 by omega]
    by_cases hB : A.length + 1 < l.length
    · refine ⟨.inl ⟨hB, ?_⟩⟩
      (refine wX ?_)
      refine ⟨⟨_, H.get (k := 1) rfl, by rw [deC_len]; omega, ?_⟩⟩
      rw [hcB]
      obtain ⟨e1, e2, e3⟩ := chunkA_spec 9 (l.length - (A.length + 1)) (deC B) (by rw [deC_len]; omega)
      have hB0 : B ≠ [] := fun e => by rw [e] at hlen; simp at hlen; omega
      refine (rd_app .nil (E := []) (G := [.o ix (.cells [i64v wd, .ms r 9 0 l.length]), .o r (.cells (deC l))] ++ F) H B (by first | omega | (simp only [List.length_nil]; omega)) _ e3 (by rw [e1]; omega) (chunk_ok _ _ (by rw [deC_len]; omega) (deC_ok fun x hx => hv x (by rw [hAB]; exact List.mem_append.2 (.inr (List.mem_cons_of_mem _ hx))))) ?_).1 _ _ rfl
      clear H
      intro w3 E3 τ H3 H
      obtain ⟨r3, rfl, rfl⟩ := H3.row_of (by simp [hB0])
      replace H : Hp σb (.o r3 (.cells (deC ([] ++ B))) :: .o ix (.cells [i64v wd, .ms r 9 0 l.length]) :: .o r (.cells (deC l)) :: F) τ := H
      (refine wX ?_)
      (repeat ((first | refine zI (by omega) ?_ | refine zE (by omega) (by omega) ?_ | refine zD (by omega) (by omega) ?_ | refine zY (by omega) ?_ | refine zN (by omega) ?_ | refine amin ?_ | refine amax ?_ | refine zU (by omega) ?_ | refine z8 (by omega) ?_ | refine zX (by omega) (by omega) ?_ | refine zR rfl ?_ | refine acellA ?_ | (apply zL H; (· repeat first | exact .h | apply AtK.t); (· rfl)) | (apply zA H; (· repeat first | exact .h | apply AtK.t)) | (apply zS H; (· repeat first | exact .h | apply AtK.t); (· rfl); (conv => whnf); clear H; intro τ H) | rw [List.length_map]); (refine wX ?_)))
      exact aret (VLe.refl _) (Sub.refl _) ⟨rfl, _, _, _, H3, Hp.drop1 H, .inr ⟨A, d, B, hAB, h2, by rw [hA0]⟩⟩
    · have hB0 : B = [] := List.length_eq_zero_iff.1 (by omega)
      refine ⟨.inr (.inr ⟨by omega, ?_⟩)⟩
      (refine wX ?_)
      refine (rd_app .nil (E := []) (G := [.o ix (.cells [i64v wd, .ms r 9 0 l.length]), .o r (.cells (deC l))] ++ F) H [] (by first | omega | (simp only [List.length_nil]; omega)) [] rfl rfl rfl ?_).1 _ _ rfl
      clear H
      intro w3 E3 τ H3 H
      obtain ⟨rfl, rfl⟩ := H3.nil_of rfl
      replace H : Hp σb (.o ix (.cells [i64v wd, .ms r 9 0 l.length]) :: .o r (.cells (deC l)) :: F) τ := H
      (refine wX ?_)
      (repeat ((first | refine zI (by omega) ?_ | refine zE (by omega) (by omega) ?_ | refine zD (by omega) (by omega) ?_ | refine zY (by omega) ?_ | refine zN (by omega) ?_ | refine amin ?_ | refine amax ?_ | refine zU (by omega) ?_ | refine z8 (by omega) ?_ | refine zX (by omega) (by omega) ?_ | refine zR rfl ?_ | refine acellA ?_ | (apply zL H; (· repeat first | exact .h | apply AtK.t); (· rfl)) | (apply zA H; (· repeat first | exact .h | apply AtK.t)) | (apply zS H; (· repeat first | exact .h | apply AtK.t); (· rfl); (conv => whnf); clear H; intro τ H) | rw [List.length_map]); (refine wX ?_)))
      exact aret (VLe.refl _) (Sub.refl _) ⟨rfl, _, _, [], .nil, Hp.drop0 H, .inr ⟨A, d, B, hAB, h2, by rw [hA0, hB0]; rfl⟩⟩
  · obtain ⟨r2, rfl, rfl⟩ := H2.row_of hA0
    replace H : Hp σb (.o r2 (.cells (deC A)) :: .o ix (.cells [i64v wd, .ms r 9 0 l.length]) :: .o r (.cells (deC l)) :: F) τ := H
    (refine wX ?_)
    (repeat ((first | refine zI (by omega) ?_ | refine zE (by omega) (by omega) ?_ | refine zD (by omega) (by omega) ?_ | refine zY (by omega) ?_ | refine zN (by omega) ?_ | refine amin ?_ | refine amax ?_ | refine zU (by omega) ?_ | refine z8 (by omega) ?_ | refine zX (by omega) (by omega) ?_ | refine zR rfl ?_ | refine acellA ?_ | (apply zL H; (· repeat first | exact .h | apply AtK.t); (· rfl)) | (apply zA H; (· repeat first | exact .h | apply AtK.t)) | (apply zS H; (· repeat first | exact .h | apply AtK.t); (· rfl); (conv => whnf); clear H; intro τ H) | rw [List.length_map]); (refine wX ?_)))
    refine acut (by omega) (by omega) (by omega) ?_
    rw [Int.toNat_natCast, show ((A.length : Int) + 1).toNat = A.length + 1 by omega]
    by_cases hB : A.length + 1 < l.length
    · refine ⟨.inl ⟨hB, ?_⟩⟩
      (refine wX ?_)
      refine ⟨⟨_, H.get (k := 2) rfl, by rw [deC_len]; omega, ?_⟩⟩
      rw [hcB]
      obtain ⟨e1, e2, e3⟩ := chunkA_spec 9 (l.length - (A.length + 1)) (deC B) (by rw [deC_len]; omega)
      have hB0 : B ≠ [] := fun e => by rw [e] at hlen; simp at hlen; omega
      refine (rd_app (.row r2 A hA0) (E := [.o r2 (.cells (deC A))]) (G := [.o ix (.cells [i64v wd, .ms r 9 0 l.length]), .o r (.cells (deC l))] ++ F) H B (by first | omega | (simp only [List.length_nil]; omega)) _ e3 (by rw [e1]; omega) (chunk_ok _ _ (by rw [deC_len]; omega) (deC_ok fun x hx => hv x (by rw [hAB]; exact List.mem_append.2 (.inr (List.mem_cons_of_mem _ hx))))) ?_).2 _ _ rfl
      clear H
      intro w3 E3 τ H3 H
      obtain ⟨r3, rfl, rfl⟩ := H3.row_of (by simp [hB0])
      replace H : Hp σb (.o r3 (.cells (deC (A ++ B))) :: .o ix (.cells [i64v wd, .ms r 9 0 l.length]) :: .o r (.cells (deC l)) :: F) τ := H
      (refine wX ?_)
      (repeat ((first | refine zI (by omega) ?_ | refine zE (by omega) (by omega) ?_ | refine zD (by omega) (by omega) ?_ | refine zY (by omega) ?_ | refine zN (by omega) ?_ | refine amin ?_ | refine amax ?_ | refine zU (by omega) ?_ | refine z8 (by omega) ?_ | refine zX (by omega) (by omega) ?_ | refine zR rfl ?_ | refine acellA ?_ | (apply zL H; (· repeat first | exact .h | apply AtK.t); (· rfl)) | (apply zA H; (· repeat first | exact .h | apply AtK.t)) | (apply zS H; (· repeat first | exact .h | apply AtK.t); (· rfl); (conv => whnf); clear H; intro τ H) | rw [List.length_map]); (refine wX ?_)))
      exact aret (VLe.refl _) (Sub.refl _) ⟨rfl, _, _, _, H3, Hp.drop1 H, .inr ⟨A, d, B, hAB, h2, rfl⟩⟩
    · have hB0 : B = [] := List.length_eq_zero_iff.1 (by omega)
      refine ⟨.inr (.inr ⟨by omega, ?_⟩)⟩
      (refine wX ?_)
      refine (rd_app (.row r2 A hA0) (E := [.o r2 (.cells (deC A))]) (G := [.o ix (.cells [i64v wd, .ms r 9 0 l.length]), .o r (.cells (deC l))] ++ F) H [] (by first | omega | (simp only [List.length_nil]; omega)) [] rfl rfl rfl ?_).2 _ _ rfl
      clear H
      intro w3 E3 τ H3 H
      obtain ⟨r3, rfl, rfl⟩ := H3.row_of (by simp [hA0])
      replace H : Hp σb (.o r3 (.cells (deC (A ++ []))) :: .o ix (.cells [i64v wd, .ms r 9 0 l.length]) :: .o r (.cells (deC l)) :: F) τ := H
      (refine wX ?_)
      (repeat ((first | refine zI (by omega) ?_ | refine zE (by omega) (by omega) ?_ | refine zD (by omega) (by omega) ?_ | refine zY (by omega) ?_ | refine zN (by omega) ?_ | refine amin ?_ | refine amax ?_ | refine zU (by omega) ?_ | refine z8 (by omega) ?_ | refine zX (by omega) (by omega) ?_ | refine zR rfl ?_ | refine acellA ?_ | (apply zL H; (· repeat first | exact .h | apply AtK.t); (· rfl)) | (apply zA H; (· repeat first | exact .h | apply AtK.t)) | (apply zS H; (· repeat first | exact .h | apply AtK.t); (· rfl); (conv => whnf); clear H; intro τ H) | rw [List.length_map]); (refine wX ?_)))
      exact aret (VLe.refl _) (Sub.refl _) ⟨rfl, _, _, _, H3, Hp.drop1 H, .inr ⟨A, d, B, hAB, h2, by rw [hB0]⟩⟩
end
end Go.Proofs.Ytgobbmdbkmjlnaa
/-
  What is kept to be sent again, the document's: what is due, and due no more.
-/
namespace Go.Proofs.Ytgobbmdbkmjlnaa
set_option linter.unusedVariables false
set_option linter.unusedSimpArgs false
set_option maxRecDepth 20000
open Go Go.Am

theorem de_set {A B : List DE} {d d' : DE} {j : Nat} {y : AVal} (hj : j < 9) (h : d.cells.set j y = d'.cells) : (deC (A ++ d :: B)).set (A.length * 9 + j) y = deC (A ++ d' :: B) := by
  rw [deC_append, deC_append, deC_cons, deC_cons, ← deC_len A, List.set_append_right _ _ (by omega), Nat.add_sub_cancel_left, List.set_append_left _ _ (by rw [DE.len]; exact hj), h]
theorem de_same {A B : List DE} {d d' : DE} (h : d.cells = d'.cells) : deC (A ++ d :: B) = deC (A ++ d' :: B) := by
  rw [deC_append, deC_append, deC_cons, deC_cons, h]
theorem de_store {σb σ : AHeap} {L : List HE} (H : Hp σb L σ) {A B : List DE} {d : DE} (d' : DE) {k r j off : Nat} {y : AVal} {K : AHeap → Prop} (hk : AtK L k (.o r (.cells (deC (A ++ d :: B))))) (ho : off = A.length * 9 + j) (hj : j < 9) (hy : y.isCell = true) (h : d.cells.set j y = d'.cells)
    (hK : setLK L k (.o r (.cells (deC (A ++ d' :: B)))) fun L' => ∀ τ', Hp σb L' τ' → K τ') : AStore σ r off [y] K := by
  subst ho
  rw [← de_set (A := A) (B := B) hj h] at hK
  have hb : A.length * 9 + j < (deC (A ++ d :: B)).length := by rw [deC_len, List.length_append, List.length_cons]; omega
  refine astore (H.get hk.get) (by show _ + 1 ≤ _; omega) (by show (y.isCell && true) = true; rw [hy]; rfl) (l := (deC (A ++ d :: B)).set (A.length * 9 + j) y) ?_ ((setLK_spec hK).2 _ (H.set hk.get _))
  unfold splice
  rw [List.set_eq_take_append_cons_drop, if_pos hb, List.append_assoc]; rfl
theorem de_get {A B : List DE} {d : DE} {j : Nat} (hj : j < 9) : (deC (A ++ d :: B))[A.length * 9 + j]? = d.cells[j]? := by
  have h : A.length < (A ++ d :: B).length := by rw [List.length_append, List.length_cons]; omega
  rw [deC_get h hj]
  have e : (A ++ d :: B)[A.length] = d := by rw [List.getElem_append_right (Nat.le_refl _)]; simp
  rw [e]
theorem de_at {A B : List DE} {d : DE} : ∃ h : A.length < (A ++ d :: B).length, (A ++ d :: B)[A.length] = d := by
  refine ⟨by rw [List.length_append, List.length_cons]; omega, ?_⟩
  rw [List.getElem_append_right (Nat.le_refl _)]; simp
theorem de_dtK {A B : List DE} {d : DE} {k n off : Nat} {K : List AVal → Prop} (ho : off = A.length * 9 + k) (hk : k + n ≤ 9) (hK : K ((d.cells.drop k).take n)) : dtK (deC (A ++ d :: B)) off n K := by
  obtain ⟨h, e⟩ := de_at (A := A) (B := B) (d := d)
  exact dtK_de h ho hk (by rw [e]; exact hK)
theorem cnt_le {m : List Sp} {M : List Bool} {x : Sp} (hr : spRight x = true) : cntT M x ≤ x.2.toNat - x.1.toNat := by
  have := rel_split (m := m) (M := M) hr
  omega
theorem chg_cell {σ : AHeap} {v v' : AVal} {L L' : List Bool} {x : Sp} {is : Bool} {c : Int} {E : List HE} (h : TOk σ v L) (k : Chg v L x is c v' L' E) : v'.isCell = true := by
  cases k with
  | arg _ => exact h.isCell
  | full _ _ _ _ => exact h.isCell
  | ok _ _ _ _ _ _ h => exact h.isCell
/-- What an entry becomes. -/
structure DTo (d d' : DE) (m : List Sp) (c : Int) (E : List HE) : Prop where
  p : d'.p = d.p
  m : d'.m = m
  c : d'.c = c
  r : Rel d'.m d'.L
  e : (E = [] ∧ d'.v = d.v ∧ d'.L = d.L ∧ d'.E = d.E) ∨ (RT2 d'.v d'.L d'.E ∧ E = d'.E)
section
variable {σb σ : AHeap} {ix r : Nat} {wd : Int} {A B : List DE} {d : DE} {F : List HE}
set_option maxHeartbeats 4000000 in
theorem dAgain (H : Hp σb (.o ix (.cells [i64v wd, .ms r 9 0 (A ++ d :: B).length]) :: .o r (.cells (deC (A ++ d :: B))) :: F) σ) (ok : d.Ok) (hl : (A ++ d :: B).length ≤ 1000) (hf : findD (A ++ d :: B) d.p.sn = A.length)
    (hT : ∀ G τ, Hp σb (G ++ F) τ → TOk τ d.v d.L) (hc : 0 ≤ d.c ∧ d.c ≤ 1000000) (a b : Int) :
    ACalls Try.prog i_bowlineref19_Store_Again [.ptr ix 0, i64v d.p.sn, i64v a, i64v b] σ fun v σ' =>
      v = .tup [i64v (if (spanV (total d.p.fs) a b).2 = 0 then againN (total d.p.fs) a b d.c d.m else 0), i64v (spanV (total d.p.fs) a b).2] ∧
      ∃ d' E, DTo d d' (againS (total d.p.fs) a b d.m) (againN (total d.p.fs) a b d.c d.m) E ∧ Hp σb (E ++ (.o ix (.cells [i64v wd, .ms r 9 0 (A ++ d :: B).length]) :: .o r (.cells (deC (A ++ d' :: B))) :: F)) σ' := by
  refine k_bowlineref19_Store_Again rfl ?_
  have b2 : DVw σ (.ms r 9 0 (A ++ d :: B).length) (A ++ d :: B) := .inr ⟨r, rfl, H.get (k := 1) rfl, by simp⟩
  obtain ⟨hlt, hat⟩ := de_at (A := A) (B := B) (d := d)
  (refine wX ?_)
  refine acall (dFind (H.get (k := 0) rfl) b2 (by omega) d.p.sn) ?_
  rintro _ σ_ ⟨rfl, e_⟩
  obtain rfl := e_.symm
  refine ⟨?_, Ext.refl _⟩
  (refine wX ?_)
  rw [hf]
  (repeat ((first | refine zI (by omega) ?_ | refine zE (by omega) (by omega) ?_ | refine zD (by omega) (by omega) ?_ | refine zY (by omega) ?_ | refine zN (by omega) ?_ | refine amin ?_ | refine amax ?_ | refine zU (by omega) ?_ | refine z8 (by omega) ?_ | refine zX (by omega) (by omega) ?_ | refine zR rfl ?_ | refine acellA ?_ | refine zB H b2 rfl ?_ | refine zC H b2 ?_ | (apply zL H; (· repeat first | exact .h | apply AtK.t); (· rfl)) | (apply zA H; (· repeat first | exact .h | apply AtK.t)) | (apply zS H; (· repeat first | exact .h | apply AtK.t); (· rfl); (conv => whnf); clear H; intro τ H) | rw [List.length_map]); (refine wX ?_)))
  have hsp := dSpan (H.get (k := 0) rfl) b2 hlt (by rw [hat]; exact ok) a b
  rw [hat] at hsp
  refine acall (hsp) ?_
  rintro _ σ_ ⟨rfl, e_⟩
  obtain rfl := e_.symm
  refine ⟨?_, Ext.refl _⟩
  (refine wX ?_)
  have htot := ok.tot
  have hsr : (spanV (total d.p.fs) a b).2 = 0 → spRight (spanV (total d.p.fs) a b).1 = true ∧ (spanV (total d.p.fs) a b).1.2 ≤ 4000 := by
    unfold spanV
    intro h
    by_cases h1 : a < 0 ∨ b < 0
    · rw [if_pos h1] at h; cases h
    rw [if_neg h1] at h ⊢
    obtain ⟨e, he⟩ : ∃ e : Int, e = if b = 0 ∨ b > (total d.p.fs : Int) then (total d.p.fs : Int) else b := ⟨_, rfl⟩
    rw [← he] at h ⊢
    have he2 : e ≤ total d.p.fs := by rw [he]; split <;> omega
    by_cases h2 : a ≥ e
    · rw [if_pos h2] at h; cases h
    rw [if_neg h2]
    exact ⟨spRight_iff.2 ⟨by dsimp only; omega, by dsimp only; omega, by dsimp only; omega⟩, by dsimp only; omega⟩
  unfold againS againN
  generalize spanV (total d.p.fs) a b = q at *
  obtain ⟨⟨qa, qb⟩, qe⟩ := q
  dsimp only at hsr ⊢
  refine hnew H rfl ?_
  clear H
  intro i11 τ H
  (refine wX ?_)
  (repeat ((first | refine zI (by omega) ?_ | refine zE (by omega) (by omega) ?_ | refine zD (by omega) (by omega) ?_ | refine zY (by omega) ?_ | refine zN (by omega) ?_ | refine amin ?_ | refine amax ?_ | refine zU (by omega) ?_ | refine z8 (by omega) ?_ | refine zX (by omega) (by omega) ?_ | refine zR rfl ?_ | refine acellA ?_ | refine zB H b2 rfl ?_ | refine zC H b2 ?_ | (apply zL H; (· repeat first | exact .h | apply AtK.t); (· rfl)) | (apply zA H; (· repeat first | exact .h | apply AtK.t)) | (apply zS H; (· repeat first | exact .h | apply AtK.t); (· rfl); (conv => whnf); clear H; intro τ H) | rw [List.length_map]); (refine wX ?_)))
  by_cases hq : qe = 0
  case neg =>
    (repeat ((first | refine zI (by omega) ?_ | refine zE (by omega) (by omega) ?_ | refine zD (by omega) (by omega) ?_ | refine zY (by omega) ?_ | refine zN (by omega) ?_ | refine amin ?_ | refine amax ?_ | refine zU (by omega) ?_ | refine z8 (by omega) ?_ | refine zX (by omega) (by omega) ?_ | refine zR rfl ?_ | refine acellA ?_ | refine zB H b2 rfl ?_ | refine zC H b2 ?_ | (apply zL H; (· repeat first | exact .h | apply AtK.t); (· rfl)) | (apply zA H; (· repeat first | exact .h | apply AtK.t)) | (apply zS H; (· repeat first | exact .h | apply AtK.t); (· rfl); (conv => whnf); clear H; intro τ H) | rw [List.length_map]); (refine wX ?_)))
    rw [if_neg (c := qe = 0 ∧ _) (fun h => hq h.1), if_neg (c := qe = 0 ∧ _) (fun h => hq h.1), if_neg hq]
    exact aret (VLe.refl _) (Sub.refl _) ⟨rfl, d, [], ⟨rfl, rfl, rfl, ok.rel, .inl ⟨rfl, rfl, rfl, rfl⟩⟩, H.tail⟩
  subst hq
  obtain ⟨hsr1, hsr2⟩ := hsr rfl
  have hsr3 := spRight_iff.1 hsr1
  dsimp only at hsr2 hsr3
  rw [if_pos rfl]
  have T1 := hT [_, _, _] _ H
  have hrl := ok.rel.len
  have hhas := rel_all ok.so ok.rel hsr1
  have hcl := cnt_le (m := d.m) (M := d.L) hsr1
  dsimp only at hhas hcl
  (repeat ((first | refine zI (by omega) ?_ | refine zE (by omega) (by omega) ?_ | refine zD (by omega) (by omega) ?_ | refine zY (by omega) ?_ | refine zN (by omega) ?_ | refine amin ?_ | refine amax ?_ | refine zU (by omega) ?_ | refine z8 (by omega) ?_ | refine zX (by omega) (by omega) ?_ | refine zR rfl ?_ | refine acellA ?_ | refine zB H b2 rfl ?_ | refine zC H b2 ?_ | (apply zL H; (· repeat first | exact .h | apply AtK.t); (· rfl)) | (apply zA H; (· repeat first | exact .h | apply AtK.t)) | (apply zS H; (· repeat first | exact .h | apply AtK.t); (· rfl); (conv => whnf); clear H; intro τ H) | rw [List.length_map]); (refine wX ?_)))
  refine de_dtK (k := 7) (by omega) (by decide) ?_
  rw [show (d.cells.drop 7).take 1 = [d.v] from rfl]
  (refine wX ?_)
  (repeat ((first | refine zI (by omega) ?_ | refine zE (by omega) (by omega) ?_ | refine zD (by omega) (by omega) ?_ | refine zY (by omega) ?_ | refine zN (by omega) ?_ | refine amin ?_ | refine amax ?_ | refine zU (by omega) ?_ | refine z8 (by omega) ?_ | refine zX (by omega) (by omega) ?_ | refine zR rfl ?_ | refine acellA ?_ | refine zB H b2 rfl ?_ | refine zC H b2 ?_ | (apply zL H; (· repeat first | exact .h | apply AtK.t); (· rfl)) | (apply zA H; (· repeat first | exact .h | apply AtK.t)) | (apply zS H; (· repeat first | exact .h | apply AtK.t); (· rfl); (conv => whnf); clear H; intro τ H) | rw [List.length_map]); (refine wX ?_)))
  refine acall (rCount03 T1 (qa, qb) (by omega) hsr3.1 (by dsimp only; omega) (by dsimp only; omega)) ?_
  rintro _ σ_ ⟨rfl, e_⟩
  obtain rfl := e_.symm
  refine ⟨?_, Ext.refl _⟩
  (refine wX ?_)
  by_cases hh : hasS (qa, qb) d.m = true
  · rw [hh] at hhas
    have hhas := of_decide_eq_true hhas.symm
    rw [if_neg (fun h => by rw [hh] at h; cases h.2), if_neg (fun h => by rw [hh] at h; cases h.2)]
    (repeat ((first | refine zI (by omega) ?_ | refine zE (by omega) (by omega) ?_ | refine zD (by omega) (by omega) ?_ | refine zY (by omega) ?_ | refine zN (by omega) ?_ | refine amin ?_ | refine amax ?_ | refine zU (by omega) ?_ | refine z8 (by omega) ?_ | refine zX (by omega) (by omega) ?_ | refine zR rfl ?_ | refine acellA ?_ | refine zB H b2 rfl ?_ | refine zC H b2 ?_ | (apply zL H; (· repeat first | exact .h | apply AtK.t); (· rfl)) | (apply zA H; (· repeat first | exact .h | apply AtK.t)) | (apply zS H; (· repeat first | exact .h | apply AtK.t); (· rfl); (conv => whnf); clear H; intro τ H) | rw [List.length_map]); (refine wX ?_)))
    refine hload H (k := 2) (x := i64v d.c) rfl (by rw [show 0 + ((A.length : Nat) : Int).toNat * 9 + 8 = A.length * 9 + 8 by omega]; exact de_get (by decide)) ?_
    (refine wX ?_)
    exact aret (VLe.refl _) (Sub.refl _) ⟨rfl, d, [], ⟨rfl, rfl, rfl, ok.rel, .inl ⟨rfl, rfl, rfl, rfl⟩⟩, H.tail⟩
  have hh' : hasS (qa, qb) d.m = false := by simpa using hh
  rw [hh'] at hhas
  have hhas := of_decide_eq_false hhas.symm
  rw [if_pos ⟨rfl, hh'⟩, if_pos ⟨rfl, hh'⟩]
  (repeat ((first | refine zI (by omega) ?_ | refine zE (by omega) (by omega) ?_ | refine zD (by omega) (by omega) ?_ | refine zY (by omega) ?_ | refine zN (by omega) ?_ | refine amin ?_ | refine amax ?_ | refine zU (by omega) ?_ | refine z8 (by omega) ?_ | refine zX (by omega) (by omega) ?_ | refine zR rfl ?_ | refine acellA ?_ | refine zB H b2 rfl ?_ | refine zC H b2 ?_ | (apply zL H; (· repeat first | exact .h | apply AtK.t); (· rfl)) | (apply zA H; (· repeat first | exact .h | apply AtK.t)) | (apply zS H; (· repeat first | exact .h | apply AtK.t); (· rfl); (conv => whnf); clear H; intro τ H) | rw [List.length_map]); (refine wX ?_)))
  refine hload H (k := 2) (x := i64v d.c) rfl (by rw [show 0 + ((A.length : Nat) : Int).toNat * 9 + 8 = A.length * 9 + 8 by omega]; exact de_get (by decide)) ?_
  (refine wX ?_)
  (repeat ((first | refine zI (by omega) ?_ | refine zE (by omega) (by omega) ?_ | refine zD (by omega) (by omega) ?_ | refine zY (by omega) ?_ | refine zN (by omega) ?_ | refine amin ?_ | refine amax ?_ | refine zU (by omega) ?_ | refine z8 (by omega) ?_ | refine zX (by omega) (by omega) ?_ | refine zR rfl ?_ | refine acellA ?_ | refine zB H b2 rfl ?_ | refine zC H b2 ?_ | (apply zL H; (· repeat first | exact .h | apply AtK.t); (· rfl)) | (apply zA H; (· repeat first | exact .h | apply AtK.t)) | (apply zS H; (· repeat first | exact .h | apply AtK.t); (· rfl); (conv => whnf); clear H; intro τ H) | rw [List.length_map]); (refine wX ?_)))
  refine de_store H {d with c := d.c + 1} (k := 2) (.t (.t .h)) (j := 8) (by omega) (by decide) rfl rfl ?_
  (conv => whnf)
  clear H
  intro τ H
  have T2 := hT [_, _, _] _ H
  (refine wX ?_)
  (repeat ((first | refine zI (by omega) ?_ | refine zE (by omega) (by omega) ?_ | refine zD (by omega) (by omega) ?_ | refine zY (by omega) ?_ | refine zN (by omega) ?_ | refine amin ?_ | refine amax ?_ | refine zU (by omega) ?_ | refine z8 (by omega) ?_ | refine zX (by omega) (by omega) ?_ | refine zR rfl ?_ | refine acellA ?_ | refine zB H b2 rfl ?_ | refine zC H b2 ?_ | (apply zL H; (· repeat first | exact .h | apply AtK.t); (· rfl)) | (apply zA H; (· repeat first | exact .h | apply AtK.t)) | (apply zS H; (· repeat first | exact .h | apply AtK.t); (· rfl); (conv => whnf); clear H; intro τ H) | rw [List.length_map]); (refine wX ?_)))
  refine de_dtK (k := 7) (by omega) (by decide) ?_
  rw [show ((DE.cells {d with c := d.c + 1}).drop 7).take 1 = [d.v] from rfl]
  (refine wX ?_)
  (repeat ((first | refine zI (by omega) ?_ | refine zE (by omega) (by omega) ?_ | refine zD (by omega) (by omega) ?_ | refine zY (by omega) ?_ | refine zN (by omega) ?_ | refine amin ?_ | refine amax ?_ | refine zU (by omega) ?_ | refine z8 (by omega) ?_ | refine zX (by omega) (by omega) ?_ | refine zR rfl ?_ | refine acellA ?_ | refine zB H b2 rfl ?_ | refine zC H b2 ?_ | (apply zL H; (· repeat first | exact .h | apply AtK.t); (· rfl)) | (apply zA H; (· repeat first | exact .h | apply AtK.t)) | (apply zS H; (· repeat first | exact .h | apply AtK.t); (· rfl); (conv => whnf); clear H; intro τ H) | rw [List.length_map]); (refine wX ?_)))
  constructor
  case' left =>
    refine acall (rChange03 T2 (qa, qb) true (by omega)) ?_
    rintro _ τ2 ⟨c1, vz, Lz, Ez, rfl, hC, N⟩
    refine ⟨?_, N.ext⟩
    replace H := H.join N
    replace H : Hp σb (.o i11 (.cells [i64v qa, i64v qb]) :: .o ix (.cells [i64v wd, .ms r 9 0 (A ++ d :: B).length]) :: .o r (.cells (deC (A ++ {d with c := d.c + 1} :: B))) :: (Ez ++ F)) τ2 := Hp.mid (A := Ez) (B := [_, _, _]) (C := F) H
    clear N
    have hvz := chg_cell T2 hC
    (refine wX ?_)
    refine hnew H rfl ?_
    clear H
    intro i13 τ H
    (refine wX ?_)
    (repeat ((first | refine zI (by omega) ?_ | refine zE (by omega) (by omega) ?_ | refine zD (by omega) (by omega) ?_ | refine zY (by omega) ?_ | refine zN (by omega) ?_ | refine amin ?_ | refine amax ?_ | refine zU (by omega) ?_ | refine z8 (by omega) ?_ | refine zX (by omega) (by omega) ?_ | refine zR rfl ?_ | refine acellA ?_ | refine zB H b2 rfl ?_ | refine zC H b2 ?_ | (apply zL H; (· repeat first | exact .h | apply AtK.t); (· rfl)) | (apply zA H; (· repeat first | exact .h | apply AtK.t)) | (apply zS H; (· repeat first | exact .h | apply AtK.t); (· rfl); (conv => whnf); clear H; intro τ H) | rw [List.length_map]); (refine wX ?_)))
    refine zS H (k := 0) .h (by show (vz.isCell && true) = true; rw [hvz]; rfl) ?_
    (conv => whnf)
    clear H
    intro τ H
    (refine wX ?_)
    (repeat ((first | refine zI (by omega) ?_ | refine zE (by omega) (by omega) ?_ | refine zD (by omega) (by omega) ?_ | refine zY (by omega) ?_ | refine zN (by omega) ?_ | refine amin ?_ | refine amax ?_ | refine zU (by omega) ?_ | refine z8 (by omega) ?_ | refine zX (by omega) (by omega) ?_ | refine zR rfl ?_ | refine acellA ?_ | refine zB H b2 rfl ?_ | refine zC H b2 ?_ | (apply zL H; (· repeat first | exact .h | apply AtK.t); (· rfl)) | (apply zA H; (· repeat first | exact .h | apply AtK.t)) | (apply zS H; (· repeat first | exact .h | apply AtK.t); (· rfl); (conv => whnf); clear H; intro τ H) | rw [List.length_map]); (refine wX ?_)))
  case' right =>
    (refine wX ?_)
    refine hnew H rfl ?_
    clear H
    intro i13 τ H
    (refine wX ?_)
    (repeat ((first | refine zI (by omega) ?_ | refine zE (by omega) (by omega) ?_ | refine zD (by omega) (by omega) ?_ | refine zY (by omega) ?_ | refine zN (by omega) ?_ | refine amin ?_ | refine amax ?_ | refine zU (by omega) ?_ | refine z8 (by omega) ?_ | refine zX (by omega) (by omega) ?_ | refine zR rfl ?_ | refine acellA ?_ | refine zB H b2 rfl ?_ | refine zC H b2 ?_ | (apply zL H; (· repeat first | exact .h | apply AtK.t); (· rfl)) | (apply zA H; (· repeat first | exact .h | apply AtK.t)) | (apply zS H; (· repeat first | exact .h | apply AtK.t); (· rfl); (conv => whnf); clear H; intro τ H) | rw [List.length_map]); (refine wX ?_)))
    have T3 := hT [_, _, _, _] _ H
    refine acall (rChange03 T3 (qa, qb) true (by omega)) ?_
    rintro _ τ2 ⟨c1, vz, Lz, Ez, rfl, hC, N⟩
    refine ⟨?_, N.ext⟩
    replace H := H.join N
    replace H : Hp σb (.o i13 (.cells [.slice 1 [] .full]) :: .o i11 (.cells [i64v qa, i64v qb]) :: .o ix (.cells [i64v wd, .ms r 9 0 (A ++ d :: B).length]) :: .o r (.cells (deC (A ++ {d with c := d.c + 1} :: B))) :: (Ez ++ F)) τ2 := Hp.mid (A := Ez) (B := [_, _, _, _]) (C := F) H
    clear N
    have hvz := chg_cell T3 hC
    (refine wX ?_)
    (repeat ((first | refine zI (by omega) ?_ | refine zE (by omega) (by omega) ?_ | refine zD (by omega) (by omega) ?_ | refine zY (by omega) ?_ | refine zN (by omega) ?_ | refine amin ?_ | refine amax ?_ | refine zU (by omega) ?_ | refine z8 (by omega) ?_ | refine zX (by omega) (by omega) ?_ | refine zR rfl ?_ | refine acellA ?_ | refine zB H b2 rfl ?_ | refine zC H b2 ?_ | (apply zL H; (· repeat first | exact .h | apply AtK.t); (· rfl)) | (apply zA H; (· repeat first | exact .h | apply AtK.t)) | (apply zS H; (· repeat first | exact .h | apply AtK.t); (· rfl); (conv => whnf); clear H; intro τ H) | rw [List.length_map]); (refine wX ?_)))
    refine zS H (k := 0) .h (by show (vz.isCell && true) = true; rw [hvz]; rfl) ?_
    (conv => whnf)
    clear H
    intro τ H
    (refine wX ?_)
    (repeat ((first | refine zI (by omega) ?_ | refine zE (by omega) (by omega) ?_ | refine zD (by omega) (by omega) ?_ | refine zY (by omega) ?_ | refine zN (by omega) ?_ | refine amin ?_ | refine amax ?_ | refine zU (by omega) ?_ | refine z8 (by omega) ?_ | refine zX (by omega) (by omega) ?_ | refine zR rfl ?_ | refine acellA ?_ | refine zB H b2 rfl ?_ | refine zC H b2 ?_ | (apply zL H; (· repeat first | exact .h | apply AtK.t); (· rfl)) | (apply zA H; (· repeat first | exact .h | apply AtK.t)) | (apply zS H; (· repeat first | exact .h | apply AtK.t); (· rfl); (conv => whnf); clear H; intro τ H) | rw [List.length_map]); (refine wX ?_)))
  all_goals
    obtain ⟨hc1, hRz, hEz⟩ := chg_add ok.so ok.rel hC
    unfold againL
    by_cases h0 : addC (qa, qb) d.m = 0
    · rw [h0] at hc1
      subst hc1
      rw [if_pos h0]
      clear hC
      (repeat ((first | refine zI (by omega) ?_ | refine zE (by omega) (by omega) ?_ | refine zD (by omega) (by omega) ?_ | refine zY (by omega) ?_ | refine zN (by omega) ?_ | refine amin ?_ | refine amax ?_ | refine zU (by omega) ?_ | refine z8 (by omega) ?_ | refine zX (by omega) (by omega) ?_ | refine zR rfl ?_ | refine acellA ?_ | refine zB H b2 rfl ?_ | refine zC H b2 ?_ | (apply zL H; (· repeat first | exact .h | apply AtK.t); (· rfl)) | (apply zA H; (· repeat first | exact .h | apply AtK.t)) | (apply zS H; (· repeat first | exact .h | apply AtK.t); (· rfl); (conv => whnf); clear H; intro τ H) | rw [List.length_map]); (refine wX ?_)))
      refine de_store H ⟨d.p, vz, d.L, d.m, d.c + 1, []⟩ (k := 3) (.t (.t (.t .h))) (j := 7) (by omega) (by decide) hvz rfl ?_
      (conv => whnf)
      clear H
      intro τ H
      (refine wX ?_)
      (repeat ((first | refine zI (by omega) ?_ | refine zE (by omega) (by omega) ?_ | refine zD (by omega) (by omega) ?_ | refine zY (by omega) ?_ | refine zN (by omega) ?_ | refine amin ?_ | refine amax ?_ | refine zU (by omega) ?_ | refine z8 (by omega) ?_ | refine zX (by omega) (by omega) ?_ | refine zR rfl ?_ | refine acellA ?_ | refine zB H b2 rfl ?_ | refine zC H b2 ?_ | (apply zL H; (· repeat first | exact .h | apply AtK.t); (· rfl)) | (apply zA H; (· repeat first | exact .h | apply AtK.t)) | (apply zS H; (· repeat first | exact .h | apply AtK.t); (· rfl); (conv => whnf); clear H; intro τ H) | rw [List.length_map]); (refine wX ?_)))
      refine hload H (k := 3) (x := i64v (d.c + 1)) rfl (by rw [show 0 + ((A.length : Nat) : Int).toNat * 9 + 8 = A.length * 9 + 8 by omega]; exact de_get (by decide)) ?_
      (refine wX ?_)
      replace H : Hp σb (Ez ++ ([.o ix (.cells [i64v wd, .ms r 9 0 (A ++ d :: B).length]), .o r (.cells (deC (A ++ ⟨d.p, vz, d.L, d.m, d.c + 1, []⟩ :: B)))] ++ F)) τ := Hp.mid (A := [_, _]) (B := Ez) (C := F) H.tail.tail
      rcases hEz with ⟨rfl, rfl, rfl⟩ | hEz
      · exact aret (VLe.refl _) (Sub.refl _) ⟨rfl, ⟨d.p, d.v, d.L, addS (qa, qb) d.m, d.c + 1, d.E⟩, [], ⟨rfl, rfl, rfl, hRz, .inl ⟨rfl, rfl, rfl, rfl⟩⟩, by rw [de_same (d := ⟨d.p, d.v, d.L, addS (qa, qb) d.m, d.c + 1, d.E⟩) (d' := ⟨d.p, d.v, d.L, d.m, d.c + 1, []⟩) rfl]; exact H⟩
      · exact aret (VLe.refl _) (Sub.refl _) ⟨rfl, ⟨d.p, vz, Lz, addS (qa, qb) d.m, d.c + 1, Ez⟩, Ez, ⟨rfl, rfl, rfl, hRz, .inr ⟨hEz, rfl⟩⟩, by rw [de_same (d := ⟨d.p, vz, Lz, addS (qa, qb) d.m, d.c + 1, Ez⟩) (d' := ⟨d.p, vz, d.L, d.m, d.c + 1, []⟩) rfl]; exact H⟩
    · rw [if_neg h0]
      (repeat ((first | refine zI (by omega) ?_ | refine zE (by omega) (by omega) ?_ | refine zD (by omega) (by omega) ?_ | refine zY (by omega) ?_ | refine zN (by omega) ?_ | refine amin ?_ | refine amax ?_ | refine zU (by omega) ?_ | refine z8 (by omega) ?_ | refine zX (by omega) (by omega) ?_ | refine zR rfl ?_ | refine acellA ?_ | refine zB H b2 rfl ?_ | refine zC H b2 ?_ | (apply zL H; (· repeat first | exact .h | apply AtK.t); (· rfl)) | (apply zA H; (· repeat first | exact .h | apply AtK.t)) | (apply zS H; (· repeat first | exact .h | apply AtK.t); (· rfl); (conv => whnf); clear H; intro τ H) | rw [List.length_map]); (refine wX ?_)))
      refine de_dtK (k := 0) (by omega) (by decide) ?_
      rw [show ((DE.cells {d with c := d.c + 1}).drop 0).take 7 = (amV d.p).cells from rfl]
      (refine wX ?_)
      refine acall (rData10 d.p _ (by have := ok.fl; omega) (by omega)) ?_
      rintro _ σ_ ⟨rfl, e_⟩
      obtain rfl := e_.symm
      refine ⟨?_, Ext.refl _⟩
      (refine wX ?_)
      rw [List.length_map, show d.p.fs.flatten.length = total d.p.fs from rfl]
      (repeat ((first | refine zI (by omega) ?_ | refine zE (by omega) (by omega) ?_ | refine zD (by omega) (by omega) ?_ | refine zY (by omega) ?_ | refine zN (by omega) ?_ | refine amin ?_ | refine amax ?_ | refine zU (by omega) ?_ | refine z8 (by omega) ?_ | refine zX (by omega) (by omega) ?_ | refine zR rfl ?_ | refine acellA ?_ | refine zB H b2 rfl ?_ | refine zC H b2 ?_ | (apply zL H; (· repeat first | exact .h | apply AtK.t); (· rfl)) | (apply zA H; (· repeat first | exact .h | apply AtK.t)) | (apply zS H; (· repeat first | exact .h | apply AtK.t); (· rfl); (conv => whnf); clear H; intro τ H) | rw [List.length_map]); (refine wX ?_)))
      refine hnew H rfl ?_
      clear H
      intro i15 τ H
      (refine wX ?_)
      (repeat ((first | refine zI (by omega) ?_ | refine zE (by omega) (by omega) ?_ | refine zD (by omega) (by omega) ?_ | refine zY (by omega) ?_ | refine zN (by omega) ?_ | refine amin ?_ | refine amax ?_ | refine zU (by omega) ?_ | refine z8 (by omega) ?_ | refine zX (by omega) (by omega) ?_ | refine zR rfl ?_ | refine acellA ?_ | refine zB H b2 rfl ?_ | refine zC H b2 ?_ | (apply zL H; (· repeat first | exact .h | apply AtK.t); (· rfl)) | (apply zA H; (· repeat first | exact .h | apply AtK.t)) | (apply zS H; (· repeat first | exact .h | apply AtK.t); (· rfl); (conv => whnf); clear H; intro τ H) | rw [List.length_map]); (refine wX ?_)))
      refine de_dtK (k := 7) (by omega) (by decide) ?_
      rw [show ((DE.cells {d with c := d.c + 1}).drop 7).take 1 = [d.v] from rfl]
      (refine wX ?_)
      (repeat ((first | refine zI (by omega) ?_ | refine zE (by omega) (by omega) ?_ | refine zD (by omega) (by omega) ?_ | refine zY (by omega) ?_ | refine zN (by omega) ?_ | refine amin ?_ | refine amax ?_ | refine zU (by omega) ?_ | refine z8 (by omega) ?_ | refine zX (by omega) (by omega) ?_ | refine zR rfl ?_ | refine acellA ?_ | refine zB H b2 rfl ?_ | refine zC H b2 ?_ | (apply zL H; (· repeat first | exact .h | apply AtK.t); (· rfl)) | (apply zA H; (· repeat first | exact .h | apply AtK.t)) | (apply zS H; (· repeat first | exact .h | apply AtK.t); (· rfl); (conv => whnf); clear H; intro τ H) | rw [List.length_map]); (refine wX ?_)))
      have T4 := hT ([_, _, _, _, _] ++ Ez) _ (by rw [List.append_assoc]; exact H)
      refine acall (rChange03 T4 (0, (total d.p.fs : Int)) true (by omega)) ?_
      rintro _ τ2 ⟨c2, v2, L2, E2, rfl, hC2, N⟩
      refine ⟨?_, N.ext⟩
      replace H := H.join N
      have hv2 := chg_cell T4 hC2
      obtain ⟨hc2, hR2, hE2⟩ := chg_add ok.so ok.rel hC2
      replace H := Hp.mid (A := E2) (B := [_, _, _, _, _]) (C := Ez ++ F) H
      rw [← List.append_assoc] at H
      replace H := Hp.dropmid H
      rw [List.append_assoc] at H
      replace H : Hp σb (.o i15 (.cells [i64v 0, i64v (total d.p.fs)]) :: .o i13 (.cells [vz]) :: .o i11 (.cells [i64v qa, i64v qb]) :: .o ix (.cells [i64v wd, .ms r 9 0 (A ++ d :: B).length]) :: .o r (.cells (deC (A ++ {d with c := d.c + 1} :: B))) :: (E2 ++ F)) τ2 := H
      clear N T4 hC2 hC hRz hEz hvz
      (refine wX ?_)
      (repeat ((first | refine zI (by omega) ?_ | refine zE (by omega) (by omega) ?_ | refine zD (by omega) (by omega) ?_ | refine zY (by omega) ?_ | refine zN (by omega) ?_ | refine amin ?_ | refine amax ?_ | refine zU (by omega) ?_ | refine z8 (by omega) ?_ | refine zX (by omega) (by omega) ?_ | refine zR rfl ?_ | refine acellA ?_ | refine zB H b2 rfl ?_ | refine zC H b2 ?_ | (apply zL H; (· repeat first | exact .h | apply AtK.t); (· rfl)) | (apply zA H; (· repeat first | exact .h | apply AtK.t)) | (apply zS H; (· repeat first | exact .h | apply AtK.t); (· rfl); (conv => whnf); clear H; intro τ H) | rw [List.length_map]); (refine wX ?_)))
      refine zS H (k := 1) (.t .h) (by show (v2.isCell && true) = true; rw [hv2]; rfl) ?_
      (conv => whnf)
      clear H
      intro τ H
      (refine wX ?_)
      (repeat ((first | refine zI (by omega) ?_ | refine zE (by omega) (by omega) ?_ | refine zD (by omega) (by omega) ?_ | refine zY (by omega) ?_ | refine zN (by omega) ?_ | refine amin ?_ | refine amax ?_ | refine zU (by omega) ?_ | refine z8 (by omega) ?_ | refine zX (by omega) (by omega) ?_ | refine zR rfl ?_ | refine acellA ?_ | refine zB H b2 rfl ?_ | refine zC H b2 ?_ | (apply zL H; (· repeat first | exact .h | apply AtK.t); (· rfl)) | (apply zA H; (· repeat first | exact .h | apply AtK.t)) | (apply zS H; (· repeat first | exact .h | apply AtK.t); (· rfl); (conv => whnf); clear H; intro τ H) | rw [List.length_map]); (refine wX ?_)))
      refine de_store H ⟨d.p, v2, d.L, d.m, d.c + 1, []⟩ (k := 4) (.t (.t (.t (.t .h)))) (j := 7) (by omega) (by decide) hv2 rfl ?_
      (conv => whnf)
      clear H
      intro τ H
      (refine wX ?_)
      (repeat ((first | refine zI (by omega) ?_ | refine zE (by omega) (by omega) ?_ | refine zD (by omega) (by omega) ?_ | refine zY (by omega) ?_ | refine zN (by omega) ?_ | refine amin ?_ | refine amax ?_ | refine zU (by omega) ?_ | refine z8 (by omega) ?_ | refine zX (by omega) (by omega) ?_ | refine zR rfl ?_ | refine acellA ?_ | refine zB H b2 rfl ?_ | refine zC H b2 ?_ | (apply zL H; (· repeat first | exact .h | apply AtK.t); (· rfl)) | (apply zA H; (· repeat first | exact .h | apply AtK.t)) | (apply zS H; (· repeat first | exact .h | apply AtK.t); (· rfl); (conv => whnf); clear H; intro τ H) | rw [List.length_map]); (refine wX ?_)))
      refine hload H (k := 4) (x := i64v (d.c + 1)) rfl (by rw [show 0 + ((A.length : Nat) : Int).toNat * 9 + 8 = A.length * 9 + 8 by omega]; exact de_get (by decide)) ?_
      (refine wX ?_)
      replace H : Hp σb (E2 ++ ([.o ix (.cells [i64v wd, .ms r 9 0 (A ++ d :: B).length]), .o r (.cells (deC (A ++ ⟨d.p, v2, d.L, d.m, d.c + 1, []⟩ :: B)))] ++ F)) τ := Hp.mid (A := [_, _]) (B := E2) (C := F) H.tail.tail.tail
      rcases hE2 with ⟨rfl, rfl, rfl⟩ | hE2
      · exact aret (VLe.refl _) (Sub.refl _) ⟨rfl, ⟨d.p, d.v, d.L, addS (0, (total d.p.fs : Int)) d.m, d.c + 1, d.E⟩, [], ⟨rfl, rfl, rfl, hR2, .inl ⟨rfl, rfl, rfl, rfl⟩⟩, by rw [de_same (d := ⟨d.p, d.v, d.L, addS (0, (total d.p.fs : Int)) d.m, d.c + 1, d.E⟩) (d' := ⟨d.p, d.v, d.L, d.m, d.c + 1, []⟩) rfl]; exact H⟩
      · exact aret (VLe.refl _) (Sub.refl _) ⟨rfl, ⟨d.p, v2, L2, addS (0, (total d.p.fs : Int)) d.m, d.c + 1, E2⟩, E2, ⟨rfl, rfl, rfl, hR2, .inr ⟨hE2, rfl⟩⟩, by rw [de_same (d := ⟨d.p, v2, L2, addS (0, (total d.p.fs : Int)) d.m, d.c + 1, E2⟩) (d' := ⟨d.p, v2, d.L, d.m, d.c + 1, []⟩) rfl]; exact H⟩
theorem dAgainNone {w : AVal} {l : List DE} (b1 : σ ix = some (.cells [i64v wd, w])) (hw : DVw σ w l) (hl : l.length ≤ 1000) (sn a b : Int) (hf : findD l sn = -1) :
    ACalls Try.prog i_bowlineref19_Store_Again [.ptr ix 0, i64v sn, i64v a, i64v b] σ fun v σ' => v = .tup [i64v 0, i64v 4] ∧ σ' = σ := by
  refine k_bowlineref19_Store_Again rfl ?_
  have H := Hp.nil σ
  (refine wX ?_)
  refine acall (dFind b1 hw (by omega) sn) ?_
  rintro _ σ_ ⟨rfl, e_⟩
  obtain rfl := e_.symm
  refine ⟨?_, Ext.refl _⟩
  (refine wX ?_)
  rw [hf]
  (refine wX ?_)
  exact aret (VLe.refl _) (Sub.refl _) ⟨rfl, rfl⟩
theorem dSentNone {w : AVal} {l : List DE} (b1 : σ ix = some (.cells [i64v wd, w])) (hw : DVw σ w l) (hl : l.length ≤ 1000) (sn a b : Int) (hf : findD l sn = -1) :
    ACalls Try.prog i_bowlineref19_Store_Sent [.ptr ix 0, i64v sn, i64v a, i64v b] σ fun v σ' => v = i64v 4 ∧ σ' = σ := by
  refine k_bowlineref19_Store_Sent rfl ?_
  have H := Hp.nil σ
  (refine wX ?_)
  refine acall (dFind b1 hw (by omega) sn) ?_
  rintro _ σ_ ⟨rfl, e_⟩
  obtain rfl := e_.symm
  refine ⟨?_, Ext.refl _⟩
  (refine wX ?_)
  rw [hf]
  (refine wX ?_)
  exact aret (VLe.refl _) (Sub.refl _) ⟨rfl, rfl⟩
set_option maxHeartbeats 4000000 in
theorem dSent (H : Hp σb (.o ix (.cells [i64v wd, .ms r 9 0 (A ++ d :: B).length]) :: .o r (.cells (deC (A ++ d :: B))) :: F) σ) (ok : d.Ok) (hl : (A ++ d :: B).length ≤ 1000) (hf : findD (A ++ d :: B) d.p.sn = A.length)
    (hT : ∀ G τ, Hp σb (G ++ F) τ → TOk τ d.v d.L) (a b : Int) :
    ACalls Try.prog i_bowlineref19_Store_Sent [.ptr ix 0, i64v d.p.sn, i64v a, i64v b] σ fun v σ' =>
      v = i64v (spanV (total d.p.fs) a b).2 ∧
      ∃ d' E, DTo d d' (sentL (total d.p.fs) a b d.m) d.c E ∧ Hp σb (E ++ (.o ix (.cells [i64v wd, .ms r 9 0 (A ++ d :: B).length]) :: .o r (.cells (deC (A ++ d' :: B))) :: F)) σ' := by
  refine k_bowlineref19_Store_Sent rfl ?_
  have b2 : DVw σ (.ms r 9 0 (A ++ d :: B).length) (A ++ d :: B) := .inr ⟨r, rfl, H.get (k := 1) rfl, by simp⟩
  obtain ⟨hlt, hat⟩ := de_at (A := A) (B := B) (d := d)
  (refine wX ?_)
  refine acall (dFind (H.get (k := 0) rfl) b2 (by omega) d.p.sn) ?_
  rintro _ σ_ ⟨rfl, e_⟩
  obtain rfl := e_.symm
  refine ⟨?_, Ext.refl _⟩
  (refine wX ?_)
  rw [hf]
  (repeat ((first | refine zI (by omega) ?_ | refine zE (by omega) (by omega) ?_ | refine zD (by omega) (by omega) ?_ | refine zY (by omega) ?_ | refine zN (by omega) ?_ | refine amin ?_ | refine amax ?_ | refine zU (by omega) ?_ | refine z8 (by omega) ?_ | refine zX (by omega) (by omega) ?_ | refine zR rfl ?_ | refine acellA ?_ | refine zB H b2 rfl ?_ | refine zC H b2 ?_ | (apply zL H; (· repeat first | exact .h | apply AtK.t); (· rfl)) | (apply zA H; (· repeat first | exact .h | apply AtK.t)) | (apply zS H; (· repeat first | exact .h | apply AtK.t); (· rfl); (conv => whnf); clear H; intro τ H) | rw [List.length_map]); (refine wX ?_)))
  have hsp := dSpan (H.get (k := 0) rfl) b2 hlt (by rw [hat]; exact ok) a b
  rw [hat] at hsp
  refine acall (hsp) ?_
  rintro _ σ_ ⟨rfl, e_⟩
  obtain rfl := e_.symm
  refine ⟨?_, Ext.refl _⟩
  (refine wX ?_)
  have htot := ok.tot
  have hrl := ok.rel.len
  unfold sentL
  generalize spanV (total d.p.fs) a b = q at *
  obtain ⟨⟨qa, qb⟩, qe⟩ := q
  dsimp only
  refine hnew H rfl ?_
  clear H
  intro i11 τ H
  (refine wX ?_)
  (repeat ((first | refine zI (by omega) ?_ | refine zE (by omega) (by omega) ?_ | refine zD (by omega) (by omega) ?_ | refine zY (by omega) ?_ | refine zN (by omega) ?_ | refine amin ?_ | refine amax ?_ | refine zU (by omega) ?_ | refine z8 (by omega) ?_ | refine zX (by omega) (by omega) ?_ | refine zR rfl ?_ | refine acellA ?_ | refine zB H b2 rfl ?_ | refine zC H b2 ?_ | (apply zL H; (· repeat first | exact .h | apply AtK.t); (· rfl)) | (apply zA H; (· repeat first | exact .h | apply AtK.t)) | (apply zS H; (· repeat first | exact .h | apply AtK.t); (· rfl); (conv => whnf); clear H; intro τ H) | rw [List.length_map]); (refine wX ?_)))
  by_cases hq : qe = 0
  case neg =>
    (repeat ((first | refine zI (by omega) ?_ | refine zE (by omega) (by omega) ?_ | refine zD (by omega) (by omega) ?_ | refine zY (by omega) ?_ | refine zN (by omega) ?_ | refine amin ?_ | refine amax ?_ | refine zU (by omega) ?_ | refine z8 (by omega) ?_ | refine zX (by omega) (by omega) ?_ | refine zR rfl ?_ | refine acellA ?_ | refine zB H b2 rfl ?_ | refine zC H b2 ?_ | (apply zL H; (· repeat first | exact .h | apply AtK.t); (· rfl)) | (apply zA H; (· repeat first | exact .h | apply AtK.t)) | (apply zS H; (· repeat first | exact .h | apply AtK.t); (· rfl); (conv => whnf); clear H; intro τ H) | rw [List.length_map]); (refine wX ?_)))
    rw [if_neg hq]
    exact aret (VLe.refl _) (Sub.refl _) ⟨rfl, d, [], ⟨rfl, rfl, rfl, ok.rel, .inl ⟨rfl, rfl, rfl, rfl⟩⟩, H.tail⟩
  subst hq
  rw [if_pos rfl]
  (repeat ((first | refine zI (by omega) ?_ | refine zE (by omega) (by omega) ?_ | refine zD (by omega) (by omega) ?_ | refine zY (by omega) ?_ | refine zN (by omega) ?_ | refine amin ?_ | refine amax ?_ | refine zU (by omega) ?_ | refine z8 (by omega) ?_ | refine zX (by omega) (by omega) ?_ | refine zR rfl ?_ | refine acellA ?_ | refine zB H b2 rfl ?_ | refine zC H b2 ?_ | (apply zL H; (· repeat first | exact .h | apply AtK.t); (· rfl)) | (apply zA H; (· repeat first | exact .h | apply AtK.t)) | (apply zS H; (· repeat first | exact .h | apply AtK.t); (· rfl); (conv => whnf); clear H; intro τ H) | rw [List.length_map]); (refine wX ?_)))
  refine de_dtK (k := 7) (by omega) (by decide) ?_
  rw [show (d.cells.drop 7).take 1 = [d.v] from rfl]
  (refine wX ?_)
  (repeat ((first | refine zI (by omega) ?_ | refine zE (by omega) (by omega) ?_ | refine zD (by omega) (by omega) ?_ | refine zY (by omega) ?_ | refine zN (by omega) ?_ | refine amin ?_ | refine amax ?_ | refine zU (by omega) ?_ | refine z8 (by omega) ?_ | refine zX (by omega) (by omega) ?_ | refine zR rfl ?_ | refine acellA ?_ | refine zB H b2 rfl ?_ | refine zC H b2 ?_ | (apply zL H; (· repeat first | exact .h | apply AtK.t); (· rfl)) | (apply zA H; (· repeat first | exact .h | apply AtK.t)) | (apply zS H; (· repeat first | exact .h | apply AtK.t); (· rfl); (conv => whnf); clear H; intro τ H) | rw [List.length_map]); (refine wX ?_)))
  have T2 := hT [_, _, _] _ H
  refine acall (rChange03 T2 (qa, qb) false (by omega)) ?_
  rintro _ τ2 ⟨c1, vz, Lz, Ez, rfl, hC, N⟩
  refine ⟨?_, N.ext⟩
  replace H := H.join N
  replace H : Hp σb (.o i11 (.cells [i64v qa, i64v qb]) :: .o ix (.cells [i64v wd, .ms r 9 0 (A ++ d :: B).length]) :: .o r (.cells (deC (A ++ d :: B))) :: (Ez ++ F)) τ2 := Hp.mid (A := Ez) (B := [_, _, _]) (C := F) H
  clear N
  have hvz := chg_cell T2 hC
  obtain ⟨hc1, hRz, hEz⟩ := chg_tak ok.so ok.rel hC
  (refine wX ?_)
  (repeat ((first | refine zI (by omega) ?_ | refine zE (by omega) (by omega) ?_ | refine zD (by omega) (by omega) ?_ | refine zY (by omega) ?_ | refine zN (by omega) ?_ | refine amin ?_ | refine amax ?_ | refine zU (by omega) ?_ | refine z8 (by omega) ?_ | refine zX (by omega) (by omega) ?_ | refine zR rfl ?_ | refine acellA ?_ | refine zB H b2 rfl ?_ | refine zC H b2 ?_ | (apply zL H; (· repeat first | exact .h | apply AtK.t); (· rfl)) | (apply zA H; (· repeat first | exact .h | apply AtK.t)) | (apply zS H; (· repeat first | exact .h | apply AtK.t); (· rfl); (conv => whnf); clear H; intro τ H) | rw [List.length_map]); (refine wX ?_)))
  refine de_store H ⟨d.p, vz, d.L, d.m, d.c, []⟩ (k := 2) (.t (.t .h)) (j := 7) (by omega) (by decide) hvz rfl ?_
  (conv => whnf)
  clear H
  intro τ H
  (refine wX ?_)
  replace H : Hp σb (Ez ++ ([.o ix (.cells [i64v wd, .ms r 9 0 (A ++ d :: B).length]), .o r (.cells (deC (A ++ ⟨d.p, vz, d.L, d.m, d.c, []⟩ :: B)))] ++ F)) τ := Hp.mid (A := [_, _]) (B := Ez) (C := F) H.tail
  rcases hEz with ⟨rfl, rfl, rfl⟩ | hEz
  · exact aret (VLe.refl _) (Sub.refl _) ⟨rfl, ⟨d.p, d.v, d.L, takS (qa, qb) d.m, d.c, d.E⟩, [], ⟨rfl, rfl, rfl, hRz, .inl ⟨rfl, rfl, rfl, rfl⟩⟩, by rw [de_same (d := ⟨d.p, d.v, d.L, takS (qa, qb) d.m, d.c, d.E⟩) (d' := ⟨d.p, d.v, d.L, d.m, d.c, []⟩) rfl]; exact H⟩
  · exact aret (VLe.refl _) (Sub.refl _) ⟨rfl, ⟨d.p, vz, Lz, takS (qa, qb) d.m, d.c, Ez⟩, Ez, ⟨rfl, rfl, rfl, hRz, .inr ⟨hEz, rfl⟩⟩, by rw [de_same (d := ⟨d.p, vz, Lz, takS (qa, qb) d.m, d.c, Ez⟩) (d' := ⟨d.p, vz, d.L, d.m, d.c, []⟩) rfl]; exact H⟩
end
end Go.Proofs.Ytgobbmdbkmjlnaa
/-
  What of fields lies between two places of their bytes; plain.
-/
namespace Go.Proofs.Ytgobbmdbkmjlnaa
set_option linter.unusedVariables false
set_option linter.unusedSimpArgs false
open Go Go.Am

end Go.Proofs.Ytgobbmdbkmjlnaa
/-
  Packets that are cut anew: sizes, and where fields end.
-/
namespace Go.Proofs.Ytgobbmdbkmjlnaa
set_option linter.unusedVariables false
set_option linter.unusedSimpArgs false
open Go Go.Am

theorem As10 (p : Pk) (σ : AHeap) : ACalls Try.prog i_bowlinelaw10_As [amV p] σ fun v σ' => v = amV p ∧ σ' = σ := by
  refine k_bowlinelaw10_As rfl ?_
  have H := Hp.nil σ
  (refine wX ?_)
  refine hnew H rfl ?_
  clear H
  intro i1 τ H
  (refine wX ?_)
  refine hnew H rfl ?_
  clear H
  intro i2 τ H
  (refine wX ?_)
  (repeat ((first | refine zI (by omega) ?_ | refine zE (by omega) (by omega) ?_ | refine zD (by omega) (by omega) ?_ | refine zY (by omega) ?_ | refine zN (by omega) ?_ | refine amin ?_ | refine amax ?_ | refine zU (by omega) ?_ | refine z8 (by omega) ?_ | refine zX (by omega) (by omega) ?_ | refine zR rfl ?_ | refine acellA ?_ | (apply zL H; (· repeat first | exact .h | apply AtK.t); (· rfl)) | (apply zA H; (· repeat first | exact .h | apply AtK.t)) | (apply zS H; (· repeat first | exact .h | apply AtK.t); (· rfl); (conv => whnf); clear H; intro τ H) | rw [List.length_map]); (refine wX ?_)))
  exact aret (VLe.refl _) H.sub ⟨rfl, rfl⟩
end Go.Proofs.Ytgobbmdbkmjlnaa
