/-
  Texts of this claim, pack 7: Clawspd, Cref03c, Crel03.
-/
import Derived.Test.YtghbcleokmcdeaaK5
import Derived.Test.YtghbcleokmcdeaaK6
/-
  The statements of spans: what is there and the gaps, told by the statement.
-/
namespace Go.Proofs.Ytghbcleokmcdeaa
set_option linter.unusedVariables false
set_option linter.unusedSimpArgs false
open Go Go.Am

def insV (to : Int) (l : List Sp) : Int := if 1 ≤ to ∧ to ≤ 65536 then inL to l else 0
theorem insV_take {to : Int} {l : List Sp} {i : Nat} (h : i < l.length) : insV to (l.take (i + 1)) = insV to (l.take i) + (if 1 ≤ to ∧ to ≤ 65536 then (if l[i].1 < to then min l[i].2 to - l[i].1 else 0) else 0) := by
  unfold insV
  split
  · exact in_take h
  · rfl
theorem SOk.part {l : List Sp} (h : SOk l) (i : Nat) : SOk (l.take i) := ⟨Nrm.init (m := l.drop i) (by rw [List.take_append_drop]; exact h.n), by have := h.k; rw [List.length_take]; omega⟩
theorem SOk.gaps {l : List Sp} (h : SOk l) {to : Int} (ht : 1 ≤ to ∧ to ≤ 65536) : (gapsV to l).length ≤ 2049 ∧ Nrm (-1) (gapsV to l) ∧ (∀ y ∈ gapsV to l, spRight y = true ∧ y.2 ≤ to ∧ tchS y l = false) ∧ cntL (gapsV to l) + insV to l = to := by
  unfold gapsV insV
  rw [if_pos ht, if_pos ht]
  obtain ⟨h1, h2⟩ := gapsL_spec (to := to) ht.2 (k := 0) (l := l) h.n
  refine ⟨by have := gapsL_len (to := to) (l := l) (k := 0); have := h.k; omega, h1, fun y hy => ?_, ?_⟩
  · have q := h1.mem hy
    have q2 := ((h2 (y.2 - 1)).1 ⟨y, hy, by omega, by omega⟩).2.1
    refine ⟨spRight_iff.2 (by omega), by omega, ?_⟩
    rw [Bool.eq_false_iff]
    intro k
    obtain ⟨_, p, a, b, c⟩ := (tchS_iff h).1 k
    exact ((h2 p).1 ⟨y, hy, a, b⟩).2.2 c
  · rw [gaps_all h.n, if_pos (by omega)]; omega
set_option maxRecDepth 20000 in
set_option maxHeartbeats 8000000 in
theorem SpansOrder (ops : List (Bool × (Int × Int))) (to : Int) (σ : AHeap) (hl : ops.length ≤ 9223372036854775000) : ACalls Try.prog i_bowlinelaw03_SpansOrder [.slice 3 (ops.map spo) .none, i64v to] σ fun v σ' => v = boolv true ∧ σ' = σ := by
  refine k_bowlinelaw03_SpansOrder rfl ?_
  have H := Hp.nil σ
  ((conv => whnf); (repeat ((first | with_reducible (first | refine zT rfl ?_ | refine zF rfl ?_ | refine zY rfl ?_) | refine zY (by decide) ?_ | refine zN (by decide) ?_ | with_reducible refine zQ ?_); (conv => whnf))))
  refine acall (sNew0 σ) ?_
  rintro _ τ ⟨is, u, rfl, N⟩
  refine ⟨?_, N.ext⟩
  replace H := H.join N
  clear N
  ((conv => whnf); (repeat ((first | with_reducible (first | refine zT rfl ?_ | refine zF rfl ?_ | refine zY rfl ?_) | refine zY (by decide) ?_ | refine zN (by decide) ?_ | with_reducible refine zQ ?_); (conv => whnf))))
  (repeat ((first | refine zI (by omega) ?_ | refine zE (by omega) (by omega) ?_ | refine zD (by omega) (by omega) ?_ | refine zY (by omega) ?_ | refine zN (by omega) ?_ | refine amin ?_ | refine amax ?_ | refine zU (by omega) ?_ | refine z8 (by omega) ?_ | refine zX (by omega) (by omega) ?_ | refine zR rfl ?_ | refine acellA ?_ | refine zB H b1 rfl ?_ | refine zC H b1 ?_ | refine zB H b2 rfl ?_ | refine zC H b2 ?_ | refine zB H b3 rfl ?_ | refine zC H b3 ?_ | refine zB H b4 rfl ?_ | refine zC H b4 ?_ | (apply zL H; (· repeat first | exact .h | apply AtK.t); (· rfl)) | (apply zA H; (· repeat first | exact .h | apply AtK.t)) | (apply zS H; (· repeat first | exact .h | apply AtK.t); (· rfl); (conv => whnf); clear H; intro τ H) | rw [List.length_map]); ((conv => whnf); (repeat ((first | with_reducible (first | refine zT rfl ?_ | refine zF rfl ?_ | refine zY rfl ?_) | refine zY (by decide) ?_ | refine zN (by decide) ?_ | with_reducible refine zQ ?_); (conv => whnf))))))
  replace H : Hp σ [.o is (.cells [spL u []])] τ := H
  refine aloop (α := Nat × List Sp × Tok × AHeap) (fun y => [(s7, i64v y.1)]) (fun y => y.2.2.2) (fun y => y.1 ≤ ops.length ∧ SOk y.2.1 ∧ Hp σ [.o is (.cells [spL y.2.2.1 y.2.1])] y.2.2.2) (fun y => ops.length - y.1)
    (0, [], u, τ) ⟨Nat.zero_le _, .nil, H⟩ (Sub.refl _) ?_ ?_
  · ((conv => whnf); (repeat ((first | with_reducible (first | refine zT rfl ?_ | refine zF rfl ?_ | refine zY rfl ?_) | refine zY (by decide) ?_ | refine zN (by decide) ?_ | with_reducible refine zQ ?_); (conv => whnf))))
    (repeat' first | with_reducible exact EnvLe.refl _ | (refine EnvLe.node ?_ (by first | exact Or.inl rfl | exact Or.inr (Or.inl rfl) | exact Or.inr (Or.inr ⟨nofun, VLe.slice _ _ _⟩)) ?_))
  clear H
  rintro ⟨i, l, u, τ⟩ ⟨hi, ka, H⟩
  dsimp only at hi ka H ⊢
  by_cases h : i < ops.length ∧ i < 200
  · ((conv => whnf); (repeat ((first | with_reducible (first | refine zT rfl ?_ | refine zF rfl ?_ | refine zY rfl ?_) | refine zY (by decide) ?_ | refine zN (by decide) ?_ | with_reducible refine zQ ?_); (conv => whnf))))
    (repeat ((first | refine zI (by omega) ?_ | refine zE (by omega) (by omega) ?_ | refine zD (by omega) (by omega) ?_ | refine zY (by omega) ?_ | refine zN (by omega) ?_ | refine amin ?_ | refine amax ?_ | refine zU (by omega) ?_ | refine z8 (by omega) ?_ | refine zX (by omega) (by omega) ?_ | refine zR rfl ?_ | refine acellA ?_ | refine zB H b1 rfl ?_ | refine zC H b1 ?_ | refine zB H b2 rfl ?_ | refine zC H b2 ?_ | refine zB H b3 rfl ?_ | refine zC H b3 ?_ | refine zB H b4 rfl ?_ | refine zC H b4 ?_ | (apply zL H; (· repeat first | exact .h | apply AtK.t); (· rfl)) | (apply zA H; (· repeat first | exact .h | apply AtK.t)) | (apply zS H; (· repeat first | exact .h | apply AtK.t); (· rfl); (conv => whnf); clear H; intro τ H) | rw [List.length_map]); ((conv => whnf); (repeat ((first | with_reducible (first | refine zT rfl ?_ | refine zF rfl ?_ | refine zY rfl ?_) | refine zY (by decide) ?_ | refine zN (by decide) ?_ | with_reducible refine zQ ?_); (conv => whnf))))))
    refine aget (by omega) (get_spo rfl h.1) ?_
    ((conv => whnf); (repeat ((first | with_reducible (first | refine zT rfl ?_ | refine zF rfl ?_ | refine zY rfl ?_) | refine zY (by decide) ?_ | refine zN (by decide) ?_ | with_reducible refine zQ ?_); (conv => whnf))))
    (repeat ((first | refine zI (by omega) ?_ | refine zE (by omega) (by omega) ?_ | refine zD (by omega) (by omega) ?_ | refine zY (by omega) ?_ | refine zN (by omega) ?_ | refine amin ?_ | refine amax ?_ | refine zU (by omega) ?_ | refine z8 (by omega) ?_ | refine zX (by omega) (by omega) ?_ | refine zR rfl ?_ | refine acellA ?_ | refine zB H b1 rfl ?_ | refine zC H b1 ?_ | refine zB H b2 rfl ?_ | refine zC H b2 ?_ | refine zB H b3 rfl ?_ | refine zC H b3 ?_ | refine zB H b4 rfl ?_ | refine zC H b4 ?_ | (apply zL H; (· repeat first | exact .h | apply AtK.t); (· rfl)) | (apply zA H; (· repeat first | exact .h | apply AtK.t)) | (apply zS H; (· repeat first | exact .h | apply AtK.t); (· rfl); (conv => whnf); clear H; intro τ H) | rw [List.length_map]); ((conv => whnf); (repeat ((first | with_reducible (first | refine zT rfl ?_ | refine zF rfl ?_ | refine zY rfl ?_) | refine zY (by decide) ?_ | refine zN (by decide) ?_ | with_reducible refine zQ ?_); (conv => whnf))))))
    cases ho : ops[i].1
    · ((conv => whnf); (repeat ((first | with_reducible (first | refine zT rfl ?_ | refine zF rfl ?_ | refine zY rfl ?_) | refine zY (by decide) ?_ | refine zN (by decide) ?_ | with_reducible refine zQ ?_); (conv => whnf))))
      refine aget (by omega) (get_spo rfl h.1) ?_
      ((conv => whnf); (repeat ((first | with_reducible (first | refine zT rfl ?_ | refine zF rfl ?_ | refine zY rfl ?_) | refine zY (by decide) ?_ | refine zN (by decide) ?_ | with_reducible refine zQ ?_); (conv => whnf))))
      (repeat ((first | refine zI (by omega) ?_ | refine zE (by omega) (by omega) ?_ | refine zD (by omega) (by omega) ?_ | refine zY (by omega) ?_ | refine zN (by omega) ?_ | refine amin ?_ | refine amax ?_ | refine zU (by omega) ?_ | refine z8 (by omega) ?_ | refine zX (by omega) (by omega) ?_ | refine zR rfl ?_ | refine acellA ?_ | refine zB H b1 rfl ?_ | refine zC H b1 ?_ | refine zB H b2 rfl ?_ | refine zC H b2 ?_ | refine zB H b3 rfl ?_ | refine zC H b3 ?_ | refine zB H b4 rfl ?_ | refine zC H b4 ?_ | (apply zL H; (· repeat first | exact .h | apply AtK.t); (· rfl)) | (apply zA H; (· repeat first | exact .h | apply AtK.t)) | (apply zS H; (· repeat first | exact .h | apply AtK.t); (· rfl); (conv => whnf); clear H; intro τ H) | rw [List.length_map]); ((conv => whnf); (repeat ((first | with_reducible (first | refine zT rfl ?_ | refine zF rfl ?_ | refine zY rfl ?_) | refine zY (by decide) ?_ | refine zN (by decide) ?_ | with_reducible refine zQ ?_); (conv => whnf))))))
      refine acall (sAdd H ops[i].2 ka.small) ?_
      clear H
      rintro _ τ ⟨rfl, u, H⟩
      ((conv => whnf); (repeat ((first | with_reducible (first | refine zT rfl ?_ | refine zF rfl ?_ | refine zY rfl ?_) | refine zY (by decide) ?_ | refine zN (by decide) ?_ | with_reducible refine zQ ?_); (conv => whnf))))
      (repeat ((first | refine zI (by omega) ?_ | refine zE (by omega) (by omega) ?_ | refine zD (by omega) (by omega) ?_ | refine zY (by omega) ?_ | refine zN (by omega) ?_ | refine amin ?_ | refine amax ?_ | refine zU (by omega) ?_ | refine z8 (by omega) ?_ | refine zX (by omega) (by omega) ?_ | refine zR rfl ?_ | refine acellA ?_ | refine zB H b1 rfl ?_ | refine zC H b1 ?_ | refine zB H b2 rfl ?_ | refine zC H b2 ?_ | refine zB H b3 rfl ?_ | refine zC H b3 ?_ | refine zB H b4 rfl ?_ | refine zC H b4 ?_ | (apply zL H; (· repeat first | exact .h | apply AtK.t); (· rfl)) | (apply zA H; (· repeat first | exact .h | apply AtK.t)) | (apply zS H; (· repeat first | exact .h | apply AtK.t); (· rfl); (conv => whnf); clear H; intro τ H) | rw [List.length_map]); ((conv => whnf); (repeat ((first | with_reducible (first | refine zT rfl ?_ | refine zF rfl ?_ | refine zY rfl ?_) | refine zY (by decide) ?_ | refine zN (by decide) ?_ | with_reducible refine zQ ?_); (conv => whnf))))))
      refine ⟨(i + 1, addS ops[i].2 l, u, τ), ⟨h.1, ka.add _, H⟩, by dsimp only; omega, Sub.refl _, ?_⟩
      ((conv => whnf); (repeat ((first | with_reducible (first | refine zT rfl ?_ | refine zF rfl ?_ | refine zY rfl ?_) | refine zY (by decide) ?_ | refine zN (by decide) ?_ | with_reducible refine zQ ?_); (conv => whnf))))
      (repeat' first | with_reducible exact EnvLe.refl _ | (refine EnvLe.node ?_ (by first | exact Or.inl rfl | exact Or.inr (Or.inl rfl) | exact Or.inr (Or.inr ⟨nofun, VLe.slice _ _ _⟩)) ?_))
    · ((conv => whnf); (repeat ((first | with_reducible (first | refine zT rfl ?_ | refine zF rfl ?_ | refine zY rfl ?_) | refine zY (by decide) ?_ | refine zN (by decide) ?_ | with_reducible refine zQ ?_); (conv => whnf))))
      refine aget (by omega) (get_spo rfl h.1) ?_
      ((conv => whnf); (repeat ((first | with_reducible (first | refine zT rfl ?_ | refine zF rfl ?_ | refine zY rfl ?_) | refine zY (by decide) ?_ | refine zN (by decide) ?_ | with_reducible refine zQ ?_); (conv => whnf))))
      (repeat ((first | refine zI (by omega) ?_ | refine zE (by omega) (by omega) ?_ | refine zD (by omega) (by omega) ?_ | refine zY (by omega) ?_ | refine zN (by omega) ?_ | refine amin ?_ | refine amax ?_ | refine zU (by omega) ?_ | refine z8 (by omega) ?_ | refine zX (by omega) (by omega) ?_ | refine zR rfl ?_ | refine acellA ?_ | refine zB H b1 rfl ?_ | refine zC H b1 ?_ | refine zB H b2 rfl ?_ | refine zC H b2 ?_ | refine zB H b3 rfl ?_ | refine zC H b3 ?_ | refine zB H b4 rfl ?_ | refine zC H b4 ?_ | (apply zL H; (· repeat first | exact .h | apply AtK.t); (· rfl)) | (apply zA H; (· repeat first | exact .h | apply AtK.t)) | (apply zS H; (· repeat first | exact .h | apply AtK.t); (· rfl); (conv => whnf); clear H; intro τ H) | rw [List.length_map]); ((conv => whnf); (repeat ((first | with_reducible (first | refine zT rfl ?_ | refine zF rfl ?_ | refine zY rfl ?_) | refine zY (by decide) ?_ | refine zN (by decide) ?_ | with_reducible refine zQ ?_); (conv => whnf))))))
      refine acall (sTake H ops[i].2 ka.small) ?_
      clear H
      rintro _ τ ⟨rfl, u, H⟩
      ((conv => whnf); (repeat ((first | with_reducible (first | refine zT rfl ?_ | refine zF rfl ?_ | refine zY rfl ?_) | refine zY (by decide) ?_ | refine zN (by decide) ?_ | with_reducible refine zQ ?_); (conv => whnf))))
      (repeat ((first | refine zI (by omega) ?_ | refine zE (by omega) (by omega) ?_ | refine zD (by omega) (by omega) ?_ | refine zY (by omega) ?_ | refine zN (by omega) ?_ | refine amin ?_ | refine amax ?_ | refine zU (by omega) ?_ | refine z8 (by omega) ?_ | refine zX (by omega) (by omega) ?_ | refine zR rfl ?_ | refine acellA ?_ | refine zB H b1 rfl ?_ | refine zC H b1 ?_ | refine zB H b2 rfl ?_ | refine zC H b2 ?_ | refine zB H b3 rfl ?_ | refine zC H b3 ?_ | refine zB H b4 rfl ?_ | refine zC H b4 ?_ | (apply zL H; (· repeat first | exact .h | apply AtK.t); (· rfl)) | (apply zA H; (· repeat first | exact .h | apply AtK.t)) | (apply zS H; (· repeat first | exact .h | apply AtK.t); (· rfl); (conv => whnf); clear H; intro τ H) | rw [List.length_map]); ((conv => whnf); (repeat ((first | with_reducible (first | refine zT rfl ?_ | refine zF rfl ?_ | refine zY rfl ?_) | refine zY (by decide) ?_ | refine zN (by decide) ?_ | with_reducible refine zQ ?_); (conv => whnf))))))
      refine ⟨(i + 1, takS ops[i].2 l, u, τ), ⟨h.1, ka.tak _, H⟩, by dsimp only; omega, Sub.refl _, ?_⟩
      ((conv => whnf); (repeat ((first | with_reducible (first | refine zT rfl ?_ | refine zF rfl ?_ | refine zY rfl ?_) | refine zY (by decide) ?_ | refine zN (by decide) ?_ | with_reducible refine zQ ?_); (conv => whnf))))
      (repeat' first | with_reducible exact EnvLe.refl _ | (refine EnvLe.node ?_ (by first | exact Or.inl rfl | exact Or.inr (Or.inl rfl) | exact Or.inr (Or.inr ⟨nofun, VLe.slice _ _ _⟩)) ?_))
  · by_cases h' : i < ops.length
    all_goals
      ((conv => whnf); (repeat ((first | with_reducible (first | refine zT rfl ?_ | refine zF rfl ?_ | refine zY rfl ?_) | refine zY (by decide) ?_ | refine zN (by decide) ?_ | with_reducible refine zQ ?_); (conv => whnf))))
      (repeat ((first | refine zI (by omega) ?_ | refine zE (by omega) (by omega) ?_ | refine zD (by omega) (by omega) ?_ | refine zY (by omega) ?_ | refine zN (by omega) ?_ | refine amin ?_ | refine amax ?_ | refine zU (by omega) ?_ | refine z8 (by omega) ?_ | refine zX (by omega) (by omega) ?_ | refine zR rfl ?_ | refine acellA ?_ | refine zB H b1 rfl ?_ | refine zC H b1 ?_ | refine zB H b2 rfl ?_ | refine zC H b2 ?_ | refine zB H b3 rfl ?_ | refine zC H b3 ?_ | refine zB H b4 rfl ?_ | refine zC H b4 ?_ | (apply zL H; (· repeat first | exact .h | apply AtK.t); (· rfl)) | (apply zA H; (· repeat first | exact .h | apply AtK.t)) | (apply zS H; (· repeat first | exact .h | apply AtK.t); (· rfl); (conv => whnf); clear H; intro τ H) | rw [List.length_map]); ((conv => whnf); (repeat ((first | with_reducible (first | refine zT rfl ?_ | refine zF rfl ?_ | refine zY rfl ?_) | refine zY (by decide) ?_ | refine zN (by decide) ?_ | with_reducible refine zQ ?_); (conv => whnf))))))
      refine acall (sSpans (H.get (k := 0) rfl) ka.mid) ?_
      rintro _ υ ⟨tl, hw, rfl⟩
      refine ⟨?_, hw.ext⟩
      replace H := (H.owned hw).tail
      clear hw
      have kk := ka.k
      ((conv => whnf); (repeat ((first | with_reducible (first | refine zT rfl ?_ | refine zF rfl ?_ | refine zY rfl ?_) | refine zY (by decide) ?_ | refine zN (by decide) ?_ | with_reducible refine zQ ?_); (conv => whnf))))
      (repeat ((first | refine zI (by omega) ?_ | refine zE (by omega) (by omega) ?_ | refine zD (by omega) (by omega) ?_ | refine zY (by omega) ?_ | refine zN (by omega) ?_ | refine amin ?_ | refine amax ?_ | refine zU (by omega) ?_ | refine z8 (by omega) ?_ | refine zX (by omega) (by omega) ?_ | refine zR rfl ?_ | refine acellA ?_ | refine zB H b1 rfl ?_ | refine zC H b1 ?_ | refine zB H b2 rfl ?_ | refine zC H b2 ?_ | refine zB H b3 rfl ?_ | refine zC H b3 ?_ | refine zB H b4 rfl ?_ | refine zC H b4 ?_ | (apply zL H; (· repeat first | exact .h | apply AtK.t); (· rfl)) | (apply zA H; (· repeat first | exact .h | apply AtK.t)) | (apply zS H; (· repeat first | exact .h | apply AtK.t); (· rfl); (conv => whnf); clear H; intro τ H) | rw [List.length_map]); ((conv => whnf); (repeat ((first | with_reducible (first | refine zT rfl ?_ | refine zF rfl ?_ | refine zY rfl ?_) | refine zY (by decide) ?_ | refine zN (by decide) ?_ | with_reducible refine zQ ?_); (conv => whnf))))))
      refine aloop (α := Nat) (fun i => [(s11, i64v i), (s9, i64v (cntL (l.take i))), (s10, i64v (insV to (l.take i)))]) (fun _ => υ) (fun i => i ≤ l.length ∧ 0 ≤ insV to (l.take i) ∧ insV to (l.take i) ≤ 65536 * i) (fun i => l.length - i) 0 ⟨Nat.zero_le _, by unfold insV; split <;> exact Int.le_refl _, by unfold insV; split <;> exact Int.le_refl _⟩ (Sub.refl _) ?_ ?_
      · rw [show insV to (l.take 0) = 0 by unfold insV; split <;> rfl]
        ((conv => whnf); (repeat ((first | with_reducible (first | refine zT rfl ?_ | refine zF rfl ?_ | refine zY rfl ?_) | refine zY (by decide) ?_ | refine zN (by decide) ?_ | with_reducible refine zQ ?_); (conv => whnf))))
        (repeat' first | with_reducible exact EnvLe.refl _ | (refine EnvLe.node ?_ (by first | exact Or.inl rfl | exact Or.inr (Or.inl rfl) | exact Or.inr (Or.inr ⟨nofun, VLe.slice _ _ _⟩)) ?_))
      rintro j ⟨hj, n0, n1⟩
      have kj := (ka.part j).cnt_le
      ((conv => whnf); (repeat ((first | with_reducible (first | refine zT rfl ?_ | refine zF rfl ?_ | refine zY rfl ?_) | refine zY (by decide) ?_ | refine zN (by decide) ?_ | with_reducible refine zQ ?_); (conv => whnf))))
      by_cases h : j < l.length
      · have e1 := cnt_take h
        have e2 := insV_take (to := to) h
        have q := ka.n.mem (List.getElem_mem h)
        have e1' : cntL (l.take (j + 1)) = cntL (l.take j) + l[j].2 - l[j].1 := by omega
        (repeat ((first | refine zI (by omega) ?_ | refine zE (by omega) (by omega) ?_ | refine zD (by omega) (by omega) ?_ | refine zY (by omega) ?_ | refine zN (by omega) ?_ | refine amin ?_ | refine amax ?_ | refine zU (by omega) ?_ | refine z8 (by omega) ?_ | refine zX (by omega) (by omega) ?_ | refine zR rfl ?_ | refine acellA ?_ | refine zB H b1 rfl ?_ | refine zC H b1 ?_ | refine zB H b2 rfl ?_ | refine zC H b2 ?_ | refine zB H b3 rfl ?_ | refine zC H b3 ?_ | refine zB H b4 rfl ?_ | refine zC H b4 ?_ | (apply zL H; (· repeat first | exact .h | apply AtK.t); (· rfl)) | (apply zA H; (· repeat first | exact .h | apply AtK.t)) | (apply zS H; (· repeat first | exact .h | apply AtK.t); (· rfl); (conv => whnf); clear H; intro τ H) | rw [List.length_map]); ((conv => whnf); (repeat ((first | with_reducible (first | refine zT rfl ?_ | refine zF rfl ?_ | refine zY rfl ?_) | refine zY (by decide) ?_ | refine zN (by decide) ?_ | with_reducible refine zQ ?_); (conv => whnf))))))
        refine aget (by omega) (get_spn rfl h) ?_
        ((conv => whnf); (repeat ((first | with_reducible (first | refine zT rfl ?_ | refine zF rfl ?_ | refine zY rfl ?_) | refine zY (by decide) ?_ | refine zN (by decide) ?_ | with_reducible refine zQ ?_); (conv => whnf))))
        (repeat ((first | refine zI (by omega) ?_ | refine zE (by omega) (by omega) ?_ | refine zD (by omega) (by omega) ?_ | refine zY (by omega) ?_ | refine zN (by omega) ?_ | refine amin ?_ | refine amax ?_ | refine zU (by omega) ?_ | refine z8 (by omega) ?_ | refine zX (by omega) (by omega) ?_ | refine zR rfl ?_ | refine acellA ?_ | refine zB H b1 rfl ?_ | refine zC H b1 ?_ | refine zB H b2 rfl ?_ | refine zC H b2 ?_ | refine zB H b3 rfl ?_ | refine zC H b3 ?_ | refine zB H b4 rfl ?_ | refine zC H b4 ?_ | (apply zL H; (· repeat first | exact .h | apply AtK.t); (· rfl)) | (apply zA H; (· repeat first | exact .h | apply AtK.t)) | (apply zS H; (· repeat first | exact .h | apply AtK.t); (· rfl); (conv => whnf); clear H; intro τ H) | rw [List.length_map]); ((conv => whnf); (repeat ((first | with_reducible (first | refine zT rfl ?_ | refine zF rfl ?_ | refine zY rfl ?_) | refine zY (by decide) ?_ | refine zN (by decide) ?_ | with_reducible refine zQ ?_); (conv => whnf))))))
        refine acall (sRight l[j] υ) ?_
        rintro _ σ_ ⟨rfl, e_⟩
        obtain rfl := e_.symm
        refine ⟨?_, Ext.refl _⟩
        ((conv => whnf); (repeat ((first | with_reducible (first | refine zT rfl ?_ | refine zF rfl ?_ | refine zY rfl ?_) | refine zY (by decide) ?_ | refine zN (by decide) ?_ | with_reducible refine zQ ?_); (conv => whnf))))
        rw [spRight_iff.2 (by omega)]
        ((conv => whnf); (repeat ((first | with_reducible (first | refine zT rfl ?_ | refine zF rfl ?_ | refine zY rfl ?_) | refine zY (by decide) ?_ | refine zN (by decide) ?_ | with_reducible refine zQ ?_); (conv => whnf))))
        (repeat ((first | refine zI (by omega) ?_ | refine zE (by omega) (by omega) ?_ | refine zD (by omega) (by omega) ?_ | refine zY (by omega) ?_ | refine zN (by omega) ?_ | refine amin ?_ | refine amax ?_ | refine zU (by omega) ?_ | refine z8 (by omega) ?_ | refine zX (by omega) (by omega) ?_ | refine zR rfl ?_ | refine acellA ?_ | refine zB H b1 rfl ?_ | refine zC H b1 ?_ | refine zB H b2 rfl ?_ | refine zC H b2 ?_ | refine zB H b3 rfl ?_ | refine zC H b3 ?_ | refine zB H b4 rfl ?_ | refine zC H b4 ?_ | (apply zL H; (· repeat first | exact .h | apply AtK.t); (· rfl)) | (apply zA H; (· repeat first | exact .h | apply AtK.t)) | (apply zS H; (· repeat first | exact .h | apply AtK.t); (· rfl); (conv => whnf); clear H; intro τ H) | rw [List.length_map]); ((conv => whnf); (repeat ((first | with_reducible (first | refine zT rfl ?_ | refine zF rfl ?_ | refine zY rfl ?_) | refine zY (by decide) ?_ | refine zN (by decide) ?_ | with_reducible refine zQ ?_); (conv => whnf))))))
        have hadj : 0 < j → ∃ h' : j - 1 < l.length, l[j - 1].2 < l[j].1 := fun h0 => ⟨by omega, by
          have adj := ka.n.adj (i := j - 1) (by omega)
          rw [show l[j - 1 + 1] = l[j] by congr 1; omega] at adj
          exact adj⟩
        by_cases hj0 : j > 0
        · obtain ⟨hj1, adj⟩ := hadj hj0
          (repeat ((first | refine zI (by omega) ?_ | refine zE (by omega) (by omega) ?_ | refine zD (by omega) (by omega) ?_ | refine zY (by omega) ?_ | refine zN (by omega) ?_ | refine amin ?_ | refine amax ?_ | refine zU (by omega) ?_ | refine z8 (by omega) ?_ | refine zX (by omega) (by omega) ?_ | refine zR rfl ?_ | refine acellA ?_ | refine zB H b1 rfl ?_ | refine zC H b1 ?_ | refine zB H b2 rfl ?_ | refine zC H b2 ?_ | refine zB H b3 rfl ?_ | refine zC H b3 ?_ | refine zB H b4 rfl ?_ | refine zC H b4 ?_ | (apply zL H; (· repeat first | exact .h | apply AtK.t); (· rfl)) | (apply zA H; (· repeat first | exact .h | apply AtK.t)) | (apply zS H; (· repeat first | exact .h | apply AtK.t); (· rfl); (conv => whnf); clear H; intro τ H) | rw [List.length_map]); ((conv => whnf); (repeat ((first | with_reducible (first | refine zT rfl ?_ | refine zF rfl ?_ | refine zY rfl ?_) | refine zY (by decide) ?_ | refine zN (by decide) ?_ | with_reducible refine zQ ?_); (conv => whnf))))))
          refine aget (by omega) (get_spn (i := j - 1) (by omega) hj1) ?_
          ((conv => whnf); (repeat ((first | with_reducible (first | refine zT rfl ?_ | refine zF rfl ?_ | refine zY rfl ?_) | refine zY (by decide) ?_ | refine zN (by decide) ?_ | with_reducible refine zQ ?_); (conv => whnf))))
          (repeat ((first | refine zI (by omega) ?_ | refine zE (by omega) (by omega) ?_ | refine zD (by omega) (by omega) ?_ | refine zY (by omega) ?_ | refine zN (by omega) ?_ | refine amin ?_ | refine amax ?_ | refine zU (by omega) ?_ | refine z8 (by omega) ?_ | refine zX (by omega) (by omega) ?_ | refine zR rfl ?_ | refine acellA ?_ | refine zB H b1 rfl ?_ | refine zC H b1 ?_ | refine zB H b2 rfl ?_ | refine zC H b2 ?_ | refine zB H b3 rfl ?_ | refine zC H b3 ?_ | refine zB H b4 rfl ?_ | refine zC H b4 ?_ | (apply zL H; (· repeat first | exact .h | apply AtK.t); (· rfl)) | (apply zA H; (· repeat first | exact .h | apply AtK.t)) | (apply zS H; (· repeat first | exact .h | apply AtK.t); (· rfl); (conv => whnf); clear H; intro τ H) | rw [List.length_map]); ((conv => whnf); (repeat ((first | with_reducible (first | refine zT rfl ?_ | refine zF rfl ?_ | refine zY rfl ?_) | refine zY (by decide) ?_ | refine zN (by decide) ?_ | with_reducible refine zQ ?_); (conv => whnf))))))
          refine aget (by omega) (get_spn rfl h) ?_
          ((conv => whnf); (repeat ((first | with_reducible (first | refine zT rfl ?_ | refine zF rfl ?_ | refine zY rfl ?_) | refine zY (by decide) ?_ | refine zN (by decide) ?_ | with_reducible refine zQ ?_); (conv => whnf))))
          (repeat ((first | refine zI (by omega) ?_ | refine zE (by omega) (by omega) ?_ | refine zD (by omega) (by omega) ?_ | refine zY (by omega) ?_ | refine zN (by omega) ?_ | refine amin ?_ | refine amax ?_ | refine zU (by omega) ?_ | refine z8 (by omega) ?_ | refine zX (by omega) (by omega) ?_ | refine zR rfl ?_ | refine acellA ?_ | refine zB H b1 rfl ?_ | refine zC H b1 ?_ | refine zB H b2 rfl ?_ | refine zC H b2 ?_ | refine zB H b3 rfl ?_ | refine zC H b3 ?_ | refine zB H b4 rfl ?_ | refine zC H b4 ?_ | (apply zL H; (· repeat first | exact .h | apply AtK.t); (· rfl)) | (apply zA H; (· repeat first | exact .h | apply AtK.t)) | (apply zS H; (· repeat first | exact .h | apply AtK.t); (· rfl); (conv => whnf); clear H; intro τ H) | rw [List.length_map]); ((conv => whnf); (repeat ((first | with_reducible (first | refine zT rfl ?_ | refine zF rfl ?_ | refine zY rfl ?_) | refine zY (by decide) ?_ | refine zN (by decide) ?_ | with_reducible refine zQ ?_); (conv => whnf))))))
          refine aget (by omega) (get_spn rfl h) ?_
          ((conv => whnf); (repeat ((first | with_reducible (first | refine zT rfl ?_ | refine zF rfl ?_ | refine zY rfl ?_) | refine zY (by decide) ?_ | refine zN (by decide) ?_ | with_reducible refine zQ ?_); (conv => whnf))))
          (repeat ((first | refine zI (by omega) ?_ | refine zE (by omega) (by omega) ?_ | refine zD (by omega) (by omega) ?_ | refine zY (by omega) ?_ | refine zN (by omega) ?_ | refine amin ?_ | refine amax ?_ | refine zU (by omega) ?_ | refine z8 (by omega) ?_ | refine zX (by omega) (by omega) ?_ | refine zR rfl ?_ | refine acellA ?_ | refine zB H b1 rfl ?_ | refine zC H b1 ?_ | refine zB H b2 rfl ?_ | refine zC H b2 ?_ | refine zB H b3 rfl ?_ | refine zC H b3 ?_ | refine zB H b4 rfl ?_ | refine zC H b4 ?_ | (apply zL H; (· repeat first | exact .h | apply AtK.t); (· rfl)) | (apply zA H; (· repeat first | exact .h | apply AtK.t)) | (apply zS H; (· repeat first | exact .h | apply AtK.t); (· rfl); (conv => whnf); clear H; intro τ H) | rw [List.length_map]); ((conv => whnf); (repeat ((first | with_reducible (first | refine zT rfl ?_ | refine zF rfl ?_ | refine zY rfl ?_) | refine zY (by decide) ?_ | refine zN (by decide) ?_ | with_reducible refine zQ ?_); (conv => whnf))))))
          refine aget (by omega) (get_spn rfl h) ?_
          ((conv => whnf); (repeat ((first | with_reducible (first | refine zT rfl ?_ | refine zF rfl ?_ | refine zY rfl ?_) | refine zY (by decide) ?_ | refine zN (by decide) ?_ | with_reducible refine zQ ?_); (conv => whnf))))
          (repeat ((first | refine zI (by omega) ?_ | refine zE (by omega) (by omega) ?_ | refine zD (by omega) (by omega) ?_ | refine zY (by omega) ?_ | refine zN (by omega) ?_ | refine amin ?_ | refine amax ?_ | refine zU (by omega) ?_ | refine z8 (by omega) ?_ | refine zX (by omega) (by omega) ?_ | refine zR rfl ?_ | refine acellA ?_ | refine zB H b1 rfl ?_ | refine zC H b1 ?_ | refine zB H b2 rfl ?_ | refine zC H b2 ?_ | refine zB H b3 rfl ?_ | refine zC H b3 ?_ | refine zB H b4 rfl ?_ | refine zC H b4 ?_ | (apply zL H; (· repeat first | exact .h | apply AtK.t); (· rfl)) | (apply zA H; (· repeat first | exact .h | apply AtK.t)) | (apply zS H; (· repeat first | exact .h | apply AtK.t); (· rfl); (conv => whnf); clear H; intro τ H) | rw [List.length_map]); ((conv => whnf); (repeat ((first | with_reducible (first | refine zT rfl ?_ | refine zF rfl ?_ | refine zY rfl ?_) | refine zY (by decide) ?_ | refine zN (by decide) ?_ | with_reducible refine zQ ?_); (conv => whnf))))))
          by_cases h1 : 1 ≤ to
          · by_cases h2 : to ≤ 65536
            · (repeat ((first | refine zI (by omega) ?_ | refine zE (by omega) (by omega) ?_ | refine zD (by omega) (by omega) ?_ | refine zY (by omega) ?_ | refine zN (by omega) ?_ | refine amin ?_ | refine amax ?_ | refine zU (by omega) ?_ | refine z8 (by omega) ?_ | refine zX (by omega) (by omega) ?_ | refine zR rfl ?_ | refine acellA ?_ | refine zB H b1 rfl ?_ | refine zC H b1 ?_ | refine zB H b2 rfl ?_ | refine zC H b2 ?_ | refine zB H b3 rfl ?_ | refine zC H b3 ?_ | refine zB H b4 rfl ?_ | refine zC H b4 ?_ | (apply zL H; (· repeat first | exact .h | apply AtK.t); (· rfl)) | (apply zA H; (· repeat first | exact .h | apply AtK.t)) | (apply zS H; (· repeat first | exact .h | apply AtK.t); (· rfl); (conv => whnf); clear H; intro τ H) | rw [List.length_map]); ((conv => whnf); (repeat ((first | with_reducible (first | refine zT rfl ?_ | refine zF rfl ?_ | refine zY rfl ?_) | refine zY (by decide) ?_ | refine zN (by decide) ?_ | with_reducible refine zQ ?_); (conv => whnf))))))
              refine aget (by omega) (get_spn rfl h) ?_
              ((conv => whnf); (repeat ((first | with_reducible (first | refine zT rfl ?_ | refine zF rfl ?_ | refine zY rfl ?_) | refine zY (by decide) ?_ | refine zN (by decide) ?_ | with_reducible refine zQ ?_); (conv => whnf))))
              (repeat ((first | refine zI (by omega) ?_ | refine zE (by omega) (by omega) ?_ | refine zD (by omega) (by omega) ?_ | refine zY (by omega) ?_ | refine zN (by omega) ?_ | refine amin ?_ | refine amax ?_ | refine zU (by omega) ?_ | refine z8 (by omega) ?_ | refine zX (by omega) (by omega) ?_ | refine zR rfl ?_ | refine acellA ?_ | refine zB H b1 rfl ?_ | refine zC H b1 ?_ | refine zB H b2 rfl ?_ | refine zC H b2 ?_ | refine zB H b3 rfl ?_ | refine zC H b3 ?_ | refine zB H b4 rfl ?_ | refine zC H b4 ?_ | (apply zL H; (· repeat first | exact .h | apply AtK.t); (· rfl)) | (apply zA H; (· repeat first | exact .h | apply AtK.t)) | (apply zS H; (· repeat first | exact .h | apply AtK.t); (· rfl); (conv => whnf); clear H; intro τ H) | rw [List.length_map]); ((conv => whnf); (repeat ((first | with_reducible (first | refine zT rfl ?_ | refine zF rfl ?_ | refine zY rfl ?_) | refine zY (by decide) ?_ | refine zN (by decide) ?_ | with_reducible refine zQ ?_); (conv => whnf))))))
              by_cases h3 : l[j].1 < to
              · (repeat ((first | refine zI (by omega) ?_ | refine zE (by omega) (by omega) ?_ | refine zD (by omega) (by omega) ?_ | refine zY (by omega) ?_ | refine zN (by omega) ?_ | refine amin ?_ | refine amax ?_ | refine zU (by omega) ?_ | refine z8 (by omega) ?_ | refine zX (by omega) (by omega) ?_ | refine zR rfl ?_ | refine acellA ?_ | refine zB H b1 rfl ?_ | refine zC H b1 ?_ | refine zB H b2 rfl ?_ | refine zC H b2 ?_ | refine zB H b3 rfl ?_ | refine zC H b3 ?_ | refine zB H b4 rfl ?_ | refine zC H b4 ?_ | (apply zL H; (· repeat first | exact .h | apply AtK.t); (· rfl)) | (apply zA H; (· repeat first | exact .h | apply AtK.t)) | (apply zS H; (· repeat first | exact .h | apply AtK.t); (· rfl); (conv => whnf); clear H; intro τ H) | rw [List.length_map]); ((conv => whnf); (repeat ((first | with_reducible (first | refine zT rfl ?_ | refine zF rfl ?_ | refine zY rfl ?_) | refine zY (by decide) ?_ | refine zN (by decide) ?_ | with_reducible refine zQ ?_); (conv => whnf))))))
                refine aget (by omega) (get_spn rfl h) ?_
                ((conv => whnf); (repeat ((first | with_reducible (first | refine zT rfl ?_ | refine zF rfl ?_ | refine zY rfl ?_) | refine zY (by decide) ?_ | refine zN (by decide) ?_ | with_reducible refine zQ ?_); (conv => whnf))))
                (repeat ((first | refine zI (by omega) ?_ | refine zE (by omega) (by omega) ?_ | refine zD (by omega) (by omega) ?_ | refine zY (by omega) ?_ | refine zN (by omega) ?_ | refine amin ?_ | refine amax ?_ | refine zU (by omega) ?_ | refine z8 (by omega) ?_ | refine zX (by omega) (by omega) ?_ | refine zR rfl ?_ | refine acellA ?_ | refine zB H b1 rfl ?_ | refine zC H b1 ?_ | refine zB H b2 rfl ?_ | refine zC H b2 ?_ | refine zB H b3 rfl ?_ | refine zC H b3 ?_ | refine zB H b4 rfl ?_ | refine zC H b4 ?_ | (apply zL H; (· repeat first | exact .h | apply AtK.t); (· rfl)) | (apply zA H; (· repeat first | exact .h | apply AtK.t)) | (apply zS H; (· repeat first | exact .h | apply AtK.t); (· rfl); (conv => whnf); clear H; intro τ H) | rw [List.length_map]); ((conv => whnf); (repeat ((first | with_reducible (first | refine zT rfl ?_ | refine zF rfl ?_ | refine zY rfl ?_) | refine zY (by decide) ?_ | refine zN (by decide) ?_ | with_reducible refine zQ ?_); (conv => whnf))))))
                by_cases h4 : l[j].2 < to
                · (repeat ((first | refine zI (by omega) ?_ | refine zE (by omega) (by omega) ?_ | refine zD (by omega) (by omega) ?_ | refine zY (by omega) ?_ | refine zN (by omega) ?_ | refine amin ?_ | refine amax ?_ | refine zU (by omega) ?_ | refine z8 (by omega) ?_ | refine zX (by omega) (by omega) ?_ | refine zR rfl ?_ | refine acellA ?_ | refine zB H b1 rfl ?_ | refine zC H b1 ?_ | refine zB H b2 rfl ?_ | refine zC H b2 ?_ | refine zB H b3 rfl ?_ | refine zC H b3 ?_ | refine zB H b4 rfl ?_ | refine zC H b4 ?_ | (apply zL H; (· repeat first | exact .h | apply AtK.t); (· rfl)) | (apply zA H; (· repeat first | exact .h | apply AtK.t)) | (apply zS H; (· repeat first | exact .h | apply AtK.t); (· rfl); (conv => whnf); clear H; intro τ H) | rw [List.length_map]); ((conv => whnf); (repeat ((first | with_reducible (first | refine zT rfl ?_ | refine zF rfl ?_ | refine zY rfl ?_) | refine zY (by decide) ?_ | refine zN (by decide) ?_ | with_reducible refine zQ ?_); (conv => whnf))))))
                  refine aget (by omega) (get_spn rfl h) ?_
                  ((conv => whnf); (repeat ((first | with_reducible (first | refine zT rfl ?_ | refine zF rfl ?_ | refine zY rfl ?_) | refine zY (by decide) ?_ | refine zN (by decide) ?_ | with_reducible refine zQ ?_); (conv => whnf))))
                  (repeat ((first | refine zI (by omega) ?_ | refine zE (by omega) (by omega) ?_ | refine zD (by omega) (by omega) ?_ | refine zY (by omega) ?_ | refine zN (by omega) ?_ | refine amin ?_ | refine amax ?_ | refine zU (by omega) ?_ | refine z8 (by omega) ?_ | refine zX (by omega) (by omega) ?_ | refine zR rfl ?_ | refine acellA ?_ | refine zB H b1 rfl ?_ | refine zC H b1 ?_ | refine zB H b2 rfl ?_ | refine zC H b2 ?_ | refine zB H b3 rfl ?_ | refine zC H b3 ?_ | refine zB H b4 rfl ?_ | refine zC H b4 ?_ | (apply zL H; (· repeat first | exact .h | apply AtK.t); (· rfl)) | (apply zA H; (· repeat first | exact .h | apply AtK.t)) | (apply zS H; (· repeat first | exact .h | apply AtK.t); (· rfl); (conv => whnf); clear H; intro τ H) | rw [List.length_map]); ((conv => whnf); (repeat ((first | with_reducible (first | refine zT rfl ?_ | refine zF rfl ?_ | refine zY rfl ?_) | refine zY (by decide) ?_ | refine zN (by decide) ?_ | with_reducible refine zQ ?_); (conv => whnf))))))
                  refine aget (by omega) (get_spn rfl h) ?_
                  ((conv => whnf); (repeat ((first | with_reducible (first | refine zT rfl ?_ | refine zF rfl ?_ | refine zY rfl ?_) | refine zY (by decide) ?_ | refine zN (by decide) ?_ | with_reducible refine zQ ?_); (conv => whnf))))
                  (repeat ((first | refine zI (by omega) ?_ | refine zE (by omega) (by omega) ?_ | refine zD (by omega) (by omega) ?_ | refine zY (by omega) ?_ | refine zN (by omega) ?_ | refine amin ?_ | refine amax ?_ | refine zU (by omega) ?_ | refine z8 (by omega) ?_ | refine zX (by omega) (by omega) ?_ | refine zR rfl ?_ | refine acellA ?_ | refine zB H b1 rfl ?_ | refine zC H b1 ?_ | refine zB H b2 rfl ?_ | refine zC H b2 ?_ | refine zB H b3 rfl ?_ | refine zC H b3 ?_ | refine zB H b4 rfl ?_ | refine zC H b4 ?_ | (apply zL H; (· repeat first | exact .h | apply AtK.t); (· rfl)) | (apply zA H; (· repeat first | exact .h | apply AtK.t)) | (apply zS H; (· repeat first | exact .h | apply AtK.t); (· rfl); (conv => whnf); clear H; intro τ H) | rw [List.length_map]); ((conv => whnf); (repeat ((first | with_reducible (first | refine zT rfl ?_ | refine zF rfl ?_ | refine zY rfl ?_) | refine zY (by decide) ?_ | refine zN (by decide) ?_ | with_reducible refine zQ ?_); (conv => whnf))))))
                  have e3 : insV to (l.take (j + 1)) = insV to (l.take j) + l[j].2 - l[j].1 := by rw [e2]; (repeat split) <;> omega
                  refine ⟨j + 1, ⟨h, by omega, by omega⟩, by omega, Sub.refl _, ?_⟩
                  rw [e1', e3]
                  ((conv => whnf); (repeat ((first | with_reducible (first | refine zT rfl ?_ | refine zF rfl ?_ | refine zY rfl ?_) | refine zY (by decide) ?_ | refine zN (by decide) ?_ | with_reducible refine zQ ?_); (conv => whnf))))
                  (repeat' first | with_reducible exact EnvLe.refl _ | (refine EnvLe.node ?_ (by first | exact Or.inl rfl | exact Or.inr (Or.inl rfl) | exact Or.inr (Or.inr ⟨nofun, VLe.slice _ _ _⟩)) ?_))
                · (repeat ((first | refine zI (by omega) ?_ | refine zE (by omega) (by omega) ?_ | refine zD (by omega) (by omega) ?_ | refine zY (by omega) ?_ | refine zN (by omega) ?_ | refine amin ?_ | refine amax ?_ | refine zU (by omega) ?_ | refine z8 (by omega) ?_ | refine zX (by omega) (by omega) ?_ | refine zR rfl ?_ | refine acellA ?_ | refine zB H b1 rfl ?_ | refine zC H b1 ?_ | refine zB H b2 rfl ?_ | refine zC H b2 ?_ | refine zB H b3 rfl ?_ | refine zC H b3 ?_ | refine zB H b4 rfl ?_ | refine zC H b4 ?_ | (apply zL H; (· repeat first | exact .h | apply AtK.t); (· rfl)) | (apply zA H; (· repeat first | exact .h | apply AtK.t)) | (apply zS H; (· repeat first | exact .h | apply AtK.t); (· rfl); (conv => whnf); clear H; intro τ H) | rw [List.length_map]); ((conv => whnf); (repeat ((first | with_reducible (first | refine zT rfl ?_ | refine zF rfl ?_ | refine zY rfl ?_) | refine zY (by decide) ?_ | refine zN (by decide) ?_ | with_reducible refine zQ ?_); (conv => whnf))))))
                  refine aget (by omega) (get_spn rfl h) ?_
                  ((conv => whnf); (repeat ((first | with_reducible (first | refine zT rfl ?_ | refine zF rfl ?_ | refine zY rfl ?_) | refine zY (by decide) ?_ | refine zN (by decide) ?_ | with_reducible refine zQ ?_); (conv => whnf))))
                  (repeat ((first | refine zI (by omega) ?_ | refine zE (by omega) (by omega) ?_ | refine zD (by omega) (by omega) ?_ | refine zY (by omega) ?_ | refine zN (by omega) ?_ | refine amin ?_ | refine amax ?_ | refine zU (by omega) ?_ | refine z8 (by omega) ?_ | refine zX (by omega) (by omega) ?_ | refine zR rfl ?_ | refine acellA ?_ | refine zB H b1 rfl ?_ | refine zC H b1 ?_ | refine zB H b2 rfl ?_ | refine zC H b2 ?_ | refine zB H b3 rfl ?_ | refine zC H b3 ?_ | refine zB H b4 rfl ?_ | refine zC H b4 ?_ | (apply zL H; (· repeat first | exact .h | apply AtK.t); (· rfl)) | (apply zA H; (· repeat first | exact .h | apply AtK.t)) | (apply zS H; (· repeat first | exact .h | apply AtK.t); (· rfl); (conv => whnf); clear H; intro τ H) | rw [List.length_map]); ((conv => whnf); (repeat ((first | with_reducible (first | refine zT rfl ?_ | refine zF rfl ?_ | refine zY rfl ?_) | refine zY (by decide) ?_ | refine zN (by decide) ?_ | with_reducible refine zQ ?_); (conv => whnf))))))
                  have e3 : insV to (l.take (j + 1)) = insV to (l.take j) + to - l[j].1 := by rw [e2]; (repeat split) <;> omega
                  refine ⟨j + 1, ⟨h, by omega, by omega⟩, by omega, Sub.refl _, ?_⟩
                  rw [e1', e3]
                  ((conv => whnf); (repeat ((first | with_reducible (first | refine zT rfl ?_ | refine zF rfl ?_ | refine zY rfl ?_) | refine zY (by decide) ?_ | refine zN (by decide) ?_ | with_reducible refine zQ ?_); (conv => whnf))))
                  (repeat' first | with_reducible exact EnvLe.refl _ | (refine EnvLe.node ?_ (by first | exact Or.inl rfl | exact Or.inr (Or.inl rfl) | exact Or.inr (Or.inr ⟨nofun, VLe.slice _ _ _⟩)) ?_))
              · (repeat ((first | refine zI (by omega) ?_ | refine zE (by omega) (by omega) ?_ | refine zD (by omega) (by omega) ?_ | refine zY (by omega) ?_ | refine zN (by omega) ?_ | refine amin ?_ | refine amax ?_ | refine zU (by omega) ?_ | refine z8 (by omega) ?_ | refine zX (by omega) (by omega) ?_ | refine zR rfl ?_ | refine acellA ?_ | refine zB H b1 rfl ?_ | refine zC H b1 ?_ | refine zB H b2 rfl ?_ | refine zC H b2 ?_ | refine zB H b3 rfl ?_ | refine zC H b3 ?_ | refine zB H b4 rfl ?_ | refine zC H b4 ?_ | (apply zL H; (· repeat first | exact .h | apply AtK.t); (· rfl)) | (apply zA H; (· repeat first | exact .h | apply AtK.t)) | (apply zS H; (· repeat first | exact .h | apply AtK.t); (· rfl); (conv => whnf); clear H; intro τ H) | rw [List.length_map]); ((conv => whnf); (repeat ((first | with_reducible (first | refine zT rfl ?_ | refine zF rfl ?_ | refine zY rfl ?_) | refine zY (by decide) ?_ | refine zN (by decide) ?_ | with_reducible refine zQ ?_); (conv => whnf))))))
                have e3 : insV to (l.take (j + 1)) = insV to (l.take j) := by rw [e2]; (repeat split) <;> omega
                refine ⟨j + 1, ⟨h, by omega, by omega⟩, by omega, Sub.refl _, ?_⟩
                rw [e1', e3]
                ((conv => whnf); (repeat ((first | with_reducible (first | refine zT rfl ?_ | refine zF rfl ?_ | refine zY rfl ?_) | refine zY (by decide) ?_ | refine zN (by decide) ?_ | with_reducible refine zQ ?_); (conv => whnf))))
                (repeat' first | with_reducible exact EnvLe.refl _ | (refine EnvLe.node ?_ (by first | exact Or.inl rfl | exact Or.inr (Or.inl rfl) | exact Or.inr (Or.inr ⟨nofun, VLe.slice _ _ _⟩)) ?_))
            · (repeat ((first | refine zI (by omega) ?_ | refine zE (by omega) (by omega) ?_ | refine zD (by omega) (by omega) ?_ | refine zY (by omega) ?_ | refine zN (by omega) ?_ | refine amin ?_ | refine amax ?_ | refine zU (by omega) ?_ | refine z8 (by omega) ?_ | refine zX (by omega) (by omega) ?_ | refine zR rfl ?_ | refine acellA ?_ | refine zB H b1 rfl ?_ | refine zC H b1 ?_ | refine zB H b2 rfl ?_ | refine zC H b2 ?_ | refine zB H b3 rfl ?_ | refine zC H b3 ?_ | refine zB H b4 rfl ?_ | refine zC H b4 ?_ | (apply zL H; (· repeat first | exact .h | apply AtK.t); (· rfl)) | (apply zA H; (· repeat first | exact .h | apply AtK.t)) | (apply zS H; (· repeat first | exact .h | apply AtK.t); (· rfl); (conv => whnf); clear H; intro τ H) | rw [List.length_map]); ((conv => whnf); (repeat ((first | with_reducible (first | refine zT rfl ?_ | refine zF rfl ?_ | refine zY rfl ?_) | refine zY (by decide) ?_ | refine zN (by decide) ?_ | with_reducible refine zQ ?_); (conv => whnf))))))
              have e3 : insV to (l.take (j + 1)) = insV to (l.take j) := by rw [e2]; (repeat split) <;> omega
              refine ⟨j + 1, ⟨h, by omega, by omega⟩, by omega, Sub.refl _, ?_⟩
              rw [e1', e3]
              ((conv => whnf); (repeat ((first | with_reducible (first | refine zT rfl ?_ | refine zF rfl ?_ | refine zY rfl ?_) | refine zY (by decide) ?_ | refine zN (by decide) ?_ | with_reducible refine zQ ?_); (conv => whnf))))
              (repeat' first | with_reducible exact EnvLe.refl _ | (refine EnvLe.node ?_ (by first | exact Or.inl rfl | exact Or.inr (Or.inl rfl) | exact Or.inr (Or.inr ⟨nofun, VLe.slice _ _ _⟩)) ?_))
          · (repeat ((first | refine zI (by omega) ?_ | refine zE (by omega) (by omega) ?_ | refine zD (by omega) (by omega) ?_ | refine zY (by omega) ?_ | refine zN (by omega) ?_ | refine amin ?_ | refine amax ?_ | refine zU (by omega) ?_ | refine z8 (by omega) ?_ | refine zX (by omega) (by omega) ?_ | refine zR rfl ?_ | refine acellA ?_ | refine zB H b1 rfl ?_ | refine zC H b1 ?_ | refine zB H b2 rfl ?_ | refine zC H b2 ?_ | refine zB H b3 rfl ?_ | refine zC H b3 ?_ | refine zB H b4 rfl ?_ | refine zC H b4 ?_ | (apply zL H; (· repeat first | exact .h | apply AtK.t); (· rfl)) | (apply zA H; (· repeat first | exact .h | apply AtK.t)) | (apply zS H; (· repeat first | exact .h | apply AtK.t); (· rfl); (conv => whnf); clear H; intro τ H) | rw [List.length_map]); ((conv => whnf); (repeat ((first | with_reducible (first | refine zT rfl ?_ | refine zF rfl ?_ | refine zY rfl ?_) | refine zY (by decide) ?_ | refine zN (by decide) ?_ | with_reducible refine zQ ?_); (conv => whnf))))))
            have e3 : insV to (l.take (j + 1)) = insV to (l.take j) := by rw [e2]; (repeat split) <;> omega
            refine ⟨j + 1, ⟨h, by omega, by omega⟩, by omega, Sub.refl _, ?_⟩
            rw [e1', e3]
            ((conv => whnf); (repeat ((first | with_reducible (first | refine zT rfl ?_ | refine zF rfl ?_ | refine zY rfl ?_) | refine zY (by decide) ?_ | refine zN (by decide) ?_ | with_reducible refine zQ ?_); (conv => whnf))))
            (repeat' first | with_reducible exact EnvLe.refl _ | (refine EnvLe.node ?_ (by first | exact Or.inl rfl | exact Or.inr (Or.inl rfl) | exact Or.inr (Or.inr ⟨nofun, VLe.slice _ _ _⟩)) ?_))
        · (repeat ((first | refine zI (by omega) ?_ | refine zE (by omega) (by omega) ?_ | refine zD (by omega) (by omega) ?_ | refine zY (by omega) ?_ | refine zN (by omega) ?_ | refine amin ?_ | refine amax ?_ | refine zU (by omega) ?_ | refine z8 (by omega) ?_ | refine zX (by omega) (by omega) ?_ | refine zR rfl ?_ | refine acellA ?_ | refine zB H b1 rfl ?_ | refine zC H b1 ?_ | refine zB H b2 rfl ?_ | refine zC H b2 ?_ | refine zB H b3 rfl ?_ | refine zC H b3 ?_ | refine zB H b4 rfl ?_ | refine zC H b4 ?_ | (apply zL H; (· repeat first | exact .h | apply AtK.t); (· rfl)) | (apply zA H; (· repeat first | exact .h | apply AtK.t)) | (apply zS H; (· repeat first | exact .h | apply AtK.t); (· rfl); (conv => whnf); clear H; intro τ H) | rw [List.length_map]); ((conv => whnf); (repeat ((first | with_reducible (first | refine zT rfl ?_ | refine zF rfl ?_ | refine zY rfl ?_) | refine zY (by decide) ?_ | refine zN (by decide) ?_ | with_reducible refine zQ ?_); (conv => whnf))))))
          refine aget (by omega) (get_spn rfl h) ?_
          ((conv => whnf); (repeat ((first | with_reducible (first | refine zT rfl ?_ | refine zF rfl ?_ | refine zY rfl ?_) | refine zY (by decide) ?_ | refine zN (by decide) ?_ | with_reducible refine zQ ?_); (conv => whnf))))
          (repeat ((first | refine zI (by omega) ?_ | refine zE (by omega) (by omega) ?_ | refine zD (by omega) (by omega) ?_ | refine zY (by omega) ?_ | refine zN (by omega) ?_ | refine amin ?_ | refine amax ?_ | refine zU (by omega) ?_ | refine z8 (by omega) ?_ | refine zX (by omega) (by omega) ?_ | refine zR rfl ?_ | refine acellA ?_ | refine zB H b1 rfl ?_ | refine zC H b1 ?_ | refine zB H b2 rfl ?_ | refine zC H b2 ?_ | refine zB H b3 rfl ?_ | refine zC H b3 ?_ | refine zB H b4 rfl ?_ | refine zC H b4 ?_ | (apply zL H; (· repeat first | exact .h | apply AtK.t); (· rfl)) | (apply zA H; (· repeat first | exact .h | apply AtK.t)) | (apply zS H; (· repeat first | exact .h | apply AtK.t); (· rfl); (conv => whnf); clear H; intro τ H) | rw [List.length_map]); ((conv => whnf); (repeat ((first | with_reducible (first | refine zT rfl ?_ | refine zF rfl ?_ | refine zY rfl ?_) | refine zY (by decide) ?_ | refine zN (by decide) ?_ | with_reducible refine zQ ?_); (conv => whnf))))))
          refine aget (by omega) (get_spn rfl h) ?_
          ((conv => whnf); (repeat ((first | with_reducible (first | refine zT rfl ?_ | refine zF rfl ?_ | refine zY rfl ?_) | refine zY (by decide) ?_ | refine zN (by decide) ?_ | with_reducible refine zQ ?_); (conv => whnf))))
          (repeat ((first | refine zI (by omega) ?_ | refine zE (by omega) (by omega) ?_ | refine zD (by omega) (by omega) ?_ | refine zY (by omega) ?_ | refine zN (by omega) ?_ | refine amin ?_ | refine amax ?_ | refine zU (by omega) ?_ | refine z8 (by omega) ?_ | refine zX (by omega) (by omega) ?_ | refine zR rfl ?_ | refine acellA ?_ | refine zB H b1 rfl ?_ | refine zC H b1 ?_ | refine zB H b2 rfl ?_ | refine zC H b2 ?_ | refine zB H b3 rfl ?_ | refine zC H b3 ?_ | refine zB H b4 rfl ?_ | refine zC H b4 ?_ | (apply zL H; (· repeat first | exact .h | apply AtK.t); (· rfl)) | (apply zA H; (· repeat first | exact .h | apply AtK.t)) | (apply zS H; (· repeat first | exact .h | apply AtK.t); (· rfl); (conv => whnf); clear H; intro τ H) | rw [List.length_map]); ((conv => whnf); (repeat ((first | with_reducible (first | refine zT rfl ?_ | refine zF rfl ?_ | refine zY rfl ?_) | refine zY (by decide) ?_ | refine zN (by decide) ?_ | with_reducible refine zQ ?_); (conv => whnf))))))
          by_cases h1 : 1 ≤ to
          · by_cases h2 : to ≤ 65536
            · (repeat ((first | refine zI (by omega) ?_ | refine zE (by omega) (by omega) ?_ | refine zD (by omega) (by omega) ?_ | refine zY (by omega) ?_ | refine zN (by omega) ?_ | refine amin ?_ | refine amax ?_ | refine zU (by omega) ?_ | refine z8 (by omega) ?_ | refine zX (by omega) (by omega) ?_ | refine zR rfl ?_ | refine acellA ?_ | refine zB H b1 rfl ?_ | refine zC H b1 ?_ | refine zB H b2 rfl ?_ | refine zC H b2 ?_ | refine zB H b3 rfl ?_ | refine zC H b3 ?_ | refine zB H b4 rfl ?_ | refine zC H b4 ?_ | (apply zL H; (· repeat first | exact .h | apply AtK.t); (· rfl)) | (apply zA H; (· repeat first | exact .h | apply AtK.t)) | (apply zS H; (· repeat first | exact .h | apply AtK.t); (· rfl); (conv => whnf); clear H; intro τ H) | rw [List.length_map]); ((conv => whnf); (repeat ((first | with_reducible (first | refine zT rfl ?_ | refine zF rfl ?_ | refine zY rfl ?_) | refine zY (by decide) ?_ | refine zN (by decide) ?_ | with_reducible refine zQ ?_); (conv => whnf))))))
              refine aget (by omega) (get_spn rfl h) ?_
              ((conv => whnf); (repeat ((first | with_reducible (first | refine zT rfl ?_ | refine zF rfl ?_ | refine zY rfl ?_) | refine zY (by decide) ?_ | refine zN (by decide) ?_ | with_reducible refine zQ ?_); (conv => whnf))))
              (repeat ((first | refine zI (by omega) ?_ | refine zE (by omega) (by omega) ?_ | refine zD (by omega) (by omega) ?_ | refine zY (by omega) ?_ | refine zN (by omega) ?_ | refine amin ?_ | refine amax ?_ | refine zU (by omega) ?_ | refine z8 (by omega) ?_ | refine zX (by omega) (by omega) ?_ | refine zR rfl ?_ | refine acellA ?_ | refine zB H b1 rfl ?_ | refine zC H b1 ?_ | refine zB H b2 rfl ?_ | refine zC H b2 ?_ | refine zB H b3 rfl ?_ | refine zC H b3 ?_ | refine zB H b4 rfl ?_ | refine zC H b4 ?_ | (apply zL H; (· repeat first | exact .h | apply AtK.t); (· rfl)) | (apply zA H; (· repeat first | exact .h | apply AtK.t)) | (apply zS H; (· repeat first | exact .h | apply AtK.t); (· rfl); (conv => whnf); clear H; intro τ H) | rw [List.length_map]); ((conv => whnf); (repeat ((first | with_reducible (first | refine zT rfl ?_ | refine zF rfl ?_ | refine zY rfl ?_) | refine zY (by decide) ?_ | refine zN (by decide) ?_ | with_reducible refine zQ ?_); (conv => whnf))))))
              by_cases h3 : l[j].1 < to
              · (repeat ((first | refine zI (by omega) ?_ | refine zE (by omega) (by omega) ?_ | refine zD (by omega) (by omega) ?_ | refine zY (by omega) ?_ | refine zN (by omega) ?_ | refine amin ?_ | refine amax ?_ | refine zU (by omega) ?_ | refine z8 (by omega) ?_ | refine zX (by omega) (by omega) ?_ | refine zR rfl ?_ | refine acellA ?_ | refine zB H b1 rfl ?_ | refine zC H b1 ?_ | refine zB H b2 rfl ?_ | refine zC H b2 ?_ | refine zB H b3 rfl ?_ | refine zC H b3 ?_ | refine zB H b4 rfl ?_ | refine zC H b4 ?_ | (apply zL H; (· repeat first | exact .h | apply AtK.t); (· rfl)) | (apply zA H; (· repeat first | exact .h | apply AtK.t)) | (apply zS H; (· repeat first | exact .h | apply AtK.t); (· rfl); (conv => whnf); clear H; intro τ H) | rw [List.length_map]); ((conv => whnf); (repeat ((first | with_reducible (first | refine zT rfl ?_ | refine zF rfl ?_ | refine zY rfl ?_) | refine zY (by decide) ?_ | refine zN (by decide) ?_ | with_reducible refine zQ ?_); (conv => whnf))))))
                refine aget (by omega) (get_spn rfl h) ?_
                ((conv => whnf); (repeat ((first | with_reducible (first | refine zT rfl ?_ | refine zF rfl ?_ | refine zY rfl ?_) | refine zY (by decide) ?_ | refine zN (by decide) ?_ | with_reducible refine zQ ?_); (conv => whnf))))
                (repeat ((first | refine zI (by omega) ?_ | refine zE (by omega) (by omega) ?_ | refine zD (by omega) (by omega) ?_ | refine zY (by omega) ?_ | refine zN (by omega) ?_ | refine amin ?_ | refine amax ?_ | refine zU (by omega) ?_ | refine z8 (by omega) ?_ | refine zX (by omega) (by omega) ?_ | refine zR rfl ?_ | refine acellA ?_ | refine zB H b1 rfl ?_ | refine zC H b1 ?_ | refine zB H b2 rfl ?_ | refine zC H b2 ?_ | refine zB H b3 rfl ?_ | refine zC H b3 ?_ | refine zB H b4 rfl ?_ | refine zC H b4 ?_ | (apply zL H; (· repeat first | exact .h | apply AtK.t); (· rfl)) | (apply zA H; (· repeat first | exact .h | apply AtK.t)) | (apply zS H; (· repeat first | exact .h | apply AtK.t); (· rfl); (conv => whnf); clear H; intro τ H) | rw [List.length_map]); ((conv => whnf); (repeat ((first | with_reducible (first | refine zT rfl ?_ | refine zF rfl ?_ | refine zY rfl ?_) | refine zY (by decide) ?_ | refine zN (by decide) ?_ | with_reducible refine zQ ?_); (conv => whnf))))))
                by_cases h4 : l[j].2 < to
                · (repeat ((first | refine zI (by omega) ?_ | refine zE (by omega) (by omega) ?_ | refine zD (by omega) (by omega) ?_ | refine zY (by omega) ?_ | refine zN (by omega) ?_ | refine amin ?_ | refine amax ?_ | refine zU (by omega) ?_ | refine z8 (by omega) ?_ | refine zX (by omega) (by omega) ?_ | refine zR rfl ?_ | refine acellA ?_ | refine zB H b1 rfl ?_ | refine zC H b1 ?_ | refine zB H b2 rfl ?_ | refine zC H b2 ?_ | refine zB H b3 rfl ?_ | refine zC H b3 ?_ | refine zB H b4 rfl ?_ | refine zC H b4 ?_ | (apply zL H; (· repeat first | exact .h | apply AtK.t); (· rfl)) | (apply zA H; (· repeat first | exact .h | apply AtK.t)) | (apply zS H; (· repeat first | exact .h | apply AtK.t); (· rfl); (conv => whnf); clear H; intro τ H) | rw [List.length_map]); ((conv => whnf); (repeat ((first | with_reducible (first | refine zT rfl ?_ | refine zF rfl ?_ | refine zY rfl ?_) | refine zY (by decide) ?_ | refine zN (by decide) ?_ | with_reducible refine zQ ?_); (conv => whnf))))))
                  refine aget (by omega) (get_spn rfl h) ?_
                  ((conv => whnf); (repeat ((first | with_reducible (first | refine zT rfl ?_ | refine zF rfl ?_ | refine zY rfl ?_) | refine zY (by decide) ?_ | refine zN (by decide) ?_ | with_reducible refine zQ ?_); (conv => whnf))))
                  (repeat ((first | refine zI (by omega) ?_ | refine zE (by omega) (by omega) ?_ | refine zD (by omega) (by omega) ?_ | refine zY (by omega) ?_ | refine zN (by omega) ?_ | refine amin ?_ | refine amax ?_ | refine zU (by omega) ?_ | refine z8 (by omega) ?_ | refine zX (by omega) (by omega) ?_ | refine zR rfl ?_ | refine acellA ?_ | refine zB H b1 rfl ?_ | refine zC H b1 ?_ | refine zB H b2 rfl ?_ | refine zC H b2 ?_ | refine zB H b3 rfl ?_ | refine zC H b3 ?_ | refine zB H b4 rfl ?_ | refine zC H b4 ?_ | (apply zL H; (· repeat first | exact .h | apply AtK.t); (· rfl)) | (apply zA H; (· repeat first | exact .h | apply AtK.t)) | (apply zS H; (· repeat first | exact .h | apply AtK.t); (· rfl); (conv => whnf); clear H; intro τ H) | rw [List.length_map]); ((conv => whnf); (repeat ((first | with_reducible (first | refine zT rfl ?_ | refine zF rfl ?_ | refine zY rfl ?_) | refine zY (by decide) ?_ | refine zN (by decide) ?_ | with_reducible refine zQ ?_); (conv => whnf))))))
                  refine aget (by omega) (get_spn rfl h) ?_
                  ((conv => whnf); (repeat ((first | with_reducible (first | refine zT rfl ?_ | refine zF rfl ?_ | refine zY rfl ?_) | refine zY (by decide) ?_ | refine zN (by decide) ?_ | with_reducible refine zQ ?_); (conv => whnf))))
                  (repeat ((first | refine zI (by omega) ?_ | refine zE (by omega) (by omega) ?_ | refine zD (by omega) (by omega) ?_ | refine zY (by omega) ?_ | refine zN (by omega) ?_ | refine amin ?_ | refine amax ?_ | refine zU (by omega) ?_ | refine z8 (by omega) ?_ | refine zX (by omega) (by omega) ?_ | refine zR rfl ?_ | refine acellA ?_ | refine zB H b1 rfl ?_ | refine zC H b1 ?_ | refine zB H b2 rfl ?_ | refine zC H b2 ?_ | refine zB H b3 rfl ?_ | refine zC H b3 ?_ | refine zB H b4 rfl ?_ | refine zC H b4 ?_ | (apply zL H; (· repeat first | exact .h | apply AtK.t); (· rfl)) | (apply zA H; (· repeat first | exact .h | apply AtK.t)) | (apply zS H; (· repeat first | exact .h | apply AtK.t); (· rfl); (conv => whnf); clear H; intro τ H) | rw [List.length_map]); ((conv => whnf); (repeat ((first | with_reducible (first | refine zT rfl ?_ | refine zF rfl ?_ | refine zY rfl ?_) | refine zY (by decide) ?_ | refine zN (by decide) ?_ | with_reducible refine zQ ?_); (conv => whnf))))))
                  have e3 : insV to (l.take (j + 1)) = insV to (l.take j) + l[j].2 - l[j].1 := by rw [e2]; (repeat split) <;> omega
                  refine ⟨j + 1, ⟨h, by omega, by omega⟩, by omega, Sub.refl _, ?_⟩
                  rw [e1', e3]
                  ((conv => whnf); (repeat ((first | with_reducible (first | refine zT rfl ?_ | refine zF rfl ?_ | refine zY rfl ?_) | refine zY (by decide) ?_ | refine zN (by decide) ?_ | with_reducible refine zQ ?_); (conv => whnf))))
                  (repeat' first | with_reducible exact EnvLe.refl _ | (refine EnvLe.node ?_ (by first | exact Or.inl rfl | exact Or.inr (Or.inl rfl) | exact Or.inr (Or.inr ⟨nofun, VLe.slice _ _ _⟩)) ?_))
                · (repeat ((first | refine zI (by omega) ?_ | refine zE (by omega) (by omega) ?_ | refine zD (by omega) (by omega) ?_ | refine zY (by omega) ?_ | refine zN (by omega) ?_ | refine amin ?_ | refine amax ?_ | refine zU (by omega) ?_ | refine z8 (by omega) ?_ | refine zX (by omega) (by omega) ?_ | refine zR rfl ?_ | refine acellA ?_ | refine zB H b1 rfl ?_ | refine zC H b1 ?_ | refine zB H b2 rfl ?_ | refine zC H b2 ?_ | refine zB H b3 rfl ?_ | refine zC H b3 ?_ | refine zB H b4 rfl ?_ | refine zC H b4 ?_ | (apply zL H; (· repeat first | exact .h | apply AtK.t); (· rfl)) | (apply zA H; (· repeat first | exact .h | apply AtK.t)) | (apply zS H; (· repeat first | exact .h | apply AtK.t); (· rfl); (conv => whnf); clear H; intro τ H) | rw [List.length_map]); ((conv => whnf); (repeat ((first | with_reducible (first | refine zT rfl ?_ | refine zF rfl ?_ | refine zY rfl ?_) | refine zY (by decide) ?_ | refine zN (by decide) ?_ | with_reducible refine zQ ?_); (conv => whnf))))))
                  refine aget (by omega) (get_spn rfl h) ?_
                  ((conv => whnf); (repeat ((first | with_reducible (first | refine zT rfl ?_ | refine zF rfl ?_ | refine zY rfl ?_) | refine zY (by decide) ?_ | refine zN (by decide) ?_ | with_reducible refine zQ ?_); (conv => whnf))))
                  (repeat ((first | refine zI (by omega) ?_ | refine zE (by omega) (by omega) ?_ | refine zD (by omega) (by omega) ?_ | refine zY (by omega) ?_ | refine zN (by omega) ?_ | refine amin ?_ | refine amax ?_ | refine zU (by omega) ?_ | refine z8 (by omega) ?_ | refine zX (by omega) (by omega) ?_ | refine zR rfl ?_ | refine acellA ?_ | refine zB H b1 rfl ?_ | refine zC H b1 ?_ | refine zB H b2 rfl ?_ | refine zC H b2 ?_ | refine zB H b3 rfl ?_ | refine zC H b3 ?_ | refine zB H b4 rfl ?_ | refine zC H b4 ?_ | (apply zL H; (· repeat first | exact .h | apply AtK.t); (· rfl)) | (apply zA H; (· repeat first | exact .h | apply AtK.t)) | (apply zS H; (· repeat first | exact .h | apply AtK.t); (· rfl); (conv => whnf); clear H; intro τ H) | rw [List.length_map]); ((conv => whnf); (repeat ((first | with_reducible (first | refine zT rfl ?_ | refine zF rfl ?_ | refine zY rfl ?_) | refine zY (by decide) ?_ | refine zN (by decide) ?_ | with_reducible refine zQ ?_); (conv => whnf))))))
                  have e3 : insV to (l.take (j + 1)) = insV to (l.take j) + to - l[j].1 := by rw [e2]; (repeat split) <;> omega
                  refine ⟨j + 1, ⟨h, by omega, by omega⟩, by omega, Sub.refl _, ?_⟩
                  rw [e1', e3]
                  ((conv => whnf); (repeat ((first | with_reducible (first | refine zT rfl ?_ | refine zF rfl ?_ | refine zY rfl ?_) | refine zY (by decide) ?_ | refine zN (by decide) ?_ | with_reducible refine zQ ?_); (conv => whnf))))
                  (repeat' first | with_reducible exact EnvLe.refl _ | (refine EnvLe.node ?_ (by first | exact Or.inl rfl | exact Or.inr (Or.inl rfl) | exact Or.inr (Or.inr ⟨nofun, VLe.slice _ _ _⟩)) ?_))
              · (repeat ((first | refine zI (by omega) ?_ | refine zE (by omega) (by omega) ?_ | refine zD (by omega) (by omega) ?_ | refine zY (by omega) ?_ | refine zN (by omega) ?_ | refine amin ?_ | refine amax ?_ | refine zU (by omega) ?_ | refine z8 (by omega) ?_ | refine zX (by omega) (by omega) ?_ | refine zR rfl ?_ | refine acellA ?_ | refine zB H b1 rfl ?_ | refine zC H b1 ?_ | refine zB H b2 rfl ?_ | refine zC H b2 ?_ | refine zB H b3 rfl ?_ | refine zC H b3 ?_ | refine zB H b4 rfl ?_ | refine zC H b4 ?_ | (apply zL H; (· repeat first | exact .h | apply AtK.t); (· rfl)) | (apply zA H; (· repeat first | exact .h | apply AtK.t)) | (apply zS H; (· repeat first | exact .h | apply AtK.t); (· rfl); (conv => whnf); clear H; intro τ H) | rw [List.length_map]); ((conv => whnf); (repeat ((first | with_reducible (first | refine zT rfl ?_ | refine zF rfl ?_ | refine zY rfl ?_) | refine zY (by decide) ?_ | refine zN (by decide) ?_ | with_reducible refine zQ ?_); (conv => whnf))))))
                have e3 : insV to (l.take (j + 1)) = insV to (l.take j) := by rw [e2]; (repeat split) <;> omega
                refine ⟨j + 1, ⟨h, by omega, by omega⟩, by omega, Sub.refl _, ?_⟩
                rw [e1', e3]
                ((conv => whnf); (repeat ((first | with_reducible (first | refine zT rfl ?_ | refine zF rfl ?_ | refine zY rfl ?_) | refine zY (by decide) ?_ | refine zN (by decide) ?_ | with_reducible refine zQ ?_); (conv => whnf))))
                (repeat' first | with_reducible exact EnvLe.refl _ | (refine EnvLe.node ?_ (by first | exact Or.inl rfl | exact Or.inr (Or.inl rfl) | exact Or.inr (Or.inr ⟨nofun, VLe.slice _ _ _⟩)) ?_))
            · (repeat ((first | refine zI (by omega) ?_ | refine zE (by omega) (by omega) ?_ | refine zD (by omega) (by omega) ?_ | refine zY (by omega) ?_ | refine zN (by omega) ?_ | refine amin ?_ | refine amax ?_ | refine zU (by omega) ?_ | refine z8 (by omega) ?_ | refine zX (by omega) (by omega) ?_ | refine zR rfl ?_ | refine acellA ?_ | refine zB H b1 rfl ?_ | refine zC H b1 ?_ | refine zB H b2 rfl ?_ | refine zC H b2 ?_ | refine zB H b3 rfl ?_ | refine zC H b3 ?_ | refine zB H b4 rfl ?_ | refine zC H b4 ?_ | (apply zL H; (· repeat first | exact .h | apply AtK.t); (· rfl)) | (apply zA H; (· repeat first | exact .h | apply AtK.t)) | (apply zS H; (· repeat first | exact .h | apply AtK.t); (· rfl); (conv => whnf); clear H; intro τ H) | rw [List.length_map]); ((conv => whnf); (repeat ((first | with_reducible (first | refine zT rfl ?_ | refine zF rfl ?_ | refine zY rfl ?_) | refine zY (by decide) ?_ | refine zN (by decide) ?_ | with_reducible refine zQ ?_); (conv => whnf))))))
              have e3 : insV to (l.take (j + 1)) = insV to (l.take j) := by rw [e2]; (repeat split) <;> omega
              refine ⟨j + 1, ⟨h, by omega, by omega⟩, by omega, Sub.refl _, ?_⟩
              rw [e1', e3]
              ((conv => whnf); (repeat ((first | with_reducible (first | refine zT rfl ?_ | refine zF rfl ?_ | refine zY rfl ?_) | refine zY (by decide) ?_ | refine zN (by decide) ?_ | with_reducible refine zQ ?_); (conv => whnf))))
              (repeat' first | with_reducible exact EnvLe.refl _ | (refine EnvLe.node ?_ (by first | exact Or.inl rfl | exact Or.inr (Or.inl rfl) | exact Or.inr (Or.inr ⟨nofun, VLe.slice _ _ _⟩)) ?_))
          · (repeat ((first | refine zI (by omega) ?_ | refine zE (by omega) (by omega) ?_ | refine zD (by omega) (by omega) ?_ | refine zY (by omega) ?_ | refine zN (by omega) ?_ | refine amin ?_ | refine amax ?_ | refine zU (by omega) ?_ | refine z8 (by omega) ?_ | refine zX (by omega) (by omega) ?_ | refine zR rfl ?_ | refine acellA ?_ | refine zB H b1 rfl ?_ | refine zC H b1 ?_ | refine zB H b2 rfl ?_ | refine zC H b2 ?_ | refine zB H b3 rfl ?_ | refine zC H b3 ?_ | refine zB H b4 rfl ?_ | refine zC H b4 ?_ | (apply zL H; (· repeat first | exact .h | apply AtK.t); (· rfl)) | (apply zA H; (· repeat first | exact .h | apply AtK.t)) | (apply zS H; (· repeat first | exact .h | apply AtK.t); (· rfl); (conv => whnf); clear H; intro τ H) | rw [List.length_map]); ((conv => whnf); (repeat ((first | with_reducible (first | refine zT rfl ?_ | refine zF rfl ?_ | refine zY rfl ?_) | refine zY (by decide) ?_ | refine zN (by decide) ?_ | with_reducible refine zQ ?_); (conv => whnf))))))
            have e3 : insV to (l.take (j + 1)) = insV to (l.take j) := by rw [e2]; (repeat split) <;> omega
            refine ⟨j + 1, ⟨h, by omega, by omega⟩, by omega, Sub.refl _, ?_⟩
            rw [e1', e3]
            ((conv => whnf); (repeat ((first | with_reducible (first | refine zT rfl ?_ | refine zF rfl ?_ | refine zY rfl ?_) | refine zY (by decide) ?_ | refine zN (by decide) ?_ | with_reducible refine zQ ?_); (conv => whnf))))
            (repeat' first | with_reducible exact EnvLe.refl _ | (refine EnvLe.node ?_ (by first | exact Or.inl rfl | exact Or.inr (Or.inl rfl) | exact Or.inr (Or.inr ⟨nofun, VLe.slice _ _ _⟩)) ?_))
      · have hjl : j = l.length := by omega
        subst hjl
        rw [List.take_length] at kj n0 n1
        rw [List.take_length]
        (repeat ((first | refine zI (by omega) ?_ | refine zE (by omega) (by omega) ?_ | refine zD (by omega) (by omega) ?_ | refine zY (by omega) ?_ | refine zN (by omega) ?_ | refine amin ?_ | refine amax ?_ | refine zU (by omega) ?_ | refine z8 (by omega) ?_ | refine zX (by omega) (by omega) ?_ | refine zR rfl ?_ | refine acellA ?_ | refine zB H b1 rfl ?_ | refine zC H b1 ?_ | refine zB H b2 rfl ?_ | refine zC H b2 ?_ | refine zB H b3 rfl ?_ | refine zC H b3 ?_ | refine zB H b4 rfl ?_ | refine zC H b4 ?_ | (apply zL H; (· repeat first | exact .h | apply AtK.t); (· rfl)) | (apply zA H; (· repeat first | exact .h | apply AtK.t)) | (apply zS H; (· repeat first | exact .h | apply AtK.t); (· rfl); (conv => whnf); clear H; intro τ H) | rw [List.length_map]); ((conv => whnf); (repeat ((first | with_reducible (first | refine zT rfl ?_ | refine zF rfl ?_ | refine zY rfl ?_) | refine zY (by decide) ?_ | refine zN (by decide) ?_ | with_reducible refine zQ ?_); (conv => whnf))))))
        refine acall (sCount (H.get (k := 0) rfl) ka.mid ka.mem) ?_
        rintro _ σ_ ⟨rfl, e_⟩
        obtain rfl := e_.symm
        refine ⟨?_, Ext.refl _⟩
        ((conv => whnf); (repeat ((first | with_reducible (first | refine zT rfl ?_ | refine zF rfl ?_ | refine zY rfl ?_) | refine zY (by decide) ?_ | refine zN (by decide) ?_ | with_reducible refine zQ ?_); (conv => whnf))))
        (repeat ((first | refine zI (by omega) ?_ | refine zE (by omega) (by omega) ?_ | refine zD (by omega) (by omega) ?_ | refine zY (by omega) ?_ | refine zN (by omega) ?_ | refine amin ?_ | refine amax ?_ | refine zU (by omega) ?_ | refine z8 (by omega) ?_ | refine zX (by omega) (by omega) ?_ | refine zR rfl ?_ | refine acellA ?_ | refine zB H b1 rfl ?_ | refine zC H b1 ?_ | refine zB H b2 rfl ?_ | refine zC H b2 ?_ | refine zB H b3 rfl ?_ | refine zC H b3 ?_ | refine zB H b4 rfl ?_ | refine zC H b4 ?_ | (apply zL H; (· repeat first | exact .h | apply AtK.t); (· rfl)) | (apply zA H; (· repeat first | exact .h | apply AtK.t)) | (apply zS H; (· repeat first | exact .h | apply AtK.t); (· rfl); (conv => whnf); clear H; intro τ H) | rw [List.length_map]); ((conv => whnf); (repeat ((first | with_reducible (first | refine zT rfl ?_ | refine zF rfl ?_ | refine zY rfl ?_) | refine zY (by decide) ?_ | refine zN (by decide) ?_ | with_reducible refine zQ ?_); (conv => whnf))))))
        by_cases h1 : to < 1
        · (repeat ((first | refine zI (by omega) ?_ | refine zE (by omega) (by omega) ?_ | refine zD (by omega) (by omega) ?_ | refine zY (by omega) ?_ | refine zN (by omega) ?_ | refine amin ?_ | refine amax ?_ | refine zU (by omega) ?_ | refine z8 (by omega) ?_ | refine zX (by omega) (by omega) ?_ | refine zR rfl ?_ | refine acellA ?_ | refine zB H b1 rfl ?_ | refine zC H b1 ?_ | refine zB H b2 rfl ?_ | refine zC H b2 ?_ | refine zB H b3 rfl ?_ | refine zC H b3 ?_ | refine zB H b4 rfl ?_ | refine zC H b4 ?_ | (apply zL H; (· repeat first | exact .h | apply AtK.t); (· rfl)) | (apply zA H; (· repeat first | exact .h | apply AtK.t)) | (apply zS H; (· repeat first | exact .h | apply AtK.t); (· rfl); (conv => whnf); clear H; intro τ H) | rw [List.length_map]); ((conv => whnf); (repeat ((first | with_reducible (first | refine zT rfl ?_ | refine zF rfl ?_ | refine zY rfl ?_) | refine zY (by decide) ?_ | refine zN (by decide) ?_ | with_reducible refine zQ ?_); (conv => whnf))))))
          refine acall (sAlive υ) ?_
          rintro _ σ_ ⟨rfl, e_⟩
          obtain rfl := e_.symm
          refine ⟨?_, Ext.refl _⟩
          ((conv => whnf); (repeat ((first | with_reducible (first | refine zT rfl ?_ | refine zF rfl ?_ | refine zY rfl ?_) | refine zY (by decide) ?_ | refine zN (by decide) ?_ | with_reducible refine zQ ?_); (conv => whnf))))
          (repeat ((first | refine zI (by omega) ?_ | refine zE (by omega) (by omega) ?_ | refine zD (by omega) (by omega) ?_ | refine zY (by omega) ?_ | refine zN (by omega) ?_ | refine amin ?_ | refine amax ?_ | refine zU (by omega) ?_ | refine z8 (by omega) ?_ | refine zX (by omega) (by omega) ?_ | refine zR rfl ?_ | refine acellA ?_ | refine zB H b1 rfl ?_ | refine zC H b1 ?_ | refine zB H b2 rfl ?_ | refine zC H b2 ?_ | refine zB H b3 rfl ?_ | refine zC H b3 ?_ | refine zB H b4 rfl ?_ | refine zC H b4 ?_ | (apply zL H; (· repeat first | exact .h | apply AtK.t); (· rfl)) | (apply zA H; (· repeat first | exact .h | apply AtK.t)) | (apply zS H; (· repeat first | exact .h | apply AtK.t); (· rfl); (conv => whnf); clear H; intro τ H) | rw [List.length_map]); ((conv => whnf); (repeat ((first | with_reducible (first | refine zT rfl ?_ | refine zF rfl ?_ | refine zY rfl ?_) | refine zY (by decide) ?_ | refine zN (by decide) ?_ | with_reducible refine zQ ?_); (conv => whnf))))))
          refine acall (sGaps (H.get (k := 0) rfl) ka to) ?_
          rintro _ υ2 ⟨w, hw, rfl⟩
          refine ⟨?_, hw.ext⟩
          replace H := (H.owned hw).tail
          rw [show gapsV to l = [] by unfold gapsV; rw [if_neg (by omega)]]
          ((conv => whnf); (repeat ((first | with_reducible (first | refine zT rfl ?_ | refine zF rfl ?_ | refine zY rfl ?_) | refine zY (by decide) ?_ | refine zN (by decide) ?_ | with_reducible refine zQ ?_); (conv => whnf))))
          exact aret (VLe.refl _) H.sub ⟨rfl, rfl⟩
        by_cases h2 : to > 65536
        · (repeat ((first | refine zI (by omega) ?_ | refine zE (by omega) (by omega) ?_ | refine zD (by omega) (by omega) ?_ | refine zY (by omega) ?_ | refine zN (by omega) ?_ | refine amin ?_ | refine amax ?_ | refine zU (by omega) ?_ | refine z8 (by omega) ?_ | refine zX (by omega) (by omega) ?_ | refine zR rfl ?_ | refine acellA ?_ | refine zB H b1 rfl ?_ | refine zC H b1 ?_ | refine zB H b2 rfl ?_ | refine zC H b2 ?_ | refine zB H b3 rfl ?_ | refine zC H b3 ?_ | refine zB H b4 rfl ?_ | refine zC H b4 ?_ | (apply zL H; (· repeat first | exact .h | apply AtK.t); (· rfl)) | (apply zA H; (· repeat first | exact .h | apply AtK.t)) | (apply zS H; (· repeat first | exact .h | apply AtK.t); (· rfl); (conv => whnf); clear H; intro τ H) | rw [List.length_map]); ((conv => whnf); (repeat ((first | with_reducible (first | refine zT rfl ?_ | refine zF rfl ?_ | refine zY rfl ?_) | refine zY (by decide) ?_ | refine zN (by decide) ?_ | with_reducible refine zQ ?_); (conv => whnf))))))
          refine acall (sAlive υ) ?_
          rintro _ σ_ ⟨rfl, e_⟩
          obtain rfl := e_.symm
          refine ⟨?_, Ext.refl _⟩
          ((conv => whnf); (repeat ((first | with_reducible (first | refine zT rfl ?_ | refine zF rfl ?_ | refine zY rfl ?_) | refine zY (by decide) ?_ | refine zN (by decide) ?_ | with_reducible refine zQ ?_); (conv => whnf))))
          (repeat ((first | refine zI (by omega) ?_ | refine zE (by omega) (by omega) ?_ | refine zD (by omega) (by omega) ?_ | refine zY (by omega) ?_ | refine zN (by omega) ?_ | refine amin ?_ | refine amax ?_ | refine zU (by omega) ?_ | refine z8 (by omega) ?_ | refine zX (by omega) (by omega) ?_ | refine zR rfl ?_ | refine acellA ?_ | refine zB H b1 rfl ?_ | refine zC H b1 ?_ | refine zB H b2 rfl ?_ | refine zC H b2 ?_ | refine zB H b3 rfl ?_ | refine zC H b3 ?_ | refine zB H b4 rfl ?_ | refine zC H b4 ?_ | (apply zL H; (· repeat first | exact .h | apply AtK.t); (· rfl)) | (apply zA H; (· repeat first | exact .h | apply AtK.t)) | (apply zS H; (· repeat first | exact .h | apply AtK.t); (· rfl); (conv => whnf); clear H; intro τ H) | rw [List.length_map]); ((conv => whnf); (repeat ((first | with_reducible (first | refine zT rfl ?_ | refine zF rfl ?_ | refine zY rfl ?_) | refine zY (by decide) ?_ | refine zN (by decide) ?_ | with_reducible refine zQ ?_); (conv => whnf))))))
          refine acall (sGaps (H.get (k := 0) rfl) ka to) ?_
          rintro _ υ2 ⟨w, hw, rfl⟩
          refine ⟨?_, hw.ext⟩
          replace H := (H.owned hw).tail
          rw [show gapsV to l = [] by unfold gapsV; rw [if_neg (by omega)]]
          ((conv => whnf); (repeat ((first | with_reducible (first | refine zT rfl ?_ | refine zF rfl ?_ | refine zY rfl ?_) | refine zY (by decide) ?_ | refine zN (by decide) ?_ | with_reducible refine zQ ?_); (conv => whnf))))
          exact aret (VLe.refl _) H.sub ⟨rfl, rfl⟩
        (repeat ((first | refine zI (by omega) ?_ | refine zE (by omega) (by omega) ?_ | refine zD (by omega) (by omega) ?_ | refine zY (by omega) ?_ | refine zN (by omega) ?_ | refine amin ?_ | refine amax ?_ | refine zU (by omega) ?_ | refine z8 (by omega) ?_ | refine zX (by omega) (by omega) ?_ | refine zR rfl ?_ | refine acellA ?_ | refine zB H b1 rfl ?_ | refine zC H b1 ?_ | refine zB H b2 rfl ?_ | refine zC H b2 ?_ | refine zB H b3 rfl ?_ | refine zC H b3 ?_ | refine zB H b4 rfl ?_ | refine zC H b4 ?_ | (apply zL H; (· repeat first | exact .h | apply AtK.t); (· rfl)) | (apply zA H; (· repeat first | exact .h | apply AtK.t)) | (apply zS H; (· repeat first | exact .h | apply AtK.t); (· rfl); (conv => whnf); clear H; intro τ H) | rw [List.length_map]); ((conv => whnf); (repeat ((first | with_reducible (first | refine zT rfl ?_ | refine zF rfl ?_ | refine zY rfl ?_) | refine zY (by decide) ?_ | refine zN (by decide) ?_ | with_reducible refine zQ ?_); (conv => whnf))))))
        refine acall (sGaps (H.get (k := 0) rfl) ka to) ?_
        rintro _ υ2 ⟨w, hw, rfl⟩
        refine ⟨?_, hw.ext⟩
        replace H := (H.owned hw).tail
        clear hw
        obtain ⟨g1, g2, g3, g4⟩ := ka.gaps (to := to) (by omega)
        generalize gapsV to l = g at *
        ((conv => whnf); (repeat ((first | with_reducible (first | refine zT rfl ?_ | refine zF rfl ?_ | refine zY rfl ?_) | refine zY (by decide) ?_ | refine zN (by decide) ?_ | with_reducible refine zQ ?_); (conv => whnf))))
        (repeat ((first | refine zI (by omega) ?_ | refine zE (by omega) (by omega) ?_ | refine zD (by omega) (by omega) ?_ | refine zY (by omega) ?_ | refine zN (by omega) ?_ | refine amin ?_ | refine amax ?_ | refine zU (by omega) ?_ | refine z8 (by omega) ?_ | refine zX (by omega) (by omega) ?_ | refine zR rfl ?_ | refine acellA ?_ | refine zB H b1 rfl ?_ | refine zC H b1 ?_ | refine zB H b2 rfl ?_ | refine zC H b2 ?_ | refine zB H b3 rfl ?_ | refine zC H b3 ?_ | refine zB H b4 rfl ?_ | refine zC H b4 ?_ | (apply zL H; (· repeat first | exact .h | apply AtK.t); (· rfl)) | (apply zA H; (· repeat first | exact .h | apply AtK.t)) | (apply zS H; (· repeat first | exact .h | apply AtK.t); (· rfl); (conv => whnf); clear H; intro τ H) | rw [List.length_map]); ((conv => whnf); (repeat ((first | with_reducible (first | refine zT rfl ?_ | refine zF rfl ?_ | refine zY rfl ?_) | refine zY (by decide) ?_ | refine zN (by decide) ?_ | with_reducible refine zQ ?_); (conv => whnf))))))
        refine aloop (α := Nat) (fun i => [(s13, i64v i), (s10, i64v (insV to l + cntL (g.take i)))]) (fun _ => υ2) (fun i => i ≤ g.length ∧ 0 ≤ cntL (g.take i) ∧ cntL (g.take i) ≤ 65536 * i) (fun i => g.length - i) 0 ⟨Nat.zero_le _, Int.le_refl _, Int.le_refl _⟩ (Sub.refl _) ?_ ?_
        · rw [show insV to l + cntL (g.take 0) = insV to l from Int.add_zero _]
          ((conv => whnf); (repeat ((first | with_reducible (first | refine zT rfl ?_ | refine zF rfl ?_ | refine zY rfl ?_) | refine zY (by decide) ?_ | refine zN (by decide) ?_ | with_reducible refine zQ ?_); (conv => whnf))))
          (repeat' first | with_reducible exact EnvLe.refl _ | (refine EnvLe.node ?_ (by first | exact Or.inl rfl | exact Or.inr (Or.inl rfl) | exact Or.inr (Or.inr ⟨nofun, VLe.slice _ _ _⟩)) ?_))
        rintro j ⟨hj, m0, m1⟩
        ((conv => whnf); (repeat ((first | with_reducible (first | refine zT rfl ?_ | refine zF rfl ?_ | refine zY rfl ?_) | refine zY (by decide) ?_ | refine zN (by decide) ?_ | with_reducible refine zQ ?_); (conv => whnf))))
        by_cases h : j < g.length
        · have e1 := cnt_take h
          have q := g2.mem (List.getElem_mem h)
          obtain ⟨r1, r2, r3⟩ := g3 _ (List.getElem_mem h)
          (repeat ((first | refine zI (by omega) ?_ | refine zE (by omega) (by omega) ?_ | refine zD (by omega) (by omega) ?_ | refine zY (by omega) ?_ | refine zN (by omega) ?_ | refine amin ?_ | refine amax ?_ | refine zU (by omega) ?_ | refine z8 (by omega) ?_ | refine zX (by omega) (by omega) ?_ | refine zR rfl ?_ | refine acellA ?_ | refine zB H b1 rfl ?_ | refine zC H b1 ?_ | refine zB H b2 rfl ?_ | refine zC H b2 ?_ | refine zB H b3 rfl ?_ | refine zC H b3 ?_ | refine zB H b4 rfl ?_ | refine zC H b4 ?_ | (apply zL H; (· repeat first | exact .h | apply AtK.t); (· rfl)) | (apply zA H; (· repeat first | exact .h | apply AtK.t)) | (apply zS H; (· repeat first | exact .h | apply AtK.t); (· rfl); (conv => whnf); clear H; intro τ H) | rw [List.length_map]); ((conv => whnf); (repeat ((first | with_reducible (first | refine zT rfl ?_ | refine zF rfl ?_ | refine zY rfl ?_) | refine zY (by decide) ?_ | refine zN (by decide) ?_ | with_reducible refine zQ ?_); (conv => whnf))))))
          refine aget (by omega) (get_spn rfl h) ?_
          ((conv => whnf); (repeat ((first | with_reducible (first | refine zT rfl ?_ | refine zF rfl ?_ | refine zY rfl ?_) | refine zY (by decide) ?_ | refine zN (by decide) ?_ | with_reducible refine zQ ?_); (conv => whnf))))
          (repeat ((first | refine zI (by omega) ?_ | refine zE (by omega) (by omega) ?_ | refine zD (by omega) (by omega) ?_ | refine zY (by omega) ?_ | refine zN (by omega) ?_ | refine amin ?_ | refine amax ?_ | refine zU (by omega) ?_ | refine z8 (by omega) ?_ | refine zX (by omega) (by omega) ?_ | refine zR rfl ?_ | refine acellA ?_ | refine zB H b1 rfl ?_ | refine zC H b1 ?_ | refine zB H b2 rfl ?_ | refine zC H b2 ?_ | refine zB H b3 rfl ?_ | refine zC H b3 ?_ | refine zB H b4 rfl ?_ | refine zC H b4 ?_ | (apply zL H; (· repeat first | exact .h | apply AtK.t); (· rfl)) | (apply zA H; (· repeat first | exact .h | apply AtK.t)) | (apply zS H; (· repeat first | exact .h | apply AtK.t); (· rfl); (conv => whnf); clear H; intro τ H) | rw [List.length_map]); ((conv => whnf); (repeat ((first | with_reducible (first | refine zT rfl ?_ | refine zF rfl ?_ | refine zY rfl ?_) | refine zY (by decide) ?_ | refine zN (by decide) ?_ | with_reducible refine zQ ?_); (conv => whnf))))))
          refine acall (sRight g[j] υ2) ?_
          rintro _ σ_ ⟨rfl, e_⟩
          obtain rfl := e_.symm
          refine ⟨?_, Ext.refl _⟩
          ((conv => whnf); (repeat ((first | with_reducible (first | refine zT rfl ?_ | refine zF rfl ?_ | refine zY rfl ?_) | refine zY (by decide) ?_ | refine zN (by decide) ?_ | with_reducible refine zQ ?_); (conv => whnf))))
          rw [r1]
          ((conv => whnf); (repeat ((first | with_reducible (first | refine zT rfl ?_ | refine zF rfl ?_ | refine zY rfl ?_) | refine zY (by decide) ?_ | refine zN (by decide) ?_ | with_reducible refine zQ ?_); (conv => whnf))))
          (repeat ((first | refine zI (by omega) ?_ | refine zE (by omega) (by omega) ?_ | refine zD (by omega) (by omega) ?_ | refine zY (by omega) ?_ | refine zN (by omega) ?_ | refine amin ?_ | refine amax ?_ | refine zU (by omega) ?_ | refine z8 (by omega) ?_ | refine zX (by omega) (by omega) ?_ | refine zR rfl ?_ | refine acellA ?_ | refine zB H b1 rfl ?_ | refine zC H b1 ?_ | refine zB H b2 rfl ?_ | refine zC H b2 ?_ | refine zB H b3 rfl ?_ | refine zC H b3 ?_ | refine zB H b4 rfl ?_ | refine zC H b4 ?_ | (apply zL H; (· repeat first | exact .h | apply AtK.t); (· rfl)) | (apply zA H; (· repeat first | exact .h | apply AtK.t)) | (apply zS H; (· repeat first | exact .h | apply AtK.t); (· rfl); (conv => whnf); clear H; intro τ H) | rw [List.length_map]); ((conv => whnf); (repeat ((first | with_reducible (first | refine zT rfl ?_ | refine zF rfl ?_ | refine zY rfl ?_) | refine zY (by decide) ?_ | refine zN (by decide) ?_ | with_reducible refine zQ ?_); (conv => whnf))))))
          refine aget (by omega) (get_spn rfl h) ?_
          ((conv => whnf); (repeat ((first | with_reducible (first | refine zT rfl ?_ | refine zF rfl ?_ | refine zY rfl ?_) | refine zY (by decide) ?_ | refine zN (by decide) ?_ | with_reducible refine zQ ?_); (conv => whnf))))
          (repeat ((first | refine zI (by omega) ?_ | refine zE (by omega) (by omega) ?_ | refine zD (by omega) (by omega) ?_ | refine zY (by omega) ?_ | refine zN (by omega) ?_ | refine amin ?_ | refine amax ?_ | refine zU (by omega) ?_ | refine z8 (by omega) ?_ | refine zX (by omega) (by omega) ?_ | refine zR rfl ?_ | refine acellA ?_ | refine zB H b1 rfl ?_ | refine zC H b1 ?_ | refine zB H b2 rfl ?_ | refine zC H b2 ?_ | refine zB H b3 rfl ?_ | refine zC H b3 ?_ | refine zB H b4 rfl ?_ | refine zC H b4 ?_ | (apply zL H; (· repeat first | exact .h | apply AtK.t); (· rfl)) | (apply zA H; (· repeat first | exact .h | apply AtK.t)) | (apply zS H; (· repeat first | exact .h | apply AtK.t); (· rfl); (conv => whnf); clear H; intro τ H) | rw [List.length_map]); ((conv => whnf); (repeat ((first | with_reducible (first | refine zT rfl ?_ | refine zF rfl ?_ | refine zY rfl ?_) | refine zY (by decide) ?_ | refine zN (by decide) ?_ | with_reducible refine zQ ?_); (conv => whnf))))))
          refine aget (by omega) (get_spn rfl h) ?_
          ((conv => whnf); (repeat ((first | with_reducible (first | refine zT rfl ?_ | refine zF rfl ?_ | refine zY rfl ?_) | refine zY (by decide) ?_ | refine zN (by decide) ?_ | with_reducible refine zQ ?_); (conv => whnf))))
          (repeat ((first | refine zI (by omega) ?_ | refine zE (by omega) (by omega) ?_ | refine zD (by omega) (by omega) ?_ | refine zY (by omega) ?_ | refine zN (by omega) ?_ | refine amin ?_ | refine amax ?_ | refine zU (by omega) ?_ | refine z8 (by omega) ?_ | refine zX (by omega) (by omega) ?_ | refine zR rfl ?_ | refine acellA ?_ | refine zB H b1 rfl ?_ | refine zC H b1 ?_ | refine zB H b2 rfl ?_ | refine zC H b2 ?_ | refine zB H b3 rfl ?_ | refine zC H b3 ?_ | refine zB H b4 rfl ?_ | refine zC H b4 ?_ | (apply zL H; (· repeat first | exact .h | apply AtK.t); (· rfl)) | (apply zA H; (· repeat first | exact .h | apply AtK.t)) | (apply zS H; (· repeat first | exact .h | apply AtK.t); (· rfl); (conv => whnf); clear H; intro τ H) | rw [List.length_map]); ((conv => whnf); (repeat ((first | with_reducible (first | refine zT rfl ?_ | refine zF rfl ?_ | refine zY rfl ?_) | refine zY (by decide) ?_ | refine zN (by decide) ?_ | with_reducible refine zQ ?_); (conv => whnf))))))
          refine acall (sTouches g[j] (H.get (k := 0) rfl) ka.mid) ?_
          rintro _ σ_ ⟨rfl, e_⟩
          obtain rfl := e_.symm
          refine ⟨?_, Ext.refl _⟩
          ((conv => whnf); (repeat ((first | with_reducible (first | refine zT rfl ?_ | refine zF rfl ?_ | refine zY rfl ?_) | refine zY (by decide) ?_ | refine zN (by decide) ?_ | with_reducible refine zQ ?_); (conv => whnf))))
          rw [r3]
          ((conv => whnf); (repeat ((first | with_reducible (first | refine zT rfl ?_ | refine zF rfl ?_ | refine zY rfl ?_) | refine zY (by decide) ?_ | refine zN (by decide) ?_ | with_reducible refine zQ ?_); (conv => whnf))))
          (repeat ((first | refine zI (by omega) ?_ | refine zE (by omega) (by omega) ?_ | refine zD (by omega) (by omega) ?_ | refine zY (by omega) ?_ | refine zN (by omega) ?_ | refine amin ?_ | refine amax ?_ | refine zU (by omega) ?_ | refine z8 (by omega) ?_ | refine zX (by omega) (by omega) ?_ | refine zR rfl ?_ | refine acellA ?_ | refine zB H b1 rfl ?_ | refine zC H b1 ?_ | refine zB H b2 rfl ?_ | refine zC H b2 ?_ | refine zB H b3 rfl ?_ | refine zC H b3 ?_ | refine zB H b4 rfl ?_ | refine zC H b4 ?_ | (apply zL H; (· repeat first | exact .h | apply AtK.t); (· rfl)) | (apply zA H; (· repeat first | exact .h | apply AtK.t)) | (apply zS H; (· repeat first | exact .h | apply AtK.t); (· rfl); (conv => whnf); clear H; intro τ H) | rw [List.length_map]); ((conv => whnf); (repeat ((first | with_reducible (first | refine zT rfl ?_ | refine zF rfl ?_ | refine zY rfl ?_) | refine zY (by decide) ?_ | refine zN (by decide) ?_ | with_reducible refine zQ ?_); (conv => whnf))))))
          refine aget (by omega) (get_spn rfl h) ?_
          ((conv => whnf); (repeat ((first | with_reducible (first | refine zT rfl ?_ | refine zF rfl ?_ | refine zY rfl ?_) | refine zY (by decide) ?_ | refine zN (by decide) ?_ | with_reducible refine zQ ?_); (conv => whnf))))
          (repeat ((first | refine zI (by omega) ?_ | refine zE (by omega) (by omega) ?_ | refine zD (by omega) (by omega) ?_ | refine zY (by omega) ?_ | refine zN (by omega) ?_ | refine amin ?_ | refine amax ?_ | refine zU (by omega) ?_ | refine z8 (by omega) ?_ | refine zX (by omega) (by omega) ?_ | refine zR rfl ?_ | refine acellA ?_ | refine zB H b1 rfl ?_ | refine zC H b1 ?_ | refine zB H b2 rfl ?_ | refine zC H b2 ?_ | refine zB H b3 rfl ?_ | refine zC H b3 ?_ | refine zB H b4 rfl ?_ | refine zC H b4 ?_ | (apply zL H; (· repeat first | exact .h | apply AtK.t); (· rfl)) | (apply zA H; (· repeat first | exact .h | apply AtK.t)) | (apply zS H; (· repeat first | exact .h | apply AtK.t); (· rfl); (conv => whnf); clear H; intro τ H) | rw [List.length_map]); ((conv => whnf); (repeat ((first | with_reducible (first | refine zT rfl ?_ | refine zF rfl ?_ | refine zY rfl ?_) | refine zY (by decide) ?_ | refine zN (by decide) ?_ | with_reducible refine zQ ?_); (conv => whnf))))))
          refine aget (by omega) (get_spn rfl h) ?_
          ((conv => whnf); (repeat ((first | with_reducible (first | refine zT rfl ?_ | refine zF rfl ?_ | refine zY rfl ?_) | refine zY (by decide) ?_ | refine zN (by decide) ?_ | with_reducible refine zQ ?_); (conv => whnf))))
          (repeat ((first | refine zI (by omega) ?_ | refine zE (by omega) (by omega) ?_ | refine zD (by omega) (by omega) ?_ | refine zY (by omega) ?_ | refine zN (by omega) ?_ | refine amin ?_ | refine amax ?_ | refine zU (by omega) ?_ | refine z8 (by omega) ?_ | refine zX (by omega) (by omega) ?_ | refine zR rfl ?_ | refine acellA ?_ | refine zB H b1 rfl ?_ | refine zC H b1 ?_ | refine zB H b2 rfl ?_ | refine zC H b2 ?_ | refine zB H b3 rfl ?_ | refine zC H b3 ?_ | refine zB H b4 rfl ?_ | refine zC H b4 ?_ | (apply zL H; (· repeat first | exact .h | apply AtK.t); (· rfl)) | (apply zA H; (· repeat first | exact .h | apply AtK.t)) | (apply zS H; (· repeat first | exact .h | apply AtK.t); (· rfl); (conv => whnf); clear H; intro τ H) | rw [List.length_map]); ((conv => whnf); (repeat ((first | with_reducible (first | refine zT rfl ?_ | refine zF rfl ?_ | refine zY rfl ?_) | refine zY (by decide) ?_ | refine zN (by decide) ?_ | with_reducible refine zQ ?_); (conv => whnf))))))
          have e3 : insV to l + cntL (g.take (j + 1)) = insV to l + cntL (g.take j) + g[j].2 - g[j].1 := by omega
          refine ⟨j + 1, ⟨h, by omega, by omega⟩, by omega, Sub.refl _, ?_⟩
          rw [e3]
          ((conv => whnf); (repeat ((first | with_reducible (first | refine zT rfl ?_ | refine zF rfl ?_ | refine zY rfl ?_) | refine zY (by decide) ?_ | refine zN (by decide) ?_ | with_reducible refine zQ ?_); (conv => whnf))))
          (repeat' first | with_reducible exact EnvLe.refl _ | (refine EnvLe.node ?_ (by first | exact Or.inl rfl | exact Or.inr (Or.inl rfl) | exact Or.inr (Or.inr ⟨nofun, VLe.slice _ _ _⟩)) ?_))
        · rw [List.take_of_length_le (by omega)]
          (repeat ((first | refine zI (by omega) ?_ | refine zE (by omega) (by omega) ?_ | refine zD (by omega) (by omega) ?_ | refine zY (by omega) ?_ | refine zN (by omega) ?_ | refine amin ?_ | refine amax ?_ | refine zU (by omega) ?_ | refine z8 (by omega) ?_ | refine zX (by omega) (by omega) ?_ | refine zR rfl ?_ | refine acellA ?_ | refine zB H b1 rfl ?_ | refine zC H b1 ?_ | refine zB H b2 rfl ?_ | refine zC H b2 ?_ | refine zB H b3 rfl ?_ | refine zC H b3 ?_ | refine zB H b4 rfl ?_ | refine zC H b4 ?_ | (apply zL H; (· repeat first | exact .h | apply AtK.t); (· rfl)) | (apply zA H; (· repeat first | exact .h | apply AtK.t)) | (apply zS H; (· repeat first | exact .h | apply AtK.t); (· rfl); (conv => whnf); clear H; intro τ H) | rw [List.length_map]); ((conv => whnf); (repeat ((first | with_reducible (first | refine zT rfl ?_ | refine zF rfl ?_ | refine zY rfl ?_) | refine zY (by decide) ?_ | refine zN (by decide) ?_ | with_reducible refine zQ ?_); (conv => whnf))))))
          refine acall (sAlive υ2) ?_
          rintro _ σ_ ⟨rfl, e_⟩
          obtain rfl := e_.symm
          refine ⟨?_, Ext.refl _⟩
          ((conv => whnf); (repeat ((first | with_reducible (first | refine zT rfl ?_ | refine zF rfl ?_ | refine zY rfl ?_) | refine zY (by decide) ?_ | refine zN (by decide) ?_ | with_reducible refine zQ ?_); (conv => whnf))))
          (repeat ((first | refine zI (by omega) ?_ | refine zE (by omega) (by omega) ?_ | refine zD (by omega) (by omega) ?_ | refine zY (by omega) ?_ | refine zN (by omega) ?_ | refine amin ?_ | refine amax ?_ | refine zU (by omega) ?_ | refine z8 (by omega) ?_ | refine zX (by omega) (by omega) ?_ | refine zR rfl ?_ | refine acellA ?_ | refine zB H b1 rfl ?_ | refine zC H b1 ?_ | refine zB H b2 rfl ?_ | refine zC H b2 ?_ | refine zB H b3 rfl ?_ | refine zC H b3 ?_ | refine zB H b4 rfl ?_ | refine zC H b4 ?_ | (apply zL H; (· repeat first | exact .h | apply AtK.t); (· rfl)) | (apply zA H; (· repeat first | exact .h | apply AtK.t)) | (apply zS H; (· repeat first | exact .h | apply AtK.t); (· rfl); (conv => whnf); clear H; intro τ H) | rw [List.length_map]); ((conv => whnf); (repeat ((first | with_reducible (first | refine zT rfl ?_ | refine zF rfl ?_ | refine zY rfl ?_) | refine zY (by decide) ?_ | refine zN (by decide) ?_ | with_reducible refine zQ ?_); (conv => whnf))))))
          exact aret (VLe.refl _) H.sub ⟨congrArg boolv (decide_eq_true (by omega)), rfl⟩
end Go.Proofs.Ytghbcleokmcdeaa
/-
  The document's sets of places against sets of spans.
-/
namespace Go.Proofs.Ytghbcleokmcdeaa
set_option linter.unusedVariables false
set_option linter.unusedSimpArgs false
open Go Go.Am

theorem Hp.dropmid {σb σ : AHeap} {A B C : List HE} (H : Hp σb (A ++ (B ++ C)) σ) : Hp σb (A ++ C) σ := by
  have h1 : Hp σb ((A ++ C) ++ B) σ := H.perm (by
    rw [List.append_assoc]
    exact List.Perm.append_left A List.perm_append_comm)
  exact h1.left
theorem Hp.right {σb τ : AHeap} {L M : List HE} (H : Hp σb (L ++ M) τ) : Hp σb M τ := (H.comm L M).left
theorem RT2.dvt {σb σ : AHeap} {v : AVal} {L : List Bool} {E F : List HE} (h : RT2 v L E) (H : Hp σb (F ++ E) σ) : TOk σ v L := h.dv (F := F) (G := []) (by rw [List.append_nil]; exact H)
theorem TOk.up {σ τ : AHeap} {v : AVal} {L : List Bool} (h : TOk σ v L) (e : Ext σ τ) : TOk τ v L := by
  rcases h with h | ⟨r, h1, h2, h3⟩
  · exact .inl h
  · exact .inr ⟨r, h1, e _ _ rfl h2, h3⟩
/-- What comes of a change. -/
inductive Chg (v : AVal) (L : List Bool) (x : Sp) (is : Bool) : Int → AVal → List Bool → List HE → Prop
  | arg : spRight x = false → Chg v L x is 1 v L []
  | full (M : List Bool) : spRight x = true → Withs L M x is → 2048 < (runT M true M.length).length → Chg v L x is 5 v L []
  | ok (M : List Bool) (v' : AVal) (E : List HE) : spRight x = true → Withs L M x is → (runT M true M.length).length ≤ 2048 → RT2 v' M E → Chg v L x is 0 v' M E
theorem RS2.len {w : AVal} {l : List Sp} {E : List HE} (h : RS2 w l E) : (∃ t, w = .slice 2 [] t ∧ l.length = 0) ∨ ∃ r, w = .ms r 2 0 l.length := by
  cases h with
  | nil => exact .inl ⟨_, rfl, rfl⟩
  | row r l hl => exact .inr ⟨r, rfl⟩
theorem rChange03 {σ : AHeap} {v : AVal} {L : List Bool} (hd : TOk σ v L) (x : Sp) (is : Bool) (hL : L.length ≤ 65536) : ACalls Try.prog i_bowlineref03_Set_Change [.agg [v], spV x, boolv is] σ fun w σ' => ∃ c v' L' E, w = .tup [.agg [v'], i64v c] ∧ Chg v L x is c v' L' E ∧ Hp σ E σ' := by
  obtain ⟨a, b⟩ := x
  have hvc := hd.isCell
  refine k_bowlineref03_Set_Change rfl ?_
  have H := Hp.nil σ
  ((conv => whnf); (repeat ((first | with_reducible (first | refine zT rfl ?_ | refine zF rfl ?_ | refine zY rfl ?_) | refine zY (by decide) ?_ | refine zN (by decide) ?_ | with_reducible refine zQ ?_); (conv => whnf))))
  refine hnew H (by simp [AVal.cells, hvc]) ?_
  clear H
  intro js τ H
  replace H : Hp σ [.o js (.cells [v])] τ := H
  ((conv => whnf); (repeat ((first | with_reducible (first | refine zT rfl ?_ | refine zF rfl ?_ | refine zY rfl ?_) | refine zY (by decide) ?_ | refine zN (by decide) ?_ | with_reducible refine zQ ?_); (conv => whnf))))
  refine hnew H rfl ?_
  clear H
  intro jx τ H
  ((conv => whnf); (repeat ((first | with_reducible (first | refine zT rfl ?_ | refine zF rfl ?_ | refine zY rfl ?_) | refine zY (by decide) ?_ | refine zN (by decide) ?_ | with_reducible refine zQ ?_); (conv => whnf))))
  refine hnew H rfl ?_
  clear H
  intro jo τ H
  ((conv => whnf); (repeat ((first | with_reducible (first | refine zT rfl ?_ | refine zF rfl ?_ | refine zY rfl ?_) | refine zY (by decide) ?_ | refine zN (by decide) ?_ | with_reducible refine zQ ?_); (conv => whnf))))
  replace H : Hp σ [.o jo (.cells [.slice 1 [] .full]), .o jx (.cells [i64v a, i64v b]), .o js (.cells [v])] τ := H
  (repeat ((first | refine zI (by omega) ?_ | refine zE (by omega) (by omega) ?_ | refine zD (by omega) (by omega) ?_ | refine zY (by omega) ?_ | refine zN (by omega) ?_ | refine amin ?_ | refine amax ?_ | refine zU (by omega) ?_ | refine z8 (by omega) ?_ | refine zX (by omega) (by omega) ?_ | refine zR rfl ?_ | refine acellA ?_ | refine zB H b1 rfl ?_ | refine zC H b1 ?_ | refine zB H b2 rfl ?_ | refine zC H b2 ?_ | refine zB H b3 rfl ?_ | refine zC H b3 ?_ | refine zB H b4 rfl ?_ | refine zC H b4 ?_ | (apply zL H; (· repeat first | exact .h | apply AtK.t); (· rfl)) | (apply zA H; (· repeat first | exact .h | apply AtK.t)) | (apply zS H; (· repeat first | exact .h | apply AtK.t); (· rfl); (conv => whnf); clear H; intro τ H) | rw [List.length_map]); ((conv => whnf); (repeat ((first | with_reducible (first | refine zT rfl ?_ | refine zF rfl ?_ | refine zY rfl ?_) | refine zY (by decide) ?_ | refine zN (by decide) ?_ | with_reducible refine zQ ?_); (conv => whnf))))))
  refine acall (rRight03 (a, b) τ) ?_
  rintro _ σ_ ⟨rfl, e_⟩
  obtain rfl := e_.symm
  refine ⟨?_, Ext.refl _⟩
  ((conv => whnf); (repeat ((first | with_reducible (first | refine zT rfl ?_ | refine zF rfl ?_ | refine zY rfl ?_) | refine zY (by decide) ?_ | refine zN (by decide) ?_ | with_reducible refine zQ ?_); (conv => whnf))))
  cases hr : spRight (a, b)
  · ((conv => whnf); (repeat ((first | with_reducible (first | refine zT rfl ?_ | refine zF rfl ?_ | refine zY rfl ?_) | refine zY (by decide) ?_ | refine zN (by decide) ?_ | with_reducible refine zQ ?_); (conv => whnf))))
    (repeat ((first | refine zI (by omega) ?_ | refine zE (by omega) (by omega) ?_ | refine zD (by omega) (by omega) ?_ | refine zY (by omega) ?_ | refine zN (by omega) ?_ | refine amin ?_ | refine amax ?_ | refine zU (by omega) ?_ | refine z8 (by omega) ?_ | refine zX (by omega) (by omega) ?_ | refine zR rfl ?_ | refine acellA ?_ | refine zB H b1 rfl ?_ | refine zC H b1 ?_ | refine zB H b2 rfl ?_ | refine zC H b2 ?_ | refine zB H b3 rfl ?_ | refine zC H b3 ?_ | refine zB H b4 rfl ?_ | refine zC H b4 ?_ | (apply zL H; (· repeat first | exact .h | apply AtK.t); (· rfl)) | (apply zA H; (· repeat first | exact .h | apply AtK.t)) | (apply zS H; (· repeat first | exact .h | apply AtK.t); (· rfl); (conv => whnf); clear H; intro τ H) | rw [List.length_map]); ((conv => whnf); (repeat ((first | with_reducible (first | refine zT rfl ?_ | refine zF rfl ?_ | refine zY rfl ?_) | refine zY (by decide) ?_ | refine zN (by decide) ?_ | with_reducible refine zQ ?_); (conv => whnf))))))
    refine zS H (k := 0) .h (by simp [AVal.cells, hvc]) ?_
    (conv => whnf)
    clear H
    intro τ H
    ((conv => whnf); (repeat ((first | with_reducible (first | refine zT rfl ?_ | refine zF rfl ?_ | refine zY rfl ?_) | refine zY (by decide) ?_ | refine zN (by decide) ?_ | with_reducible refine zQ ?_); (conv => whnf))))
    (repeat ((first | refine zI (by omega) ?_ | refine zE (by omega) (by omega) ?_ | refine zD (by omega) (by omega) ?_ | refine zY (by omega) ?_ | refine zN (by omega) ?_ | refine amin ?_ | refine amax ?_ | refine zU (by omega) ?_ | refine z8 (by omega) ?_ | refine zX (by omega) (by omega) ?_ | refine zR rfl ?_ | refine acellA ?_ | refine zB H b1 rfl ?_ | refine zC H b1 ?_ | refine zB H b2 rfl ?_ | refine zC H b2 ?_ | refine zB H b3 rfl ?_ | refine zC H b3 ?_ | refine zB H b4 rfl ?_ | refine zC H b4 ?_ | (apply zL H; (· repeat first | exact .h | apply AtK.t); (· rfl)) | (apply zA H; (· repeat first | exact .h | apply AtK.t)) | (apply zS H; (· repeat first | exact .h | apply AtK.t); (· rfl); (conv => whnf); clear H; intro τ H) | rw [List.length_map]); ((conv => whnf); (repeat ((first | with_reducible (first | refine zT rfl ?_ | refine zF rfl ?_ | refine zY rfl ?_) | refine zY (by decide) ?_ | refine zN (by decide) ?_ | with_reducible refine zQ ?_); (conv => whnf))))))
    exact aret (VLe.refl _) H.sub ⟨1, v, L, [], rfl, .arg hr, Hp.nil σ⟩
  · ((conv => whnf); (repeat ((first | with_reducible (first | refine zT rfl ?_ | refine zF rfl ?_ | refine zY rfl ?_) | refine zY (by decide) ?_ | refine zN (by decide) ?_ | with_reducible refine zQ ?_); (conv => whnf))))
    (repeat ((first | refine zI (by omega) ?_ | refine zE (by omega) (by omega) ?_ | refine zD (by omega) (by omega) ?_ | refine zY (by omega) ?_ | refine zN (by omega) ?_ | refine amin ?_ | refine amax ?_ | refine zU (by omega) ?_ | refine z8 (by omega) ?_ | refine zX (by omega) (by omega) ?_ | refine zR rfl ?_ | refine acellA ?_ | refine zB H b1 rfl ?_ | refine zC H b1 ?_ | refine zB H b2 rfl ?_ | refine zC H b2 ?_ | refine zB H b3 rfl ?_ | refine zC H b3 ?_ | refine zB H b4 rfl ?_ | refine zC H b4 ?_ | (apply zL H; (· repeat first | exact .h | apply AtK.t); (· rfl)) | (apply zA H; (· repeat first | exact .h | apply AtK.t)) | (apply zS H; (· repeat first | exact .h | apply AtK.t); (· rfl); (conv => whnf); clear H; intro τ H) | rw [List.length_map]); ((conv => whnf); (repeat ((first | with_reducible (first | refine zT rfl ?_ | refine zF rfl ?_ | refine zY rfl ?_) | refine zY (by decide) ?_ | refine zN (by decide) ?_ | with_reducible refine zQ ?_); (conv => whnf))))))
    have hr2 := spRight_iff.1 hr
    refine acall (rWith03 (hd.up H.ext) (a, b) is (by omega) hr2) ?_
    rintro _ υ ⟨v', M, E, rfl, hv', hw, N⟩
    refine ⟨?_, N.ext⟩
    have H2 := (H.join N).comm
    clear H
    have hM : M.length ≤ 65536 := by have := hw.len; dsimp only at this hr2; omega
    have hvc' := hv'.isCell
    ((conv => whnf); (repeat ((first | with_reducible (first | refine zT rfl ?_ | refine zF rfl ?_ | refine zY rfl ?_) | refine zY (by decide) ?_ | refine zN (by decide) ?_ | with_reducible refine zQ ?_); (conv => whnf))))
    refine hnew H2 rfl ?_
    clear H2
    intro jt τ2 H
    replace H : Hp σ (.o jt (.cells [.slice 1 [] .full]) :: .o jo (.cells [.slice 1 [] .full]) :: .o jx (.cells [i64v a, i64v b]) :: .o js (.cells [v]) :: E) τ2 := H
    ((conv => whnf); (repeat ((first | with_reducible (first | refine zT rfl ?_ | refine zF rfl ?_ | refine zY rfl ?_) | refine zY (by decide) ?_ | refine zN (by decide) ?_ | with_reducible refine zQ ?_); (conv => whnf))))
    refine zS H (k := 0) .h (by simp [AVal.cells, hvc']) ?_
    (conv => whnf)
    clear H
    intro τ3 H
    replace H : Hp σ (.o jt (.cells [v']) :: .o jo (.cells [.slice 1 [] .full]) :: .o jx (.cells [i64v a, i64v b]) :: .o js (.cells [v]) :: E) τ3 := H
    ((conv => whnf); (repeat ((first | with_reducible (first | refine zT rfl ?_ | refine zF rfl ?_ | refine zY rfl ?_) | refine zY (by decide) ?_ | refine zN (by decide) ?_ | with_reducible refine zQ ?_); (conv => whnf))))
    (repeat ((first | refine zI (by omega) ?_ | refine zE (by omega) (by omega) ?_ | refine zD (by omega) (by omega) ?_ | refine zY (by omega) ?_ | refine zN (by omega) ?_ | refine amin ?_ | refine amax ?_ | refine zU (by omega) ?_ | refine z8 (by omega) ?_ | refine zX (by omega) (by omega) ?_ | refine zR rfl ?_ | refine acellA ?_ | refine zB H b1 rfl ?_ | refine zC H b1 ?_ | refine zB H b2 rfl ?_ | refine zC H b2 ?_ | refine zB H b3 rfl ?_ | refine zC H b3 ?_ | refine zB H b4 rfl ?_ | refine zC H b4 ?_ | (apply zL H; (· repeat first | exact .h | apply AtK.t); (· rfl)) | (apply zA H; (· repeat first | exact .h | apply AtK.t)) | (apply zS H; (· repeat first | exact .h | apply AtK.t); (· rfl); (conv => whnf); clear H; intro τ H) | rw [List.length_map]); ((conv => whnf); (repeat ((first | with_reducible (first | refine zT rfl ?_ | refine zF rfl ?_ | refine zY rfl ?_) | refine zY (by decide) ?_ | refine zN (by decide) ?_ | with_reducible refine zQ ?_); (conv => whnf))))))
    refine acall (rSpans03 (hv'.dvt (F := [.o jt (.cells [v']), .o jo (.cells [.slice 1 [] .full]), .o jx (.cells [i64v a, i64v b]), .o js (.cells [v])]) H) hM) ?_
    rintro _ ω ⟨E2, hE2, N2⟩
    refine ⟨?_, N2.ext⟩
    replace H : Hp σ (.o jt (.cells [v']) :: .o jo (.cells [.slice 1 [] .full]) :: .o jx (.cells [i64v a, i64v b]) :: .o js (.cells [v]) :: E) ω := (H.join N2).right
    clear N2
    have fin : ∀ {c : Int} {w : AVal} {M2 : List Bool} {E' : List HE} {υ : AHeap}, Chg v L (a, b) is c w M2 E' → Hp σ E' υ → ∃ c' v' L' E, AVal.tup [.agg [w], i64v c] = .tup [.agg [v'], i64v c'] ∧ Chg v L (a, b) is c' v' L' E ∧ Hp σ E υ := fun h1 h2 => ⟨_, _, _, _, rfl, h1, h2⟩
    by_cases hc : 2048 < (runT M true M.length).length
    · rcases hE2.len with ⟨t, rfl, h0⟩ | ⟨r, rfl⟩
      · omega
      · ((conv => whnf); (repeat ((first | with_reducible (first | refine zT rfl ?_ | refine zF rfl ?_ | refine zY rfl ?_) | refine zY (by decide) ?_ | refine zN (by decide) ?_ | with_reducible refine zQ ?_); (conv => whnf))))
        (repeat ((first | refine zI (by omega) ?_ | refine zE (by omega) (by omega) ?_ | refine zD (by omega) (by omega) ?_ | refine zY (by omega) ?_ | refine zN (by omega) ?_ | refine amin ?_ | refine amax ?_ | refine zU (by omega) ?_ | refine z8 (by omega) ?_ | refine zX (by omega) (by omega) ?_ | refine zR rfl ?_ | refine acellA ?_ | refine zB H b1 rfl ?_ | refine zC H b1 ?_ | refine zB H b2 rfl ?_ | refine zC H b2 ?_ | refine zB H b3 rfl ?_ | refine zC H b3 ?_ | refine zB H b4 rfl ?_ | refine zC H b4 ?_ | (apply zL H; (· repeat first | exact .h | apply AtK.t); (· rfl)) | (apply zA H; (· repeat first | exact .h | apply AtK.t)) | (apply zS H; (· repeat first | exact .h | apply AtK.t); (· rfl); (conv => whnf); clear H; intro τ H) | rw [List.length_map]); ((conv => whnf); (repeat ((first | with_reducible (first | refine zT rfl ?_ | refine zF rfl ?_ | refine zY rfl ?_) | refine zY (by decide) ?_ | refine zN (by decide) ?_ | with_reducible refine zQ ?_); (conv => whnf))))))
        refine zS H (k := 1) (.t .h) (by simp [AVal.cells, hvc]) ?_
        (conv => whnf)
        clear H
        intro τ H
        ((conv => whnf); (repeat ((first | with_reducible (first | refine zT rfl ?_ | refine zF rfl ?_ | refine zY rfl ?_) | refine zY (by decide) ?_ | refine zN (by decide) ?_ | with_reducible refine zQ ?_); (conv => whnf))))
        (repeat ((first | refine zI (by omega) ?_ | refine zE (by omega) (by omega) ?_ | refine zD (by omega) (by omega) ?_ | refine zY (by omega) ?_ | refine zN (by omega) ?_ | refine amin ?_ | refine amax ?_ | refine zU (by omega) ?_ | refine z8 (by omega) ?_ | refine zX (by omega) (by omega) ?_ | refine zR rfl ?_ | refine acellA ?_ | refine zB H b1 rfl ?_ | refine zC H b1 ?_ | refine zB H b2 rfl ?_ | refine zC H b2 ?_ | refine zB H b3 rfl ?_ | refine zC H b3 ?_ | refine zB H b4 rfl ?_ | refine zC H b4 ?_ | (apply zL H; (· repeat first | exact .h | apply AtK.t); (· rfl)) | (apply zA H; (· repeat first | exact .h | apply AtK.t)) | (apply zS H; (· repeat first | exact .h | apply AtK.t); (· rfl); (conv => whnf); clear H; intro τ H) | rw [List.length_map]); ((conv => whnf); (repeat ((first | with_reducible (first | refine zT rfl ?_ | refine zF rfl ?_ | refine zY rfl ?_) | refine zY (by decide) ?_ | refine zN (by decide) ?_ | with_reducible refine zQ ?_); (conv => whnf))))))
        exact aret (VLe.refl _) H.sub (fin (.full M hr hw hc) (Hp.nil σ))
    · rcases hE2.len with ⟨t, rfl, h0⟩ | ⟨r, rfl⟩
      all_goals
        ((conv => whnf); (repeat ((first | with_reducible (first | refine zT rfl ?_ | refine zF rfl ?_ | refine zY rfl ?_) | refine zY (by decide) ?_ | refine zN (by decide) ?_ | with_reducible refine zQ ?_); (conv => whnf))))
        (repeat ((first | refine zI (by omega) ?_ | refine zE (by omega) (by omega) ?_ | refine zD (by omega) (by omega) ?_ | refine zY (by omega) ?_ | refine zN (by omega) ?_ | refine amin ?_ | refine amax ?_ | refine zU (by omega) ?_ | refine z8 (by omega) ?_ | refine zX (by omega) (by omega) ?_ | refine zR rfl ?_ | refine acellA ?_ | refine zB H b1 rfl ?_ | refine zC H b1 ?_ | refine zB H b2 rfl ?_ | refine zC H b2 ?_ | refine zB H b3 rfl ?_ | refine zC H b3 ?_ | refine zB H b4 rfl ?_ | refine zC H b4 ?_ | (apply zL H; (· repeat first | exact .h | apply AtK.t); (· rfl)) | (apply zA H; (· repeat first | exact .h | apply AtK.t)) | (apply zS H; (· repeat first | exact .h | apply AtK.t); (· rfl); (conv => whnf); clear H; intro τ H) | rw [List.length_map]); ((conv => whnf); (repeat ((first | with_reducible (first | refine zT rfl ?_ | refine zF rfl ?_ | refine zY rfl ?_) | refine zY (by decide) ?_ | refine zN (by decide) ?_ | with_reducible refine zQ ?_); (conv => whnf))))))
        try
          rw [show (([] : List AVal).length : Int) = 0 from rfl]
          ((conv => whnf); (repeat ((first | with_reducible (first | refine zT rfl ?_ | refine zF rfl ?_ | refine zY rfl ?_) | refine zY (by decide) ?_ | refine zN (by decide) ?_ | with_reducible refine zQ ?_); (conv => whnf))))
          (repeat ((first | refine zI (by omega) ?_ | refine zE (by omega) (by omega) ?_ | refine zD (by omega) (by omega) ?_ | refine zY (by omega) ?_ | refine zN (by omega) ?_ | refine amin ?_ | refine amax ?_ | refine zU (by omega) ?_ | refine z8 (by omega) ?_ | refine zX (by omega) (by omega) ?_ | refine zR rfl ?_ | refine acellA ?_ | refine zB H b1 rfl ?_ | refine zC H b1 ?_ | refine zB H b2 rfl ?_ | refine zC H b2 ?_ | refine zB H b3 rfl ?_ | refine zC H b3 ?_ | refine zB H b4 rfl ?_ | refine zC H b4 ?_ | (apply zL H; (· repeat first | exact .h | apply AtK.t); (· rfl)) | (apply zA H; (· repeat first | exact .h | apply AtK.t)) | (apply zS H; (· repeat first | exact .h | apply AtK.t); (· rfl); (conv => whnf); clear H; intro τ H) | rw [List.length_map]); ((conv => whnf); (repeat ((first | with_reducible (first | refine zT rfl ?_ | refine zF rfl ?_ | refine zY rfl ?_) | refine zY (by decide) ?_ | refine zN (by decide) ?_ | with_reducible refine zQ ?_); (conv => whnf))))))
        refine zS H (k := 1) (.t .h) (by simp [AVal.cells, hvc']) ?_
        (conv => whnf)
        clear H
        intro τ H
        ((conv => whnf); (repeat ((first | with_reducible (first | refine zT rfl ?_ | refine zF rfl ?_ | refine zY rfl ?_) | refine zY (by decide) ?_ | refine zN (by decide) ?_ | with_reducible refine zQ ?_); (conv => whnf))))
        (repeat ((first | refine zI (by omega) ?_ | refine zE (by omega) (by omega) ?_ | refine zD (by omega) (by omega) ?_ | refine zY (by omega) ?_ | refine zN (by omega) ?_ | refine amin ?_ | refine amax ?_ | refine zU (by omega) ?_ | refine z8 (by omega) ?_ | refine zX (by omega) (by omega) ?_ | refine zR rfl ?_ | refine acellA ?_ | refine zB H b1 rfl ?_ | refine zC H b1 ?_ | refine zB H b2 rfl ?_ | refine zC H b2 ?_ | refine zB H b3 rfl ?_ | refine zC H b3 ?_ | refine zB H b4 rfl ?_ | refine zC H b4 ?_ | (apply zL H; (· repeat first | exact .h | apply AtK.t); (· rfl)) | (apply zA H; (· repeat first | exact .h | apply AtK.t)) | (apply zS H; (· repeat first | exact .h | apply AtK.t); (· rfl); (conv => whnf); clear H; intro τ H) | rw [List.length_map]); ((conv => whnf); (repeat ((first | with_reducible (first | refine zT rfl ?_ | refine zF rfl ?_ | refine zY rfl ?_) | refine zY (by decide) ?_ | refine zN (by decide) ?_ | with_reducible refine zQ ?_); (conv => whnf))))))
        exact aret (VLe.refl _) (Sub.refl _) (fin (.ok M v' E hr hw (by omega) hv') H.tail.tail.tail.tail)
end Go.Proofs.Ytghbcleokmcdeaa
/-
  The statements of spans: a set tells what the document says.
-/
namespace Go.Proofs.Ytghbcleokmcdeaa
set_option linter.unusedVariables false
set_option linter.unusedSimpArgs false
open Go Go.Am

structure Rel (l : List Sp) (L : List Bool) : Prop where
  len : L.length ≤ 65536
  has : ∀ p : Int, hasP l p ↔ 0 ≤ p ∧ bitT L p.toNat = true
theorem bitT_lt {L : List Bool} {i : Nat} (h : bitT L i = true) : i < L.length := by
  rcases Nat.lt_or_ge i L.length with q | q
  · exact q
  · rw [bitT_no q] at h; cases h
theorem rel_run {m : List Sp} {M : List Bool} (h : Nrm (-1) m) (k : Rel m M) : runT M true M.length = m := by
  refine runs_eq k.len h fun p => ?_
  rw [k.has p]
  constructor
  · rintro ⟨a, b⟩
    exact ⟨a, by have := bitT_lt b; omega, by rw [b]; rfl⟩
  · rintro ⟨a, b, c⟩
    exact ⟨a, by simpa using c⟩
theorem rel_gap {m : List Sp} {M : List Bool} (h : SOk m) (k : Rel m M) (to : Int) : gapsV to m = if 1 ≤ to ∧ to ≤ 65536 then runT M false to.toNat else [] := by
  unfold gapsV
  by_cases ht : 1 ≤ to ∧ to ≤ 65536
  · rw [if_pos ht, if_pos ht]
    obtain ⟨h1, h2⟩ := gapsL_spec (to := to) ht.2 (k := 0) (l := m) h.n
    refine (runs_eq (by omega) h1 fun p => ?_).symm
    rw [h2 p, k.has p]
    constructor
    · rintro ⟨a, b, c⟩
      refine ⟨a, by omega, ?_⟩
      cases hb : bitT M p.toNat
      · rfl
      · exact (c ⟨a, hb⟩).elim
    · rintro ⟨a, b, c⟩
      refine ⟨a, by omega, fun q => ?_⟩
      rw [q.2] at c; cases c
  · rw [if_neg ht, if_neg ht]
theorem rel_cnt {m : List Sp} {M : List Bool} (h : SOk m) (k : Rel m M) : ((cntT M (0, (M.length : Int)) : Nat) : Int) = cntL m := by
  rw [cnt_runs (f := bitT M) k.len h.n fun p => by
    rw [k.has p]
    exact ⟨fun ⟨a, b⟩ => ⟨a, by have := bitT_lt b; omega, b⟩, fun ⟨a, _, b⟩ => ⟨a, b⟩⟩]
  unfold cntT
  dsimp only
  rw [Int.toNat_natCast]
  congr 2
theorem rel_split {m : List Sp} {M : List Bool} {x : Sp} (hr : spRight x = true) : (x.2.toNat - x.1.toNat) = (List.range x.2.toNat).countP (fun i => decide (x.1.toNat ≤ i ∧ i < x.2.toNat) && !cntG M x.1 i) + cntT M x := by
  have hx := spRight_iff.1 hr
  have e := countP_split (f := fun i => decide (x.1.toNat ≤ i ∧ i < x.2.toNat)) (g := cntG M x.1) (l := List.range x.2.toNat) fun i hi hg => by
    unfold cntG at hg
    rw [Bool.and_eq_true] at hg
    have := of_decide_eq_true hg.1
    have := List.mem_range.1 hi
    exact decide_eq_true ⟨by omega, this⟩
  rw [countP_mid (by omega)] at e
  unfold cntT
  omega
theorem rel_all {m : List Sp} {M : List Bool} (h : SOk m) (k : Rel m M) {x : Sp} (hr : spRight x = true) : hasS x m = decide (((cntT M x : Nat) : Int) = x.2 - x.1) := by
  have hx := spRight_iff.1 hr
  have e := rel_split (m := m) (M := M) hr
  rw [Bool.eq_iff_iff, hasS_iff h, decide_eq_true_iff]
  have hz : ((cntT M x : Nat) : Int) = x.2 - x.1 ↔ (List.range x.2.toNat).countP (fun i => decide (x.1.toNat ≤ i ∧ i < x.2.toNat) && !cntG M x.1 i) = 0 := by omega
  rw [hz, List.countP_eq_zero]
  constructor
  · rintro ⟨_, q⟩ i hi
    have hi := List.mem_range.1 hi
    by_cases c : x.1.toNat ≤ i
    · have := ((k.has i).1 (q i (by omega) (by omega))).2
      rw [Int.toNat_natCast] at this
      unfold cntG
      rw [this, decide_eq_true (show x.1 ≤ (i : Int) by omega)]; simp
    · rw [decide_eq_false (fun h => c h.1)]; simp
  · intro q
    refine ⟨hr, fun p a b => ?_⟩
    have := q p.toNat (List.mem_range.2 (by omega))
    rw [decide_eq_true (show x.1.toNat ≤ p.toNat ∧ p.toNat < x.2.toNat by omega)] at this
    refine (k.has p).2 ⟨by omega, ?_⟩
    unfold cntG at this
    cases hb : bitT M p.toNat
    · rw [hb] at this; simp at this
    · rfl
theorem rel_any {m : List Sp} {M : List Bool} (h : SOk m) (k : Rel m M) {x : Sp} (hr : spRight x = true) : tchS x m = decide (((cntT M x : Nat) : Int) > 0) := by
  have hx := spRight_iff.1 hr
  rw [Bool.eq_iff_iff, tchS_iff h, decide_eq_true_iff]
  have hz : ((cntT M x : Nat) : Int) > 0 ↔ 0 < (List.range x.2.toNat).countP (cntG M x.1) := by unfold cntT; omega
  rw [hz, List.countP_pos_iff]
  constructor
  · rintro ⟨_, p, a, b, c⟩
    have := (k.has p).1 c
    refine ⟨p.toNat, List.mem_range.2 (by omega), ?_⟩
    unfold cntG
    rw [this.2, decide_eq_true (by omega)]; rfl
  · rintro ⟨i, hi, q⟩
    have hi := List.mem_range.1 hi
    unfold cntG at q
    rw [Bool.and_eq_true] at q
    have := of_decide_eq_true q.1
    exact ⟨hr, i, this, by omega, (k.has i).2 ⟨by omega, by rw [Int.toNat_natCast]; exact q.2⟩⟩
theorem with_len {L M : List Bool} {x : Sp} {is : Bool} (hr : spRight x = true) (hL : L.length ≤ 65536) (hw : Withs L M x is) : M.length ≤ 65536 := by
  have := spRight_iff.1 hr
  have := hw.len
  omega
theorem rel_add {l : List Sp} {L M : List Bool} {x : Sp} (h : SOk l) (k : Rel l L) (hr : spRight x = true) (hw : Withs L M x true) : Nrm (-1) (addL x false l) ∧ Rel (addL x false l) M := by
  have hx := spRight_iff.1 hr
  obtain ⟨h1, h2⟩ := addL_spec h.n (x := x) (by omega) hx.2.1 hx.2.2
  refine ⟨h1, with_len hr k.len hw, fun p => ?_⟩
  rw [h2 p, k.has p]
  constructor
  · rintro (⟨a, b⟩ | ⟨a, b⟩)
    · refine ⟨a, ?_⟩
      rw [hw.bit]; split
      · rfl
      · exact b
    · exact ⟨by omega, by rw [hw.bit, if_pos (by omega)]⟩
  · rintro ⟨a, b⟩
    rw [hw.bit] at b
    split at b
    · exact .inr (by omega)
    · exact .inl ⟨a, b⟩
theorem rel_tak {l : List Sp} {L M : List Bool} {x : Sp} (h : SOk l) (k : Rel l L) (hr : spRight x = true) (hw : Withs L M x false) : Nrm (-1) (takeL x l) ∧ Rel (takeL x l) M := by
  have hx := spRight_iff.1 hr
  obtain ⟨h1, h2⟩ := takeL_spec h.n (x := x) hx.2.1
  refine ⟨h1, with_len hr k.len hw, fun p => ?_⟩
  rw [h2 p, k.has p]
  constructor
  · rintro ⟨⟨a, b⟩, c⟩
    refine ⟨a, ?_⟩
    rw [hw.bit, if_neg (fun q => c (by omega))]
    exact b
  · rintro ⟨a, b⟩
    rw [hw.bit] at b
    split at b
    · cases b
    · exact ⟨⟨a, b⟩, fun q => by omega⟩
theorem chg_add {v v' : AVal} {l : List Sp} {L L' : List Bool} {E' : List HE} {x : Sp} {c : Int} (h : SOk l) (k : Rel l L) (hc : Chg v L x true c v' L' E') : c = addC x l ∧ Rel (addS x l) L' ∧ ((E' = [] ∧ v' = v ∧ L' = L) ∨ RT2 v' L' E') := by
  cases hc with
  | arg hr =>
    have e : addC x l = 1 := by unfold addC; rw [hr]; rfl
    exact ⟨e.symm, by rw [add_no (by omega)]; exact k, .inl ⟨rfl, rfl, rfl⟩⟩
  | full M hr hw hM =>
    obtain ⟨h1, h2⟩ := rel_add h k hr hw
    rw [rel_run h1 h2] at hM
    have e : addC x l = 5 := by unfold addC; rw [if_pos hr]; unfold spCode; rw [if_pos hM]
    exact ⟨e.symm, by rw [add_no (by omega)]; exact k, .inl ⟨rfl, rfl, rfl⟩⟩
  | ok M _ _ hr hw hM hv =>
    obtain ⟨h1, h2⟩ := rel_add h k hr hw
    rw [rel_run h1 h2] at hM
    have e : addC x l = 0 := by unfold addC; rw [if_pos hr]; unfold spCode; rw [if_neg (by omega)]
    exact ⟨e.symm, by rw [(addC_zero e).2.2]; exact h2, .inr hv⟩
theorem chg_tak {v v' : AVal} {l : List Sp} {L L' : List Bool} {E' : List HE} {x : Sp} {c : Int} (h : SOk l) (k : Rel l L) (hc : Chg v L x false c v' L' E') : c = takC x l ∧ Rel (takS x l) L' ∧ ((E' = [] ∧ v' = v ∧ L' = L) ∨ RT2 v' L' E') := by
  cases hc with
  | arg hr =>
    have e : takC x l = 1 := by unfold takC; rw [hr]; rfl
    exact ⟨e.symm, by rw [tak_no (by omega)]; exact k, .inl ⟨rfl, rfl, rfl⟩⟩
  | full M hr hw hM =>
    obtain ⟨h1, h2⟩ := rel_tak h k hr hw
    rw [rel_run h1 h2] at hM
    have e : takC x l = 5 := by unfold takC; rw [if_pos hr]; unfold spCode; rw [if_pos hM]
    exact ⟨e.symm, by rw [tak_no (by omega)]; exact k, .inl ⟨rfl, rfl, rfl⟩⟩
  | ok M _ _ hr hw hM hv =>
    obtain ⟨h1, h2⟩ := rel_tak h k hr hw
    rw [rel_run h1 h2] at hM
    have e : takC x l = 0 := by unfold takC; rw [if_pos hr]; unfold spCode; rw [if_neg (by omega)]
    exact ⟨e.symm, by rw [(takC_zero e).2.2]; exact h2, .inr hv⟩
end Go.Proofs.Ytghbcleokmcdeaa
