/-
  Texts of this claim, part 5: Cstatr, Clawsta.
-/
import Derived.Test.YtnfdgccmpglbhaaStatusWritesM3
/-
  Statuses: reading one.
-/
namespace Go.Proofs.Ytnfdgccmpglbhaa
set_option linter.unusedVariables false
set_option linter.unusedSimpArgs false
open Go Go.Am

/-- The misses behind a place; how many more there may be. -/
def readMs (w : Int) (b : List UInt8) : Nat → List Ms → Nat × Int → Bool → List Ms × Int
  | 0, _, _, _ => ([], 0)
  | f + 1, ms, p, more =>
    if p.2 ≠ 0 then ([], p.2)
    else if more = true then
      (if ms.length = 32 then ([], 2)
      else if (missEnd w (unpack b) p).2 = 0 ∧ missOk w (missRead w (unpack b) p) = false then ([], 3)
      else readMs w b f (ms ++ [missRead w (unpack b) p]) (missEnd w (unpack b) p) (missMore w (unpack b) p))
    else if restOk (unpack b) p.1 = true ∧ b.drop ((p.1 + 7) / 8) = [] then (ms, 0) else ([], 3)
def readSt (w : Int) (b : List UInt8) : (Int × List Ms) × Int :=
  if stWidth w = false then ((0, []), 9)
  else match b with
    | [] => ((0, []), 8)
    | x :: _ =>
      if x.toNat / 128 ≠ 0 then ((0, []), 4) else if x.toNat / 16 ≠ 0 then ((0, []), 3)
      else
        let p4 := gNext (unpack b).length (0, 0) 4
        let pa := gNext (unpack b).length p4 w
        let r := readMs w b 33 [] (gNext (unpack b).length pa 1) (decide (gVal (unpack b) pa.1 pa.2 1 = 1))
        if r.2 = 0 then (((gVal (unpack b) p4.1 p4.2 w : Int), r.1), 0) else ((0, []), r.2)
theorem and128 (x : UInt8) : bitsOp .and .u8 (x.toNat : Int) 128 = ((x.toNat / 128 * 128 : Nat) : Int) := by
  have h : ∀ n : Fin 256, bitsOp .and .u8 (n.val : Int) 128 = ((n.val / 128 * 128 : Nat) : Int) := by decide +kernel
  exact h ⟨x.toNat, x.toNat_lt⟩
theorem and112 (x : UInt8) : bitsOp .and .u8 (x.toNat : Int) 112 = ((x.toNat / 16 % 8 * 16 : Nat) : Int) := by
  have h : ∀ n : Fin 256, bitsOp .and .u8 (n.val : Int) 112 = ((n.val / 16 % 8 * 16 : Nat) : Int) := by decide +kernel
  exact h ⟨x.toNat, x.toNat_lt⟩
abbrev stRes (r : (Int × List Ms) × Int) : AVal := .tup [stV .none r.1, i64v r.2]
theorem aret_st {x c : Int} {l : List Ms} {t : Tok} {σ σ2 : AHeap} {Q : AVal → AHeap → Prop} (hs : Sub σ σ2) (h : Q (.tup [stV .none (x, l), i64v c]) σ2) : ARet (.tup [.agg [i64v x, missV t l], i64v c]) σ Q :=
  aret (VLe.tup (VLe.cons vle_st (VLe.cons (VLe.refl _) fun _ _ h => h))) hs h
theorem gNext_eq (b : List UInt8) (p : Nat × Int) (n : Int) : gNext (unpack b).length p n = (gAt (8 * b.length) p.1 p.2 n, gCode (8 * b.length) p.1 p.2 n) := by unfold gNext; rw [unpack_length]
set_option maxRecDepth 20000 in
set_option maxHeartbeats 4000000 in
theorem tRead (b : List UInt8) (t : Tok) (w : Int) (σ : AHeap) (hl : b.length ≤ 8000) : ACalls Try.prog i_status_Read [sl t b, i64v w] σ fun v σ' => v = stRes (readSt w b) ∧ σ' = σ := by
  refine k_status_Read rfl ?_
  ((conv => whnf); (repeat ((first | with_reducible refine abr_true rfl ?_ | with_reducible refine abr_false rfl ?_ | with_reducible refine abr_yes rfl ?_ | refine abr_yes (by decide) ?_ | refine abr_no (by decide) ?_ | with_reducible refine abr_same_ne ?_); (conv => whnf))))
  refine anew rfl fun i4 h4 => ?_
  have k4 : upd σ i4 (.cells [i64v 0, .slice 4 [] .full]) i4 = some (.cells [i64v 0, .slice 4 [] .full]) := upd_same _ _ _
  have hs4 : Sub (upd σ i4 (.cells [i64v 0, .slice 4 [] .full])) σ := Sub.upd_fresh _ h4
  generalize upd σ i4 (.cells [i64v 0, .slice 4 [] .full]) = τ at *
  ((conv => whnf); (repeat ((first | with_reducible refine abr_true rfl ?_ | with_reducible refine abr_false rfl ?_ | with_reducible refine abr_yes rfl ?_ | refine abr_yes (by decide) ?_ | refine abr_no (by decide) ?_ | with_reducible refine abr_same_ne ?_); (conv => whnf))))
  refine ascope' (α := Nat × List Ms × (Nat × Int) × Bool × Int × Tok × AHeap × Nat × Nat × Nat) (fun x => [(s6, .ptr x.2.2.2.2.2.2.2.1 0), (s7, .ptr x.2.2.2.2.2.2.2.2.2 0), (s8, boolv x.2.2.2.1)]) (fun x => x.2.2.2.2.2.2.1) (fun _ => 0)
    (fun x => (w = 10 ∨ w = 16) ∧ x.2.1.length + (x.1 + 1) = 33 ∧ Gr x.2.2.2.2.2.2.1 x.2.2.2.2.2.2.2.1 x.2.2.2.2.2.2.2.2.1 b x.2.2.1.1 x.2.2.1.2 ∧ TokIn x.2.2.2.2.2.2.1 σ x.2.2.2.2.2.1 ∧ Sub x.2.2.2.2.2.2.1 σ ∧ x.2.2.2.2.2.2.1 i4 = some (.cells [i64v 0, .slice 4 [] .full]) ∧ x.2.2.2.2.2.2.1 x.2.2.2.2.2.2.2.2.2 = some (.cells [i64v x.2.2.2.2.1, missV x.2.2.2.2.2.1 x.2.1]) ∧
      σ x.2.2.2.2.2.2.2.1 = none ∧ σ x.2.2.2.2.2.2.2.2.1 = none ∧ σ i4 = none ∧ σ x.2.2.2.2.2.2.2.2.2 = none ∧ x.2.2.2.2.2.2.2.1 ≠ i4 ∧ x.2.2.2.2.2.2.2.2.1 ≠ i4 ∧ x.2.2.2.2.2.2.2.1 ≠ x.2.2.2.2.2.2.2.2.2 ∧ x.2.2.2.2.2.2.2.2.1 ≠ x.2.2.2.2.2.2.2.2.2 ∧ i4 ≠ x.2.2.2.2.2.2.2.2.2 ∧
      (readSt w b = if (readMs w b (x.1 + 1) x.2.1 x.2.2.1 x.2.2.2.1).2 = 0 then ((x.2.2.2.2.1, (readMs w b (x.1 + 1) x.2.1 x.2.2.1 x.2.2.2.1).1), 0) else ((0, []), (readMs w b (x.1 + 1) x.2.1 x.2.2.1 x.2.2.2.1).2))) (fun x => x.1) ?_ ?_
  · ((conv => whnf); (repeat ((first | with_reducible refine abr_true rfl ?_ | with_reducible refine abr_false rfl ?_ | with_reducible refine abr_yes rfl ?_ | refine abr_yes (by decide) ?_ | refine abr_no (by decide) ?_ | with_reducible refine abr_same_ne ?_); (conv => whnf))))
    intro hlab
    ((conv => whnf); (repeat ((first | with_reducible refine abr_true rfl ?_ | with_reducible refine abr_false rfl ?_ | with_reducible refine abr_yes rfl ?_ | refine abr_yes (by decide) ?_ | refine abr_no (by decide) ?_ | with_reducible refine abr_same_ne ?_); (conv => whnf))))
    refine acall (tIsWidth w _) ?_
    rintro _ σ_ ⟨rfl, e_⟩
    obtain rfl := e_.symm
    refine ⟨?_, Ext.refl _⟩
    ((conv => whnf); (repeat ((first | with_reducible refine abr_true rfl ?_ | with_reducible refine abr_false rfl ?_ | with_reducible refine abr_yes rfl ?_ | refine abr_yes (by decide) ?_ | refine abr_no (by decide) ?_ | with_reducible refine abr_same_ne ?_); (conv => whnf))))
    cases hsw : stWidth w
    · ((conv => whnf); (repeat ((first | with_reducible refine abr_true rfl ?_ | with_reducible refine abr_false rfl ?_ | with_reducible refine abr_yes rfl ?_ | refine abr_yes (by decide) ?_ | refine abr_no (by decide) ?_ | with_reducible refine abr_same_ne ?_); (conv => whnf))))
      refine astore (xs := [i64v 0, .slice 4 [] .full]) (l := [i64v 0, .slice 4 [] .full]) k4 (by exact Nat.le_refl 2) rfl rfl ?_
      ((conv => whnf); (repeat ((first | with_reducible refine abr_true rfl ?_ | with_reducible refine abr_false rfl ?_ | with_reducible refine abr_yes rfl ?_ | refine abr_yes (by decide) ?_ | refine abr_no (by decide) ?_ | with_reducible refine abr_same_ne ?_); (conv => whnf))))
      refine aloads (l := [i64v 0, .slice 4 [] .full]) (upd_same _ _ _) (by exact Nat.le_refl 2) rfl ?_
      ((conv => whnf); (repeat ((first | with_reducible refine abr_true rfl ?_ | with_reducible refine abr_false rfl ?_ | with_reducible refine abr_yes rfl ?_ | refine abr_yes (by decide) ?_ | refine abr_no (by decide) ?_ | with_reducible refine abr_same_ne ?_); (conv => whnf))))
      refine aret_st (l := []) (sub_upd _ hs4 h4) ⟨by unfold readSt; rw [hsw]; rfl, rfl⟩
    have hw := stWidth_iff.1 hsw
    ((conv => whnf); (repeat ((first | with_reducible refine abr_true rfl ?_ | with_reducible refine abr_false rfl ?_ | with_reducible refine abr_yes rfl ?_ | refine abr_yes (by decide) ?_ | refine abr_no (by decide) ?_ | with_reducible refine abr_same_ne ?_); (conv => whnf))))
    rw [List.length_map]
    cases b with
    | nil =>
      refine abr_true (by simp) ?_
      ((conv => whnf); (repeat ((first | with_reducible refine abr_true rfl ?_ | with_reducible refine abr_false rfl ?_ | with_reducible refine abr_yes rfl ?_ | refine abr_yes (by decide) ?_ | refine abr_no (by decide) ?_ | with_reducible refine abr_same_ne ?_); (conv => whnf))))
      refine astore (xs := [i64v 0, .slice 4 [] .full]) (l := [i64v 0, .slice 4 [] .full]) k4 (by exact Nat.le_refl 2) rfl rfl ?_
      ((conv => whnf); (repeat ((first | with_reducible refine abr_true rfl ?_ | with_reducible refine abr_false rfl ?_ | with_reducible refine abr_yes rfl ?_ | refine abr_yes (by decide) ?_ | refine abr_no (by decide) ?_ | with_reducible refine abr_same_ne ?_); (conv => whnf))))
      refine aloads (l := [i64v 0, .slice 4 [] .full]) (upd_same _ _ _) (by exact Nat.le_refl 2) rfl ?_
      ((conv => whnf); (repeat ((first | with_reducible refine abr_true rfl ?_ | with_reducible refine abr_false rfl ?_ | with_reducible refine abr_yes rfl ?_ | refine abr_yes (by decide) ?_ | refine abr_no (by decide) ?_ | with_reducible refine abr_same_ne ?_); (conv => whnf))))
      refine aret_st (l := []) (sub_upd _ hs4 h4) ⟨by unfold readSt; rw [hsw]; rfl, rfl⟩
    | cons x b' =>
      rw [List.length_cons]
      (repeat ((first | refine aload (by (repeat (first | with_reducible exact upd_same _ _ _ | assumption | rw [upd_ne _ _ (by first | assumption | (apply Ne.symm; assumption))]))) rfl ?_ | refine afit_i64 (by omega) ?_ | refine arem_nonneg (by omega) (by omega) ?_ | refine adiv_i64 (by omega) (by omega) ?_ | refine abr_yes (by omega) ?_ | refine abr_no (by omega) ?_ | refine amin ?_ | refine amax ?_ | refine afit_u64 (by omega) ?_ | refine afit_u8 (by omega) ?_ | rw [List.length_map]); ((conv => whnf); (repeat ((first | with_reducible refine abr_true rfl ?_ | with_reducible refine abr_false rfl ?_ | with_reducible refine abr_yes rfl ?_ | refine abr_yes (by decide) ?_ | refine abr_no (by decide) ?_ | with_reducible refine abr_same_ne ?_); (conv => whnf))))))
      refine aget (x := byteV x) (by omega) rfl ?_
      ((conv => whnf); (repeat ((first | with_reducible refine abr_true rfl ?_ | with_reducible refine abr_false rfl ?_ | with_reducible refine abr_yes rfl ?_ | refine abr_yes (by decide) ?_ | refine abr_no (by decide) ?_ | with_reducible refine abr_same_ne ?_); (conv => whnf))))
      refine acell rfl ?_
      ((conv => whnf); (repeat ((first | with_reducible refine abr_true rfl ?_ | with_reducible refine abr_false rfl ?_ | with_reducible refine abr_yes rfl ?_ | refine abr_yes (by decide) ?_ | refine abr_no (by decide) ?_ | with_reducible refine abr_same_ne ?_); (conv => whnf))))
      refine abits_eq (and128 x) ?_
      ((conv => whnf); (repeat ((first | with_reducible refine abr_true rfl ?_ | with_reducible refine abr_false rfl ?_ | with_reducible refine abr_yes rfl ?_ | refine abr_yes (by decide) ?_ | refine abr_no (by decide) ?_ | with_reducible refine abr_same_ne ?_); (conv => whnf))))
      have hlt := x.toNat_lt
      by_cases c1 : x.toNat / 128 = 0
      case neg =>
        refine abr_yes (show ((x.toNat / 128 * 128 : Nat) : Int) ≠ 0 by omega) ?_
        ((conv => whnf); (repeat ((first | with_reducible refine abr_true rfl ?_ | with_reducible refine abr_false rfl ?_ | with_reducible refine abr_yes rfl ?_ | refine abr_yes (by decide) ?_ | refine abr_no (by decide) ?_ | with_reducible refine abr_same_ne ?_); (conv => whnf))))
        refine astore (xs := [i64v 0, .slice 4 [] .full]) (l := [i64v 0, .slice 4 [] .full]) k4 (by exact Nat.le_refl 2) rfl rfl ?_
        ((conv => whnf); (repeat ((first | with_reducible refine abr_true rfl ?_ | with_reducible refine abr_false rfl ?_ | with_reducible refine abr_yes rfl ?_ | refine abr_yes (by decide) ?_ | refine abr_no (by decide) ?_ | with_reducible refine abr_same_ne ?_); (conv => whnf))))
        refine aloads (l := [i64v 0, .slice 4 [] .full]) (upd_same _ _ _) (by exact Nat.le_refl 2) rfl ?_
        ((conv => whnf); (repeat ((first | with_reducible refine abr_true rfl ?_ | with_reducible refine abr_false rfl ?_ | with_reducible refine abr_yes rfl ?_ | refine abr_yes (by decide) ?_ | refine abr_no (by decide) ?_ | with_reducible refine abr_same_ne ?_); (conv => whnf))))
        refine aret_st (l := []) (sub_upd _ hs4 h4) ⟨by unfold readSt; rw [hsw, if_neg (by decide)]; dsimp only; rw [if_pos c1], rfl⟩
      refine abr_no (show ¬ ((x.toNat / 128 * 128 : Nat) : Int) ≠ 0 by omega) ?_
      ((conv => whnf); (repeat ((first | with_reducible refine abr_true rfl ?_ | with_reducible refine abr_false rfl ?_ | with_reducible refine abr_yes rfl ?_ | refine abr_yes (by decide) ?_ | refine abr_no (by decide) ?_ | with_reducible refine abr_same_ne ?_); (conv => whnf))))
      refine aget (x := byteV x) (by omega) rfl ?_
      ((conv => whnf); (repeat ((first | with_reducible refine abr_true rfl ?_ | with_reducible refine abr_false rfl ?_ | with_reducible refine abr_yes rfl ?_ | refine abr_yes (by decide) ?_ | refine abr_no (by decide) ?_ | with_reducible refine abr_same_ne ?_); (conv => whnf))))
      refine acell rfl ?_
      ((conv => whnf); (repeat ((first | with_reducible refine abr_true rfl ?_ | with_reducible refine abr_false rfl ?_ | with_reducible refine abr_yes rfl ?_ | refine abr_yes (by decide) ?_ | refine abr_no (by decide) ?_ | with_reducible refine abr_same_ne ?_); (conv => whnf))))
      refine abits_eq (and112 x) ?_
      ((conv => whnf); (repeat ((first | with_reducible refine abr_true rfl ?_ | with_reducible refine abr_false rfl ?_ | with_reducible refine abr_yes rfl ?_ | refine abr_yes (by decide) ?_ | refine abr_no (by decide) ?_ | with_reducible refine abr_same_ne ?_); (conv => whnf))))
      by_cases c2 : x.toNat / 16 = 0
      case neg =>
        refine abr_yes (show ((x.toNat / 16 % 8 * 16 : Nat) : Int) ≠ 0 by omega) ?_
        ((conv => whnf); (repeat ((first | with_reducible refine abr_true rfl ?_ | with_reducible refine abr_false rfl ?_ | with_reducible refine abr_yes rfl ?_ | refine abr_yes (by decide) ?_ | refine abr_no (by decide) ?_ | with_reducible refine abr_same_ne ?_); (conv => whnf))))
        refine astore (xs := [i64v 0, .slice 4 [] .full]) (l := [i64v 0, .slice 4 [] .full]) k4 (by exact Nat.le_refl 2) rfl rfl ?_
        ((conv => whnf); (repeat ((first | with_reducible refine abr_true rfl ?_ | with_reducible refine abr_false rfl ?_ | with_reducible refine abr_yes rfl ?_ | refine abr_yes (by decide) ?_ | refine abr_no (by decide) ?_ | with_reducible refine abr_same_ne ?_); (conv => whnf))))
        refine aloads (l := [i64v 0, .slice 4 [] .full]) (upd_same _ _ _) (by exact Nat.le_refl 2) rfl ?_
        ((conv => whnf); (repeat ((first | with_reducible refine abr_true rfl ?_ | with_reducible refine abr_false rfl ?_ | with_reducible refine abr_yes rfl ?_ | refine abr_yes (by decide) ?_ | refine abr_no (by decide) ?_ | with_reducible refine abr_same_ne ?_); (conv => whnf))))
        refine aret_st (l := []) (sub_upd _ hs4 h4) ⟨by unfold readSt; rw [hsw, if_neg (by decide)]; dsimp only; rw [if_neg (fun h => h c1), if_pos c2], rfl⟩
      refine abr_no (show ¬ ((x.toNat / 16 % 8 * 16 : Nat) : Int) ≠ 0 by omega) ?_
      have hrs : readSt w (x :: b') = (let p4 := gNext (unpack (x :: b')).length (0, 0) 4
        let pa := gNext (unpack (x :: b')).length p4 w
        let r := readMs w (x :: b') 33 [] (gNext (unpack (x :: b')).length pa 1) (decide (gVal (unpack (x :: b')) pa.1 pa.2 1 = 1))
        if r.2 = 0 then (((gVal (unpack (x :: b')) p4.1 p4.2 w : Int), r.1), 0) else ((0, []), r.2)) := by
        conv => lhs; unfold readSt
        rw [hsw, if_neg (by decide)]; dsimp only; rw [if_neg (fun h => h c1), if_neg (fun h => h c2)]
      generalize hb : (x :: b') = b at *
      ((conv => whnf); (repeat ((first | with_reducible refine abr_true rfl ?_ | with_reducible refine abr_false rfl ?_ | with_reducible refine abr_yes rfl ?_ | refine abr_yes (by decide) ?_ | refine abr_no (by decide) ?_ | with_reducible refine abr_same_ne ?_); (conv => whnf))))
      refine acall (rRead b t _ (by omega)) ?_
      rintro _ τ1 ⟨ir, rfl, r1⟩
      refine ⟨?_, r1.ext⟩
      rw [List.take_of_length_le (by omega)] at r1
      have hR1 := r1.sub
      have hE1 := r1.ext
      obtain ⟨nir, _, hb8, tk1, er1⟩ := r1
      have kr1 : τ1 ir = some (.cells [sl tk1 b, i64v 0]) := by rw [er1]; exact upd_same _ _ _
      have k4 : τ1 i4 = some (.cells [i64v 0, .slice 4 [] .full]) := hE1 i4 _ rfl k4
      have hs1 : Sub τ1 σ := hR1.trans hs4
      have br : σ ir = none := sub_none hs4 nir
      clear er1 hR1 hE1 nir
      ((conv => whnf); (repeat ((first | with_reducible refine abr_true rfl ?_ | with_reducible refine abr_false rfl ?_ | with_reducible refine abr_yes rfl ?_ | refine abr_yes (by decide) ?_ | refine abr_no (by decide) ?_ | with_reducible refine abr_same_ne ?_); (conv => whnf))))
      refine anew rfl fun ig hg => ?_
      have nrg : ir ≠ ig := fun e => by subst e; rw [kr1] at hg; cases hg
      have n4g : i4 ≠ ig := fun e => by subst e; rw [k4] at hg; cases hg
      have n4r : i4 ≠ ir := fun e => by subst e; rw [k4] at kr1; cases kr1
      have bg : σ ig = none := sub_none hs1 hg
      generalize hτ : upd τ1 ig _ = τ2 at *
      have g0 : Gr τ2 ig ir b 0 0 := ⟨Ne.symm nrg, by omega, hb8, ⟨tk1, by rw [← hτ]; exact (upd_ne _ _ nrg).trans kr1⟩, by rw [← hτ]; exact upd_same _ _ _⟩
      have k4 : τ2 i4 = some (.cells [i64v 0, .slice 4 [] .full]) := by rw [← hτ]; exact (upd_ne _ _ n4g).trans k4
      have hs2 : Sub τ2 σ := by rw [← hτ]; exact sub_upd _ hs1 bg
      clear hτ
      ((conv => whnf); (repeat ((first | with_reducible refine abr_true rfl ?_ | with_reducible refine abr_false rfl ?_ | with_reducible refine abr_yes rfl ?_ | refine abr_yes (by decide) ?_ | refine abr_no (by decide) ?_ | with_reducible refine abr_same_ne ?_); (conv => whnf))))
      refine acall (gGet ig ir b 0 0 4 _ g0 (by omega)) ?_
      rintro _ τ3 ⟨rfl, g3, e3⟩
      have k4 := (e3 i4 n4g n4r).trans k4
      have hs3 : Sub τ3 σ := fun j o hj => by rw [e3 j (fun e => by subst e; rw [bg] at hj; cases hj) (fun e => by subst e; rw [br] at hj; cases hj)]; exact hs2 j o hj
      have q3 := gNext_eq b (0, 0) 4
      dsimp only at hrs
      generalize hp3 : gNext (unpack b).length (0, 0) 4 = p3 at *
      have g3 : Gr τ3 ig ir b p3.1 p3.2 := by rw [q3]; exact g3
      clear q3 e3
      ((conv => whnf); (repeat ((first | with_reducible refine abr_true rfl ?_ | with_reducible refine abr_false rfl ?_ | with_reducible refine abr_yes rfl ?_ | refine abr_yes (by decide) ?_ | refine abr_no (by decide) ?_ | with_reducible refine abr_same_ne ?_); (conv => whnf))))
      refine anew rfl fun i7 h7 => ?_
      have n47 : i4 ≠ i7 := fun e => by subst e; rw [k4] at h7; cases h7
      have n7g : i7 ≠ ig := fun e => by subst e; rw [g3.at_] at h7; cases h7
      have n7r : i7 ≠ ir := fun e => by subst e; obtain ⟨tk, hr⟩ := g3.rd; rw [hr] at h7; cases h7
      have b7 : σ i7 = none := sub_none hs3 h7
      have g4 := g3.upd (.cells [i64v 0, .slice 4 [] .full]) n7g n7r
      have k4 : upd τ3 i7 (.cells [i64v 0, .slice 4 [] .full]) i4 = some (.cells [i64v 0, .slice 4 [] .full]) := (upd_ne _ _ n47).trans k4
      have k7 : upd τ3 i7 (.cells [i64v 0, .slice 4 [] .full]) i7 = some (.cells [i64v 0, .slice 4 [] .full]) := upd_same _ _ _
      have hs4' : Sub (upd τ3 i7 (.cells [i64v 0, .slice 4 [] .full])) σ := sub_upd _ hs3 b7
      generalize upd τ3 i7 (.cells [i64v 0, .slice 4 [] .full]) = τ4 at *
      ((conv => whnf); (repeat ((first | with_reducible refine abr_true rfl ?_ | with_reducible refine abr_false rfl ?_ | with_reducible refine abr_yes rfl ?_ | refine abr_yes (by decide) ?_ | refine abr_no (by decide) ?_ | with_reducible refine abr_same_ne ?_); (conv => whnf))))
      refine acall (gGet ig ir b p3.1 p3.2 w _ g4 (by omega)) ?_
      rintro _ τ5 ⟨rfl, g5, e5⟩
      have k4 := (e5 i4 n4g n4r).trans k4
      have k7 := (e5 i7 n7g n7r).trans k7
      have hs5 : Sub τ5 σ := fun j o hj => by rw [e5 j (fun e => by subst e; rw [bg] at hj; cases hj) (fun e => by subst e; rw [br] at hj; cases hj)]; exact hs4' j o hj
      have q5 := gNext_eq b p3 w
      generalize hp5 : gNext (unpack b).length p3 w = p5 at *
      have g5 : Gr τ5 ig ir b p5.1 p5.2 := by rw [q5]; exact g5
      clear q5 e5
      generalize gVal (unpack b) p3.1 p3.2 w = ack at *
      ((conv => whnf); (repeat ((first | with_reducible refine abr_true rfl ?_ | with_reducible refine abr_false rfl ?_ | with_reducible refine abr_yes rfl ?_ | refine abr_yes (by decide) ?_ | refine abr_no (by decide) ?_ | with_reducible refine abr_same_ne ?_); (conv => whnf))))
      refine astore (xs := [i64v ack]) (l := [i64v ack, .slice 4 [] .full]) k7 (by exact Nat.le_of_ble_eq_true rfl) rfl rfl ?_
      have g6 := g5.upd (.cells [i64v ack, .slice 4 [] .full]) n7g n7r
      have k4 : upd τ5 i7 (.cells [i64v ack, .slice 4 [] .full]) i4 = some (.cells [i64v 0, .slice 4 [] .full]) := (upd_ne _ _ n47).trans k4
      have k7 : upd τ5 i7 (.cells [i64v ack, .slice 4 [] .full]) i7 = some (.cells [i64v ack, .slice 4 [] .full]) := upd_same _ _ _
      have hs6 : Sub (upd τ5 i7 (.cells [i64v ack, .slice 4 [] .full])) σ := sub_upd _ hs5 b7
      generalize upd τ5 i7 (.cells [i64v ack, .slice 4 [] .full]) = τ6 at *
      ((conv => whnf); (repeat ((first | with_reducible refine abr_true rfl ?_ | with_reducible refine abr_false rfl ?_ | with_reducible refine abr_yes rfl ?_ | refine abr_yes (by decide) ?_ | refine abr_no (by decide) ?_ | with_reducible refine abr_same_ne ?_); (conv => whnf))))
      refine acall (gGet ig ir b p5.1 p5.2 1 _ g6 (by omega)) ?_
      rintro _ τ7 ⟨rfl, g7, e7⟩
      have k4 := (e7 i4 n4g n4r).trans k4
      have k7 := (e7 i7 n7g n7r).trans k7
      have hs7 : Sub τ7 σ := fun j o hj => by rw [e7 j (fun e => by subst e; rw [bg] at hj; cases hj) (fun e => by subst e; rw [br] at hj; cases hj)]; exact hs6 j o hj
      have q7 := gNext_eq b p5 1
      generalize hp7 : gNext (unpack b).length p5 1 = p7 at *
      have g7 : Gr τ7 ig ir b p7.1 p7.2 := by rw [q7]; exact g7
      clear q7 e7
      generalize gVal (unpack b) p5.1 p5.2 1 = mo at *
      ((conv => whnf); (repeat ((first | with_reducible refine abr_true rfl ?_ | with_reducible refine abr_false rfl ?_ | with_reducible refine abr_yes rfl ?_ | refine abr_yes (by decide) ?_ | refine abr_no (by decide) ?_ | with_reducible refine abr_same_ne ?_); (conv => whnf))))
      rw [@dec_congr ((mo : Int) = 1) (mo = 1) _ inferInstance (by omega)]
      refine hlab _ (fun _ _ _ h => h) _ _ _ _ ⟨(32, [], p7, decide (mo = 1), ack, .full, τ7, ig, ir, i7), rfl, ⟨hw, rfl, g7, .full _ _, hs7, k4, k7, bg, br, h4, b7, Ne.symm n4g, Ne.symm n4r, Ne.symm n7g, Ne.symm n7r, n47, hrs⟩, rfl, Sub.refl _, ?_⟩
      ((conv => whnf); (repeat ((first | with_reducible refine abr_true rfl ?_ | with_reducible refine abr_false rfl ?_ | with_reducible refine abr_yes rfl ?_ | refine abr_yes (by decide) ?_ | refine abr_no (by decide) ?_ | with_reducible refine abr_same_ne ?_); (conv => whnf))))
      (repeat' first | with_reducible exact EnvLe.refl _ | (refine EnvLe.node ?_ (by first | exact Or.inl rfl | exact Or.inr (Or.inl rfl) | exact Or.inr (Or.inr ⟨nofun, VLe.slice _ _ _⟩)) ?_))
  · rintro ⟨f, ms, p, more, ack, tk, υ, ig, ir, i7⟩ ⟨hw, hf, g0, hto, hs, k4, k7, bg, br, b4, b7, ng4, nr4, ng7, nr7, n47, hans⟩
    dsimp only at hf g0 hto hs k4 k7 bg br b7 ng4 nr4 ng7 nr7 n47 hans ⊢
    refine ⟨_, rfl, ?_⟩
    ((conv => whnf); (repeat ((first | with_reducible refine abr_true rfl ?_ | with_reducible refine abr_false rfl ?_ | with_reducible refine abr_yes rfl ?_ | refine abr_yes (by decide) ?_ | refine abr_no (by decide) ?_ | with_reducible refine abr_same_ne ?_); (conv => whnf))))
    intro hlab
    ((conv => whnf); (repeat ((first | with_reducible refine abr_true rfl ?_ | with_reducible refine abr_false rfl ?_ | with_reducible refine abr_yes rfl ?_ | refine abr_yes (by decide) ?_ | refine abr_no (by decide) ?_ | with_reducible refine abr_same_ne ?_); (conv => whnf))))
    have hz : ∀ {st : AHeap}, Sub st σ → Sub (upd st i4 (.cells [i64v 0, .slice 4 [] .full])) σ := fun h => sub_upd _ h b4
    refine aload g0.at_ rfl ?_
    ((conv => whnf); (repeat ((first | with_reducible refine abr_true rfl ?_ | with_reducible refine abr_false rfl ?_ | with_reducible refine abr_yes rfl ?_ | refine abr_yes (by decide) ?_ | refine abr_no (by decide) ?_ | with_reducible refine abr_same_ne ?_); (conv => whnf))))
    by_cases he : p.2 = 0
    case neg =>
      have hm : readMs w b (f + 1) ms p more = ([], p.2) := by conv => lhs; unfold readMs; rw [if_pos he]
      rw [hm] at hans
      dsimp only at hans
      rw [if_neg he] at hans
      refine abr_yes he ?_
      ((conv => whnf); (repeat ((first | with_reducible refine abr_true rfl ?_ | with_reducible refine abr_false rfl ?_ | with_reducible refine abr_yes rfl ?_ | refine abr_yes (by decide) ?_ | refine abr_no (by decide) ?_ | with_reducible refine abr_same_ne ?_); (conv => whnf))))
      refine ⟨?_, ?_⟩
      · ((conv => whnf); (repeat ((first | with_reducible refine abr_true rfl ?_ | with_reducible refine abr_false rfl ?_ | with_reducible refine abr_yes rfl ?_ | refine abr_yes (by decide) ?_ | refine abr_no (by decide) ?_ | with_reducible refine abr_same_ne ?_); (conv => whnf))))
        refine aload g0.at_ rfl ?_
        ((conv => whnf); (repeat ((first | with_reducible refine abr_true rfl ?_ | with_reducible refine abr_false rfl ?_ | with_reducible refine abr_yes rfl ?_ | refine abr_yes (by decide) ?_ | refine abr_no (by decide) ?_ | with_reducible refine abr_same_ne ?_); (conv => whnf))))
        refine astore (xs := [i64v 0, .slice 4 [] .full]) (l := [i64v 0, .slice 4 [] .full]) k4 (by exact Nat.le_refl 2) rfl rfl ?_
        ((conv => whnf); (repeat ((first | with_reducible refine abr_true rfl ?_ | with_reducible refine abr_false rfl ?_ | with_reducible refine abr_yes rfl ?_ | refine abr_yes (by decide) ?_ | refine abr_no (by decide) ?_ | with_reducible refine abr_same_ne ?_); (conv => whnf))))
        refine aloads (l := [i64v 0, .slice 4 [] .full]) (upd_same _ _ _) (by exact Nat.le_refl 2) rfl ?_
        ((conv => whnf); (repeat ((first | with_reducible refine abr_true rfl ?_ | with_reducible refine abr_false rfl ?_ | with_reducible refine abr_yes rfl ?_ | refine abr_yes (by decide) ?_ | refine abr_no (by decide) ?_ | with_reducible refine abr_same_ne ?_); (conv => whnf))))
        refine aret_st (l := []) (hz hs) ⟨by rw [hans]; try rfl, rfl⟩
      · ((conv => whnf); (repeat ((first | with_reducible refine abr_true rfl ?_ | with_reducible refine abr_false rfl ?_ | with_reducible refine abr_yes rfl ?_ | refine abr_yes (by decide) ?_ | refine abr_no (by decide) ?_ | with_reducible refine abr_same_ne ?_); (conv => whnf))))
        refine astore (xs := [i64v 0, .slice 4 [] .full]) (l := [i64v 0, .slice 4 [] .full]) k4 (by exact Nat.le_refl 2) rfl rfl ?_
        ((conv => whnf); (repeat ((first | with_reducible refine abr_true rfl ?_ | with_reducible refine abr_false rfl ?_ | with_reducible refine abr_yes rfl ?_ | refine abr_yes (by decide) ?_ | refine abr_no (by decide) ?_ | with_reducible refine abr_same_ne ?_); (conv => whnf))))
        refine aload ((upd_ne _ _ ng4).trans g0.at_) rfl ?_
        ((conv => whnf); (repeat ((first | with_reducible refine abr_true rfl ?_ | with_reducible refine abr_false rfl ?_ | with_reducible refine abr_yes rfl ?_ | refine abr_yes (by decide) ?_ | refine abr_no (by decide) ?_ | with_reducible refine abr_same_ne ?_); (conv => whnf))))
        refine aloads (l := [i64v 0, .slice 4 [] .full]) (upd_same _ _ _) (by exact Nat.le_refl 2) rfl ?_
        ((conv => whnf); (repeat ((first | with_reducible refine abr_true rfl ?_ | with_reducible refine abr_false rfl ?_ | with_reducible refine abr_yes rfl ?_ | refine abr_yes (by decide) ?_ | refine abr_no (by decide) ?_ | with_reducible refine abr_same_ne ?_); (conv => whnf))))
        refine aret_st (l := []) (hz hs) ⟨by rw [hans]; try rfl, rfl⟩
    have hm : readMs w b (f + 1) ms p more = if more = true then (if ms.length = 32 then ([], 2) else if (missEnd w (unpack b) p).2 = 0 ∧ missOk w (missRead w (unpack b) p) = false then ([], 3) else readMs w b f (ms ++ [missRead w (unpack b) p]) (missEnd w (unpack b) p) (missMore w (unpack b) p)) else if restOk (unpack b) p.1 = true ∧ b.drop ((p.1 + 7) / 8) = [] then (ms, 0) else ([], 3) := by
      conv => lhs; unfold readMs; rw [if_neg (fun h => h he)]
    rw [hm] at hans
    refine abr_no (fun h => h he) ?_
    cases more
    · rw [if_neg (show ¬ (false = true) by decide)] at hans
      ((conv => whnf); (repeat ((first | with_reducible refine abr_true rfl ?_ | with_reducible refine abr_false rfl ?_ | with_reducible refine abr_yes rfl ?_ | refine abr_yes (by decide) ?_ | refine abr_no (by decide) ?_ | with_reducible refine abr_same_ne ?_); (conv => whnf))))
      refine aload g0.at_ rfl ?_
      ((conv => whnf); (repeat ((first | with_reducible refine abr_true rfl ?_ | with_reducible refine abr_false rfl ?_ | with_reducible refine abr_yes rfl ?_ | refine abr_yes (by decide) ?_ | refine abr_no (by decide) ?_ | with_reducible refine abr_same_ne ?_); (conv => whnf))))
      obtain ⟨tkr, hrd⟩ := g0.rd
      refine acall (rRest ir b p.1 _ _ (rd_at hrd g0.hk g0.hb)) ?_
      rintro _ υ1 ⟨rfl, r1⟩
      have hR1 : Sub υ1 σ := fun j o hj => by
        obtain ⟨_, _, _, tk1, e1⟩ := r1
        rw [e1, upd_ne _ _ (fun e => by subst e; rw [br] at hj; cases hj), del_ne _ (fun e => by subst e; rw [br] at hj; cases hj)]
        exact hs j o hj
      have hfr : ∀ j, j ≠ ir → υ1 j = υ j := fun j hj => by
        obtain ⟨_, _, _, tk1, e1⟩ := r1
        rw [e1, upd_ne _ _ hj, del_ne _ hj]
      have k4 := (hfr i4 (Ne.symm nr4)).trans k4
      have k7 := (hfr i7 (Ne.symm nr7)).trans k7
      ((conv => whnf); (repeat ((first | with_reducible refine abr_true rfl ?_ | with_reducible refine abr_false rfl ?_ | with_reducible refine abr_yes rfl ?_ | refine abr_yes (by decide) ?_ | refine abr_no (by decide) ?_ | with_reducible refine abr_same_ne ?_); (conv => whnf))))
      cases hro : restOk (unpack b) p.1
      · rw [hro, if_neg (show ¬ (false = true ∧ b.drop ((p.1 + 7) / 8) = []) from fun h => by cases h.1)] at hans
        rw [if_neg (by decide), if_neg (by decide)]
        ((conv => whnf); (repeat ((first | with_reducible refine abr_true rfl ?_ | with_reducible refine abr_false rfl ?_ | with_reducible refine abr_yes rfl ?_ | refine abr_yes (by decide) ?_ | refine abr_no (by decide) ?_ | with_reducible refine abr_same_ne ?_); (conv => whnf))))
        refine astore (xs := [i64v 0, .slice 4 [] .full]) (l := [i64v 0, .slice 4 [] .full]) k4 (by exact Nat.le_refl 2) rfl rfl ?_
        ((conv => whnf); (repeat ((first | with_reducible refine abr_true rfl ?_ | with_reducible refine abr_false rfl ?_ | with_reducible refine abr_yes rfl ?_ | refine abr_yes (by decide) ?_ | refine abr_no (by decide) ?_ | with_reducible refine abr_same_ne ?_); (conv => whnf))))
        refine aloads (l := [i64v 0, .slice 4 [] .full]) (upd_same _ _ _) (by exact Nat.le_refl 2) rfl ?_
        ((conv => whnf); (repeat ((first | with_reducible refine abr_true rfl ?_ | with_reducible refine abr_false rfl ?_ | with_reducible refine abr_yes rfl ?_ | refine abr_yes (by decide) ?_ | refine abr_no (by decide) ?_ | with_reducible refine abr_same_ne ?_); (conv => whnf))))
        refine aret_st (l := []) (hz hR1) ⟨by rw [hans]; try rfl, rfl⟩
      · rw [hro] at hans
        rw [if_pos rfl, if_pos rfl]
        ((conv => whnf); (repeat ((first | with_reducible refine abr_true rfl ?_ | with_reducible refine abr_false rfl ?_ | with_reducible refine abr_yes rfl ?_ | refine abr_yes (by decide) ?_ | refine abr_no (by decide) ?_ | with_reducible refine abr_same_ne ?_); (conv => whnf))))
        rw [List.length_map]
        by_cases hd : b.drop ((p.1 + 7) / 8) = []
        · rw [if_pos (show true = true ∧ b.drop ((p.1 + 7) / 8) = [] from ⟨rfl, hd⟩)] at hans
          rw [hd]
          refine abr_false (by simp) ?_
          ((conv => whnf); (repeat ((first | with_reducible refine abr_true rfl ?_ | with_reducible refine abr_false rfl ?_ | with_reducible refine abr_yes rfl ?_ | refine abr_yes (by decide) ?_ | refine abr_no (by decide) ?_ | with_reducible refine abr_same_ne ?_); (conv => whnf))))
          refine aloads (l := [i64v ack, missV tk ms]) k7 (by exact Nat.le_refl 2) rfl ?_
          ((conv => whnf); (repeat ((first | with_reducible refine abr_true rfl ?_ | with_reducible refine abr_false rfl ?_ | with_reducible refine abr_yes rfl ?_ | refine abr_yes (by decide) ?_ | refine abr_no (by decide) ?_ | with_reducible refine abr_same_ne ?_); (conv => whnf))))
          refine astore (xs := [i64v ack, missV tk ms]) (l := [i64v ack, missV tk ms]) k4 (by exact Nat.le_refl 2) rfl rfl ?_
          ((conv => whnf); (repeat ((first | with_reducible refine abr_true rfl ?_ | with_reducible refine abr_false rfl ?_ | with_reducible refine abr_yes rfl ?_ | refine abr_yes (by decide) ?_ | refine abr_no (by decide) ?_ | with_reducible refine abr_same_ne ?_); (conv => whnf))))
          refine aloads (l := [i64v ack, missV tk ms]) (upd_same _ _ _) (by exact Nat.le_refl 2) rfl ?_
          ((conv => whnf); (repeat ((first | with_reducible refine abr_true rfl ?_ | with_reducible refine abr_false rfl ?_ | with_reducible refine abr_yes rfl ?_ | refine abr_yes (by decide) ?_ | refine abr_no (by decide) ?_ | with_reducible refine abr_same_ne ?_); (conv => whnf))))
          exact aret_st (sub_upd _ hR1 b4) ⟨by rw [hans]; try rfl, rfl⟩
        · rw [if_neg (show ¬ (true = true ∧ b.drop ((p.1 + 7) / 8) = []) from fun h => hd h.2)] at hans
          have hdl : 0 < (b.drop ((p.1 + 7) / 8)).length := List.length_pos_iff.2 hd
          generalize b.drop ((p.1 + 7) / 8) = dd at *
          refine abr_yes (by omega) ?_
          ((conv => whnf); (repeat ((first | with_reducible refine abr_true rfl ?_ | with_reducible refine abr_false rfl ?_ | with_reducible refine abr_yes rfl ?_ | refine abr_yes (by decide) ?_ | refine abr_no (by decide) ?_ | with_reducible refine abr_same_ne ?_); (conv => whnf))))
          refine astore (xs := [i64v 0, .slice 4 [] .full]) (l := [i64v 0, .slice 4 [] .full]) k4 (by exact Nat.le_refl 2) rfl rfl ?_
          ((conv => whnf); (repeat ((first | with_reducible refine abr_true rfl ?_ | with_reducible refine abr_false rfl ?_ | with_reducible refine abr_yes rfl ?_ | refine abr_yes (by decide) ?_ | refine abr_no (by decide) ?_ | with_reducible refine abr_same_ne ?_); (conv => whnf))))
          refine aloads (l := [i64v 0, .slice 4 [] .full]) (upd_same _ _ _) (by exact Nat.le_refl 2) rfl ?_
          ((conv => whnf); (repeat ((first | with_reducible refine abr_true rfl ?_ | with_reducible refine abr_false rfl ?_ | with_reducible refine abr_yes rfl ?_ | refine abr_yes (by decide) ?_ | refine abr_no (by decide) ?_ | with_reducible refine abr_same_ne ?_); (conv => whnf))))
          refine aret_st (l := []) (hz hR1) ⟨by rw [hans]; try rfl, rfl⟩
    · rw [if_pos (show true = true from rfl)] at hans
      ((conv => whnf); (repeat ((first | with_reducible refine abr_true rfl ?_ | with_reducible refine abr_false rfl ?_ | with_reducible refine abr_yes rfl ?_ | refine abr_yes (by decide) ?_ | refine abr_no (by decide) ?_ | with_reducible refine abr_same_ne ?_); (conv => whnf))))
      refine aload k7 rfl ?_
      ((conv => whnf); (repeat ((first | with_reducible refine abr_true rfl ?_ | with_reducible refine abr_false rfl ?_ | with_reducible refine abr_yes rfl ?_ | refine abr_yes (by decide) ?_ | refine abr_no (by decide) ?_ | with_reducible refine abr_same_ne ?_); (conv => whnf))))
      rw [List.length_map]
      by_cases h32 : ms.length = 32
      · rw [if_pos h32] at hans
        (repeat ((first | refine aload (by (repeat (first | with_reducible exact upd_same _ _ _ | assumption | rw [upd_ne _ _ (by first | assumption | (apply Ne.symm; assumption))]))) rfl ?_ | refine afit_i64 (by omega) ?_ | refine arem_nonneg (by omega) (by omega) ?_ | refine adiv_i64 (by omega) (by omega) ?_ | refine abr_yes (by omega) ?_ | refine abr_no (by omega) ?_ | refine amin ?_ | refine amax ?_ | refine afit_u64 (by omega) ?_ | refine afit_u8 (by omega) ?_ | rw [List.length_map]); ((conv => whnf); (repeat ((first | with_reducible refine abr_true rfl ?_ | with_reducible refine abr_false rfl ?_ | with_reducible refine abr_yes rfl ?_ | refine abr_yes (by decide) ?_ | refine abr_no (by decide) ?_ | with_reducible refine abr_same_ne ?_); (conv => whnf))))))
        refine astore (xs := [i64v 0, .slice 4 [] .full]) (l := [i64v 0, .slice 4 [] .full]) k4 (by exact Nat.le_refl 2) rfl rfl ?_
        ((conv => whnf); (repeat ((first | with_reducible refine abr_true rfl ?_ | with_reducible refine abr_false rfl ?_ | with_reducible refine abr_yes rfl ?_ | refine abr_yes (by decide) ?_ | refine abr_no (by decide) ?_ | with_reducible refine abr_same_ne ?_); (conv => whnf))))
        refine aloads (l := [i64v 0, .slice 4 [] .full]) (upd_same _ _ _) (by exact Nat.le_refl 2) rfl ?_
        ((conv => whnf); (repeat ((first | with_reducible refine abr_true rfl ?_ | with_reducible refine abr_false rfl ?_ | with_reducible refine abr_yes rfl ?_ | refine abr_yes (by decide) ?_ | refine abr_no (by decide) ?_ | with_reducible refine abr_same_ne ?_); (conv => whnf))))
        refine aret_st (l := []) (hz hs) ⟨by rw [hans]; rfl, rfl⟩
      rw [if_neg h32] at hans
      (repeat ((first | refine aload (by (repeat (first | with_reducible exact upd_same _ _ _ | assumption | rw [upd_ne _ _ (by first | assumption | (apply Ne.symm; assumption))]))) rfl ?_ | refine afit_i64 (by omega) ?_ | refine arem_nonneg (by omega) (by omega) ?_ | refine adiv_i64 (by omega) (by omega) ?_ | refine abr_yes (by omega) ?_ | refine abr_no (by omega) ?_ | refine amin ?_ | refine amax ?_ | refine afit_u64 (by omega) ?_ | refine afit_u8 (by omega) ?_ | rw [List.length_map]); ((conv => whnf); (repeat ((first | with_reducible refine abr_true rfl ?_ | with_reducible refine abr_false rfl ?_ | with_reducible refine abr_yes rfl ?_ | refine abr_yes (by decide) ?_ | refine abr_no (by decide) ?_ | with_reducible refine abr_same_ne ?_); (conv => whnf))))))
      refine acall (tMiss ig ir b p w _ g0 (by omega)) ?_
      rintro _ υ1 ⟨rfl, g1, e1⟩
      have k4 := (e1 i4 (Ne.symm ng4) (Ne.symm nr4) (by rw [k4]; nofun)).trans k4
      have k7 := (e1 i7 (Ne.symm ng7) (Ne.symm nr7) (by rw [k7]; nofun)).trans k7
      have hs1 : Sub υ1 σ := fun j o hj => by
        have := hs j o hj
        rw [e1 j (fun e => by subst e; rw [bg] at hj; cases hj) (fun e => by subst e; rw [br] at hj; cases hj) (by rw [this]; nofun)]; exact this
      have hto1 : TokIn υ1 σ tk := by
        rcases hto with rfl | ⟨u, rfl, h1, h2⟩
        · exact .inl rfl
        · refine .inr ⟨u, rfl, ?_, h2⟩
          rw [e1 u (fun e => by subst e; rw [g0.at_] at h1; cases h1) (fun e => by subst e; obtain ⟨q, hr⟩ := g0.rd; rw [hr] at h1; cases h1) (by rw [h1]; nofun)]
          exact h1
      clear e1
      generalize missRead w (unpack b) p = m at *
      generalize missMore w (unpack b) p = mo at *
      generalize missEnd w (unpack b) p = p' at *
      obtain ⟨sn, pa, fr, to⟩ := m
      ((conv => whnf); (repeat ((first | with_reducible refine abr_true rfl ?_ | with_reducible refine abr_false rfl ?_ | with_reducible refine abr_yes rfl ?_ | refine abr_yes (by decide) ?_ | refine abr_no (by decide) ?_ | with_reducible refine abr_same_ne ?_); (conv => whnf))))
      refine anew rfl fun i9 h9 => ?_
      have n49 : i4 ≠ i9 := fun e => by subst e; rw [k4] at h9; cases h9
      have n79 : i7 ≠ i9 := fun e => by subst e; rw [k7] at h9; cases h9
      have n9g : i9 ≠ ig := fun e => by subst e; rw [g1.at_] at h9; cases h9
      have n9r : i9 ≠ ir := fun e => by subst e; obtain ⟨q, hr⟩ := g1.rd; rw [hr] at h9; cases h9
      have b9 : σ i9 = none := sub_none hs1 h9
      ((conv => whnf); (repeat ((first | with_reducible refine abr_true rfl ?_ | with_reducible refine abr_false rfl ?_ | with_reducible refine abr_yes rfl ?_ | refine abr_yes (by decide) ?_ | refine abr_no (by decide) ?_ | with_reducible refine abr_same_ne ?_); (conv => whnf))))
      refine astore (xs := [i64v sn, boolv pa, i64v fr, i64v to]) (l := [i64v sn, boolv pa, i64v fr, i64v to]) (upd_same _ _ _) (by exact Nat.le_refl 4) rfl rfl ?_
      rw [upd_upd]
      have g2 := g1.upd (.cells [i64v sn, boolv pa, i64v fr, i64v to]) n9g n9r
      have k4 : upd υ1 i9 (.cells [i64v sn, boolv pa, i64v fr, i64v to]) i4 = _ := (upd_ne _ _ n49).trans k4
      have k7 : upd υ1 i9 (.cells [i64v sn, boolv pa, i64v fr, i64v to]) i7 = _ := (upd_ne _ _ n79).trans k7
      have k9 : upd υ1 i9 (.cells [i64v sn, boolv pa, i64v fr, i64v to]) i9 = some (.cells [i64v sn, boolv pa, i64v fr, i64v to]) := upd_same _ _ _
      have hs2 : Sub (upd υ1 i9 (.cells [i64v sn, boolv pa, i64v fr, i64v to])) σ := sub_upd _ hs1 b9
      have hto2 : TokIn (upd υ1 i9 (.cells [i64v sn, boolv pa, i64v fr, i64v to])) σ tk := by
        rcases hto1 with rfl | ⟨u, rfl, h1, h2⟩
        · exact .inl rfl
        · exact .inr ⟨u, rfl, by rw [upd_ne _ _ (fun e => by subst e; rw [h1] at h9; cases h9)]; exact h1, h2⟩
      generalize upd υ1 i9 (.cells [i64v sn, boolv pa, i64v fr, i64v to]) = υ2 at *
      ((conv => whnf); (repeat ((first | with_reducible refine abr_true rfl ?_ | with_reducible refine abr_false rfl ?_ | with_reducible refine abr_yes rfl ?_ | refine abr_yes (by decide) ?_ | refine abr_no (by decide) ?_ | with_reducible refine abr_same_ne ?_); (conv => whnf))))
      refine aload g2.at_ rfl ?_
      ((conv => whnf); (repeat ((first | with_reducible refine abr_true rfl ?_ | with_reducible refine abr_false rfl ?_ | with_reducible refine abr_yes rfl ?_ | refine abr_yes (by decide) ?_ | refine abr_no (by decide) ?_ | with_reducible refine abr_same_ne ?_); (conv => whnf))))
      obtain ⟨f', rfl⟩ : ∃ f', f = f' + 1 := ⟨f - 1, by omega⟩
      by_cases hp' : p'.2 = 0
      · refine abr_yes hp' ?_
        ((conv => whnf); (repeat ((first | with_reducible refine abr_true rfl ?_ | with_reducible refine abr_false rfl ?_ | with_reducible refine abr_yes rfl ?_ | refine abr_yes (by decide) ?_ | refine abr_no (by decide) ?_ | with_reducible refine abr_same_ne ?_); (conv => whnf))))
        refine aloads (l := [i64v sn, boolv pa, i64v fr, i64v to]) k9 (by exact Nat.le_refl 4) rfl ?_
        ((conv => whnf); (repeat ((first | with_reducible refine abr_true rfl ?_ | with_reducible refine abr_false rfl ?_ | with_reducible refine abr_yes rfl ?_ | refine abr_yes (by decide) ?_ | refine abr_no (by decide) ?_ | with_reducible refine abr_same_ne ?_); (conv => whnf))))
        refine acall (tIsMiss (sn, pa, fr, to) w _) ?_
        rintro _ σ_ ⟨rfl, e_⟩
        obtain rfl := e_.symm
        refine ⟨?_, Ext.refl _⟩
        ((conv => whnf); (repeat ((first | with_reducible refine abr_true rfl ?_ | with_reducible refine abr_false rfl ?_ | with_reducible refine abr_yes rfl ?_ | refine abr_yes (by decide) ?_ | refine abr_no (by decide) ?_ | with_reducible refine abr_same_ne ?_); (conv => whnf))))
        cases hmk : missOk w (sn, pa, fr, to)
        · rw [hmk, if_pos (show p'.2 = 0 ∧ false = false from ⟨hp', rfl⟩)] at hans
          ((conv => whnf); (repeat ((first | with_reducible refine abr_true rfl ?_ | with_reducible refine abr_false rfl ?_ | with_reducible refine abr_yes rfl ?_ | refine abr_yes (by decide) ?_ | refine abr_no (by decide) ?_ | with_reducible refine abr_same_ne ?_); (conv => whnf))))
          refine astore (xs := [i64v 0, .slice 4 [] .full]) (l := [i64v 0, .slice 4 [] .full]) k4 (by exact Nat.le_refl 2) rfl rfl ?_
          ((conv => whnf); (repeat ((first | with_reducible refine abr_true rfl ?_ | with_reducible refine abr_false rfl ?_ | with_reducible refine abr_yes rfl ?_ | refine abr_yes (by decide) ?_ | refine abr_no (by decide) ?_ | with_reducible refine abr_same_ne ?_); (conv => whnf))))
          refine aloads (l := [i64v 0, .slice 4 [] .full]) (upd_same _ _ _) (by exact Nat.le_refl 2) rfl ?_
          ((conv => whnf); (repeat ((first | with_reducible refine abr_true rfl ?_ | with_reducible refine abr_false rfl ?_ | with_reducible refine abr_yes rfl ?_ | refine abr_yes (by decide) ?_ | refine abr_no (by decide) ?_ | with_reducible refine abr_same_ne ?_); (conv => whnf))))
          exact aret_st (l := []) (hz hs2) ⟨by rw [hans]; try rfl, rfl⟩
        · rw [hmk, if_neg (show ¬ (p'.2 = 0 ∧ true = false) from fun h => by cases h.2)] at hans
          ((conv => whnf); (repeat ((first | with_reducible refine abr_true rfl ?_ | with_reducible refine abr_false rfl ?_ | with_reducible refine abr_yes rfl ?_ | refine abr_yes (by decide) ?_ | refine abr_no (by decide) ?_ | with_reducible refine abr_same_ne ?_); (conv => whnf))))
          refine aload k7 rfl ?_
          ((conv => whnf); (repeat ((first | with_reducible refine abr_true rfl ?_ | with_reducible refine abr_false rfl ?_ | with_reducible refine abr_yes rfl ?_ | refine abr_yes (by decide) ?_ | refine abr_no (by decide) ?_ | with_reducible refine abr_same_ne ?_); (conv => whnf))))
          refine aloads (l := [i64v sn, boolv pa, i64v fr, i64v to]) k9 (by exact Nat.le_refl 4) rfl ?_
          ((conv => whnf); (repeat ((first | with_reducible refine abr_true rfl ?_ | with_reducible refine abr_false rfl ?_ | with_reducible refine abr_yes rfl ?_ | refine abr_yes (by decide) ?_ | refine abr_no (by decide) ?_ | with_reducible refine abr_same_ne ?_); (conv => whnf))))
          refine aapp_in (ys := [msV (sn, pa, fr, to)]) hto2 hs2 (by rw [List.length_map]; show (_ + 1) * 32 ≤ _; omega) fun t5 υ5 hx5 hs5 hto5 => ?_
          have p4 := hx5 i4 _ rfl k4
          have p7 := hx5 i7 _ rfl k7
          have pg := hx5 ig _ rfl g2.at_
          obtain ⟨tkr, hrd⟩ := g2.rd
          have pr := hx5 ir _ rfl hrd
          have g5 : Gr υ5 ig ir b p'.1 p'.2 := ⟨g2.ne, g2.hk, g2.hb, ⟨tkr, pr⟩, pg⟩
          rw [show ms.map msV ++ [msV (sn, pa, fr, to)] = (ms ++ [(sn, pa, fr, to)]).map msV by rw [List.map_append]; rfl]
          ((conv => whnf); (repeat ((first | with_reducible refine abr_true rfl ?_ | with_reducible refine abr_false rfl ?_ | with_reducible refine abr_yes rfl ?_ | refine abr_yes (by decide) ?_ | refine abr_no (by decide) ?_ | with_reducible refine abr_same_ne ?_); (conv => whnf))))
          refine astore (xs := [missV (.tip t5) (ms ++ [(sn, pa, fr, to)])]) (l := [i64v ack, missV (.tip t5) (ms ++ [(sn, pa, fr, to)])]) p7 (by exact Nat.le_refl 2) rfl rfl ?_
          have hn7 : i7 ≠ t5 := hto5.ne_of p7 rfl t5 rfl
          ((conv => whnf); (repeat ((first | with_reducible refine abr_true rfl ?_ | with_reducible refine abr_false rfl ?_ | with_reducible refine abr_yes rfl ?_ | refine abr_yes (by decide) ?_ | refine abr_no (by decide) ?_ | with_reducible refine abr_same_ne ?_); (conv => whnf))))
          refine ⟨(f', ms ++ [(sn, pa, fr, to)], p', mo, ack, .tip t5, upd υ5 i7 (.cells [i64v ack, missV (.tip t5) (ms ++ [(sn, pa, fr, to)])]), ig, ir, i7), rfl, ⟨hw, by dsimp only; rw [List.length_append, List.length_singleton]; omega, g5.upd _ (Ne.symm ng7) (Ne.symm nr7), hto5.ne _ (fun u e => by cases e; exact hn7), sub_upd _ hs5 b7, (upd_ne _ _ n47).trans p4, upd_same _ _ _, bg, br, b4, b7, ng4, nr4, ng7, nr7, n47, hans⟩, by dsimp only; omega, Sub.refl _, ?_⟩
          ((conv => whnf); (repeat ((first | with_reducible refine abr_true rfl ?_ | with_reducible refine abr_false rfl ?_ | with_reducible refine abr_yes rfl ?_ | refine abr_yes (by decide) ?_ | refine abr_no (by decide) ?_ | with_reducible refine abr_same_ne ?_); (conv => whnf))))
          (repeat' first | with_reducible exact EnvLe.refl _ | (refine EnvLe.node ?_ (by first | exact Or.inl rfl | exact Or.inr (Or.inl rfl) | exact Or.inr (Or.inr ⟨nofun, VLe.slice _ _ _⟩)) ?_))
      · rw [if_neg (show ¬ (p'.2 = 0 ∧ missOk w (sn, pa, fr, to) = false) from fun h => hp' h.1)] at hans
        refine abr_no hp' ?_
        ((conv => whnf); (repeat ((first | with_reducible refine abr_true rfl ?_ | with_reducible refine abr_false rfl ?_ | with_reducible refine abr_yes rfl ?_ | refine abr_yes (by decide) ?_ | refine abr_no (by decide) ?_ | with_reducible refine abr_same_ne ?_); (conv => whnf))))
        refine aload k7 rfl ?_
        ((conv => whnf); (repeat ((first | with_reducible refine abr_true rfl ?_ | with_reducible refine abr_false rfl ?_ | with_reducible refine abr_yes rfl ?_ | refine abr_yes (by decide) ?_ | refine abr_no (by decide) ?_ | with_reducible refine abr_same_ne ?_); (conv => whnf))))
        refine aloads (l := [i64v sn, boolv pa, i64v fr, i64v to]) k9 (by exact Nat.le_refl 4) rfl ?_
        ((conv => whnf); (repeat ((first | with_reducible refine abr_true rfl ?_ | with_reducible refine abr_false rfl ?_ | with_reducible refine abr_yes rfl ?_ | refine abr_yes (by decide) ?_ | refine abr_no (by decide) ?_ | with_reducible refine abr_same_ne ?_); (conv => whnf))))
        refine aapp_in (ys := [msV (sn, pa, fr, to)]) hto2 hs2 (by rw [List.length_map]; show (_ + 1) * 32 ≤ _; omega) fun t5 υ5 hx5 hs5 hto5 => ?_
        have p4 := hx5 i4 _ rfl k4
        have p7 := hx5 i7 _ rfl k7
        have pg := hx5 ig _ rfl g2.at_
        obtain ⟨tkr, hrd⟩ := g2.rd
        have pr := hx5 ir _ rfl hrd
        have g5 : Gr υ5 ig ir b p'.1 p'.2 := ⟨g2.ne, g2.hk, g2.hb, ⟨tkr, pr⟩, pg⟩
        rw [show ms.map msV ++ [msV (sn, pa, fr, to)] = (ms ++ [(sn, pa, fr, to)]).map msV by rw [List.map_append]; rfl]
        ((conv => whnf); (repeat ((first | with_reducible refine abr_true rfl ?_ | with_reducible refine abr_false rfl ?_ | with_reducible refine abr_yes rfl ?_ | refine abr_yes (by decide) ?_ | refine abr_no (by decide) ?_ | with_reducible refine abr_same_ne ?_); (conv => whnf))))
        refine astore (xs := [missV (.tip t5) (ms ++ [(sn, pa, fr, to)])]) (l := [i64v ack, missV (.tip t5) (ms ++ [(sn, pa, fr, to)])]) p7 (by exact Nat.le_refl 2) rfl rfl ?_
        have hn7 : i7 ≠ t5 := hto5.ne_of p7 rfl t5 rfl
        ((conv => whnf); (repeat ((first | with_reducible refine abr_true rfl ?_ | with_reducible refine abr_false rfl ?_ | with_reducible refine abr_yes rfl ?_ | refine abr_yes (by decide) ?_ | refine abr_no (by decide) ?_ | with_reducible refine abr_same_ne ?_); (conv => whnf))))
        refine ⟨(f', ms ++ [(sn, pa, fr, to)], p', mo, ack, .tip t5, upd υ5 i7 (.cells [i64v ack, missV (.tip t5) (ms ++ [(sn, pa, fr, to)])]), ig, ir, i7), rfl, ⟨hw, by dsimp only; rw [List.length_append, List.length_singleton]; omega, g5.upd _ (Ne.symm ng7) (Ne.symm nr7), hto5.ne _ (fun u e => by cases e; exact hn7), sub_upd _ hs5 b7, (upd_ne _ _ n47).trans p4, upd_same _ _ _, bg, br, b4, b7, ng4, nr4, ng7, nr7, n47, hans⟩, by dsimp only; omega, Sub.refl _, ?_⟩
        ((conv => whnf); (repeat ((first | with_reducible refine abr_true rfl ?_ | with_reducible refine abr_false rfl ?_ | with_reducible refine abr_yes rfl ?_ | refine abr_yes (by decide) ?_ | refine abr_no (by decide) ?_ | with_reducible refine abr_same_ne ?_); (conv => whnf))))
        (repeat' first | with_reducible exact EnvLe.refl _ | (refine EnvLe.node ?_ (by first | exact Or.inl rfl | exact Or.inr (Or.inl rfl) | exact Or.inr (Or.inr ⟨nofun, VLe.slice _ _ _⟩)) ?_))
end Go.Proofs.Ytnfdgccmpglbhaa
/-
  The statements about statuses: what all of them use.
-/
namespace Go.Proofs.Ytnfdgccmpglbhaa
set_option linter.unusedVariables false
set_option linter.unusedSimpArgs false
open Go Go.Am

def st2 : Int × List Ms := (9, [(3, true, 2, 0), (7, false, 0, 0)])
set_option maxRecDepth 20000 in
theorem alive11 (σ : AHeap) : ACalls Try.prog i_bowlinelaw11_alive [] σ fun v σ' => v = boolv true ∧ σ' = σ := by
  refine k_bowlinelaw11_alive rfl ?_
  ((conv => whnf); (repeat ((first | with_reducible refine abr_true rfl ?_ | with_reducible refine abr_false rfl ?_ | with_reducible refine abr_yes rfl ?_ | refine abr_yes (by decide) ?_ | refine abr_no (by decide) ?_ | with_reducible refine abr_same_ne ?_); (conv => whnf))))
  refine acall (tWrite (5, []) .full 10 _ (by decide)) ?_
  rintro _ σ_ ⟨rfl, e_⟩
  obtain rfl := e_.symm
  refine ⟨?_, Ext.refl _⟩
  ((conv => whnf); (repeat ((first | with_reducible refine abr_true rfl ?_ | with_reducible refine abr_false rfl ?_ | with_reducible refine abr_yes rfl ?_ | refine abr_yes (by decide) ?_ | refine abr_no (by decide) ?_ | with_reducible refine abr_same_ne ?_); (conv => whnf))))
  rw [show writeSt 10 (5, []) = [0, 20] by decide +kernel, show writeCode 10 (5, []) = 0 by decide +kernel]
  refine acall (tWrite st2 .full 16 _ (by decide)) ?_
  rintro _ σ_ ⟨rfl, e_⟩
  obtain rfl := e_.symm
  refine ⟨?_, Ext.refl _⟩
  ((conv => whnf); (repeat ((first | with_reducible refine abr_true rfl ?_ | with_reducible refine abr_false rfl ?_ | with_reducible refine abr_yes rfl ?_ | refine abr_yes (by decide) ?_ | refine abr_no (by decide) ?_ | with_reducible refine abr_same_ne ?_); (conv => whnf))))
  rw [show writeCode 16 st2 = 0 by decide +kernel]
  have hwl : (writeSt 16 st2).length ≤ 8000 := by decide +kernel
  refine acall (tRead (writeSt 16 st2) .none 16 _ hwl) ?_
  rintro _ σ_ ⟨rfl, e_⟩
  obtain rfl := e_.symm
  refine ⟨?_, Ext.refl _⟩
  ((conv => whnf); (repeat ((first | with_reducible refine abr_true rfl ?_ | with_reducible refine abr_false rfl ?_ | with_reducible refine abr_yes rfl ?_ | refine abr_yes (by decide) ?_ | refine abr_no (by decide) ?_ | with_reducible refine abr_same_ne ?_); (conv => whnf))))
  rw [show readSt 16 (writeSt 16 st2) = (st2, 0) by decide +kernel]
  ((conv => whnf); (repeat ((first | with_reducible refine abr_true rfl ?_ | with_reducible refine abr_false rfl ?_ | with_reducible refine abr_yes rfl ?_ | refine abr_yes (by decide) ?_ | refine abr_no (by decide) ?_ | with_reducible refine abr_same_ne ?_); (conv => whnf))))
  refine anew rfl fun i5 h5 => ?_
  ((conv => whnf); (repeat ((first | with_reducible refine abr_true rfl ?_ | with_reducible refine abr_false rfl ?_ | with_reducible refine abr_yes rfl ?_ | refine abr_yes (by decide) ?_ | refine abr_no (by decide) ?_ | with_reducible refine abr_same_ne ?_); (conv => whnf))))
  refine astore (xs := [i64v 9, missV .none st2.2]) (l := [i64v 9, missV .none st2.2]) (upd_same _ _ _) (by exact Nat.le_refl 2) rfl rfl ?_
  rw [upd_upd]
  ((conv => whnf); (repeat ((first | with_reducible refine abr_true rfl ?_ | with_reducible refine abr_false rfl ?_ | with_reducible refine abr_yes rfl ?_ | refine abr_yes (by decide) ?_ | refine abr_no (by decide) ?_ | with_reducible refine abr_same_ne ?_); (conv => whnf))))
  refine acall (tRead [128] .full 10 _ (by decide)) ?_
  rintro _ σ_ ⟨rfl, e_⟩
  obtain rfl := e_.symm
  refine ⟨?_, Ext.refl _⟩
  ((conv => whnf); (repeat ((first | with_reducible refine abr_true rfl ?_ | with_reducible refine abr_false rfl ?_ | with_reducible refine abr_yes rfl ?_ | refine abr_yes (by decide) ?_ | refine abr_no (by decide) ?_ | with_reducible refine abr_same_ne ?_); (conv => whnf))))
  rw [show readSt 10 [128] = ((0, []), 4) by decide +kernel]
  ((conv => whnf); (repeat ((first | with_reducible refine abr_true rfl ?_ | with_reducible refine abr_false rfl ?_ | with_reducible refine abr_yes rfl ?_ | refine abr_yes (by decide) ?_ | refine abr_no (by decide) ?_ | with_reducible refine abr_same_ne ?_); (conv => whnf))))
  refine anew rfl fun i7 h7 => ?_
  have n57 : i5 ≠ i7 := fun e => by subst e; rw [upd_same] at h7; cases h7
  have b7 : σ i7 = none := sub_none (Sub.upd_fresh _ h5) h7
  ((conv => whnf); (repeat ((first | with_reducible refine abr_true rfl ?_ | with_reducible refine abr_false rfl ?_ | with_reducible refine abr_yes rfl ?_ | refine abr_yes (by decide) ?_ | refine abr_no (by decide) ?_ | with_reducible refine abr_same_ne ?_); (conv => whnf))))
  refine astore (xs := [i64v 0, missV .none []]) (l := [i64v 0, missV .none []]) (upd_same _ _ _) (by exact Nat.le_refl 2) rfl rfl ?_
  rw [upd_upd]
  have k5 : upd (upd σ i5 (.cells [i64v 9, missV .none st2.2])) i7 (.cells [i64v 0, missV .none []]) i5 = some (.cells [i64v 9, missV .none st2.2]) := (upd_ne _ _ n57).trans (upd_same _ _ _)
  have hs : Sub (upd (upd σ i5 (.cells [i64v 9, missV .none st2.2])) i7 (.cells [i64v 0, missV .none []])) σ := sub_upd _ (Sub.upd_fresh _ h5) b7
  generalize upd (upd σ i5 (.cells [i64v 9, missV .none st2.2])) i7 (.cells [i64v 0, missV .none []]) = τ at *
  ((conv => whnf); (repeat ((first | with_reducible refine abr_true rfl ?_ | with_reducible refine abr_false rfl ?_ | with_reducible refine abr_yes rfl ?_ | refine abr_yes (by decide) ?_ | refine abr_no (by decide) ?_ | with_reducible refine abr_same_ne ?_); (conv => whnf))))
  refine acall (tWrite (0, [(0, false, 1, 0)]) .full 10 _ (by decide)) ?_
  rintro _ σ_ ⟨rfl, e_⟩
  obtain rfl := e_.symm
  refine ⟨?_, Ext.refl _⟩
  ((conv => whnf); (repeat ((first | with_reducible refine abr_true rfl ?_ | with_reducible refine abr_false rfl ?_ | with_reducible refine abr_yes rfl ?_ | refine abr_yes (by decide) ?_ | refine abr_no (by decide) ?_ | with_reducible refine abr_same_ne ?_); (conv => whnf))))
  rw [show writeCode 10 (0, [(0, false, 1, 0)]) = 3 by decide +kernel]
  refine astr (bs := [0, 20]) rfl ?_
  ((conv => whnf); (repeat ((first | with_reducible refine abr_true rfl ?_ | with_reducible refine abr_false rfl ?_ | with_reducible refine abr_yes rfl ?_ | refine abr_yes (by decide) ?_ | refine abr_no (by decide) ?_ | with_reducible refine abr_same_ne ?_); (conv => whnf))))
  refine aload k5 rfl ?_
  ((conv => whnf); (repeat ((first | with_reducible refine abr_true rfl ?_ | with_reducible refine abr_false rfl ?_ | with_reducible refine abr_yes rfl ?_ | refine abr_yes (by decide) ?_ | refine abr_no (by decide) ?_ | with_reducible refine abr_same_ne ?_); (conv => whnf))))
  refine aload k5 rfl ?_
  ((conv => whnf); (repeat ((first | with_reducible refine abr_true rfl ?_ | with_reducible refine abr_false rfl ?_ | with_reducible refine abr_yes rfl ?_ | refine abr_yes (by decide) ?_ | refine abr_no (by decide) ?_ | with_reducible refine abr_same_ne ?_); (conv => whnf))))
  refine aload k5 rfl ?_
  ((conv => whnf); (repeat ((first | with_reducible refine abr_true rfl ?_ | with_reducible refine abr_false rfl ?_ | with_reducible refine abr_yes rfl ?_ | refine abr_yes (by decide) ?_ | refine abr_no (by decide) ?_ | with_reducible refine abr_same_ne ?_); (conv => whnf))))
  refine aget (x := msV (3, true, 2, 0)) (by omega) rfl ?_
  ((conv => whnf); (repeat ((first | with_reducible refine abr_true rfl ?_ | with_reducible refine abr_false rfl ?_ | with_reducible refine abr_yes rfl ?_ | refine abr_yes (by decide) ?_ | refine abr_no (by decide) ?_ | with_reducible refine abr_same_ne ?_); (conv => whnf))))
  refine acells (l := (msV (3, true, 2, 0)).cells) (by exact Nat.le_refl 4) rfl ?_
  ((conv => whnf); (repeat ((first | with_reducible refine abr_true rfl ?_ | with_reducible refine abr_false rfl ?_ | with_reducible refine abr_yes rfl ?_ | refine abr_yes (by decide) ?_ | refine abr_no (by decide) ?_ | with_reducible refine abr_same_ne ?_); (conv => whnf))))
  exact aret (VLe.refl _) hs ⟨rfl, rfl⟩
set_option maxRecDepth 20000 in
theorem StatusWrites (s o : Int × List Ms) (w : Int) (σ : AHeap) (hs : s.2.length * 32 ≤ 140737488351232) (ho : o.2.length * 32 ≤ 140737488351232) : ACalls Try.prog i_bowlinelaw11_StatusWrites [stV .none s, stV .none o, i64v w] σ fun v σ' => v = boolv true ∧ σ' = σ := by
  refine k_bowlinelaw11_StatusWrites rfl ?_
  ((conv => whnf); (repeat ((first | with_reducible refine abr_true rfl ?_ | with_reducible refine abr_false rfl ?_ | with_reducible refine abr_yes rfl ?_ | refine abr_yes (by decide) ?_ | refine abr_no (by decide) ?_ | with_reducible refine abr_same_ne ?_); (conv => whnf))))
  refine anew rfl fun i3 h3 => ?_
  ((conv => whnf); (repeat ((first | with_reducible refine abr_true rfl ?_ | with_reducible refine abr_false rfl ?_ | with_reducible refine abr_yes rfl ?_ | refine abr_yes (by decide) ?_ | refine abr_no (by decide) ?_ | with_reducible refine abr_same_ne ?_); (conv => whnf))))
  refine anew rfl fun i4 h4 => ?_
  have n34 : i3 ≠ i4 := fun e => by subst e; rw [upd_same] at h4; cases h4
  have b4 : σ i4 = none := sub_none (Sub.upd_fresh _ h3) h4
  obtain ⟨sa, sl⟩ := s
  obtain ⟨oa, ol⟩ := o
  dsimp only at hs ho
  have k3 : upd (upd σ i3 (.cells (stV .none (sa, sl)).cells)) i4 (.cells (stV .none (oa, ol)).cells) i3 = some (.cells [i64v sa, missV .none sl]) := (upd_ne _ _ n34).trans (upd_same _ _ _)
  have k4 : upd (upd σ i3 (.cells (stV .none (sa, sl)).cells)) i4 (.cells (stV .none (oa, ol)).cells) i4 = some (.cells [i64v oa, missV .none ol]) := upd_same _ _ _
  have hsub : Sub (upd (upd σ i3 (.cells (stV .none (sa, sl)).cells)) i4 (.cells (stV .none (oa, ol)).cells)) σ := sub_upd _ (Sub.upd_fresh _ h3) b4
  generalize upd (upd σ i3 (.cells (stV .none (sa, sl)).cells)) i4 (.cells (stV .none (oa, ol)).cells) = τ at *
  ((conv => whnf); (repeat ((first | with_reducible refine abr_true rfl ?_ | with_reducible refine abr_false rfl ?_ | with_reducible refine abr_yes rfl ?_ | refine abr_yes (by decide) ?_ | refine abr_no (by decide) ?_ | with_reducible refine abr_same_ne ?_); (conv => whnf))))
  refine aload k3 rfl ?_
  ((conv => whnf); (repeat ((first | with_reducible refine abr_true rfl ?_ | with_reducible refine abr_false rfl ?_ | with_reducible refine abr_yes rfl ?_ | refine abr_yes (by decide) ?_ | refine abr_no (by decide) ?_ | with_reducible refine abr_same_ne ?_); (conv => whnf))))
  rw [List.length_map]
  by_cases c1 : sl.length > 60
  · (repeat ((first | refine aload (by (repeat (first | with_reducible exact upd_same _ _ _ | assumption | rw [upd_ne _ _ (by first | assumption | (apply Ne.symm; assumption))]))) rfl ?_ | refine afit_i64 (by omega) ?_ | refine arem_nonneg (by omega) (by omega) ?_ | refine adiv_i64 (by omega) (by omega) ?_ | refine abr_yes (by omega) ?_ | refine abr_no (by omega) ?_ | refine amin ?_ | refine amax ?_ | refine afit_u64 (by omega) ?_ | refine afit_u8 (by omega) ?_ | rw [List.length_map]); ((conv => whnf); (repeat ((first | with_reducible refine abr_true rfl ?_ | with_reducible refine abr_false rfl ?_ | with_reducible refine abr_yes rfl ?_ | refine abr_yes (by decide) ?_ | refine abr_no (by decide) ?_ | with_reducible refine abr_same_ne ?_); (conv => whnf))))))
    refine acall (alive11 _) ?_
    rintro _ σ_ ⟨rfl, e_⟩
    obtain rfl := e_.symm
    refine ⟨?_, Ext.refl _⟩
    ((conv => whnf); (repeat ((first | with_reducible refine abr_true rfl ?_ | with_reducible refine abr_false rfl ?_ | with_reducible refine abr_yes rfl ?_ | refine abr_yes (by decide) ?_ | refine abr_no (by decide) ?_ | with_reducible refine abr_same_ne ?_); (conv => whnf))))
    exact aret (VLe.refl _) hsub ⟨rfl, rfl⟩
  (repeat ((first | refine aload (by (repeat (first | with_reducible exact upd_same _ _ _ | assumption | rw [upd_ne _ _ (by first | assumption | (apply Ne.symm; assumption))]))) rfl ?_ | refine afit_i64 (by omega) ?_ | refine arem_nonneg (by omega) (by omega) ?_ | refine adiv_i64 (by omega) (by omega) ?_ | refine abr_yes (by omega) ?_ | refine abr_no (by omega) ?_ | refine amin ?_ | refine amax ?_ | refine afit_u64 (by omega) ?_ | refine afit_u8 (by omega) ?_ | rw [List.length_map]); ((conv => whnf); (repeat ((first | with_reducible refine abr_true rfl ?_ | with_reducible refine abr_false rfl ?_ | with_reducible refine abr_yes rfl ?_ | refine abr_yes (by decide) ?_ | refine abr_no (by decide) ?_ | with_reducible refine abr_same_ne ?_); (conv => whnf))))))
  by_cases c2 : ol.length > 60
  · (repeat ((first | refine aload (by (repeat (first | with_reducible exact upd_same _ _ _ | assumption | rw [upd_ne _ _ (by first | assumption | (apply Ne.symm; assumption))]))) rfl ?_ | refine afit_i64 (by omega) ?_ | refine arem_nonneg (by omega) (by omega) ?_ | refine adiv_i64 (by omega) (by omega) ?_ | refine abr_yes (by omega) ?_ | refine abr_no (by omega) ?_ | refine amin ?_ | refine amax ?_ | refine afit_u64 (by omega) ?_ | refine afit_u8 (by omega) ?_ | rw [List.length_map]); ((conv => whnf); (repeat ((first | with_reducible refine abr_true rfl ?_ | with_reducible refine abr_false rfl ?_ | with_reducible refine abr_yes rfl ?_ | refine abr_yes (by decide) ?_ | refine abr_no (by decide) ?_ | with_reducible refine abr_same_ne ?_); (conv => whnf))))))
    refine acall (alive11 _) ?_
    rintro _ σ_ ⟨rfl, e_⟩
    obtain rfl := e_.symm
    refine ⟨?_, Ext.refl _⟩
    ((conv => whnf); (repeat ((first | with_reducible refine abr_true rfl ?_ | with_reducible refine abr_false rfl ?_ | with_reducible refine abr_yes rfl ?_ | refine abr_yes (by decide) ?_ | refine abr_no (by decide) ?_ | with_reducible refine abr_same_ne ?_); (conv => whnf))))
    exact aret (VLe.refl _) hsub ⟨rfl, rfl⟩
  (repeat ((first | refine aload (by (repeat (first | with_reducible exact upd_same _ _ _ | assumption | rw [upd_ne _ _ (by first | assumption | (apply Ne.symm; assumption))]))) rfl ?_ | refine afit_i64 (by omega) ?_ | refine arem_nonneg (by omega) (by omega) ?_ | refine adiv_i64 (by omega) (by omega) ?_ | refine abr_yes (by omega) ?_ | refine abr_no (by omega) ?_ | refine amin ?_ | refine amax ?_ | refine afit_u64 (by omega) ?_ | refine afit_u8 (by omega) ?_ | rw [List.length_map]); ((conv => whnf); (repeat ((first | with_reducible refine abr_true rfl ?_ | with_reducible refine abr_false rfl ?_ | with_reducible refine abr_yes rfl ?_ | refine abr_yes (by decide) ?_ | refine abr_no (by decide) ?_ | with_reducible refine abr_same_ne ?_); (conv => whnf))))))
  refine aloads (l := [i64v sa, missV .none sl]) k3 (by exact Nat.le_refl 2) rfl ?_
  ((conv => whnf); (repeat ((first | with_reducible refine abr_true rfl ?_ | with_reducible refine abr_false rfl ?_ | with_reducible refine abr_yes rfl ?_ | refine abr_yes (by decide) ?_ | refine abr_no (by decide) ?_ | with_reducible refine abr_same_ne ?_); (conv => whnf))))
  refine acall (tAs (sa, sl) .none _ hs) ?_
  rintro _ σ_ ⟨rfl, e_⟩
  obtain rfl := e_.symm
  refine ⟨?_, Ext.refl _⟩
  ((conv => whnf); (repeat ((first | with_reducible refine abr_true rfl ?_ | with_reducible refine abr_false rfl ?_ | with_reducible refine abr_yes rfl ?_ | refine abr_yes (by decide) ?_ | refine abr_no (by decide) ?_ | with_reducible refine abr_same_ne ?_); (conv => whnf))))
  refine anew rfl fun i7 h7 => ?_
  have n37 : i3 ≠ i7 := fun e => by subst e; rw [k3] at h7; cases h7
  have n47 : i4 ≠ i7 := fun e => by subst e; rw [k4] at h7; cases h7
  have b7 : σ i7 = none := sub_none hsub h7
  ((conv => whnf); (repeat ((first | with_reducible refine abr_true rfl ?_ | with_reducible refine abr_false rfl ?_ | with_reducible refine abr_yes rfl ?_ | refine abr_yes (by decide) ?_ | refine abr_no (by decide) ?_ | with_reducible refine abr_same_ne ?_); (conv => whnf))))
  refine astore (xs := [i64v sa, missV .none sl]) (l := [i64v sa, missV .none sl]) (upd_same _ _ _) (by exact Nat.le_refl 2) rfl rfl ?_
  rw [upd_upd]
  have k3 : upd τ i7 (.cells [i64v sa, missV .none sl]) i3 = some (.cells [i64v sa, missV .none sl]) := (upd_ne _ _ n37).trans k3
  have k4 : upd τ i7 (.cells [i64v sa, missV .none sl]) i4 = some (.cells [i64v oa, missV .none ol]) := (upd_ne _ _ n47).trans k4
  have k7 : upd τ i7 (.cells [i64v sa, missV .none sl]) i7 = some (.cells [i64v sa, missV .none sl]) := upd_same _ _ _
  have hsub : Sub (upd τ i7 (.cells [i64v sa, missV .none sl])) σ := sub_upd _ hsub b7
  generalize upd τ i7 (.cells [i64v sa, missV .none sl]) = υ at *
  have hl1 : sl.length ≤ 9223372036854775807 := by omega
  ((conv => whnf); (repeat ((first | with_reducible refine abr_true rfl ?_ | with_reducible refine abr_false rfl ?_ | with_reducible refine abr_yes rfl ?_ | refine abr_yes (by decide) ?_ | refine abr_no (by decide) ?_ | with_reducible refine abr_same_ne ?_); (conv => whnf))))
  refine aloads (l := [i64v sa, missV .none sl]) k3 (by exact Nat.le_refl 2) rfl ?_
  ((conv => whnf); (repeat ((first | with_reducible refine abr_true rfl ?_ | with_reducible refine abr_false rfl ?_ | with_reducible refine abr_yes rfl ?_ | refine abr_yes (by decide) ?_ | refine abr_no (by decide) ?_ | with_reducible refine abr_same_ne ?_); (conv => whnf))))
  refine acall (tWrite (sa, sl) .none w _ hl1) ?_
  rintro _ σ_ ⟨rfl, e_⟩
  obtain rfl := e_.symm
  refine ⟨?_, Ext.refl _⟩
  ((conv => whnf); (repeat ((first | with_reducible refine abr_true rfl ?_ | with_reducible refine abr_false rfl ?_ | with_reducible refine abr_yes rfl ?_ | refine abr_yes (by decide) ?_ | refine abr_no (by decide) ?_ | with_reducible refine abr_same_ne ?_); (conv => whnf))))
  refine aloads (l := [i64v sa, missV .none sl]) k3 (by exact Nat.le_refl 2) rfl ?_
  ((conv => whnf); (repeat ((first | with_reducible refine abr_true rfl ?_ | with_reducible refine abr_false rfl ?_ | with_reducible refine abr_yes rfl ?_ | refine abr_yes (by decide) ?_ | refine abr_no (by decide) ?_ | with_reducible refine abr_same_ne ?_); (conv => whnf))))
  refine aloads (l := [i64v sa, missV .none sl]) k7 (by exact Nat.le_refl 2) rfl ?_
  ((conv => whnf); (repeat ((first | with_reducible refine abr_true rfl ?_ | with_reducible refine abr_false rfl ?_ | with_reducible refine abr_yes rfl ?_ | refine abr_yes (by decide) ?_ | refine abr_no (by decide) ?_ | with_reducible refine abr_same_ne ?_); (conv => whnf))))
  refine acall (tRight (sa, sl) .none w _ hl1) ?_
  rintro _ σ_ ⟨rfl, e_⟩
  obtain rfl := e_.symm
  refine ⟨?_, Ext.refl _⟩
  ((conv => whnf); (repeat ((first | with_reducible refine abr_true rfl ?_ | with_reducible refine abr_false rfl ?_ | with_reducible refine abr_yes rfl ?_ | refine abr_yes (by decide) ?_ | refine abr_no (by decide) ?_ | with_reducible refine abr_same_ne ?_); (conv => whnf))))
  refine acall (refStRight (sa, sl) .none w _ hl1) ?_
  rintro _ σ_ ⟨rfl, e_⟩
  obtain rfl := e_.symm
  refine ⟨?_, Ext.refl _⟩
  ((conv => whnf); (repeat ((first | with_reducible refine abr_true rfl ?_ | with_reducible refine abr_false rfl ?_ | with_reducible refine abr_yes rfl ?_ | refine abr_yes (by decide) ?_ | refine abr_no (by decide) ?_ | with_reducible refine abr_same_ne ?_); (conv => whnf))))
  refine abr_false (by simp) ?_
  ((conv => whnf); (repeat ((first | with_reducible refine abr_true rfl ?_ | with_reducible refine abr_false rfl ?_ | with_reducible refine abr_yes rfl ?_ | refine abr_yes (by decide) ?_ | refine abr_no (by decide) ?_ | with_reducible refine abr_same_ne ?_); (conv => whnf))))
  refine aloads (l := [i64v sa, missV .none sl]) k3 (by exact Nat.le_refl 2) rfl ?_
  ((conv => whnf); (repeat ((first | with_reducible refine abr_true rfl ?_ | with_reducible refine abr_false rfl ?_ | with_reducible refine abr_yes rfl ?_ | refine abr_yes (by decide) ?_ | refine abr_no (by decide) ?_ | with_reducible refine abr_same_ne ?_); (conv => whnf))))
  refine aloads (l := [i64v sa, missV .none sl]) k7 (by exact Nat.le_refl 2) rfl ?_
  ((conv => whnf); (repeat ((first | with_reducible refine abr_true rfl ?_ | with_reducible refine abr_false rfl ?_ | with_reducible refine abr_yes rfl ?_ | refine abr_yes (by decide) ?_ | refine abr_no (by decide) ?_ | with_reducible refine abr_same_ne ?_); (conv => whnf))))
  refine acall (tSize (sa, sl) .none w _ hl1) ?_
  rintro _ σ_ ⟨rfl, e_⟩
  obtain rfl := e_.symm
  refine ⟨?_, Ext.refl _⟩
  ((conv => whnf); (repeat ((first | with_reducible refine abr_true rfl ?_ | with_reducible refine abr_false rfl ?_ | with_reducible refine abr_yes rfl ?_ | refine abr_yes (by decide) ?_ | refine abr_no (by decide) ?_ | with_reducible refine abr_same_ne ?_); (conv => whnf))))
  refine acall (refStSize (sa, sl) .none w _ hl1) ?_
  rintro _ σ_ ⟨rfl, e_⟩
  obtain rfl := e_.symm
  refine ⟨?_, Ext.refl _⟩
  ((conv => whnf); (repeat ((first | with_reducible refine abr_true rfl ?_ | with_reducible refine abr_false rfl ?_ | with_reducible refine abr_yes rfl ?_ | refine abr_yes (by decide) ?_ | refine abr_no (by decide) ?_ | with_reducible refine abr_same_ne ?_); (conv => whnf))))
  try refine abr_false (by simp) ?_
  ((conv => whnf); (repeat ((first | with_reducible refine abr_true rfl ?_ | with_reducible refine abr_false rfl ?_ | with_reducible refine abr_yes rfl ?_ | refine abr_yes (by decide) ?_ | refine abr_no (by decide) ?_ | with_reducible refine abr_same_ne ?_); (conv => whnf))))
  refine aloads (l := [i64v sa, missV .none sl]) k3 (by exact Nat.le_refl 2) rfl ?_
  ((conv => whnf); (repeat ((first | with_reducible refine abr_true rfl ?_ | with_reducible refine abr_false rfl ?_ | with_reducible refine abr_yes rfl ?_ | refine abr_yes (by decide) ?_ | refine abr_no (by decide) ?_ | with_reducible refine abr_same_ne ?_); (conv => whnf))))
  refine aloads (l := [i64v oa, missV .none ol]) k4 (by exact Nat.le_refl 2) rfl ?_
  ((conv => whnf); (repeat ((first | with_reducible refine abr_true rfl ?_ | with_reducible refine abr_false rfl ?_ | with_reducible refine abr_yes rfl ?_ | refine abr_yes (by decide) ?_ | refine abr_no (by decide) ?_ | with_reducible refine abr_same_ne ?_); (conv => whnf))))
  refine aloads (l := [i64v sa, missV .none sl]) k7 (by exact Nat.le_refl 2) rfl ?_
  ((conv => whnf); (repeat ((first | with_reducible refine abr_true rfl ?_ | with_reducible refine abr_false rfl ?_ | with_reducible refine abr_yes rfl ?_ | refine abr_yes (by decide) ?_ | refine abr_no (by decide) ?_ | with_reducible refine abr_same_ne ?_); (conv => whnf))))
  refine aloads (l := [i64v oa, missV .none ol]) k4 (by exact Nat.le_refl 2) rfl ?_
  ((conv => whnf); (repeat ((first | with_reducible refine abr_true rfl ?_ | with_reducible refine abr_false rfl ?_ | with_reducible refine abr_yes rfl ?_ | refine abr_yes (by decide) ?_ | refine abr_no (by decide) ?_ | with_reducible refine abr_same_ne ?_); (conv => whnf))))
  refine acall (tSame (sa, sl) (oa, ol) .none .none _ hl1) ?_
  rintro _ σ_ ⟨rfl, e_⟩
  obtain rfl := e_.symm
  refine ⟨?_, Ext.refl _⟩
  ((conv => whnf); (repeat ((first | with_reducible refine abr_true rfl ?_ | with_reducible refine abr_false rfl ?_ | with_reducible refine abr_yes rfl ?_ | refine abr_yes (by decide) ?_ | refine abr_no (by decide) ?_ | with_reducible refine abr_same_ne ?_); (conv => whnf))))
  refine acall (tAs (oa, ol) .none _ ho) ?_
  rintro _ σ_ ⟨rfl, e_⟩
  obtain rfl := e_.symm
  refine ⟨?_, Ext.refl _⟩
  ((conv => whnf); (repeat ((first | with_reducible refine abr_true rfl ?_ | with_reducible refine abr_false rfl ?_ | with_reducible refine abr_yes rfl ?_ | refine abr_yes (by decide) ?_ | refine abr_no (by decide) ?_ | with_reducible refine abr_same_ne ?_); (conv => whnf))))
  refine acall (refSame (sa, sl) (oa, ol) .none .none _ hl1) ?_
  rintro _ σ_ ⟨rfl, e_⟩
  obtain rfl := e_.symm
  refine ⟨?_, Ext.refl _⟩
  ((conv => whnf); (repeat ((first | with_reducible refine abr_true rfl ?_ | with_reducible refine abr_false rfl ?_ | with_reducible refine abr_yes rfl ?_ | refine abr_yes (by decide) ?_ | refine abr_no (by decide) ?_ | with_reducible refine abr_same_ne ?_); (conv => whnf))))
  try refine abr_false (by simp) ?_
  ((conv => whnf); (repeat ((first | with_reducible refine abr_true rfl ?_ | with_reducible refine abr_false rfl ?_ | with_reducible refine abr_yes rfl ?_ | refine abr_yes (by decide) ?_ | refine abr_no (by decide) ?_ | with_reducible refine abr_same_ne ?_); (conv => whnf))))
  by_cases hw : w = 10 ∨ w = 16
  case neg =>
    have c3 : ¬ w = 10 := fun e => hw (.inl e)
    have c4 : ¬ w = 16 := fun e => hw (.inr e)
    have hsw : stWidth w = false := decide_eq_false hw
    have hok : stOk w (sa, sl) = false := by unfold stOk; rw [hsw]; rfl
    (repeat ((first | refine aload (by (repeat (first | with_reducible exact upd_same _ _ _ | assumption | rw [upd_ne _ _ (by first | assumption | (apply Ne.symm; assumption))]))) rfl ?_ | refine afit_i64 (by omega) ?_ | refine arem_nonneg (by omega) (by omega) ?_ | refine adiv_i64 (by omega) (by omega) ?_ | refine abr_yes (by omega) ?_ | refine abr_no (by omega) ?_ | refine amin ?_ | refine amax ?_ | refine afit_u64 (by omega) ?_ | refine afit_u8 (by omega) ?_ | rw [List.length_map]); ((conv => whnf); (repeat ((first | with_reducible refine abr_true rfl ?_ | with_reducible refine abr_false rfl ?_ | with_reducible refine abr_yes rfl ?_ | refine abr_yes (by decide) ?_ | refine abr_no (by decide) ?_ | with_reducible refine abr_same_ne ?_); (conv => whnf))))))
    refine acall (alive11 _) ?_
    rintro _ σ_ ⟨rfl, e_⟩
    obtain rfl := e_.symm
    refine ⟨?_, Ext.refl _⟩
    ((conv => whnf); (repeat ((first | with_reducible refine abr_true rfl ?_ | with_reducible refine abr_false rfl ?_ | with_reducible refine abr_yes rfl ?_ | refine abr_yes (by decide) ?_ | refine abr_no (by decide) ?_ | with_reducible refine abr_same_ne ?_); (conv => whnf))))
    rw [show writeCode w (sa, sl) = 9 by unfold writeCode; rw [hsw]; rfl]
    ((conv => whnf); (repeat ((first | with_reducible refine abr_true rfl ?_ | with_reducible refine abr_false rfl ?_ | with_reducible refine abr_yes rfl ?_ | refine abr_yes (by decide) ?_ | refine abr_no (by decide) ?_ | with_reducible refine abr_same_ne ?_); (conv => whnf))))
    rw [show writeSt w (sa, sl) = [] by unfold writeSt; rw [hok]; rfl]
    exact aret (VLe.refl _) hsub ⟨rfl, rfl⟩
  have hsw : stWidth w = true := decide_eq_true hw
  rcases Classical.em (w = 10) with c3 | c3
  all_goals
    (repeat ((first | refine aload (by (repeat (first | with_reducible exact upd_same _ _ _ | assumption | rw [upd_ne _ _ (by first | assumption | (apply Ne.symm; assumption))]))) rfl ?_ | refine afit_i64 (by omega) ?_ | refine arem_nonneg (by omega) (by omega) ?_ | refine adiv_i64 (by omega) (by omega) ?_ | refine abr_yes (by omega) ?_ | refine abr_no (by omega) ?_ | refine amin ?_ | refine amax ?_ | refine afit_u64 (by omega) ?_ | refine afit_u8 (by omega) ?_ | rw [List.length_map]); ((conv => whnf); (repeat ((first | with_reducible refine abr_true rfl ?_ | with_reducible refine abr_false rfl ?_ | with_reducible refine abr_yes rfl ?_ | refine abr_yes (by decide) ?_ | refine abr_no (by decide) ?_ | with_reducible refine abr_same_ne ?_); (conv => whnf))))))
    refine aloads (l := [i64v sa, missV .none sl]) k7 (by exact Nat.le_refl 2) rfl ?_
    ((conv => whnf); (repeat ((first | with_reducible refine abr_true rfl ?_ | with_reducible refine abr_false rfl ?_ | with_reducible refine abr_yes rfl ?_ | refine abr_yes (by decide) ?_ | refine abr_no (by decide) ?_ | with_reducible refine abr_same_ne ?_); (conv => whnf))))
    refine acall (refStRight (sa, sl) .none w _ hl1) ?_
    rintro _ σ_ ⟨rfl, e_⟩
    obtain rfl := e_.symm
    refine ⟨?_, Ext.refl _⟩
    ((conv => whnf); (repeat ((first | with_reducible refine abr_true rfl ?_ | with_reducible refine abr_false rfl ?_ | with_reducible refine abr_yes rfl ?_ | refine abr_yes (by decide) ?_ | refine abr_no (by decide) ?_ | with_reducible refine abr_same_ne ?_); (conv => whnf))))
    cases hok : stOk w (sa, sl)
    · ((conv => whnf); (repeat ((first | with_reducible refine abr_true rfl ?_ | with_reducible refine abr_false rfl ?_ | with_reducible refine abr_yes rfl ?_ | refine abr_yes (by decide) ?_ | refine abr_no (by decide) ?_ | with_reducible refine abr_same_ne ?_); (conv => whnf))))
      refine acall (alive11 _) ?_
      rintro _ σ_ ⟨rfl, e_⟩
      obtain rfl := e_.symm
      refine ⟨?_, Ext.refl _⟩
      ((conv => whnf); (repeat ((first | with_reducible refine abr_true rfl ?_ | with_reducible refine abr_false rfl ?_ | with_reducible refine abr_yes rfl ?_ | refine abr_yes (by decide) ?_ | refine abr_no (by decide) ?_ | with_reducible refine abr_same_ne ?_); (conv => whnf))))
      rw [show writeCode w (sa, sl) = 3 by unfold writeCode; rw [hsw, hok]; rfl]
      ((conv => whnf); (repeat ((first | with_reducible refine abr_true rfl ?_ | with_reducible refine abr_false rfl ?_ | with_reducible refine abr_yes rfl ?_ | refine abr_yes (by decide) ?_ | refine abr_no (by decide) ?_ | with_reducible refine abr_same_ne ?_); (conv => whnf))))
      rw [show writeSt w (sa, sl) = [] by unfold writeSt; rw [hok]; rfl]
      exact aret (VLe.refl _) hsub ⟨rfl, rfl⟩
    · ((conv => whnf); (repeat ((first | with_reducible refine abr_true rfl ?_ | with_reducible refine abr_false rfl ?_ | with_reducible refine abr_yes rfl ?_ | refine abr_yes (by decide) ?_ | refine abr_no (by decide) ?_ | with_reducible refine abr_same_ne ?_); (conv => whnf))))
      refine acall (alive11 _) ?_
      rintro _ σ_ ⟨rfl, e_⟩
      obtain rfl := e_.symm
      refine ⟨?_, Ext.refl _⟩
      ((conv => whnf); (repeat ((first | with_reducible refine abr_true rfl ?_ | with_reducible refine abr_false rfl ?_ | with_reducible refine abr_yes rfl ?_ | refine abr_yes (by decide) ?_ | refine abr_no (by decide) ?_ | with_reducible refine abr_same_ne ?_); (conv => whnf))))
      rw [show writeCode w (sa, sl) = 0 by unfold writeCode; rw [hsw, hok]; rfl]
      ((conv => whnf); (repeat ((first | with_reducible refine abr_true rfl ?_ | with_reducible refine abr_false rfl ?_ | with_reducible refine abr_yes rfl ?_ | refine abr_yes (by decide) ?_ | refine abr_no (by decide) ?_ | with_reducible refine abr_same_ne ?_); (conv => whnf))))
      rw [show writeSt w (sa, sl) = pack (stBits w (sa, sl)) by unfold writeSt; rw [hok]; rfl]
      refine astr rfl ?_
      ((conv => whnf); (repeat ((first | with_reducible refine abr_true rfl ?_ | with_reducible refine abr_false rfl ?_ | with_reducible refine abr_yes rfl ?_ | refine abr_yes (by decide) ?_ | refine abr_no (by decide) ?_ | with_reducible refine abr_same_ne ?_); (conv => whnf))))
      refine aloads (l := [i64v sa, missV .none sl]) k7 (by exact Nat.le_refl 2) rfl ?_
      ((conv => whnf); (repeat ((first | with_reducible refine abr_true rfl ?_ | with_reducible refine abr_false rfl ?_ | with_reducible refine abr_yes rfl ?_ | refine abr_yes (by decide) ?_ | refine abr_no (by decide) ?_ | with_reducible refine abr_same_ne ?_); (conv => whnf))))
      refine acall (refStWrite (sa, sl) .none w _ hok) ?_
      rintro _ σ_ ⟨rfl, e_⟩
      obtain rfl := e_.symm
      refine ⟨?_, Ext.refl _⟩
      ((conv => whnf); (repeat ((first | with_reducible refine abr_true rfl ?_ | with_reducible refine abr_false rfl ?_ | with_reducible refine abr_yes rfl ?_ | refine abr_yes (by decide) ?_ | refine abr_no (by decide) ?_ | with_reducible refine abr_same_ne ?_); (conv => whnf))))
      refine astr rfl ?_
      ((conv => whnf); (repeat ((first | with_reducible refine abr_true rfl ?_ | with_reducible refine abr_false rfl ?_ | with_reducible refine abr_yes rfl ?_ | refine abr_yes (by decide) ?_ | refine abr_no (by decide) ?_ | with_reducible refine abr_same_ne ?_); (conv => whnf))))
      exact aret (VLe.refl _) hsub ⟨congrArg boolv (decide_eq_true rfl), rfl⟩
end Go.Proofs.Ytnfdgccmpglbhaa
