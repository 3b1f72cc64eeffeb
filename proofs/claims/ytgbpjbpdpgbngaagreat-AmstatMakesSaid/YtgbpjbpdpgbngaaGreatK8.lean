/-
  Texts of this claim, pack 8: Crxwinb, Crefrx, Crefrxb, Crefbits, Crefbitsb, Crefstw, Crefsts, Cpkx, Crxw, Cama, Camb, Camc, Cgreat, Claw24a, Camx, Camy, Camz.
-/
import Derived.Test.YtgbpjbpdpgbngaaGreatK3
import Derived.Test.YtgbpjbpdpgbngaaGreatK4
import Derived.Test.YtgbpjbpdpgbngaaGreatK5
import Derived.Test.YtgbpjbpdpgbngaaGreatK6
import Derived.Test.YtgbpjbpdpgbngaaGreatK7
import Derived.Ground.NamesProg
set_option linter.unusedSimpArgs false
set_option linter.unusedVariables false
/-
  The window of what comes: what its functions change.
-/
namespace Go.Proofs.YtgbpjbpdpgbngaaGreat
open Go Go.Am

theorem far_mod {N : Nat} {A : RxA} {i : Nat} (h : A.R ≤ i ∧ i < A.R + N) : A.far N ((i % N : Nat) : Int) = ((i - A.R : Nat) : Int) := by
  unfold RxA.far; rw [if_pos (numOk_mod i (by omega)), posN_eq h]
theorem far_num {N : Nat} {A : RxA} {k : Int} (h : numOk N k = true) : A.far N k = ((posN N A.R k - A.R : Nat) : Int) := by unfold RxA.far; rw [if_pos h]
section
variable {σb σ : AHeap} {n N size iw im : Nat} {A : RxA} {F : List HE}
theorem wCame (p : RxP n N size) (ok : RxOk N size A) (H : Hp σb (rxL n N size A iw im F) σ) (k : Int) : ACalls Tryz.prog i_rxwin_Window_Came [.ptr iw 0, i64v k] σ fun v σ' => v = i64v (A.ask N size k) ∧ Hp σb (rxL n N size (A.came N size k) iw im F) σ' := by
  have hs1 := p.s1; have hs2 := p.s2
  have hN : 0 < N := by omega
  have h1 := ok.rm; have h2 := ok.mh; have h3 := ok.hr
  have hb := posN_bound (N := N) (R := A.R) k hN
  have b1 := H.get (k := 0) rfl
  refine k_rxwin_Window_Came rfl ?_
  (refine wX ?_)
  refine acall (wAsk p b1 k) ?_
  rintro _ σ_ ⟨rfl, e_⟩
  obtain rfl := e_.symm
  refine ⟨?_, Ext.refl _⟩
  (refine wX ?_)
  by_cases ha : A.ask N size k = 0
  · obtain ⟨hk, hlt⟩ := RxA.ask_zero ha
    rw [ha]
    (refine wX ?_)
    (repeat (((apply zL H; (· repeat first | exact .h | apply AtK.t); (· rfl))); (refine wX ?_)))
    refine acall (wFar p b1 k) ?_
    rintro _ σ_ ⟨rfl, e_⟩
    obtain rfl := e_.symm
    refine ⟨?_, Ext.refl _⟩
    (refine wX ?_)
    refine acall (wFar p b1 ((A.H % N : Nat) : Int)) ?_
    rintro _ σ_ ⟨rfl, e_⟩
    obtain rfl := e_.symm
    refine ⟨?_, Ext.refl _⟩
    (refine wX ?_)
    rw [far_mod (by omega), far_num hk]
    by_cases hc : A.H ≤ posN N A.R k
    · (repeat ((refine zY (by omega) ?_); (refine wX ?_)))
      have e := wAfter p b1 (posN N A.R k)
      rw [posN_mod hN hk] at e
      refine acall (e) ?_
      rintro _ σ_ ⟨rfl, e_⟩
      obtain rfl := e_.symm
      refine ⟨?_, Ext.refl _⟩
      (refine wX ?_)
      (repeat (((apply zS H; (· repeat first | exact .h | apply AtK.t); (· rfl); (conv => whnf); clear H; intro τ H)); (refine wX ?_)))
      refine aret (VLe.refl _) (Sub.refl _) ⟨rfl, ?_⟩
      unfold RxA.came
      rw [if_pos ⟨ha, hc⟩]
      exact H
    · (repeat ((refine zN (by omega) ?_); (refine wX ?_)))
      refine aret (VLe.refl _) (Sub.refl _) ⟨rfl, ?_⟩
      unfold RxA.came
      rw [if_neg (fun h => hc h.2)]
      exact H
  · refine abr_no ha ?_
    (refine wX ?_)
    refine aret (VLe.refl _) (Sub.refl _) ⟨rfl, ?_⟩
    unfold RxA.came
    rw [if_neg (fun h => ha h.1)]
    exact H
theorem filter_next {D : List Nat} {j : Nat} : (D.filter fun i => decide (j ≤ i)).filter (fun i => i != j) = D.filter fun i => decide (j + 1 ≤ i) := by
  rw [List.filter_filter]
  refine List.filter_congr fun x _ => ?_
  by_cases e : x = j
  · subst e; simp
  · have : (x != j) = true := by rw [bne_iff_ne]; exact e
    rw [this, Bool.true_and]
    exact decide_eq_decide.2 (by omega)
set_option maxRecDepth 10000 in
theorem wWhole (p : RxP n N size) (ok : RxOk N size A) (H : Hp σb (rxL n N size A iw im F) σ) (k : Int) :
    ACalls Tryz.prog i_rxwin_Window_Whole [.ptr iw 0, i64v k] σ fun v σ' => ∃ tk, v = .tup [ints tk (A.wholeL N size k), i64v (A.wholeC N size k)] ∧ Hp σb (.t tk :: rxL n N size (A.whole N size k) iw im F) σ' := by
  have hs1 := p.s1; have hs2 := p.s2; have hle := p.le
  have hN : 0 < N := by omega
  have h1 := ok.rm; have h2 := ok.mh; have h3 := ok.hr
  have hb := posN_bound (N := N) (R := A.R) k hN
  have b1 := H.get (k := 0) rfl
  have b2 := H.get (k := 1) rfl
  refine k_rxwin_Window_Whole rfl ?_
  (refine wX ?_)
  refine acall (wAsk p b1 k) ?_
  rintro _ σ_ ⟨rfl, e_⟩
  obtain rfl := e_.symm
  refine ⟨?_, Ext.refl _⟩
  (refine wX ?_)
  by_cases ha : A.ask N size k = 0
  case neg =>
    refine abr_yes ha ?_
    (refine wX ?_)
    refine aret (VLe.refl _) (Sub.refl _) ⟨.full, ?_, ?_⟩
    · unfold RxA.wholeL RxA.wholeC; rw [if_neg ha, if_neg ha]; rfl
    · unfold RxA.whole; rw [if_neg (fun h => ha h.1)]; exact H.cons_full
  obtain ⟨hk, hlt⟩ := RxA.ask_zero ha
  rw [ha]
  (refine wX ?_)
  (repeat (((apply zL H; (· repeat first | exact .h | apply AtK.t); (· rfl))); (refine wX ?_)))
  refine hlook H (k := 1) rfl ?_
  have e := keys_look (N := N) (R := A.R) (i := posN N A.R k) hb (dR_all ok (by omega))
  rw [posN_mod hN hk] at e
  rw [e]
  by_cases hm : posN N A.R k ∈ A.D
  · rw [decide_eq_true hm]
    (refine wX ?_)
    have hc : A.wholeC N size k = 12 := by unfold RxA.wholeC; rw [if_pos ha, if_pos hm]
    refine aret (VLe.refl _) (Sub.refl _) ⟨.full, ?_, ?_⟩
    · unfold RxA.wholeL; rw [hc]; rfl
    · unfold RxA.whole; rw [if_neg (fun h => h.2 hm)]; exact H.cons_full
  rw [decide_eq_false hm]
  have hcc : A.wholeC N size k = 0 := by unfold RxA.wholeC; rw [if_pos ha, if_neg hm]
  have hw : A.whole N size k = (A.came N size k).done (posN N A.R k) := by unfold RxA.whole; rw [if_pos ⟨ha, hm⟩]
  have hL : A.wholeL N size k = numsV N (List.range' A.R ((A.whole N size k).R - A.R)) := by unfold RxA.wholeL; rw [if_pos hcc]
  have hok2 := RxOk.whole hN ok k
  rw [hL, hcc]
  have okc := ok.came k
  obtain ⟨r1, r2, r3⟩ := RxA.came_R (N := N) (size := size) (A := A) (k := k)
  have hH := RxA.came_H ha
  rw [hw] at hok2 ⊢
  have hhr := okc.hr
  (refine wX ?_)
  refine acall (wCame p ok H k) ?_
  clear H b1 b2
  rintro _ τ ⟨rfl, H⟩
  generalize A.came N size k = B at *
  have hRB : B.R = A.R := r1
  have key := keys_set (N := N) (R := B.R) (i := posN N A.R k) (by omega) (D := B.D) (dR_all okc (by omega)) (by rw [r3]; exact hm)
  rw [posN_mod hN hk] at key
  have hR := skipF_is (B.D ++ [posN N A.R k]) B.R
  have hDn : ∀ j ∈ B.D ++ [posN N A.R k], B.R ≤ j ∧ j < B.R + size := fun j hj => by
    rcases List.mem_append.1 hj with hj | hj
    · have := okc.dR j hj; omega
    · rw [List.mem_singleton.1 hj]; omega
  have hnd : (B.D ++ [posN N A.R k]).Nodup := List.nodup_append.2 ⟨okc.nd, by simp, fun a ha' b hb' e => by
      subst e; rw [List.mem_singleton.1 hb', r3] at ha'; exact hm ha'⟩
  have hmono := skipF_mono (D := B.D ++ [posN N A.R k]) okc.rm
  have hto : skipF (B.D ++ [posN N A.R k]) B.R ≤ B.R + size := skipF_le (by omega) fun j hj => (hDn j hj).2
  have hms : skipF (B.D ++ [posN N A.R k]) B.MS ≤ B.R + size := skipF_le (by have := okc.mh; omega) fun j hj => (hDn j hj).2
  have hrm := okc.rm; have hmh := okc.mh
  (refine wX ?_)
  (repeat (((apply zL H; (· repeat first | exact .h | apply AtK.t); (· rfl))); (refine wX ?_)))
  apply zMs H
  · (repeat first | exact .h | apply AtK.t)
  · rfl
  (conv => whnf)
  clear H
  intro τ H
  (refine wX ?_)
  rw [key] at H
  have b1 : τ iw = some (.cells (rxC n N size B im)) := H.get (k := 0) rfl
  have b2 := H.get (k := 1) rfl
  unfold RxA.done
  generalize B.D ++ [posN N A.R k] = D at *
  (repeat (((apply zL H; (· repeat first | exact .h | apply AtK.t); (· rfl))); (refine wX ?_)))
  refine acall (wSkip p hDn b1 b2 B.MS (by omega)) ?_
  rintro _ σ_ ⟨rfl, e_⟩
  obtain rfl := e_.symm
  refine ⟨?_, Ext.refl _⟩
  (refine wX ?_)
  clear b1 b2
  (repeat ((first | (apply zL H; (· repeat first | exact .h | apply AtK.t); (· rfl)) | (apply zS H; (· repeat first | exact .h | apply AtK.t); (· rfl); (conv => whnf); clear H; intro τ H)); (refine wX ?_)))
  have b1 : τ iw = some (.cells (rxC n N size ⟨B.R, skipF D B.MS, B.H, []⟩ im)) := H.get (k := 0) rfl
  have b2 := H.get (k := 1) rfl
  refine acall (wSkip (A := ⟨B.R, skipF D B.MS, B.H, []⟩) p hDn b1 b2 B.R (by dsimp only; omega)) ?_
  rintro _ σ_ ⟨rfl, e_⟩
  obtain rfl := e_.symm
  refine ⟨?_, Ext.refl _⟩
  (refine wX ?_)
  clear b1 b2
  have H : Hp σb (.t .full :: .o iw (.cells (rxC n N size ⟨B.R + 0, skipF D B.MS, B.H, []⟩ im)) :: .o im (.map (keysV N (D.filter fun i => decide (B.R + 0 ≤ i)))) :: F) τ := by
    rw [List.filter_eq_self.2 (fun i hi => decide_eq_true (by have := hDn i hi; omega))]
    exact H.cons_full
  refine aloop (α := Nat × Tok × AHeap) (fun y => [(s8, ints y.2.1 (numsV N (List.range' A.R y.1)))]) (fun y => y.2.2)
    (fun y => B.R + y.1 ≤ skipF D B.R ∧ Hp σb (.t y.2.1 :: .o iw (.cells (rxC n N size ⟨B.R + y.1, skipF D B.MS, B.H, []⟩ im)) :: .o im (.map (keysV N (D.filter fun i => decide (B.R + y.1 ≤ i)))) :: F) y.2.2) (fun y => skipF D B.R - B.R - y.1) (0, .full, τ) ⟨by simpa using hR.le, H⟩ (Sub.refl _) ?_ ?_
  · (refine wX ?_)
    exact elX
  clear H
  rintro ⟨j, tk, υ⟩ ⟨hj, H⟩
  dsimp only at hj H ⊢
  have hlen : (numsV N (List.range' A.R j)).length = j := by unfold numsV; rw [List.length_map, List.length_range']
  (refine wX ?_)
  (repeat (((apply zL H; (· repeat first | exact .h | apply AtK.t); (· rfl))); (refine wX ?_)))
  by_cases e : B.R + j = skipF D B.R
  · refine abr_no (by rw [e]; exact fun h => h rfl) ?_
    (refine wX ?_)
    refine aret (VLe.refl _) (Sub.refl _) ⟨tk, ?_, ?_⟩
    · rw [← hRB, ← e, Nat.add_sub_cancel_left, hRB]
    · rw [← e]; exact H
  · refine abr_yes (fun h => e (mod_inj (N := N) (R := B.R) (by omega) (by omega) (Int.ofNat.inj h))) ?_
    (refine wX ?_)
    (repeat (((apply zL H; (· repeat first | exact .h | apply AtK.t); (· rfl))); (refine wX ?_)))
    apply zP H
    · (repeat first | exact .h | apply AtK.t)
    · exact (by rw [List.length_map]; show (_ + 1) * 8 ≤ _; omega)
    intro tk2
    (conv => whnf)
    clear H
    intro τ H
    (refine wX ?_)
    rw [nums_snoc]
    (repeat (((apply zL H; (· repeat first | exact .h | apply AtK.t); (· rfl))); (refine wX ?_)))
    apply zMd H
    · (repeat first | exact .h | apply AtK.t)
    (conv => whnf)
    clear H
    intro τ H
    (refine wX ?_)
    rw [keys_del (N := N) (R := B.R) (i := B.R + j) (by omega) (fun i hi => by have := hDn i (List.mem_filter.1 hi).1; omega) (List.Pairwise.filter _ hnd), filter_next] at H
    (repeat (((apply zL H; (· repeat first | exact .h | apply AtK.t); (· rfl))); (refine wX ?_)))
    refine abr_no (fun h => ?_) ?_
    · have := mod_inj (N := N) (R := B.R) (i := skipF D B.MS) (j := B.R + j) (by omega) (by omega) (Int.ofNat.inj h)
      omega
    (refine wX ?_)
    have b1 : τ iw = some (.cells (rxC n N size ⟨B.R + j, skipF D B.MS, B.H, []⟩ im)) := H.get (k := 1) rfl
    (repeat (((apply zL H; (· repeat first | exact .h | apply AtK.t); (· rfl))); (refine wX ?_)))
    refine acall (wAfter p b1 (B.R + j)) ?_
    rintro _ σ_ ⟨rfl, e_⟩
    obtain rfl := e_.symm
    refine ⟨?_, Ext.refl _⟩
    (refine wX ?_)
    clear b1
    (repeat (((apply zS H; (· repeat first | exact .h | apply AtK.t); (· rfl); (conv => whnf); clear H; intro τ H)); (refine wX ?_)))
    refine ⟨(j + 1, tk2, τ), ⟨by dsimp only; omega, H⟩, by dsimp only; omega, Sub.refl _, ?_⟩
    dsimp only
    rw [List.range'_concat, Nat.one_mul, hRB]
    (refine wX ?_)
    exact elX
theorem wLate (p : RxP n N size) (ok : RxOk N size A) (H : Hp σb (rxL n N size A iw im F) σ) (k : Int) : ACalls Tryz.prog i_rxwin_Window_Late [.ptr iw 0, i64v k] σ fun v σ' => v = i64v (A.lateC N k) ∧ Hp σb (rxL n N size (A.late N k) iw im F) σ' := by
  have hs1 := p.s1; have hs2 := p.s2
  have hN : 0 < N := by omega
  have h1 := ok.rm; have h2 := ok.mh; have h3 := ok.hr
  have hb := posN_bound (N := N) (R := A.R) k hN
  have b1 := H.get (k := 0) rfl
  have b2 := H.get (k := 1) rfl
  refine k_rxwin_Window_Late rfl ?_
  (refine wX ?_)
  refine acall (wMade b1) ?_
  rintro _ σ_ ⟨rfl, e_⟩
  obtain rfl := e_.symm
  refine ⟨?_, Ext.refl _⟩
  (refine wX ?_)
  refine acall (wFar p b1 k) ?_
  rintro _ σ_ ⟨rfl, e_⟩
  obtain rfl := e_.symm
  refine ⟨?_, Ext.refl _⟩
  (refine wX ?_)
  by_cases hk : numOk N k = true
  case neg =>
    have hf : A.far N k = -1 := by unfold RxA.far; rw [if_neg hk]
    have hc : A.lateC N k = 1 := by unfold RxA.lateC; rw [if_neg hk]
    rw [hf]
    (repeat ((refine zY (by omega) ?_); (refine wX ?_)))
    refine aret (VLe.refl _) (Sub.refl _) ⟨by rw [hc], ?_⟩
    unfold RxA.late; rw [if_neg (by rw [hc]; omega)]; exact H
  rw [far_num hk]
  (repeat ((first | refine zN (by omega) ?_ | (apply zL H; (· repeat first | exact .h | apply AtK.t); (· rfl))); (refine wX ?_)))
  refine acall (wFar p b1 k) ?_
  rintro _ σ_ ⟨rfl, e_⟩
  obtain rfl := e_.symm
  refine ⟨?_, Ext.refl _⟩
  (refine wX ?_)
  refine acall (wFar p b1 ((A.H % N : Nat) : Int)) ?_
  rintro _ σ_ ⟨rfl, e_⟩
  obtain rfl := e_.symm
  refine ⟨?_, Ext.refl _⟩
  (refine wX ?_)
  rw [far_mod (by omega), far_num hk]
  by_cases hc : A.H < posN N A.R k
  · have hc2 : A.lateC N k = 11 := by unfold RxA.lateC; rw [if_pos hk, if_pos hc]
    (repeat ((refine zY (by omega) ?_); (refine wX ?_)))
    refine aret (VLe.refl _) (Sub.refl _) ⟨by rw [hc2], ?_⟩
    unfold RxA.late; rw [if_neg (by rw [hc2]; omega)]; exact H
  have hc2 : A.lateC N k = 0 := by unfold RxA.lateC; rw [if_pos hk, if_neg hc]
  (repeat ((first | refine zN (by omega) ?_ | (apply zL H; (· repeat first | exact .h | apply AtK.t); (· rfl))); (refine wX ?_)))
  refine acall (wFar p b1 k) ?_
  rintro _ σ_ ⟨rfl, e_⟩
  obtain rfl := e_.symm
  refine ⟨?_, Ext.refl _⟩
  (refine wX ?_)
  refine acall (wFar p b1 ((A.MS % N : Nat) : Int)) ?_
  rintro _ σ_ ⟨rfl, e_⟩
  obtain rfl := e_.symm
  refine ⟨?_, Ext.refl _⟩
  (refine wX ?_)
  rw [far_mod (by omega), far_num hk]
  by_cases hm : A.MS ≤ posN N A.R k
  · (repeat ((refine zY (by omega) ?_); (refine wX ?_)))
    have e := wSkip p (fun j hj => by have := ok.dR j hj; omega) b1 b2 (posN N A.R k) (by omega)
    rw [posN_mod hN hk] at e
    refine acall (e) ?_
    rintro _ σ_ ⟨rfl, e_⟩
    obtain rfl := e_.symm
    refine ⟨?_, Ext.refl _⟩
    (refine wX ?_)
    (repeat (((apply zS H; (· repeat first | exact .h | apply AtK.t); (· rfl); (conv => whnf); clear H; intro τ H)); (refine wX ?_)))
    refine aret (VLe.refl _) (Sub.refl _) ⟨by rw [hc2], ?_⟩
    unfold RxA.late; rw [if_pos ⟨hc2, hm⟩]; exact H
  · (repeat ((refine zN (by omega) ?_); (refine wX ?_)))
    refine aret (VLe.refl _) (Sub.refl _) ⟨by rw [hc2], ?_⟩
    unfold RxA.late; rw [if_neg (fun h => hm h.2)]; exact H
end
theorem wNew (w s : Int) (σ : AHeap) : ACalls Tryz.prog i_rxwin_New [i64v w, i64v s] σ fun v σ' =>
    ((¬ spaceOk w ∨ s < 1 ∨ s > spaceSize w / 2) ∧ v = .tup [.v (.pointer none), i64v 1] ∧ σ' = σ) ∨
    (spaceOk w ∧ 1 ≤ s ∧ s ≤ spaceSize w / 2 ∧ ∃ iw im, v = .tup [.ptr iw 0, i64v 0] ∧ Hp σ [.o iw (.cells [i64v w, i64v s, i64v 0, i64v 0, i64v 0, .map im]), .o im (.map [])] σ') := by
  refine k_rxwin_New rfl ?_
  have H := Hp.nil σ
  have hz := spaceSize_le w
  (refine wX ?_)
  refine hnew H rfl ?_
  clear H
  intro i6 τ H
  (refine wX ?_)
  (repeat ((first | (apply zA H; (· repeat first | exact .h | apply AtK.t)) | (apply zS H; (· repeat first | exact .h | apply AtK.t); (· rfl); (conv => whnf); clear H; intro τ H)); (refine wX ?_)))
  refine acall (sqRight w τ) ?_
  rintro _ σ_ ⟨rfl, e_⟩
  obtain rfl := e_.symm
  refine ⟨?_, Ext.refl _⟩
  (refine wX ?_)
  by_cases h1 : spaceOk w
  case neg =>
    rw [decide_eq_false h1]
    (refine wX ?_)
    exact aret (VLe.refl _) H.sub (.inl ⟨.inl h1, rfl, rfl⟩)
  rw [decide_eq_true h1]
  (refine wX ?_)
  by_cases h2 : s < 1
  · (repeat ((refine zY (by omega) ?_); (refine wX ?_)))
    exact aret (VLe.refl _) H.sub (.inl ⟨.inr (.inl h2), rfl, rfl⟩)
  (repeat ((first | refine zN (by omega) ?_ | (apply zA H; (· repeat first | exact .h | apply AtK.t))); (refine wX ?_)))
  refine acall (sqSize w τ) ?_
  rintro _ σ_ ⟨rfl, e_⟩
  obtain rfl := e_.symm
  refine ⟨?_, Ext.refl _⟩
  (refine wX ?_)
  (repeat ((refine zD (by omega) (by omega) ?_); (refine wX ?_)))
  by_cases h3 : s > spaceSize w / 2
  · (repeat ((refine zY (by omega) ?_); (refine wX ?_)))
    exact aret (VLe.refl _) H.sub (.inl ⟨.inr (.inr h3), rfl, rfl⟩)
  (repeat ((first | refine zN (by omega) ?_ | (apply zA H; (· repeat first | exact .h | apply AtK.t))); (refine wX ?_)))
  refine hnewmap H ?_
  clear H
  intro im τ H
  (refine wX ?_)
  refine hnew H rfl ?_
  clear H
  intro iw τ H
  (refine wX ?_)
  refine aret (VLe.refl _) (Sub.refl _) (.inr ⟨h1, by omega, by omega, iw, im, rfl, ?_⟩)
  have H := (H.front (k := 2) rfl).tail
  exact H

/-- A window that no call made. -/
inductive RxUn (σ : AHeap) : AVal → Prop
  | nil : RxUn σ (.v (.pointer none))
  | zero (id : Nat) : σ id = some (.cells [i64v 0, i64v 0, i64v 0, i64v 0, i64v 0, .v (.map none)]) → RxUn σ (.ptr id 0)
section
variable {σ : AHeap} {x : AVal}
theorem RxUn.ext {σ' : AHeap} (h : RxUn σ x) (k : Ext σ σ') : RxUn σ' x := by
  cases h with
  | nil => exact .nil
  | zero id b => exact .zero id (k _ _ rfl b)
theorem uMade23 (h : RxUn σ x) : ACalls Tryz.prog i_rxwin_Window_made [x] σ fun v σ' => v = boolv false ∧ σ' = σ := by
  have H := Hp.nil σ
  cases h with
  | nil =>
    refine k_rxwin_Window_made rfl ?_
    (refine wX ?_)
    exact aret (VLe.refl _) H.sub ⟨rfl, rfl⟩
  | zero id b1 =>
    refine k_rxwin_Window_made rfl ?_
    (refine wX ?_)
    (repeat ((refine zB H b1 rfl ?_); (refine wX ?_)))
    exact aret (VLe.refl _) H.sub ⟨rfl, rfl⟩
theorem uAsk23 (h : RxUn σ x) (k : Int) : ACalls Tryz.prog i_rxwin_Window_ask [x, i64v k] σ fun v σ' => v = i64v 6 ∧ σ' = σ := by
  have H := Hp.nil σ
  refine k_rxwin_Window_ask rfl ?_
  (refine wX ?_)
  refine acall (uMade23 h) ?_
  rintro _ σ_ ⟨rfl, e_⟩
  obtain rfl := e_.symm
  refine ⟨?_, Ext.refl _⟩
  (refine wX ?_)
  exact aret (VLe.refl _) H.sub ⟨rfl, rfl⟩
theorem uCame23 (h : RxUn σ x) (k : Int) : ACalls Tryz.prog i_rxwin_Window_Came [x, i64v k] σ fun v σ' => v = i64v 6 ∧ σ' = σ := by
  have H := Hp.nil σ
  refine k_rxwin_Window_Came rfl ?_
  (refine wX ?_)
  refine acall (uAsk23 h k) ?_
  rintro _ σ_ ⟨rfl, e_⟩
  obtain rfl := e_.symm
  refine ⟨?_, Ext.refl _⟩
  (refine wX ?_)
  exact aret (VLe.refl _) H.sub ⟨rfl, rfl⟩
end
end Go.Proofs.YtgbpjbpdpgbngaaGreat
/-
  The document's window of what comes.
-/
namespace Go.Proofs.YtgbpjbpdpgbngaaGreat
open Go Go.Am

theorem rMod02 (a m : Int) (σ : AHeap) (hm : 0 < m ∧ m ≤ 65536) (ha : -4611686018427387904 ≤ a ∧ a ≤ 4611686018427387904) : ACalls Tryz.prog i_bowlineref02_mod [i64v a, i64v m] σ fun v σ' => v = i64v (a % m) ∧ σ' = σ := by
  refine k_bowlineref02_mod rfl ?_
  (refine wX ?_)
  refine ⟨⟨by omega, ?_⟩⟩
  (refine wX ?_)
  have h1 := Int.emod_nonneg a (show m ≠ 0 by omega)
  have h2 := Int.emod_lt_of_pos a hm.1
  have h3 : a.tmod m = a % m ∨ (a % m ≠ 0 ∧ a.tmod m = a % m - m) := by
    rw [Int.tmod_eq_emod]
    split
    · exact .inl (by omega)
    · rename_i h
      refine .inr ⟨fun e => h (.inr (Int.dvd_of_emod_eq_zero e)), ?_⟩
      rw [show ((m.natAbs : Nat) : Int) = m by omega]
  rcases h3 with h3 | ⟨h3, h4⟩
  · rw [h3]
    (repeat ((refine zN (by omega) ?_); (refine wX ?_)))
    exact aret_same ⟨rfl, rfl⟩
  · rw [h4]
    (repeat ((first | refine zI (by omega) ?_ | refine zY (by omega) ?_); (refine wX ?_)))
    exact aret_same ⟨by rw [show a % m - m + m = a % m by omega], rfl⟩
theorem rFar02 (w a b : Int) (σ : AHeap) : ACalls Tryz.prog i_bowlineref02_Far [i64v w, i64v a, i64v b] σ fun v σ' => v = .tup [i64v (farV w a b), i64v (farC w a b)] ∧ σ' = σ := by
  refine k_bowlineref02_Far rfl ?_
  (refine wX ?_)
  refine acall (refSize02 w σ) ?_
  rintro _ σ_ ⟨rfl, e_⟩
  obtain rfl := e_.symm
  refine ⟨?_, Ext.refl _⟩
  (refine wX ?_)
  have hz := spaceSize_le w
  by_cases hw : spaceOk w
  case neg =>
    have h0 : spaceSize w = 0 := by unfold spaceSize; rw [if_neg hw]
    rw [h0]
    (refine wX ?_)
    exact aret_same ⟨by unfold farV farC askCode; rw [if_neg (fun e => hw e.1), if_neg hw], rfl⟩
  have hp := space_pos hw
  (repeat ((refine zN (by omega) ?_); (refine wX ?_)))
  refine acall (refIs02 w a σ) ?_
  rintro _ σ_ ⟨rfl, e_⟩
  obtain rfl := e_.symm
  refine ⟨?_, Ext.refl _⟩
  (refine wX ?_)
  cases ha : isNum w a
  · (refine wX ?_)
    exact aret_same ⟨by unfold farV farC askCode; rw [if_neg (fun e => by rw [ha] at e; cases e.2.1), if_pos hw, List.all_cons, ha]; rfl, rfl⟩
  (refine wX ?_)
  refine acall (refIs02 w b σ) ?_
  rintro _ σ_ ⟨rfl, e_⟩
  obtain rfl := e_.symm
  refine ⟨?_, Ext.refl _⟩
  (refine wX ?_)
  cases hb : isNum w b
  · (refine wX ?_)
    exact aret_same ⟨by unfold farV farC askCode; rw [if_neg (fun e => by rw [hb] at e; cases e.2.2), if_pos hw, List.all_cons, List.all_cons, ha, hb]; rfl, rfl⟩
  have h1 := isNum_bound ha
  have h2 := isNum_bound hb
  (refine wX ?_)
  (repeat ((refine zI (by omega) ?_); (refine wX ?_)))
  refine acall (refSize02 w σ) ?_
  rintro _ σ_ ⟨rfl, e_⟩
  obtain rfl := e_.symm
  refine ⟨?_, Ext.refl _⟩
  (refine wX ?_)
  refine acall (rMod02 (b - a) (spaceSize w) σ (by omega) (by omega)) ?_
  rintro _ σ_ ⟨rfl, e_⟩
  obtain rfl := e_.symm
  refine ⟨?_, Ext.refl _⟩
  (refine wX ?_)
  exact aret_same ⟨by unfold farV farC askCode; rw [if_pos ⟨hw, ha, hb⟩, if_pos hw, List.all_cons, List.all_cons, ha, hb]; rfl, rfl⟩

abbrev rfC (n size : Nat) (A : RxA) (dv : AVal) : List AVal := [i64v n, i64v size, i64v A.R, i64v A.MS, i64v A.H, dv]
/-- A row of truths that is stored into, or none yet. -/
inductive RV : AVal → List Bool → List HE → Prop
  | nil : RV (.slice 1 [] .full) [] []
  | row (r : Nat) (xs : List Bool) : xs ≠ [] → RV (.ms r 1 0 xs.length) xs [.o r (.cells (xs.map boolv))]
def DvOk (σ : AHeap) (dv : AVal) (L : List Bool) : Prop := (dv = .slice 1 [] .full ∧ L = []) ∨ ∃ r, dv = .ms r 1 0 L.length ∧ σ r = some (.cells (L.map boolv))
theorem RV.dv {σb σ : AHeap} {dv : AVal} {L : List Bool} {E F G : List HE} (h : RV dv L E) (H : Hp σb (F ++ (E ++ G)) σ) : DvOk σ dv L := by
  cases h with
  | nil => exact .inl ⟨rfl, rfl⟩
  | row r xs hx => exact .inr ⟨r, rfl, H.ok (.o r (.cells (L.map boolv))) (by simp)⟩
theorem RV.isCell {dv : AVal} {L : List Bool} {E : List HE} (h : RV dv L E) : dv.isCell = true := by cases h <;> rfl
/-- What is whole. -/
def DRel (A : RxA) (L : List Bool) : Prop := ∀ i, A.R ≤ i → bitD L i = decide (i ∈ A.D)
theorem boolsM_get {L : List Bool} {i : Nat} (h : i < L.length) : (L.map boolv)[0 + ((i : Nat) : Int).toNat * 1]? = some (boolv (bitD L i)) := by
  rw [Int.toNat_natCast, Nat.mul_one, Nat.zero_add, List.getElem?_map, List.getElem?_eq_getElem h, bitD_get h]; rfl

section
variable {σ : AHeap} {n N size ix : Nat} {A : RxA} {dv : AVal} {L : List Bool}
theorem rDone23 (b1 : σ ix = some (.cells (rfC n size A dv))) (hd : DvOk σ dv L) (i : Nat) : ACalls Tryz.prog i_bowlineref23_Window_done [.ptr ix 0, i64v i] σ fun v σ' => v = boolv (bitD L i) ∧ σ' = σ := by
  refine k_bowlineref23_Window_done rfl ?_
  have H := Hp.nil σ
  (refine wX ?_)
  (repeat ((refine zB H b1 rfl ?_); (refine wX ?_)))
  rcases hd with ⟨rfl, rfl⟩ | ⟨r, rfl, b2⟩
  · (refine wX ?_)
    refine abr_no (by rw [List.length_nil]; omega) ?_
    (refine wX ?_)
    exact aret (VLe.refl _) H.sub ⟨rfl, rfl⟩
  · (refine wX ?_)
    by_cases h : i < L.length
    · (repeat ((first | refine zY (by omega) ?_ | refine zX (by omega) (by omega) ?_ | refine zB H b1 rfl ?_); (refine wX ?_)))
      refine aload b2 (boolsM_get h) ?_
      (refine wX ?_)
      exact aret (VLe.refl _) H.sub ⟨rfl, rfl⟩
    · (repeat ((refine zN (by omega) ?_); (refine wX ?_)))
      exact aret (VLe.refl _) H.sub ⟨by rw [bitD_out (by omega)], rfl⟩
theorem rNumber23 (p : RxP n N size) (b1 : σ ix = some (.cells (rfC n size A dv))) (i : Nat) : ACalls Tryz.prog i_bowlineref23_Window_Number [.ptr ix 0, i64v i] σ fun v σ' => v = i64v ((i % N : Nat) : Int) ∧ σ' = σ := by
  have hs1 := p.s1; have hs2 := p.s2
  refine k_bowlineref23_Window_Number rfl ?_
  have H := Hp.nil σ
  (refine wX ?_)
  (repeat ((refine zB H b1 rfl ?_); (refine wX ?_)))
  refine acall (refSize02 n σ) ?_
  rintro _ σ_ ⟨rfl, e_⟩
  obtain rfl := e_.symm
  refine ⟨?_, Ext.refl _⟩
  (refine wX ?_)
  rw [p.sz]
  refine arem_nat (by omega) ?_
  (refine wX ?_)
  exact aret (VLe.refl _) H.sub ⟨rfl, rfl⟩
theorem rState23 (p : RxP n N size) (b1 : σ ix = some (.cells (rfC n size A dv))) : ACalls Tryz.prog i_bowlineref23_Window_State [.ptr ix 0] σ fun v σ' => v = .agg [i64v ((A.R % N : Nat) : Int), i64v ((A.MS % N : Nat) : Int), i64v ((A.H % N : Nat) : Int)] ∧ σ' = σ := by
  refine k_bowlineref23_Window_State rfl ?_
  have H := Hp.nil σ
  (refine wX ?_)
  refine hnew H rfl ?_
  clear H
  intro i2 τ H
  (refine wX ?_)
  (repeat ((refine zB H b1 rfl ?_); (refine wX ?_)))
  refine acall (rNumber23 p (H.sub _ _ b1) A.R) ?_
  rintro _ σ_ ⟨rfl, e_⟩
  obtain rfl := e_.symm
  refine ⟨?_, Ext.refl _⟩
  (refine wX ?_)
  skip
  refine acall (rNumber23 p (H.sub _ _ b1) A.MS) ?_
  rintro _ σ_ ⟨rfl, e_⟩
  obtain rfl := e_.symm
  refine ⟨?_, Ext.refl _⟩
  (refine wX ?_)
  skip
  refine acall (rNumber23 p (H.sub _ _ b1) A.H) ?_
  rintro _ σ_ ⟨rfl, e_⟩
  obtain rfl := e_.symm
  refine ⟨?_, Ext.refl _⟩
  (refine wX ?_)
  (repeat ((first | (apply zA H; (· repeat first | exact .h | apply AtK.t)) | (apply zS H; (· repeat first | exact .h | apply AtK.t); (· rfl); (conv => whnf); clear H; intro τ H)); (refine wX ?_)))
  exact aret (VLe.refl _) H.sub ⟨rfl, rfl⟩
theorem rFar23 (p : RxP n N size) (b1 : σ ix = some (.cells (rfC n size A dv))) (k : Int) : ACalls Tryz.prog i_bowlineref23_Window_Far [.ptr ix 0, i64v k] σ fun v σ' => v = i64v (A.far N k) ∧ σ' = σ := by
  have hN : 0 < N := by have := p.s1; have := p.s2; omega
  refine k_bowlineref23_Window_Far rfl ?_
  have H := Hp.nil σ
  (refine wX ?_)
  (repeat ((refine zB H b1 rfl ?_); (refine wX ?_)))
  refine acall (rNumber23 p b1 A.R) ?_
  rintro _ σ_ ⟨rfl, e_⟩
  obtain rfl := e_.symm
  refine ⟨?_, Ext.refl _⟩
  (refine wX ?_)
  refine acall (rFar02 n ((A.R % N : Nat) : Int) k σ) ?_
  rintro _ σ_ ⟨rfl, e_⟩
  obtain rfl := e_.symm
  refine ⟨?_, Ext.refl _⟩
  (refine wX ?_)
  have hr : isNum n ((A.R % N : Nat) : Int) = true := by rw [isNum_numOk p]; exact numOk_mod _ hN
  have hc : farC n ((A.R % N : Nat) : Int) k = if numOk N k = true then 0 else 1 := by
    unfold farC askCode
    rw [if_pos p.ok, List.all_cons, List.all_cons, List.all_nil, hr, isNum_numOk p]
    cases numOk N k <;> rfl
  have hv : numOk N k = true → farV n ((A.R % N : Nat) : Int) k = ((posN N A.R k - A.R : Nat) : Int) := fun h => by
    unfold farV
    rw [if_pos ⟨p.ok, hr, by rw [isNum_numOk p]; exact h⟩, p.sz]
    unfold posN
    have h1 := Int.emod_nonneg (k - ((A.R % N : Nat) : Int)) (show (N : Int) ≠ 0 by omega)
    omega
  rw [hc]
  unfold RxA.far
  by_cases h : numOk N k = true
  · rw [if_pos h, if_pos h, hv h]
    (refine wX ?_)
    exact aret (VLe.refl _) H.sub ⟨rfl, rfl⟩
  · rw [if_neg h, if_neg h]
    (refine wX ?_)
    exact aret (VLe.refl _) H.sub ⟨rfl, rfl⟩
theorem rIn23 (p : RxP n N size) (b1 : σ ix = some (.cells (rfC n size A dv))) (k : Int) : ACalls Tryz.prog i_bowlineref23_Window_In [.ptr ix 0, i64v k] σ fun v σ' => v = boolv (A.inW N size k) ∧ σ' = σ := by
  have hN : 0 < N := by have := p.s1; have := p.s2; omega
  have hb := posN_bound (N := N) (R := A.R) k hN
  refine k_bowlineref23_Window_In rfl ?_
  have H := Hp.nil σ
  (refine wX ?_)
  refine acall (rFar23 p b1 k) ?_
  rintro _ σ_ ⟨rfl, e_⟩
  obtain rfl := e_.symm
  refine ⟨?_, Ext.refl _⟩
  (refine wX ?_)
  unfold RxA.inW
  by_cases h : numOk N k = true
  · have hf : A.far N k = ((posN N A.R k - A.R : Nat) : Int) := by unfold RxA.far; rw [if_pos h]
    rw [hf, h]
    (repeat ((first | refine zY (by omega) ?_ | refine zB H b1 rfl ?_); (refine wX ?_)))
    refine acall (rFar23 p b1 k) ?_
    rintro _ σ_ ⟨rfl, e_⟩
    obtain rfl := e_.symm
    refine ⟨?_, Ext.refl _⟩
    (refine wX ?_)
    rw [hf]
    exact aret (VLe.refl _) H.sub ⟨congrArg boolv (by rw [Bool.true_and]; exact dec_congr (by omega)), rfl⟩
  · have hf : A.far N k = -1 := by unfold RxA.far; rw [if_neg h]
    have h2 : numOk N k = false := by simpa using h
    rw [hf, h2]
    (repeat ((refine zN (by omega) ?_); (refine wX ?_)))
    exact aret (VLe.refl _) H.sub ⟨rfl, rfl⟩
theorem rIs23 (p : RxP n N size) (b1 : σ ix = some (.cells (rfC n size A dv))) (hd : DvOk σ dv L) (hr : DRel A L) (hR : A.R ≤ 100000000) (k : Int) : ACalls Tryz.prog i_bowlineref23_Window_Is [.ptr ix 0, i64v k] σ fun v σ' => v = boolv (A.isW N size k) ∧ σ' = σ := by
  have hN : 0 < N := by have := p.s1; have := p.s2; omega
  have hle := p.le
  have hb := posN_bound (N := N) (R := A.R) k hN
  refine k_bowlineref23_Window_Is rfl ?_
  have H := Hp.nil σ
  (refine wX ?_)
  refine acall (rIn23 p b1 k) ?_
  rintro _ σ_ ⟨rfl, e_⟩
  obtain rfl := e_.symm
  refine ⟨?_, Ext.refl _⟩
  (refine wX ?_)
  unfold RxA.isW
  cases h : A.inW N size k
  · (refine wX ?_)
    exact aret (VLe.refl _) H.sub ⟨rfl, rfl⟩
  · obtain ⟨h1, h2⟩ := inW_iff.1 h
    (refine wX ?_)
    (repeat ((refine zB H b1 rfl ?_); (refine wX ?_)))
    refine acall (rFar23 p b1 k) ?_
    rintro _ σ_ ⟨rfl, e_⟩
    obtain rfl := e_.symm
    refine ⟨?_, Ext.refl _⟩
    (refine wX ?_)
    rw [far_num h1]
    (repeat ((refine zI (by omega) ?_); (refine wX ?_)))
    rw [show ((A.R : Int) + ((posN N A.R k - A.R : Nat) : Int)) = ((posN N A.R k : Nat) : Int) by omega]
    refine acall (rDone23 b1 hd (posN N A.R k)) ?_
    rintro _ σ_ ⟨rfl, e_⟩
    obtain rfl := e_.symm
    refine ⟨?_, Ext.refl _⟩
    (refine wX ?_)
    exact aret (VLe.refl _) H.sub ⟨by rw [hr _ hb.1]; rfl, rfl⟩
theorem rAsk23 (p : RxP n N size) (b1 : σ ix = some (.cells (rfC n size A dv))) (k : Int) : ACalls Tryz.prog i_bowlineref23_Window_ask [.ptr ix 0, i64v k] σ fun v σ' => v = i64v (A.ask N size k) ∧ σ' = σ := by
  refine k_bowlineref23_Window_ask rfl ?_
  have H := Hp.nil σ
  (refine wX ?_)
  (repeat ((refine zB H b1 rfl ?_); (refine wX ?_)))
  refine acall (refIs02 n k σ) ?_
  rintro _ σ_ ⟨rfl, e_⟩
  obtain rfl := e_.symm
  refine ⟨?_, Ext.refl _⟩
  (refine wX ?_)
  rw [isNum_numOk p]
  unfold RxA.ask
  cases h : numOk N k
  · (refine wX ?_)
    exact aret (VLe.refl _) H.sub ⟨rfl, rfl⟩
  · rw [if_pos rfl]
    (refine wX ?_)
    refine acall (rIn23 p b1 k) ?_
    rintro _ σ_ ⟨rfl, e_⟩
    obtain rfl := e_.symm
    refine ⟨?_, Ext.refl _⟩
    (refine wX ?_)
    by_cases h2 : posN N A.R k < A.R + size
    · rw [inW_iff.2 ⟨h, h2⟩, if_pos h2]
      (refine wX ?_)
      exact aret (VLe.refl _) H.sub ⟨rfl, rfl⟩
    · rw [show A.inW N size k = false by cases e : A.inW N size k; rfl; exact (h2 (inW_iff.1 e).2).elim, if_neg h2]
      (refine wX ?_)
      exact aret (VLe.refl _) H.sub ⟨rfl, rfl⟩
set_option maxRecDepth 10000 in
theorem rMissing23 (p : RxP n N size) (b1 : σ ix = some (.cells (rfC n size A dv))) (hd : DvOk σ dv L) (hr : DRel A L) (h1 : A.R ≤ A.MS) (hR : A.MS ≤ 100000000) :
    ACalls Tryz.prog i_bowlineref23_Window_Missing [.ptr ix 0] σ fun v σ' => v = ints .none (A.missing N) ∧ σ' = σ := by
  have hs := p.s2
  have hs1 := p.s1
  have hle := p.le
  refine k_bowlineref23_Window_Missing rfl ?_
  have H := Hp.nil σ
  (refine wX ?_)
  (repeat ((refine zB H b1 rfl ?_); (refine wX ?_)))
  replace H := H.cons_full
  refine aloop (α := Nat × Tok × AHeap) (fun y => [(s4, i64v ((A.R + y.1 : Nat) : Int)), (s3, ints y.2.1 (numsV N ((List.range' A.R y.1).filter fun i => decide (i ∉ A.D))))]) (fun y => y.2.2)
    (fun y => A.R + y.1 ≤ A.MS ∧ Hp σ [.t y.2.1] y.2.2) (fun y => A.MS - A.R - y.1) (0, .full, σ) ⟨by simpa using h1, H⟩ (Sub.refl _) ?_ ?_
  · (refine wX ?_)
    exact elX
  clear H
  rintro ⟨j, tk, τ⟩ ⟨hj, H⟩
  dsimp only at hj H ⊢
  have hlen : (numsV N ((List.range' A.R j).filter fun i => decide (i ∉ A.D))).length ≤ j := by
    unfold numsV; rw [List.length_map]
    exact Nat.le_trans (List.length_filter_le _ _) (by rw [List.length_range']; exact Nat.le_refl _)
  (refine wX ?_)
  (repeat ((refine zB H b1 rfl ?_); (refine wX ?_)))
  by_cases e : A.R + j = A.MS
  · (repeat ((refine zN (by omega) ?_); (refine wX ?_)))
    refine aret (VLe.slice _ _ _) H.sub ⟨?_, rfl⟩
    unfold RxA.missing
    rw [show A.MS - A.R = j by omega]
  · have hd' : DvOk τ dv L := by
      rcases hd with h | ⟨r, h, b⟩
      · exact .inl h
      · exact .inr ⟨r, h, H.sub _ _ b⟩
    (repeat ((refine zY (by omega) ?_); (refine wX ?_)))
    refine acall (rDone23 (H.sub _ _ b1) hd' (A.R + j)) ?_
    rintro _ σ_ ⟨rfl, e_⟩
    obtain rfl := e_.symm
    refine ⟨?_, Ext.refl _⟩
    (refine wX ?_)
    rw [hr _ (by omega)]
    by_cases hm : A.R + j ∈ A.D
    · rw [decide_eq_true hm]
      (refine wX ?_)
      (repeat ((refine zI (by omega) ?_); (refine wX ?_)))
      refine ⟨(j + 1, tk, τ), ⟨by dsimp only; omega, H⟩, by dsimp only; omega, Sub.refl _, ?_⟩
      dsimp only
      rw [filter_snoc, if_neg (by simpa using hm), List.append_nil]
      (refine wX ?_)
      exact elX
    · rw [decide_eq_false hm]
      (refine wX ?_)
      refine acall (rNumber23 p (H.sub _ _ b1) (A.R + j)) ?_
      rintro _ σ_ ⟨rfl, e_⟩
      obtain rfl := e_.symm
      refine ⟨?_, Ext.refl _⟩
      (refine wX ?_)
      apply zP H
      · (repeat first | exact .h | apply AtK.t)
      · exact (by rw [List.length_map]; show (_ + 1) * 8 ≤ _; omega)
      intro tk2
      (conv => whnf)
      clear H
      intro τ H
      (refine wX ?_)
      rw [nums_snoc]
      (repeat ((refine zI (by omega) ?_); (refine wX ?_)))
      refine ⟨(j + 1, tk2, τ), ⟨by dsimp only; omega, H⟩, by dsimp only; omega, Sub.refl _, ?_⟩
      dsimp only
      rw [filter_snoc, if_pos (by simpa using hm)]
      (refine wX ?_)
      exact elX
end
end Go.Proofs.YtgbpjbpdpgbngaaGreat
/-
  The document's window of what comes: what its functions change.
-/
namespace Go.Proofs.YtgbpjbpdpgbngaaGreat
open Go Go.Am

section
variable {σb σ : AHeap} {n N size ix : Nat} {A : RxA} {dv : AVal} {L : List Bool} {E F : List HE}
theorem RV.dv0 (h : RV dv L E) (x : HE) (H : Hp σb (x :: (E ++ F)) σ) : DvOk σ dv L := h.dv (F := [x]) H
theorem rCame23 (p : RxP n N size) (ok : RxOk N size A) (hR : A.R ≤ 100000000) (H : Hp σb (.o ix (.cells (rfC n size A dv)) :: F) σ) (hdv : dv.isCell = true) (k : Int) :
    ACalls Tryz.prog i_bowlineref23_Window_Came [.ptr ix 0, i64v k] σ fun v σ' => v = i64v (A.ask N size k) ∧ Hp σb (.o ix (.cells (rfC n size (A.came N size k) dv)) :: F) σ' := by
  have hs1 := p.s1; have hs2 := p.s2; have hle := p.le
  have hN : 0 < N := by omega
  have hb := posN_bound (N := N) (R := A.R) k hN
  have b1 := H.get (k := 0) rfl
  refine k_bowlineref23_Window_Came rfl ?_
  (refine wX ?_)
  refine acall (rAsk23 p b1 k) ?_
  rintro _ σ_ ⟨rfl, e_⟩
  obtain rfl := e_.symm
  refine ⟨?_, Ext.refl _⟩
  (refine wX ?_)
  by_cases ha : A.ask N size k = 0
  · obtain ⟨hk, hlt⟩ := RxA.ask_zero ha
    rw [ha]
    (refine wX ?_)
    (repeat (((apply zL H; (· repeat first | exact .h | apply AtK.t); (· rfl))); (refine wX ?_)))
    refine acall (rFar23 p b1 k) ?_
    rintro _ σ_ ⟨rfl, e_⟩
    obtain rfl := e_.symm
    refine ⟨?_, Ext.refl _⟩
    (refine wX ?_)
    rw [far_num hk]
    (repeat ((refine zI (by omega) ?_); (refine wX ?_)))
    by_cases hc : A.H ≤ posN N A.R k
    · (repeat ((first | refine zY (by omega) ?_ | (apply zL H; (· repeat first | exact .h | apply AtK.t); (· rfl))); (refine wX ?_)))
      refine acall (rFar23 p b1 k) ?_
      rintro _ σ_ ⟨rfl, e_⟩
      obtain rfl := e_.symm
      refine ⟨?_, Ext.refl _⟩
      (refine wX ?_)
      rw [far_num hk]
      (repeat ((first | refine zI (by omega) ?_ | (apply zS H; (· repeat first | exact .h | apply AtK.t); (· rfl); (conv => whnf); clear H; intro τ H)); (refine wX ?_)))
      refine aret (VLe.refl _) (Sub.refl _) ⟨rfl, ?_⟩
      unfold RxA.came
      rw [if_pos ⟨ha, hc⟩]
      rw [show ((A.R : Int) + ((posN N A.R k - A.R : Nat) : Int) + 1) = ((posN N A.R k + 1 : Nat) : Int) by omega] at H
      exact H
    · (repeat ((refine zN (by omega) ?_); (refine wX ?_)))
      refine aret (VLe.refl _) (Sub.refl _) ⟨rfl, ?_⟩
      unfold RxA.came
      rw [if_neg (fun h => hc h.2)]
      exact H
  · refine abr_no ha ?_
    (refine wX ?_)
    refine aret (VLe.refl _) (Sub.refl _) ⟨rfl, ?_⟩
    unfold RxA.came
    rw [if_neg (fun h => ha h.1)]
    exact H
theorem rLate23 (p : RxP n N size) (ok : RxOk N size A) (hR : A.R ≤ 100000000) (hr : DRel A L) (h : RV dv L E) (H : Hp σb (.o ix (.cells (rfC n size A dv)) :: (E ++ F)) σ) (k : Int) :
    ACalls Tryz.prog i_bowlineref23_Window_Late [.ptr ix 0, i64v k] σ fun v σ' => v = i64v (A.lateC N k) ∧ Hp σb (.o ix (.cells (rfC n size (A.late N k) dv)) :: (E ++ F)) σ' := by
  have hs1 := p.s1; have hs2 := p.s2; have hle := p.le
  have hN : 0 < N := by omega
  have h1 := ok.rm; have h2 := ok.mh; have h3 := ok.hr
  have hb := posN_bound (N := N) (R := A.R) k hN
  have hdc := h.isCell
  have b1 := H.get (k := 0) rfl
  refine k_bowlineref23_Window_Late rfl ?_
  (refine wX ?_)
  (repeat (((apply zL H; (· repeat first | exact .h | apply AtK.t); (· rfl))); (refine wX ?_)))
  refine acall (refIs02 n k σ) ?_
  rintro _ σ_ ⟨rfl, e_⟩
  obtain rfl := e_.symm
  refine ⟨?_, Ext.refl _⟩
  (refine wX ?_)
  rw [isNum_numOk p]
  cases hk : numOk N k
  · (refine wX ?_)
    have hc : A.lateC N k = 1 := by unfold RxA.lateC; rw [hk]; rfl
    refine aret (VLe.refl _) (Sub.refl _) ⟨by rw [hc], ?_⟩
    unfold RxA.late; rw [if_neg (by rw [hc]; omega)]; exact H
  (refine wX ?_)
  (repeat (((apply zL H; (· repeat first | exact .h | apply AtK.t); (· rfl))); (refine wX ?_)))
  refine acall (rFar23 p b1 k) ?_
  rintro _ σ_ ⟨rfl, e_⟩
  obtain rfl := e_.symm
  refine ⟨?_, Ext.refl _⟩
  (refine wX ?_)
  rw [far_num hk]
  (repeat ((refine zI (by omega) ?_); (refine wX ?_)))
  by_cases hc : A.H < posN N A.R k
  · have hc2 : A.lateC N k = 11 := by unfold RxA.lateC; rw [if_pos hk, if_pos hc]
    (repeat ((refine zY (by omega) ?_); (refine wX ?_)))
    refine aret (VLe.refl _) (Sub.refl _) ⟨by rw [hc2], ?_⟩
    unfold RxA.late; rw [if_neg (by rw [hc2]; omega)]; exact H
  have hc2 : A.lateC N k = 0 := by unfold RxA.lateC; rw [if_pos hk, if_neg hc]
  (repeat ((first | refine zN (by omega) ?_ | (apply zL H; (· repeat first | exact .h | apply AtK.t); (· rfl))); (refine wX ?_)))
  refine acall (rFar23 p b1 k) ?_
  rintro _ σ_ ⟨rfl, e_⟩
  obtain rfl := e_.symm
  refine ⟨?_, Ext.refl _⟩
  (refine wX ?_)
  rw [far_num hk]
  (repeat ((refine zI (by omega) ?_); (refine wX ?_)))
  by_cases hm : A.MS ≤ posN N A.R k
  · (repeat ((first | refine zY (by omega) ?_ | (apply zL H; (· repeat first | exact .h | apply AtK.t); (· rfl))); (refine wX ?_)))
    refine acall (rFar23 p b1 k) ?_
    rintro _ σ_ ⟨rfl, e_⟩
    obtain rfl := e_.symm
    refine ⟨?_, Ext.refl _⟩
    (refine wX ?_)
    rw [far_num hk]
    (repeat ((first | refine zI (by omega) ?_ | (apply zS H; (· repeat first | exact .h | apply AtK.t); (· rfl); (conv => whnf); clear H; intro τ H)); (refine wX ?_)))
    rw [show ((A.R : Int) + ((posN N A.R k - A.R : Nat) : Int)) = ((posN N A.R k : Nat) : Int) by omega] at H
    have hl : A.late N k = { A with MS := skipF A.D (posN N A.R k) } := by unfold RxA.late; rw [if_pos ⟨hc2, hm⟩]
    rw [hl]
    clear b1
    refine aloop (α := Nat × AHeap) (fun _ => []) (fun y => y.2) (fun y => posN N A.R k ≤ y.1 ∧ y.1 ≤ A.R + size ∧ (∀ m, posN N A.R k ≤ m → m < y.1 → m ∈ A.D) ∧ Hp σb (.o ix (.cells (rfC n size { A with MS := y.1 } dv)) :: (E ++ F)) y.2) (fun y => A.R + size - y.1)
      (posN N A.R k, τ) ⟨Nat.le_refl _, by dsimp only; omega, fun m a b => by dsimp only at b; omega, H⟩ (Sub.refl _) ?_ ?_
    · (refine wX ?_)
      exact elX
    clear H
    rintro ⟨j, τ⟩ ⟨g1, g2, g3, H⟩
    dsimp only at g1 g2 g3 ⊢
    replace H : Hp σb (.o ix (.cells [i64v n, i64v size, i64v A.R, i64v j, i64v A.H, dv]) :: (E ++ F)) τ := H
    (refine wX ?_)
    (repeat (((apply zL H; (· repeat first | exact .h | apply AtK.t); (· rfl))); (refine wX ?_)))
    have b1 : τ ix = some (.cells (rfC n size { A with MS := j } dv)) := H.get (k := 0) rfl
    refine acall (rDone23 b1 (h.dv0 _ H) j) ?_
    rintro _ σ_ ⟨rfl, e_⟩
    obtain rfl := e_.symm
    refine ⟨?_, Ext.refl _⟩
    (refine wX ?_)
    rw [hr j (by omega)]
    by_cases hj : j ∈ A.D
    · have := ok.dR j hj
      rw [decide_eq_true hj]
      (refine wX ?_)
      (repeat ((first | refine zI (by omega) ?_ | (apply zL H; (· repeat first | exact .h | apply AtK.t); (· rfl)) | (apply zS H; (· repeat first | exact .h | apply AtK.t); (· rfl); (conv => whnf); clear H; intro τ H)); (refine wX ?_)))
      refine ⟨(j + 1, τ), ⟨by dsimp only; omega, by dsimp only; omega, fun m a b => ?_, H⟩, by dsimp only; omega, Sub.refl _, ?_⟩
      · by_cases e : m = j
        · rw [e]; exact hj
        · exact g3 m a (by dsimp only at b; omega)
      · (refine wX ?_)
        exact elX
    · rw [decide_eq_false hj, IsSkip.eq ⟨g1, g3, hj⟩]
      (refine wX ?_)
      exact aret (VLe.refl _) (Sub.refl _) ⟨by rw [hc2], H⟩
  · (repeat ((refine zN (by omega) ?_); (refine wX ?_)))
    refine aret (VLe.refl _) (Sub.refl _) ⟨by rw [hc2], ?_⟩
    unfold RxA.late; rw [if_neg (fun h => hm h.2)]; exact H

theorem splice_bools {l : List Bool} {p : Nat} {b : Bool} (h : p < l.length) : splice (l.map boolv) p [boolv b] = (l.set p b).map boolv := by
  unfold splice
  rw [List.set_eq_take_append_cons_drop, if_pos h, List.map_append, List.map_cons, List.map_take, List.map_drop, List.append_assoc]; rfl
theorem bools_flat (l : List Bool) : (l.map boolv).flatMap AVal.cells = l.map boolv := by
  induction l with
  | nil => rfl
  | cons b l ih => rw [List.map_cons, List.flatMap_cons, ih]; rfl
theorem bools_ok (l : List Bool) : (l.map boolv).all (okElem 1) = true := by
  rw [List.all_eq_true]; intro x hx; obtain ⟨b, _, rfl⟩ := List.mem_map.1 hx; rfl
theorem bitD_set {l : List Bool} {p i : Nat} {b : Bool} (h : p < l.length) : bitD (l.set p b) i = if i = p then b else bitD l i := by
  unfold bitD
  rw [List.getElem?_set]
  by_cases e : p = i
  · subst e; rw [if_pos rfl, if_pos h, if_pos rfl]; rfl
  · rw [if_neg e, if_neg (fun h => e h.symm)]
theorem bitD_more {l : List Bool} {k i : Nat} : bitD (l ++ List.replicate k false) i = bitD l i := by
  unfold bitD
  by_cases h : i < l.length
  · rw [List.getElem?_append_left h]
  · rw [List.getElem?_append_right (by omega), List.getElem?_eq_none (l := l) (by omega), List.getElem?_replicate]
    split <;> rfl
theorem row_app (xs : List Bool) (b : Bool) : xs.map boolv ++ [boolv b].flatMap AVal.cells = (xs ++ [b]).map boolv := by rw [List.map_append]; rfl
/-- A row of truths, one more. -/
theorem rv_app {v : AVal} {xs : List Bool} {E G : List HE} {τ : AHeap} (h : RV v xs E) (H : Hp σb (E ++ G) τ) (hl : xs.length ≤ 1000000000) (b : Bool) {K : AVal → AHeap → Prop}
    (hK : ∀ v' E' τ', RV v' (xs ++ [b]) E' → Hp σb (E' ++ G) τ' → K v' τ') :
    (∀ s t, v = .slice 1 s t → AAppNew τ 1 1 s t [boolv b] K) ∧ (∀ r ln, v = .ms r 1 0 ln → AAppM τ r 1 0 ln 1 [boolv b] K) := by
  cases h with
  | nil =>
    refine ⟨fun s t e => ?_, fun r ln e => (by cases e)⟩
    cases e
    refine happnew H (by simp) (by simp) rfl fun r τ' H' => hK _ _ τ' (.row r [b] (by simp)) H'
  | row r _ hx =>
    refine ⟨fun s t e => (by cases e), fun r' ln e => ?_⟩
    cases e
    refine happm H (k := 0) rfl (by simp) (by simp only [List.length_singleton]; omega) rfl fun r2 τ' H' => ?_
    rw [row_app] at H'
    have := hK _ _ τ' (.row r2 (xs ++ [b]) (by simp)) H'
    rw [List.length_append] at this
    exact this
theorem RV.or {v : AVal} {xs : List Bool} {E : List HE} (h : RV v xs E) : (v = .slice 1 [] .full ∧ xs = [] ∧ E = []) ∨ ∃ r, v = .ms r 1 0 xs.length ∧ xs ≠ [] ∧ E = [.o r (.cells (xs.map boolv))] := by
  cases h with
  | nil => exact .inl ⟨rfl, rfl, rfl⟩
  | row r _ hx => exact .inr ⟨r, rfl, hx, rfl⟩
theorem rv_set {xs : List Bool} {r q : Nat} {G : List HE} {τ : AHeap} (H : Hp σb (.o r (.cells (xs.map boolv)) :: G) τ) (h : q < xs.length) (b : Bool) {K : AHeap → Prop} (hK : ∀ τ', Hp σb (.o r (.cells ((xs.set q b).map boolv)) :: G) τ' → K τ') :
    AStore τ r (0 + ((q : Nat) : Int).toNat * 1) [boolv b] K := by
  rw [Int.toNat_natCast, Nat.mul_one, Nat.zero_add]
  exact astore (H.get (k := 0) rfl) (by rw [List.length_map]; exact h) rfl (splice_bools h) (hK _ (H.set (k := 0) rfl _))
set_option maxRecDepth 10000 in
set_option maxHeartbeats 2000000 in
theorem rWhole23 (p : RxP n N size) (ok : RxOk N size A) (hR : A.R ≤ 100000000) (hr : DRel A L) (hL : L.length ≤ 200000000) (h : RV dv L E) (H : Hp σb (.o ix (.cells (rfC n size A dv)) :: (E ++ F)) σ) (k : Int) :
    ACalls Tryz.prog i_bowlineref23_Window_Whole [.ptr ix 0, i64v k] σ fun v σ' => ∃ tk dv' L' E', v = .tup [ints tk (A.wholeL N size k), i64v (A.wholeC N size k)] ∧ RV dv' L' E' ∧ DRel (A.whole N size k) L' ∧ (L'.length ≤ L.length ∨ L'.length ≤ A.R + N) ∧
      Hp σb (.t tk :: .o ix (.cells (rfC n size (A.whole N size k) dv')) :: (E' ++ F)) σ' := by
  have hs1 := p.s1; have hs2 := p.s2; have hle := p.le
  have hN : 0 < N := by omega
  have h1 := ok.rm; have h2 := ok.mh; have h3 := ok.hr
  have hb := posN_bound (N := N) (R := A.R) k hN
  have hdc := h.isCell
  have b1 := H.get (k := 0) rfl
  refine km_bowlineref23_Window_Whole rfl ?_
  (refine wX ?_)
  refine acall (rAsk23 p b1 k) ?_
  rintro _ σ_ ⟨rfl, e_⟩
  obtain rfl := e_.symm
  refine ⟨?_, Ext.refl _⟩
  (refine wX ?_)
  by_cases ha : A.ask N size k = 0
  case neg =>
    refine abr_yes ha ?_
    (refine wX ?_)
    refine aret (VLe.refl _) (Sub.refl _) ⟨.full, dv, L, E, ?_, h, ?_, .inl (Nat.le_refl _), ?_⟩
    · unfold RxA.wholeL RxA.wholeC; rw [if_neg ha, if_neg ha]; rfl
    · unfold RxA.whole; rw [if_neg (fun h => ha h.1)]; exact hr
    · unfold RxA.whole; rw [if_neg (fun h => ha h.1)]; exact H.cons_full
  obtain ⟨hk, hlt⟩ := RxA.ask_zero ha
  rw [ha]
  (refine wX ?_)
  refine acall (rIs23 p b1 (h.dv0 _ H) hr hR k) ?_
  rintro _ σ_ ⟨rfl, e_⟩
  obtain rfl := e_.symm
  refine ⟨?_, Ext.refl _⟩
  (refine wX ?_)
  have hin : A.inW N size k = true := inW_iff.2 ⟨hk, hlt⟩
  by_cases hm : posN N A.R k ∈ A.D
  · rw [show A.isW N size k = true by unfold RxA.isW; rw [hin, decide_eq_true hm]; rfl]
    (refine wX ?_)
    have hc : A.wholeC N size k = 12 := by unfold RxA.wholeC; rw [if_pos ha, if_pos hm]
    refine aret (VLe.refl _) (Sub.refl _) ⟨.full, dv, L, E, ?_, h, ?_, .inl (Nat.le_refl _), ?_⟩
    · unfold RxA.wholeL; rw [hc]; rfl
    · unfold RxA.whole; rw [if_neg (fun h => h.2 hm)]; exact hr
    · unfold RxA.whole; rw [if_neg (fun h => h.2 hm)]; exact H.cons_full
  rw [show A.isW N size k = false by unfold RxA.isW; rw [decide_eq_false hm]; simp]
  have hcc : A.wholeC N size k = 0 := by unfold RxA.wholeC; rw [if_pos ha, if_neg hm]
  have hw : A.whole N size k = (A.came N size k).done (posN N A.R k) := by unfold RxA.whole; rw [if_pos ⟨ha, hm⟩]
  have hLL : A.wholeL N size k = numsV N (List.range' A.R ((A.whole N size k).R - A.R)) := by unfold RxA.wholeL; rw [if_pos hcc]
  rw [hLL, hcc]
  have okc := ok.came k
  obtain ⟨r1, r2, r3⟩ := RxA.came_R (N := N) (size := size) (A := A) (k := k)
  have hH := RxA.came_H ha
  rw [hw]
  have hhr := okc.hr
  (refine wX ?_)
  refine acall (rCame23 p ok hR H hdc k) ?_
  clear H b1
  rintro _ τ ⟨rfl, H⟩
  have hfar : ∀ (υ : AHeap) (d : AVal) (B : RxA), B.R = A.R → υ ix = some (.cells (rfC n size B d)) → ACalls Tryz.prog i_bowlineref23_Window_Far [.ptr ix 0, i64v k] υ fun v σ' => v = i64v ((posN N A.R k - A.R : Nat) : Int) ∧ σ' = υ := fun υ d B e b => by
    have := rFar23 p b k
    have e2 : B.far N k = ((posN N A.R k - A.R : Nat) : Int) := by unfold RxA.far; rw [if_pos hk, e]
    rw [e2] at this; exact this
  generalize A.came N size k = B at *
  generalize hpos : posN N A.R k = q at *
  (refine wX ?_)
  (repeat (((apply zL H; (· repeat first | exact .h | apply AtK.t); (· rfl))); (refine wX ?_)))
  clear hfar
  have hfar : ∀ (υ : AHeap) (d : AVal) (ms h : Int), υ ix = some (.cells [i64v n, i64v size, i64v A.R, i64v ms, i64v h, d]) → 0 ≤ ms → 0 ≤ h → ACalls Tryz.prog i_bowlineref23_Window_Far [.ptr ix 0, i64v k] υ fun v σ' => v = i64v ((q - A.R : Nat) : Int) ∧ σ' = υ := fun υ d ms h b h1 h2 => by
    obtain ⟨ms, rfl⟩ : ∃ m : Nat, ms = m := ⟨ms.toNat, by omega⟩
    obtain ⟨h, rfl⟩ : ∃ m : Nat, h = m := ⟨h.toNat, by omega⟩
    have := rFar23 (A := ⟨A.R, ms, h, []⟩) p b k
    have e2 : (RxA.far N ⟨A.R, ms, h, []⟩ k) = ((q - A.R : Nat) : Int) := by unfold RxA.far; rw [if_pos hk, ← hpos]
    rw [e2] at this; exact this
  apply via_loop (fun b Q => ∀ (v : AVal) (E' : List HE) (τ : AHeap), RV v L E' → Hp σb (E' ++ (.o ix (.cells (rfC n size B dv)) :: (E ++ F))) τ → setsK (Env.full 9) [(s0, .ptr ix 0), (s1, i64v k), (s7, v)] fun e => ALoop Tryz.prog c24m b e τ Q)
  case f =>
    intro hK
    rcases h.or with ⟨g1, g2, g3⟩ | ⟨r, g1, g2, g3⟩
    · rw [g1]
      (refine wX ?_)
      refine aappnew_none (xs := []) (bytes := 1) (show 0 * 1 ≤ 140737488355328 by decide) ?_
      (refine wX ?_)
      refine aloop_from ?_ (hK () (.slice 1 [] .full) [] τ (by rw [g2]; exact .nil) H)
      exact elX
    · rw [g1]
      (refine wX ?_)
      have H2 : Hp σb (.o ix (.cells (rfC n size B dv)) :: .o r (.cells (L.map boolv)) :: F) τ := by rw [g3] at H; exact H
      refine ⟨⟨_, H2.get (k := 1) rfl, by rw [List.length_map]; omega, ?_⟩⟩
      rw [List.drop_zero, List.take_of_length_le (by rw [List.length_map]; exact Nat.le_refl _)]
      refine happnew (bytes := 1) H (fun e => g2 (List.map_eq_nil_iff.1 e)) (by rw [List.length_map]; omega) (bools_ok L) fun r2 τ' H' => ?_
      rw [bools_flat] at H'
      rw [List.length_map]
      (refine wX ?_)
      refine aloop_from ?_ (hK () (.ms r2 1 0 L.length) [_] τ' (.row r2 L g2) H')
      exact elX
  case k =>
  intro v0 E0 τ0 hv0 H0
  (conv => whnf)
  refine aloop (α := Nat × AVal × List HE × AHeap) (fun y => [(s7, y.2.1)]) (fun y => y.2.2.2) (fun y => RV y.2.1 (L ++ List.replicate y.1 false) y.2.2.1 ∧ Hp σb (y.2.2.1 ++ (.o ix (.cells (rfC n size B dv)) :: (E ++ F))) y.2.2.2 ∧ (y.1 = 0 ∨ L.length + y.1 ≤ q + 1)) (fun y => q + 1 - (L.length + y.1))
    (0, v0, E0, τ0) ⟨by rw [List.replicate_zero, List.append_nil]; exact hv0, H0, .inl rfl⟩ (Sub.refl _) ?_ ?_
  · (refine wX ?_)
    exact elX
  clear H0 hv0
  rintro ⟨j, v, E1, τ⟩ ⟨hv, H, hj⟩
  dsimp only at hv H hj ⊢
  have hxl : (L ++ List.replicate j false).length = L.length + j := by rw [List.length_append, List.length_replicate]
  have nxt : ∀ v' E', RV v' ((L ++ List.replicate j false) ++ [false]) E' → RV v' (L ++ List.replicate (j + 1) false) E' := fun v' E' h => by
    rw [List.append_assoc, ← List.replicate_succ'] at h; exact h
  rcases hv.or with ⟨rfl, g2, rfl⟩ | ⟨r, rfl, g2, rfl⟩
  · have hz : L.length + j = 0 := by rw [← hxl, g2]; rfl
    (refine wX ?_)
    have b1 : τ ix = some (.cells (rfC n size B dv)) := H.get (k := 0) rfl
    rw [show rfC n size B dv = [i64v n, i64v size, i64v A.R, i64v B.MS, i64v B.H, dv] by rw [← r1]] at b1
    refine aload b1 rfl ?_
    (refine wX ?_)
    refine acall (hfar τ dv _ _ b1 (Int.natCast_nonneg _) (Int.natCast_nonneg _)) ?_
    rintro _ σ_ ⟨rfl, e_⟩
    obtain rfl := e_.symm
    refine ⟨?_, Ext.refl _⟩
    (refine wX ?_)
    (repeat ((refine zI (by omega) ?_); (refine wX ?_)))
    refine abr_yes (by rw [List.length_nil]; omega) ?_
    (refine wX ?_)
    refine (rv_app hv H (by omega) false fun v' E' τ' hv' H' => ?_).1 _ _ rfl
    (refine wX ?_)
    refine ⟨(j + 1, v', E', τ'), ⟨nxt _ _ hv', H', .inr (by dsimp only; omega)⟩, by dsimp only; omega, Sub.refl _, ?_⟩
    (refine wX ?_)
    exact elX
  (refine wX ?_)
  have b1 : τ ix = some (.cells (rfC n size B dv)) := H.get (k := 1) rfl
  rw [show rfC n size B dv = [i64v n, i64v size, i64v A.R, i64v B.MS, i64v B.H, dv] by rw [← r1]] at b1
  refine aload b1 rfl ?_
  (refine wX ?_)
  refine acall (hfar τ dv _ _ b1 (Int.natCast_nonneg _) (Int.natCast_nonneg _)) ?_
  rintro _ σ_ ⟨rfl, e_⟩
  obtain rfl := e_.symm
  refine ⟨?_, Ext.refl _⟩
  (refine wX ?_)
  rw [hxl]
  by_cases hlen : L.length + j ≤ q
  · (repeat ((first | refine zI (by omega) ?_ | refine zY (by omega) ?_); (refine wX ?_)))
    refine (rv_app hv H (by omega) false fun v' E' τ' hv' H' => ?_).2 _ _ (by rw [hxl])
    (refine wX ?_)
    refine ⟨(j + 1, v', E', τ'), ⟨nxt _ _ hv', H', .inr (by dsimp only; omega)⟩, by dsimp only; omega, Sub.refl _, ?_⟩
    (refine wX ?_)
    exact elX
  (repeat ((first | refine zI (by omega) ?_ | refine zN (by omega) ?_ | (apply zL H; (· repeat first | exact .h | apply AtK.t); (· rfl))); (refine wX ?_)))
  refine acall (hfar τ dv _ _ b1 (Int.natCast_nonneg _) (Int.natCast_nonneg _)) ?_
  rintro _ σ_ ⟨rfl, e_⟩
  obtain rfl := e_.symm
  refine ⟨?_, Ext.refl _⟩
  (refine wX ?_)
  (repeat ((first | refine zI (by omega) ?_ | refine zX (by omega) (by omega) ?_); (refine wX ?_)))
  rw [show ((B.R : Int) + ((q - A.R : Nat) : Int)) = ((q : Nat) : Int) by omega]
  clear b1
  refine rv_set H (by omega) true ?_
  clear H
  intro τ H
  generalize hx : (L ++ List.replicate j false).set q true = L' at *
  have hL' : L'.length = L.length + j := by rw [← hx, List.length_set, hxl]
  have hrel : ∀ i, B.R ≤ i → bitD L' i = decide (i ∈ B.D ++ [q]) := fun i hi => by
    rw [← hx, bitD_set (by omega), bitD_more]
    by_cases e : i = q
    · rw [if_pos e, e]; exact (decide_eq_true (by simp)).symm
    · rw [if_neg e, hr i (by omega)]
      refine decide_eq_decide.2 ?_
      rw [r3, List.mem_append, List.mem_singleton]
      exact ⟨.inl, fun h => h.resolve_right e⟩
  (refine wX ?_)
  (repeat (((apply zS H; (· repeat first | exact .h | apply AtK.t); (· rfl); (conv => whnf); clear H; intro τ H)); (refine wX ?_)))
  replace H : Hp σb ([.o r (.cells (L'.map boolv)), .o ix (.cells [i64v n, i64v size, i64v B.R, i64v B.MS, i64v B.H, .ms r 1 0 (L.length + j)])] ++ (E ++ F)) τ := H
  rw [← hL'] at H
  replace H := H.comm _ _
  rw [List.append_assoc] at H
  replace H := ((H.right).comm _ _).perm (.swap ..)
  have hne : L' ≠ [] := fun e => by rw [e] at hL'; simp only [List.length_nil] at hL'; omega
  have hlen2 : L'.length ≤ L.length ∨ L'.length ≤ A.R + N := by omega
  have hD := hrel
  have hDn : ∀ j ∈ B.D ++ [q], B.R ≤ j ∧ j < B.R + size := fun j hj => by
    rcases List.mem_append.1 hj with hj | hj
    · have := okc.dR j hj; omega
    · rw [List.mem_singleton.1 hj]; omega
  have hmono := skipF_mono (D := B.D ++ [q]) okc.rm
  have hR := skipF_is (B.D ++ [q]) B.R
  have hto : skipF (B.D ++ [q]) B.R ≤ B.R + size := skipF_le (by omega) fun j hj => (hDn j hj).2
  have hbrm := okc.rm; have hbmh := okc.mh
  unfold RxA.done
  generalize B.D ++ [q] = D at *
  clear hrel hfar hxl hx hj
  have hRle : B.R ≤ 100000000 := by omega
  have hdone : ∀ (υ : AHeap) (m : Nat) (Rv Mv Hv : Nat), υ ix = some (.cells [i64v n, i64v size, i64v Rv, i64v Mv, i64v Hv, .ms r 1 0 L'.length]) → υ r = some (.cells (L'.map boolv)) → B.R ≤ m →
      ACalls Tryz.prog i_bowlineref23_Window_done [.ptr ix 0, i64v m] υ fun v σ' => v = boolv (decide (m ∈ D)) ∧ σ' = υ := fun υ m Rv Mv Hv g1 g2 g3 => by
    have := rDone23 (A := ⟨Rv, Mv, Hv, []⟩) g1 (.inr ⟨r, rfl, g2⟩) m
    rw [hD m g3] at this; exact this
  (refine wX ?_)
  refine aloop (α := Nat × AHeap) (fun _ => []) (fun y => y.2) (fun y => B.MS ≤ y.1 ∧ y.1 ≤ B.R + size ∧ (∀ m, B.MS ≤ m → m < y.1 → m ∈ D) ∧ Hp σb (.o ix (.cells [i64v n, i64v size, i64v B.R, i64v y.1, i64v B.H, .ms r 1 0 L'.length]) :: .o r (.cells (L'.map boolv)) :: F) y.2) (fun y => B.R + size - y.1)
    (B.MS, τ) ⟨Nat.le_refl _, by dsimp only; omega, fun m a b => by dsimp only at b; omega, H⟩ (Sub.refl _) ?_ ?_
  · (refine wX ?_)
    exact elX
  clear H
  rintro ⟨m, τ⟩ ⟨g1, g3, g4, H⟩
  dsimp only at g1 g3 g4 H ⊢
  (refine wX ?_)
  (repeat (((apply zL H; (· repeat first | exact .h | apply AtK.t); (· rfl))); (refine wX ?_)))
  refine acall (hdone τ m _ _ _ (H.get (k := 0) rfl) (H.get (k := 1) rfl) (by omega)) ?_
  rintro _ σ_ ⟨rfl, e_⟩
  obtain rfl := e_.symm
  refine ⟨?_, Ext.refl _⟩
  (refine wX ?_)
  by_cases hm2 : m ∈ D
  · have := hDn m hm2
    rw [decide_eq_true hm2]
    (refine wX ?_)
    (repeat ((first | refine zI (by omega) ?_ | (apply zL H; (· repeat first | exact .h | apply AtK.t); (· rfl)) | (apply zS H; (· repeat first | exact .h | apply AtK.t); (· rfl); (conv => whnf); clear H; intro τ H)); (refine wX ?_)))
    refine ⟨(m + 1, τ), ⟨by dsimp only; omega, by dsimp only; omega, fun i a b => ?_, H⟩, by dsimp only; omega, Sub.refl _, ?_⟩
    · by_cases e : i = m
      · rw [e]; exact hm2
      · exact g4 i a (by dsimp only at b; omega)
    · (refine wX ?_)
      exact elX
  rw [decide_eq_false hm2]
  have hms := IsSkip.eq ⟨g1, g4, hm2⟩
  (refine wX ?_)
  refine aloop (α := Nat × Tok × AHeap) (fun y => [(s8, ints y.2.1 (numsV N (List.range' A.R y.1)))]) (fun y => y.2.2)
    (fun y => B.R + y.1 ≤ skipF D B.R ∧ Hp σb (.t y.2.1 :: .o ix (.cells [i64v n, i64v size, i64v ((B.R + y.1 : Nat) : Int), i64v m, i64v B.H, .ms r 1 0 L'.length]) :: .o r (.cells (L'.map boolv)) :: F) y.2.2) (fun y => skipF D B.R - B.R - y.1) (0, .full, τ) ⟨by simpa using hR.le, H.cons_full⟩ (Sub.refl _) ?_ ?_
  · (refine wX ?_)
    exact elX
  clear H
  rintro ⟨j, tk, τ⟩ ⟨hj, H⟩
  dsimp only at hj H ⊢
  have hnl : (numsV N (List.range' A.R j)).length = j := by unfold numsV; rw [List.length_map, List.length_range']
  (refine wX ?_)
  (repeat (((apply zL H; (· repeat first | exact .h | apply AtK.t); (· rfl))); (refine wX ?_)))
  refine acall (hdone τ (B.R + j) _ _ _ (H.get (k := 1) rfl) (H.get (k := 2) rfl) (by omega)) ?_
  rintro _ σ_ ⟨rfl, e_⟩
  obtain rfl := e_.symm
  refine ⟨?_, Ext.refl _⟩
  (refine wX ?_)
  by_cases e : B.R + j = skipF D B.R
  · rw [decide_eq_false (by rw [e]; exact hR.no)]
    (refine wX ?_)
    (repeat ((first | refine zN (by omega) ?_ | (apply zL H; (· repeat first | exact .h | apply AtK.t); (· rfl))); (refine wX ?_)))
    refine aret (VLe.refl _) (Sub.refl _) ⟨tk, .ms r 1 0 L'.length, L', [.o r (.cells (L'.map boolv))], ?_, .row r L' hne, ?_, hlen2, ?_⟩
    · rw [← r1, ← e, Nat.add_sub_cancel_left, r1]
    · intro i hi
      dsimp only at hi ⊢
      have := hR.le
      rw [hD i (by omega)]
      refine decide_eq_decide.2 ?_
      rw [List.mem_filter]
      exact ⟨fun h => ⟨h, decide_eq_true hi⟩, fun h => h.1⟩
    · rw [← e, ← hms] at *
      exact H
  · rw [decide_eq_true (hR.all _ (by omega) (by omega))]
    (refine wX ?_)
    (repeat (((apply zL H; (· repeat first | exact .h | apply AtK.t); (· rfl))); (refine wX ?_)))
    have hb := rNumber23 (A := ⟨B.R + j, m, B.H, []⟩) (dv := .ms r 1 0 L'.length) p (H.get (k := 1) rfl) (B.R + j)
    refine acall (hb) ?_
    rintro _ σ_ ⟨rfl, e_⟩
    obtain rfl := e_.symm
    refine ⟨?_, Ext.refl _⟩
    (refine wX ?_)
    clear hb
    apply zP H
    · (repeat first | exact .h | apply AtK.t)
    · exact (by rw [List.length_map]; show (_ + 1) * 8 ≤ _; omega)
    intro tk2
    (conv => whnf)
    clear H
    intro τ H
    (refine wX ?_)
    rw [nums_snoc]
    (repeat ((first | refine zI (by omega) ?_ | (apply zL H; (· repeat first | exact .h | apply AtK.t); (· rfl)) | (apply zS H; (· repeat first | exact .h | apply AtK.t); (· rfl); (conv => whnf); clear H; intro τ H)); (refine wX ?_)))
    refine ⟨(j + 1, tk2, τ), ⟨by dsimp only; omega, H⟩, by dsimp only; omega, Sub.refl _, ?_⟩
    dsimp only
    rw [List.range'_concat, Nat.one_mul, r1]
    (refine wX ?_)
    exact elX
end
end Go.Proofs.YtgbpjbpdpgbngaaGreat
/-
  The document's bits.
-/
namespace Go.Proofs.YtgbpjbpdpgbngaaGreat
open Go Go.Am

abbrev bl (t : Tok) (l : List Bool) : AVal := .slice 1 (l.map boolv) t
theorem get_bools {l : List Bool} {i : Nat} (h : i < l.length) : (l.map boolv)[((i : Nat) : Int).toNat]? = some (boolv l[i]) := by
  rw [Int.toNat_natCast, List.getElem?_map, List.getElem?_eq_getElem h]; rfl

theorem refFits (v : Nat) (n : Int) (σ : AHeap) (hv : v < 18446744073709551616) : ACalls Tryz.prog i_bowlineref01_fits [u64v v, i64v n] σ fun x σ' => x = boolv (!putBad v n) ∧ σ' = σ := by
  refine k_bowlineref01_fits rfl ?_
  (refine wX ?_)
  by_cases h1 : n < 0
  · (repeat ((refine abr_yes (by omega) ?_); (refine wX ?_)))
    exact aret_same ⟨by simp [putBad, h1], rfl⟩
  · by_cases h2 : n > 64
    · (repeat ((first | refine abr_yes (by omega) ?_ | refine abr_no (by omega) ?_); (refine wX ?_)))
      exact aret_same ⟨by simp [putBad, h2], rfl⟩
    · obtain ⟨k, rfl⟩ : ∃ k : Nat, n = k := ⟨n.toNat, by omega⟩
      (repeat ((refine abr_no (by omega) ?_); (refine wX ?_)))
      refine aloop (α := Nat) (fun i => [(s0, u64v (v / 2 ^ i)), (s5, i64v i)]) (fun _ => σ) (fun i => i ≤ k) (fun i => k - i) 0 (Nat.zero_le _) (Sub.refl _) ?_ ?_
      · (refine wX ?_)
        rw [Nat.pow_zero, Nat.div_one]
        exact elX
      · rintro i hi
        by_cases h3 : i < k
        · (refine wX ?_)
          (repeat ((refine abr_yes (by omega) ?_); (refine wX ?_)))
          refine adiv_u64 (b := 2) (by omega) (Nat.lt_of_le_of_lt (Nat.div_le_self _ _) hv) ?_
          (refine wX ?_)
          (repeat ((refine afit_i64 (by omega) ?_); (refine wX ?_)))
          refine ⟨i + 1, by omega, by omega, Sub.refl _, ?_⟩
          (refine wX ?_)
          rw [Nat.div_div_eq_div_mul, ← Nat.pow_succ]
          exact elX
        · have : i = k := by omega
          subst this
          (refine wX ?_)
          (repeat ((refine abr_no (by omega) ?_); (refine wX ?_)))
          refine aret_same ⟨?_, rfl⟩
          unfold putBad
          rw [decide_eq_false h1, decide_eq_false h2]
          simp only [Bool.false_or, decide_not, Bool.not_not, Int.toNat_natCast]
          congr 2
          have : ((v / 2 ^ i : Nat) : Int) = 0 ↔ v / 2 ^ i = 0 := by omega
          exact decide_eq_decide.2 this

/-- The bits of a number, the lowest first. -/
def lowBits (v n : Nat) : List Bool := (List.range n).map v.testBit
theorem lowBits_succ (v n : Nat) : lowBits v (n + 1) = lowBits v n ++ [v.testBit n] := by unfold lowBits; rw [List.range_succ, List.map_append]; rfl
theorem lowBits_length (v n : Nat) : (lowBits v n).length = n := by unfold lowBits; simp
theorem lowBits_get {v n i : Nat} (h : i < n) : (lowBits v n)[i]? = some (v.testBit i) := by unfold lowBits; rw [List.getElem?_map, List.getElem?_range h]; rfl
theorem testBit_one (v i : Nat) : decide (((v / 2 ^ i % 2 : Nat) : Int) = 1) = v.testBit i := by
  rw [← testBit_nat]; cases v.testBit i <;> rfl

set_option maxRecDepth 10000 in
theorem refPutO (bs : List Bool) (t : Tok) (v : Nat) (n : Int) (σ : AHeap) (hv : v < 18446744073709551616) (hl : bs.length ≤ 65536) :
    ACalls Tryz.prog i_bowlineref01_Put [bl t bs, u64v v, i64v n] σ fun x σ' => (putCode bs.length v n = 0 ∧ ∃ tk, Owned σ σ' tk ∧ x = .tup [bl tk (bs ++ numBits v n.toNat), i64v 0]) ∨ (putCode bs.length v n ≠ 0 ∧ x = .tup [bl .none bs, i64v (putCode bs.length v n)] ∧ σ' = σ) := by
  refine k_bowlineref01_Put rfl ?_
  (refine wX ?_)
  refine acall (refFits v n _ hv) ?_
  rintro x σ' ⟨rfl, rfl⟩
  refine ⟨?_, Ext.refl _⟩
  cases hb : putBad v n with
  | true =>
    (refine wX ?_)
    exact aret VLe.tup_sl (Sub.refl _) (.inr ⟨by rw [putCode_bad hb]; decide, by rw [putCode_bad hb], rfl⟩)
  | false =>
    have h1 : ¬ n < 0 := fun h => by simp [putBad, h] at hb
    have h2 : ¬ n > 64 := fun h => by simp [putBad, h] at hb
    obtain ⟨k, rfl⟩ : ∃ k : Nat, n = k := ⟨n.toNat, by omega⟩
    (refine wX ?_)
    try rw [List.length_map]
    (repeat ((refine afit_i64 (by omega) ?_); (refine wX ?_)))
    by_cases h4 : (k : Int) > 65536 - (bs.length : Int)
    · refine abr_yes (by omega) ?_
      (refine wX ?_)
      exact aret VLe.tup_sl (Sub.refl _) (.inr ⟨by rw [putCode_full hb h4]; decide, by rw [putCode_full hb h4], rfl⟩)
    · have hc := putCode_fine hb h4
      refine abr_no (by omega) ?_
      (refine wX ?_)
      refine aloop (α := Nat × Tok × AHeap) (fun x => [(s1, u64v (v / 2 ^ x.1)), (s8, bl x.2.1 (lowBits v x.1)), (s10, i64v x.1)]) (fun x => x.2.2) (fun x => x.1 ≤ k ∧ Owned σ' x.2.2 x.2.1) (fun x => k - x.1) (0, .full, σ') ⟨Nat.zero_le _, .full _⟩ (Sub.refl _) ?_ ?_
      · (refine wX ?_)
        rw [Nat.pow_zero, Nat.div_one]
        exact elX
      · rintro ⟨i, tk, σ1⟩ ⟨hi, ho⟩
        dsimp only at hi ho ⊢
        by_cases h3 : i < k
        · (refine wX ?_)
          (repeat ((refine abr_yes (by omega) ?_); (refine wX ?_)))
          refine arem_nat (b := 2) (by omega) ?_
          (refine wX ?_)
          rw [testBit_one]
          refine aapp_owned ho (by rw [List.length_map, lowBits_length]; show (i + 1) * 1 ≤ _; omega) fun t' tk' ho' _ => ?_
          rw [show List.map boolv (lowBits v i) ++ [AVal.v (Value.bool (v.testBit i))] = List.map boolv (lowBits v (i + 1)) by rw [lowBits_succ, List.map_append]; rfl]
          (refine wX ?_)
          refine adiv_u64 (b := 2) (by omega) (Nat.lt_of_le_of_lt (Nat.div_le_self _ _) hv) ?_
          (refine wX ?_)
          (repeat ((refine afit_i64 (by omega) ?_); (refine wX ?_)))
          refine ⟨(i + 1, tk', _), ⟨by simp only; omega, ho'⟩, by simp only; omega, Sub.refl _, ?_⟩
          (refine wX ?_)
          rw [Nat.div_div_eq_div_mul, ← Nat.pow_succ]
          exact elX
        · have : i = k := by omega
          subst this
          (refine wX ?_)
          (repeat ((refine abr_no (by omega) ?_); (refine wX ?_)))
          refine aapp_full (by simp; omega) fun t' ht' => ?_
          have ht0 := ho.none_of ht'
          rw [List.nil_append]
          (refine wX ?_)
          (repeat ((refine afit_i64 (by omega) ?_); (refine wX ?_)))
          refine aloop (α := Nat × List Bool × Tok × AHeap) (fun x => [(s9, bl x.2.2.1 (bs ++ x.2.1)), (s11, i64v ((x.1 : Int) - 1))]) (fun x => x.2.2.2) (fun x => x.2.1 ++ numBits v x.1 = numBits v i ∧ Owned σ' x.2.2.2 x.2.2.1) (fun x => x.1) (i, [], .tip t', upd σ' t' .tip) ⟨rfl, .tip ht0⟩ (Sub.upd ho.sub _ _) ?_ ?_
          · (refine wX ?_)
            rw [List.append_nil]
            exact elX
          · rintro ⟨j, d, tk2, σ2⟩ ⟨hd, ho2⟩
            dsimp only at hd ho2 ⊢
            have hdl : d.length + j = i := by
              have := congrArg List.length hd
              rw [List.length_append, numBits_length, numBits_length] at this; exact this
            cases j with
            | zero =>
              (refine wX ?_)
              skip
              refine aret_same (.inl ⟨hc, tk2, ho2, ?_⟩)
              simp only [numBits, List.append_nil] at hd
              rw [hd]; rfl
            | succ j =>
              (refine wX ?_)
              (repeat ((refine abr_yes (by omega) ?_); (refine wX ?_)))
              rw [show ((j + 1 : Nat) : Int) - 1 = (j : Int) by omega]
              refine aget (by omega) (get_bools (by rw [lowBits_length]; omega)) ?_
              (refine wX ?_)
              refine acell rfl ?_
              (refine wX ?_)
              refine aapp_owned ho2 (by rw [List.length_map, List.length_append]; show (bs.length + d.length + 1) * 1 ≤ _; omega) fun t3 tk3 ho3 _ => ?_
              have hg : (lowBits v i)[j]'(by rw [lowBits_length]; omega) = v.testBit j := by
                have := lowBits_get (v := v) (n := i) (i := j) (by omega)
                rw [List.getElem?_eq_getElem (by rw [lowBits_length]; omega)] at this
                exact Option.some.inj this
              rw [hg, show List.map boolv (bs ++ d) ++ [AVal.v (Value.bool (v.testBit j))] = List.map boolv (bs ++ (d ++ [v.testBit j])) by simp]
              (refine wX ?_)
              (repeat ((refine afit_i64 (by omega) ?_); (refine wX ?_)))
              refine ⟨(j, d ++ [v.testBit j], tk3, _), ⟨?_, ho3⟩, by simp only; omega, Sub.refl _, ?_⟩
              · simp only; rw [← hd]; simp [numBits]
              · (refine wX ?_)
                exact elX
end Go.Proofs.YtgbpjbpdpgbngaaGreat
/-
  The document's bits: bytes.
-/
namespace Go.Proofs.YtgbpjbpdpgbngaaGreat
open Go Go.Am

/-- So many bits, from a place on, filled up with noughts. -/
def bitsAt (l : List Bool) (i n : Nat) : List Bool := (List.range n).map fun m => bitD l (i + m)
theorem bitsAt_succ (l : List Bool) (i n : Nat) : bitsAt l i (n + 1) = bitsAt l i n ++ [bitD l (i + n)] := by unfold bitsAt; rw [List.range_succ, List.map_append]; rfl
theorem bitsAt_length (l : List Bool) (i n : Nat) : (bitsAt l i n).length = n := by unfold bitsAt; simp
theorem val_bitsAt (l : List Bool) (i n : Nat) : val 0 (bitsAt l i (n + 1)) = 2 * val 0 (bitsAt l i n) + (bitD l (i + n)).toNat := by rw [bitsAt_succ, val_snoc]
theorem byteAt_val (l : List Bool) (j : Nat) : UInt8.ofNat (val 0 (bitsAt l (8 * j) 8)) = byteAt l j := by
  unfold byteAt byte8
  congr 1
  simp only [bitsAt, List.range, List.range.loop, List.map, val, Nat.add_zero]
  omega
theorem val8_lt (l : List Bool) (i : Nat) {n : Nat} (h : n ≤ 8) : val 0 (bitsAt l i n) < 256 := by
  have h1 := val_lt (bitsAt l i n)
  rw [bitsAt_length] at h1
  exact Nat.lt_of_lt_of_le h1 (Nat.pow_le_pow_right (n := 2) (by omega) h)
theorem val7_lt (l : List Bool) (i : Nat) {n : Nat} (h : n < 8) : 2 * val 0 (bitsAt l i n) + 1 < 256 := by
  have h1 := val_lt (bitsAt l i n)
  rw [bitsAt_length] at h1
  have h2 : 2 ^ n ≤ 2 ^ 7 := Nat.pow_le_pow_right (by omega) (by omega)
  omega

def packTo (l : List Bool) (j : Nat) : List UInt8 := (List.range j).map (byteAt l)
theorem packTo_succ (l : List Bool) (j : Nat) : packTo l (j + 1) = packTo l j ++ [byteAt l j] := by unfold packTo; rw [List.range_succ, List.map_append]; rfl
theorem packTo_length (l : List Bool) (j : Nat) : (packTo l j).length = j := by unfold packTo; simp
theorem pack_packTo (l : List Bool) : pack l = packTo l ((l.length + 7) / 8) := rfl

set_option maxRecDepth 10000 in
theorem refBytesO (l : List Bool) (t : Tok) (σ : AHeap) (hl : l.length ≤ 1000000) : ACalls Tryz.prog i_bowlineref01_Bytes [bl t l] σ fun x σ' => ∃ tk, Owned σ σ' tk ∧ x = sl tk (pack l) := by
  refine k_bowlineref01_Bytes rfl ?_
  (refine wX ?_)
  refine aloop (α := Nat × Tok × AHeap) (fun x => [(s3, sl x.2.1 (packTo l x.1)), (s4, i64v ((8 * x.1 : Nat) : Int))]) (fun x => x.2.2) (fun x => 8 * x.1 ≤ l.length + 7 ∧ Owned σ x.2.2 x.2.1) (fun x => l.length + 8 - 8 * x.1) (0, .full, σ) ⟨by omega, .full _⟩ (Sub.refl _) ?_ ?_
  · (refine wX ?_)
    exact elX
  · rintro ⟨j, tk, σ1⟩ ⟨hj, ho⟩
    dsimp only at hj ho ⊢
    by_cases h : 8 * j < l.length
    · (refine wX ?_)
      try rw [List.length_map]
      refine abr_yes (by omega) ?_
      (refine wX ?_)
      refine aloop (α := Nat) (fun k => [(s5, u8v (val 0 (bitsAt l (8 * j) k))), (s6, i64v k)]) (fun _ => σ1) (fun k => k ≤ 8) (fun k => 8 - k) 0 (by omega) (Sub.refl _) ?_ ?_
      · (refine wX ?_)
        exact elX
      · rintro k hk
        by_cases hk8 : k < 8
        · have h7 := val7_lt l (8 * j) hk8
          (refine wX ?_)
          refine abr_yes (by omega) ?_
          (refine wX ?_)
          refine afit_u8 (by omega) ?_
          rw [show (2 : Int) * ((val 0 (bitsAt l (8 * j) k) : Nat) : Int) = ((2 * val 0 (bitsAt l (8 * j) k) : Nat) : Int) by omega]
          (refine wX ?_)
          (repeat ((first | refine afit_i64 (by omega) ?_ | rw [List.length_map]); (refine wX ?_)))
          have next : val 0 (bitsAt l (8 * j) (k + 1)) = 2 * val 0 (bitsAt l (8 * j) k) + (bitD l (8 * j + k)).toNat := val_bitsAt _ _ _
          by_cases hin : 8 * j + k < l.length
          · refine abr_yes (by omega) ?_
            (refine wX ?_)
            (repeat ((refine afit_i64 (by omega) ?_); (refine wX ?_)))
            rw [show ((8 * j : Nat) : Int) + (k : Int) = ((8 * j + k : Nat) : Int) by omega]
            refine aget (by omega) (get_bools hin) ?_
            (refine wX ?_)
            refine acell rfl ?_
            (refine wX ?_)
            cases hb : l[8 * j + k] with
            | true =>
              have hbd : bitD l (8 * j + k) = true := by rw [bitD_get hin, hb]
              (refine wX ?_)
              refine afit_u8 (by omega) ?_
              (refine wX ?_)
              (repeat ((refine afit_i64 (by omega) ?_); (refine wX ?_)))
              refine ⟨k + 1, by omega, by omega, Sub.refl _, ?_⟩
              (refine wX ?_)
              rw [next, hbd, show ((2 * val 0 (bitsAt l (8 * j) k) : Nat) : Int) + 1 = ((2 * val 0 (bitsAt l (8 * j) k) + Bool.toNat true : Nat) : Int) by simp]
              exact elX
            | false =>
              have hbd : bitD l (8 * j + k) = false := by rw [bitD_get hin, hb]
              (refine wX ?_)
              (repeat ((refine afit_i64 (by omega) ?_); (refine wX ?_)))
              refine ⟨k + 1, by omega, by omega, Sub.refl _, ?_⟩
              (refine wX ?_)
              rw [next, hbd]
              exact elX
          · have hbd : bitD l (8 * j + k) = false := bitD_out (by omega)
            refine abr_no (by omega) ?_
            (refine wX ?_)
            (repeat ((refine afit_i64 (by omega) ?_); (refine wX ?_)))
            refine ⟨k + 1, by omega, by omega, Sub.refl _, ?_⟩
            (refine wX ?_)
            rw [next, hbd]
            exact elX
        · have : k = 8 := by omega
          subst this
          (refine wX ?_)
          skip
          refine aapp_owned ho (by rw [List.length_map, packTo_length]; show (j + 1) * 1 ≤ _; omega) fun t' tk' ho' _ => ?_
          rw [show List.map byteV (packTo l j) ++ [AVal.v (Value.int IntKind.u8 ((val 0 (bitsAt l (8 * j) 8) : Nat) : Int))] = List.map byteV (packTo l (j + 1)) by
            rw [packTo_succ, List.map_append, ← byteAt_val, List.map_cons, byte_ofNat (val8_lt _ _ (by omega))]; rfl]
          (refine wX ?_)
          (repeat ((refine afit_i64 (by omega) ?_); (refine wX ?_)))
          rw [show ((8 * j : Nat) : Int) + 8 = ((8 * (j + 1) : Nat) : Int) by omega]
          refine ⟨(j + 1, tk', _), ⟨by dsimp only; omega, ho'⟩, by dsimp only; omega, Sub.refl _, ?_⟩
          (refine wX ?_)
          exact elX
    · (refine wX ?_)
      try rw [List.length_map]
      refine abr_no (by omega) ?_
      (refine wX ?_)
      refine aret_same ⟨tk, ho, ?_⟩
      rw [pack_packTo, show (l.length + 7) / 8 = j by omega]
theorem refBytes (l : List Bool) (t : Tok) (σ : AHeap) (hl : l.length ≤ 1000000) : ACalls Tryz.prog i_bowlineref01_Bytes [bl t l] σ fun x σ' => x = sl .none (pack l) ∧ σ' = σ := by
  refine acall_less (refBytesO l t σ hl) ?_
  rintro v σ' ⟨tk, ho, rfl⟩
  exact ⟨_, _, VLe.slice _ _ _, ho.sub, rfl, rfl⟩
end Go.Proofs.YtgbpjbpdpgbngaaGreat
/-
  The document's statuses: their bytes.
-/
namespace Go.Proofs.YtgbpjbpdpgbngaaGreat
open Go Go.Am

/-- A number put behind bits, of the document. -/
theorem refPutT (bs : List Bool) (t : Tok) (v : Nat) (n : Int) (σ σb : AHeap) (hs : Sub σ σb) (h0 : 0 ≤ n) (h64 : n ≤ 60) (hl : (bs.length : Int) + n ≤ 65536) (hv : v < 2 ^ n.toNat) :
    ACalls Tryz.prog i_bowlineref01_Put [bl t bs, u64v v, i64v n] σ fun x σ' => ∃ tk, x = .tup [bl tk (bs ++ numBits v n.toNat), i64v 0] ∧ Ext σ σ' ∧ Sub σ' σb ∧ TokIn σ' σb tk := by
  have h2 : 2 ^ n.toNat ≤ 2 ^ 60 := Nat.pow_le_pow_right (by omega) (by omega)
  have hc := put_fine bs v n h0 (by omega) hl hv
  refine acall_less (refPutO bs t v n σ (by omega) (by omega)) ?_
  rintro x σ' (⟨_, tk, ho, rfl⟩ | ⟨hno, _⟩)
  · exact ⟨_, _, VLe.refl _, Sub.refl _, tk, rfl, ho.ext, ho.sub.trans hs, Owned.tokIn hs ho⟩
  · exact absurd hc.1 hno
set_option maxRecDepth 20000 in
set_option maxHeartbeats 4000000 in
theorem refStWrite (s : Int × List Ms) (t : Tok) (w : Int) (σ : AHeap) (hok : stOk w s = true) : ACalls Tryz.prog i_bowlineref11_Write [stV t s, i64v w] σ fun v σ' => v = sl .none (pack (stBits w s)) ∧ σ' = σ := by
  obtain ⟨ack, l⟩ := s
  obtain ⟨hw, hn, h32, hall⟩ := stOk_parts hok
  dsimp only at hn h32 hall
  have hfl := stBits_length (w := w) (by omega) (ack, l)
  have hb := mssLen_le (w := w) (by omega) l
  dsimp only at hfl
  have hsb : stBits w (ack, l) = List.replicate 4 false ++ (numBits ack.toNat w.toNat ++ ([decide (0 < l.length)] ++ mssBits w l)) := rfl
  generalize stBits w (ack, l) = full at *
  obtain ⟨ha0, halt⟩ := isNum_lt hw hn
  have w16 : 2 ^ w.toNat ≤ 65536 := Nat.le_trans (Nat.pow_le_pow_right (n := 2) (by omega) (show w.toNat ≤ 16 by omega)) (by decide)
  refine k_bowlineref11_Write rfl ?_
  (refine wX ?_)
  refine anew rfl fun i1 h1 => ?_
  have k1 : upd σ i1 (.cells (stV t (ack, l)).cells) i1 = some (.cells [i64v ack, missV t l]) := upd_same _ _ _
  have hs : Sub (upd σ i1 (.cells (stV t (ack, l)).cells)) σ := Sub.upd_fresh _ h1
  generalize upd σ i1 (.cells (stV t (ack, l)).cells) = τ at *
  (refine wX ?_)
  refine aload k1 rfl ?_
  (refine wX ?_)
  refine afit_eq (m := ((ack.toNat : Nat) : Int)) (by rw [Int.toNat_of_nonneg ha0]; exact wrap_u64 (by omega) (by omega)) ?_
  (refine wX ?_)
  refine acall (refPutT (List.replicate 4 false) .full ack.toNat w _ σ hs (by omega) (by omega) (by rw [List.length_replicate]; omega) halt) ?_
  rintro _ σ1 ⟨tk1, rfl, x1, s1', o1⟩
  refine ⟨?_, x1⟩
  have k1 := x1 i1 _ rfl k1
  (refine wX ?_)
  refine aload k1 rfl ?_
  (refine wX ?_)
  rw [List.length_map]
  rw [@dec_congr (0 < (l.length : Int)) (0 < l.length) _ inferInstance (by omega)]
  refine aapp_in (ys := [boolv (decide (0 < l.length))]) o1 s1' (by simp only [List.length_map, List.length_append, List.length_replicate, numBits_length, List.length_singleton]; omega) fun t2 σ2 x2 s2' o2 => ?_
  have k1 := x2 i1 _ rfl k1
  rw [show (List.replicate 4 false ++ numBits ack.toNat w.toNat).map boolv ++ [boolv (decide (0 < l.length))] = (List.replicate 4 false ++ numBits ack.toNat w.toNat ++ [decide (0 < l.length)]).map boolv by rw [List.map_append (l₂ := [decide (0 < l.length)])]; rfl]
  (refine wX ?_)
  refine aloop (α := Nat × List Bool × Tok × AHeap) (fun x => [(s5, bl x.2.2.1 x.2.1), (s6, i64v x.1)]) (fun x => x.2.2.2) (fun x => x.1 ≤ l.length ∧ x.2.1 ++ mssBits w (l.drop x.1) = full ∧ x.2.2.2 i1 = some (.cells [i64v ack, missV t l]) ∧ TokIn x.2.2.2 σ x.2.2.1 ∧ Sub x.2.2.2 σ) (fun x => l.length - x.1) (0, List.replicate 4 false ++ numBits ack.toNat w.toNat ++ [decide (0 < l.length)], .tip t2, σ2) ⟨Nat.zero_le _, ?_, k1, o2, s2'⟩ (Sub.refl _) ?_ ?_
  · dsimp only
    rw [hsb, List.drop_zero]
    simp only [List.append_assoc]
  · (refine wX ?_)
    exact elX
  rintro ⟨i, bs, tk, σ3⟩ ⟨hi, hbs, q1, hto, hs3⟩
  dsimp only at hi hbs q1 hto hs3 ⊢
  have hbl : bs.length ≤ 1700 := by
    have := congrArg List.length hbs
    rw [List.length_append] at this
    omega
  by_cases h : i < l.length
  · have hm : missOk w l[i] = true := List.all_eq_true.1 hall _ (List.getElem_mem h)
    have hdrop : mssBits w (l.drop i) = missBits w (decide (i + 1 < l.length)) l[i] ++ mssBits w (l.drop (i + 1)) := by
      rw [List.drop_eq_getElem_cons h]
      show missBits w (!(l.drop (i + 1)).isEmpty) l[i] ++ _ = _
      congr 2
      by_cases e : i + 1 < l.length
      · rw [decide_eq_true e, List.drop_eq_getElem_cons e]; rfl
      · rw [decide_eq_false e, List.drop_eq_nil_of_le (by omega)]; rfl
    rw [hdrop, ← List.append_assoc] at hbs
    obtain ⟨hs0, hslt⟩ := isNum_lt hw (missOk_num hm)
    (refine wX ?_)
    (repeat ((first | refine aload (by (repeat (first | with_reducible exact upd_same _ _ _ | assumption | rw [upd_ne _ _ (by first | assumption | (apply Ne.symm; assumption))]))) rfl ?_ | refine abr_yes (by omega) ?_ | rw [List.length_map]); (refine wX ?_)))
    refine aget (by omega) (get_ms h) ?_
    (refine wX ?_)
    refine acells (l := (msV l[i]).cells) (by exact Nat.le_refl 4) rfl ?_
    (refine wX ?_)
    refine anew rfl fun i5 h5 => ?_
    (refine wX ?_)
    refine astore (xs := (msV l[i]).cells) (l := [i64v l[i].1, boolv l[i].2.1, i64v l[i].2.2.1, i64v l[i].2.2.2]) (upd_same _ _ _) (by exact Nat.le_refl 4) rfl rfl ?_
    rw [upd_upd]
    have n15 : i1 ≠ i5 := fun e => by subst e; rw [q1] at h5; cases h5
    have m1 : upd σ3 i5 (.cells [i64v l[i].1, boolv l[i].2.1, i64v l[i].2.2.1, i64v l[i].2.2.2]) i1 = some (.cells [i64v ack, missV t l]) := (upd_ne _ _ n15).trans q1
    have m5 : upd σ3 i5 (.cells [i64v l[i].1, boolv l[i].2.1, i64v l[i].2.2.1, i64v l[i].2.2.2]) i5 = some (.cells [i64v l[i].1, boolv l[i].2.1, i64v l[i].2.2.1, i64v l[i].2.2.2]) := upd_same _ _ _
    have hs5 : Sub (upd σ3 i5 (.cells [i64v l[i].1, boolv l[i].2.1, i64v l[i].2.2.1, i64v l[i].2.2.2])) σ := sub_upd _ hs3 (sub_none hs3 h5)
    generalize upd σ3 i5 (.cells [i64v l[i].1, boolv l[i].2.1, i64v l[i].2.2.1, i64v l[i].2.2.2]) = σ4 at *
    (refine wX ?_)
    refine aload m5 rfl ?_
    (refine wX ?_)
    refine afit_eq (m := ((l[i].1.toNat : Nat) : Int)) (by rw [Int.toNat_of_nonneg hs0]; exact wrap_u64 (by omega) (by omega)) ?_
    (refine wX ?_)
    refine acall (refPutT bs tk l[i].1.toNat w _ σ hs5 (by omega) (by omega) (by omega) hslt) ?_
    rintro _ σ6 ⟨tk6, rfl, x6, s6', o6⟩
    refine ⟨?_, x6⟩
    have m1 := x6 i1 _ rfl m1
    have m5 := x6 i5 _ rfl m5
    (refine wX ?_)
    (repeat ((first | refine aload (by (repeat (first | with_reducible exact upd_same _ _ _ | assumption | rw [upd_ne _ _ (by first | assumption | (apply Ne.symm; assumption))]))) rfl ?_ | refine afit_i64 (by omega) ?_ | rw [List.length_map]); (refine wX ?_)))
    rw [@dec_congr ((i : Int) + 1 < (l.length : Int)) (i + 1 < l.length) _ inferInstance (by omega)]
    have hl1 : (bs ++ numBits l[i].1.toNat w.toNat).length ≤ 1716 := by rw [List.length_append, numBits_length]; omega
    refine aapp_in (ys := [boolv (decide (i + 1 < l.length)), boolv l[i].2.1]) o6 s6' (by rw [List.length_map]; show (_ + 2) * 1 ≤ _; omega) fun t7 σ7 x7 s7' o7 => ?_
    have m1 := x7 i1 _ rfl m1
    have m5 := x7 i5 _ rfl m5
    rw [show (bs ++ numBits l[i].1.toNat w.toNat).map boolv ++ [boolv (decide (i + 1 < l.length)), boolv l[i].2.1] = (bs ++ numBits l[i].1.toNat w.toNat ++ [decide (i + 1 < l.length), l[i].2.1]).map boolv by rw [List.map_append (l₂ := [decide (i + 1 < l.length), l[i].2.1])]; rfl]
    have hl2 : (bs ++ numBits l[i].1.toNat w.toNat ++ [decide (i + 1 < l.length), l[i].2.1]).length ≤ 1718 := by rw [List.length_append]; show _ + 2 ≤ _; omega
    (refine wX ?_)
    refine aload m5 rfl ?_
    (refine wX ?_)
    have hmp := missOk_part hm
    have hmb : missBits w (decide (i + 1 < l.length)) l[i] = numBits l[i].1.toNat w.toNat ++ ([decide (i + 1 < l.length)] ++ ([l[i].2.1] ++ if l[i].2.1 = true then numBits l[i].2.2.1.toNat (offWSt w) ++ numBits (lastV w l[i].2.2.2) (offWSt w) else [])) := rfl
    generalize hm2 : l[i].2.1 = pt at *
    cases pt
    · (refine wX ?_)
      (repeat ((refine afit_i64 (by omega) ?_); (refine wX ?_)))
      refine ⟨(i + 1, bs ++ numBits l[i].1.toNat w.toNat ++ [decide (i + 1 < l.length), false], .tip t7, σ7), ⟨h, ?_, m1, o7, s7'⟩, by dsimp only; omega, Sub.refl _, ?_⟩
      · rw [← hbs, hmb, if_neg (by decide)]; simp only [List.append_assoc, List.append_nil, List.cons_append, List.nil_append]
      · (refine wX ?_)
        exact elX
    · obtain ⟨f0, flt, t0, tlt⟩ := hmp rfl
      have hoff := offW_le w
      have off16 : 2 ^ offWSt w ≤ 65536 := Nat.le_trans (Nat.pow_le_pow_right (n := 2) (by omega) hoff) (by decide)
      have hto6 : 0 ≤ l[i].2.2.2 ∧ l[i].2.2.2 ≤ 65536 := by
        refine ⟨t0, ?_⟩
        unfold lastV at tlt
        split at tlt
        · omega
        · omega
      have hPr : plcs w = 32768 ∨ plcs w = 65536 := by
        by_cases h : w = 10
        · subst h; exact .inl plcs_10
        · exact .inr (plcs_no h)
      rw [hmb, if_pos rfl] at hbs
      (refine wX ?_)
      refine aload m5 rfl ?_
      (refine wX ?_)
      refine afit_i64 (by omega) ?_
      (refine wX ?_)
      refine aload m5 rfl ?_
      (refine wX ?_)
      obtain ⟨LV, hLV⟩ : ∃ LV, LV = lastV w l[i].2.2.2 := ⟨_, rfl⟩
      rw [← hLV] at tlt hbs
      have hlast : (LV : Int) = if l[i].2.2.2 = 0 then plcs w - 1 else l[i].2.2.2 - 1 := by
        rw [hLV]; unfold lastV; split <;> omega
      by_cases hz : l[i].2.2.2 = 0
      case' pos =>
        rw [if_pos hz] at hlast
        refine abr_yes hz ?_
        (refine wX ?_)
        refine acall (refPlaces w _) ?_
        rintro _ σ_ ⟨rfl, e_⟩
        obtain rfl := e_.symm
        refine ⟨?_, Ext.refl _⟩
        (refine wX ?_)
        refine afit_i64 (by omega) ?_
        rw [← hlast]
        (refine wX ?_)
      case' neg =>
        rw [if_neg hz] at hlast
        refine abr_no hz ?_
        rw [← hlast]
        (refine wX ?_)
      all_goals
        refine aload m5 rfl ?_
        (refine wX ?_)
        refine afit_eq (m := ((l[i].2.2.1.toNat : Nat) : Int)) (by rw [Int.toNat_of_nonneg f0]; exact wrap_u64 (by omega) (by omega)) ?_
        (refine wX ?_)
        refine acall (refOffset w _) ?_
        rintro _ σ_ ⟨rfl, e_⟩
        obtain rfl := e_.symm
        refine ⟨?_, Ext.refl _⟩
        (refine wX ?_)
        refine acall (refPutT (bs ++ numBits l[i].1.toNat w.toNat ++ [decide (i + 1 < l.length), true]) (.tip t7) l[i].2.2.1.toNat (offWSt w) _ σ s7' (by omega) (by omega) (by omega) flt) ?_
        rintro _ σ8 ⟨tk8, rfl, x8, s8', o8⟩
        refine ⟨?_, x8⟩
        have m1 := x8 i1 _ rfl m1
        (refine wX ?_)
        refine afit_eq (m := (LV : Int)) (wrap_u64 (by omega) (by omega)) ?_
        (refine wX ?_)
        refine acall (refOffset w _) ?_
        rintro _ σ_ ⟨rfl, e_⟩
        obtain rfl := e_.symm
        refine ⟨?_, Ext.refl _⟩
        (refine wX ?_)
        have hl3 : (bs ++ numBits l[i].1.toNat w.toNat ++ [decide (i + 1 < l.length), true] ++ numBits l[i].2.2.1.toNat (offWSt w)).length ≤ 1734 := by rw [List.length_append, numBits_length]; omega
        refine acall (refPutT (bs ++ numBits l[i].1.toNat w.toNat ++ [decide (i + 1 < l.length), true] ++ numBits l[i].2.2.1.toNat (offWSt w)) tk8 LV (offWSt w) _ σ s8' (by omega) (by omega) (by omega) tlt) ?_
        rintro _ σ9 ⟨tk9, rfl, x9, s9', o9⟩
        refine ⟨?_, x9⟩
        have m1 := x9 i1 _ rfl m1
        (refine wX ?_)
        (repeat ((refine afit_i64 (by omega) ?_); (refine wX ?_)))
        refine ⟨(i + 1, bs ++ numBits l[i].1.toNat w.toNat ++ [decide (i + 1 < l.length), true] ++ numBits l[i].2.2.1.toNat (offWSt w) ++ numBits LV (offWSt w), tk9, σ9), ⟨h, ?_, m1, o9, s9'⟩, by dsimp only; omega, Sub.refl _, ?_⟩
        · dsimp only
          rw [← hbs]; simp only [List.append_assoc, List.cons_append, List.nil_append]
        · (refine wX ?_)
          exact elX
  · obtain rfl : i = l.length := by omega
    rw [List.drop_length] at hbs
    have hbs : bs = full := by rw [← hbs]; exact (List.append_nil _).symm
    subst hbs
    (refine wX ?_)
    (repeat ((first | refine aload (by (repeat (first | with_reducible exact upd_same _ _ _ | assumption | rw [upd_ne _ _ (by first | assumption | (apply Ne.symm; assumption))]))) rfl ?_ | refine abr_no (by omega) ?_ | rw [List.length_map]); (refine wX ?_)))
    refine acall (refBytes bs tk _ (by omega)) ?_
    rintro _ σ_ ⟨rfl, e_⟩
    obtain rfl := e_.symm
    refine ⟨?_, Ext.refl _⟩
    (refine wX ?_)
    exact aret_sl hs3 ⟨rfl, rfl⟩
end Go.Proofs.YtgbpjbpdpgbngaaGreat
/-
  The document's statuses: how many bytes.
-/
namespace Go.Proofs.YtgbpjbpdpgbngaaGreat
open Go Go.Am

theorem writeSt_length {w : Int} {s : Int × List Ms} (hok : stOk w s = true) : ((pack (stBits w s)).length : Int) = sizeSt w s := by
  obtain ⟨hw, hn, h32, hall⟩ := stOk_parts hok
  have hfl := stBits_length (w := w) (by omega) s
  have hpl := pack_length (stBits w s)
  unfold sizeSt
  rw [if_pos hok]
  omega
set_option maxRecDepth 20000 in
theorem refStSize (s : Int × List Ms) (t : Tok) (w : Int) (σ : AHeap) (hl : s.2.length ≤ 9223372036854775807) : ACalls Tryz.prog i_bowlineref11_Size [stV t s, i64v w] σ fun v σ' => v = i64v (sizeSt w s) ∧ σ' = σ := by
  obtain ⟨ack, l⟩ := s
  dsimp only at hl
  refine k_bowlineref11_Size rfl ?_
  (refine wX ?_)
  refine anew rfl fun i1 h1 => ?_
  have k1 : upd σ i1 (.cells (stV t (ack, l)).cells) i1 = some (.cells [i64v ack, missV t l]) := upd_same _ _ _
  have hs : Sub (upd σ i1 (.cells (stV t (ack, l)).cells)) σ := Sub.upd_fresh _ h1
  generalize upd σ i1 (.cells (stV t (ack, l)).cells) = τ at *
  (refine wX ?_)
  refine aloads (l := [i64v ack, missV t l]) k1 (by exact Nat.le_refl 2) rfl ?_
  (refine wX ?_)
  refine acall (refStRight (ack, l) t w _ hl) ?_
  rintro _ σ_ ⟨rfl, e_⟩
  obtain rfl := e_.symm
  refine ⟨?_, Ext.refl _⟩
  (refine wX ?_)
  cases hok : stOk w (ack, l)
  · (refine wX ?_)
    exact aret (VLe.refl _) hs ⟨by unfold sizeSt; rw [hok]; rfl, rfl⟩
  (refine wX ?_)
  refine aloads (l := [i64v ack, missV t l]) k1 (by exact Nat.le_refl 2) rfl ?_
  (refine wX ?_)
  refine acall (refStWrite (ack, l) t w _ hok) ?_
  rintro _ σ_ ⟨rfl, e_⟩
  obtain rfl := e_.symm
  refine ⟨?_, Ext.refl _⟩
  (refine wX ?_)
  refine aret (VLe.refl _) hs ⟨?_, rfl⟩
  rw [List.length_map, ← writeSt_length hok]
end Go.Proofs.YtgbpjbpdpgbngaaGreat
/-
  Packets that may be, and packets given back or handed on with rights to their rows.
-/
namespace Go.Proofs.YtgbpjbpdpgbngaaGreat
open Go Go.Am

abbrev TB := Tok × List UInt8
abbrev slB (x : TB) : AVal := sl x.1 x.2
theorem RepL.tbs (κ : Ghost) : ∀ {l : List TB} {vs : List Value}, RepL κ ((l.map slB).flatMap AVal.cells) vs → RepL κ (((l.map (·.2)).map (sl .none)).flatMap AVal.cells) vs
  | [], _, h => h
  | a :: l, _, h => by
    have h : RepL κ (slB a :: (l.map slB).flatMap AVal.cells) _ := h
    cases h with
    | cons h1 h2 => exact .cons (VLe.slice _ _ _ κ _ h1) (RepL.tbs κ h2)
theorem VLe.tbs (l : List TB) (t : Tok) : VLe (.slice 1 (l.map slB) t) (lists .none (l.map (·.2))) := fun κ v h => by
  rcases h.slice_inv with ⟨⟨a, rfl⟩, hn⟩ | ⟨b, off, cap, vs, rfl, g2, g3, g4, g5, g6⟩
  · have hn : l = [] := by simpa using hn
    subst hn; exact .nil
  · refine .slice (vs := vs) (by rw [List.length_map, List.length_map, List.length_map]) g2 (fun x hx => ?_) (RepL.tbs κ g4) g5 trivial
    obtain ⟨y, _, rfl⟩ := List.mem_map.1 hx
    rfl
theorem VLe.aggA {xs ys : List AVal} (h : ∀ κ vs, RepL κ xs vs → RepL κ ys vs) : VLe (.agg xs) (.agg ys) := fun κ v k => by
  cases k with
  | agg r => exact .agg (h _ _ r)
end Go.Proofs.YtgbpjbpdpgbngaaGreat
/-
  What came in parts: a buffer that is nil, or that no call made.
-/
namespace Go.Proofs.YtgbpjbpdpgbngaaGreat
set_option maxRecDepth 20000
open Go Go.Am

inductive NoBu : AHeap → AVal → Prop
  | nil {σ : AHeap} : NoBu σ (.v (.pointer none))
  | zero {σ : AHeap} (iz : Nat) : σ iz = some (.cells [.v (.map none)]) → NoBu σ (.ptr iz 0)
section
variable {σ : AHeap} {a : AVal}
theorem NoBu.sub {τ : AHeap} (h : NoBu σ a) (s : Sub τ σ) : NoBu τ a := by
  cases h with
  | nil => exact .nil
  | zero iz b => exact .zero iz (s _ _ b)
theorem nbMade (h : NoBu σ a) : ACalls Tryz.prog i_rxbuf_Buffer_made [a] σ fun v σ' => v = boolv false ∧ σ' = σ := by
  refine k_rxbuf_Buffer_made rfl ?_
  have H := Hp.nil σ
  cases h with
  | nil =>
    (refine wX ?_)
    skip
    exact aret (VLe.refl _) (Sub.refl _) ⟨rfl, rfl⟩
  | zero iz b1 =>
    (refine wX ?_)
    (repeat ((refine zB H b1 rfl ?_); (refine wX ?_)))
    exact aret (VLe.refl _) (Sub.refl _) ⟨rfl, rfl⟩
theorem nbFind (h : NoBu σ a) (sn : Int) : ACalls Tryz.prog i_rxbuf_Buffer_find [a, i64v sn] σ fun v σ' => v = .tup [.v (.pointer none), i64v 6] ∧ σ' = σ := by
  refine k_rxbuf_Buffer_find rfl ?_
  (refine wX ?_)
  refine acall (nbMade h) ?_
  rintro _ σ_ ⟨rfl, e_⟩
  obtain rfl := e_.symm
  refine ⟨?_, Ext.refl _⟩
  (refine wX ?_)
  exact aret (VLe.refl _) (Sub.refl _) ⟨rfl, rfl⟩
theorem nbDrop (h : NoBu σ a) (sn : Int) : ACalls Tryz.prog i_rxbuf_Buffer_Drop [a, i64v sn] σ fun v σ' => v = i64v 6 ∧ σ' = σ := by
  refine k_rxbuf_Buffer_Drop rfl ?_
  (refine wX ?_)
  refine acall (nbFind h sn) ?_
  rintro _ σ_ ⟨rfl, e_⟩
  obtain rfl := e_.symm
  refine ⟨?_, Ext.refl _⟩
  (refine wX ?_)
  exact aret (VLe.refl _) (Sub.refl _) ⟨rfl, rfl⟩
end
end Go.Proofs.YtgbpjbpdpgbngaaGreat
/-
  The status of what came: what is missing, as misses; whether both were made.
-/
namespace Go.Proofs.YtgbpjbpdpgbngaaGreat
set_option maxRecDepth 20000
open Go Go.Am

theorem missS_leA {S : List PV} (ok : ∀ x ∈ S, x.Ok) (sn : Int) : (missS S sn).length ≤ 3000 := by
  unfold missS
  cases h : findS S sn with
  | none => exact Nat.zero_le _
  | some x =>
    have hk := (ok x (List.mem_of_find?_eq_some h)).so.k
    have h1 := gapsV_len (to := x.e) (l := x.l)
    have h2 := gapsV_len (to := topL x.l) (l := x.l)
    dsimp only
    unfold missL
    split
    · omega
    · rw [List.length_append, List.length_singleton]; omega
/-- A span that is missing, as a miss. -/
def missF (sn : Int) (y : Sp) : Ms := (sn, true, y.1, y.2)
theorem missOf_cons {l : List Sp} (h : l ≠ []) (sn : Int) : missOf l sn = l.map (missF sn) := by unfold missOf; rw [if_neg h]; rfl
theorem ms_snoc (l : List Ms) (x : Ms) : l.map msV ++ [msV x] = (l ++ [x]).map msV := by rw [List.map_append]; rfl
theorem missF_take {l : List Sp} {i : Nat} (h : i < l.length) (sn : Int) : (l.take (i + 1)).map (missF sn) = (l.take i).map (missF sn) ++ [missF sn l[i]] := by
  rw [List.take_add_one, List.getElem?_eq_getElem h, List.map_append]; rfl
set_option maxHeartbeats 2000000 in
theorem mMisses {σb σ : AHeap} {ib im : Nat} {X : List PX} {G : List HE} (H0 : Hp σb (XL ib im X G) σ) (ok : XOk X) (sn : Int) :
    ACalls Tryz.prog i_amstat_Misses [.ptr ib 0, i64v sn] σ fun v σ' => v = missV .none (missOf (missS (pvs X) sn) sn) ∧ σ' = σ := by
  refine k_amstat_Misses rfl ?_
  have H := Hp.nil σ
  have hlen := missS_leA ok.pv sn
  (refine wX ?_)
  refine acall (xMissing H0 ok sn) ?_
  rintro _ σ_ ⟨rfl, e_⟩
  obtain rfl := e_.symm
  refine ⟨?_, Ext.refl _⟩
  (refine wX ?_)
  generalize missS (pvs X) sn = l at *
  clear H0
  rw [List.length_map]
  by_cases hl : l = []
  · subst hl
    rw [show ((([] : List Sp).length : Nat) : Int) = 0 from rfl]
    (refine wX ?_)
    skip
    exact aret (VLe.slice _ _ _) (Sub.refl _) ⟨rfl, rfl⟩
  have hpos : 0 < l.length := List.length_pos_iff.2 hl
  rw [missOf_cons hl]
  (repeat ((first | refine zN (by omega) ?_ | rw [List.length_map]); (refine wX ?_)))
  have H := H.cons_full
  refine aloop (α := Nat × Tok × AHeap) (fun y => [(s20, i64v y.1), (s6, missV y.2.1 ((l.take y.1).map (missF sn)))]) (fun y => y.2.2)
    (fun y => y.1 ≤ l.length ∧ Hp σ [.t y.2.1] y.2.2) (fun y => l.length - y.1) (0, .full, σ) ⟨Nat.zero_le _, H⟩ (Sub.refl _) ?_ ?_
  · (refine wX ?_)
    exact elX
  clear H
  rintro ⟨i, tk, τ⟩ ⟨hi, H⟩
  dsimp only at hi H ⊢
  (refine wX ?_)
  skip
  by_cases h : i < l.length
  · (repeat ((refine zY (by omega) ?_); (refine wX ?_)))
    refine aget (by omega) (get_sp h) ?_
    (refine wX ?_)
    (repeat ((refine acellA ?_); (refine wX ?_)))
    refine hnew H rfl ?_
    clear H
    intro i8 τ H
    (refine wX ?_)
    (repeat ((first | (apply zL H; (· repeat first | exact .h | apply AtK.t); (· rfl)) | (apply zS H; (· repeat first | exact .h | apply AtK.t); (· rfl); (conv => whnf); clear H; intro τ H)); (refine wX ?_)))
    apply zP H
    · (repeat first | exact .h | apply AtK.t)
    · exact (by rw [List.length_map, List.length_map, List.length_take]; show (_ + 1) * 32 ≤ _; omega)
    intro tk2
    (conv => whnf)
    clear H
    intro τ H
    (refine wX ?_)
    rw [show AVal.agg [i64v sn, AVal.v (Value.bool true), i64v l[i].fst, i64v l[i].snd] = msV (missF sn l[i]) from rfl, ms_snoc, ← missF_take h]
    (repeat ((refine zI (by omega) ?_); (refine wX ?_)))
    refine ⟨(i + 1, tk2, τ), ⟨by dsimp only; omega, Hp.rest (A := [_]) H⟩, by dsimp only; omega, Sub.refl _, ?_⟩
    (refine wX ?_)
    exact elX
  · (repeat ((refine zN (by omega) ?_); (refine wX ?_)))
    have e : i = l.length := by omega
    subst e
    rw [List.take_length]
    exact aret (VLe.slice _ _ _) H.sub ⟨rfl, rfl⟩
theorem row_missH {sn : Int} {l : List Sp} {i : Nat} (h : i < l.length) : AVal.agg [i64v sn, AVal.v (Value.bool true), i64v l[i].1, i64v l[i].2] = msV (missF sn l[i]) := rfl
set_option maxHeartbeats 2000000 in
theorem eMisses {σ : AHeap} {ix : Nat} {tk : Tok} {l : List DP} (b0 : σ ix = some (.cells (dbC tk l))) (hl : l.length ≤ 100000) (hd : ∀ d ∈ l, d.B.length ≤ 65536 ∧ d.e ≤ 100000) (sn : Int) (hm : (missE l sn).length ≤ 3000) :
    ACalls Tryz.prog i_bowlineref25_Misses [.ptr ix 0, i64v sn] σ fun v σ' => v = missV .none (missOf (missE l sn) sn) ∧ Hp σ [] σ' := by
  refine k_bowlineref25_Misses rfl ?_
  (refine wX ?_)
  refine acall (eMissing b0 hl hd sn) ?_
  clear b0
  rintro v2 τ2 ⟨E2, hE2, N2⟩
  refine ⟨?_, N2.ext⟩
  generalize missE l sn = l at *
  cases hE2 with
  | nil =>
    have H := Hp.nil τ2
    (refine wX ?_)
    skip
    exact aret (VLe.slice _ _ _) (Sub.refl _) ⟨rfl, N2⟩
  | row r _ hne =>
    have hpos : 0 < l.length := List.length_pos_iff.2 hne
    rw [missOf_cons hne]
    have b1 : τ2 r = some (.cells (spC l)) := N2.get (k := 0) rfl
    have H := Hp.nil τ2
    (refine wX ?_)
    (repeat ((refine zN (by omega) ?_); (refine wX ?_)))
    have H := H.cons_full
    refine aloop (α := Nat × Tok × AHeap) (fun y => [(s7, i64v y.1), (s6, missV y.2.1 ((l.take y.1).map (missF sn)))]) (fun y => y.2.2)
      (fun y => y.1 ≤ l.length ∧ Hp τ2 [.t y.2.1] y.2.2) (fun y => l.length - y.1) (0, .full, τ2) ⟨Nat.zero_le _, H⟩ (Sub.refl _) ?_ ?_
    · (refine wX ?_)
      exact elX
    clear H
    rintro ⟨i, tk, τ⟩ ⟨hi, H⟩
    dsimp only at hi H ⊢
    (refine wX ?_)
    skip
    by_cases h : i < l.length
    · obtain ⟨g1, g2⟩ := spC_get h
      (repeat ((first | refine zY (by omega) ?_ | refine zX (by omega) (by omega) ?_); (refine wX ?_)))
      rw [show 0 + ((i : Nat) : Int).toNat * 2 = i * 2 by omega]
      refine zB H b1 g1 ?_
      (refine wX ?_)
      (repeat ((refine zX (by omega) (by omega) ?_); (refine wX ?_)))
      rw [show 0 + ((i : Nat) : Int).toNat * 2 + 1 = i * 2 + 1 by omega]
      refine zB H b1 g2 ?_
      (refine wX ?_)
      skip
      apply zP H
      · (repeat first | exact .h | apply AtK.t)
      · exact (by rw [List.length_map, List.length_map, List.length_take]; show (_ + 1) * 32 ≤ _; omega)
      intro tk2
      (conv => whnf)
      clear H
      intro τ H
      (refine wX ?_)
      rw [row_missH h, ms_snoc, ← missF_take h]
      (repeat ((refine zI (by omega) ?_); (refine wX ?_)))
      refine ⟨(i + 1, tk2, τ), ⟨by dsimp only; omega, H⟩, by dsimp only; omega, Sub.refl _, ?_⟩
      (refine wX ?_)
      exact elX
    · (repeat ((refine zN (by omega) ?_); (refine wX ?_)))
      have e : i = l.length := by omega
      subst e
      rw [List.take_length]
      exact aret (VLe.slice _ _ _) H.sub ⟨rfl, N2.left (L := [])⟩
section
variable {σ : AHeap} {n N size iw im ib ibm : Nat} {A : RxA} {es : List (Int × AVal)}
theorem wCameNeg (p : RxP n N size) (b1 : σ iw = some (.cells (rxC n N size A im))) : ACalls Tryz.prog i_rxwin_Window_Came [.ptr iw 0, i64v (-1)] σ fun v σ' => v = i64v 1 ∧ σ' = σ := by
  refine k_rxwin_Window_Came rfl ?_
  have H := Hp.nil σ
  (refine wX ?_)
  refine acall (wAsk p b1 (-1)) ?_
  rintro _ σ_ ⟨rfl, e_⟩
  obtain rfl := e_.symm
  refine ⟨?_, Ext.refl _⟩
  (refine wX ?_)
  rw [show A.ask N size (-1) = 1 by unfold RxA.ask numOk; rw [if_neg]; simp]
  skip
  exact aret (VLe.refl _) (Sub.refl _) ⟨rfl, rfl⟩
theorem mMade (p : RxP n N size) (b1 : σ iw = some (.cells (rxC n N size A im))) (b2 : σ ib = some (.cells (buC ibm))) (b3 : σ ibm = some (.map es)) (he : es.find? (fun e => e.1 == -1) = none) :
    ACalls Tryz.prog i_amstat_made [.ptr iw 0, .ptr ib 0] σ fun v σ' => v = boolv true ∧ σ' = σ := by
  refine k_amstat_made rfl ?_
  have H := Hp.nil σ
  (refine wX ?_)
  refine acall (wCameNeg p b1) ?_
  rintro _ σ_ ⟨rfl, e_⟩
  obtain rfl := e_.symm
  (refine wX ?_)
  refine acall (buDropNone b2 b3 (-1) he) ?_
  rintro _ σ_ ⟨rfl, e_⟩
  obtain rfl := e_.symm
  (refine wX ?_)
  exact aret (VLe.refl _) (Sub.refl _) ⟨rfl, rfl⟩
theorem mMadeNw (v : AVal) (hv : v = .v (.pointer none) ∨ ∃ i, v = .ptr i 0) : ACalls Tryz.prog i_amstat_made [.v (.pointer none), v] σ fun v σ' => v = boolv false ∧ σ' = σ := by
  refine k_amstat_made rfl ?_
  have H := Hp.nil σ
  (refine wX ?_)
  exact aret (VLe.refl _) (Sub.refl _) ⟨rfl, rfl⟩
theorem mMadeNb (iw : Nat) : ACalls Tryz.prog i_amstat_made [.ptr iw 0, .v (.pointer none)] σ fun v σ' => v = boolv false ∧ σ' = σ := by
  refine k_amstat_made rfl ?_
  have H := Hp.nil σ
  (refine wX ?_)
  exact aret (VLe.refl _) (Sub.refl _) ⟨rfl, rfl⟩
theorem mMadeZw {iz : Nat} (h : RxUn σ (.ptr iz 0)) : ACalls Tryz.prog i_amstat_made [.ptr iz 0, .ptr ib 0] σ fun v σ' => v = boolv false ∧ σ' = σ := by
  refine k_amstat_made rfl ?_
  have H := Hp.nil σ
  (refine wX ?_)
  refine acall (uCame23 h (-1)) ?_
  rintro _ σ_ ⟨rfl, e_⟩
  obtain rfl := e_.symm
  (refine wX ?_)
  exact aret (VLe.refl _) (Sub.refl _) ⟨rfl, rfl⟩
theorem mMadeZb {iz : Nat} (p : RxP n N size) (b1 : σ iw = some (.cells (rxC n N size A im))) (h : NoBu σ (.ptr iz 0)) : ACalls Tryz.prog i_amstat_made [.ptr iw 0, .ptr iz 0] σ fun v σ' => v = boolv false ∧ σ' = σ := by
  refine k_amstat_made rfl ?_
  have H := Hp.nil σ
  (refine wX ?_)
  refine acall (wCameNeg p b1) ?_
  rintro _ σ_ ⟨rfl, e_⟩
  obtain rfl := e_.symm
  (refine wX ?_)
  refine acall (nbDrop h (-1)) ?_
  rintro _ σ_ ⟨rfl, e_⟩
  obtain rfl := e_.symm
  (refine wX ?_)
  exact aret (VLe.refl _) (Sub.refl _) ⟨rfl, rfl⟩
theorem RxUn.sub {τ : AHeap} {x : AVal} (h : RxUn σ x) (k : Sub τ σ) : RxUn τ x := by
  cases h with
  | nil => exact .nil
  | zero id h => exact .zero id (k _ _ h)
theorem mMakeNo {a b : AVal} (h : ∀ τ, Sub τ σ → ACalls Tryz.prog i_amstat_made [a, b] τ fun v σ' => v = boolv false ∧ σ' = τ) (g w : Int) :
    ACalls Tryz.prog i_amstat_Make [a, b, i64v g, i64v w] σ fun v σ' => v = .tup [stV .full (0, []), i64v 6] ∧ σ' = σ := by
  refine k_amstat_Make rfl ?_
  have H := Hp.nil σ
  (refine wX ?_)
  refine hnew H rfl ?_
  clear H
  intro i8 τ H
  (refine wX ?_)
  skip
  refine acall (h τ H.sub) ?_
  rintro _ σ_ ⟨rfl, e_⟩
  obtain rfl := e_.symm
  refine ⟨?_, Ext.refl _⟩
  (refine wX ?_)
  (repeat ((first | (apply zA H; (· repeat first | exact .h | apply AtK.t)) | (apply zS H; (· repeat first | exact .h | apply AtK.t); (· rfl); (conv => whnf); clear H; intro τ H)); (refine wX ?_)))
  exact aret (VLe.refl _) H.sub ⟨rfl, rfl⟩
end
end Go.Proofs.YtgbpjbpdpgbngaaGreat
/-
  The status of what came: what Make tells, the program's and the document's.
-/
namespace Go.Proofs.YtgbpjbpdpgbngaaGreat
set_option maxRecDepth 20000
open Go Go.Am

theorem vle_stT {x n : Int} {l : List Ms} {t : Tok} : VLe (.tup [stV t (x, l), i64v n]) (.tup [stV .none (x, l), i64v n]) := VLe.tup (VLe.cons vle_st fun _ _ h => h)
theorem isNum_1024 {w k : Int} (hw : w = 10 ∨ w = 16) (h : 0 ≤ k ∧ k < 1024) : isNum w k = true := by
  unfold isNum
  refine decide_eq_true ⟨h.1, ?_⟩
  rcases hw with rfl | rfl
  · rw [show spaceSize 10 = 1024 by decide]; exact h.2
  · rw [show spaceSize 16 = 65536 by decide]; omega
theorem missing_in {A : RxA} {k : Int} (h : k ∈ A.missing 1024) : 0 ≤ k ∧ k < 1024 := by
  unfold RxA.missing numsV at h
  obtain ⟨i, _, rfl⟩ := List.mem_map.1 h
  omega
theorem missing_len {N size : Nat} {A : RxA} (ok : RxOk N size A) : (A.missing N).length ≤ size := by
  unfold RxA.missing numsV
  rw [List.length_map]
  have := ok.rm; have := ok.mh; have := ok.hr
  have := List.length_filter_le (fun i => decide (i ∉ A.D)) (List.range' A.R (A.MS - A.R))
  rw [List.length_range'] at this
  omega
theorem get_int {l : List Int} {i : Nat} (h : i < l.length) : (l.map i64v)[((i : Nat) : Int).toNat]? = some (i64v l[i]) := by
  rw [Int.toNat_natCast, List.getElem?_map, List.getElem?_eq_getElem h]; rfl
/-- What a part of the numbers comes to. -/
structure StAt (w g : Int) (f : Int → List Ms) (M : List Int) (ack : Int) (i : Nat) (l : List Ms) : Prop where
  same : stGo w g f M (ack, []) = stGo w g f (M.drop i) (ack, l)
  le : l.length ≤ 32
  ok : ∀ m ∈ l, missOk w m = true
section
variable {w g ack : Int} {f : Int → List Ms} {M : List Int} {i : Nat} {l : List Ms}
theorem StAt.step (s : StAt w g f M ack i l) (h : i < M.length) (hf : ∀ k ∈ M, ∀ m ∈ f k, missOk w m = true) (hg : ¬ ((l ++ f M[i]).length > 32 ∨ sizeSt w (ack, l ++ f M[i]) > g)) : StAt w g f M ack (i + 1) (l ++ f M[i]) := by
  refine ⟨?_, by omega, fun m hm => ?_⟩
  · rw [s.same, List.drop_eq_getElem_cons h]
    exact if_neg hg
  · rcases List.mem_append.1 hm with hm | hm
    · exact s.ok m hm
    · exact hf _ (List.getElem_mem h) m hm
theorem StAt.stop (s : StAt w g f M ack i l) (h : i < M.length) (hg : (l ++ f M[i]).length > 32 ∨ sizeSt w (ack, l ++ f M[i]) > g) : stGo w g f M (ack, []) = (M[i], l) := by
  rw [s.same, List.drop_eq_getElem_cons h]
  exact if_pos hg
theorem StAt.end_ (s : StAt w g f M ack M.length l) : stGo w g f M (ack, []) = (ack, l) := by
  rw [s.same, List.drop_length]; rfl
end
section
variable {σb σ : AHeap} {size iw im ib ibm : Nat} {A : RxA} {X : List PX} {G : List HE}
theorem dv_sub {σ τ : AHeap} {dv : AVal} {L : List Bool} (h : DvOk σ dv L) (s : Sub τ σ) : DvOk τ dv L := by
  rcases h with h | ⟨r, e, h⟩
  · exact .inl h
  · exact .inr ⟨r, e, s _ _ h⟩
def ackW (A : RxA) : Int := ((A.MS % 1024 : Nat) : Int)
def makeW (A : RxA) (S : List PV) (g w : Int) : (Int × List Ms) × Int := mkRes w g (ackW A) (A.missing 1024) fun sn => missOf (missS S sn) sn
theorem ack_num {w : Int} (hw : w = 10 ∨ w = 16) : isNum w (ackW A) = true := isNum_1024 hw (by unfold ackW; omega)
theorem neg_find (ok : XOk X) (hneg : NegS (pvs X)) : (esX X).find? (fun e => e.1 == -1) = none := by
  rcases findX ok.nd (-1) with ⟨A, x, B, hX, h1, h2, h3, _⟩ | ⟨h1, h2, h3⟩
  · have := hneg x.pv (List.mem_map.2 ⟨x, by rw [hX]; simp, rfl⟩)
    omega
  · exact h2
set_option maxHeartbeats 4000000 in
theorem mMake (p : RxP 10 1024 size) (okA : RxOk 1024 size A) (c1 : σ iw = some (.cells (rxC 10 1024 size A im))) (c2 : σ im = some (.map (keysV 1024 A.D))) (H0 : Hp σb (XL ib ibm X G) σ) (ok : XOk X) (hneg : NegS (pvs X)) (hx : ∀ x ∈ pvs X, x.e ≤ 4000) (g w : Int) :
    ACalls Tryz.prog i_amstat_Make [.ptr iw 0, .ptr ib 0, i64v g, i64v w] σ fun v σ' => v = .tup [stV .none (makeW A (pvs X) g w).1, i64v (makeW A (pvs X) g w).2] ∧ σ' = σ := by
  refine k_amstat_Make rfl ?_
  have H := Hp.nil σ
  (refine wX ?_)
  refine hnew H rfl ?_
  clear H
  intro i8 τ H
  (refine wX ?_)
  skip
  refine acall (mMade p (H.sub _ _ c1) (H.sub _ _ (H0.get (k := 0) rfl)) (H.sub _ _ (H0.get (k := 1) rfl)) (neg_find ok hneg)) ?_
  rintro _ σ_ ⟨rfl, e_⟩
  obtain rfl := e_.symm
  refine ⟨?_, Ext.refl _⟩
  (refine wX ?_)
  by_cases hw : w = 10 ∨ w = 16
  case neg =>
    have h10 : w ≠ 10 := fun e => hw (.inl e)
    have h16 : w ≠ 16 := fun e => hw (.inr e)
    have e : makeW A (pvs X) g w = ((0, []), 9) := by unfold makeW mkRes; rw [if_pos hw]
    rw [e]
    (repeat ((first | refine zY (by omega) ?_ | (apply zA H; (· repeat first | exact .h | apply AtK.t)) | (apply zS H; (· repeat first | exact .h | apply AtK.t); (· rfl); (conv => whnf); clear H; intro τ H)); (refine wX ?_)))
    dsimp only
    exact aret (vle_stT (x := 0) (l := []) (t := .full)) H.sub ⟨rfl, rfl⟩
  have hf : ∀ k ∈ A.missing 1024, ∀ m ∈ missOf (missS (pvs X) k) k, missOk w m = true := fun k hk => missOf_ok hw (isNum_1024 hw (missing_in hk)) (missS_in ok.pv hx k)
  have hfl : ∀ k, (missOf (missS (pvs X) k) k).length ≤ 3001 := fun k => by
    have h1 := missOf_len (missS (pvs X) k) k
    have h2 := missS_leA ok.pv k
    omega
  have hML := missing_len okA
  have hack := ack_num (A := A) hw
  have h0n : isNum w 0 = true := isNum_1024 hw (by omega)
  have hps := p.s2
  unfold makeW mkRes
  rw [if_neg (fun h => h hw)]
  have hw2 := hw
  rcases hw2 with e | e
  all_goals
    (repeat ((first | refine zY (by omega) ?_ | refine zN (by omega) ?_); (refine wX ?_)))
    by_cases hg : g < 0 ∨ g > 4096
    case pos =>
      rw [if_pos hg]
      by_cases hg1 : g < 0
      all_goals
        (repeat ((first | refine zY (by omega) ?_ | refine zN (by omega) ?_ | (apply zA H; (· repeat first | exact .h | apply AtK.t)) | (apply zS H; (· repeat first | exact .h | apply AtK.t); (· rfl); (conv => whnf); clear H; intro τ H)); (refine wX ?_)))
        dsimp only
        exact aret (vle_stT (x := 0) (l := []) (t := .full)) H.sub ⟨rfl, rfl⟩
    rw [if_neg hg]
    (repeat ((refine zN (by omega) ?_); (refine wX ?_)))
    refine ⟨⟨_, fun σx hx2 => wState (hx2 _ _ rfl (H.sub _ _ c1)), ?_⟩⟩
    (refine wX ?_)
    (repeat ((first | refine zX (by omega) (by omega) ?_ | refine zR rfl ?_); (refine wX ?_)))
    refine hnew H rfl ?_
    clear H
    intro i10 τ H
    (refine wX ?_)
    (repeat (((apply zS H; (· repeat first | exact .h | apply AtK.t); (· rfl); (conv => whnf); clear H; intro τ H)); (refine wX ?_)))
    refine acall (tSize (0, []) .full w _ (by exact Nat.zero_le _)) ?_
    rintro _ σ_ ⟨rfl, e_⟩
    obtain rfl := e_.symm
    refine ⟨?_, Ext.refl _⟩
    (refine wX ?_)
    rcases Int.lt_or_le g (sizeSt w (0, [])) with hsz | hsz
    case' inl =>
      rw [if_pos hsz]
      (repeat ((first | refine zY (by omega) ?_ | (apply zA H; (· repeat first | exact .h | apply AtK.t)) | (apply zS H; (· repeat first | exact .h | apply AtK.t); (· rfl); (conv => whnf); clear H; intro τ H)); (refine wX ?_)))
      dsimp only
      exact aret (vle_stT (x := 0) (l := []) (t := .full)) H.sub ⟨rfl, rfl⟩
    rw [if_neg (Int.not_lt.2 hsz)]
    (repeat ((refine zN (by omega) ?_); (refine wX ?_)))
    refine evC_label ?_
    (refine wX ?_)
    refine acall (wMissing p okA (H.sub _ _ c1) (H.sub _ _ c2)) ?_
    rintro _ σ_ ⟨rfl, e_⟩
    obtain rfl := e_.symm
    refine ⟨?_, Ext.refl _⟩
    (refine wX ?_)
    rw [List.length_map]
    generalize hM : A.missing 1024 = M at *
    refine aloop (α := Nat × List Ms × Tok × AHeap) (fun y => [(s53, i64v y.1)]) (fun y => y.2.2.2)
      (fun y => y.1 ≤ M.length ∧ StAt w g (fun sn => missOf (missS (pvs X) sn) sn) M (ackW A) y.1 y.2.1 ∧ Hp σ [.o i10 (.cells [i64v (ackW A), missV y.2.2.1 y.2.1]), .o i8 (.cells [i64v 0, missV .full []])] y.2.2.2) (fun y => M.length - y.1) (0, [], .full, τ) ⟨Nat.zero_le _, ⟨rfl, Nat.zero_le _, nofun⟩, H⟩ (Sub.refl _) ?_ ?_
    · (refine wX ?_)
      exact elX
    clear H
    rintro ⟨i, l, tk, τ⟩ ⟨hi, sA, H⟩
    dsimp only at hi sA H ⊢
    (refine wX ?_)
    by_cases h : i < M.length
    case neg =>
      have e : i = M.length := by omega
      subst e
      (repeat ((first | refine zN (by omega) ?_ | (apply zA H; (· repeat first | exact .h | apply AtK.t)) | (apply zS H; (· repeat first | exact .h | apply AtK.t); (· rfl); (conv => whnf); clear H; intro τ H)); (refine wX ?_)))
      rw [sA.end_]
      exact aret vle_stT H.sub ⟨rfl, rfl⟩
    (repeat ((refine zY (by omega) ?_); (refine wX ?_)))
    refine aget (by omega) (get_int h) ?_
    (refine wX ?_)
    (repeat ((refine zR rfl ?_); (refine wX ?_)))
    refine acall (mMisses (H0.more H.sub) ok M[i]) ?_
    rintro _ σ_ ⟨rfl, e_⟩
    obtain rfl := e_.symm
    refine ⟨?_, Ext.refl _⟩
    (refine wX ?_)
    have hl32 := sA.le
    have hfi := hfl M[i]
    (repeat ((first | (apply zL H; (· repeat first | exact .h | apply AtK.t); (· rfl)) | rw [List.length_map]); (refine wX ?_)))
    refine acut (by omega) (by omega) (by omega) ?_
    (refine wX ?_)
    refine ⟨rfl, rfl, ?_⟩
    (refine wX ?_)
    rw [show ((l.map msV).take ((l.length : Nat) : Int).toNat).drop (Int.toNat 0) = l.map msV by rw [Int.toNat_natCast, List.take_of_length_le (by rw [List.length_map]; exact Nat.le_refl _)]; rfl]
    refine happF H (by rw [List.length_map, List.length_map]; omega) ?_
    clear H
    intro tk2 τ H
    (refine wX ?_)
    rw [← List.map_append]
    refine acall (tSize (0, l ++ missOf (missS (pvs X) M[i]) M[i]) tk2 w _ (by rw [List.length_append]; omega)) ?_
    rintro _ σ_ ⟨rfl, e_⟩
    obtain rfl := e_.symm
    refine ⟨?_, Ext.refl _⟩
    (refine wX ?_)
    have hall : ∀ m ∈ l ++ missOf (missS (pvs X) M[i]) M[i], missOk w m = true := fun m hm => by
      rcases List.mem_append.1 hm with hm | hm
      · exact sA.ok m hm
      · exact hf _ (List.getElem_mem h) m hm
    have hz := size_zero hw h0n hall
    have ha := size_ack hw h0n hack hall
    by_cases hstop : (l ++ missOf (missS (pvs X) M[i]) M[i]).length > 32 ∨ sizeSt w (ackW A, l ++ missOf (missS (pvs X) M[i]) M[i]) > g
    case pos =>
      rw [sA.stop h hstop]
      rw [← ha, ← hz] at hstop
      by_cases h0 : sizeSt w (0, l ++ missOf (missS (pvs X) M[i]) M[i]) = 0
      all_goals
        (repeat ((first | refine zY (by omega) ?_ | refine zN (by omega) ?_ | (apply zA H; (· repeat first | exact .h | apply AtK.t)) | (apply zS H; (· repeat first | exact .h | apply AtK.t); (· rfl); (conv => whnf); clear H; intro τ H)); (refine wX ?_)))
        exact aret vle_stT H.sub ⟨rfl, rfl⟩
    have sB := sA.step h hf hstop
    rw [← ha, ← hz] at hstop
    (repeat ((first | refine zI (by omega) ?_ | refine zN (by omega) ?_ | (apply zS H; (· repeat first | exact .h | apply AtK.t); (· rfl); (conv => whnf); clear H; intro τ H)); (refine wX ?_)))
    refine ⟨(i + 1, _, tk2, τ), ⟨by dsimp only; omega, sB, Hp.rest (A := [_]) H⟩, by dsimp only; omega, Sub.refl _, ?_⟩
    (refine wX ?_)
    exact elX
set_option maxHeartbeats 4000000 in
theorem eMake {ix iy : Nat} {dv : AVal} {L : List Bool} {tk : Tok} {l : List DP} {S : List PV} (p : RxP 10 1024 size) (okA : RxOk 1024 size A) (c1 : σ ix = some (.cells (rfC 10 size A dv))) (hd : DvOk σ dv L) (hr : DRel A L) (hR : A.MS ≤ 100000000)
    (c2 : σ iy = some (.cells (dbC tk l))) (hl : l.length ≤ 100000) (hdd : ∀ d ∈ l, d.B.length ≤ 65536 ∧ d.e ≤ 100000) (hS : ∀ k, missS S k = missE l k) (ok : ∀ x ∈ S, x.Ok) (hx : ∀ x ∈ S, x.e ≤ 4000) (g w : Int) :
    ACalls Tryz.prog i_bowlineref25_Make [.ptr ix 0, .ptr iy 0, i64v g, i64v w] σ fun v σ' => v = .tup [stV .none (makeW A S g w).1, i64v (makeW A S g w).2] ∧ Hp σ [] σ' := by
  refine k_bowlineref25_Make rfl ?_
  have H := Hp.nil σ
  (refine wX ?_)
  refine hnew H rfl ?_
  clear H
  intro i8 τ H
  (refine wX ?_)
  skip
  refine hnew H rfl ?_
  clear H
  intro i10 τ H
  (refine wX ?_)
  (repeat (((apply zS H; (· repeat first | exact .h | apply AtK.t); (· rfl); (conv => whnf); clear H; intro τ H)); (refine wX ?_)))
  by_cases hw : w = 10 ∨ w = 16
  case neg =>
    have h10 : w ≠ 10 := fun e => hw (.inl e)
    have h16 : w ≠ 16 := fun e => hw (.inr e)
    have e : makeW A S g w = ((0, []), 9) := by unfold makeW mkRes; rw [if_pos hw]
    rw [e]
    (repeat ((first | refine zY (by omega) ?_ | (apply zA H; (· repeat first | exact .h | apply AtK.t)) | (apply zS H; (· repeat first | exact .h | apply AtK.t); (· rfl); (conv => whnf); clear H; intro τ H)); (refine wX ?_)))
    dsimp only
    exact aret (vle_stT (x := 0) (l := []) (t := .full)) (Sub.refl _) ⟨rfl, H.left (L := [])⟩
  have hf : ∀ k ∈ A.missing 1024, ∀ m ∈ missOf (missS S k) k, missOk w m = true := fun k hk => missOf_ok hw (isNum_1024 hw (missing_in hk)) (missS_in ok hx k)
  have hfl : ∀ k, (missOf (missS S k) k).length ≤ 3001 := fun k => by
    have h1 := missOf_len (missS S k) k
    have h2 := missS_leA ok k
    omega
  have hML := missing_len okA
  have hps := p.s2
  unfold makeW mkRes
  rw [if_neg (fun h => h hw)]
  have hw2 := hw
  rcases hw2 with e | e
  all_goals
    (repeat ((first | refine zY (by omega) ?_ | refine zN (by omega) ?_); (refine wX ?_)))
    by_cases hg : g < 0 ∨ g > 4096
    case pos =>
      rw [if_pos hg]
      by_cases hg1 : g < 0
      all_goals
        (repeat ((first | refine zY (by omega) ?_ | refine zN (by omega) ?_ | (apply zA H; (· repeat first | exact .h | apply AtK.t)) | (apply zS H; (· repeat first | exact .h | apply AtK.t); (· rfl); (conv => whnf); clear H; intro τ H)); (refine wX ?_)))
        dsimp only
        exact aret (vle_stT (x := 0) (l := []) (t := .full)) (Sub.refl _) ⟨rfl, H.left (L := [])⟩
    rw [if_neg hg]
    (repeat ((first | refine zN (by omega) ?_ | (apply zA H; (· repeat first | exact .h | apply AtK.t))); (refine wX ?_)))
    refine acall (refStSize (0, []) .full w _ (by exact Nat.zero_le _)) ?_
    rintro _ σ_ ⟨rfl, e_⟩
    obtain rfl := e_.symm
    refine ⟨?_, Ext.refl _⟩
    (refine wX ?_)
    rcases Int.lt_or_le g (sizeSt w (0, [])) with hsz | hsz
    case' inl =>
      rw [if_pos hsz]
      (repeat ((first | refine zY (by omega) ?_ | (apply zA H; (· repeat first | exact .h | apply AtK.t)) | (apply zS H; (· repeat first | exact .h | apply AtK.t); (· rfl); (conv => whnf); clear H; intro τ H)); (refine wX ?_)))
      dsimp only
      exact aret (vle_stT (x := 0) (l := []) (t := .full)) (Sub.refl _) ⟨rfl, H.left (L := [])⟩
    rw [if_neg (Int.not_lt.2 hsz)]
    (repeat ((refine zN (by omega) ?_); (refine wX ?_)))
    refine acall (rState23 p (H.sub _ _ c1)) ?_
    rintro _ σ_ ⟨rfl, e_⟩
    obtain rfl := e_.symm
    refine ⟨?_, Ext.refl _⟩
    (refine wX ?_)
    (repeat ((first | refine zX (by omega) (by omega) ?_ | refine zR rfl ?_); (refine wX ?_)))
    refine hnew H rfl ?_
    clear H
    intro i11 τ H
    (refine wX ?_)
    (repeat (((apply zS H; (· repeat first | exact .h | apply AtK.t); (· rfl); (conv => whnf); clear H; intro τ H)); (refine wX ?_)))
    refine acall (rMissing23 p (H.sub _ _ c1) (dv_sub hd H.sub) hr okA.rm hR) ?_
    rintro _ σ_ ⟨rfl, e_⟩
    obtain rfl := e_.symm
    refine ⟨?_, Ext.refl _⟩
    (refine wX ?_)
    replace H : Hp σ [.o i11 (.cells [i64v (ackW A), missV .full []]), .o i8 (.cells [i64v 0, missV .full []])] τ := Hp.rest (A := [_]) (Hp.mid (A := [_]) (B := [_]) H)
    generalize hM : A.missing 1024 = M at *
    refine aloop (α := Nat × List Ms × Tok × AHeap) (fun y => [(s13, i64v y.1)]) (fun y => y.2.2.2)
      (fun y => y.1 ≤ M.length ∧ StAt w g (fun sn => missOf (missS S sn) sn) M (ackW A) y.1 y.2.1 ∧ Hp σ [.o i11 (.cells [i64v (ackW A), missV y.2.2.1 y.2.1]), .o i8 (.cells [i64v 0, missV .full []])] y.2.2.2) (fun y => M.length - y.1) (0, [], .full, τ) ⟨Nat.zero_le _, ⟨rfl, Nat.zero_le _, nofun⟩, H⟩ (Sub.refl _) ?_ ?_
    · (refine wX ?_)
      exact elX
    clear H
    rintro ⟨i, l2, tk, τ⟩ ⟨hi, sA, H⟩
    dsimp only at hi sA H ⊢
    (refine wX ?_)
    rw [List.length_map]
    by_cases h : i < M.length
    case neg =>
      have e : i = M.length := by omega
      subst e
      (repeat ((first | refine zN (by omega) ?_ | (apply zA H; (· repeat first | exact .h | apply AtK.t)) | (apply zS H; (· repeat first | exact .h | apply AtK.t); (· rfl); (conv => whnf); clear H; intro τ H)); (refine wX ?_)))
      rw [sA.end_]
      exact aret vle_stT (Sub.refl _) ⟨rfl, H.left (L := [])⟩
    have hl32 := sA.le
    have hfi := hfl M[i]
    (repeat ((first | refine zY (by omega) ?_ | (apply zL H; (· repeat first | exact .h | apply AtK.t); (· rfl))); (refine wX ?_)))
    refine happF H (by rw [List.length_map]; show (0 + _) * 32 ≤ _; omega) ?_
    clear H
    intro tk2 τ H
    (refine wX ?_)
    skip
    refine aget (by omega) (get_int h) ?_
    (refine wX ?_)
    (repeat ((refine zR rfl ?_); (refine wX ?_)))
    refine acall (eMisses (H.sub _ _ c2) hl hdd M[i] (by rw [← hS]; exact missS_leA ok _)) ?_
    rw [← hS]
    rintro _ τ2 ⟨rfl, N2⟩
    refine ⟨?_, N2.ext⟩
    have H := H.join N2
    clear N2
    (refine wX ?_)
    apply zP H
    · (repeat first | exact .h | apply AtK.t)
    · exact (by rw [List.length_append, List.length_map, List.length_map]; show (0 + _ + _) * 32 ≤ _; omega)
    intro tk3
    (conv => whnf)
    clear H
    intro τ H
    (refine wX ?_)
    rw [show [] ++ l2.map msV ++ (missOf (missS S M[i]) M[i]).map msV = (l2 ++ missOf (missS S M[i]) M[i]).map msV by rw [List.nil_append, List.map_append]]
    (repeat (((apply zL H; (· repeat first | exact .h | apply AtK.t); (· rfl))); (refine wX ?_)))
    refine hnew H rfl ?_
    clear H
    intro i15 τ H
    (refine wX ?_)
    (repeat ((first | (apply zS H; (· repeat first | exact .h | apply AtK.t); (· rfl); (conv => whnf); clear H; intro τ H) | rw [List.length_map]); (refine wX ?_)))
    by_cases h32 : (l2 ++ missOf (missS S M[i]) M[i]).length > 32
    case' neg =>
      (repeat ((first | refine zN (by omega) ?_ | (apply zA H; (· repeat first | exact .h | apply AtK.t))); (refine wX ?_)))
      refine acall (refStSize (ackW A, l2 ++ missOf (missS S M[i]) M[i]) tk3 w _ (by rw [List.length_append]; omega)) ?_
      rintro _ σ_ ⟨rfl, e_⟩
      obtain rfl := e_.symm
      refine ⟨?_, Ext.refl _⟩
      (refine wX ?_)
      by_cases hs2 : sizeSt w (ackW A, l2 ++ missOf (missS S M[i]) M[i]) > g
      case' neg =>
        have sB := sA.step h hf (fun hq => hq.elim h32 hs2)
        (repeat ((first | refine zI (by omega) ?_ | refine zN (by omega) ?_ | (apply zA H; (· repeat first | exact .h | apply AtK.t)) | (apply zS H; (· repeat first | exact .h | apply AtK.t); (· rfl); (conv => whnf); clear H; intro τ H)); (refine wX ?_)))
        refine ⟨(i + 1, _, tk3, τ), ⟨by dsimp only; omega, sB, ?_⟩, by dsimp only; omega, Sub.refl _, ?_⟩
        · exact Hp.rest (A := [_, _]) H
        (refine wX ?_)
        exact elX
    case' pos => have hstop : (l2 ++ missOf (missS S M[i]) M[i]).length > 32 ∨ sizeSt w (ackW A, l2 ++ missOf (missS S M[i]) M[i]) > g := .inl h32
    all_goals
      rw [sA.stop h (by first | exact .inl h32 | exact .inr hs2)]
      (repeat ((refine zY (by omega) ?_); (refine wX ?_)))
      refine aget (by omega) (get_int h) ?_
      (refine wX ?_)
      (repeat ((first | refine zR rfl ?_ | (apply zA H; (· repeat first | exact .h | apply AtK.t)) | (apply zS H; (· repeat first | exact .h | apply AtK.t); (· rfl); (conv => whnf); clear H; intro τ H)); (refine wX ?_)))
      exact aret vle_stT (Sub.refl _) ⟨rfl, H.left (L := [])⟩
end
end Go.Proofs.YtgbpjbpdpgbngaaGreat
/-
  The status of what came: both windows and both buffers.
-/
namespace Go.Proofs.YtgbpjbpdpgbngaaGreat
set_option maxRecDepth 20000
open Go Go.Am

theorem rxp512 : RxP 10 1024 512 := ⟨by decide, by decide, by decide, by decide⟩
theorem came_relA {N size : Nat} {A : RxA} {L : List Bool} {k : Int} (h : DRel A L) : DRel (A.came N size k) L := fun i hi => by
  obtain ⟨r1, _, r3⟩ := RxA.came_R (N := N) (size := size) (A := A) (k := k)
  rw [r1] at hi; rw [r3]; exact h i hi
theorem late_RA {N : Nat} {A : RxA} {k : Int} : (A.late N k).R = A.R ∧ (A.late N k).D = A.D := by unfold RxA.late; split <;> exact ⟨rfl, rfl⟩
theorem late_relA {N : Nat} {A : RxA} {L : List Bool} {k : Int} (h : DRel A L) : DRel (A.late N k) L := fun i hi => by
  obtain ⟨r1, r3⟩ := late_RA (N := N) (A := A) (k := k)
  rw [r1] at hi; rw [r3]; exact h i hi
theorem whole_R {A : RxA} (ok : RxOk 1024 512 A) (k : Int) : (A.whole 1024 512 k).R ≤ A.R + 512 := by
  have h1 := (ok.whole (by decide) k).rm
  have h2 := (ok.whole (by decide) k).mh
  have h3 := (ok.came k).hr
  have h4 := (RxA.came_R (N := 1024) (size := 512) (A := A) (k := k)).1
  have h5 := ok.rm; have h6 := ok.mh; have h7 := ok.hr
  unfold RxA.whole at h1 h2 ⊢
  split
  · rename_i hc
    rw [if_pos hc] at h1 h2
    have : ((A.came 1024 512 k).done (posN 1024 A.R k)).H = (A.came 1024 512 k).H := rfl
    omega
  · omega
theorem MidB.glw {σb τ : AHeap} {ib ix k k2 : Nat} {G : List HE} {P : List PV → Prop} {f : List PV → List PV} (M : MidB σb ib ix k k2 P f G τ) :
    ∃ R, Hp σb (G ++ R) τ ∧ ∀ G' τ', Hp σb (G' ++ R) τ' → MidB σb ib ix k k2 P f G' τ' := by
  obtain ⟨im, X, tk, l, S, hP, hS, H, h⟩ := M
  refine ⟨.o ib (.cells (buC im)) :: .o im (.map (esX X)) :: (flatX X ++ [.o ix (.cells (dbC tk l))]), ?_, fun G' τ' H' => ⟨im, X, tk, l, S, hP, hS, ?_, h⟩⟩
  · have := Hp.comm (.o ib (.cells (buC im)) :: .o im (.map (esX X)) :: (flatX X ++ [.o ix (.cells (dbC tk l))])) G (by simpa using H)
    exact this
  · have := Hp.comm G' _ H'
    simpa using this
/-- Both windows, and both buffers; the program's may be ahead. -/
structure Zw (σb : AHeap) (iw ib ix iy : Nat) (A B : RxA) (n k k2 : Nat) (P : List PV → Prop) (f : List PV → List PV) (G : List HE) (τ : AHeap) : Prop where
  ex : ∃ im dv L E, RxOk 1024 512 A ∧ RxOk 1024 512 B ∧ DRel B L ∧ RV dv L E ∧ L.length ≤ 1024 * n + 1024 ∧ A.R ≤ 512 * n ∧ B.R ≤ 512 * n ∧ MidB σb ib iy k k2 P f (rxL 10 1024 512 A iw im (.o ix (.cells (rfC 10 512 B dv)) :: (E ++ G))) τ
abbrev ZB (σb : AHeap) (iw ib ix iy : Nat) (A : RxA) (n k : Nat) (G : List HE) (τ : AHeap) : Prop := Zw σb iw ib ix iy A A n k k NegS id G τ
section
variable {σb τ : AHeap} {iw ib ix iy n k k2 : Nat} {A B : RxA} {G : List HE} {P : List PV → Prop} {f : List PV → List PV}
theorem Zw.gl (z : Zw σb iw ib ix iy A B n k k2 P f G τ) : ∃ R, Hp σb (G ++ R) τ ∧ ∀ G' τ', Hp σb (G' ++ R) τ' → Zw σb iw ib ix iy A B n k k2 P f G' τ' := by
  obtain ⟨im, dv, L, E, h1, h2, h3, h4, h5, h6, h7, M⟩ := z
  obtain ⟨R, H, back⟩ := M.glw
  refine ⟨rxL 10 1024 512 A iw im (.o ix (.cells (rfC 10 512 B dv)) :: E) ++ R, ?_, fun G' τ' H' => ⟨im, dv, L, E, h1, h2, h3, h4, h5, h6, h7, back _ _ ?_⟩⟩
  · have := Hp.mid (A := rxL 10 1024 512 A iw im (.o ix (.cells (rfC 10 512 B dv)) :: E)) (B := G) (C := R) (by simpa [rxL] using H)
    exact this
  · have := Hp.mid (A := G') (B := rxL 10 1024 512 A iw im (.o ix (.cells (rfC 10 512 B dv)) :: E)) (C := R) H'
    simpa [rxL] using this
theorem Zw.push {E : List HE} {τ' : AHeap} (z : Zw σb iw ib ix iy A B n k k2 P f G τ) (N : Hp τ E τ') : Zw σb iw ib ix iy A B n k k2 P f (E ++ G) τ' := by
  obtain ⟨R, H, back⟩ := z.gl
  exact back _ _ (by rw [List.append_assoc]; exact H.join N)
theorem Zw.pop {E : List HE} (z : Zw σb iw ib ix iy A B n k k2 P f (E ++ G) τ) : Zw σb iw ib ix iy A B n k k2 P f G τ := by
  obtain ⟨R, H, back⟩ := z.gl
  exact back _ _ (Hp.rest (A := E) (by rw [← List.append_assoc]; exact H))
theorem Zw.at_ {j i : Nat} {c : AObj} (z : Zw σb iw ib ix iy A B n k k2 P f G τ) (h : G[j]? = some (.o i c)) : τ i = some c := by
  obtain ⟨R, H, _⟩ := z.gl
  exact H.ok (.o i c) (List.mem_append_left _ (List.mem_of_getElem? h))
/-- The windows and what else is there. -/
theorem Zw.win (z : Zw σb iw ib ix iy A B n k k2 P f G τ) : ∃ im dv L E R, RxOk 1024 512 A ∧ RxOk 1024 512 B ∧ DRel B L ∧ RV dv L E ∧ L.length ≤ 1024 * n + 1024 ∧ A.R ≤ 512 * n ∧ B.R ≤ 512 * n ∧
    Hp σb (rxL 10 1024 512 A iw im (.o ix (.cells (rfC 10 512 B dv)) :: (E ++ R))) τ ∧
    ∀ A' B' n' im' dv' L' E' τ', RxOk 1024 512 A' → RxOk 1024 512 B' → DRel B' L' → RV dv' L' E' → L'.length ≤ 1024 * n' + 1024 → A'.R ≤ 512 * n' → B'.R ≤ 512 * n' →
      Hp σb (rxL 10 1024 512 A' iw im' (.o ix (.cells (rfC 10 512 B' dv')) :: (E' ++ R))) τ' → Zw σb iw ib ix iy A' B' n' k k2 P f G τ' := by
  obtain ⟨im, dv, L, E, h1, h2, h3, h4, h5, h6, h7, M⟩ := z
  obtain ⟨R, H, back⟩ := M.glw
  refine ⟨im, dv, L, E, G ++ R, h1, h2, h3, h4, h5, h6, h7, by simpa [rxL] using H, fun A' B' n' im' dv' L' E' τ' g1 g2 g3 g4 g5 g6 g7 H' => ⟨im', dv', L', E', g1, g2, g3, g4, g5, g6, g7, back _ _ (by simpa [rxL] using H')⟩⟩
theorem zIn (z : Zw σb iw ib ix iy A B n k k2 P f G τ) {σx : AHeap} (hx : Ext τ σx) (sn : Int) : ACalls Tryz.prog i_rxwin_Window_In [.ptr iw 0, i64v sn] σx fun v σ' => v = boolv (A.inW 1024 512 sn) ∧ σ' = σx := by
  obtain ⟨im, dv, L, E, R, h1, h2, h3, h4, h5, h6, h7, H, back⟩ := z.win
  exact wIn rxp512 (hx _ _ rfl (H.get (k := 0) rfl)) sn
theorem zIs (z : Zw σb iw ib ix iy A B n k k2 P f G τ) {σx : AHeap} (hx : Ext τ σx) (sn : Int) : ACalls Tryz.prog i_rxwin_Window_Is [.ptr iw 0, i64v sn] σx fun v σ' => v = boolv (A.isW 1024 512 sn) ∧ σ' = σx := by
  obtain ⟨im, dv, L, E, R, h1, h2, h3, h4, h5, h6, h7, H, back⟩ := z.win
  exact wIs rxp512 h1 (hx _ _ rfl (H.get (k := 0) rfl)) (hx _ _ rfl (H.get (k := 1) rfl)) sn
theorem zCame1 (z : Zw σb iw ib ix iy A A n k k2 P f G τ) (sn : Int) : ACalls Tryz.prog i_rxwin_Window_Came [.ptr iw 0, i64v sn] τ fun v σ' => v = i64v (A.ask 1024 512 sn) ∧ Zw σb iw ib ix iy (A.came 1024 512 sn) A n k k2 P f G σ' := by
  obtain ⟨im, dv, L, E, R, h1, h2, h3, h4, h5, h6, h7, H, back⟩ := z.win
  refine acall_less (wCame rxp512 h1 H sn) ?_
  rintro _ σ' ⟨rfl, H⟩
  exact ⟨_, _, VLe.refl _, Sub.refl _, rfl, back _ _ _ _ _ _ _ _ (h1.came sn) h2 h3 h4 h5 (by rw [(RxA.came_R (N := 1024) (size := 512) (A := A) (k := sn)).1]; exact h6) h7 H⟩
theorem Hp.rot3 {σb τ : AHeap} {a b c : HE} {M : List HE} (H : Hp σb (a :: b :: c :: M) τ) : Hp σb (c :: (M ++ [a, b])) τ := Hp.comm [_, _] _ H
theorem Hp.unrot {σb τ : AHeap} {a b c : HE} {M : List HE} (H : Hp σb (c :: (M ++ [a, b])) τ) : Hp σb (a :: b :: c :: M) τ := Hp.comm (c :: M) [_, _] H
theorem zCame2 (hn : n ≤ 1000) {sn : Int} (z : Zw σb iw ib ix iy (A.came 1024 512 sn) A n k k2 P f G τ) : ACalls Tryz.prog i_bowlineref23_Window_Came [.ptr ix 0, i64v sn] τ fun v σ' => v = i64v (A.ask 1024 512 sn) ∧ Zw σb iw ib ix iy (A.came 1024 512 sn) (A.came 1024 512 sn) n k k2 P f G σ' := by
  obtain ⟨im, dv, L, E, R, h1, h2, h3, h4, h5, h6, h7, H, back⟩ := z.win
  refine acall_less (rCame23 rxp512 h2 (by omega) H.rot3 h4.isCell sn) ?_
  rintro _ σ' ⟨rfl, H⟩
  exact ⟨_, _, VLe.refl _, Sub.refl _, rfl, back _ _ _ _ _ _ _ _ h1 (h2.came sn) (came_relA h3) h4 h5 h6 (by rw [(RxA.came_R (N := 1024) (size := 512) (A := A) (k := sn)).1]; exact h7) H.unrot⟩
theorem zLate1 (z : Zw σb iw ib ix iy A A n k k2 P f G τ) (sn : Int) : ACalls Tryz.prog i_rxwin_Window_Late [.ptr iw 0, i64v sn] τ fun v σ' => v = i64v (A.lateC 1024 sn) ∧ Zw σb iw ib ix iy (A.late 1024 sn) A n k k2 P f G σ' := by
  obtain ⟨im, dv, L, E, R, h1, h2, h3, h4, h5, h6, h7, H, back⟩ := z.win
  refine acall_less (wLate rxp512 h1 H sn) ?_
  rintro _ σ' ⟨rfl, H⟩
  exact ⟨_, _, VLe.refl _, Sub.refl _, rfl, back _ _ _ _ _ _ _ _ (h1.late sn) h2 h3 h4 h5 (by rw [late_RA.1]; exact h6) h7 H⟩
theorem zLate2 (hn : n ≤ 1000) {sn : Int} (z : Zw σb iw ib ix iy (A.late 1024 sn) A n k k2 P f G τ) : ACalls Tryz.prog i_bowlineref23_Window_Late [.ptr ix 0, i64v sn] τ fun v σ' => v = i64v (A.lateC 1024 sn) ∧ Zw σb iw ib ix iy (A.late 1024 sn) (A.late 1024 sn) n k k2 P f G σ' := by
  obtain ⟨im, dv, L, E, R, h1, h2, h3, h4, h5, h6, h7, H, back⟩ := z.win
  refine acall_less (rLate23 rxp512 h2 (by omega) h3 h4 (by simpa using H.rot3) sn) ?_
  rintro _ σ' ⟨rfl, H⟩
  exact ⟨_, _, VLe.refl _, Sub.refl _, rfl, back _ _ _ _ _ _ _ _ h1 (h2.late sn) (late_relA h3) h4 h5 h6 (by rw [late_RA.1]; exact h7) (Hp.unrot (by simpa using H))⟩
theorem zWhole1 (z : Zw σb iw ib ix iy A A n k k2 P f G τ) (sn : Int) : ACalls Tryz.prog i_rxwin_Window_Whole [.ptr iw 0, i64v sn] τ fun v σ' => v = .tup [ints .none (A.wholeL 1024 512 sn), i64v (A.wholeC 1024 512 sn)] ∧ Zw σb iw ib ix iy (A.whole 1024 512 sn) A (n + 1) k k2 P f G σ' := by
  obtain ⟨im, dv, L, E, R, h1, h2, h3, h4, h5, h6, h7, H, back⟩ := z.win
  refine acall_less (wWhole rxp512 h1 H sn) ?_
  rintro _ σ' ⟨tk, rfl, H⟩
  have := whole_R h1 sn
  exact ⟨_, _, VLe.tup (VLe.cons (VLe.slice _ _ _) fun _ _ h => h), Sub.refl _, rfl, back _ _ _ _ _ _ _ _ (h1.whole (by decide) sn) h2 h3 h4 (by omega) (by omega) (by omega) H.tail⟩
theorem zWhole2 (hn : n ≤ 1000) {sn : Int} (z : Zw σb iw ib ix iy (A.whole 1024 512 sn) A (n + 1) k k2 P f G τ) : ACalls Tryz.prog i_bowlineref23_Window_Whole [.ptr ix 0, i64v sn] τ fun v σ' => v = .tup [ints .none (A.wholeL 1024 512 sn), i64v (A.wholeC 1024 512 sn)] ∧ Zw σb iw ib ix iy (A.whole 1024 512 sn) (A.whole 1024 512 sn) (n + 2) k k2 P f G σ' := by
  obtain ⟨im, dv, L, E, R, h1, h2, h3, h4, h5, h6, h7, H, back⟩ := z.win
  refine acall_less (rWhole23 rxp512 h2 (by omega) h3 (by omega) h4 (by simpa using H.rot3) sn) ?_
  rintro _ σ' ⟨tk, dv', L', E', rfl, hv, hd, hl, H⟩
  have := whole_R h2 sn
  have H := H.tail
  exact ⟨_, _, VLe.tup (VLe.cons (VLe.slice _ _ _) fun _ _ h => h), Sub.refl _, rfl, back _ _ _ _ _ _ _ _ h1 (h2.whole (by decide) sn) hd hv (by omega) (by omega) (by omega) (Hp.unrot (by simpa using H))⟩
theorem zPut1 (z : ZB σb iw ib ix iy A n k G τ) (hk : k ≤ 900) (p : Pk) (hl : p.fs.length ≤ 1000) (ht : total p.fs ≤ 1000000) (hsn : inR p.sn) :
    ACalls Tryz.prog i_rxbuf_Buffer_Put [.ptr ib 0, amV p] τ fun v σ' => ∃ q : Int, v = i64v q ∧ Zw σb iw ib ix iy A A n k (k + 1) (fun S => q = putS S p ∧ NegS S) (fun S => putV S p) G σ' := by
  obtain ⟨im, dv, L, E, h1, h2, h3, h4, h5, h6, h7, M⟩ := z
  refine acall_less (cPut1 M hk p hl ht hsn) ?_
  rintro _ σ' ⟨q, rfl, M⟩
  exact ⟨_, _, VLe.refl _, Sub.refl _, q, rfl, im, dv, L, E, h1, h2, h3, h4, h5, h6, h7, M⟩
theorem zPut2 {q : Int} {p : Pk} (hs0 : 0 ≤ p.sn) (z : Zw σb iw ib ix iy A A n k (k + 1) (fun S => q = putS S p ∧ NegS S) (fun S => putV S p) G τ) (hk : k ≤ 900) (hl : p.fs.length ≤ 1000) (ht : total p.fs ≤ 1000000) (hsn : inR p.sn) :
    ACalls Tryz.prog i_bowlineref24_Buffer_Put [.ptr iy 0, amV p] τ fun v σ' => v = i64v q ∧ ZB σb iw ib ix iy A n (k + 1) G σ' := by
  obtain ⟨im, dv, L, E, h1, h2, h3, h4, h5, h6, h7, M⟩ := z
  refine acall_less (cPut2 hs0 M hk hl ht hsn) ?_
  rintro _ σ' ⟨rfl, M⟩
  exact ⟨_, _, VLe.refl _, Sub.refl _, rfl, im, dv, L, E, h1, h2, h3, h4, h5, h6, h7, M⟩
theorem zNot {q : Int} {p : Pk} (z : Zw σb iw ib ix iy A A n k (k + 1) (fun S => q = putS S p ∧ NegS S) (fun S => putV S p) G τ) (h : q ≠ 0) : ZB σb iw ib ix iy A n (k + 1) G τ := by
  obtain ⟨im, dv, L, E, h1, h2, h3, h4, h5, h6, h7, M⟩ := z
  exact ⟨im, dv, L, E, h1, h2, h3, h4, h5, h6, h7, M.refused h⟩
theorem zTake1 (z : ZB σb iw ib ix iy A n k G τ) (hk : k ≤ 900) (sn : Int) :
    ACalls Tryz.prog i_rxbuf_Buffer_Take [.ptr ib 0, i64v sn] τ fun v σ' => ∃ q : Int × List (List UInt8) × Int, v = .tup [i64v q.1, lists .none q.2.1, i64v q.2.2] ∧ Zw σb iw ib ix iy A A n k k (fun S => q = ((takeF S sn).1, (takeF S sn).2, takeC S sn) ∧ NegS S) (fun S => takeS S sn) G σ' := by
  obtain ⟨im, dv, L, E, h1, h2, h3, h4, h5, h6, h7, M⟩ := z
  refine acall_less (cTake1 M hk sn) ?_
  rintro _ σ' ⟨q, rfl, M⟩
  exact ⟨_, _, VLe.refl _, Sub.refl _, q, rfl, im, dv, L, E, h1, h2, h3, h4, h5, h6, h7, M⟩
theorem zTake2 {q : Int × List (List UInt8) × Int} {sn : Int} (z : Zw σb iw ib ix iy A A n k k (fun S => q = ((takeF S sn).1, (takeF S sn).2, takeC S sn) ∧ NegS S) (fun S => takeS S sn) G τ) (hk : k ≤ 900) :
    ACalls Tryz.prog i_bowlineref24_Buffer_Take [.ptr iy 0, i64v sn] τ fun v σ' => v = .tup [i64v q.1, lists .none q.2.1, i64v q.2.2] ∧ ZB σb iw ib ix iy A n k G σ' := by
  obtain ⟨im, dv, L, E, h1, h2, h3, h4, h5, h6, h7, M⟩ := z
  refine acall_less (cTake2 M hk) ?_
  rintro _ σ' ⟨rfl, _, M⟩
  exact ⟨_, _, VLe.refl _, Sub.refl _, rfl, im, dv, L, E, h1, h2, h3, h4, h5, h6, h7, M⟩
theorem zWholeB (z : ZB σb iw ib ix iy A n k G τ) (sn : Int) : ACalls Tryz.prog i_rxbuf_Buffer_Whole [.ptr ib 0, i64v sn] τ fun v σ' => ∃ b, v = boolv b ∧ σ' = τ := by
  obtain ⟨im, dv, L, E, h1, h2, h3, h4, h5, h6, h7, M⟩ := z
  obtain ⟨im, X, tk, l, S, hP, hS, H, ok, hSo, hok, hR, hX, hll⟩ := M
  refine acall_less (xWhole H ok sn) ?_
  rintro _ σ' ⟨rfl, rfl⟩
  exact ⟨_, _, VLe.refl _, Sub.refl _, _, rfl, rfl⟩
theorem Zw.more {n' k' : Nat} (z : ZB σb iw ib ix iy A n k G τ) (hn : n ≤ n') (hk : k ≤ k') : ZB σb iw ib ix iy A n' k' G τ := by
  obtain ⟨im, dv, L, E, h1, h2, h3, h4, h5, h6, h7, M⟩ := z
  exact ⟨im, dv, L, E, h1, h2, h3, h4, by omega, by omega, by omega, M.more hk⟩
end
end Go.Proofs.YtgbpjbpdpgbngaaGreat
/-
  Fields that are too much for a statement.
-/
namespace Go.Proofs.YtgbpjbpdpgbngaaGreat
open Go Go.Am

def smallG (l : List (List UInt8)) : Prop := l.length ≤ 40 ∧ ∀ p ∈ l, p.length ≤ 4200
theorem gGreat (l : List (List UInt8)) (t : Tok) (σ : AHeap) (hl : l.length ≤ 9223372036854775807) : ACalls Tryz.prog i_bowlinelaw09_Great [lists t l] σ fun v σ' => (∃ g, v = boolv g ∧ (g = false → smallG l)) ∧ σ' = σ := by
  refine k_bowlinelaw09_Great rfl ?_
  (refine wX ?_)
  refine aloop (α := Nat × Nat) (fun x => [(s3, i64v x.2), (s4, i64v x.1)]) (fun _ => σ) (fun x => x.1 ≤ l.length ∧ (0 < x.1 → l.length ≤ 40) ∧ x.2 ≤ 4200 * x.1 ∧ ∀ p ∈ l.take x.1, p.length ≤ 4200) (fun x => l.length - x.1) (0, 0) ⟨Nat.zero_le _, fun h => by omega, Nat.le_refl _, by simp⟩ (Sub.refl _) ?_ ?_
  · (refine wX ?_)
    exact elX
  rintro ⟨i, n⟩ ⟨hi, h40, hn, ha⟩
  dsimp only at hi h40 hn ha ⊢
  by_cases h : i < l.length
  · by_cases h1 : l.length > 40
    · (refine wX ?_)
      (repeat ((first | refine abr_yes (by omega) ?_ | rw [List.length_map]); (refine wX ?_)))
      exact aret_same ⟨⟨true, rfl, nofun⟩, rfl⟩
    · (refine wX ?_)
      (repeat ((first | refine abr_yes (by omega) ?_ | refine abr_no (by omega) ?_ | rw [List.length_map]); (refine wX ?_)))
      refine aget (by omega) (get_lists h) ?_
      (refine wX ?_)
      refine acell rfl ?_
      (refine wX ?_)
      rw [List.length_map]
      by_cases h2 : l[i].length > 4200
      · refine abr_yes (by omega) ?_
        (refine wX ?_)
        exact aret_same ⟨⟨true, rfl, nofun⟩, rfl⟩
      · refine abr_no (by omega) ?_
        (refine wX ?_)
        refine aget (by omega) (get_lists h) ?_
        (refine wX ?_)
        refine acell rfl ?_
        (refine wX ?_)
        (repeat ((first | refine afit_i64 (by omega) ?_ | rw [List.length_map]); (refine wX ?_)))
        refine ⟨(i + 1, n + l[i].length), ⟨h, fun _ => by omega, by dsimp only; omega, ?_⟩, by dsimp only; omega, Sub.refl _, ?_⟩
        · dsimp only
          rw [List.take_add_one, List.getElem?_eq_getElem h]
          intro p hp
          rcases List.mem_append.1 hp with h | h
          · exact ha p h
          · simp at h; subst h; omega
        · rw [show (n : Int) + ((l[i].length : Nat) : Int) = ((n + l[i].length : Nat) : Int) by omega]
          (refine wX ?_)
          exact elX
  · rw [List.take_of_length_le (by omega)] at ha
    (refine wX ?_)
    (repeat ((first | refine abr_no (by omega) ?_ | rw [List.length_map]); (refine wX ?_)))
    refine aret_same ⟨⟨_, rfl, fun _ => ⟨?_, ha⟩⟩, rfl⟩
    by_cases h0 : l.length = 0
    · omega
    · exact h40 (by omega)
end Go.Proofs.YtgbpjbpdpgbngaaGreat
/-
  Statements of what came in parts: what must come of fixed calls.
-/
namespace Go.Proofs.YtgbpjbpdpgbngaaGreat
set_option maxRecDepth 20000
open Go Go.Am

theorem pk_argsX {x a b c d e f : AVal} (l : List TB) (t : Tok) : ∀ κ vs, RepL κ [x, .agg [a, b, c, d, e, f, .slice 1 (l.map slB) t]] vs → RepL κ [x, .agg [a, b, c, d, e, f, lists .none (l.map (·.2))]] vs :=
  VLe.cons (VLe.refl _) (VLe.cons (VLe.aggA (VLe.cons (VLe.refl _) (VLe.cons (VLe.refl _) (VLe.cons (VLe.refl _) (VLe.cons (VLe.refl _) (VLe.cons (VLe.refl _) (VLe.cons (VLe.refl _) (VLe.cons (VLe.tbs _ _) VLe.nil)))))))) VLe.nil)
theorem acall_weakX {P : Program} {f : FuncId} {args args' : List AVal} {σ : AHeap} {Q : AVal → AHeap → Prop} (h : ∀ κ vs, RepL κ args vs → RepL κ args' vs) (k : ACalls P f args' σ Q) : ACalls P f args σ Q := by
  rw [ACalls_def] at k ⊢
  exact fun κ w cargs hI hr => k κ w cargs hI (h κ cargs hr)
theorem inR_ofX {n : Int} (h : -9223372036854775808 ≤ n ∧ n ≤ 9223372036854775807) : inR n := by
  have h1 : IntKind.i64.min = -9223372036854775808 := by decide
  have h2 : IntKind.i64.max = 9223372036854775807 := by decide
  simp only [inR, Lit.wf, h1, h2, Bool.and_eq_true, decide_eq_true_eq]
  exact h
theorem buNew (σ : AHeap) : ACalls Tryz.prog i_rxbuf_New [] σ fun v σ' => ∃ ib im, v = .ptr ib 0 ∧ Hp σ (XL ib im [] []) σ' := by
  refine k_rxbuf_New rfl ?_
  have H := Hp.nil σ
  (refine wX ?_)
  refine hnewmap H ?_
  clear H
  intro im τ H
  (refine wX ?_)
  skip
  refine hnew H rfl ?_
  clear H
  intro ib τ H
  (refine wX ?_)
  skip
  exact aret (VLe.refl _) (Sub.refl _) ⟨ib, im, rfl, H⟩
theorem XOk.nil : XOk [] := ⟨List.nodup_nil, nofun, nofun, by decide⟩
end Go.Proofs.YtgbpjbpdpgbngaaGreat
/-
  The status of what came: what must come of fixed calls.
-/
namespace Go.Proofs.YtgbpjbpdpgbngaaGreat
set_option maxRecDepth 20000
open Go Go.Am

theorem rxp16 : RxP 10 1024 16 := ⟨by decide, by decide, by decide, by decide⟩
def pk25 : Pk := ⟨false, 0, 1, true, false, 2, [[7]]⟩
def rx25 : RxA := ⟨0, 0, 3, []⟩
def ry25 : RxA := ⟨0, 3, 3, []⟩
theorem e2_25 : ∀ x ∈ putV [] pk25, 0 ≤ x.sn ∧ x.e ≤ 4000 := by decide +kernel
theorem e3_25 : makeW ry25 (putV [] pk25) 100 10 = ((3, [(0, false, 0, 0), (1, true, 0, 2), (1, true, 3, 0), (2, false, 0, 0)]), 0) := by decide +kernel
theorem e5_25 : makeW ry25 (putV [] pk25) 1 10 = ((0, []), 16) := by decide +kernel
theorem f4_25 : makeW ry25 (putV [] pk25) 4 10 = ((1, [(0, false, 0, 0)]), 0) := by decide +kernel
set_option maxHeartbeats 4000000 in
theorem alive25 (σ : AHeap) : ACalls Tryz.prog i_bowlinelaw25_alive [] σ fun v σ' => v = boolv true ∧ σ' = σ := by
  refine k_bowlinelaw25_alive rfl ?_
  (refine wX ?_)
  refine acall (wNew 10 16 σ) ?_
  rintro _ τ (⟨h, _⟩ | ⟨_, _, _, iw, im, rfl, H⟩)
  · exact absurd h (by decide)
  refine ⟨?_, H.ext⟩
  have H : Hp σ (rxL 10 1024 16 ⟨0, 0, 0, []⟩ iw im []) τ := H
  (refine wX ?_)
  refine acall (buNew τ) ?_
  rintro _ τ2 ⟨ib, ibm, rfl, N⟩
  refine ⟨?_, N.ext⟩
  have H : Hp σ (rxL 10 1024 16 ⟨0, 0, 0, []⟩ iw im (XL ib ibm [] [])) τ2 := Hp.comm (XL ib ibm [] []) _ (H.join N)
  clear N
  (refine wX ?_)
  refine acall (wCame rxp16 (.zero 1024 16) H 2) ?_
  clear H
  rintro _ τ ⟨rfl, H⟩
  rw [show RxA.came 1024 16 ⟨0, 0, 0, []⟩ 2 = rx25 from rfl] at H
  have ok1 : RxOk 1024 16 rx25 := RxOk.came (.zero 1024 16) 2
  (refine wX ?_)
  have H : Hp σ (XL ib ibm [] (rxL 10 1024 16 rx25 iw im [])) τ := Hp.comm (rxL 10 1024 16 rx25 iw im []) (XL ib ibm [] []) H
  refine acall (acall_weakX (pk_argsX [(.full, [7])] .full) (xPut H XOk.nil (by decide) pk25 (by decide) (by decide) (by decide))) ?_
  clear H
  rintro _ τ ⟨rfl, X, H, hX, ok, hl⟩
  rw [show pvs ([] : List PX) = [] from rfl] at hX ⊢
  (refine wX ?_)
  have H : Hp σ (rxL 10 1024 16 rx25 iw im (XL ib ibm X [])) τ := by
    have := Hp.comm (.o ib (.cells (buC ibm)) :: .o ibm (.map (esX X)) :: flatX X) (rxL 10 1024 16 rx25 iw im []) H
    show Hp σ (_ :: _ :: _ :: _ :: (flatX X ++ [])) τ
    rw [List.append_nil]
    exact this
  refine acall (wLate rxp16 ok1 H 3) ?_
  clear H
  rintro _ τ ⟨rfl, H⟩
  rw [show RxA.lateC 1024 rx25 3 = 0 from rfl]
  rw [show RxA.late 1024 rx25 3 = ry25 from rfl] at H
  have ok2 : RxOk 1024 16 ry25 := ok1.late 3
  (refine wX ?_)
  have c1 := H.get (k := 0) rfl
  have c2 := H.get (k := 1) rfl
  have H0 : Hp σ (XL ib ibm X (rxL 10 1024 16 ry25 iw im [])) τ := by
    have := Hp.comm (rxL 10 1024 16 ry25 iw im []) (XL ib ibm X []) H
    simpa [rxL] using this
  have hneg : NegS (pvs X) := fun x hx => (e2_25 x (hX ▸ hx)).1
  have hxe : ∀ x ∈ pvs X, x.e ≤ 4000 := fun x hx => (e2_25 x (hX ▸ hx)).2
  refine acall (mMake rxp16 ok2 c1 c2 H0 ok hneg hxe 100 10) ?_
  rintro _ σ_ ⟨rfl, e_⟩
  obtain rfl := e_.symm
  refine ⟨?_, Ext.refl _⟩
  (refine wX ?_)
  rw [hX, e3_25]
  (refine wX ?_)
  have fin := H.sub
  have K := H
  clear H
  have H := Hp.nil τ
  refine hnew H rfl ?_
  clear H
  intro i5 τ H
  (refine wX ?_)
  (repeat (((apply zS H; (· repeat first | exact .h | apply AtK.t); (· rfl); (conv => whnf); clear H; intro τ H)); (refine wX ?_)))
  refine acall (mMake rxp16 ok2 (H.sub _ _ c1) (H.sub _ _ c2) (H0.more H.sub) ok hneg hxe 4 10) ?_
  rintro _ σ_ ⟨rfl, e_⟩
  obtain rfl := e_.symm
  refine ⟨?_, Ext.refl _⟩
  (refine wX ?_)
  rw [hX, f4_25]
  (refine wX ?_)
  refine hnew H rfl ?_
  clear H
  intro i7 τ H
  (refine wX ?_)
  (repeat (((apply zS H; (· repeat first | exact .h | apply AtK.t); (· rfl); (conv => whnf); clear H; intro τ H)); (refine wX ?_)))
  refine acall (mMake rxp16 ok2 (H.sub _ _ c1) (H.sub _ _ c2) (H0.more H.sub) ok hneg hxe 1 10) ?_
  rintro _ σ_ ⟨rfl, e_⟩
  obtain rfl := e_.symm
  refine ⟨?_, Ext.refl _⟩
  (refine wX ?_)
  rw [hX, e5_25]
  (refine wX ?_)
  refine hnew H rfl ?_
  clear H
  intro i9 τ H
  (refine wX ?_)
  (repeat ((first | (apply zL H; (· repeat first | exact .h | apply AtK.t); (· rfl)) | (apply zS H; (· repeat first | exact .h | apply AtK.t); (· rfl); (conv => whnf); clear H; intro τ H) | rw [List.length_map]); (refine wX ?_)))
  refine aget (x := msV (1, true, 0, 2)) (by omega) rfl ?_
  (refine wX ?_)
  (repeat ((first | refine acellA ?_ | (apply zL H; (· repeat first | exact .h | apply AtK.t); (· rfl))); (refine wX ?_)))
  refine aget (x := msV (1, true, 3, 0)) (by omega) rfl ?_
  (refine wX ?_)
  (repeat ((first | refine acellA ?_ | (apply zL H; (· repeat first | exact .h | apply AtK.t); (· rfl))); (refine wX ?_)))
  exact aret (VLe.refl _) (H.sub.trans fin) ⟨rfl, rfl⟩
end Go.Proofs.YtgbpjbpdpgbngaaGreat
/-
  The status of what came: packets come.
-/
namespace Go.Proofs.YtgbpjbpdpgbngaaGreat
set_option maxRecDepth 20000
open Go Go.Am

abbrev PkA := Bool × Int × Int × Bool × Bool × Int × List (List UInt8)
def pkA (t : PkA) : Pk := ⟨t.1, t.2.1, t.2.2.1, t.2.2.2.1, t.2.2.2.2.1, t.2.2.2.2.2.1, t.2.2.2.2.2.2⟩
def pkAV (t : PkA) : AVal := amV (pkA t)
theorem get_pkA {l : List PkA} {i : Nat} (h : i < l.length) : (l.map pkAV)[((i : Nat) : Int).toNat]? = some (pkAV l[i]) := by
  rw [Int.toNat_natCast, List.getElem?_map, List.getElem?_eq_getElem h]; rfl
theorem small_sumA {l : List (List UInt8)} (h : smallG l) : total l ≤ 168000 := by
  have : ∀ (m : List (List UInt8)), (∀ p ∈ m, p.length ≤ 4200) → total m ≤ 4200 * m.length := by
    intro m
    induction m with
    | nil => intro _; exact Nat.le_refl _
    | cons a m ih =>
      intro hm
      have h1 := ih fun p hp => hm p (List.mem_cons_of_mem _ hp)
      have h2 := hm a (List.mem_cons_self ..)
      rw [total_cons, List.length_cons]; omega
  have := this l h.2
  have := h.1
  omega
theorem wholeL_len {A : RxA} (ok : RxOk 1024 512 A) (k : Int) : (A.wholeL 1024 512 k).length ≤ 512 := by
  unfold RxA.wholeL
  split
  · unfold numsV
    rw [List.length_map, List.length_range']
    have := whole_R ok k
    omega
  · exact Nat.zero_le _
theorem Zw.ok {σb τ : AHeap} {iw ib ix iy n k k2 : Nat} {A B : RxA} {G : List HE} {P : List PV → Prop} {f : List PV → List PV} (z : Zw σb iw ib ix iy A B n k k2 P f G τ) : RxOk 1024 512 A := by
  obtain ⟨im, dv, L, E, h, _⟩ := z
  exact h
theorem late_out {A : RxA} {k : Int} (h : ¬ (0 ≤ k ∧ k < 1024)) : A.late 1024 k = A := by
  have : numOk 1024 k = false := decide_eq_false (by simpa using h)
  unfold RxA.late RxA.lateC
  rw [this]; simp
abbrev bothC (iw ib ix iy : Nat) : List AVal := [.ptr iw 0, .ptr ib 0, .ptr ix 0, .ptr iy 0]
theorem inW_num {A : RxA} {k : Int} (h : A.inW 1024 512 k = true) : 0 ≤ k ∧ k < 1024 := by
  have := (inW_iff.1 h).1
  unfold numOk at this
  simpa using this
set_option maxHeartbeats 16000000 in
theorem fFill (l : List PkA) (late : Int) (σ : AHeap) (hl : l.length ≤ 140737488355328) (hb : ∀ t ∈ l, (pkA t).fs.length ≤ 140737488355328 ∧ inR (pkA t).sn) :
    ACalls Tryz.prog i_bowlinelaw25_fill [.slice 7 (l.map pkAV) .none, i64v late] σ fun v σ' => ∃ (iw ib ix iy : Nat) (r : Bool), v = .tup [.agg (bothC iw ib ix iy), boolv r] ∧ Hp σ [] σ' ∧ (r = true → ∃ A, ZB σ iw ib ix iy A 90 40 [] σ') := by
  refine k_bowlinelaw25_fill rfl ?_
  have H := Hp.nil σ
  (refine wX ?_)
  refine hnew H rfl ?_
  clear H
  intro i4 τ H
  (refine wX ?_)
  skip
  refine acall (wNew 10 512 τ) ?_
  rintro _ τ2 (⟨h, _⟩ | ⟨_, _, _, iw, im, rfl, N⟩)
  · exact absurd h (by decide)
  refine ⟨?_, N.ext⟩
  have N : Hp τ (rxL 10 1024 512 ⟨0, 0, 0, []⟩ iw im []) τ2 := N
  replace H := H.join N
  clear N
  (refine wX ?_)
  refine acall (buNew τ2) ?_
  rintro _ τ ⟨ib, ibm, rfl, N⟩
  refine ⟨?_, N.ext⟩
  replace H := H.join N
  clear N
  (refine wX ?_)
  refine hnew H rfl ?_
  clear H
  intro ix τ H
  (refine wX ?_)
  skip
  refine hnew H rfl ?_
  clear H
  intro iy τ H
  (refine wX ?_)
  skip
  refine hnew H rfl ?_
  clear H
  intro i8 τ H
  (refine wX ?_)
  (repeat (((apply zS H; (· repeat first | exact .h | apply AtK.t); (· rfl); (conv => whnf); clear H; intro τ H)); (refine wX ?_)))
  have z : ZB σ iw ib ix iy ⟨0, 0, 0, []⟩ 0 0 [.o i8 (.cells (bothC iw ib ix iy)), .o i4 (.cells [.v (.pointer none), .v (.pointer none), .v (.pointer none), .v (.pointer none)])] τ := by
    have H := Hp.mid (A := [_, _, _]) (B := [_, _]) H
    have H := Hp.mid2 (A := [_, _]) (B := [_]) (C := [_]) H
    have H := Hp.mid2 (A := [_, _, _]) (B := [_, _]) (C := [_, _]) H
    have H := Hp.mid2 (A := [_, _, _, _, _]) (B := [_]) (C := [_]) H
    exact ⟨im, .slice 1 [] .full, [], [], .zero _ _, .zero _ _, fun _ _ => rfl, .nil, Nat.zero_le _, Nat.zero_le _, Nat.zero_le _, ibm, [], .full, [], [], nofun, rfl, H, XOk.nil, nofun, nofun, ⟨nofun, nofun, .nil, .nil⟩, Nat.zero_le _, Nat.zero_le _⟩
  clear H
  have H := Hp.nil τ
  (refine wX ?_)
  generalize hG : [HE.o i8 (.cells (bothC iw ib ix iy)), HE.o i4 (.cells [.v (.pointer none), .v (.pointer none), .v (.pointer none), .v (.pointer none)])] = G at z
  have hG0 : G[0]? = some (.o i8 (.cells (bothC iw ib ix iy))) := by rw [← hG]; rfl
  refine aloop (α := Nat × RxA × AHeap) (fun y => [(s9, i64v y.1)]) (fun y => y.2.2) (fun y => y.1 ≤ l.length ∧ y.1 ≤ 40 ∧ ZB σ iw ib ix iy y.2.1 (2 * y.1) y.1 G y.2.2) (fun y => l.length - y.1)
    (0, ⟨0, 0, 0, []⟩, τ) ⟨Nat.zero_le _, Nat.zero_le _, z⟩ (Sub.refl _) ?_ ?_
  · (refine wX ?_)
    exact elX
  clear H z
  rintro ⟨i, A, τ⟩ ⟨hi, hi2, z⟩
  dsimp only at hi hi2 z ⊢
  have H := Hp.nil τ
  have b2 := z.at_ hG0
  (refine wX ?_)
  rw [List.length_map]
  by_cases h : i < l.length ∧ i < 40
  case neg =>
    refine Or.elim (Nat.lt_or_ge i l.length) (fun h3 => ?_) (fun h3 => ?_)
    all_goals
      (repeat ((first | refine zY (by omega) ?_ | refine zN (by omega) ?_ | refine zB H b2 rfl ?_); (refine wX ?_)))
      refine acall (zLate1 z late) ?_
      clear z b2 H
      rintro _ τ ⟨rfl, z⟩
      have H := Hp.nil τ
      have b2 := z.at_ hG0
      (refine wX ?_)
      by_cases hlt : 0 ≤ late ∧ late < 1024
      case' pos =>
        (repeat ((first | refine zY (by omega) ?_ | refine zB H b2 rfl ?_); (refine wX ?_)))
        refine acall (zLate2 (by omega) z) ?_
        clear z b2 H
        rintro _ τ ⟨rfl, z⟩
        (refine wX ?_)
      case' neg =>
        rw [late_out hlt] at z
        refine Or.elim (Int.lt_or_le late 0) (fun h4 => ?_) (fun h4 => ?_)
        all_goals (repeat ((first | refine zY (by omega) ?_ | refine zN (by omega) ?_ | refine zC H b2 ?_); (refine wX ?_)))
      all_goals
        replace z := z.more (n' := 90) (k' := 40) (by omega) (by omega)
        try clear b2
        try clear H
        subst hG
        obtain ⟨R, H, back⟩ := z.gl
        (refine wX ?_)
        (repeat ((first | (apply zA H; (· repeat first | exact .h | apply AtK.t)) | (apply zS H; (· repeat first | exact .h | apply AtK.t); (· rfl); (conv => whnf); clear H; intro τ H)); (refine wX ?_)))
        refine aret (VLe.refl _) (Sub.refl _) ⟨iw, ib, ix, iy, true, rfl, ?_, fun _ => ⟨_, back [] _ (Hp.rest (A := [_, _]) H)⟩⟩
        exact H.left (L := [])
  obtain ⟨h1, h2⟩ := h
  (repeat ((refine zY (by omega) ?_); (refine wX ?_)))
  obtain ⟨hfl, hsn⟩ := hb _ (List.getElem_mem h1)
  refine aget (by omega) (get_pkA h1) ?_
  generalize l[i] = t at *
  unfold pkAV
  generalize pkA t = p at *
  (refine wX ?_)
  (repeat ((refine acellA ?_); (refine wX ?_)))
  refine hnew H rfl ?_
  clear H
  intro i10 τ H
  (refine wX ?_)
  (repeat ((first | (apply zL H; (· repeat first | exact .h | apply AtK.t); (· rfl)) | (apply zS H; (· repeat first | exact .h | apply AtK.t); (· rfl); (conv => whnf); clear H; intro τ H)); (refine wX ?_)))
  have z := z.push H
  have b1 := z.at_ (j := 0) rfl
  have hG1 : ([HE.o i10 (.cells (amV p).cells)] ++ G)[1]? = some (.o i8 (.cells (bothC iw ib ix iy))) := hG0
  have b2 := z.at_ hG1
  clear H
  have H := Hp.nil τ
  refine acall (gGreat p.fs .none τ (by omega)) ?_
  rintro _ σ_ ⟨⟨gr, rfl, hgr⟩, e_⟩
  obtain rfl := e_.symm
  refine ⟨?_, Ext.refl _⟩
  cases gr
  case true =>
    (refine wX ?_)
    clear b1 b2 H
    subst hG
    obtain ⟨R, H, back⟩ := z.gl
    (repeat ((first | (apply zA H; (· repeat first | exact .h | apply AtK.t)) | (apply zS H; (· repeat first | exact .h | apply AtK.t); (· rfl); (conv => whnf); clear H; intro τ H)); (refine wX ?_)))
    refine aret (VLe.refl _) (Sub.refl _) ⟨iw, ib, ix, iy, false, rfl, H.left (L := []), fun e => by cases e⟩
  have hsm := hgr rfl
  have h40 := hsm.1
  have hto := small_sumA hsm
  (refine wX ?_)
  (repeat ((first | refine zB H b1 rfl ?_ | refine zB H b2 rfl ?_); (refine wX ?_)))
  refine ⟨⟨_, fun σx hx => zIn z hx p.sn, ?_⟩⟩
  (refine wX ?_)
  rcases (show A.inW 1024 512 p.sn = false ∨ A.inW 1024 512 p.sn = true by cases A.inW 1024 512 p.sn <;> simp) with hin | hin
  · rw [hin]
    (refine wX ?_)
    (repeat ((refine zI (by omega) ?_); (refine wX ?_)))
    refine ⟨(i + 1, A, τ), ⟨by dsimp only; omega, by dsimp only; omega, (Zw.pop (E := [_]) z).more (by dsimp only; omega) (by dsimp only; omega)⟩, by dsimp only; omega, Sub.refl _, ?_⟩
    (refine wX ?_)
    exact elX
  rw [hin]
  have hnum := inW_num hin
  (refine wX ?_)
  (repeat ((first | refine zB H b1 rfl ?_ | refine zB H b2 rfl ?_); (refine wX ?_)))
  refine ⟨⟨_, fun σx hx => zIs z hx p.sn, ?_⟩⟩
  (refine wX ?_)
  rcases (show A.isW 1024 512 p.sn = false ∨ A.isW 1024 512 p.sn = true by cases A.isW 1024 512 p.sn <;> simp) with his | his
  case inr =>
    rw [his]
    (refine wX ?_)
    (repeat ((refine zI (by omega) ?_); (refine wX ?_)))
    refine ⟨(i + 1, A, τ), ⟨by dsimp only; omega, by dsimp only; omega, (Zw.pop (E := [_]) z).more (by dsimp only; omega) (by dsimp only; omega)⟩, by dsimp only; omega, Sub.refl _, ?_⟩
    (refine wX ?_)
    exact elX
  rw [his]
  (refine wX ?_)
  (repeat ((first | refine zC H b1 ?_ | refine zB H b2 rfl ?_); (refine wX ?_)))
  refine acall (zPut1 z (by omega) p (by omega) (by omega) hsn) ?_
  clear z b1 b2 H
  rintro _ τ ⟨q, rfl, z⟩
  have b1 := z.at_ (j := 0) rfl
  have b2 := z.at_ hG1
  have H := Hp.nil τ
  (refine wX ?_)
  by_cases hq : q = 0
  case neg =>
    (repeat ((first | refine zI (by omega) ?_ | refine zY (by omega) ?_); (refine wX ?_)))
    refine ⟨(i + 1, A, τ), ⟨by dsimp only; omega, by dsimp only; omega, (Zw.pop (E := [_]) (zNot z hq)).more (by dsimp only; omega) (by dsimp only; omega)⟩, by dsimp only; omega, Sub.refl _, ?_⟩
    (refine wX ?_)
    exact elX
  (repeat ((first | refine zN (by omega) ?_ | refine zC H b1 ?_ | refine zB H b2 rfl ?_); (refine wX ?_)))
  refine acall (As10 p τ) ?_
  rintro _ σ_ ⟨rfl, e_⟩
  obtain rfl := e_.symm
  refine ⟨?_, Ext.refl _⟩
  (refine wX ?_)
  refine acall (zPut2 hnum.1 z (by omega) (by omega) (by omega) hsn) ?_
  clear z b1 b2 H e_
  rintro _ τ ⟨rfl, z⟩
  have b1 := z.at_ (j := 0) rfl
  have b2 := z.at_ hG1
  have H := Hp.nil τ
  (refine wX ?_)
  (repeat ((first | refine zB H b1 rfl ?_ | refine zB H b2 rfl ?_); (refine wX ?_)))
  refine acall (zCame1 z p.sn) ?_
  clear z b1 b2 H
  rintro _ τ ⟨rfl, z⟩
  have b1 := z.at_ (j := 0) rfl
  have b2 := z.at_ hG1
  have H := Hp.nil τ
  (refine wX ?_)
  (repeat ((first | refine zB H b1 rfl ?_ | refine zB H b2 rfl ?_); (refine wX ?_)))
  refine acall (zCame2 (by omega) z) ?_
  clear z b1 b2 H
  rintro _ τ ⟨rfl, z⟩
  generalize A.came 1024 512 p.sn = B at *
  have b1 := z.at_ (j := 0) rfl
  have b2 := z.at_ hG1
  have H := Hp.nil τ
  (refine wX ?_)
  (repeat ((first | refine zB H b1 rfl ?_ | refine zB H b2 rfl ?_); (refine wX ?_)))
  refine acall (zWholeB z p.sn) ?_
  rintro _ σ_ ⟨wb_, rfl, e_⟩
  obtain rfl := e_.symm
  refine ⟨?_, Ext.refl _⟩
  cases wb_
  case false =>
    (refine wX ?_)
    (repeat ((refine zI (by omega) ?_); (refine wX ?_)))
    refine ⟨(i + 1, B, τ), ⟨by dsimp only; omega, by dsimp only; omega, (Zw.pop (E := [_]) z).more (by dsimp only; omega) (by dsimp only; omega)⟩, by dsimp only; omega, Sub.refl _, ?_⟩
    (refine wX ?_)
    exact elX
  (refine wX ?_)
  (repeat ((first | refine zB H b1 rfl ?_ | refine zB H b2 rfl ?_); (refine wX ?_)))
  have hwl := wholeL_len z.ok p.sn
  refine acall (zWhole1 z p.sn) ?_
  clear z b1 b2 H e_
  rintro _ τ ⟨rfl, z⟩
  have b1 := z.at_ (j := 0) rfl
  have b2 := z.at_ hG1
  have H := Hp.nil τ
  (refine wX ?_)
  (repeat ((first | refine zB H b1 rfl ?_ | refine zB H b2 rfl ?_); (refine wX ?_)))
  refine acall (zWhole2 (by omega) z) ?_
  clear z b1 b2 H
  rintro _ τ ⟨rfl, z⟩
  generalize B.wholeL 1024 512 p.sn = m at *
  generalize B.whole 1024 512 p.sn = C at *
  (refine wX ?_)
  refine aloop (α := Nat × AHeap) (fun y => [(s13, i64v y.1)]) (fun y => y.2) (fun y => y.1 ≤ m.length ∧ ZB σ iw ib ix iy C (2 * i + 2) (i + 1) ([HE.o i10 (.cells (amV p).cells)] ++ G) y.2) (fun y => m.length - y.1)
    (0, τ) ⟨Nat.zero_le _, z⟩ (Sub.refl _) ?_ ?_
  · (refine wX ?_)
    exact elX
  clear z
  rintro ⟨j, τ⟩ ⟨hj, z⟩
  dsimp only at hj z ⊢
  have H := Hp.nil τ
  have b2 := z.at_ hG1
  (refine wX ?_)
  rw [List.length_map]
  by_cases hjm : j < m.length
  · (repeat ((first | refine zY (by omega) ?_ | refine zB H b2 rfl ?_); (refine wX ?_)))
    refine aget (by omega) (get_int hjm) ?_
    (refine wX ?_)
    (repeat ((refine zR rfl ?_); (refine wX ?_)))
    refine acall (zTake1 z (by omega) m[j]) ?_
    clear z b2 H
    rintro _ τ ⟨⟨q1, q2, q3⟩, rfl, z⟩
    have b2 := z.at_ hG1
    have H := Hp.nil τ
    (refine wX ?_)
    (repeat ((refine zB H b2 rfl ?_); (refine wX ?_)))
    refine aget (by omega) (get_int hjm) ?_
    (refine wX ?_)
    (repeat ((refine zR rfl ?_); (refine wX ?_)))
    refine acall (zTake2 z (by omega)) ?_
    clear z b2 H
    rintro _ τ ⟨rfl, z⟩
    have H := Hp.nil τ
    (refine wX ?_)
    (repeat ((refine zI (by omega) ?_); (refine wX ?_)))
    refine ⟨(j + 1, τ), ⟨by dsimp only; omega, z⟩, by dsimp only; omega, Sub.refl _, ?_⟩
    (refine wX ?_)
    exact elX
  · (repeat ((first | refine zI (by omega) ?_ | refine zN (by omega) ?_); (refine wX ?_)))
    refine ⟨(i + 1, C, τ), ⟨by dsimp only; omega, by dsimp only; omega, (Zw.pop (E := [_]) z).more (by dsimp only; omega) (by dsimp only; omega)⟩, by dsimp only; omega, Sub.refl _, ?_⟩
    (refine wX ?_)
    exact elX
end Go.Proofs.YtgbpjbpdpgbngaaGreat
/-
  Statement of the status of what came.
-/
namespace Go.Proofs.YtgbpjbpdpgbngaaGreat
set_option maxRecDepth 20000
open Go Go.Am

theorem stGo_len {w g : Int} {f : Int → List Ms} : ∀ {M : List Int} {s : Int × List Ms}, s.2.length ≤ 32 → (stGo w g f M s).2.length ≤ 32
  | [], s, h => h
  | k :: M, s, h => by
    unfold stGo
    split
    · exact h
    · rename_i hc
      exact stGo_len (s := (s.1, s.2 ++ f k)) (by show (s.2 ++ f k).length ≤ 32; omega)
theorem makeW_len (A : RxA) (S : List PV) (g w : Int) : (makeW A S g w).1.2.length ≤ 32 := by
  unfold makeW mkRes
  split
  · exact Nat.zero_le _
  · split
    · exact Nat.zero_le _
    · split
      · exact Nat.zero_le _
      · exact stGo_len (Nat.zero_le _)
set_option maxHeartbeats 16000000 in
theorem AmstatMakes (l : List PkA) (late g w sn : Int) (σ : AHeap) (hl : l.length ≤ 140737488355328) (hb : ∀ t ∈ l, (pkA t).fs.length ≤ 140737488355328 ∧ inR (pkA t).sn) :
    ACalls Tryz.prog i_bowlinelaw25_AmstatMakes [.slice 7 (l.map pkAV) .none, i64v late, i64v g, i64v w, i64v sn] σ fun v σ' => v = boolv true ∧ Hp σ [] σ' := by
  refine k_bowlinelaw25_AmstatMakes rfl ?_
  (refine wX ?_)
  refine acall (fFill l late σ hl hb) ?_
  rintro _ τ0 ⟨iw, ib, ix, iy, r, rfl, F, hz⟩
  refine ⟨?_, F.ext⟩
  have H := Hp.nil τ0
  (refine wX ?_)
  refine hnew H rfl ?_
  clear H
  intro i11 τ H
  (refine wX ?_)
  (repeat (((apply zS H; (· repeat first | exact .h | apply AtK.t); (· rfl); (conv => whnf); clear H; intro τ H)); (refine wX ?_)))
  cases r
  case false =>
    (refine wX ?_)
    refine acall (alive25 τ) ?_
    rintro _ σ_ ⟨rfl, e_⟩
    obtain rfl := e_.symm
    refine ⟨?_, Ext.refl _⟩
    (refine wX ?_)
    exact aret (VLe.refl _) (Sub.refl _) ⟨rfl, (F.join H).left (L := [])⟩
  obtain ⟨A, z⟩ := hz rfl
  clear hz
  obtain ⟨im, dv, L, E, h1, -, h3, h4, h5, h6, -, M⟩ := z
  obtain ⟨ibm, X, tk, ld, S, hN, hS, HM, ok, hSo, hok, hR, hX, hll⟩ := M
  have hS : pvs X = S := hS
  subst hS
  have c1 : τ0 iw = some (.cells (rxC 10 1024 512 A im)) := HM.ok (.o iw _) (by simp)
  have c2 : τ0 im = some (.map (keysV 1024 A.D)) := HM.ok (.o im _) (by simp)
  have cx : τ0 ix = some (.cells (rfC 10 512 A dv)) := HM.ok (.o ix _) (by simp)
  have cy : τ0 iy = some (.cells (dbC tk ld)) := HM.ok (.o iy _) (by simp)
  have hd : DvOk τ0 dv L := by
    cases h4 with
    | nil => exact .inl ⟨rfl, rfl⟩
    | row r xs hne => exact .inr ⟨r, rfl, HM.ok (.o r _) (by simp)⟩
  have hdd : ∀ d ∈ ld, d.B.length ≤ 65536 ∧ d.e ≤ 100000 := fun d hd => by
    have h1 := (hok d hd).bl
    have h2 := (hok d hd).e
    exact ⟨by omega, by omega⟩
  have hxe : ∀ x ∈ pvs X, x.e ≤ 4000 := fun x hx => by
    obtain ⟨d, hd, hrp⟩ := hR.sd x hx
    have h2 := (hok d hd).e
    have h3 := hrp.e
    omega
  have hmiss : ∀ k, missS (pvs X) k = missE ld k := fun k => hR.miss hSo hok k
  have hms := h1.rm
  have hmh := h1.mh
  have hhr := h1.hr
  have hml := missS_leA hSo sn
  have hmo := missOf_len (missS (pvs X) sn) sn
  have hkl := makeW_len A (pvs X) g w
  have hXl := hll
  (refine wX ?_)
  (repeat (((apply zL H; (· repeat first | exact .h | apply AtK.t); (· rfl))); (refine wX ?_)))
  refine acall (mMake rxp512 h1 (H.sub _ _ c1) (H.sub _ _ c2) (HM.more H.sub) ok hN hxe g w) ?_
  rintro _ σ_ ⟨rfl, e_⟩
  obtain rfl := e_.symm
  refine ⟨?_, Ext.refl _⟩
  (refine wX ?_)
  refine hnew H rfl ?_
  clear H
  intro i13 τ H
  (refine wX ?_)
  (repeat ((first | (apply zL H; (· repeat first | exact .h | apply AtK.t); (· rfl)) | (apply zS H; (· repeat first | exact .h | apply AtK.t); (· rfl); (conv => whnf); clear H; intro τ H)); (refine wX ?_)))
  refine acall (eMake rxp512 h1 (H.sub _ _ cx) (dv_sub hd H.sub) h3 (by omega) (H.sub _ _ cy) (by omega) hdd hmiss hSo hxe g w) ?_
  rintro _ τ2 ⟨rfl, N⟩
  refine ⟨?_, N.ext⟩
  replace H := H.join N
  clear N
  generalize makeW A (pvs X) g w = r at *
  obtain ⟨rs, rc⟩ := r
  dsimp only at hkl ⊢
  (refine wX ?_)
  refine hnew H rfl ?_
  clear H
  intro i15 τ H
  (refine wX ?_)
  (repeat ((first | (apply zL H; (· repeat first | exact .h | apply AtK.t); (· rfl)) | (apply zS H; (· repeat first | exact .h | apply AtK.t); (· rfl); (conv => whnf); clear H; intro τ H)); (refine wX ?_)))
  refine acall (mMisses (HM.more H.sub) ok sn) ?_
  rintro _ σ_ ⟨rfl, e_⟩
  obtain rfl := e_.symm
  refine ⟨?_, Ext.refl _⟩
  (refine wX ?_)
  refine acall (eMisses (H.sub _ _ cy) (by omega) hdd sn (by rw [← hmiss]; exact hml)) ?_
  rw [← hmiss]
  rintro _ τ3 ⟨rfl, N⟩
  refine ⟨?_, N.ext⟩
  replace H := H.join N
  clear N
  (refine wX ?_)
  refine hnew H rfl ?_
  clear H
  intro i19 τ H
  (refine wX ?_)
  skip
  refine hnew H rfl ?_
  clear H
  intro i20 τ H
  (refine wX ?_)
  (repeat (((apply zL H; (· repeat first | exact .h | apply AtK.t); (· rfl))); (refine wX ?_)))
  refine acall (mMakeNo (fun τ' s => mMadeNw (.ptr ib 0) (.inr ⟨ib, rfl⟩)) 9 10) ?_
  rintro _ σ_ ⟨rfl, e_⟩
  obtain rfl := e_.symm
  refine ⟨?_, Ext.refl _⟩
  (refine wX ?_)
  refine hnew H rfl ?_
  clear H
  intro i21 τ H
  (refine wX ?_)
  (repeat ((first | (apply zL H; (· repeat first | exact .h | apply AtK.t); (· rfl)) | (apply zS H; (· repeat first | exact .h | apply AtK.t); (· rfl); (conv => whnf); clear H; intro τ H)); (refine wX ?_)))
  refine acall (mMakeNo (fun τ' s => mMadeNb iw) 9 10) ?_
  rintro _ σ_ ⟨rfl, e_⟩
  obtain rfl := e_.symm
  refine ⟨?_, Ext.refl _⟩
  (refine wX ?_)
  refine hnew H rfl ?_
  clear H
  intro i23 τ H
  (refine wX ?_)
  (repeat ((first | (apply zL H; (· repeat first | exact .h | apply AtK.t); (· rfl)) | (apply zS H; (· repeat first | exact .h | apply AtK.t); (· rfl); (conv => whnf); clear H; intro τ H)); (refine wX ?_)))
  have zw : RxUn τ (.ptr i19 0) := .zero i19 (H.get (k := 3) rfl)
  refine acall (mMakeNo (fun τ' s => mMadeZw (zw.sub s)) 9 10) ?_
  rintro _ σ_ ⟨rfl, e_⟩
  obtain rfl := e_.symm
  refine ⟨?_, Ext.refl _⟩
  (refine wX ?_)
  refine hnew H rfl ?_
  clear H
  intro i25 τ H
  (refine wX ?_)
  (repeat ((first | (apply zL H; (· repeat first | exact .h | apply AtK.t); (· rfl)) | (apply zS H; (· repeat first | exact .h | apply AtK.t); (· rfl); (conv => whnf); clear H; intro τ H)); (refine wX ?_)))
  have zb : NoBu τ (.ptr i20 0) := .zero i20 (H.get (k := 3) rfl)
  refine acall (mMakeNo (fun τ' s => mMadeZb rxp512 (s _ _ (H.sub _ _ c1)) (zb.sub s)) 9 10) ?_
  rintro _ σ_ ⟨rfl, e_⟩
  obtain rfl := e_.symm
  refine ⟨?_, Ext.refl _⟩
  (refine wX ?_)
  refine hnew H rfl ?_
  clear H
  intro i27 τ H
  (refine wX ?_)
  (repeat (((apply zS H; (· repeat first | exact .h | apply AtK.t); (· rfl); (conv => whnf); clear H; intro τ H)); (refine wX ?_)))
  refine acall (alive25 τ) ?_
  rintro _ σ_ ⟨rfl, e_⟩
  obtain rfl := e_.symm
  refine ⟨?_, Ext.refl _⟩
  (refine wX ?_)
  rw [decide_eq_true (rfl : rc = rc)]
  (repeat (((apply zA H; (· repeat first | exact .h | apply AtK.t))); (refine wX ?_)))
  refine acall (tAs rs .none τ (by omega)) ?_
  rintro _ σ_ ⟨rfl, e_⟩
  obtain rfl := e_.symm
  refine ⟨?_, Ext.refl _⟩
  (refine wX ?_)
  refine acall (refSame rs rs .none .none τ (by omega)) ?_
  rintro _ σ_ ⟨rfl, e_⟩
  obtain rfl := e_.symm
  refine ⟨?_, Ext.refl _⟩
  (refine wX ?_)
  rw [decide_eq_true (rfl : rs = rs)]
  (refine wX ?_)
  refine acall (tAs (0, missOf (missS (pvs X) sn) sn) .none τ (by show (missOf (missS (pvs X) sn) sn).length * 32 ≤ _; omega)) ?_
  rintro _ σ_ ⟨rfl, e_⟩
  obtain rfl := e_.symm
  refine ⟨?_, Ext.refl _⟩
  (refine wX ?_)
  refine acall (refSame (0, missOf (missS (pvs X) sn) sn) (0, missOf (missS (pvs X) sn) sn) .none .none τ (by show (missOf (missS (pvs X) sn) sn).length ≤ _; omega)) ?_
  rintro _ σ_ ⟨rfl, e_⟩
  obtain rfl := e_.symm
  refine ⟨?_, Ext.refl _⟩
  (refine wX ?_)
  rw [decide_eq_true rfl]
  (refine wX ?_)
  skip
  exact aret (VLe.refl _) (Sub.refl _) ⟨rfl, (F.join H).left (L := [])⟩
end Go.Proofs.YtgbpjbpdpgbngaaGreat
