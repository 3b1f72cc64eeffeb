/-
  Texts of this claim, pack 7: Cresw, Cresq, Crxm, Crxn, Claw24d.
-/
import Derived.Test.YtgobbmdbkmjlnaaK4
import Derived.Test.YtgobbmdbkmjlnaaK5
import Derived.Test.YtgobbmdbkmjlnaaK6
/-
  Packets that are cut anew: the walk of the cut.
-/
namespace Go.Proofs.Ytgobbmdbkmjlnaa
set_option linter.unusedVariables false
set_option linter.unusedSimpArgs false
open Go Go.Am

theorem bits2 {fi : Int} (h : 0 ≤ fi ∧ fi ≤ 3) : (bitsOp .and .i64 fi 2 = if wth fi = true then 2 else 0) ∧ (bitsOp .and .i64 fi 1 = if ctg fi = true then 1 else 0) := by
  rcases (show fi = 0 ∨ fi = 1 ∨ fi = 2 ∨ fi = 3 by omega) with rfl | rfl | rfl | rfl <;> decide
theorem cutVal {p : Pk} {a t g w fi v n : Int} {x : Nat} {F : List TB} (ha : 0 ≤ a) (e : cutRes p a t g w = (cutPk p a.toNat x, ((x : Nat) : Int), 0)) (hF : F.map (·.2) = pcs p.fs a.toNat x)
    (hfi : fi = if edge p.fs a.toNat = false ∨ (a = 0 ∧ wth p.fi = true) then 2 else 0) (hv : (if edge p.fs x = false ∨ (x = total p.fs ∧ ctg p.fi = true) then (1 : Int) else 0) = v) (hn : n = total p.fs) :
    AVal.tup [.agg [boolv false, i64v (fi + v), i64v p.sn, boolv true, .v (.bool (decide (((x : Nat) : Int) = n))), i64v a, lists .none (F.map (·.2))], i64v ((x : Nat) : Int), i64v 0] = .tup [amV (cutRes p a t g w).1, i64v (cutRes p a t g w).2.1, i64v (cutRes p a t g w).2.2] := by
  rw [e]
  dsimp only [amV, cutPk]
  have h1 : fi + v = cutFi p a.toNat x := by
    unfold cutFi
    rw [hv, hfi]
    congr 1
    by_cases h : edge p.fs a.toNat = false ∨ (a = 0 ∧ wth p.fi = true)
    · rw [if_pos h, if_pos (by rcases h with h | h; exact .inl h; exact .inr ⟨by omega, h.2⟩)]
    · rw [if_neg h, if_neg (fun k => h (by rcases k with k | k; exact .inl k; exact .inr ⟨by omega, k.2⟩))]
  rw [h1, hF, show ((a.toNat : Nat) : Int) = a by omega, show decide (((x : Nat) : Int) = n) = decide (x = total p.fs) from dec_congr (by omega)]
theorem cutVal0 {p : Pk} {a t g w fi n : Int} {x : Nat} {F : List TB} (ha : 0 ≤ a) (e : cutRes p a t g w = (cutPk p a.toNat x, ((x : Nat) : Int), 0)) (hF : F.map (·.2) = pcs p.fs a.toNat x)
    (hfi : fi = if edge p.fs a.toNat = false ∨ (a = 0 ∧ wth p.fi = true) then 2 else 0) (hv : (if edge p.fs x = false ∨ (x = total p.fs ∧ ctg p.fi = true) then (1 : Int) else 0) = 0) (hn : n = total p.fs) :
    AVal.tup [.agg [boolv false, i64v fi, i64v p.sn, boolv true, .v (.bool (decide (((x : Nat) : Int) = n))), i64v a, lists .none (F.map (·.2))], i64v ((x : Nat) : Int), i64v 0] = .tup [amV (cutRes p a t g w).1, i64v (cutRes p a t g w).2.1, i64v (cutRes p a t g w).2.2] := by
  have := cutVal ha e hF hfi hv hn
  rw [Int.add_zero] at this
  exact this
set_option maxRecDepth 20000 in
set_option maxHeartbeats 4000000 in
theorem gCut (p : Pk) (a t g w : Int) (σ : AHeap) (hl : p.fs.length ≤ 9223372036854775807) : ACalls Try.prog i_reseg_Cut [amV p, i64v a, i64v t, i64v g, i64v w] σ fun v σ' => v = .tup [amV (cutRes p a t g w).1, i64v (cutRes p a t g w).2.1, i64v (cutRes p a t g w).2.2] ∧ σ' = σ := by
  refine k_reseg_Cut rfl ?_
  have H := Hp.nil σ
  (refine wX ?_)
  refine hnew H rfl ?_
  clear H
  intro i5 τ H
  (refine wX ?_)
  refine hnew H rfl ?_
  clear H
  intro i10 τ H
  (refine wX ?_)
  refine ascope' (α := Nat × Nat × Nat × Nat × Int × List TB × Tok × AHeap) (fun x => [(s13, sl .none p.fs.flatten), (s14, ints .none (endsL p.fs)), (s15, .ptr x.2.2.2.1 0), (s16, i64v (min g 4000 - amHead true w)), (s17, i64v x.2.2.1), (s18, i64v x.2.1), (s19, bif Nat.beq x.1 0 then i64v (total (p.fs.take x.2.1)) else .top)]) (fun x => x.2.2.2.2.2.2.2) (fun x => x.1)
    (fun x => ¬ noForm p w ∧ ¬ badArg p a t g ∧ ¬ goes p a t g w ∧ x.2.1 < p.fs.length ∧ total (p.fs.take x.2.1) ≤ x.2.2.1 ∧
      Hp σ [.o x.2.2.2.1 (.cells [boolv false, i64v x.2.2.2.2.1, i64v p.sn, boolv true, boolv false, i64v a, .slice 1 (x.2.2.2.2.2.1.map slB) x.2.2.2.2.2.2.1]), .t x.2.2.2.2.2.2.1, .o i10 (.cells [boolv false, i64v 0, i64v 0, boolv false, boolv false, i64v 0, .slice 1 [] .full]), .o i5 (.cells (amV p).cells)] x.2.2.2.2.2.2.2 ∧
      ((x.1 = 0 ∧ (x.2.2.1 : Int) = a ∧ x.2.2.2.2.1 = 0 ∧ x.2.2.2.2.2.1 = []) ∨
       (x.1 = 1 ∧ a.toNat ≤ x.2.2.1 ∧ (x.2.2.1 : Int) < t ∧ x.2.2.1 < total (p.fs.take (x.2.1 + 1)) ∧ (x.2.2.1 = a.toNat ∨ (1 ≤ x.2.1 ∧ x.2.2.1 = total (p.fs.take x.2.1))) ∧ (x.2.2.1 = a.toNat ↔ x.2.2.2.2.2.1 = []) ∧
        x.2.2.2.2.1 = (if edge p.fs a.toNat = false ∨ (a = 0 ∧ wth p.fi = true) then 2 else 0) ∧ x.2.2.2.2.2.1.map (·.2) = pcs p.fs a.toNat x.2.2.1 ∧ ∀ y, a.toNat ≤ y → y < x.2.2.1 → okB p.fs (min g 4000 - amHead true w) (lenW w) a.toNat y)))
    (fun x => 2 * (p.fs.length - x.2.1) + (1 - x.1)) ?_ ?_
  · (refine wX ?_)
    intro hlab
    (refine wX ?_)
    (repeat ((first | refine zI (by omega) ?_ | refine zE (by omega) (by omega) ?_ | refine zD (by omega) (by omega) ?_ | refine zY (by omega) ?_ | refine zN (by omega) ?_ | refine amin ?_ | refine amax ?_ | refine zU (by omega) ?_ | refine z8 (by omega) ?_ | refine zX (by omega) (by omega) ?_ | refine zR rfl ?_ | refine acellA ?_ | refine zB H b1 rfl ?_ | refine zC H b1 ?_ | refine zB H b2 rfl ?_ | refine zC H b2 ?_ | (apply zL H; (· repeat first | exact .h | apply AtK.t); (· rfl)) | (apply zA H; (· repeat first | exact .h | apply AtK.t)) | (apply zS H; (· repeat first | exact .h | apply AtK.t); (· rfl); (conv => whnf); clear H; intro τ H) | rw [List.length_map]); (refine wX ?_)))
    by_cases hpart : p.part = true
    · refine abr_true hpart ?_
      (refine wX ?_)
      (repeat ((first | refine zI (by omega) ?_ | refine zE (by omega) (by omega) ?_ | refine zD (by omega) (by omega) ?_ | refine zY (by omega) ?_ | refine zN (by omega) ?_ | refine amin ?_ | refine amax ?_ | refine zU (by omega) ?_ | refine z8 (by omega) ?_ | refine zX (by omega) (by omega) ?_ | refine zR rfl ?_ | refine acellA ?_ | refine zB H b1 rfl ?_ | refine zC H b1 ?_ | refine zB H b2 rfl ?_ | refine zC H b2 ?_ | (apply zL H; (· repeat first | exact .h | apply AtK.t); (· rfl)) | (apply zA H; (· repeat first | exact .h | apply AtK.t)) | (apply zS H; (· repeat first | exact .h | apply AtK.t); (· rfl); (conv => whnf); clear H; intro τ H) | rw [List.length_map]); (refine wX ?_)))
      have e : cutRes p a t g w = (pk0, 0, 3) := if_pos (.inl hpart)
      exact aret_pkt0 H.sub ⟨by rw [e]; rfl, rfl⟩
    refine abr_false (by simpa using hpart) ?_
    (refine wX ?_)
    (repeat ((first | refine zI (by omega) ?_ | refine zE (by omega) (by omega) ?_ | refine zD (by omega) (by omega) ?_ | refine zY (by omega) ?_ | refine zN (by omega) ?_ | refine amin ?_ | refine amax ?_ | refine zU (by omega) ?_ | refine z8 (by omega) ?_ | refine zX (by omega) (by omega) ?_ | refine zR rfl ?_ | refine acellA ?_ | refine zB H b1 rfl ?_ | refine zC H b1 ?_ | refine zB H b2 rfl ?_ | refine zC H b2 ?_ | (apply zL H; (· repeat first | exact .h | apply AtK.t); (· rfl)) | (apply zA H; (· repeat first | exact .h | apply AtK.t)) | (apply zS H; (· repeat first | exact .h | apply AtK.t); (· rfl); (conv => whnf); clear H; intro τ H) | rw [List.length_map]); (refine wX ?_)))
    refine acall (aRight p w τ hl) ?_
    rintro _ σ_ ⟨rfl, e_⟩
    obtain rfl := e_.symm
    refine ⟨?_, Ext.refl _⟩
    (refine wX ?_)
    by_cases hr : amSize p w > 0
    case neg =>
      refine abr_true (by rw [decide_eq_false hr]; rfl) ?_
      (refine wX ?_)
      (repeat ((first | refine zI (by omega) ?_ | refine zE (by omega) (by omega) ?_ | refine zD (by omega) (by omega) ?_ | refine zY (by omega) ?_ | refine zN (by omega) ?_ | refine amin ?_ | refine amax ?_ | refine zU (by omega) ?_ | refine z8 (by omega) ?_ | refine zX (by omega) (by omega) ?_ | refine zR rfl ?_ | refine acellA ?_ | refine zB H b1 rfl ?_ | refine zC H b1 ?_ | refine zB H b2 rfl ?_ | refine zC H b2 ?_ | (apply zL H; (· repeat first | exact .h | apply AtK.t); (· rfl)) | (apply zA H; (· repeat first | exact .h | apply AtK.t)) | (apply zS H; (· repeat first | exact .h | apply AtK.t); (· rfl); (conv => whnf); clear H; intro τ H) | rw [List.length_map]); (refine wX ?_)))
      have e : cutRes p a t g w = (pk0, 0, 3) := if_pos (.inr hr)
      exact aret_pkt0 H.sub ⟨by rw [e]; rfl, rfl⟩
    refine abr_false (by rw [decide_eq_true hr]; rfl) ?_
    have hnf : ¬ noForm p w := fun h => h.elim hpart (fun h => h hr)
    obtain ⟨hw, hf1, hf2, hsn, hfo, ho1, ho2, hpl⟩ := amSize_ok hr
    have g1 := hfo.one
    have g2 := hfo.most
    have g3 := hfo.fits
    have hhr := amHead_range p.part w
    have hsz0 := sizeV_range ((p.fs.length : Int) - 1) (lenW w)
    (refine wX ?_)
    (repeat ((first | refine zI (by omega) ?_ | refine zE (by omega) (by omega) ?_ | refine zD (by omega) (by omega) ?_ | refine zY (by omega) ?_ | refine zN (by omega) ?_ | refine amin ?_ | refine amax ?_ | refine zU (by omega) ?_ | refine z8 (by omega) ?_ | refine zX (by omega) (by omega) ?_ | refine zR rfl ?_ | refine acellA ?_ | refine zB H b1 rfl ?_ | refine zC H b1 ?_ | refine zB H b2 rfl ?_ | refine zC H b2 ?_ | (apply zL H; (· repeat first | exact .h | apply AtK.t); (· rfl)) | (apply zA H; (· repeat first | exact .h | apply AtK.t)) | (apply zS H; (· repeat first | exact .h | apply AtK.t); (· rfl); (conv => whnf); clear H; intro τ H) | rw [List.length_map]); (refine wX ?_)))
    refine acall (aData p τ (by omega) (by omega)) ?_
    rintro _ σ_ ⟨rfl, e_⟩
    obtain rfl := e_.symm
    refine ⟨?_, Ext.refl _⟩
    (refine wX ?_)
    refine acall (gEnds p τ (by omega) (by omega)) ?_
    rintro _ σ_ ⟨rfl, e_⟩
    obtain rfl := e_.symm
    refine ⟨?_, Ext.refl _⟩
    (refine wX ?_)
    have hfl : p.fs.flatten.length = total p.fs := rfl
    have bad : ∀ (h : badArg p a t g), cutRes p a t g w = (pk0, 0, 1) := fun h => by unfold cutRes; rw [if_neg hnf, if_pos h]
    by_cases c1 : g < 0
    · (repeat ((first | refine zI (by omega) ?_ | refine zE (by omega) (by omega) ?_ | refine zD (by omega) (by omega) ?_ | refine zY (by omega) ?_ | refine zN (by omega) ?_ | refine amin ?_ | refine amax ?_ | refine zU (by omega) ?_ | refine z8 (by omega) ?_ | refine zX (by omega) (by omega) ?_ | refine zR rfl ?_ | refine acellA ?_ | refine zB H b1 rfl ?_ | refine zC H b1 ?_ | refine zB H b2 rfl ?_ | refine zC H b2 ?_ | (apply zL H; (· repeat first | exact .h | apply AtK.t); (· rfl)) | (apply zA H; (· repeat first | exact .h | apply AtK.t)) | (apply zS H; (· repeat first | exact .h | apply AtK.t); (· rfl); (conv => whnf); clear H; intro τ H) | rw [List.length_map]); (refine wX ?_)))
      exact aret_pkt0 H.sub ⟨by rw [bad (.inl c1)]; rfl, rfl⟩
    by_cases c2 : g > 4096
    · (repeat ((first | refine zI (by omega) ?_ | refine zE (by omega) (by omega) ?_ | refine zD (by omega) (by omega) ?_ | refine zY (by omega) ?_ | refine zN (by omega) ?_ | refine amin ?_ | refine amax ?_ | refine zU (by omega) ?_ | refine z8 (by omega) ?_ | refine zX (by omega) (by omega) ?_ | refine zR rfl ?_ | refine acellA ?_ | refine zB H b1 rfl ?_ | refine zC H b1 ?_ | refine zB H b2 rfl ?_ | refine zC H b2 ?_ | (apply zL H; (· repeat first | exact .h | apply AtK.t); (· rfl)) | (apply zA H; (· repeat first | exact .h | apply AtK.t)) | (apply zS H; (· repeat first | exact .h | apply AtK.t); (· rfl); (conv => whnf); clear H; intro τ H) | rw [List.length_map]); (refine wX ?_)))
      exact aret_pkt0 H.sub ⟨by rw [bad (.inr (.inl c2))]; rfl, rfl⟩
    by_cases c3 : a < 0
    · (repeat ((first | refine zI (by omega) ?_ | refine zE (by omega) (by omega) ?_ | refine zD (by omega) (by omega) ?_ | refine zY (by omega) ?_ | refine zN (by omega) ?_ | refine amin ?_ | refine amax ?_ | refine zU (by omega) ?_ | refine z8 (by omega) ?_ | refine zX (by omega) (by omega) ?_ | refine zR rfl ?_ | refine acellA ?_ | refine zB H b1 rfl ?_ | refine zC H b1 ?_ | refine zB H b2 rfl ?_ | refine zC H b2 ?_ | (apply zL H; (· repeat first | exact .h | apply AtK.t); (· rfl)) | (apply zA H; (· repeat first | exact .h | apply AtK.t)) | (apply zS H; (· repeat first | exact .h | apply AtK.t); (· rfl); (conv => whnf); clear H; intro τ H) | rw [List.length_map]); (refine wX ?_)))
      exact aret_pkt0 H.sub ⟨by rw [bad (.inr (.inr (.inl c3)))]; rfl, rfl⟩
    by_cases c4 : a ≥ t
    · (repeat ((first | refine zI (by omega) ?_ | refine zE (by omega) (by omega) ?_ | refine zD (by omega) (by omega) ?_ | refine zY (by omega) ?_ | refine zN (by omega) ?_ | refine amin ?_ | refine amax ?_ | refine zU (by omega) ?_ | refine z8 (by omega) ?_ | refine zX (by omega) (by omega) ?_ | refine zR rfl ?_ | refine acellA ?_ | refine zB H b1 rfl ?_ | refine zC H b1 ?_ | refine zB H b2 rfl ?_ | refine zC H b2 ?_ | (apply zL H; (· repeat first | exact .h | apply AtK.t); (· rfl)) | (apply zA H; (· repeat first | exact .h | apply AtK.t)) | (apply zS H; (· repeat first | exact .h | apply AtK.t); (· rfl); (conv => whnf); clear H; intro τ H) | rw [List.length_map]); (refine wX ?_)))
      exact aret_pkt0 H.sub ⟨by rw [bad (.inr (.inr (.inr (.inl c4))))]; rfl, rfl⟩
    (repeat ((first | refine zI (by omega) ?_ | refine zE (by omega) (by omega) ?_ | refine zD (by omega) (by omega) ?_ | refine zY (by omega) ?_ | refine zN (by omega) ?_ | refine amin ?_ | refine amax ?_ | refine zU (by omega) ?_ | refine z8 (by omega) ?_ | refine zX (by omega) (by omega) ?_ | refine zR rfl ?_ | refine acellA ?_ | refine zB H b1 rfl ?_ | refine zC H b1 ?_ | refine zB H b2 rfl ?_ | refine zC H b2 ?_ | (apply zL H; (· repeat first | exact .h | apply AtK.t); (· rfl)) | (apply zA H; (· repeat first | exact .h | apply AtK.t)) | (apply zS H; (· repeat first | exact .h | apply AtK.t); (· rfl); (conv => whnf); clear H; intro τ H) | rw [List.length_map]); (refine wX ?_)))
    by_cases c5 : t > total p.fs
    · (repeat ((first | refine zI (by omega) ?_ | refine zE (by omega) (by omega) ?_ | refine zD (by omega) (by omega) ?_ | refine zY (by omega) ?_ | refine zN (by omega) ?_ | refine amin ?_ | refine amax ?_ | refine zU (by omega) ?_ | refine z8 (by omega) ?_ | refine zX (by omega) (by omega) ?_ | refine zR rfl ?_ | refine acellA ?_ | refine zB H b1 rfl ?_ | refine zC H b1 ?_ | refine zB H b2 rfl ?_ | refine zC H b2 ?_ | (apply zL H; (· repeat first | exact .h | apply AtK.t); (· rfl)) | (apply zA H; (· repeat first | exact .h | apply AtK.t)) | (apply zS H; (· repeat first | exact .h | apply AtK.t); (· rfl); (conv => whnf); clear H; intro τ H) | rw [List.length_map]); (refine wX ?_)))
      exact aret_pkt0 H.sub ⟨by rw [bad (.inr (.inr (.inr (.inr c5))))]; rfl, rfl⟩
    have hnb : ¬ badArg p a t g := by rintro (h | h | h | h | h) <;> omega
    clear bad
    have htn : min g 4000 = (if g < 4000 then g else 4000) ∨ True := .inr trivial
    by_cases hg : goes p a t g w
    · have e : cutRes p a t g w = ({ p with poll := false }, t, 0) := by unfold cutRes; rw [if_neg hnf, if_neg hnb, if_pos hg]
      obtain ⟨e1, e2, e3⟩ := hg
      (repeat ((first | refine zI (by omega) ?_ | refine zE (by omega) (by omega) ?_ | refine zD (by omega) (by omega) ?_ | refine zY (by omega) ?_ | refine zN (by omega) ?_ | refine amin ?_ | refine amax ?_ | refine zU (by omega) ?_ | refine z8 (by omega) ?_ | refine zX (by omega) (by omega) ?_ | refine zR rfl ?_ | refine acellA ?_ | refine zB H b1 rfl ?_ | refine zC H b1 ?_ | refine zB H b2 rfl ?_ | refine zC H b2 ?_ | (apply zL H; (· repeat first | exact .h | apply AtK.t); (· rfl)) | (apply zA H; (· repeat first | exact .h | apply AtK.t)) | (apply zS H; (· repeat first | exact .h | apply AtK.t); (· rfl); (conv => whnf); clear H; intro τ H) | rw [List.length_map]); (refine wX ?_)))
      refine acall (aSize p w τ hl) ?_
      rintro _ σ_ ⟨rfl, e_⟩
      obtain rfl := e_.symm
      refine ⟨?_, Ext.refl _⟩
      (refine wX ?_)
      (repeat ((first | refine zI (by omega) ?_ | refine zE (by omega) (by omega) ?_ | refine zD (by omega) (by omega) ?_ | refine zY (by omega) ?_ | refine zN (by omega) ?_ | refine amin ?_ | refine amax ?_ | refine zU (by omega) ?_ | refine z8 (by omega) ?_ | refine zX (by omega) (by omega) ?_ | refine zR rfl ?_ | refine acellA ?_ | refine zB H b1 rfl ?_ | refine zC H b1 ?_ | refine zB H b2 rfl ?_ | refine zC H b2 ?_ | (apply zL H; (· repeat first | exact .h | apply AtK.t); (· rfl)) | (apply zA H; (· repeat first | exact .h | apply AtK.t)) | (apply zS H; (· repeat first | exact .h | apply AtK.t); (· rfl); (conv => whnf); clear H; intro τ H) | rw [List.length_map]); (refine wX ?_)))
      rw [e]
      exact aret (VLe.refl _) H.sub ⟨rfl, rfl⟩
    have hng := hg
    have cont : ∀ {K : Prop}, K → K := fun h => h
    have ha2 := amHead_range true w
    by_cases d1 : a = 0
    · by_cases d2 : t = total p.fs
      · have d3 : ¬ amSize p w ≤ g := fun h => hg ⟨d1, d2, h⟩
        (repeat ((first | refine zI (by omega) ?_ | refine zE (by omega) (by omega) ?_ | refine zD (by omega) (by omega) ?_ | refine zY (by omega) ?_ | refine zN (by omega) ?_ | refine amin ?_ | refine amax ?_ | refine zU (by omega) ?_ | refine z8 (by omega) ?_ | refine zX (by omega) (by omega) ?_ | refine zR rfl ?_ | refine acellA ?_ | refine zB H b1 rfl ?_ | refine zC H b1 ?_ | refine zB H b2 rfl ?_ | refine zC H b2 ?_ | (apply zL H; (· repeat first | exact .h | apply AtK.t); (· rfl)) | (apply zA H; (· repeat first | exact .h | apply AtK.t)) | (apply zS H; (· repeat first | exact .h | apply AtK.t); (· rfl); (conv => whnf); clear H; intro τ H) | rw [List.length_map]); (refine wX ?_)))
        refine acall (aSize p w τ hl) ?_
        rintro _ σ_ ⟨rfl, e_⟩
        obtain rfl := e_.symm
        refine ⟨?_, Ext.refl _⟩
        (refine wX ?_)
        (repeat ((first | refine zI (by omega) ?_ | refine zE (by omega) (by omega) ?_ | refine zD (by omega) (by omega) ?_ | refine zY (by omega) ?_ | refine zN (by omega) ?_ | refine amin ?_ | refine amax ?_ | refine zU (by omega) ?_ | refine z8 (by omega) ?_ | refine zX (by omega) (by omega) ?_ | refine zR rfl ?_ | refine acellA ?_ | refine zB H b1 rfl ?_ | refine zC H b1 ?_ | refine zB H b2 rfl ?_ | refine zC H b2 ?_ | (apply zL H; (· repeat first | exact .h | apply AtK.t); (· rfl)) | (apply zA H; (· repeat first | exact .h | apply AtK.t)) | (apply zS H; (· repeat first | exact .h | apply AtK.t); (· rfl); (conv => whnf); clear H; intro τ H) | rw [List.length_map]); (refine wX ?_)))
        refine hnew H rfl ?_
        clear H
        intro i15 τ H
        (refine wX ?_)
        (repeat ((first | refine zI (by omega) ?_ | refine zE (by omega) (by omega) ?_ | refine zD (by omega) (by omega) ?_ | refine zY (by omega) ?_ | refine zN (by omega) ?_ | refine amin ?_ | refine amax ?_ | refine zU (by omega) ?_ | refine z8 (by omega) ?_ | refine zX (by omega) (by omega) ?_ | refine zR rfl ?_ | refine acellA ?_ | refine zB H b1 rfl ?_ | refine zC H b1 ?_ | refine zB H b2 rfl ?_ | refine zC H b2 ?_ | (apply zL H; (· repeat first | exact .h | apply AtK.t); (· rfl)) | (apply zA H; (· repeat first | exact .h | apply AtK.t)) | (apply zS H; (· repeat first | exact .h | apply AtK.t); (· rfl); (conv => whnf); clear H; intro τ H) | rw [List.length_map]); (refine wX ?_)))
        refine acall (aHead true w τ) ?_
        rintro _ σ_ ⟨rfl, e_⟩
        obtain rfl := e_.symm
        refine ⟨?_, Ext.refl _⟩
        (refine wX ?_)
        (repeat ((first | refine zI (by omega) ?_ | refine zE (by omega) (by omega) ?_ | refine zD (by omega) (by omega) ?_ | refine zY (by omega) ?_ | refine zN (by omega) ?_ | refine amin ?_ | refine amax ?_ | refine zU (by omega) ?_ | refine z8 (by omega) ?_ | refine zX (by omega) (by omega) ?_ | refine zR rfl ?_ | refine acellA ?_ | refine zB H b1 rfl ?_ | refine zC H b1 ?_ | refine zB H b2 rfl ?_ | refine zC H b2 ?_ | (apply zL H; (· repeat first | exact .h | apply AtK.t); (· rfl)) | (apply zA H; (· repeat first | exact .h | apply AtK.t)) | (apply zS H; (· repeat first | exact .h | apply AtK.t); (· rfl); (conv => whnf); clear H; intro τ H) | rw [List.length_map]); (refine wX ?_)))
        have hH := H
        refine hlab _ (fun _ _ _ h => h) _ _ _ _ ⟨(0, 0, a.toNat, i15, 0, [], .full, τ), rfl, ⟨hnf, hnb, hng, by dsimp only; omega, Nat.zero_le _, ?_, .inl ⟨rfl, by dsimp only; omega, rfl, rfl⟩⟩, rfl, Sub.refl _, ?_⟩
        · exact (H.cons_full).front (k := 1) rfl
        · rw [show (total (p.fs.take 0) : Int) = 0 from rfl, show ((a.toNat : Nat) : Int) = a by omega]
          (refine wX ?_)
          (repeat' first | with_reducible exact EnvLe.refl _ | (refine EnvLe.node ?_ (by first | exact Or.inl rfl | exact Or.inr (Or.inl rfl) | exact Or.inr (Or.inr ⟨nofun, VLe.slice _ _ _⟩)) ?_))

      · (repeat ((first | refine zI (by omega) ?_ | refine zE (by omega) (by omega) ?_ | refine zD (by omega) (by omega) ?_ | refine zY (by omega) ?_ | refine zN (by omega) ?_ | refine amin ?_ | refine amax ?_ | refine zU (by omega) ?_ | refine z8 (by omega) ?_ | refine zX (by omega) (by omega) ?_ | refine zR rfl ?_ | refine acellA ?_ | refine zB H b1 rfl ?_ | refine zC H b1 ?_ | refine zB H b2 rfl ?_ | refine zC H b2 ?_ | (apply zL H; (· repeat first | exact .h | apply AtK.t); (· rfl)) | (apply zA H; (· repeat first | exact .h | apply AtK.t)) | (apply zS H; (· repeat first | exact .h | apply AtK.t); (· rfl); (conv => whnf); clear H; intro τ H) | rw [List.length_map]); (refine wX ?_)))
        refine hnew H rfl ?_
        clear H
        intro i15 τ H
        (refine wX ?_)
        (repeat ((first | refine zI (by omega) ?_ | refine zE (by omega) (by omega) ?_ | refine zD (by omega) (by omega) ?_ | refine zY (by omega) ?_ | refine zN (by omega) ?_ | refine amin ?_ | refine amax ?_ | refine zU (by omega) ?_ | refine z8 (by omega) ?_ | refine zX (by omega) (by omega) ?_ | refine zR rfl ?_ | refine acellA ?_ | refine zB H b1 rfl ?_ | refine zC H b1 ?_ | refine zB H b2 rfl ?_ | refine zC H b2 ?_ | (apply zL H; (· repeat first | exact .h | apply AtK.t); (· rfl)) | (apply zA H; (· repeat first | exact .h | apply AtK.t)) | (apply zS H; (· repeat first | exact .h | apply AtK.t); (· rfl); (conv => whnf); clear H; intro τ H) | rw [List.length_map]); (refine wX ?_)))
        refine acall (aHead true w τ) ?_
        rintro _ σ_ ⟨rfl, e_⟩
        obtain rfl := e_.symm
        refine ⟨?_, Ext.refl _⟩
        (refine wX ?_)
        (repeat ((first | refine zI (by omega) ?_ | refine zE (by omega) (by omega) ?_ | refine zD (by omega) (by omega) ?_ | refine zY (by omega) ?_ | refine zN (by omega) ?_ | refine amin ?_ | refine amax ?_ | refine zU (by omega) ?_ | refine z8 (by omega) ?_ | refine zX (by omega) (by omega) ?_ | refine zR rfl ?_ | refine acellA ?_ | refine zB H b1 rfl ?_ | refine zC H b1 ?_ | refine zB H b2 rfl ?_ | refine zC H b2 ?_ | (apply zL H; (· repeat first | exact .h | apply AtK.t); (· rfl)) | (apply zA H; (· repeat first | exact .h | apply AtK.t)) | (apply zS H; (· repeat first | exact .h | apply AtK.t); (· rfl); (conv => whnf); clear H; intro τ H) | rw [List.length_map]); (refine wX ?_)))
        have hH := H
        refine hlab _ (fun _ _ _ h => h) _ _ _ _ ⟨(0, 0, a.toNat, i15, 0, [], .full, τ), rfl, ⟨hnf, hnb, hng, by dsimp only; omega, Nat.zero_le _, ?_, .inl ⟨rfl, by dsimp only; omega, rfl, rfl⟩⟩, rfl, Sub.refl _, ?_⟩
        · exact (H.cons_full).front (k := 1) rfl
        · rw [show (total (p.fs.take 0) : Int) = 0 from rfl, show ((a.toNat : Nat) : Int) = a by omega]
          (refine wX ?_)
          (repeat' first | with_reducible exact EnvLe.refl _ | (refine EnvLe.node ?_ (by first | exact Or.inl rfl | exact Or.inr (Or.inl rfl) | exact Or.inr (Or.inr ⟨nofun, VLe.slice _ _ _⟩)) ?_))

    · (repeat ((first | refine zI (by omega) ?_ | refine zE (by omega) (by omega) ?_ | refine zD (by omega) (by omega) ?_ | refine zY (by omega) ?_ | refine zN (by omega) ?_ | refine amin ?_ | refine amax ?_ | refine zU (by omega) ?_ | refine z8 (by omega) ?_ | refine zX (by omega) (by omega) ?_ | refine zR rfl ?_ | refine acellA ?_ | refine zB H b1 rfl ?_ | refine zC H b1 ?_ | refine zB H b2 rfl ?_ | refine zC H b2 ?_ | (apply zL H; (· repeat first | exact .h | apply AtK.t); (· rfl)) | (apply zA H; (· repeat first | exact .h | apply AtK.t)) | (apply zS H; (· repeat first | exact .h | apply AtK.t); (· rfl); (conv => whnf); clear H; intro τ H) | rw [List.length_map]); (refine wX ?_)))
      refine hnew H rfl ?_
      clear H
      intro i15 τ H
      (refine wX ?_)
      (repeat ((first | refine zI (by omega) ?_ | refine zE (by omega) (by omega) ?_ | refine zD (by omega) (by omega) ?_ | refine zY (by omega) ?_ | refine zN (by omega) ?_ | refine amin ?_ | refine amax ?_ | refine zU (by omega) ?_ | refine z8 (by omega) ?_ | refine zX (by omega) (by omega) ?_ | refine zR rfl ?_ | refine acellA ?_ | refine zB H b1 rfl ?_ | refine zC H b1 ?_ | refine zB H b2 rfl ?_ | refine zC H b2 ?_ | (apply zL H; (· repeat first | exact .h | apply AtK.t); (· rfl)) | (apply zA H; (· repeat first | exact .h | apply AtK.t)) | (apply zS H; (· repeat first | exact .h | apply AtK.t); (· rfl); (conv => whnf); clear H; intro τ H) | rw [List.length_map]); (refine wX ?_)))
      refine acall (aHead true w τ) ?_
      rintro _ σ_ ⟨rfl, e_⟩
      obtain rfl := e_.symm
      refine ⟨?_, Ext.refl _⟩
      (refine wX ?_)
      (repeat ((first | refine zI (by omega) ?_ | refine zE (by omega) (by omega) ?_ | refine zD (by omega) (by omega) ?_ | refine zY (by omega) ?_ | refine zN (by omega) ?_ | refine amin ?_ | refine amax ?_ | refine zU (by omega) ?_ | refine z8 (by omega) ?_ | refine zX (by omega) (by omega) ?_ | refine zR rfl ?_ | refine acellA ?_ | refine zB H b1 rfl ?_ | refine zC H b1 ?_ | refine zB H b2 rfl ?_ | refine zC H b2 ?_ | (apply zL H; (· repeat first | exact .h | apply AtK.t); (· rfl)) | (apply zA H; (· repeat first | exact .h | apply AtK.t)) | (apply zS H; (· repeat first | exact .h | apply AtK.t); (· rfl); (conv => whnf); clear H; intro τ H) | rw [List.length_map]); (refine wX ?_)))
      have hH := H
      refine hlab _ (fun _ _ _ h => h) _ _ _ _ ⟨(0, 0, a.toNat, i15, 0, [], .full, τ), rfl, ⟨hnf, hnb, hng, by dsimp only; omega, Nat.zero_le _, ?_, .inl ⟨rfl, by dsimp only; omega, rfl, rfl⟩⟩, rfl, Sub.refl _, ?_⟩
      · exact (H.cons_full).front (k := 1) rfl
      · rw [show (total (p.fs.take 0) : Int) = 0 from rfl, show ((a.toNat : Nat) : Int) = a by omega]
        (refine wX ?_)
        (repeat' first | with_reducible exact EnvLe.refl _ | (refine EnvLe.node ?_ (by first | exact Or.inl rfl | exact Or.inr (Or.inl rfl) | exact Or.inr (Or.inr ⟨nofun, VLe.slice _ _ _⟩)) ?_))
  · rintro ⟨lb, f, x, pid, fi, F, tk, τ⟩ ⟨hnf, hnb, hng, hf, hfx, H, hlb⟩
    dsimp only at hf hfx H hlb ⊢
    have hr : amSize p w > 0 := Decidable.byContradiction fun h => hnf (.inr h)
    obtain ⟨hw, hf1, hf2, hsn, hfo, ho1, ho2, hpl⟩ := amSize_ok hr
    have g1 := hfo.one
    have g2 := hfo.most
    have g3 := hfo.fits
    have hhr := amHead_range p.part w
    have hht := amHead_range true w
    have hsz0 := sizeV_range ((p.fs.length : Int) - 1) (lenW w)
    obtain ⟨b1, b2⟩ := bits2 ⟨hf1, hf2⟩
    have hba : 0 ≤ a ∧ a < t ∧ t ≤ total p.fs ∧ 0 ≤ g ∧ g ≤ 4096 := by
      refine ⟨?_, ?_, ?_, ?_, ?_⟩ <;> refine Decidable.byContradiction fun h => hnb ?_
      · exact .inr (.inr (.inl (by omega)))
      · exact .inr (.inr (.inr (.inl (by omega))))
      · exact .inr (.inr (.inr (.inr (by omega))))
      · exact .inl (by omega)
      · exact .inr (.inl (by omega))
    have hts := total_take_succ p.fs f hf
    have htl := total_take_le p.fs (f + 1)
    rcases hlb with ⟨rfl, hxa, rfl, rfl⟩ | ⟨rfl, hax, hxt, hx2, hst, hFn, hfi, hF, hall⟩
    · refine ⟨_, rfl, ?_⟩
      (refine wX ?_)
      intro hlab
      (refine wX ?_)
      refine aget (by omega) (get_ends hf) ?_
      (refine wX ?_)
      (repeat ((first | refine zI (by omega) ?_ | refine zE (by omega) (by omega) ?_ | refine zD (by omega) (by omega) ?_ | refine zY (by omega) ?_ | refine zN (by omega) ?_ | refine amin ?_ | refine amax ?_ | refine zU (by omega) ?_ | refine z8 (by omega) ?_ | refine zX (by omega) (by omega) ?_ | refine zR rfl ?_ | refine acellA ?_ | refine zB H b1 rfl ?_ | refine zC H b1 ?_ | refine zB H b2 rfl ?_ | refine zC H b2 ?_ | (apply zL H; (· repeat first | exact .h | apply AtK.t); (· rfl)) | (apply zA H; (· repeat first | exact .h | apply AtK.t)) | (apply zS H; (· repeat first | exact .h | apply AtK.t); (· rfl); (conv => whnf); clear H; intro τ H) | rw [List.length_map]); (refine wX ?_)))
      by_cases hs : (total (p.fs.take (f + 1)) : Int) ≤ x
      · have hf2 : f + 1 < p.fs.length := by
          refine Decidable.byContradiction fun h => ?_
          rw [show f + 1 = p.fs.length by omega, List.take_length] at hs
          omega
        (repeat ((first | refine zI (by omega) ?_ | refine zE (by omega) (by omega) ?_ | refine zD (by omega) (by omega) ?_ | refine zY (by omega) ?_ | refine zN (by omega) ?_ | refine amin ?_ | refine amax ?_ | refine zU (by omega) ?_ | refine z8 (by omega) ?_ | refine zX (by omega) (by omega) ?_ | refine zR rfl ?_ | refine acellA ?_ | refine zB H b1 rfl ?_ | refine zC H b1 ?_ | refine zB H b2 rfl ?_ | refine zC H b2 ?_ | (apply zL H; (· repeat first | exact .h | apply AtK.t); (· rfl)) | (apply zA H; (· repeat first | exact .h | apply AtK.t)) | (apply zS H; (· repeat first | exact .h | apply AtK.t); (· rfl); (conv => whnf); clear H; intro τ H) | rw [List.length_map]); (refine wX ?_)))
        refine aget (by omega) (get_ends hf) ?_
        (refine wX ?_)
        (repeat ((first | refine zI (by omega) ?_ | refine zE (by omega) (by omega) ?_ | refine zD (by omega) (by omega) ?_ | refine zY (by omega) ?_ | refine zN (by omega) ?_ | refine amin ?_ | refine amax ?_ | refine zU (by omega) ?_ | refine z8 (by omega) ?_ | refine zX (by omega) (by omega) ?_ | refine zR rfl ?_ | refine acellA ?_ | refine zB H b1 rfl ?_ | refine zC H b1 ?_ | refine zB H b2 rfl ?_ | refine zC H b2 ?_ | (apply zL H; (· repeat first | exact .h | apply AtK.t); (· rfl)) | (apply zA H; (· repeat first | exact .h | apply AtK.t)) | (apply zS H; (· repeat first | exact .h | apply AtK.t); (· rfl); (conv => whnf); clear H; intro τ H) | rw [List.length_map]); (refine wX ?_)))
        refine ⟨(0, f + 1, x, pid, 0, [], tk, τ), rfl, ⟨hnf, hnb, hng, hf2, by dsimp only; omega, H, .inl ⟨rfl, hxa, rfl, rfl⟩⟩, by dsimp only; omega, Sub.refl _, ?_⟩
        (refine wX ?_)
        (repeat' first | with_reducible exact EnvLe.refl _ | (refine EnvLe.node ?_ (by first | exact Or.inl rfl | exact Or.inr (Or.inl rfl) | exact Or.inr (Or.inr ⟨nofun, VLe.slice _ _ _⟩)) ?_))
      have hx2 : x < total (p.fs.take (f + 1)) := by omega
      have hed : edge p.fs a.toNat = decide (x = total (p.fs.take f)) := by
        by_cases e : x = total (p.fs.take f)
        · rw [decide_eq_true e, show a.toNat = x by omega, e]; exact edge_take (by omega)
        · rw [decide_eq_false e, show a.toNat = x by omega]; exact edge_between hf (by omega) hx2
      (repeat ((first | refine zI (by omega) ?_ | refine zE (by omega) (by omega) ?_ | refine zD (by omega) (by omega) ?_ | refine zY (by omega) ?_ | refine zN (by omega) ?_ | refine amin ?_ | refine amax ?_ | refine zU (by omega) ?_ | refine z8 (by omega) ?_ | refine zX (by omega) (by omega) ?_ | refine zR rfl ?_ | refine acellA ?_ | refine zB H b1 rfl ?_ | refine zC H b1 ?_ | refine zB H b2 rfl ?_ | refine zC H b2 ?_ | (apply zL H; (· repeat first | exact .h | apply AtK.t); (· rfl)) | (apply zA H; (· repeat first | exact .h | apply AtK.t)) | (apply zS H; (· repeat first | exact .h | apply AtK.t); (· rfl); (conv => whnf); clear H; intro τ H) | rw [List.length_map]); (refine wX ?_)))
      have go1 : ∀ (fi2 : Int) (υ : AHeap), (fi2 = if edge p.fs a.toNat = false ∨ (a = 0 ∧ wth p.fi = true) then 2 else 0) → Hp σ [.o pid (.cells [boolv false, i64v fi2, i64v p.sn, boolv true, boolv false, i64v a, .slice 1 (([] : List TB).map slB) tk]), .t tk, .o i10 (.cells [boolv false, i64v 0, i64v 0, boolv false, boolv false, i64v 0, .slice 1 [] .full]), .o i5 (.cells (amV p).cells)] υ →
          True := fun _ _ _ _ => trivial
      by_cases e : x = total (p.fs.take f)
      · have hed1 : edge p.fs a.toNat = true := by rw [hed]; exact decide_eq_true e
        refine abr_no (by omega) ?_
        (refine wX ?_)
        by_cases ha0 : a = 0
        · (repeat ((first | refine zI (by omega) ?_ | refine zE (by omega) (by omega) ?_ | refine zD (by omega) (by omega) ?_ | refine zY (by omega) ?_ | refine zN (by omega) ?_ | refine amin ?_ | refine amax ?_ | refine zU (by omega) ?_ | refine z8 (by omega) ?_ | refine zX (by omega) (by omega) ?_ | refine zR rfl ?_ | refine acellA ?_ | refine zB H b1 rfl ?_ | refine zC H b1 ?_ | refine zB H b2 rfl ?_ | refine zC H b2 ?_ | (apply zL H; (· repeat first | exact .h | apply AtK.t); (· rfl)) | (apply zA H; (· repeat first | exact .h | apply AtK.t)) | (apply zS H; (· repeat first | exact .h | apply AtK.t); (· rfl); (conv => whnf); clear H; intro τ H) | rw [List.length_map]); (refine wX ?_)))
          rcases (show wth p.fi = false ∨ wth p.fi = true by cases wth p.fi <;> simp) with hwt | hwt
          · rw [hwt] at b1
            refine abits_eq (m := 0) (by rw [b1]; rfl) ?_
            (refine wX ?_)
            refine hlab _ (fun _ _ _ h => h) _ _ _ _ ⟨(1, f, x, pid, 0, [], tk, τ), rfl, ⟨hnf, hnb, hng, hf, hfx, H, .inr ⟨rfl, by dsimp only; omega, by dsimp only; omega, hx2, .inl (by dsimp only; omega), ⟨fun _ => rfl, fun _ => by dsimp only; omega⟩, ?_, ?_, fun y h1 h2 => by dsimp only at h2; omega⟩⟩, by dsimp only; omega, rfl, Sub.refl _, ?_⟩
            · dsimp only; rw [hed1, hwt]; simp
            · dsimp only; rw [pcs_nil (by omega)]; rfl
            · (refine wX ?_)
              (repeat' first | with_reducible exact EnvLe.refl _ | (refine EnvLe.node ?_ (by first | exact Or.inl rfl | exact Or.inr (Or.inl rfl) | exact Or.inr (Or.inr ⟨nofun, VLe.slice _ _ _⟩)) ?_))
          · rw [hwt] at b1
            refine abits_eq (m := 2) (by rw [b1]; rfl) ?_
            (refine wX ?_)
            (repeat ((first | refine zI (by omega) ?_ | refine zE (by omega) (by omega) ?_ | refine zD (by omega) (by omega) ?_ | refine zY (by omega) ?_ | refine zN (by omega) ?_ | refine amin ?_ | refine amax ?_ | refine zU (by omega) ?_ | refine z8 (by omega) ?_ | refine zX (by omega) (by omega) ?_ | refine zR rfl ?_ | refine acellA ?_ | refine zB H b1 rfl ?_ | refine zC H b1 ?_ | refine zB H b2 rfl ?_ | refine zC H b2 ?_ | (apply zL H; (· repeat first | exact .h | apply AtK.t); (· rfl)) | (apply zA H; (· repeat first | exact .h | apply AtK.t)) | (apply zS H; (· repeat first | exact .h | apply AtK.t); (· rfl); (conv => whnf); clear H; intro τ H) | rw [List.length_map]); (refine wX ?_)))
            refine hlab _ (fun _ _ _ h => h) _ _ _ _ ⟨(1, f, x, pid, 2, [], tk, τ), rfl, ⟨hnf, hnb, hng, hf, hfx, H, .inr ⟨rfl, by dsimp only; omega, by dsimp only; omega, hx2, .inl (by dsimp only; omega), ⟨fun _ => rfl, fun _ => by dsimp only; omega⟩, ?_, ?_, fun y h1 h2 => by dsimp only at h2; omega⟩⟩, by dsimp only; omega, rfl, Sub.refl _, ?_⟩
            · dsimp only; rw [hwt, if_pos (.inr ⟨ha0, rfl⟩)]
            · dsimp only; rw [pcs_nil (by omega)]; rfl
            · (refine wX ?_)
              (repeat' first | with_reducible exact EnvLe.refl _ | (refine EnvLe.node ?_ (by first | exact Or.inl rfl | exact Or.inr (Or.inl rfl) | exact Or.inr (Or.inr ⟨nofun, VLe.slice _ _ _⟩)) ?_))
        · (repeat ((first | refine zI (by omega) ?_ | refine zE (by omega) (by omega) ?_ | refine zD (by omega) (by omega) ?_ | refine zY (by omega) ?_ | refine zN (by omega) ?_ | refine amin ?_ | refine amax ?_ | refine zU (by omega) ?_ | refine z8 (by omega) ?_ | refine zX (by omega) (by omega) ?_ | refine zR rfl ?_ | refine acellA ?_ | refine zB H b1 rfl ?_ | refine zC H b1 ?_ | refine zB H b2 rfl ?_ | refine zC H b2 ?_ | (apply zL H; (· repeat first | exact .h | apply AtK.t); (· rfl)) | (apply zA H; (· repeat first | exact .h | apply AtK.t)) | (apply zS H; (· repeat first | exact .h | apply AtK.t); (· rfl); (conv => whnf); clear H; intro τ H) | rw [List.length_map]); (refine wX ?_)))
          refine hlab _ (fun _ _ _ h => h) _ _ _ _ ⟨(1, f, x, pid, 0, [], tk, τ), rfl, ⟨hnf, hnb, hng, hf, hfx, H, .inr ⟨rfl, by dsimp only; omega, by dsimp only; omega, hx2, .inl (by dsimp only; omega), ⟨fun _ => rfl, fun _ => by dsimp only; omega⟩, ?_, ?_, fun y h1 h2 => by dsimp only at h2; omega⟩⟩, by dsimp only; omega, rfl, Sub.refl _, ?_⟩
          · dsimp only; rw [if_neg]; rintro (h | h); rw [hed1] at h; cases h; exact ha0 h.1
          · dsimp only; rw [pcs_nil (by omega)]; rfl
          · (refine wX ?_)
            (repeat' first | with_reducible exact EnvLe.refl _ | (refine EnvLe.node ?_ (by first | exact Or.inl rfl | exact Or.inr (Or.inl rfl) | exact Or.inr (Or.inr ⟨nofun, VLe.slice _ _ _⟩)) ?_))
      · have hed0 : edge p.fs a.toNat = false := by rw [hed]; exact decide_eq_false e
        refine abr_yes (by omega) ?_
        (refine wX ?_)
        (repeat ((first | refine zI (by omega) ?_ | refine zE (by omega) (by omega) ?_ | refine zD (by omega) (by omega) ?_ | refine zY (by omega) ?_ | refine zN (by omega) ?_ | refine amin ?_ | refine amax ?_ | refine zU (by omega) ?_ | refine z8 (by omega) ?_ | refine zX (by omega) (by omega) ?_ | refine zR rfl ?_ | refine acellA ?_ | refine zB H b1 rfl ?_ | refine zC H b1 ?_ | refine zB H b2 rfl ?_ | refine zC H b2 ?_ | (apply zL H; (· repeat first | exact .h | apply AtK.t); (· rfl)) | (apply zA H; (· repeat first | exact .h | apply AtK.t)) | (apply zS H; (· repeat first | exact .h | apply AtK.t); (· rfl); (conv => whnf); clear H; intro τ H) | rw [List.length_map]); (refine wX ?_)))
        refine hlab _ (fun _ _ _ h => h) _ _ _ _ ⟨(1, f, x, pid, 2, [], tk, τ), rfl, ⟨hnf, hnb, hng, hf, hfx, H, .inr ⟨rfl, by dsimp only; omega, by dsimp only; omega, hx2, .inl (by dsimp only; omega), ⟨fun _ => rfl, fun _ => by dsimp only; omega⟩, ?_, ?_, fun y h1 h2 => by dsimp only at h2; omega⟩⟩, by dsimp only; omega, rfl, Sub.refl _, ?_⟩
        · dsimp only; rw [if_pos (.inl hed0)]
        · dsimp only; rw [pcs_nil (by omega)]; rfl
        · (refine wX ?_)
          (repeat' first | with_reducible exact EnvLe.refl _ | (refine EnvLe.node ?_ (by first | exact Or.inl rfl | exact Or.inr (Or.inl rfl) | exact Or.inr (Or.inr ⟨nofun, VLe.slice _ _ _⟩)) ?_))
    · refine ⟨_, rfl, ?_⟩
      (refine wX ?_)
      intro hlab
      (refine wX ?_)
      (repeat ((first | refine zI (by omega) ?_ | refine zE (by omega) (by omega) ?_ | refine zD (by omega) (by omega) ?_ | refine zY (by omega) ?_ | refine zN (by omega) ?_ | refine amin ?_ | refine amax ?_ | refine zU (by omega) ?_ | refine z8 (by omega) ?_ | refine zX (by omega) (by omega) ?_ | refine zR rfl ?_ | refine acellA ?_ | refine zB H b1 rfl ?_ | refine zC H b1 ?_ | refine zB H b2 rfl ?_ | refine zC H b2 ?_ | (apply zL H; (· repeat first | exact .h | apply AtK.t); (· rfl)) | (apply zA H; (· repeat first | exact .h | apply AtK.t)) | (apply zS H; (· repeat first | exact .h | apply AtK.t); (· rfl); (conv => whnf); clear H; intro τ H) | rw [List.length_map]); (refine wX ?_)))
      refine acall (gLenWidth w τ) ?_
      rintro _ σ_ ⟨rfl, e_⟩
      obtain rfl := e_.symm
      refine ⟨?_, Ext.refl _⟩
      (refine wX ?_)
      refine acall (lSize (F.length : Int) (lenW w) τ) ?_
      rintro _ σ_ ⟨rfl, e_⟩
      obtain rfl := e_.symm
      refine ⟨?_, Ext.refl _⟩
      (refine wX ?_)
      have hsz := sizeV_range (F.length : Int) (lenW w)
      (repeat ((first | refine zI (by omega) ?_ | refine zE (by omega) (by omega) ?_ | refine zD (by omega) (by omega) ?_ | refine zY (by omega) ?_ | refine zN (by omega) ?_ | refine amin ?_ | refine amax ?_ | refine zU (by omega) ?_ | refine z8 (by omega) ?_ | refine zX (by omega) (by omega) ?_ | refine zR rfl ?_ | refine acellA ?_ | refine zB H b1 rfl ?_ | refine zC H b1 ?_ | refine zB H b2 rfl ?_ | refine zC H b2 ?_ | (apply zL H; (· repeat first | exact .h | apply AtK.t); (· rfl)) | (apply zA H; (· repeat first | exact .h | apply AtK.t)) | (apply zS H; (· repeat first | exact .h | apply AtK.t); (· rfl); (conv => whnf); clear H; intro τ H) | rw [List.length_map]); (refine wX ?_)))
      refine aget (by omega) (get_ends hf) ?_
      (refine wX ?_)
      (repeat ((first | refine zI (by omega) ?_ | refine zE (by omega) (by omega) ?_ | refine zD (by omega) (by omega) ?_ | refine zY (by omega) ?_ | refine zN (by omega) ?_ | refine amin ?_ | refine amax ?_ | refine zU (by omega) ?_ | refine z8 (by omega) ?_ | refine zX (by omega) (by omega) ?_ | refine zR rfl ?_ | refine acellA ?_ | refine zB H b1 rfl ?_ | refine zC H b1 ?_ | refine zB H b2 rfl ?_ | refine zC H b2 ?_ | (apply zL H; (· repeat first | exact .h | apply AtK.t); (· rfl)) | (apply zA H; (· repeat first | exact .h | apply AtK.t)) | (apply zS H; (· repeat first | exact .h | apply AtK.t); (· rfl); (conv => whnf); clear H; intro τ H) | rw [List.length_map]); (refine wX ?_)))
      have hdl : p.fs.flatten.length = total p.fs := rfl
      obtain ⟨hi, lo, hFlen⟩ : True ∧ True ∧ F.length = (pcs p.fs a.toNat x).length := ⟨trivial, trivial, by rw [← hF, List.length_map]⟩
      have hFle : F.length ≤ p.fs.length := by rw [hFlen]; exact pcs_len
      have hnew : ∀ y, x < y → y ≤ total (p.fs.take (f + 1)) → pcs p.fs a.toNat y = pcs p.fs a.toNat x ++ [(p.fs.flatten.take y).drop x] := fun y h1 h2 =>
        pcs_new hax h1 (by omega) (by rcases hst with h | h; exact .inl h; exact .inr (by rw [h.2]; exact edge_take (by omega))) (fun z h3 h4 => edge_between hf (by omega) (by omega))
      obtain ⟨room, hroom⟩ : ∃ room, room = min g 4000 - amHead true w := ⟨_, rfl⟩
      rw [← hroom] at hall ⊢
      obtain ⟨left, hleft⟩ : ∃ left, left = room - ((x : Int) - a) - sizeV (F.length : Int) (lenW w) := ⟨_, rfl⟩
      rw [← hleft]
      have hok : ∀ y, x ≤ y → y < total (p.fs.take (f + 1)) → (okB p.fs room (lenW w) a.toNat y ↔ (y : Int) < x + left) := fun y h1 h2 => by
        unfold okB
        rw [hnew (y + 1) (by omega) (by omega), List.length_append, ← hFlen, show ((F.length + [((p.fs.flatten.take (y + 1)).drop x)].length : Nat) : Int) - 1 = (F.length : Int) by rw [List.length_singleton]; omega]
        omega
      obtain ⟨n, hn⟩ : ∃ n, n = min (min left ((total (p.fs.take (f + 1)) : Int) - x)) (t - x) := ⟨_, rfl⟩
      rw [← hn]
      have hcA : ∀ {y : Nat}, cutEnd p.fs room (lenW w) a.toNat (t.toNat - a.toNat) a.toNat = y → cutAt p a t g w = y := fun h => by unfold cutAt; rw [← hroom]; exact h
      by_cases hn1 : n ≥ 1
      · (repeat ((first | refine zI (by omega) ?_ | refine zE (by omega) (by omega) ?_ | refine zD (by omega) (by omega) ?_ | refine zY (by omega) ?_ | refine zN (by omega) ?_ | refine amin ?_ | refine amax ?_ | refine zU (by omega) ?_ | refine z8 (by omega) ?_ | refine zX (by omega) (by omega) ?_ | refine zR rfl ?_ | refine acellA ?_ | refine zB H b1 rfl ?_ | refine zC H b1 ?_ | refine zB H b2 rfl ?_ | refine zC H b2 ?_ | (apply zL H; (· repeat first | exact .h | apply AtK.t); (· rfl)) | (apply zA H; (· repeat first | exact .h | apply AtK.t)) | (apply zS H; (· repeat first | exact .h | apply AtK.t); (· rfl); (conv => whnf); clear H; intro τ H) | rw [List.length_map]); (refine wX ?_)))
        refine acut (by omega) (by omega) (by omega) ?_
        (refine wX ?_)
        refine happF H (by rw [List.length_drop, List.length_take, List.length_map]; show (0 + _) * 1 ≤ _; omega) ?_
        clear H
        intro tk1 τ H
        (refine wX ?_)
        apply zP H
        · (repeat first | exact .h | apply AtK.t)
        · exact (by rw [List.length_map]; show (F.length + 1) * 24 ≤ _; omega)
        intro tk2
        (conv => whnf)
        clear H
        intro τ H
        (refine wX ?_)
        obtain ⟨m, hm⟩ : ∃ m : Nat, n = m := ⟨n.toNat, by omega⟩
        have hcut : [] ++ List.drop ((x : Nat) : Int).toNat (List.take ((x : Int) + n).toNat (p.fs.flatten.map byteV)) = ((p.fs.flatten.take (x + m)).drop x).map byteV := by
          rw [List.nil_append, hm, Int.toNat_natCast, show ((x : Int) + (m : Nat)).toNat = x + m by omega, List.map_drop, List.map_take]
        rw [hcut] at *
        have hap : F.map slB ++ [.slice 1 (((p.fs.flatten.take (x + m)).drop x).map byteV) tk1] = (F ++ [(tk1, (p.fs.flatten.take (x + m)).drop x)]).map slB := by rw [List.map_append]; rfl
        rw [hap] at *
        (repeat ((first | refine zI (by omega) ?_ | refine zE (by omega) (by omega) ?_ | refine zD (by omega) (by omega) ?_ | refine zY (by omega) ?_ | refine zN (by omega) ?_ | refine amin ?_ | refine amax ?_ | refine zU (by omega) ?_ | refine z8 (by omega) ?_ | refine zX (by omega) (by omega) ?_ | refine zR rfl ?_ | refine acellA ?_ | refine zB H b1 rfl ?_ | refine zC H b1 ?_ | refine zB H b2 rfl ?_ | refine zC H b2 ?_ | (apply zL H; (· repeat first | exact .h | apply AtK.t); (· rfl)) | (apply zA H; (· repeat first | exact .h | apply AtK.t)) | (apply zS H; (· repeat first | exact .h | apply AtK.t); (· rfl); (conv => whnf); clear H; intro τ H) | rw [List.length_map]); (refine wX ?_)))
        refine aget (by omega) (get_ends hf) ?_
        (refine wX ?_)
        have hpn := hnew (x + m) (by omega) (by omega)
        have hall2 : ∀ y, a.toNat ≤ y → y < x + m → okB p.fs room (lenW w) a.toNat y := fun y h1 h2 => by
          by_cases hy : y < x
          · exact hall y h1 hy
          · exact (hok y (by omega) (by omega)).2 (by omega)
        have hFl2 : (F ++ [(tk1, (p.fs.flatten.take (x + m)).drop x)]).map (·.2) = pcs p.fs a.toNat (x + m) := by rw [hpn, List.map_append, hF]; rfl
        have hFN2 : x + m = a.toNat ↔ F ++ [(tk1, (p.fs.flatten.take (x + m)).drop x)] = [] := ⟨fun h => by omega, fun h => by simp at h⟩
        rw [show ((x : Int) + n) = ((x + m : Nat) : Int) by omega]
        by_cases e1 : x + m = total (p.fs.take (f + 1)) ∧ ((x + m : Nat) : Int) < t
        · have hf2 : f + 1 < p.fs.length := by
            refine Decidable.byContradiction fun h => ?_
            have := e1.1
            rw [show f + 1 = p.fs.length by omega, List.take_length] at this
            omega
          have hne := (hfo.each (f + 1) hf2).1
          have hts2 := total_take_succ p.fs (f + 1) hf2
          (repeat ((first | refine zI (by omega) ?_ | refine zE (by omega) (by omega) ?_ | refine zD (by omega) (by omega) ?_ | refine zY (by omega) ?_ | refine zN (by omega) ?_ | refine amin ?_ | refine amax ?_ | refine zU (by omega) ?_ | refine z8 (by omega) ?_ | refine zX (by omega) (by omega) ?_ | refine zR rfl ?_ | refine acellA ?_ | refine zB H b1 rfl ?_ | refine zC H b1 ?_ | refine zB H b2 rfl ?_ | refine zC H b2 ?_ | (apply zL H; (· repeat first | exact .h | apply AtK.t); (· rfl)) | (apply zA H; (· repeat first | exact .h | apply AtK.t)) | (apply zS H; (· repeat first | exact .h | apply AtK.t); (· rfl); (conv => whnf); clear H; intro τ H) | rw [List.length_map]); (refine wX ?_)))
          refine ⟨(1, f + 1, x + m, pid, fi, F ++ [(tk1, (p.fs.flatten.take (x + m)).drop x)], tk2, τ), rfl, ⟨hnf, hnb, hng, hf2, by dsimp only; omega, H.tail, .inr ⟨rfl, by dsimp only; omega, e1.2, by dsimp only; omega, .inr ⟨by dsimp only; omega, e1.1⟩, hFN2, hfi, hFl2, hall2⟩⟩, by dsimp only; omega, Sub.refl _, ?_⟩
          (refine wX ?_)
          (repeat' first | with_reducible exact EnvLe.refl _ | (refine EnvLe.node ?_ (by first | exact Or.inl rfl | exact Or.inr (Or.inl rfl) | exact Or.inr (Or.inr ⟨nofun, VLe.slice _ _ _⟩)) ?_))
        have hnok : ((x + m : Nat) : Int) < t → ¬ okB p.fs room (lenW w) a.toNat (x + m) := fun h => by
          rw [hok (x + m) (by omega) (by omega)]; omega
        have hfl := hf
        have heg : edge p.fs (x + m) = true ↔ x + m = total (p.fs.take (f + 1)) := by
          constructor
          · intro h
            refine Decidable.byContradiction fun hn => ?_
            rw [edge_between hf (by omega) (by omega)] at h; cases h
          · intro h; rw [h]; exact edge_take (by omega)
        by_cases e3 : x + m = total (p.fs.take (f + 1))
        · (repeat ((first | refine zI (by omega) ?_ | refine zE (by omega) (by omega) ?_ | refine zD (by omega) (by omega) ?_ | refine zY (by omega) ?_ | refine zN (by omega) ?_ | refine amin ?_ | refine amax ?_ | refine zU (by omega) ?_ | refine z8 (by omega) ?_ | refine zX (by omega) (by omega) ?_ | refine zR rfl ?_ | refine acellA ?_ | refine zB H b1 rfl ?_ | refine zC H b1 ?_ | refine zB H b2 rfl ?_ | refine zC H b2 ?_ | (apply zL H; (· repeat first | exact .h | apply AtK.t); (· rfl)) | (apply zA H; (· repeat first | exact .h | apply AtK.t)) | (apply zS H; (· repeat first | exact .h | apply AtK.t); (· rfl); (conv => whnf); clear H; intro τ H) | rw [List.length_map]); (refine wX ?_)))
          have hedg : edge p.fs (x + m) = true := heg.2 e3
          have hcx : cutAt p a t g w = (x + m) := hcA (cutEnd_eq (t := t.toNat) (by omega) (by omega) hall2 (fun h => hnok (by omega)))
          by_cases hx0 : (x + m) = a.toNat
          · have hFn2 : F ++ [(tk1, (p.fs.flatten.take (x + m)).drop x)] = [] := hFN2.1 hx0
            have e : cutRes p a t g w = (pk0, 0, 16) := by unfold cutRes; rw [if_neg hnf, if_neg hnb, if_neg hng, hcx, if_pos hx0]
            have hFl0 : (F ++ [(tk1, (p.fs.flatten.take (x + m)).drop x)]).length = 0 := by rw [hFn2]; rfl
            (repeat ((first | refine zI (by omega) ?_ | refine zE (by omega) (by omega) ?_ | refine zD (by omega) (by omega) ?_ | refine zY (by omega) ?_ | refine zN (by omega) ?_ | refine amin ?_ | refine amax ?_ | refine zU (by omega) ?_ | refine z8 (by omega) ?_ | refine zX (by omega) (by omega) ?_ | refine zR rfl ?_ | refine acellA ?_ | refine zB H b1 rfl ?_ | refine zC H b1 ?_ | refine zB H b2 rfl ?_ | refine zC H b2 ?_ | (apply zL H; (· repeat first | exact .h | apply AtK.t); (· rfl)) | (apply zA H; (· repeat first | exact .h | apply AtK.t)) | (apply zS H; (· repeat first | exact .h | apply AtK.t); (· rfl); (conv => whnf); clear H; intro τ H) | rw [List.length_map]); (refine wX ?_)))
            exact aret_pkt0 H.sub ⟨by rw [e]; rfl, rfl⟩
          have hFne : (F ++ [(tk1, (p.fs.flatten.take (x + m)).drop x)]).length ≠ 0 := fun h => hx0 (hFN2.2 (List.length_eq_zero_iff.1 h))
          have e : cutRes p a t g w = (cutPk p a.toNat ((x + m)), (((x + m) : Nat) : Int), 0) := by unfold cutRes; rw [if_neg hnf, if_neg hnb, if_neg hng, hcx, if_neg hx0]
          (repeat ((first | refine zI (by omega) ?_ | refine zE (by omega) (by omega) ?_ | refine zD (by omega) (by omega) ?_ | refine zY (by omega) ?_ | refine zN (by omega) ?_ | refine amin ?_ | refine amax ?_ | refine zU (by omega) ?_ | refine z8 (by omega) ?_ | refine zX (by omega) (by omega) ?_ | refine zR rfl ?_ | refine acellA ?_ | refine zB H b1 rfl ?_ | refine zC H b1 ?_ | refine zB H b2 rfl ?_ | refine zC H b2 ?_ | (apply zL H; (· repeat first | exact .h | apply AtK.t); (· rfl)) | (apply zA H; (· repeat first | exact .h | apply AtK.t)) | (apply zS H; (· repeat first | exact .h | apply AtK.t); (· rfl); (conv => whnf); clear H; intro τ H) | rw [List.length_map]); (refine wX ?_)))
          refine aget (by omega) (get_ends hfl) ?_
          (refine wX ?_)
          refine acell rfl ?_
          (refine wX ?_)
          have hfi01 : fi = 0 ∨ fi = 2 := by rw [hfi]; split <;> simp
          have hor : bitsOp .or .i64 fi 1 = fi + 1 := by rcases hfi01 with h | h <;> rw [h] <;> decide
          have hq : (x + m) = total (p.fs.take (f + 1)) := heg.1 hedg
          refine abr_no (by omega) ?_
          (refine wX ?_)
          by_cases hxd : (x + m) = total p.fs
          · (repeat ((first | refine zI (by omega) ?_ | refine zE (by omega) (by omega) ?_ | refine zD (by omega) (by omega) ?_ | refine zY (by omega) ?_ | refine zN (by omega) ?_ | refine amin ?_ | refine amax ?_ | refine zU (by omega) ?_ | refine z8 (by omega) ?_ | refine zX (by omega) (by omega) ?_ | refine zR rfl ?_ | refine acellA ?_ | refine zB H b1 rfl ?_ | refine zC H b1 ?_ | refine zB H b2 rfl ?_ | refine zC H b2 ?_ | (apply zL H; (· repeat first | exact .h | apply AtK.t); (· rfl)) | (apply zA H; (· repeat first | exact .h | apply AtK.t)) | (apply zS H; (· repeat first | exact .h | apply AtK.t); (· rfl); (conv => whnf); clear H; intro τ H) | rw [List.length_map]); (refine wX ?_)))
            rcases (show ctg p.fi = false ∨ ctg p.fi = true by cases ctg p.fi <;> simp) with hct | hct
            · rw [hct] at b2
              refine abits_eq (m := 0) (by rw [b2]; rfl) ?_
              (refine wX ?_)
              (repeat ((first | refine zI (by omega) ?_ | refine zE (by omega) (by omega) ?_ | refine zD (by omega) (by omega) ?_ | refine zY (by omega) ?_ | refine zN (by omega) ?_ | refine amin ?_ | refine amax ?_ | refine zU (by omega) ?_ | refine z8 (by omega) ?_ | refine zX (by omega) (by omega) ?_ | refine zR rfl ?_ | refine acellA ?_ | refine zB H b1 rfl ?_ | refine zC H b1 ?_ | refine zB H b2 rfl ?_ | refine zC H b2 ?_ | (apply zL H; (· repeat first | exact .h | apply AtK.t); (· rfl)) | (apply zA H; (· repeat first | exact .h | apply AtK.t)) | (apply zS H; (· repeat first | exact .h | apply AtK.t); (· rfl); (conv => whnf); clear H; intro τ H) | rw [List.length_map]); (refine wX ?_)))
              have e2 : (if edge p.fs (x + m) = false ∨ ((x + m) = total p.fs ∧ ctg p.fi = true) then (1 : Int) else 0) = 0 := by rw [if_neg]; rintro (h | h); rw [hedg] at h; cases h; rw [hct] at h; cases h.2
              exact aret_pkt H.sub ⟨cutVal0 hba.1 e hFl2 hfi e2 (by omega), rfl⟩
            · rw [hct] at b2
              refine abits_eq (m := 1) (by rw [b2]; rfl) ?_
              (refine wX ?_)
              (repeat ((first | refine zI (by omega) ?_ | refine zE (by omega) (by omega) ?_ | refine zD (by omega) (by omega) ?_ | refine zY (by omega) ?_ | refine zN (by omega) ?_ | refine amin ?_ | refine amax ?_ | refine zU (by omega) ?_ | refine z8 (by omega) ?_ | refine zX (by omega) (by omega) ?_ | refine zR rfl ?_ | refine acellA ?_ | refine zB H b1 rfl ?_ | refine zC H b1 ?_ | refine zB H b2 rfl ?_ | refine zC H b2 ?_ | (apply zL H; (· repeat first | exact .h | apply AtK.t); (· rfl)) | (apply zA H; (· repeat first | exact .h | apply AtK.t)) | (apply zS H; (· repeat first | exact .h | apply AtK.t); (· rfl); (conv => whnf); clear H; intro τ H) | rw [List.length_map]); (refine wX ?_)))
              refine abits_eq hor ?_
              (refine wX ?_)
              (repeat ((first | refine zI (by omega) ?_ | refine zE (by omega) (by omega) ?_ | refine zD (by omega) (by omega) ?_ | refine zY (by omega) ?_ | refine zN (by omega) ?_ | refine amin ?_ | refine amax ?_ | refine zU (by omega) ?_ | refine z8 (by omega) ?_ | refine zX (by omega) (by omega) ?_ | refine zR rfl ?_ | refine acellA ?_ | refine zB H b1 rfl ?_ | refine zC H b1 ?_ | refine zB H b2 rfl ?_ | refine zC H b2 ?_ | (apply zL H; (· repeat first | exact .h | apply AtK.t); (· rfl)) | (apply zA H; (· repeat first | exact .h | apply AtK.t)) | (apply zS H; (· repeat first | exact .h | apply AtK.t); (· rfl); (conv => whnf); clear H; intro τ H) | rw [List.length_map]); (refine wX ?_)))
              have e2 : (if edge p.fs (x + m) = false ∨ ((x + m) = total p.fs ∧ ctg p.fi = true) then (1 : Int) else 0) = 1 := if_pos (.inr ⟨hxd, hct⟩)
              exact aret_pkt H.sub ⟨cutVal hba.1 e hFl2 hfi e2 (by omega), rfl⟩
          · (repeat ((first | refine zI (by omega) ?_ | refine zE (by omega) (by omega) ?_ | refine zD (by omega) (by omega) ?_ | refine zY (by omega) ?_ | refine zN (by omega) ?_ | refine amin ?_ | refine amax ?_ | refine zU (by omega) ?_ | refine z8 (by omega) ?_ | refine zX (by omega) (by omega) ?_ | refine zR rfl ?_ | refine acellA ?_ | refine zB H b1 rfl ?_ | refine zC H b1 ?_ | refine zB H b2 rfl ?_ | refine zC H b2 ?_ | (apply zL H; (· repeat first | exact .h | apply AtK.t); (· rfl)) | (apply zA H; (· repeat first | exact .h | apply AtK.t)) | (apply zS H; (· repeat first | exact .h | apply AtK.t); (· rfl); (conv => whnf); clear H; intro τ H) | rw [List.length_map]); (refine wX ?_)))
            have e2 : (if edge p.fs (x + m) = false ∨ ((x + m) = total p.fs ∧ ctg p.fi = true) then (1 : Int) else 0) = 0 := by rw [if_neg]; rintro (h | h); rw [hedg] at h; cases h; exact hxd h.1
            exact aret_pkt H.sub ⟨cutVal0 hba.1 e hFl2 hfi e2 (by omega), rfl⟩
        · (repeat ((first | refine zI (by omega) ?_ | refine zE (by omega) (by omega) ?_ | refine zD (by omega) (by omega) ?_ | refine zY (by omega) ?_ | refine zN (by omega) ?_ | refine amin ?_ | refine amax ?_ | refine zU (by omega) ?_ | refine z8 (by omega) ?_ | refine zX (by omega) (by omega) ?_ | refine zR rfl ?_ | refine acellA ?_ | refine zB H b1 rfl ?_ | refine zC H b1 ?_ | refine zB H b2 rfl ?_ | refine zC H b2 ?_ | (apply zL H; (· repeat first | exact .h | apply AtK.t); (· rfl)) | (apply zA H; (· repeat first | exact .h | apply AtK.t)) | (apply zS H; (· repeat first | exact .h | apply AtK.t); (· rfl); (conv => whnf); clear H; intro τ H) | rw [List.length_map]); (refine wX ?_)))
          have hedg : ¬ edge p.fs (x + m) = true := fun h => e3 (heg.1 h)
          have hcx : cutAt p a t g w = (x + m) := hcA (cutEnd_eq (t := t.toNat) (by omega) (by omega) hall2 (fun h => hnok (by omega)))
          by_cases hx0 : (x + m) = a.toNat
          · have hFn2 : F ++ [(tk1, (p.fs.flatten.take (x + m)).drop x)] = [] := hFN2.1 hx0
            have e : cutRes p a t g w = (pk0, 0, 16) := by unfold cutRes; rw [if_neg hnf, if_neg hnb, if_neg hng, hcx, if_pos hx0]
            have hFl0 : (F ++ [(tk1, (p.fs.flatten.take (x + m)).drop x)]).length = 0 := by rw [hFn2]; rfl
            (repeat ((first | refine zI (by omega) ?_ | refine zE (by omega) (by omega) ?_ | refine zD (by omega) (by omega) ?_ | refine zY (by omega) ?_ | refine zN (by omega) ?_ | refine amin ?_ | refine amax ?_ | refine zU (by omega) ?_ | refine z8 (by omega) ?_ | refine zX (by omega) (by omega) ?_ | refine zR rfl ?_ | refine acellA ?_ | refine zB H b1 rfl ?_ | refine zC H b1 ?_ | refine zB H b2 rfl ?_ | refine zC H b2 ?_ | (apply zL H; (· repeat first | exact .h | apply AtK.t); (· rfl)) | (apply zA H; (· repeat first | exact .h | apply AtK.t)) | (apply zS H; (· repeat first | exact .h | apply AtK.t); (· rfl); (conv => whnf); clear H; intro τ H) | rw [List.length_map]); (refine wX ?_)))
            exact aret_pkt0 H.sub ⟨by rw [e]; rfl, rfl⟩
          have hFne : (F ++ [(tk1, (p.fs.flatten.take (x + m)).drop x)]).length ≠ 0 := fun h => hx0 (hFN2.2 (List.length_eq_zero_iff.1 h))
          have e : cutRes p a t g w = (cutPk p a.toNat ((x + m)), (((x + m) : Nat) : Int), 0) := by unfold cutRes; rw [if_neg hnf, if_neg hnb, if_neg hng, hcx, if_neg hx0]
          (repeat ((first | refine zI (by omega) ?_ | refine zE (by omega) (by omega) ?_ | refine zD (by omega) (by omega) ?_ | refine zY (by omega) ?_ | refine zN (by omega) ?_ | refine amin ?_ | refine amax ?_ | refine zU (by omega) ?_ | refine z8 (by omega) ?_ | refine zX (by omega) (by omega) ?_ | refine zR rfl ?_ | refine acellA ?_ | refine zB H b1 rfl ?_ | refine zC H b1 ?_ | refine zB H b2 rfl ?_ | refine zC H b2 ?_ | (apply zL H; (· repeat first | exact .h | apply AtK.t); (· rfl)) | (apply zA H; (· repeat first | exact .h | apply AtK.t)) | (apply zS H; (· repeat first | exact .h | apply AtK.t); (· rfl); (conv => whnf); clear H; intro τ H) | rw [List.length_map]); (refine wX ?_)))
          refine aget (by omega) (get_ends hfl) ?_
          (refine wX ?_)
          refine acell rfl ?_
          (refine wX ?_)
          have hfi01 : fi = 0 ∨ fi = 2 := by rw [hfi]; split <;> simp
          have hor : bitsOp .or .i64 fi 1 = fi + 1 := by rcases hfi01 with h | h <;> rw [h] <;> decide
          have hq : (x + m) ≠ total (p.fs.take (f + 1)) := fun h => hedg (heg.2 h)
          refine abr_yes (by omega) ?_
          (refine wX ?_)
          (repeat ((first | refine zI (by omega) ?_ | refine zE (by omega) (by omega) ?_ | refine zD (by omega) (by omega) ?_ | refine zY (by omega) ?_ | refine zN (by omega) ?_ | refine amin ?_ | refine amax ?_ | refine zU (by omega) ?_ | refine z8 (by omega) ?_ | refine zX (by omega) (by omega) ?_ | refine zR rfl ?_ | refine acellA ?_ | refine zB H b1 rfl ?_ | refine zC H b1 ?_ | refine zB H b2 rfl ?_ | refine zC H b2 ?_ | (apply zL H; (· repeat first | exact .h | apply AtK.t); (· rfl)) | (apply zA H; (· repeat first | exact .h | apply AtK.t)) | (apply zS H; (· repeat first | exact .h | apply AtK.t); (· rfl); (conv => whnf); clear H; intro τ H) | rw [List.length_map]); (refine wX ?_)))
          refine abits_eq hor ?_
          (refine wX ?_)
          (repeat ((first | refine zI (by omega) ?_ | refine zE (by omega) (by omega) ?_ | refine zD (by omega) (by omega) ?_ | refine zY (by omega) ?_ | refine zN (by omega) ?_ | refine amin ?_ | refine amax ?_ | refine zU (by omega) ?_ | refine z8 (by omega) ?_ | refine zX (by omega) (by omega) ?_ | refine zR rfl ?_ | refine acellA ?_ | refine zB H b1 rfl ?_ | refine zC H b1 ?_ | refine zB H b2 rfl ?_ | refine zC H b2 ?_ | (apply zL H; (· repeat first | exact .h | apply AtK.t); (· rfl)) | (apply zA H; (· repeat first | exact .h | apply AtK.t)) | (apply zS H; (· repeat first | exact .h | apply AtK.t); (· rfl); (conv => whnf); clear H; intro τ H) | rw [List.length_map]); (refine wX ?_)))
          have e2 : (if edge p.fs (x + m) = false ∨ ((x + m) = total p.fs ∧ ctg p.fi = true) then (1 : Int) else 0) = 1 := if_pos (.inl (by simpa using hedg))
          exact aret_pkt H.sub ⟨cutVal hba.1 e hFl2 hfi e2 (by omega), rfl⟩
      · have hle : left < 1 := by omega
        have hall2 := hall
        have hFN2 := hFn
        have hFl2 := hF
        have hnok : (x : Int) < t → ¬ okB p.fs room (lenW w) a.toNat x := fun h => by
          rw [hok x (Nat.le_refl _) hx2]; omega
        (repeat ((first | refine zI (by omega) ?_ | refine zE (by omega) (by omega) ?_ | refine zD (by omega) (by omega) ?_ | refine zY (by omega) ?_ | refine zN (by omega) ?_ | refine amin ?_ | refine amax ?_ | refine zU (by omega) ?_ | refine z8 (by omega) ?_ | refine zX (by omega) (by omega) ?_ | refine zR rfl ?_ | refine acellA ?_ | refine zB H b1 rfl ?_ | refine zC H b1 ?_ | refine zB H b2 rfl ?_ | refine zC H b2 ?_ | (apply zL H; (· repeat first | exact .h | apply AtK.t); (· rfl)) | (apply zA H; (· repeat first | exact .h | apply AtK.t)) | (apply zS H; (· repeat first | exact .h | apply AtK.t); (· rfl); (conv => whnf); clear H; intro τ H) | rw [List.length_map]); (refine wX ?_)))
        have hcx : cutAt p a t g w = x := hcA (cutEnd_eq (t := t.toNat) (by omega) (by omega) hall2 (fun h => hnok (by omega)))
        by_cases hx0 : x = a.toNat
        · have hFn2 : F = [] := hFN2.1 hx0
          have e : cutRes p a t g w = (pk0, 0, 16) := by unfold cutRes; rw [if_neg hnf, if_neg hnb, if_neg hng, hcx, if_pos hx0]
          have hFl0 : (F).length = 0 := by rw [hFn2]; rfl
          (repeat ((first | refine zI (by omega) ?_ | refine zE (by omega) (by omega) ?_ | refine zD (by omega) (by omega) ?_ | refine zY (by omega) ?_ | refine zN (by omega) ?_ | refine amin ?_ | refine amax ?_ | refine zU (by omega) ?_ | refine z8 (by omega) ?_ | refine zX (by omega) (by omega) ?_ | refine zR rfl ?_ | refine acellA ?_ | refine zB H b1 rfl ?_ | refine zC H b1 ?_ | refine zB H b2 rfl ?_ | refine zC H b2 ?_ | (apply zL H; (· repeat first | exact .h | apply AtK.t); (· rfl)) | (apply zA H; (· repeat first | exact .h | apply AtK.t)) | (apply zS H; (· repeat first | exact .h | apply AtK.t); (· rfl); (conv => whnf); clear H; intro τ H) | rw [List.length_map]); (refine wX ?_)))
          exact aret_pkt0 H.sub ⟨by rw [e]; rfl, rfl⟩
        have hFne : (F).length ≠ 0 := fun h => hx0 (hFN2.2 (List.length_eq_zero_iff.1 h))
        have e : cutRes p a t g w = (cutPk p a.toNat (x), ((x : Nat) : Int), 0) := by unfold cutRes; rw [if_neg hnf, if_neg hnb, if_neg hng, hcx, if_neg hx0]
        (repeat ((first | refine zI (by omega) ?_ | refine zE (by omega) (by omega) ?_ | refine zD (by omega) (by omega) ?_ | refine zY (by omega) ?_ | refine zN (by omega) ?_ | refine amin ?_ | refine amax ?_ | refine zU (by omega) ?_ | refine z8 (by omega) ?_ | refine zX (by omega) (by omega) ?_ | refine zR rfl ?_ | refine acellA ?_ | refine zB H b1 rfl ?_ | refine zC H b1 ?_ | refine zB H b2 rfl ?_ | refine zC H b2 ?_ | (apply zL H; (· repeat first | exact .h | apply AtK.t); (· rfl)) | (apply zA H; (· repeat first | exact .h | apply AtK.t)) | (apply zS H; (· repeat first | exact .h | apply AtK.t); (· rfl); (conv => whnf); clear H; intro τ H) | rw [List.length_map]); (refine wX ?_)))
        obtain ⟨hf1', hxf⟩ : 1 ≤ f ∧ x = total (p.fs.take f) := hst.resolve_left hx0
        have hfl : f - 1 < p.fs.length := by omega
        have heg : edge p.fs x = true ↔ x = total (p.fs.take (f - 1 + 1)) := by
          rw [show f - 1 + 1 = f by omega]
          exact ⟨fun _ => hxf, fun h => by rw [h]; exact edge_take (by omega)⟩
        have hedg : edge p.fs x = true := by rw [hxf]; exact edge_take (by omega)
        rw [show (f : Int) - 1 = ((f - 1 : Nat) : Int) by omega]
        refine aget (by omega) (get_ends hfl) ?_
        (refine wX ?_)
        refine acell rfl ?_
        (refine wX ?_)
        have hfi01 : fi = 0 ∨ fi = 2 := by rw [hfi]; split <;> simp
        have hor : bitsOp .or .i64 fi 1 = fi + 1 := by rcases hfi01 with h | h <;> rw [h] <;> decide
        have hq : x = total (p.fs.take (f - 1 + 1)) := heg.1 hedg
        refine abr_no (by omega) ?_
        (refine wX ?_)
        by_cases hxd : x = total p.fs
        · (repeat ((first | refine zI (by omega) ?_ | refine zE (by omega) (by omega) ?_ | refine zD (by omega) (by omega) ?_ | refine zY (by omega) ?_ | refine zN (by omega) ?_ | refine amin ?_ | refine amax ?_ | refine zU (by omega) ?_ | refine z8 (by omega) ?_ | refine zX (by omega) (by omega) ?_ | refine zR rfl ?_ | refine acellA ?_ | refine zB H b1 rfl ?_ | refine zC H b1 ?_ | refine zB H b2 rfl ?_ | refine zC H b2 ?_ | (apply zL H; (· repeat first | exact .h | apply AtK.t); (· rfl)) | (apply zA H; (· repeat first | exact .h | apply AtK.t)) | (apply zS H; (· repeat first | exact .h | apply AtK.t); (· rfl); (conv => whnf); clear H; intro τ H) | rw [List.length_map]); (refine wX ?_)))
          rcases (show ctg p.fi = false ∨ ctg p.fi = true by cases ctg p.fi <;> simp) with hct | hct
          · rw [hct] at b2
            refine abits_eq (m := 0) (by rw [b2]; rfl) ?_
            (refine wX ?_)
            (repeat ((first | refine zI (by omega) ?_ | refine zE (by omega) (by omega) ?_ | refine zD (by omega) (by omega) ?_ | refine zY (by omega) ?_ | refine zN (by omega) ?_ | refine amin ?_ | refine amax ?_ | refine zU (by omega) ?_ | refine z8 (by omega) ?_ | refine zX (by omega) (by omega) ?_ | refine zR rfl ?_ | refine acellA ?_ | refine zB H b1 rfl ?_ | refine zC H b1 ?_ | refine zB H b2 rfl ?_ | refine zC H b2 ?_ | (apply zL H; (· repeat first | exact .h | apply AtK.t); (· rfl)) | (apply zA H; (· repeat first | exact .h | apply AtK.t)) | (apply zS H; (· repeat first | exact .h | apply AtK.t); (· rfl); (conv => whnf); clear H; intro τ H) | rw [List.length_map]); (refine wX ?_)))
            have e2 : (if edge p.fs x = false ∨ (x = total p.fs ∧ ctg p.fi = true) then (1 : Int) else 0) = 0 := by rw [if_neg]; rintro (h | h); rw [hedg] at h; cases h; rw [hct] at h; cases h.2
            exact aret_pkt H.sub ⟨cutVal0 hba.1 e hFl2 hfi e2 (by omega), rfl⟩
          · rw [hct] at b2
            refine abits_eq (m := 1) (by rw [b2]; rfl) ?_
            (refine wX ?_)
            (repeat ((first | refine zI (by omega) ?_ | refine zE (by omega) (by omega) ?_ | refine zD (by omega) (by omega) ?_ | refine zY (by omega) ?_ | refine zN (by omega) ?_ | refine amin ?_ | refine amax ?_ | refine zU (by omega) ?_ | refine z8 (by omega) ?_ | refine zX (by omega) (by omega) ?_ | refine zR rfl ?_ | refine acellA ?_ | refine zB H b1 rfl ?_ | refine zC H b1 ?_ | refine zB H b2 rfl ?_ | refine zC H b2 ?_ | (apply zL H; (· repeat first | exact .h | apply AtK.t); (· rfl)) | (apply zA H; (· repeat first | exact .h | apply AtK.t)) | (apply zS H; (· repeat first | exact .h | apply AtK.t); (· rfl); (conv => whnf); clear H; intro τ H) | rw [List.length_map]); (refine wX ?_)))
            refine abits_eq hor ?_
            (refine wX ?_)
            (repeat ((first | refine zI (by omega) ?_ | refine zE (by omega) (by omega) ?_ | refine zD (by omega) (by omega) ?_ | refine zY (by omega) ?_ | refine zN (by omega) ?_ | refine amin ?_ | refine amax ?_ | refine zU (by omega) ?_ | refine z8 (by omega) ?_ | refine zX (by omega) (by omega) ?_ | refine zR rfl ?_ | refine acellA ?_ | refine zB H b1 rfl ?_ | refine zC H b1 ?_ | refine zB H b2 rfl ?_ | refine zC H b2 ?_ | (apply zL H; (· repeat first | exact .h | apply AtK.t); (· rfl)) | (apply zA H; (· repeat first | exact .h | apply AtK.t)) | (apply zS H; (· repeat first | exact .h | apply AtK.t); (· rfl); (conv => whnf); clear H; intro τ H) | rw [List.length_map]); (refine wX ?_)))
            have e2 : (if edge p.fs x = false ∨ (x = total p.fs ∧ ctg p.fi = true) then (1 : Int) else 0) = 1 := if_pos (.inr ⟨hxd, hct⟩)
            exact aret_pkt H.sub ⟨cutVal hba.1 e hFl2 hfi e2 (by omega), rfl⟩
        · (repeat ((first | refine zI (by omega) ?_ | refine zE (by omega) (by omega) ?_ | refine zD (by omega) (by omega) ?_ | refine zY (by omega) ?_ | refine zN (by omega) ?_ | refine amin ?_ | refine amax ?_ | refine zU (by omega) ?_ | refine z8 (by omega) ?_ | refine zX (by omega) (by omega) ?_ | refine zR rfl ?_ | refine acellA ?_ | refine zB H b1 rfl ?_ | refine zC H b1 ?_ | refine zB H b2 rfl ?_ | refine zC H b2 ?_ | (apply zL H; (· repeat first | exact .h | apply AtK.t); (· rfl)) | (apply zA H; (· repeat first | exact .h | apply AtK.t)) | (apply zS H; (· repeat first | exact .h | apply AtK.t); (· rfl); (conv => whnf); clear H; intro τ H) | rw [List.length_map]); (refine wX ?_)))
          have e2 : (if edge p.fs x = false ∨ (x = total p.fs ∧ ctg p.fi = true) then (1 : Int) else 0) = 0 := by rw [if_neg]; rintro (h | h); rw [hedg] at h; cases h; exact hxd h.1
          exact aret_pkt H.sub ⟨cutVal0 hba.1 e hFl2 hfi e2 (by omega), rfl⟩
end Go.Proofs.Ytgobbmdbkmjlnaa
/-
  What is so of what goes; plain.
-/
namespace Go.Proofs.Ytgobbmdbkmjlnaa
set_option linter.unusedVariables false
set_option linter.unusedSimpArgs false
open Go Go.Am

theorem fieldsBad_no {l : List (List UInt8)} (h : ∀ i, (hi : i < l.length) → fieldBad l i = false) : fieldsBad l l.length = false := by
  refine Bool.eq_false_iff.2 fun hb => ?_
  obtain ⟨i, hi, hb⟩ := List.any_eq_true.1 hb
  rw [h i (List.mem_range.1 hi)] at hb; cases hb
/-- What a call of the cut may give. -/
inductive CutGives (p : Pk) (a t g w : Int) : Pk × Int × Int → Prop
  | no (c : Int) : c ≠ 0 → (c ≠ 16 ∨ g < leastV w) → CutGives p a t g w (pk0, 0, c)
  | whole : a = 0 → t = total p.fs → amSize p w ≤ g → ¬ noForm p w → ¬ badArg p a t g → CutGives p a t g w ({ p with poll := false }, t, 0)
  | part (x : Nat) : ¬ noForm p w → ¬ badArg p a t g → ¬ goes p a t g w → a < x → (x : Int) ≤ t → amSize (cutPk p a.toNat x) w > 0 → amSize (cutPk p a.toNat x) w ≤ g → amSize (cutPk p a.toNat x) w = amHead true w + sizeV (((pcs p.fs a.toNat x).length : Int) - 1) (lenW w) + (x - a) → (1 ≤ (pcs p.fs a.toNat x).length ∧ (pcs p.fs a.toNat x).length ≤ p.fs.length) → CutGives p a t g w (cutPk p a.toNat x, (x : Int), 0)
theorem cutFi_range (p : Pk) (a x : Nat) : 0 ≤ cutFi p a x ∧ cutFi p a x ≤ 3 := by unfold cutFi; repeat' split <;> omega
theorem cut_gives (p : Pk) (a t g w : Int) : CutGives p a t g w (cutRes p a t g w) := by
  unfold cutRes
  by_cases h1 : noForm p w
  · rw [if_pos h1]; exact .no 3 (by decide) (.inl (by decide))
  rw [if_neg h1]
  by_cases h2 : badArg p a t g
  · rw [if_pos h2]; exact .no 1 (by decide) (.inl (by decide))
  rw [if_neg h2]
  by_cases h3 : goes p a t g w
  · rw [if_pos h3]; exact .whole h3.1 h3.2.1 h3.2.2 h1 h2
  rw [if_neg h3]
  have hr : amSize p w > 0 := Decidable.byContradiction fun h => h1 (.inr h)
  obtain ⟨hw, hf1, hf2, hsn, hfo, ho1, ho2, hpl⟩ := amSize_ok hr
  have g1 := hfo.one
  have g2 := hfo.most
  have g3 := hfo.fits
  have hhr := amHead_range p.part w
  have hht := amHead_range true w
  have hsz0 := sizeV_range ((p.fs.length : Int) - 1) (lenW w)
  have hba : 0 ≤ a ∧ a < t ∧ t ≤ total p.fs ∧ 0 ≤ g ∧ g ≤ 4096 := by
    refine ⟨?_, ?_, ?_, ?_, ?_⟩ <;> refine Decidable.byContradiction fun h => h2 ?_
    · exact .inr (.inr (.inl (by omega)))
    · exact .inr (.inr (.inr (.inl (by omega))))
    · exact .inr (.inr (.inr (.inr (by omega))))
    · exact .inl (by omega)
    · exact .inr (.inl (by omega))
  obtain ⟨s1, s2, s3, s4⟩ := cutEnd_spec (fs := p.fs) (room := min g 4000 - amHead true w) (lw := lenW w) (a := a.toNat) (t.toNat - a.toNat) a.toNat
  rw [show cutEnd p.fs (min g 4000 - amHead true w) (lenW w) a.toNat (t.toNat - a.toNat) a.toNat = cutAt p a t g w from rfl] at s1 s2 s3 s4
  by_cases h4 : cutAt p a t g w = a.toNat
  · rw [if_pos h4]
    refine .no 16 (by decide) (.inr ?_)
    have hk := s4 (by omega)
    rw [h4] at hk
    unfold okB at hk
    have hl : (pcs p.fs a.toNat (a.toNat + 1)).length = 1 := by
      have hn := pcs_new (fs := p.fs) (a := a.toNat) (x := a.toNat) (y := a.toNat + 1) (Nat.le_refl _) (Nat.lt_succ_self _) (by omega) (.inl rfl) (fun z h1 h2 => by omega)
      rw [hn, pcs_nil (Nat.le_refl _)]; rfl
    rw [hl] at hk
    have hz : sizeV (((1 : Nat) : Int) - 1) (lenW w) = 0 := by unfold sizeV; rw [if_pos (.inr (.inl (by decide)))]
    rw [hz] at hk
    have hne : amHead true w ≠ 0 := by rcases hw with rfl | rfl <;> decide
    unfold leastV
    rw [if_neg hne]
    omega
  · rw [if_neg h4]
    generalize cutAt p a t g w = x at *
    have hax : a.toNat < x := by omega
    have hk := s3 (x - 1) (by omega) (by omega)
    unfold okB at hk
    rw [show x - 1 + 1 = x by omega] at hk
    have hpl := pcs_len (fs := p.fs) (a := a.toNat) (b := x)
    have hpp := pcs_pos (fs := p.fs) hax (by omega)
    have hpc := pcs_total (fs := p.fs) (a := a.toNat) (b := x) (by omega) (by omega)
    have hst : amSize (cutPk p a.toNat x) w = amHead true w + sizeV (((pcs p.fs a.toNat x).length : Int) - 1) (lenW w) + (x - a) := by
      have hnb : ¬ amBad (cutPk p a.toNat x) w := by
        have hfr := cutFi_range p a.toNat x
        rintro (h | h)
        · rcases h with h | h | h | h
          · rw [amWidth_iff.2 hw] at h; cases h
          · have : cutFi p a.toNat x < 0 := h; omega
          · have : cutFi p a.toNat x > 3 := h; omega
          · rw [show (cutPk p a.toNat x).sn = p.sn from rfl, hsn] at h; cases h
        · rcases h with h | h | h
          · cases h.1
          · have : ((a.toNat : Nat) : Int) < 0 := h; omega
          · have h : ((a.toNat : Nat) : Int) ≥ offTop w := h
            have : offTop w ≥ 32768 := by unfold offTop; split <;> omega
            omega
      unfold amSize
      rw [if_neg hnb]
      show fieldsV (pcs p.fs a.toNat x) (amHead true w) (lenW w) = _
      unfold fieldsV
      rw [if_neg (by omega), fieldsBad_no (fun i hi => ?_), if_neg (by decide), if_neg (by omega)]
      · omega
      · rw [fieldBad_get hi]
        refine decide_eq_false ?_
        rintro (h | ⟨h, h'⟩)
        · exact pcs_ne (List.getElem_mem hi) h
        · have := pcs_bound (B := 2047) (fs := p.fs) (a := a.toNat) (b := x) (fun j hj hj2 => (hfo.each j hj).2 hj2) i hi h'
          omega
    have hsz := sizeV_range (((pcs p.fs a.toNat x).length : Int) - 1) (lenW w)
    exact .part x h1 h2 h3 (by omega) (by omega) (by omega) (by omega) hst ⟨hpp, by omega⟩
end Go.Proofs.Ytgobbmdbkmjlnaa
/-
  What came in parts: a packet's parts, cut anew, make it; plain.
-/
namespace Go.Proofs.Ytgobbmdbkmjlnaa
set_option linter.unusedVariables false
set_option linter.unusedSimpArgs false
set_option maxRecDepth 20000
open Go Go.Am

def bitC (c : List Bool) (i : Nat) : Bool := (c[i]?).getD false
theorem edge_pcs : ∀ {fs : List (List UInt8)} {a b k : Nat}, a < k → k < b → b ≤ total fs → edge (pcs fs a b) (k - a) = edge fs k
  | [], a, b, k, h1, h2, h3 => by have : total [] = 0 := rfl; omega
  | f :: fs, a, b, k, h1, h2, h3 => by
    rw [total_cons] at h3
    by_cases ha : f.length ≤ a
    · rw [pcs_skip ha, edge_skip (x := k) (by omega), ← edge_pcs (fs := fs) (a := a - f.length) (b := b - f.length) (k := k - f.length) (by omega) (by omega) (by omega)]
      congr 1; omega
    · rw [pcs_here (by omega) (by omega)]
      have hlen : ((f.take b).drop a).length = min b f.length - a := by rw [List.length_drop, List.length_take]
      by_cases hk : k < f.length
      · rw [edge_in (x := k) (by omega) hk, edge_in (by omega) (by rw [hlen]; omega)]
      · rw [edge_skip (x := k) (by omega), edge_skip (by rw [hlen]; omega), hlen, Nat.min_eq_right (by omega)]
        by_cases hk2 : k = f.length
        · subst hk2
          rw [show f.length - a - (f.length - a) = 0 by omega, Nat.sub_self, edge_zero, edge_zero]
        · rw [← edge_pcs (fs := fs) (a := 0) (b := b - f.length) (k := k - f.length) (by omega) (by omega) (by omega)]
          congr 1; omega
/-- A part of a packet's bytes, from a to b. -/
structure PartOf (p : Pk) (a b : Nat) (q : Pk) : Prop where
  ab : a < b
  bn : b ≤ total p.fs
  sn : q.sn = p.sn
  off : q.off = (a : Int)
  fs : q.fs = pcs p.fs a b
  ends : endsB q = decide (b = total p.fs)
  w : wth q.fi = true ↔ (edge p.fs a = false ∨ (a = 0 ∧ wth p.fi = true))
  c : ctg q.fi = true ↔ (edge p.fs b = false ∨ (b = total p.fs ∧ ctg p.fi = true))
  fi : 0 ≤ q.fi ∧ q.fi ≤ 3
  right : rightB q = true
theorem PartOf.tot {p q : Pk} {a b : Nat} (h : PartOf p a b q) : total q.fs = b - a := by rw [h.fs]; exact pcs_total (by have := h.ab; omega) h.bn
theorem PartOf.span {p q : Pk} {a b : Nat} (h : PartOf p a b q) : spanP q = ((a : Int), (b : Int)) := by
  have := h.tot; have := h.ab
  unfold spanP; rw [h.off]; congr 1; omega
theorem PartOf.data {p q : Pk} {a b : Nat} (h : PartOf p a b q) : q.fs.flatten = (p.fs.flatten.take b).drop a := by rw [h.fs]; exact pcs_flat (by have := h.ab; omega)
/-- What is there of the packet. -/
structure MInv (p : Pk) (came : List Bool) (x : PV) : Prop where
  sn : x.sn = p.sn
  l : ∀ k : Int, hasP x.l k ↔ 0 ≤ k ∧ k < (total p.fs : Int) ∧ bitC came k.toNat = true
  e : x.e = if bitC came (total p.fs - 1) = true then (total p.fs : Int) else -1
  D : ∀ k, k < total p.fs → bitC came k = true → x.D[k]? = p.fs.flatten[k]?
  em1 : ∀ k : Nat, 0 < k → k < total p.fs → hasE x.em k = true → edge p.fs k = true
  em2 : ∀ k : Nat, 0 < k → k < total p.fs → bitC came k = true → edge p.fs k = true → hasE x.em k = true
  fi : x.fi = (if bitC came 0 = true ∧ wth p.fi = true then 2 else 0) + (if bitC came (total p.fs - 1) = true ∧ ctg p.fi = true then 1 else 0)
def allC (c : List Bool) (a b : Nat) : Bool := (List.range (b - a)).all fun i => bitC c (a + i)
theorem allC_iff {c : List Bool} {a b : Nat} : allC c a b = true ↔ ∀ k, a ≤ k → k < b → bitC c k = true := by
  unfold allC
  rw [List.all_eq_true]
  constructor
  · intro h k h1 h2
    have := h (k - a) (List.mem_range.2 (by omega))
    rwa [show a + (k - a) = k by omega] at this
  · intro h i hi
    exact h _ (by omega) (by have := List.mem_range.1 hi; omega)
section
variable {p q : Pk} {a b : Nat} {came : List Bool} {x : PV}
theorem MInv.has (m : MInv p came x) (ok : x.Ok) (h : PartOf p a b q) (hn : total p.fs ≤ 4000) : hasS (spanP q) x.l = allC came a b := by
  have h1 := h.ab; have h2 := h.bn
  have hy := spanP_right h.right
  rw [h.span] at hy ⊢
  have e : hasS ((a : Int), (b : Int)) x.l = true ↔ allC came a b = true := by
    rw [hasS_iff ok.so, allC_iff]
    constructor
    · rintro ⟨_, k⟩ i g1 g2
      have := ((m.l i).1 (k i (by dsimp only; omega) (by dsimp only; omega))).2.2
      simpa using this
    · intro k
      refine ⟨hy, fun i g1 g2 => (m.l i).2 ⟨by dsimp only at g1; omega, by dsimp only at g2; omega, k _ (by dsimp only at g1; omega) (by dsimp only at g1 g2; omega)⟩⟩
  cases h3 : hasS ((a : Int), (b : Int)) x.l <;> cases h4 : allC came a b <;> simp_all
theorem MInv.code (m : MInv p came x) (ok : x.Ok) (h : PartOf p a b q) (hn : total p.fs ≤ 4000) :
    (allC came a b = true ∧ putK q x.l x.e = 12) ∨ (allC came a b = false ∧ (putK q x.l x.e = 0 ∨ putK q x.l x.e = 5)) := by
  have h1 := h.ab; have h2 := h.bn
  have hh := m.has ok h hn
  have hfit : fitsC x.l x.e (spanP q) (endsB q) = if hasS (spanP q) x.l = true then 12 else 0 := by
    unfold fitsC
    rw [if_neg]
    rw [h.ends, h.span]
    dsimp only
    rintro (⟨g1, g2⟩ | ⟨g1, g2⟩)
    · have he := m.e
      by_cases hc : bitC came (total p.fs - 1) = true
      · rw [if_pos hc] at he
        rw [decide_eq_true_iff] at g2
        omega
      · rw [if_neg hc] at he; exact g1 he
    · rw [decide_eq_true_iff] at g1
      have := (topL_le ok.so (b := (b : Int)) (by omega)).2 fun k hk => by have := (m.l k).1 hk; omega
      omega
  unfold putK
  rw [if_neg (by rw [h.right]; simp), hfit, hh]
  cases hc : allC came a b
  · refine .inr ⟨rfl, ?_⟩
    simp only [Bool.false_eq_true, if_false, ne_eq, not_true_eq_false]
    unfold addC spCode
    rw [if_pos (spanP_right h.right)]
    split
    · exact .inr rfl
    · exact .inl rfl
  · exact .inl ⟨rfl, by simp⟩
/-- Bytes that are filled in. -/
theorem fillN_get {l : List Sp} {f : Nat} {d D : List UInt8} : ∀ {k j : Nat}, k ≤ d.length → f + d.length ≤ D.length → (fillN l f d D k)[j]? = if f ≤ j ∧ j < f + k ∧ hasS ((j : Int), (j : Int) + 1) l = false then d[j - f]? else D[j]?
  | 0, j, _, _ => by
    rw [if_neg (by omega)]; rfl
  | k + 1, j, hk, hD => by
    have ih := fillN_get (l := l) (f := f) (d := d) (D := D) (k := k) (j := j) (by omega) hD
    have hlen := fillN_len l f d D k
    have e : fillN l f d D (k + 1) = if hasS ((f : Int) + (k : Int), (f : Int) + (k : Int) + 1) l = true then fillN l f d D k else (fillN l f d D k).set (f + k) (d[k]?.getD 0) := rfl
    rw [e]
    by_cases hj : j = f + k
    · subst hj
      rw [show (((f + k : Nat)) : Int) = (f : Int) + (k : Int) by omega] at ih ⊢
      rw [if_neg (by omega)] at ih
      by_cases hh : hasS ((f : Int) + (k : Int), (f : Int) + (k : Int) + 1) l = true
      · rw [if_pos hh, if_neg (by rw [hh]; simp)]; exact ih
      · have hh' : hasS ((f : Int) + (k : Int), (f : Int) + (k : Int) + 1) l = false := by simpa using hh
        rw [if_neg hh, if_pos ⟨by omega, by omega, hh'⟩, List.getElem?_set_self (by omega), show f + k - f = k by omega, List.getElem?_eq_getElem (by omega)]; rfl
    · have same : (if hasS ((f : Int) + (k : Int), (f : Int) + (k : Int) + 1) l = true then fillN l f d D k else (fillN l f d D k).set (f + k) (d[k]?.getD 0))[j]? = (fillN l f d D k)[j]? := by
        split
        · rfl
        · rw [List.getElem?_set_ne (fun e => hj e.symm)]
      rw [same, ih]
      by_cases hc : f ≤ j ∧ j < f + k ∧ hasS ((j : Int), (j : Int) + 1) l = false
      · rw [if_pos hc, if_pos ⟨hc.1, by omega, hc.2.2⟩]
      · rw [if_neg hc, if_neg (fun g => hc ⟨g.1, by omega, g.2.2⟩)]
theorem hasE_note1 {em : List (Int × AVal)} {k : Int} : hasE (note1 q em) k = (hasE em k || decide (q.off ≠ 0 ∧ bitsOp .and .i64 q.fi 2 = 0 ∧ k = q.off)) := by
  unfold note1
  by_cases h0 : q.off = 0
  · rw [if_pos h0]; simp [h0]
  · rw [if_neg h0]
    by_cases hb : bitsOp .and .i64 q.fi 2 = 0
    · rw [if_pos hb, hasE_set]; simp [h0, hb, Bool.or_comm]
    · rw [if_neg hb]; simp [hb]
theorem hasE_noteN {em : List (Int × AVal)} {k : Int} : ∀ m, hasE (noteN q em m) k = true ↔ hasE em k = true ∨ ∃ i, 0 < i ∧ i < m ∧ k = q.off + (total (q.fs.take i) : Int)
  | 0 => ⟨.inl, fun h => h.elim id fun ⟨i, _, h, _⟩ => absurd h (by omega)⟩
  | m + 1 => by
    have e : noteN q em (m + 1) = if m > 0 then mapSet (noteN q em m) (q.off + (total (q.fs.take m) : Int)) trueV else noteN q em m := rfl
    have ih := hasE_noteN (em := em) (k := k) m
    have ext : (∃ i, 0 < i ∧ i < m + 1 ∧ k = q.off + (total (q.fs.take i) : Int)) ↔ (∃ i, 0 < i ∧ i < m ∧ k = q.off + (total (q.fs.take i) : Int)) ∨ (m > 0 ∧ k = q.off + (total (q.fs.take m) : Int)) := by
      constructor
      · rintro ⟨i, h1, h2, h3⟩
        by_cases hi : i = m
        · subst hi; exact .inr ⟨h1, h3⟩
        · exact .inl ⟨i, h1, by omega, h3⟩
      · rintro (⟨i, h1, h2, h3⟩ | ⟨h1, h2⟩)
        · exact ⟨i, h1, by omega, h3⟩
        · exact ⟨m, h1, by omega, h2⟩
    rw [e, ext]
    by_cases hm : m > 0
    · rw [if_pos hm, hasE_set, Bool.or_eq_true, decide_eq_true_iff, ih]
      constructor
      · rintro (h | h | h)
        · exact .inr (.inr ⟨hm, h⟩)
        · exact .inl h
        · exact .inr (.inl h)
      · rintro (h | h | h)
        · exact .inr (.inl h)
        · exact .inr (.inr h)
        · exact .inl h.2
    · rw [if_neg hm, ih]
      constructor
      · rintro (h | h)
        · exact .inl h
        · exact .inr (.inl h)
      · rintro (h | h | h)
        · exact .inl h
        · exact .inr h
        · exact absurd h.1 hm
theorem hasE_noteM {ends : Bool} {em : List (Int × AVal)} {k : Int} : hasE (noteM q ends em) k = true ↔ hasE em k = true ∨ (q.off ≠ 0 ∧ bitsOp .and .i64 q.fi 2 = 0 ∧ k = q.off) ∨ (∃ i, 0 < i ∧ i < q.fs.length ∧ k = q.off + (total (q.fs.take i) : Int)) ∨ (ends = false ∧ bitsOp .and .i64 q.fi 1 = 0 ∧ k = q.off + (total q.fs : Int)) := by
  have hN : hasE (noteN q (note1 q em) q.fs.length) k = true ↔ hasE em k = true ∨ (q.off ≠ 0 ∧ bitsOp .and .i64 q.fi 2 = 0 ∧ k = q.off) ∨ (∃ i, 0 < i ∧ i < q.fs.length ∧ k = q.off + (total (q.fs.take i) : Int)) := by
    rw [hasE_noteN, hasE_note1, Bool.or_eq_true, decide_eq_true_iff, or_assoc]
  unfold noteM
  cases ends
  · rw [if_neg (by simp)]
    by_cases hb : bitsOp .and .i64 q.fi 1 = 0
    · rw [if_pos hb, hasE_set, Bool.or_eq_true, decide_eq_true_iff, hN]
      constructor
      · rintro (h | h | h | h)
        · exact .inr (.inr (.inr ⟨rfl, hb, h⟩))
        · exact .inl h
        · exact .inr (.inl h)
        · exact .inr (.inr (.inl h))
      · rintro (h | h | h | h)
        · exact .inr (.inl h)
        · exact .inr (.inr (.inl h))
        · exact .inr (.inr (.inr h))
        · exact .inl h.2.2
    · rw [if_neg hb, hN]
      constructor
      · rintro (h | h | h)
        · exact .inl h
        · exact .inr (.inl h)
        · exact .inr (.inr (.inl h))
      · rintro (h | h | h | h)
        · exact .inl h
        · exact .inr (.inl h)
        · exact .inr (.inr h)
        · exact absurd h.2.1 hb
  · rw [if_pos rfl, hN]
    constructor
    · rintro (h | h | h)
      · exact .inl h
      · exact .inr (.inl h)
      · exact .inr (.inr (.inl h))
    · rintro (h | h | h | h)
      · exact .inl h
      · exact .inr (.inl h)
      · exact .inr (.inr h)
      · cases h.1
end
end Go.Proofs.Ytgobbmdbkmjlnaa
/-
  What came in parts: a part more, and the end; plain.
-/
namespace Go.Proofs.Ytgobbmdbkmjlnaa
set_option linter.unusedVariables false
set_option linter.unusedSimpArgs false
set_option maxRecDepth 20000
open Go Go.Am

theorem total_pos {fs : List (List UInt8)} (h : ∀ f ∈ fs, f.length ≠ 0) : ∀ {i : Nat}, i < fs.length → total (fs.take i) < total fs := by
  intro i hi
  have h1 := total_get (l := fs.drop i) (i := 0) (by rw [List.length_drop]; omega)
  have h2 : ((fs.drop i)[0]'(by rw [List.length_drop]; omega)).length ≠ 0 := h _ (List.mem_of_mem_drop (List.getElem_mem _))
  have h3 : total fs = total (fs.take i) + total (fs.drop i) := by
    conv => lhs; rw [← List.take_append_drop i fs]
    unfold total; rw [List.flatten_append, List.length_append]
  omega
theorem total_pos0 {fs : List (List UInt8)} (h : ∀ f ∈ fs, f.length ≠ 0) {i : Nat} (h0 : 0 < i) (hi : i ≤ fs.length) : 0 < total (fs.take i) := by
  have := total_pos (fs := fs.take i) (i := 0) (fun f hf => h f (List.mem_of_mem_take hf)) (by rw [List.length_take]; omega)
  omega
theorem cut_part {p : Pk} {a : Nat} {g w : Int} (h1 : p.part = false) (h2 : amSize p w > 0) (h3 : a < total p.fs) (h4 : leastV w ≤ g) (h5 : 0 ≤ g ∧ g ≤ 4096) :
    ∃ q b, cutRes p a (total p.fs) g w = (q, ((b : Nat) : Int), 0) ∧ PartOf p a b q := by
  obtain ⟨hw, hf1, hf2, hsn, hfo, ho1, ho2, hpl⟩ := amSize_ok h2
  obtain ⟨hl, ho⟩ := hpl h1
  have g1 := hfo.one
  have g2 := hfo.most
  have g3 := hfo.fits
  have hr := amHead_range p.part w
  have hsz := sizeV_range ((p.fs.length : Int) - 1) (lenW w)
  have hne : ∀ f ∈ p.fs, f.length ≠ 0 := fun f hf => by
    obtain ⟨i, hi, rfl⟩ := List.getElem_of_mem hf
    have := (hfo.each i hi).1; omega
  have nf : ¬ noForm p w := by rintro (h | h)
                               · rw [h1] at h; cases h
                               · exact h h2
  have nb : ¬ badArg p a (total p.fs) g := by unfold badArg; omega
  have hc : (cutRes p a (total p.fs) g w).2.2 = 0 ∨ (cutRes p a (total p.fs) g w).2.2 = 16 := by
    unfold cutRes
    rw [if_neg nf, if_neg nb]
    repeat' split
    · exact .inl rfl
    · exact .inr rfl
    · exact .inl rfl
  have hg := cut_gives p a (total p.fs) g w
  generalize cutRes p a (total p.fs) g w = r at hc hg
  have hrp : ∀ (q : Pk), (∀ f ∈ q.fs, f.length ≠ 0) → 1 ≤ q.fs.length → q.fs.length ≤ 24 → 0 ≤ q.fi ∧ q.fi ≤ 3 → 0 ≤ q.off → (q.part = true ∨ q.off = 0) → q.off + (total q.fs : Int) ≤ 4000 → rightB q = true := fun q k1 k2 k3 k4 k5 k6 k7 => by
    have hh : hollowB q.fs = false := Bool.eq_false_iff.2 fun hb => by
      obtain ⟨f, hf, he⟩ := List.any_eq_true.1 hb
      exact k1 f hf (by rw [of_decide_eq_true he]; rfl)
    unfold rightB
    simp only [Bool.and_eq_true, Bool.not_eq_true', Bool.or_eq_false_iff, decide_eq_false_iff_not, decide_eq_true_eq, Bool.or_eq_true]
    refine ⟨⟨⟨⟨⟨by omega, by omega⟩, hh⟩, by omega⟩, by omega⟩, ⟨⟨k5, by omega⟩, k6⟩, by omega⟩
  cases hg with
  | no c h0 h => rcases hc with hc | hc <;> dsimp only at hc <;> omega
  | whole q1 q2 q3 q4 q5 =>
    have ha : a = 0 := by omega
    subst ha
    refine ⟨_, _, rfl, ⟨h3, Nat.le_refl _, rfl, by dsimp only; omega, (pcs_all hne).symm, ?_, ?_, ?_, ⟨hf1, hf2⟩, ?_⟩⟩
    · unfold endsB; dsimp only; rw [h1]; simp
    · dsimp only; rw [edge_zero]; simp
    · dsimp only; rw [edge_top]; simp
    · exact hrp _ hne g1 g2 ⟨hf1, hf2⟩ (by dsimp only; omega) (.inr ho) (by dsimp only; omega)
  | part x q1 q2 q3 q4 q5 q6 q7 q8 q9 =>
    have hax : a < x := by omega
    have hxn : x ≤ total p.fs := by omega
    have ht : total (pcs p.fs a x) = x - a := pcs_total (by omega) hxn
    rw [Int.toNat_natCast] at *
    have hfr := cutFi_range p a x
    refine ⟨_, x, rfl, ⟨hax, hxn, rfl, rfl, rfl, ?_, ?_, ?_, hfr, ?_⟩⟩
    · unfold endsB cutPk; simp
    · show wth (cutFi p a x) = true ↔ _
      unfold wth cutFi
      rw [decide_eq_true_iff]
      by_cases e1 : edge p.fs a = false ∨ (a = 0 ∧ wth p.fi = true)
      · rw [if_pos e1]
        refine ⟨fun _ => e1, fun _ => ?_⟩
        split <;> omega
      · rw [if_neg e1]
        refine ⟨fun h => ?_, fun h => absurd h e1⟩
        split at h <;> omega
    · show ctg (cutFi p a x) = true ↔ _
      unfold ctg cutFi
      rw [decide_eq_true_iff]
      by_cases e1 : edge p.fs x = false ∨ (x = total p.fs ∧ ctg p.fi = true)
      · rw [if_pos e1]
        refine ⟨fun _ => e1, fun _ => ?_⟩
        split <;> omega
      · rw [if_neg e1]
        refine ⟨fun h => ?_, fun h => absurd h e1⟩
        split at h <;> omega
    · refine hrp _ (fun f hf => pcs_ne hf) q9.1 (Nat.le_trans q9.2 g2) hfr ?_ (.inl rfl) ?_
      · show 0 ≤ ((a : Nat) : Int); omega
      · show ((a : Nat) : Int) + (total (pcs p.fs a x) : Int) ≤ 4000
        omega
def fiV (A B : Bool) : Int := (if A = true then 2 else 0) + (if B = true then 1 else 0)
theorem fi_or2 : ∀ A B w : Bool, bitsOp .or .i64 (fiV A B) (if w = true then 2 else 0) = fiV (A || w) B := by decide +kernel
theorem fi_or1 : ∀ A B w : Bool, bitsOp .or .i64 (fiV A B) (if w = true then 1 else 0) = fiV A (B || w) := by decide +kernel
theorem MInv.congr {p : Pk} {c c' : List Bool} {x : PV} (m : MInv p c x) (h : ∀ k, bitC c' k = bitC c k) : MInv p c' x :=
  ⟨m.sn, fun k => by rw [h]; exact m.l k, by rw [h]; exact m.e, fun k hk hc => m.D k hk (by rw [← h]; exact hc), m.em1, fun k h0 hk hc => m.em2 k h0 hk (by rw [← h]; exact hc), by rw [h, h]; exact m.fi⟩
theorem MInv.fresh {p : Pk} {c : List Bool} (h : ∀ k, bitC c k = false) : MInv p c (freshV p.sn) :=
  ⟨rfl, fun k => by rw [h]; simp [freshV, has_nil], by rw [h]; rfl, fun k hk hc => (by rw [h] at hc; cases hc), fun k h0 hk hc => (by cases hc), fun k h0 hk hc => (by rw [h] at hc; cases hc), by rw [h, h]; simp [freshV]⟩
theorem MInv.step {p q : Pk} {a b : Nat} {c c' : List Bool} {x : PV} (m : MInv p c x) (ok : x.Ok) (h : PartOf p a b q) (hn : total p.fs ≤ 4000) (h0 : putK q x.l x.e = 0)
    (hc : ∀ k, k < total p.fs → bitC c' k = (bitC c k || decide (a ≤ k ∧ k < b))) : MInv p c' (updV x q) := by
  obtain ⟨hr, hf, ha⟩ := putK_zero h0
  have hab := h.ab; have hbn := h.bn; have htot := h.tot; have hoff := h.off
  have hfl := h.data
  have hne : ∀ f ∈ q.fs, f.length ≠ 0 := fun f hf => by rw [h.fs] at hf; exact pcs_ne hf
  have hhas : ∀ k : Nat, k < total p.fs → (hasS ((k : Int), (k : Int) + 1) x.l = true ↔ bitC c k = true) := fun k hk => by
    rw [hasS_iff ok.so]
    constructor
    · rintro ⟨_, g⟩
      have := ((m.l k).1 (g k (Int.le_refl _) (by dsimp only; omega))).2.2
      simpa using this
    · intro g
      refine ⟨spRight_iff.2 ⟨by dsimp only; omega, by dsimp only; omega, by dsimp only; omega⟩, fun i g1 g2 => ?_⟩
      dsimp only at g1 g2
      have : i = (k : Int) := by omega
      subst this
      exact (m.l _).2 ⟨by omega, by omega, by simpa using g⟩
  have hends : endsB q = true ↔ b = total p.fs := by rw [h.ends, decide_eq_true_iff]
  refine ⟨m.sn, fun k => ?_, ?_, fun k hk hk' => ?_, fun k hk0 hk hh => ?_, fun k hk0 hk hk' he => ?_, ?_⟩
  · show hasP (addS (spanP q) x.l) k ↔ _
    rw [add_has ok.so ha, m.l k, h.span]
    dsimp only
    constructor
    · rintro (⟨g1, g2, g3⟩ | ⟨g1, g2⟩)
      · exact ⟨g1, g2, by rw [hc _ (by omega), g3]; rfl⟩
      · exact ⟨by omega, by omega, by rw [hc _ (by omega), decide_eq_true (by omega), Bool.or_true]⟩
    · rintro ⟨g1, g2, g3⟩
      rw [hc _ (by omega), Bool.or_eq_true, decide_eq_true_iff] at g3
      rcases g3 with g3 | g3
      · exact .inl ⟨g1, g2, g3⟩
      · exact .inr ⟨by omega, by omega⟩
  · show noteE q (endsB q) x.e = _
    rw [hc _ (by omega)]
    unfold noteE
    by_cases hb : b = total p.fs
    · rw [if_pos (hends.2 hb), decide_eq_true (by omega), Bool.or_true, if_pos rfl, hoff, htot]; omega
    · rw [if_neg (fun g => hb (hends.1 g)), decide_eq_false (by omega), Bool.or_false]
      exact m.e
  · show (fillB x.l q.off.toNat q.fs.flatten x.D)[k]? = _
    have hql : q.fs.flatten.length = b - a := htot
    unfold fillB
    rw [hoff, Int.toNat_natCast, fillN_get (Nat.le_refl _) (by rw [wideB_len]; omega), hql]
    rw [hc k hk, Bool.or_eq_true, decide_eq_true_iff] at hk'
    by_cases hck : bitC c k = true
    · rw [if_neg (fun g => by have := (hhas k hk).2 hck; rw [g.2.2] at this; cases this)]
      have hp := (m.l (k : Int)).2 ⟨by omega, by omega, by simpa using hck⟩
      obtain ⟨y, hy, y1, y2⟩ := hp
      have := ok.inD y hy
      unfold wideB
      split
      · rw [List.getElem?_append_left (by omega)]; exact m.D k hk hck
      · exact m.D k hk hck
    · have hab' : a ≤ k ∧ k < b := hk'.resolve_left hck
      have hs : hasS ((k : Int), (k : Int) + 1) x.l = false := by
        cases e : hasS ((k : Int), (k : Int) + 1) x.l
        · rfl
        · exact absurd ((hhas k hk).1 e) hck
      rw [if_pos ⟨hab'.1, by omega, hs⟩, hfl, List.getElem?_drop, List.getElem?_take_of_lt (by omega)]
      congr 1; omega
  · have hh' : hasE (noteM q (endsB q) x.em) (k : Int) = true := hh
    rw [hasE_noteM] at hh'
    rcases hh' with g | ⟨g1, g2, g3⟩ | ⟨i, g1, g2, g3⟩ | ⟨g1, g2, g3⟩
    · exact m.em1 k hk0 hk g
    · have hka : k = a := by omega
      subst hka
      rw [(bits2 h.fi).1] at g2
      have hw : ¬ wth q.fi = true := fun e => by rw [if_pos e] at g2; cases g2
      rw [h.w] at hw
      cases e : edge p.fs k
      · exact absurd (.inl e) hw
      · rfl
    · have h1 := total_pos hne g2
      have h2 := total_pos0 hne g1 (by omega)
      have hk2 : k = a + total (q.fs.take i) := by omega
      rw [← edge_pcs (a := a) (b := b) (k := k) (by omega) (by omega) hbn, ← h.fs, edge_iff]
      exact ⟨i, by omega, by omega⟩
    · have hkb : k = b := by omega
      subst hkb
      rw [(bits2 h.fi).2] at g2
      have hw : ¬ ctg q.fi = true := fun e => by rw [if_pos e] at g2; cases g2
      rw [h.c] at hw
      cases e : edge p.fs k
      · exact absurd (.inl e) hw
      · rfl
  · show hasE (noteM q (endsB q) x.em) (k : Int) = true
    rw [hasE_noteM]
    by_cases hck : bitC c k = true
    · exact .inl (m.em2 k hk0 hk hck he)
    · rw [hc k hk, Bool.or_eq_true, decide_eq_true_iff] at hk'
      have hab' : a ≤ k ∧ k < b := hk'.resolve_left hck
      by_cases hka : k = a
      · subst hka
        refine .inr (.inl ⟨by omega, ?_, hoff.symm⟩)
        rw [(bits2 h.fi).1, if_neg]
        rw [h.w]
        rintro (g | g)
        · rw [he] at g; cases g
        · omega
      · have e2 := he
        rw [← edge_pcs (a := a) (b := b) (k := k) (by omega) (by omega) hbn, ← h.fs, edge_iff] at e2
        obtain ⟨i, i1, i2⟩ := e2
        refine .inr (.inr (.inl ⟨i, ?_, ?_, by omega⟩))
        · refine Nat.pos_of_ne_zero fun e => ?_
          subst e
          simp [total] at i2; omega
        · refine Nat.lt_of_le_of_ne i1 fun e => ?_
          subst e
          rw [List.take_length] at i2; omega
  · show noteF q (endsB q) x.fi = _
    have hfi : x.fi = fiV (bitC c 0 && wth p.fi) (bitC c (total p.fs - 1) && ctg p.fi) := by
      rw [m.fi]; unfold fiV
      simp only [Bool.and_eq_true]
    have goal : noteF q (endsB q) x.fi = fiV (bitC c' 0 && wth p.fi) (bitC c' (total p.fs - 1) && ctg p.fi) := by
      unfold noteF noteF1
      rw [(bits2 h.fi).1, (bits2 h.fi).2, hfi, hc 0 (by omega), hc _ (by omega), fi_or2]
      have w0 : q.off = 0 → wth q.fi = wth p.fi := fun e => by
        have ha0 : a = 0 := by omega
        have := h.w
        rw [ha0, edge_zero] at this
        cases e1 : wth q.fi <;> cases e2 : wth p.fi <;> simp_all
      have c0 : b = total p.fs → ctg q.fi = ctg p.fi := fun e => by
        have := h.c
        rw [e, edge_top] at this
        cases e1 : ctg q.fi <;> cases e2 : ctg p.fi <;> simp_all
      have d1 : decide (a ≤ 0 ∧ 0 < b) = decide (q.off = 0) := by rw [hoff]; exact decide_eq_decide.2 (by omega)
      have d2 : decide (a ≤ total p.fs - 1 ∧ total p.fs - 1 < b) = endsB q := by rw [h.ends]; exact decide_eq_decide.2 (by omega)
      rw [d1, d2]
      by_cases h1 : q.off = 0
      · rw [if_pos h1, decide_eq_true h1, w0 h1, Bool.or_true, Bool.true_and]
        have e3 : (bitC c 0 && wth p.fi || wth p.fi) = wth p.fi := by cases bitC c 0 <;> cases wth p.fi <;> rfl
        rw [e3]
        by_cases h2 : endsB q = true
        · rw [if_pos h2, h2, c0 (hends.1 h2), Bool.or_true, Bool.true_and, fi_or1]
          congr 1
          cases bitC c (total p.fs - 1) <;> cases ctg p.fi <;> rfl
        · rw [if_neg h2, Bool.eq_false_iff.2 h2, Bool.or_false]
      · rw [if_neg h1, decide_eq_false h1, Bool.or_false]
        by_cases h2 : endsB q = true
        · rw [if_pos h2, h2, c0 (hends.1 h2), Bool.or_true, Bool.true_and, fi_or1]
          congr 1
          cases bitC c (total p.fs - 1) <;> cases ctg p.fi <;> rfl
        · rw [if_neg h2, Bool.eq_false_iff.2 h2, Bool.or_false]
    rw [goal]; unfold fiV
    simp only [Bool.and_eq_true]
/-- All came: it is whole. -/
theorem MInv.whole {p : Pk} {c : List Bool} {x : PV} (m : MInv p c x) (ok : x.Ok) (h0 : 0 < total p.fs) (hn : total p.fs ≤ 4000) : wholeV x.l x.e = true ↔ ∀ k, k < total p.fs → bitC c k = true := by
  unfold wholeV
  rw [Bool.and_eq_true, decide_eq_true_iff]
  constructor
  · rintro ⟨h1, h2⟩ k hk
    have he := m.e
    by_cases hb : bitC c (total p.fs - 1) = true
    · rw [if_pos hb] at he
      have := ((m.l k).1 (((hasS_iff ok.so).1 h2).2 k (by dsimp only; omega) (by dsimp only; omega))).2.2
      simpa using this
    · rw [if_neg hb] at he; omega
  · intro h
    have he : x.e = (total p.fs : Int) := by rw [m.e, if_pos (h _ (by omega))]
    rw [he]
    refine ⟨by omega, (hasS_iff ok.so).2 ⟨spRight_iff.2 ⟨by dsimp only; omega, by dsimp only; omega, by dsimp only; omega⟩, fun i g1 g2 => (m.l i).2 ⟨by dsimp only at g1; omega, by dsimp only at g2; omega, h _ (by dsimp only at g1 g2; omega)⟩⟩⟩
theorem MInv.take {p : Pk} {c : List Bool} {x : PV} (m : MInv p c x) (hall : ∀ k, k < total p.fs → bitC c k = true) : ∀ k, k ≤ total p.fs →
    ∃ s, takeN x.D x.em (total p.fs : Int) k = (pcs p.fs 0 s, s) ∧ s ≤ k ∧ (s = 0 ∨ edge p.fs s = true) ∧ ∀ z, s < z → z ≤ k → edge p.fs z = false
  | 0, _ => ⟨0, by rw [pcs_nil (Nat.le_refl _)]; rfl, Nat.le_refl _, .inl rfl, fun z h1 h2 => by omega⟩
  | k + 1, hk => by
    obtain ⟨s, h1, h2, h3, h4⟩ := MInv.take m hall k (by omega)
    have e : takeN x.D x.em (total p.fs : Int) (k + 1) = if ((k : Int) + 1 = (total p.fs : Int) ∨ hasE x.em ((k : Int) + 1) = true) then ((takeN x.D x.em (total p.fs : Int) k).1 ++ [(x.D.take (k + 1)).drop (takeN x.D x.em (total p.fs : Int) k).2], k + 1) else takeN x.D x.em (total p.fs : Int) k := rfl
    have hcond : ((k : Int) + 1 = (total p.fs : Int) ∨ hasE x.em ((k : Int) + 1) = true) ↔ edge p.fs (k + 1) = true := by
      constructor
      · rintro (g | g)
        · rw [show k + 1 = total p.fs by omega]; exact edge_top _
        · by_cases hl : k + 1 < total p.fs
          · exact m.em1 (k + 1) (by omega) hl (by simpa using g)
          · rw [show k + 1 = total p.fs by omega]; exact edge_top _
      · intro g
        by_cases hl : k + 1 < total p.fs
        · exact .inr (by simpa using m.em2 (k + 1) (by omega) hl (hall _ hl) g)
        · exact .inl (by omega)
    rw [e, h1]
    by_cases hh : edge p.fs (k + 1) = true
    · rw [if_pos (hcond.2 hh)]
      refine ⟨k + 1, ?_, Nat.le_refl _, .inr hh, fun z g1 g2 => by omega⟩
      rw [pcs_new (a := 0) (x := s) (y := k + 1) (Nat.zero_le _) (by omega) hk h3 (fun z g1 g2 => h4 z g1 (by omega))]
      have : x.D.take (k + 1) = p.fs.flatten.take (k + 1) := by
        refine List.ext_getElem? fun j => ?_
        by_cases hj : j < k + 1
        · rw [List.getElem?_take_of_lt hj, List.getElem?_take_of_lt hj]; exact m.D j (by omega) (hall j (by omega))
        · rw [List.getElem?_take_eq_none (by omega), List.getElem?_take_eq_none (by omega)]
      rw [this]
    · rw [if_neg (fun g => hh (hcond.1 g))]
      refine ⟨s, rfl, by omega, h3, fun z g1 g2 => ?_⟩
      by_cases hz : z = k + 1
      · subst hz; exact Bool.eq_false_iff.2 hh
      · exact h4 z g1 (by omega)
theorem MInv.taken {p : Pk} {c : List Bool} {x : PV} (m : MInv p c x) (h0 : 0 < total p.fs) (hne : ∀ f ∈ p.fs, f.length ≠ 0) (hfi : 0 ≤ p.fi ∧ p.fi ≤ 3) (hall : ∀ k, k < total p.fs → bitC c k = true) :
    x.e = (total p.fs : Int) ∧ (takeN x.D x.em x.e x.e.toNat).1 = p.fs ∧ x.fi = p.fi := by
  have he : x.e = (total p.fs : Int) := by rw [m.e, if_pos (hall _ (by omega))]
  refine ⟨he, ?_, ?_⟩
  · obtain ⟨s, h1, h2, h3, h4⟩ := m.take hall (total p.fs) (Nat.le_refl _)
    have hs : s = total p.fs := by
      refine Nat.le_antisymm h2 (Nat.le_of_not_lt fun hlt => ?_)
      have := h4 _ hlt (Nat.le_refl _)
      rw [edge_top] at this; cases this
    rw [he, Int.toNat_natCast, h1, hs]
    exact pcs_all hne
  · rw [m.fi, hall 0 h0, hall _ (by omega)]
    simp only [true_and]
    unfold wth ctg
    obtain ⟨g1, g2⟩ := hfi
    simp only [decide_eq_true_eq]
    repeat' split
    all_goals omega
/-- The pieces that the parts make. -/
def MI (p : Pk) (c : List Bool) (S : List PV) : Prop := (S = [] ∧ ∀ k, bitC c k = false) ∨ ∃ x, S = [x] ∧ x.Ok ∧ MInv p c x
theorem MI.congr {p : Pk} {c c' : List Bool} {S : List PV} (m : MI p c S) (h : ∀ k, bitC c' k = bitC c k) : MI p c' S := by
  rcases m with ⟨rfl, h1⟩ | ⟨x, rfl, h1, h2⟩
  · exact .inl ⟨rfl, fun k => by rw [h]; exact h1 k⟩
  · exact .inr ⟨x, rfl, h1, h2.congr h⟩
theorem MI.put {p q : Pk} {a b : Nat} {c : List Bool} {S : List PV} (m : MI p c S) (hsn : inR p.sn) (h : PartOf p a b q) (hn : total p.fs ≤ 4000) (hok : ∀ x ∈ putV S q, x.Ok) :
    (allC c a b = true ∧ putS S q = 12 ∧ MI p c (putV S q)) ∨ (allC c a b = false ∧ putS S q = 5) ∨
    (allC c a b = false ∧ putS S q = 0 ∧ ∀ c', (∀ k, k < total p.fs → bitC c' k = (bitC c k || decide (a ≤ k ∧ k < b))) → MI p c' (putV S q)) := by
  have hq : q.sn = p.sn := h.sn
  have key : ∃ x, x.Ok ∧ MInv p c x ∧ putS S q = putK q x.l x.e ∧ (putS S q = 0 → putV S q = [updV x q]) := by
    rcases m with ⟨rfl, h1⟩ | ⟨x, rfl, h1, h2⟩
    · refine ⟨freshV p.sn, PV.Ok.fresh hsn, MInv.fresh h1, rfl, fun h0 => ?_⟩
      unfold putV
      rw [if_neg (by simpa using h0), ← hq]
      rfl
    · have hf : findS [x] q.sn = some x := by
        unfold findS
        rw [List.find?_cons]
        simp [hq, h2.sn]
      refine ⟨x, h1, h2, ?_, fun h0 => ?_⟩
      · unfold putS lS eS; rw [hf]
      · unfold putV
        rw [if_neg (by simpa using h0), hf]
        show [if x.sn = q.sn then updV x q else x] = _
        rw [if_pos (by rw [hq, h2.sn])]
  obtain ⟨x, h1, h2, h3, h4⟩ := key
  rcases h2.code h1 h hn with ⟨g1, g2⟩ | ⟨g1, g2 | g2⟩
  · refine .inl ⟨g1, by rw [h3, g2], ?_⟩
    rw [putV_no (by rw [h3, g2]; decide)]; exact m
  · refine .inr (.inr ⟨g1, by rw [h3, g2], fun c' hc' => ?_⟩)
    rw [h4 (by rw [h3, g2])] at hok ⊢
    exact .inr ⟨_, rfl, hok _ (List.mem_singleton.2 rfl), h2.step h1 h hn g2 hc'⟩
  · exact .inr (.inl ⟨g1, by rw [h3, g2]⟩)
theorem MI.whole {p : Pk} {c : List Bool} {S : List PV} (m : MI p c S) (h0 : 0 < total p.fs) (hn : total p.fs ≤ 4000) : wholeS S p.sn = true → ∀ k, k < total p.fs → bitC c k = true := by
  rcases m with ⟨rfl, h1⟩ | ⟨x, rfl, h1, h2⟩
  · intro h; cases h
  · intro h
    have hf : findS [x] p.sn = some x := by unfold findS; rw [List.find?_cons]; simp [h2.sn]
    unfold wholeS at h
    rw [hf] at h
    exact (h2.whole h1 h0 hn).1 h
theorem MI.take {p : Pk} {c : List Bool} {S : List PV} (m : MI p c S) (h0 : 0 < total p.fs) (hn : total p.fs ≤ 4000) (hne : ∀ f ∈ p.fs, f.length ≠ 0) (hfi : 0 ≤ p.fi ∧ p.fi ≤ 3) (hall : ∀ k, k < total p.fs → bitC c k = true) :
    takeF S p.sn = (p.fi, p.fs) ∧ takeC S p.sn = 0 ∧ bytesS (takeS S p.sn) = 0 := by
  rcases m with ⟨rfl, h1⟩ | ⟨x, rfl, h1, h2⟩
  · have := h1 0; rw [hall 0 h0] at this; cases this
  · have hf : findS [x] p.sn = some x := by unfold findS; rw [List.find?_cons]; simp [h2.sn]
    have hw := (h2.whole h1 h0 hn).2 hall
    obtain ⟨t1, t2, t3⟩ := h2.taken h0 hne hfi hall
    unfold takeF takeC takeS wholeS
    rw [hf]
    dsimp only
    rw [if_pos hw, if_pos hw, if_pos hw, t2, t3]
    refine ⟨rfl, rfl, ?_⟩
    simp [h2.sn, bytesS]
end Go.Proofs.Ytgobbmdbkmjlnaa
/-
  Statement of what came in parts: a packet's parts, cut anew, make it: the walk.
-/
namespace Go.Proofs.Ytgobbmdbkmjlnaa
set_option linter.unusedVariables false
set_option linter.unusedSimpArgs false
set_option maxRecDepth 20000
open Go Go.Am

theorem Hp.joined {σb σ σ' : AHeap} {L M : List HE} (H : Hp σb L σ) (K : Hp σ M σ') : Hp σb (M ++ L) σ' := by
  have live : ∀ i, i ∈ ids L → σ i ≠ none := fun i hi => by
    obtain ⟨e, he, h⟩ := mem_ids.1 hi
    exact HE.live (H.ok e he) h
  have e : ids (M ++ L) = ids M ++ ids L := List.filterMap_append
  refine ⟨?_, ?_, ?_, ?_⟩
  · intro i o h; exact K.sub i o (H.sub i o h)
  · rw [e, List.nodup_append]
    exact ⟨K.nd, H.nd, fun a ha b hb e => live b hb (by rw [← e]; exact K.new a ha)⟩
  · intro x hx
    rcases List.mem_append.1 hx with hx | hx
    · exact K.ok x hx
    · exact HE.ok_sub (H.ok x hx) K.sub
  · intro i hi
    rw [e] at hi
    rcases List.mem_append.1 hi with hi | hi
    · have h1 := K.new i hi
      cases h2 : σb i with
      | none => rfl
      | some o => rw [H.sub i o h2] at h1; cases h1
    · exact H.new i hi
theorem XL.pushN {σb τ : AHeap} {ib im : Nat} {X : List PX} {A G : List HE} (H : Hp σb (A ++ XL ib im X G) τ) : Hp σb (XL ib im X (A ++ G)) τ :=
  Hp.mid2 (A := [.o ib (.cells (buC im)), .o im (.map (esX X))]) (B := A) (C := flatX X) (D := G) (Hp.mid (A := A) (B := [.o ib (.cells (buC im)), .o im (.map (esX X))]) (C := flatX X ++ G) H)
theorem XL.popN {σb τ : AHeap} {ib im : Nat} {X : List PX} {A G : List HE} (H : Hp σb (XL ib im X (A ++ G)) τ) : Hp σb (A ++ XL ib im X G) τ :=
  Hp.mid (A := [.o ib (.cells (buC im)), .o im (.map (esX X))]) (B := A) (C := flatX X ++ G) (Hp.mid2 (A := [.o ib (.cells (buC im)), .o im (.map (esX X))]) (B := flatX X) (C := A) (D := G) H)
theorem bools_get {L : List Bool} {i : Nat} (h : i < L.length) : (L.map boolv)[0 + ((i : Nat) : Int).toNat * 1]? = some (boolv (bitC L i)) := by
  rw [Nat.zero_add, Int.toNat_natCast, Nat.mul_one, List.getElem?_map, List.getElem?_eq_getElem h]; unfold bitC; rw [List.getElem?_eq_getElem h]; rfl
theorem bitC_set {l : List Bool} {p i : Nat} {b : Bool} (h : p < l.length) : bitC (l.set p b) i = if i = p then b else bitC l i := by
  unfold bitC
  rw [List.getElem?_set]
  by_cases e : p = i
  · subst e; rw [if_pos rfl, if_pos h, if_pos rfl]; rfl
  · rw [if_neg e, if_neg (fun h => e h.symm)]
theorem bitC_rep {n k : Nat} : bitC (List.replicate n false) k = false := by
  unfold bitC
  rw [List.getElem?_replicate]
  split <;> rfl
theorem bitC_no {l : List Bool} {i : Nat} (h : l.length ≤ i) : bitC l i = false := by unfold bitC; rw [List.getElem?_eq_none h]; rfl
theorem allC_nil {l : List Bool} {a : Nat} : allC l a a = true := allC_iff.2 fun k h1 h2 => by omega
theorem allC_snoc {l : List Bool} {a k : Nat} (h : a ≤ k) : allC l a (k + 1) = (allC l a k && bitC l k) := by
  have e : allC l a (k + 1) = true ↔ (allC l a k && bitC l k) = true := by
    rw [Bool.and_eq_true, allC_iff, allC_iff]
    constructor
    · intro g; exact ⟨fun j h1 h2 => g j h1 (by omega), g k h (by omega)⟩
    · rintro ⟨g1, g2⟩ j h1 h2
      by_cases hj : j = k
      · subst hj; exact g2
      · exact g1 j h1 (by omega)
  cases h1 : allC l a (k + 1) <;> cases h2 : (allC l a k && bitC l k) <;> simp_all
theorem allC_set {l : List Bool} {a k : Nat} {v : Bool} (h : k < l.length) : allC (l.set k v) a k = allC l a k := by
  have e : allC (l.set k v) a k = true ↔ allC l a k = true := by
    rw [allC_iff, allC_iff]
    constructor
    · intro g j h1 h2
      have := g j h1 h2
      rwa [bitC_set h, if_neg (by omega)] at this
    · intro g j h1 h2
      rw [bitC_set h, if_neg (by omega)]; exact g j h1 h2
  cases h1 : allC (l.set k v) a k <;> cases h2 : allC l a k <;> simp_all
theorem bools_set (L : List Bool) (k : Nat) (b : Bool) : (L.map boolv).set k (boolv b) = (L.set k b).map boolv := by rw [List.map_set]
theorem bools_rep (n : Nat) : List.replicate n (boolv false) = (List.replicate n false).map boolv := by rw [List.map_replicate]
set_option maxHeartbeats 16000000 in
theorem RxbufMakes (p : Pk) (starts grants : List Nat) (w : Int) (σ : AHeap) (hsn : inR p.sn) (hl : p.fs.length ≤ 140737488355328) (hsr : ∀ r ∈ starts, r < 65536) (hgr : ∀ r ∈ grants, r < 65536) (hsl : starts.length ≤ 140737488351232) (hgl : grants.length ≤ 140737488351232) :
    ACalls Try.prog i_bowlinelaw24_RxbufMakes [amV p, .slice 1 (starts.map u16n) .none, .slice 1 (grants.map u16n) .none, i64v w] σ fun v σ' => v = boolv true ∧ Hp σ [] σ' := by
  refine km_bowlinelaw24_RxbufMakes rfl ?_
  have H := Hp.nil σ
  (refine wX ?_)
  refine hnew H rfl ?_
  clear H
  intro i5 τ H
  (refine wX ?_)
  (repeat ((first | refine zI (by omega) ?_ | refine zE (by omega) (by omega) ?_ | refine zD (by omega) (by omega) ?_ | refine zY (by omega) ?_ | refine zN (by omega) ?_ | refine amin ?_ | refine amax ?_ | refine zU (by omega) ?_ | refine z8 (by omega) ?_ | refine zX (by omega) (by omega) ?_ | refine zR rfl ?_ | refine acellA ?_ | (apply zL H; (· repeat first | exact .h | apply AtK.t); (· rfl)) | (apply zA H; (· repeat first | exact .h | apply AtK.t)) | (apply zS H; (· repeat first | exact .h | apply AtK.t); (· rfl); (conv => whnf); clear H; intro τ H) | rw [List.length_map]); (refine wX ?_)))
  refine acall (gGreat p.fs .none τ (by omega)) ?_
  rintro _ σ_ ⟨⟨gr, rfl, hgr2⟩, e_⟩
  obtain rfl := e_.symm
  refine ⟨?_, Ext.refl _⟩
  cases gr
  case true =>
    (refine wX ?_)
    refine acall (alive24 τ) ?_
    rintro _ σ_ ⟨rfl, e_⟩
    obtain rfl := e_.symm
    refine ⟨?_, Ext.refl _⟩
    (refine wX ?_)
    exact aret (VLe.refl _) (Sub.refl _) ⟨rfl, H.tail⟩
  have hsm := hgr2 rfl
  have hto := small_sumX hsm
  have h40 := hsm.1
  (refine wX ?_)
  (repeat ((first | refine zI (by omega) ?_ | refine zE (by omega) (by omega) ?_ | refine zD (by omega) (by omega) ?_ | refine zY (by omega) ?_ | refine zN (by omega) ?_ | refine amin ?_ | refine amax ?_ | refine zU (by omega) ?_ | refine z8 (by omega) ?_ | refine zX (by omega) (by omega) ?_ | refine zR rfl ?_ | refine acellA ?_ | (apply zL H; (· repeat first | exact .h | apply AtK.t); (· rfl)) | (apply zA H; (· repeat first | exact .h | apply AtK.t)) | (apply zS H; (· repeat first | exact .h | apply AtK.t); (· rfl); (conv => whnf); clear H; intro τ H) | rw [List.length_map]); (refine wX ?_)))
  by_cases hpart : p.part = true
  · refine abr_true hpart ?_
    (refine wX ?_)
    refine acall (alive24 τ) ?_
    rintro _ σ_ ⟨rfl, e_⟩
    obtain rfl := e_.symm
    refine ⟨?_, Ext.refl _⟩
    (refine wX ?_)
    exact aret (VLe.refl _) (Sub.refl _) ⟨rfl, H.tail⟩
  refine abr_false (by simpa using hpart) ?_
  have q1 : p.part = false := by simpa using hpart
  (refine wX ?_)
  (repeat ((first | refine zI (by omega) ?_ | refine zE (by omega) (by omega) ?_ | refine zD (by omega) (by omega) ?_ | refine zY (by omega) ?_ | refine zN (by omega) ?_ | refine amin ?_ | refine amax ?_ | refine zU (by omega) ?_ | refine z8 (by omega) ?_ | refine zX (by omega) (by omega) ?_ | refine zR rfl ?_ | refine acellA ?_ | (apply zL H; (· repeat first | exact .h | apply AtK.t); (· rfl)) | (apply zA H; (· repeat first | exact .h | apply AtK.t)) | (apply zS H; (· repeat first | exact .h | apply AtK.t); (· rfl); (conv => whnf); clear H; intro τ H) | rw [List.length_map]); (refine wX ?_)))
  refine acall (aRight p w τ (by omega)) ?_
  rintro _ σ_ ⟨rfl, e_⟩
  obtain rfl := e_.symm
  refine ⟨?_, Ext.refl _⟩
  (refine wX ?_)
  by_cases hr : amSize p w > 0
  case neg =>
    refine abr_true (by rw [decide_eq_false hr]; rfl) ?_
    (refine wX ?_)
    refine acall (alive24 τ) ?_
    rintro _ σ_ ⟨rfl, e_⟩
    obtain rfl := e_.symm
    refine ⟨?_, Ext.refl _⟩
    (refine wX ?_)
    exact aret (VLe.refl _) (Sub.refl _) ⟨rfl, H.tail⟩
  refine abr_false (by rw [decide_eq_true hr]; rfl) ?_
  (refine wX ?_)
  (repeat ((first | refine zI (by omega) ?_ | refine zE (by omega) (by omega) ?_ | refine zD (by omega) (by omega) ?_ | refine zY (by omega) ?_ | refine zN (by omega) ?_ | refine amin ?_ | refine amax ?_ | refine zU (by omega) ?_ | refine z8 (by omega) ?_ | refine zX (by omega) (by omega) ?_ | refine zR rfl ?_ | refine acellA ?_ | (apply zL H; (· repeat first | exact .h | apply AtK.t); (· rfl)) | (apply zA H; (· repeat first | exact .h | apply AtK.t)) | (apply zS H; (· repeat first | exact .h | apply AtK.t); (· rfl); (conv => whnf); clear H; intro τ H) | rw [List.length_map]); (refine wX ?_)))
  by_cases hg0 : grants.length = 0
  · (repeat ((first | refine zI (by omega) ?_ | refine zE (by omega) (by omega) ?_ | refine zD (by omega) (by omega) ?_ | refine zY (by omega) ?_ | refine zN (by omega) ?_ | refine amin ?_ | refine amax ?_ | refine zU (by omega) ?_ | refine z8 (by omega) ?_ | refine zX (by omega) (by omega) ?_ | refine zR rfl ?_ | refine acellA ?_ | (apply zL H; (· repeat first | exact .h | apply AtK.t); (· rfl)) | (apply zA H; (· repeat first | exact .h | apply AtK.t)) | (apply zS H; (· repeat first | exact .h | apply AtK.t); (· rfl); (conv => whnf); clear H; intro τ H) | rw [List.length_map]); (refine wX ?_)))
    refine acall (alive24 τ) ?_
    rintro _ σ_ ⟨rfl, e_⟩
    obtain rfl := e_.symm
    refine ⟨?_, Ext.refl _⟩
    (refine wX ?_)
    exact aret (VLe.refl _) (Sub.refl _) ⟨rfl, H.tail⟩
  (repeat ((first | refine zI (by omega) ?_ | refine zE (by omega) (by omega) ?_ | refine zD (by omega) (by omega) ?_ | refine zY (by omega) ?_ | refine zN (by omega) ?_ | refine amin ?_ | refine amax ?_ | refine zU (by omega) ?_ | refine z8 (by omega) ?_ | refine zX (by omega) (by omega) ?_ | refine zR rfl ?_ | refine acellA ?_ | (apply zL H; (· repeat first | exact .h | apply AtK.t); (· rfl)) | (apply zA H; (· repeat first | exact .h | apply AtK.t)) | (apply zS H; (· repeat first | exact .h | apply AtK.t); (· rfl); (conv => whnf); clear H; intro τ H) | rw [List.length_map]); (refine wX ?_)))
  refine acall (aData p _ (by omega) (by omega)) ?_
  rintro _ σ_ ⟨rfl, e_⟩
  obtain rfl := e_.symm
  refine ⟨?_, Ext.refl _⟩
  (refine wX ?_)
  have hdl : p.fs.flatten.length = total p.fs := rfl
  rw [List.length_map, hdl]
  obtain ⟨hw, hf1, hf2, hsn2, hfo, ho1, ho2, hpl⟩ := amSize_ok hr
  have hpos : 0 < total p.fs := by
    have h1 := total_get (l := p.fs) (i := 0) (by have := hfo.one; omega)
    have h2 := (hfo.each 0 (by have := hfo.one; omega)).1
    omega
  have h4000 : total p.fs ≤ 4000 := by
    have g3 := hfo.fits
    have := amHead_range p.part w
    have := sizeV_range ((p.fs.length : Int) - 1) (lenW w)
    omega
  have hne : ∀ f ∈ p.fs, f.length ≠ 0 := fun f hf => by
    obtain ⟨i, hi, rfl⟩ := List.getElem_of_mem hf
    have := (hfo.each i hi).1; omega
  have hlr : 0 ≤ leastV w ∧ leastV w ≤ 6 := by have := amHead_range true w; unfold leastV; split <;> omega
  (repeat ((first | refine zI (by omega) ?_ | refine zE (by omega) (by omega) ?_ | refine zD (by omega) (by omega) ?_ | refine zY (by omega) ?_ | refine zN (by omega) ?_ | refine amin ?_ | refine amax ?_ | refine zU (by omega) ?_ | refine z8 (by omega) ?_ | refine zX (by omega) (by omega) ?_ | refine zR rfl ?_ | refine acellA ?_ | (apply zL H; (· repeat first | exact .h | apply AtK.t); (· rfl)) | (apply zA H; (· repeat first | exact .h | apply AtK.t)) | (apply zS H; (· repeat first | exact .h | apply AtK.t); (· rfl); (conv => whnf); clear H; intro τ H) | rw [List.length_map]); (refine wX ?_)))
  obtain ⟨n, hnn⟩ : ∃ n, n = total p.fs := ⟨_, rfl⟩
  rw [← hnn]
  (repeat ((first | refine zI (by omega) ?_ | refine zE (by omega) (by omega) ?_ | refine zD (by omega) (by omega) ?_ | refine zY (by omega) ?_ | refine zN (by omega) ?_ | refine amin ?_ | refine amax ?_ | refine zU (by omega) ?_ | refine z8 (by omega) ?_ | refine zX (by omega) (by omega) ?_ | refine zR rfl ?_ | refine acellA ?_ | (apply zL H; (· repeat first | exact .h | apply AtK.t); (· rfl)) | (apply zA H; (· repeat first | exact .h | apply AtK.t)) | (apply zS H; (· repeat first | exact .h | apply AtK.t); (· rfl); (conv => whnf); clear H; intro τ H) | rw [List.length_map]); (refine wX ?_)))
  refine ⟨rfl, amk (by omega) (by omega) (by omega) ?_⟩
  rw [Int.toNat_natCast, show List.replicate n (AVal.v (Value.bool false)) = (List.replicate n false).map boolv from (bools_rep n)]
  refine hnew H (by rw [List.all_map]; exact List.all_eq_true.2 fun _ _ => rfl) ?_
  clear H
  intro r τ H
  (refine wX ?_)
  refine acall (buNew τ) ?_
  rintro _ τ' ⟨ib, im, rfl, K⟩
  refine ⟨?_, K.ext⟩
  replace H := Hp.joined H K
  clear K
  replace H : Hp σ (.o r (.cells ((List.replicate n false).map boolv)) :: .o i5 (.cells (amV p).cells) :: XL ib im [] []) τ' := XL.popN (A := [.o r _, .o i5 _]) (G := []) H
  (refine wX ?_)
  (repeat ((first | refine zI (by omega) ?_ | refine zE (by omega) (by omega) ?_ | refine zD (by omega) (by omega) ?_ | refine zY (by omega) ?_ | refine zN (by omega) ?_ | refine amin ?_ | refine amax ?_ | refine zU (by omega) ?_ | refine z8 (by omega) ?_ | refine zX (by omega) (by omega) ?_ | refine zR rfl ?_ | refine acellA ?_ | (apply zL H; (· repeat first | exact .h | apply AtK.t); (· rfl)) | (apply zA H; (· repeat first | exact .h | apply AtK.t)) | (apply zS H; (· repeat first | exact .h | apply AtK.t); (· rfl); (conv => whnf); clear H; intro τ H) | rw [List.length_map]); (refine wX ?_)))
  apply via_loop (fun b' Q' => setsK (Env.full 9) [(s1, .slice 1 (starts.map u16n) .none), (s2, .slice 1 (grants.map u16n) .none), (s3, i64v w), (s4, .ptr i5 0), (s9, i64v n), (s10, .ms r 1 0 n), (s11, .ptr ib 0), (s12, i64v 0)] fun e => ALoop Try.prog c8m b' e τ' Q')
  · intro hK0
    refine aloop_from ?_ (hK0 ())
    (repeat' first | with_reducible exact EnvLe.refl _ | (refine EnvLe.node ?_ (by first | exact Or.inl rfl | exact Or.inr (Or.inl rfl) | exact Or.inr (Or.inr ⟨nofun, VLe.slice _ _ _⟩)) ?_))
  (conv => whnf)
  refine aloop (α := Nat × List Bool × List PX × AHeap) (fun y => [(s12, i64v y.1)]) (fun y => y.2.2.2) (fun y => y.1 ≤ 300 ∧ y.2.1.length = n ∧ Hp σ (.o r (.cells (y.2.1.map boolv)) :: .o i5 (.cells (amV p).cells) :: XL ib im y.2.2.1 []) y.2.2.2 ∧ XOk y.2.2.1 ∧ y.2.2.1.length ≤ y.1 ∧ MI p y.2.1 (pvs y.2.2.1)) (fun y => 300 - y.1)
    (0, List.replicate n false, [], τ') ⟨by omega, List.length_replicate, H, XOk.nil, Nat.le_refl _, .inl ⟨rfl, fun k => bitC_rep⟩⟩ (Sub.refl _) ?_ ?_
  · (refine wX ?_)
    (repeat' first | with_reducible exact EnvLe.refl _ | (refine EnvLe.node ?_ (by first | exact Or.inl rfl | exact Or.inr (Or.inl rfl) | exact Or.inr (Or.inr ⟨nofun, VLe.slice _ _ _⟩)) ?_))
  clear H
  rintro ⟨i, L, X, τ⟩ ⟨hi, hL, H, ok, hX, hM⟩
  dsimp only at hi hL H ok hX hM ⊢
  apply via_loop (fun b Q => setsK (Env.full 9) [(s4, .ptr i5 0), (s9, i64v n), (s10, .ms r 1 0 n), (s11, .ptr ib 0), (s22, i64v 0)] fun e => ALoop Try.prog c8m b e τ Q)
  case f =>
    intro hK
    (refine wX ?_)
    (repeat ((first | refine zI (by omega) ?_ | refine zE (by omega) (by omega) ?_ | refine zD (by omega) (by omega) ?_ | refine zY (by omega) ?_ | refine zN (by omega) ?_ | refine amin ?_ | refine amax ?_ | refine zU (by omega) ?_ | refine z8 (by omega) ?_ | refine zX (by omega) (by omega) ?_ | refine zR rfl ?_ | refine acellA ?_ | (apply zL H; (· repeat first | exact .h | apply AtK.t); (· rfl)) | (apply zA H; (· repeat first | exact .h | apply AtK.t)) | (apply zS H; (· repeat first | exact .h | apply AtK.t); (· rfl); (conv => whnf); clear H; intro τ H) | rw [List.length_map]); (refine wX ?_)))
    by_cases hin : (i : Int) < (starts.length : Int) + (n : Int)
    case neg =>
      (repeat ((first | refine zI (by omega) ?_ | refine zE (by omega) (by omega) ?_ | refine zD (by omega) (by omega) ?_ | refine zY (by omega) ?_ | refine zN (by omega) ?_ | refine amin ?_ | refine amax ?_ | refine zU (by omega) ?_ | refine z8 (by omega) ?_ | refine zX (by omega) (by omega) ?_ | refine zR rfl ?_ | refine acellA ?_ | (apply zL H; (· repeat first | exact .h | apply AtK.t); (· rfl)) | (apply zA H; (· repeat first | exact .h | apply AtK.t)) | (apply zS H; (· repeat first | exact .h | apply AtK.t); (· rfl); (conv => whnf); clear H; intro τ H) | rw [List.length_map]); (refine wX ?_)))
      refine aloop_from ?_ (hK ())
      (repeat' first | with_reducible exact EnvLe.refl _ | (refine EnvLe.node ?_ (by first | exact Or.inl rfl | exact Or.inr (Or.inl rfl) | exact Or.inr (Or.inr ⟨nofun, VLe.slice _ _ _⟩)) ?_))
    (repeat ((first | refine zI (by omega) ?_ | refine zE (by omega) (by omega) ?_ | refine zD (by omega) (by omega) ?_ | refine zY (by omega) ?_ | refine zN (by omega) ?_ | refine amin ?_ | refine amax ?_ | refine zU (by omega) ?_ | refine z8 (by omega) ?_ | refine zX (by omega) (by omega) ?_ | refine zR rfl ?_ | refine acellA ?_ | (apply zL H; (· repeat first | exact .h | apply AtK.t); (· rfl)) | (apply zA H; (· repeat first | exact .h | apply AtK.t)) | (apply zS H; (· repeat first | exact .h | apply AtK.t); (· rfl); (conv => whnf); clear H; intro τ H) | rw [List.length_map]); (refine wX ?_)))
    by_cases hi3 : i < 300
    case neg =>
      (repeat ((first | refine zI (by omega) ?_ | refine zE (by omega) (by omega) ?_ | refine zD (by omega) (by omega) ?_ | refine zY (by omega) ?_ | refine zN (by omega) ?_ | refine amin ?_ | refine amax ?_ | refine zU (by omega) ?_ | refine z8 (by omega) ?_ | refine zX (by omega) (by omega) ?_ | refine zR rfl ?_ | refine acellA ?_ | (apply zL H; (· repeat first | exact .h | apply AtK.t); (· rfl)) | (apply zA H; (· repeat first | exact .h | apply AtK.t)) | (apply zS H; (· repeat first | exact .h | apply AtK.t); (· rfl); (conv => whnf); clear H; intro τ H) | rw [List.length_map]); (refine wX ?_)))
      refine aloop_from ?_ (hK ())
      (repeat' first | with_reducible exact EnvLe.refl _ | (refine EnvLe.node ?_ (by first | exact Or.inl rfl | exact Or.inr (Or.inl rfl) | exact Or.inr (Or.inr ⟨nofun, VLe.slice _ _ _⟩)) ?_))
    (repeat ((first | refine zI (by omega) ?_ | refine zE (by omega) (by omega) ?_ | refine zD (by omega) (by omega) ?_ | refine zY (by omega) ?_ | refine zN (by omega) ?_ | refine amin ?_ | refine amax ?_ | refine zU (by omega) ?_ | refine z8 (by omega) ?_ | refine zX (by omega) (by omega) ?_ | refine zR rfl ?_ | refine acellA ?_ | (apply zL H; (· repeat first | exact .h | apply AtK.t); (· rfl)) | (apply zA H; (· repeat first | exact .h | apply AtK.t)) | (apply zS H; (· repeat first | exact .h | apply AtK.t); (· rfl); (conv => whnf); clear H; intro τ H) | rw [List.length_map]); (refine wX ?_)))
    obtain ⟨a, ha1, ha2⟩ : ∃ a : Nat, (∀ h : i < starts.length, a = starts[i] % n) ∧ (¬ i < starts.length → a ≤ n ∧ (∀ j, j < a → bitC L j = true) ∧ (a < n → bitC L a = false)) := by
      by_cases h : i < starts.length
      · exact ⟨starts[i] % n, fun _ => rfl, fun k => absurd h k⟩
      · refine Classical.byContradiction fun no => ?_
        have all : ∀ m, m ≤ n → ∀ j, j < m → bitC L j = true := by
          intro m
          induction m with
          | zero => intro _ j hj; exact absurd hj (Nat.not_lt_zero _)
          | succ m ih =>
            intro hm j hj
            by_cases e : j = m
            · subst e
              cases hb : bitC L j
              · exact absurd ⟨j, fun k => absurd k h, fun _ => ⟨by omega, ih (by omega), fun _ => hb⟩⟩ no
              · rfl
            · exact ih (by omega) j (by omega)
        exact no ⟨n, fun k => absurd k h, fun _ => ⟨Nat.le_refl _, all n (Nat.le_refl _), fun k => absurd k (Nat.lt_irrefl _)⟩⟩
    have han : a ≤ n := by
      by_cases h : i < starts.length
      · have := Nat.mod_lt starts[i] (show n > 0 by omega)
        rw [ha1 h]; omega
      · exact (ha2 h).1
    by_cases hst : i < starts.length
    case' pos =>
      have hx := hsr _ (List.getElem_mem hst)
      (repeat ((first | refine zI (by omega) ?_ | refine zE (by omega) (by omega) ?_ | refine zD (by omega) (by omega) ?_ | refine zY (by omega) ?_ | refine zN (by omega) ?_ | refine amin ?_ | refine amax ?_ | refine zU (by omega) ?_ | refine z8 (by omega) ?_ | refine zX (by omega) (by omega) ?_ | refine zR rfl ?_ | refine acellA ?_ | (apply zL H; (· repeat first | exact .h | apply AtK.t); (· rfl)) | (apply zA H; (· repeat first | exact .h | apply AtK.t)) | (apply zS H; (· repeat first | exact .h | apply AtK.t); (· rfl); (conv => whnf); clear H; intro τ H) | rw [List.length_map]); (refine wX ?_)))
      refine aget (by omega) (get_u16n hst) ?_
      (refine wX ?_)
      (repeat ((first | refine zI (by omega) ?_ | refine zE (by omega) (by omega) ?_ | refine zD (by omega) (by omega) ?_ | refine zY (by omega) ?_ | refine zN (by omega) ?_ | refine amin ?_ | refine amax ?_ | refine zU (by omega) ?_ | refine z8 (by omega) ?_ | refine zX (by omega) (by omega) ?_ | refine zR rfl ?_ | refine acellA ?_ | (apply zL H; (· repeat first | exact .h | apply AtK.t); (· rfl)) | (apply zA H; (· repeat first | exact .h | apply AtK.t)) | (apply zS H; (· repeat first | exact .h | apply AtK.t); (· rfl); (conv => whnf); clear H; intro τ H) | rw [List.length_map]); (refine wX ?_)))
      rw [show ((starts[i] : Nat) : Int) % (n : Int) = (a : Int) by rw [ha1 hst]; exact (Int.natCast_emod _ _).symm]
      have hkn : a < n := by rw [ha1 hst]; exact Nat.mod_lt _ (by omega)
      (repeat ((first | refine zI (by omega) ?_ | refine zE (by omega) (by omega) ?_ | refine zD (by omega) (by omega) ?_ | refine zY (by omega) ?_ | refine zN (by omega) ?_ | refine amin ?_ | refine amax ?_ | refine zU (by omega) ?_ | refine z8 (by omega) ?_ | refine zX (by omega) (by omega) ?_ | refine zR rfl ?_ | refine acellA ?_ | (apply zL H; (· repeat first | exact .h | apply AtK.t); (· rfl)) | (apply zA H; (· repeat first | exact .h | apply AtK.t)) | (apply zS H; (· repeat first | exact .h | apply AtK.t); (· rfl); (conv => whnf); clear H; intro τ H) | rw [List.length_map]); (refine wX ?_)))
    case' neg =>
      (repeat ((first | refine zI (by omega) ?_ | refine zE (by omega) (by omega) ?_ | refine zD (by omega) (by omega) ?_ | refine zY (by omega) ?_ | refine zN (by omega) ?_ | refine amin ?_ | refine amax ?_ | refine zU (by omega) ?_ | refine z8 (by omega) ?_ | refine zX (by omega) (by omega) ?_ | refine zR rfl ?_ | refine acellA ?_ | (apply zL H; (· repeat first | exact .h | apply AtK.t); (· rfl)) | (apply zA H; (· repeat first | exact .h | apply AtK.t)) | (apply zS H; (· repeat first | exact .h | apply AtK.t); (· rfl); (conv => whnf); clear H; intro τ H) | rw [List.length_map]); (refine wX ?_)))
      obtain ⟨_, ha3, ha4⟩ := ha2 hst
      refine aloop (α := Nat) (fun k => [(s13, i64v k)]) (fun _ => τ) (fun k => k ≤ a) (fun k => a - k) 0 (Nat.zero_le _) (Sub.refl _) ?_ ?_
      · (refine wX ?_)
        (repeat' first | with_reducible exact EnvLe.refl _ | (refine EnvLe.node ?_ (by first | exact Or.inl rfl | exact Or.inr (Or.inl rfl) | exact Or.inr (Or.inr ⟨nofun, VLe.slice _ _ _⟩)) ?_))
      intro k hk
      (refine wX ?_)
      (repeat ((first | refine zI (by omega) ?_ | refine zE (by omega) (by omega) ?_ | refine zD (by omega) (by omega) ?_ | refine zY (by omega) ?_ | refine zN (by omega) ?_ | refine amin ?_ | refine amax ?_ | refine zU (by omega) ?_ | refine z8 (by omega) ?_ | refine zX (by omega) (by omega) ?_ | refine zR rfl ?_ | refine acellA ?_ | (apply zL H; (· repeat first | exact .h | apply AtK.t); (· rfl)) | (apply zA H; (· repeat first | exact .h | apply AtK.t)) | (apply zS H; (· repeat first | exact .h | apply AtK.t); (· rfl); (conv => whnf); clear H; intro τ H) | rw [List.length_map]); (refine wX ?_)))
      by_cases hka : k < a
      · (repeat ((first | refine zI (by omega) ?_ | refine zE (by omega) (by omega) ?_ | refine zD (by omega) (by omega) ?_ | refine zY (by omega) ?_ | refine zN (by omega) ?_ | refine amin ?_ | refine amax ?_ | refine zU (by omega) ?_ | refine z8 (by omega) ?_ | refine zX (by omega) (by omega) ?_ | refine zR rfl ?_ | refine acellA ?_ | (apply zL H; (· repeat first | exact .h | apply AtK.t); (· rfl)) | (apply zA H; (· repeat first | exact .h | apply AtK.t)) | (apply zS H; (· repeat first | exact .h | apply AtK.t); (· rfl); (conv => whnf); clear H; intro τ H) | rw [List.length_map]); (refine wX ?_)))
        refine hload H (k := 0) rfl (bools_get (by omega)) ?_
        rw [ha3 k hka]
        (refine wX ?_)
        (repeat ((first | refine zI (by omega) ?_ | refine zE (by omega) (by omega) ?_ | refine zD (by omega) (by omega) ?_ | refine zY (by omega) ?_ | refine zN (by omega) ?_ | refine amin ?_ | refine amax ?_ | refine zU (by omega) ?_ | refine z8 (by omega) ?_ | refine zX (by omega) (by omega) ?_ | refine zR rfl ?_ | refine acellA ?_ | (apply zL H; (· repeat first | exact .h | apply AtK.t); (· rfl)) | (apply zA H; (· repeat first | exact .h | apply AtK.t)) | (apply zS H; (· repeat first | exact .h | apply AtK.t); (· rfl); (conv => whnf); clear H; intro τ H) | rw [List.length_map]); (refine wX ?_)))
        refine ⟨k + 1, by omega, by omega, Sub.refl _, ?_⟩
        (refine wX ?_)
        (repeat' first | with_reducible exact EnvLe.refl _ | (refine EnvLe.node ?_ (by first | exact Or.inl rfl | exact Or.inr (Or.inl rfl) | exact Or.inr (Or.inr ⟨nofun, VLe.slice _ _ _⟩)) ?_))
      obtain rfl : a = k := by omega
      by_cases hkn : a < n
      case' pos =>
        (repeat ((first | refine zI (by omega) ?_ | refine zE (by omega) (by omega) ?_ | refine zD (by omega) (by omega) ?_ | refine zY (by omega) ?_ | refine zN (by omega) ?_ | refine amin ?_ | refine amax ?_ | refine zU (by omega) ?_ | refine z8 (by omega) ?_ | refine zX (by omega) (by omega) ?_ | refine zR rfl ?_ | refine acellA ?_ | (apply zL H; (· repeat first | exact .h | apply AtK.t); (· rfl)) | (apply zA H; (· repeat first | exact .h | apply AtK.t)) | (apply zS H; (· repeat first | exact .h | apply AtK.t); (· rfl); (conv => whnf); clear H; intro τ H) | rw [List.length_map]); (refine wX ?_)))
        refine hload H (k := 0) rfl (bools_get (by omega)) ?_
        rw [ha4 hkn]
        (refine wX ?_)
        (repeat ((first | refine zI (by omega) ?_ | refine zE (by omega) (by omega) ?_ | refine zD (by omega) (by omega) ?_ | refine zY (by omega) ?_ | refine zN (by omega) ?_ | refine amin ?_ | refine amax ?_ | refine zU (by omega) ?_ | refine z8 (by omega) ?_ | refine zX (by omega) (by omega) ?_ | refine zR rfl ?_ | refine acellA ?_ | (apply zL H; (· repeat first | exact .h | apply AtK.t); (· rfl)) | (apply zA H; (· repeat first | exact .h | apply AtK.t)) | (apply zS H; (· repeat first | exact .h | apply AtK.t); (· rfl); (conv => whnf); clear H; intro τ H) | rw [List.length_map]); (refine wX ?_)))
      case' neg =>
        (repeat ((first | refine zI (by omega) ?_ | refine zE (by omega) (by omega) ?_ | refine zD (by omega) (by omega) ?_ | refine zY (by omega) ?_ | refine zN (by omega) ?_ | refine amin ?_ | refine amax ?_ | refine zU (by omega) ?_ | refine z8 (by omega) ?_ | refine zX (by omega) (by omega) ?_ | refine zR rfl ?_ | refine acellA ?_ | (apply zL H; (· repeat first | exact .h | apply AtK.t); (· rfl)) | (apply zA H; (· repeat first | exact .h | apply AtK.t)) | (apply zS H; (· repeat first | exact .h | apply AtK.t); (· rfl); (conv => whnf); clear H; intro τ H) | rw [List.length_map]); (refine wX ?_)))
        refine aloop_from ?_ (hK ())
        (repeat' first | with_reducible exact EnvLe.refl _ | (refine EnvLe.node ?_ (by first | exact Or.inl rfl | exact Or.inr (Or.inl rfl) | exact Or.inr (Or.inr ⟨nofun, VLe.slice _ _ _⟩)) ?_))
    all_goals
      have hjm : i % grants.length < grants.length := Nat.mod_lt _ (by omega)
      have hrj := hgr _ (List.getElem_mem hjm)
      refine ⟨⟨_, fun σx hx => gLeast w σx, ?_⟩⟩
      (refine wX ?_)
      (repeat ((first | refine zI (by omega) ?_ | refine zE (by omega) (by omega) ?_ | refine zD (by omega) (by omega) ?_ | refine zY (by omega) ?_ | refine zN (by omega) ?_ | refine amin ?_ | refine amax ?_ | refine zU (by omega) ?_ | refine z8 (by omega) ?_ | refine zX (by omega) (by omega) ?_ | refine zR rfl ?_ | refine acellA ?_ | (apply zL H; (· repeat first | exact .h | apply AtK.t); (· rfl)) | (apply zA H; (· repeat first | exact .h | apply AtK.t)) | (apply zS H; (· repeat first | exact .h | apply AtK.t); (· rfl); (conv => whnf); clear H; intro τ H) | rw [List.length_map]); (refine wX ?_)))
      rw [show ((i : Int) % (grants.length : Int)) = ((i % grants.length : Nat) : Int) from (Int.natCast_emod _ _).symm]
      refine aget (by omega) (get_u16n hjm) ?_
      (refine wX ?_)
      (repeat ((first | refine zI (by omega) ?_ | refine zE (by omega) (by omega) ?_ | refine zD (by omega) (by omega) ?_ | refine zY (by omega) ?_ | refine zN (by omega) ?_ | refine amin ?_ | refine amax ?_ | refine zU (by omega) ?_ | refine z8 (by omega) ?_ | refine zX (by omega) (by omega) ?_ | refine zR rfl ?_ | refine acellA ?_ | (apply zL H; (· repeat first | exact .h | apply AtK.t); (· rfl)) | (apply zA H; (· repeat first | exact .h | apply AtK.t)) | (apply zS H; (· repeat first | exact .h | apply AtK.t); (· rfl); (conv => whnf); clear H; intro τ H) | rw [List.length_map]); (refine wX ?_)))
      obtain ⟨gr, hgr3⟩ : ∃ gr : Int, gr = ((grants[i % grants.length] : Nat) : Int) % 40 := ⟨_, rfl⟩
      rw [← hgr3]
      obtain ⟨q, b, hcut, hP⟩ := cut_part (a := a) (g := leastV w + gr) q1 hr (by omega) (by omega) (by omega)
      rw [← hnn] at hcut
      have hab := hP.ab
      have hbn := hP.bn
      have hqr := right_ok hP.right
      have hqn := hP.sn
      refine ⟨⟨_, fun σx hx => gCut p a n (leastV w + gr) w σx (by omega), ?_⟩⟩
      (refine wX ?_)
      rw [hcut]
      dsimp only [amV]
      (refine wX ?_)
      refine hnew H rfl ?_
      clear H
      intro i6 τ H
      (refine wX ?_)
      (repeat ((first | refine zI (by omega) ?_ | refine zE (by omega) (by omega) ?_ | refine zD (by omega) (by omega) ?_ | refine zY (by omega) ?_ | refine zN (by omega) ?_ | refine amin ?_ | refine amax ?_ | refine zU (by omega) ?_ | refine z8 (by omega) ?_ | refine zX (by omega) (by omega) ?_ | refine zR rfl ?_ | refine acellA ?_ | (apply zL H; (· repeat first | exact .h | apply AtK.t); (· rfl)) | (apply zA H; (· repeat first | exact .h | apply AtK.t)) | (apply zS H; (· repeat first | exact .h | apply AtK.t); (· rfl); (conv => whnf); clear H; intro τ H) | rw [List.length_map]); (refine wX ?_)))
      replace H : Hp σ (.o i6 (.cells (amV q).cells) :: .o r (.cells (L.map boolv)) :: .o i5 (.cells (amV p).cells) :: XL ib im X []) τ := H
      refine aloop (α := Nat) (fun k => [(s17, boolv (allC L a k)), (s18, i64v k)]) (fun _ => τ) (fun k => a ≤ k ∧ k ≤ b) (fun k => b - k) a ⟨Nat.le_refl _, by omega⟩ (Sub.refl _) ?_ ?_
      · rw [allC_nil]
        (refine wX ?_)
        (repeat' first | with_reducible exact EnvLe.refl _ | (refine EnvLe.node ?_ (by first | exact Or.inl rfl | exact Or.inr (Or.inl rfl) | exact Or.inr (Or.inr ⟨nofun, VLe.slice _ _ _⟩)) ?_))
      rintro k ⟨hk1, hk2⟩
      (refine wX ?_)
      (repeat ((first | refine zI (by omega) ?_ | refine zE (by omega) (by omega) ?_ | refine zD (by omega) (by omega) ?_ | refine zY (by omega) ?_ | refine zN (by omega) ?_ | refine amin ?_ | refine amax ?_ | refine zU (by omega) ?_ | refine z8 (by omega) ?_ | refine zX (by omega) (by omega) ?_ | refine zR rfl ?_ | refine acellA ?_ | (apply zL H; (· repeat first | exact .h | apply AtK.t); (· rfl)) | (apply zA H; (· repeat first | exact .h | apply AtK.t)) | (apply zS H; (· repeat first | exact .h | apply AtK.t); (· rfl); (conv => whnf); clear H; intro τ H) | rw [List.length_map]); (refine wX ?_)))
      by_cases hkb : k < b
      · (repeat ((first | refine zI (by omega) ?_ | refine zE (by omega) (by omega) ?_ | refine zD (by omega) (by omega) ?_ | refine zY (by omega) ?_ | refine zN (by omega) ?_ | refine amin ?_ | refine amax ?_ | refine zU (by omega) ?_ | refine z8 (by omega) ?_ | refine zX (by omega) (by omega) ?_ | refine zR rfl ?_ | refine acellA ?_ | (apply zL H; (· repeat first | exact .h | apply AtK.t); (· rfl)) | (apply zA H; (· repeat first | exact .h | apply AtK.t)) | (apply zS H; (· repeat first | exact .h | apply AtK.t); (· rfl); (conv => whnf); clear H; intro τ H) | rw [List.length_map]); (refine wX ?_)))
        rcases (show allC L a k = false ∨ allC L a k = true by cases allC L a k <;> simp) with hc | hc
        · rw [hc]
          (refine wX ?_)
          (repeat ((first | refine zI (by omega) ?_ | refine zE (by omega) (by omega) ?_ | refine zD (by omega) (by omega) ?_ | refine zY (by omega) ?_ | refine zN (by omega) ?_ | refine amin ?_ | refine amax ?_ | refine zU (by omega) ?_ | refine z8 (by omega) ?_ | refine zX (by omega) (by omega) ?_ | refine zR rfl ?_ | refine acellA ?_ | (apply zL H; (· repeat first | exact .h | apply AtK.t); (· rfl)) | (apply zA H; (· repeat first | exact .h | apply AtK.t)) | (apply zS H; (· repeat first | exact .h | apply AtK.t); (· rfl); (conv => whnf); clear H; intro τ H) | rw [List.length_map]); (refine wX ?_)))
          refine ⟨k + 1, ⟨by omega, by omega⟩, by omega, Sub.refl _, ?_⟩
          rw [allC_snoc hk1, hc, Bool.false_and]
          (refine wX ?_)
          (repeat' first | with_reducible exact EnvLe.refl _ | (refine EnvLe.node ?_ (by first | exact Or.inl rfl | exact Or.inr (Or.inl rfl) | exact Or.inr (Or.inr ⟨nofun, VLe.slice _ _ _⟩)) ?_))
        · rw [hc]
          (refine wX ?_)
          (repeat ((first | refine zI (by omega) ?_ | refine zE (by omega) (by omega) ?_ | refine zD (by omega) (by omega) ?_ | refine zY (by omega) ?_ | refine zN (by omega) ?_ | refine amin ?_ | refine amax ?_ | refine zU (by omega) ?_ | refine z8 (by omega) ?_ | refine zX (by omega) (by omega) ?_ | refine zR rfl ?_ | refine acellA ?_ | (apply zL H; (· repeat first | exact .h | apply AtK.t); (· rfl)) | (apply zA H; (· repeat first | exact .h | apply AtK.t)) | (apply zS H; (· repeat first | exact .h | apply AtK.t); (· rfl); (conv => whnf); clear H; intro τ H) | rw [List.length_map]); (refine wX ?_)))
          refine hload H (k := 1) rfl (bools_get (by omega)) ?_
          (refine wX ?_)
          (repeat ((first | refine zI (by omega) ?_ | refine zE (by omega) (by omega) ?_ | refine zD (by omega) (by omega) ?_ | refine zY (by omega) ?_ | refine zN (by omega) ?_ | refine amin ?_ | refine amax ?_ | refine zU (by omega) ?_ | refine z8 (by omega) ?_ | refine zX (by omega) (by omega) ?_ | refine zR rfl ?_ | refine acellA ?_ | (apply zL H; (· repeat first | exact .h | apply AtK.t); (· rfl)) | (apply zA H; (· repeat first | exact .h | apply AtK.t)) | (apply zS H; (· repeat first | exact .h | apply AtK.t); (· rfl); (conv => whnf); clear H; intro τ H) | rw [List.length_map]); (refine wX ?_)))
          refine ⟨k + 1, ⟨by omega, by omega⟩, by omega, Sub.refl _, ?_⟩
          rw [allC_snoc hk1, hc, Bool.true_and]
          (refine wX ?_)
          (repeat' first | with_reducible exact EnvLe.refl _ | (refine EnvLe.node ?_ (by first | exact Or.inl rfl | exact Or.inr (Or.inl rfl) | exact Or.inr (Or.inr ⟨nofun, VLe.slice _ _ _⟩)) ?_))
      obtain rfl : b = k := by omega
      (repeat ((first | refine zI (by omega) ?_ | refine zE (by omega) (by omega) ?_ | refine zD (by omega) (by omega) ?_ | refine zY (by omega) ?_ | refine zN (by omega) ?_ | refine amin ?_ | refine amax ?_ | refine zU (by omega) ?_ | refine z8 (by omega) ?_ | refine zX (by omega) (by omega) ?_ | refine zR rfl ?_ | refine acellA ?_ | (apply zL H; (· repeat first | exact .h | apply AtK.t); (· rfl)) | (apply zA H; (· repeat first | exact .h | apply AtK.t)) | (apply zS H; (· repeat first | exact .h | apply AtK.t); (· rfl); (conv => whnf); clear H; intro τ H) | rw [List.length_map]); (refine wX ?_)))
      refine acall (xPut (XL.pushN (A := [_, _, _]) H) ok (by omega) q (by omega) (by have := hP.tot; omega) (by rw [hqn]; exact hsn)) ?_
      clear H
      rintro _ τ2 ⟨rfl, X2, H, hX2, ok2, hl2⟩
      replace H := XL.popN (A := [_, _, _]) H
      have hput := hM.put hsn hP h4000 (by rw [← hX2]; exact (XOk.inv ok2).ok)
      by_cases h5 : allC L a b = false ∧ putS (pvs X) q = 5
      · obtain ⟨g1, g2⟩ := h5
        rw [g1, g2]
        (refine wX ?_)
        (repeat ((first | refine zI (by omega) ?_ | refine zE (by omega) (by omega) ?_ | refine zD (by omega) (by omega) ?_ | refine zY (by omega) ?_ | refine zN (by omega) ?_ | refine amin ?_ | refine amax ?_ | refine zU (by omega) ?_ | refine z8 (by omega) ?_ | refine zX (by omega) (by omega) ?_ | refine zR rfl ?_ | refine acellA ?_ | (apply zL H; (· repeat first | exact .h | apply AtK.t); (· rfl)) | (apply zA H; (· repeat first | exact .h | apply AtK.t)) | (apply zS H; (· repeat first | exact .h | apply AtK.t); (· rfl); (conv => whnf); clear H; intro τ H) | rw [List.length_map]); (refine wX ?_)))
        refine acall (alive24 τ2) ?_
        rintro _ σ_ ⟨rfl, e_⟩
        obtain rfl := e_.symm
        refine ⟨?_, Ext.refl _⟩
        (refine wX ?_)
        (repeat ((first | refine zI (by omega) ?_ | refine zE (by omega) (by omega) ?_ | refine zD (by omega) (by omega) ?_ | refine zY (by omega) ?_ | refine zN (by omega) ?_ | refine amin ?_ | refine amax ?_ | refine zU (by omega) ?_ | refine z8 (by omega) ?_ | refine zX (by omega) (by omega) ?_ | refine zR rfl ?_ | refine acellA ?_ | (apply zL H; (· repeat first | exact .h | apply AtK.t); (· rfl)) | (apply zA H; (· repeat first | exact .h | apply AtK.t)) | (apply zS H; (· repeat first | exact .h | apply AtK.t); (· rfl); (conv => whnf); clear H; intro τ H) | rw [List.length_map]); (refine wX ?_)))
        exact aret (VLe.refl _) (Sub.refl _) ⟨rfl, H.left (L := [])⟩
      have hMn : ∀ L' : List Bool, L'.length = n → (∀ k, k < n → bitC L' k = (bitC L k || decide (a ≤ k ∧ k < b))) → MI p L' (pvs X2) := by
        intro L' hl' hb'
        rw [hX2]
        rcases hput with ⟨g1, g2, g3⟩ | ⟨g1, g2⟩ | ⟨g1, g2, g3⟩
        · refine g3.congr fun k => ?_
          by_cases hk : k < n
          · rw [hb' k hk]
            by_cases hab' : a ≤ k ∧ k < b
            · rw [allC_iff.1 g1 k hab'.1 hab'.2]; rfl
            · rw [decide_eq_false hab', Bool.or_false]
          · rw [bitC_no (by omega), bitC_no (by omega)]
        · exact absurd ⟨g1, g2⟩ h5
        · exact g3 L' fun k hk => hb' k (by omega)
      apply via_loop (fun b' Q' => setsK (Env.full 9) [(s1, .slice 1 (starts.map u16n) .none), (s2, .slice 1 (grants.map u16n) .none), (s3, i64v w), (s4, .ptr i5 0), (s9, i64v n), (s10, .ms r 1 0 n), (s11, .ptr ib 0), (s12, i64v i), (s13, i64v a), (s15, i64v b), (s20, boolv true), (s21, i64v 0)] fun e => ALoop Try.prog c8m b' e τ2 Q')
      case f =>
        intro hK2
        rcases hput with ⟨g1, g2, g3⟩ | ⟨g1, g2⟩ | ⟨g1, g2, g3⟩
        case inl =>
          rw [g1, g2]
          (refine wX ?_)
          (repeat ((first | refine zI (by omega) ?_ | refine zE (by omega) (by omega) ?_ | refine zD (by omega) (by omega) ?_ | refine zY (by omega) ?_ | refine zN (by omega) ?_ | refine amin ?_ | refine amax ?_ | refine zU (by omega) ?_ | refine z8 (by omega) ?_ | refine zX (by omega) (by omega) ?_ | refine zR rfl ?_ | refine acellA ?_ | (apply zL H; (· repeat first | exact .h | apply AtK.t); (· rfl)) | (apply zA H; (· repeat first | exact .h | apply AtK.t)) | (apply zS H; (· repeat first | exact .h | apply AtK.t); (· rfl); (conv => whnf); clear H; intro τ H) | rw [List.length_map]); (refine wX ?_)))
          refine aloop_from ?_ (hK2 ())
          (repeat' first | with_reducible exact EnvLe.refl _ | (refine EnvLe.node ?_ (by first | exact Or.inl rfl | exact Or.inr (Or.inl rfl) | exact Or.inr (Or.inr ⟨nofun, VLe.slice _ _ _⟩)) ?_))
        case inr.inl => exact absurd ⟨g1, g2⟩ h5
        case inr.inr =>
          rw [g1, g2]
          (refine wX ?_)
          (repeat ((first | refine zI (by omega) ?_ | refine zE (by omega) (by omega) ?_ | refine zD (by omega) (by omega) ?_ | refine zY (by omega) ?_ | refine zN (by omega) ?_ | refine amin ?_ | refine amax ?_ | refine zU (by omega) ?_ | refine z8 (by omega) ?_ | refine zX (by omega) (by omega) ?_ | refine zR rfl ?_ | refine acellA ?_ | (apply zL H; (· repeat first | exact .h | apply AtK.t); (· rfl)) | (apply zA H; (· repeat first | exact .h | apply AtK.t)) | (apply zS H; (· repeat first | exact .h | apply AtK.t); (· rfl); (conv => whnf); clear H; intro τ H) | rw [List.length_map]); (refine wX ?_)))
          refine aloop_from ?_ (hK2 ())
          (repeat' first | with_reducible exact EnvLe.refl _ | (refine EnvLe.node ?_ (by first | exact Or.inl rfl | exact Or.inr (Or.inl rfl) | exact Or.inr (Or.inr ⟨nofun, VLe.slice _ _ _⟩)) ?_))
      case k =>
        (conv => whnf)
        refine aloop (α := Nat × List Bool × AHeap) (fun y => [(s20, boolv (allC y.2.1 0 y.1)), (s21, i64v y.1)]) (fun y => y.2.2) (fun y => y.1 ≤ n ∧ y.2.1.length = n ∧ (∀ j, j < n → bitC y.2.1 j = (bitC L j || (decide (a ≤ j ∧ j < b) && decide (j < y.1)))) ∧ Hp σ (.o i6 (.cells (amV q).cells) :: .o r (.cells (y.2.1.map boolv)) :: .o i5 (.cells (amV p).cells) :: XL ib im X2 []) y.2.2) (fun y => n - y.1)
          (0, L, τ2) ⟨Nat.zero_le _, hL, fun j hj => by simp, H⟩ (Sub.refl _) ?_ ?_
        · rw [allC_nil]
          (refine wX ?_)
          (repeat' first | with_reducible exact EnvLe.refl _ | (refine EnvLe.node ?_ (by first | exact Or.inl rfl | exact Or.inr (Or.inl rfl) | exact Or.inr (Or.inr ⟨nofun, VLe.slice _ _ _⟩)) ?_))
        clear H
        rintro ⟨k, M, τ⟩ ⟨hk, hML, hMb, H⟩
        dsimp only at hk hML hMb H ⊢
        (refine wX ?_)
        (repeat ((first | refine zI (by omega) ?_ | refine zE (by omega) (by omega) ?_ | refine zD (by omega) (by omega) ?_ | refine zY (by omega) ?_ | refine zN (by omega) ?_ | refine amin ?_ | refine amax ?_ | refine zU (by omega) ?_ | refine z8 (by omega) ?_ | refine zX (by omega) (by omega) ?_ | refine zR rfl ?_ | refine acellA ?_ | (apply zL H; (· repeat first | exact .h | apply AtK.t); (· rfl)) | (apply zA H; (· repeat first | exact .h | apply AtK.t)) | (apply zS H; (· repeat first | exact .h | apply AtK.t); (· rfl); (conv => whnf); clear H; intro τ H) | rw [List.length_map]); (refine wX ?_)))
        by_cases hkn2 : k < n
        · (repeat ((first | refine zI (by omega) ?_ | refine zE (by omega) (by omega) ?_ | refine zD (by omega) (by omega) ?_ | refine zY (by omega) ?_ | refine zN (by omega) ?_ | refine amin ?_ | refine amax ?_ | refine zU (by omega) ?_ | refine z8 (by omega) ?_ | refine zX (by omega) (by omega) ?_ | refine zR rfl ?_ | refine acellA ?_ | (apply zL H; (· repeat first | exact .h | apply AtK.t); (· rfl)) | (apply zA H; (· repeat first | exact .h | apply AtK.t)) | (apply zS H; (· repeat first | exact .h | apply AtK.t); (· rfl); (conv => whnf); clear H; intro τ H) | rw [List.length_map]); (refine wX ?_)))
          have hbk := hMb k hkn2
          rw [decide_eq_false (show ¬ k < k by omega), Bool.and_false, Bool.or_false] at hbk
          refine hload H (k := 1) rfl (bools_get (by omega)) ?_
          rw [hbk]
          rcases (show bitC L k = true ∨ bitC L k = false by cases bitC L k <;> simp) with hbl | hbl
          · have hv : (bitC L k || decide (a ≤ k ∧ k < b)) = true := by rw [hbl]; rfl
            rw [hbl]
            (refine wX ?_)
            (repeat ((first | refine zI (by omega) ?_ | refine zE (by omega) (by omega) ?_ | refine zD (by omega) (by omega) ?_ | refine zY (by omega) ?_ | refine zN (by omega) ?_ | refine amin ?_ | refine amax ?_ | refine zU (by omega) ?_ | refine z8 (by omega) ?_ | refine zX (by omega) (by omega) ?_ | refine zR rfl ?_ | refine acellA ?_ | (apply zL H; (· repeat first | exact .h | apply AtK.t); (· rfl)) | (apply zA H; (· repeat first | exact .h | apply AtK.t)) | (apply zS H; (· repeat first | exact .h | apply AtK.t); (· rfl); (conv => whnf); clear H; intro τ H) | rw [List.length_map]); (refine wX ?_)))
            refine row_set H (k := 1) (.t .h) (by rw [List.length_map]; omega) rfl ?_
            (conv => whnf)
            clear H
            intro τ H
            replace H : Hp σ (.o i6 (.cells (amV q).cells) :: .o r (.cells ((M.set k true).map boolv)) :: .o i5 (.cells (amV p).cells) :: XL ib im X2 []) τ := by rw [← bools_set]; exact H
            have hspec : ∀ j, j < n → bitC (M.set k true) j = (bitC L j || (decide (a ≤ j ∧ j < b) && decide (j < k + 1))) := fun j hj => by
              rw [bitC_set (by omega)]
              by_cases hjk : j = k
              · subst hjk
                rw [if_pos rfl, decide_eq_true (show j < j + 1 by omega), Bool.and_true, hv]
              · rw [if_neg hjk, hMb j hj, show decide (j < k + 1) = decide (j < k) from decide_eq_decide.2 (by omega)]
            (refine wX ?_)
            (repeat ((first | refine zI (by omega) ?_ | refine zE (by omega) (by omega) ?_ | refine zD (by omega) (by omega) ?_ | refine zY (by omega) ?_ | refine zN (by omega) ?_ | refine amin ?_ | refine amax ?_ | refine zU (by omega) ?_ | refine z8 (by omega) ?_ | refine zX (by omega) (by omega) ?_ | refine zR rfl ?_ | refine acellA ?_ | (apply zL H; (· repeat first | exact .h | apply AtK.t); (· rfl)) | (apply zA H; (· repeat first | exact .h | apply AtK.t)) | (apply zS H; (· repeat first | exact .h | apply AtK.t); (· rfl); (conv => whnf); clear H; intro τ H) | rw [List.length_map]); (refine wX ?_)))
            rcases (show allC M 0 k = false ∨ allC M 0 k = true by cases allC M 0 k <;> simp) with hc | hc
            · rw [hc]
              (refine wX ?_)
              (repeat ((first | refine zI (by omega) ?_ | refine zE (by omega) (by omega) ?_ | refine zD (by omega) (by omega) ?_ | refine zY (by omega) ?_ | refine zN (by omega) ?_ | refine amin ?_ | refine amax ?_ | refine zU (by omega) ?_ | refine z8 (by omega) ?_ | refine zX (by omega) (by omega) ?_ | refine zR rfl ?_ | refine acellA ?_ | (apply zL H; (· repeat first | exact .h | apply AtK.t); (· rfl)) | (apply zA H; (· repeat first | exact .h | apply AtK.t)) | (apply zS H; (· repeat first | exact .h | apply AtK.t); (· rfl); (conv => whnf); clear H; intro τ H) | rw [List.length_map]); (refine wX ?_)))
              refine ⟨(k + 1, M.set k true, τ), ⟨hkn2, by rw [List.length_set]; exact hML, hspec, H⟩, by dsimp only; omega, Sub.refl _, ?_⟩
              rw [allC_snoc (Nat.zero_le _), allC_set (by omega), hc, Bool.false_and]
              (refine wX ?_)
              (repeat' first | with_reducible exact EnvLe.refl _ | (refine EnvLe.node ?_ (by first | exact Or.inl rfl | exact Or.inr (Or.inl rfl) | exact Or.inr (Or.inr ⟨nofun, VLe.slice _ _ _⟩)) ?_))
            · rw [hc]
              (refine wX ?_)
              (repeat ((first | refine zI (by omega) ?_ | refine zE (by omega) (by omega) ?_ | refine zD (by omega) (by omega) ?_ | refine zY (by omega) ?_ | refine zN (by omega) ?_ | refine amin ?_ | refine amax ?_ | refine zU (by omega) ?_ | refine z8 (by omega) ?_ | refine zX (by omega) (by omega) ?_ | refine zR rfl ?_ | refine acellA ?_ | (apply zL H; (· repeat first | exact .h | apply AtK.t); (· rfl)) | (apply zA H; (· repeat first | exact .h | apply AtK.t)) | (apply zS H; (· repeat first | exact .h | apply AtK.t); (· rfl); (conv => whnf); clear H; intro τ H) | rw [List.length_map]); (refine wX ?_)))
              refine hload H (k := 1) rfl (bools_get (by rw [List.length_set]; omega)) ?_
              rw [bitC_set (by omega), if_pos rfl]
              (refine wX ?_)
              (repeat ((first | refine zI (by omega) ?_ | refine zE (by omega) (by omega) ?_ | refine zD (by omega) (by omega) ?_ | refine zY (by omega) ?_ | refine zN (by omega) ?_ | refine amin ?_ | refine amax ?_ | refine zU (by omega) ?_ | refine z8 (by omega) ?_ | refine zX (by omega) (by omega) ?_ | refine zR rfl ?_ | refine acellA ?_ | (apply zL H; (· repeat first | exact .h | apply AtK.t); (· rfl)) | (apply zA H; (· repeat first | exact .h | apply AtK.t)) | (apply zS H; (· repeat first | exact .h | apply AtK.t); (· rfl); (conv => whnf); clear H; intro τ H) | rw [List.length_map]); (refine wX ?_)))
              refine ⟨(k + 1, M.set k true, τ), ⟨hkn2, by rw [List.length_set]; exact hML, hspec, H⟩, by dsimp only; omega, Sub.refl _, ?_⟩
              rw [allC_snoc (Nat.zero_le _), allC_set (by omega), hc, Bool.true_and, bitC_set (by omega), if_pos rfl]
              (refine wX ?_)
              (repeat' first | with_reducible exact EnvLe.refl _ | (refine EnvLe.node ?_ (by first | exact Or.inl rfl | exact Or.inr (Or.inl rfl) | exact Or.inr (Or.inr ⟨nofun, VLe.slice _ _ _⟩)) ?_))
          rw [hbl]
          (refine wX ?_)
          (repeat ((first | refine zI (by omega) ?_ | refine zE (by omega) (by omega) ?_ | refine zD (by omega) (by omega) ?_ | refine zY (by omega) ?_ | refine zN (by omega) ?_ | refine amin ?_ | refine amax ?_ | refine zU (by omega) ?_ | refine z8 (by omega) ?_ | refine zX (by omega) (by omega) ?_ | refine zR rfl ?_ | refine acellA ?_ | (apply zL H; (· repeat first | exact .h | apply AtK.t); (· rfl)) | (apply zA H; (· repeat first | exact .h | apply AtK.t)) | (apply zS H; (· repeat first | exact .h | apply AtK.t); (· rfl); (conv => whnf); clear H; intro τ H) | rw [List.length_map]); (refine wX ?_)))
          by_cases hak : (a : Int) ≤ (k : Int)
          · (repeat ((first | refine zI (by omega) ?_ | refine zE (by omega) (by omega) ?_ | refine zD (by omega) (by omega) ?_ | refine zY (by omega) ?_ | refine zN (by omega) ?_ | refine amin ?_ | refine amax ?_ | refine zU (by omega) ?_ | refine z8 (by omega) ?_ | refine zX (by omega) (by omega) ?_ | refine zR rfl ?_ | refine acellA ?_ | (apply zL H; (· repeat first | exact .h | apply AtK.t); (· rfl)) | (apply zA H; (· repeat first | exact .h | apply AtK.t)) | (apply zS H; (· repeat first | exact .h | apply AtK.t); (· rfl); (conv => whnf); clear H; intro τ H) | rw [List.length_map]); (refine wX ?_)))
            have hv : (bitC L k || decide (a ≤ k ∧ k < b)) = decide ((k : Int) < (b : Int)) := by rw [hbl, Bool.false_or]; exact decide_eq_decide.2 (by omega)
            (repeat ((first | refine zI (by omega) ?_ | refine zE (by omega) (by omega) ?_ | refine zD (by omega) (by omega) ?_ | refine zY (by omega) ?_ | refine zN (by omega) ?_ | refine amin ?_ | refine amax ?_ | refine zU (by omega) ?_ | refine z8 (by omega) ?_ | refine zX (by omega) (by omega) ?_ | refine zR rfl ?_ | refine acellA ?_ | (apply zL H; (· repeat first | exact .h | apply AtK.t); (· rfl)) | (apply zA H; (· repeat first | exact .h | apply AtK.t)) | (apply zS H; (· repeat first | exact .h | apply AtK.t); (· rfl); (conv => whnf); clear H; intro τ H) | rw [List.length_map]); (refine wX ?_)))
            refine row_set H (k := 1) (.t .h) (by rw [List.length_map]; omega) rfl ?_
            (conv => whnf)
            clear H
            intro τ H
            replace H : Hp σ (.o i6 (.cells (amV q).cells) :: .o r (.cells ((M.set k (decide ((k : Int) < (b : Int)))).map boolv)) :: .o i5 (.cells (amV p).cells) :: XL ib im X2 []) τ := by rw [← bools_set]; simpa only [Int.ofNat_lt] using H
            have hspec : ∀ j, j < n → bitC (M.set k (decide ((k : Int) < (b : Int)))) j = (bitC L j || (decide (a ≤ j ∧ j < b) && decide (j < k + 1))) := fun j hj => by
              rw [bitC_set (by omega)]
              by_cases hjk : j = k
              · subst hjk
                rw [if_pos rfl, decide_eq_true (show j < j + 1 by omega), Bool.and_true, hv]
              · rw [if_neg hjk, hMb j hj, show decide (j < k + 1) = decide (j < k) from decide_eq_decide.2 (by omega)]
            (refine wX ?_)
            (repeat ((first | refine zI (by omega) ?_ | refine zE (by omega) (by omega) ?_ | refine zD (by omega) (by omega) ?_ | refine zY (by omega) ?_ | refine zN (by omega) ?_ | refine amin ?_ | refine amax ?_ | refine zU (by omega) ?_ | refine z8 (by omega) ?_ | refine zX (by omega) (by omega) ?_ | refine zR rfl ?_ | refine acellA ?_ | (apply zL H; (· repeat first | exact .h | apply AtK.t); (· rfl)) | (apply zA H; (· repeat first | exact .h | apply AtK.t)) | (apply zS H; (· repeat first | exact .h | apply AtK.t); (· rfl); (conv => whnf); clear H; intro τ H) | rw [List.length_map]); (refine wX ?_)))
            rcases (show allC M 0 k = false ∨ allC M 0 k = true by cases allC M 0 k <;> simp) with hc | hc
            · rw [hc]
              (refine wX ?_)
              (repeat ((first | refine zI (by omega) ?_ | refine zE (by omega) (by omega) ?_ | refine zD (by omega) (by omega) ?_ | refine zY (by omega) ?_ | refine zN (by omega) ?_ | refine amin ?_ | refine amax ?_ | refine zU (by omega) ?_ | refine z8 (by omega) ?_ | refine zX (by omega) (by omega) ?_ | refine zR rfl ?_ | refine acellA ?_ | (apply zL H; (· repeat first | exact .h | apply AtK.t); (· rfl)) | (apply zA H; (· repeat first | exact .h | apply AtK.t)) | (apply zS H; (· repeat first | exact .h | apply AtK.t); (· rfl); (conv => whnf); clear H; intro τ H) | rw [List.length_map]); (refine wX ?_)))
              refine ⟨(k + 1, M.set k (decide ((k : Int) < (b : Int))), τ), ⟨hkn2, by rw [List.length_set]; exact hML, hspec, H⟩, by dsimp only; omega, Sub.refl _, ?_⟩
              rw [allC_snoc (Nat.zero_le _), allC_set (by omega), hc, Bool.false_and]
              (refine wX ?_)
              (repeat' first | with_reducible exact EnvLe.refl _ | (refine EnvLe.node ?_ (by first | exact Or.inl rfl | exact Or.inr (Or.inl rfl) | exact Or.inr (Or.inr ⟨nofun, VLe.slice _ _ _⟩)) ?_))
            · rw [hc]
              (refine wX ?_)
              (repeat ((first | refine zI (by omega) ?_ | refine zE (by omega) (by omega) ?_ | refine zD (by omega) (by omega) ?_ | refine zY (by omega) ?_ | refine zN (by omega) ?_ | refine amin ?_ | refine amax ?_ | refine zU (by omega) ?_ | refine z8 (by omega) ?_ | refine zX (by omega) (by omega) ?_ | refine zR rfl ?_ | refine acellA ?_ | (apply zL H; (· repeat first | exact .h | apply AtK.t); (· rfl)) | (apply zA H; (· repeat first | exact .h | apply AtK.t)) | (apply zS H; (· repeat first | exact .h | apply AtK.t); (· rfl); (conv => whnf); clear H; intro τ H) | rw [List.length_map]); (refine wX ?_)))
              refine hload H (k := 1) rfl (bools_get (by rw [List.length_set]; omega)) ?_
              rw [bitC_set (by omega), if_pos rfl]
              (refine wX ?_)
              (repeat ((first | refine zI (by omega) ?_ | refine zE (by omega) (by omega) ?_ | refine zD (by omega) (by omega) ?_ | refine zY (by omega) ?_ | refine zN (by omega) ?_ | refine amin ?_ | refine amax ?_ | refine zU (by omega) ?_ | refine z8 (by omega) ?_ | refine zX (by omega) (by omega) ?_ | refine zR rfl ?_ | refine acellA ?_ | (apply zL H; (· repeat first | exact .h | apply AtK.t); (· rfl)) | (apply zA H; (· repeat first | exact .h | apply AtK.t)) | (apply zS H; (· repeat first | exact .h | apply AtK.t); (· rfl); (conv => whnf); clear H; intro τ H) | rw [List.length_map]); (refine wX ?_)))
              refine ⟨(k + 1, M.set k (decide ((k : Int) < (b : Int))), τ), ⟨hkn2, by rw [List.length_set]; exact hML, hspec, H⟩, by dsimp only; omega, Sub.refl _, ?_⟩
              rw [allC_snoc (Nat.zero_le _), allC_set (by omega), hc, Bool.true_and, bitC_set (by omega), if_pos rfl]
              (refine wX ?_)
              (repeat' first | with_reducible exact EnvLe.refl _ | (refine EnvLe.node ?_ (by first | exact Or.inl rfl | exact Or.inr (Or.inl rfl) | exact Or.inr (Or.inr ⟨nofun, VLe.slice _ _ _⟩)) ?_))
          · have hv : (bitC L k || decide (a ≤ k ∧ k < b)) = false := by rw [hbl, decide_eq_false (by omega)]; rfl
            (repeat ((first | refine zI (by omega) ?_ | refine zE (by omega) (by omega) ?_ | refine zD (by omega) (by omega) ?_ | refine zY (by omega) ?_ | refine zN (by omega) ?_ | refine amin ?_ | refine amax ?_ | refine zU (by omega) ?_ | refine z8 (by omega) ?_ | refine zX (by omega) (by omega) ?_ | refine zR rfl ?_ | refine acellA ?_ | (apply zL H; (· repeat first | exact .h | apply AtK.t); (· rfl)) | (apply zA H; (· repeat first | exact .h | apply AtK.t)) | (apply zS H; (· repeat first | exact .h | apply AtK.t); (· rfl); (conv => whnf); clear H; intro τ H) | rw [List.length_map]); (refine wX ?_)))
            refine row_set H (k := 1) (.t .h) (by rw [List.length_map]; omega) rfl ?_
            (conv => whnf)
            clear H
            intro τ H
            replace H : Hp σ (.o i6 (.cells (amV q).cells) :: .o r (.cells ((M.set k false).map boolv)) :: .o i5 (.cells (amV p).cells) :: XL ib im X2 []) τ := by rw [← bools_set]; exact H
            have hspec : ∀ j, j < n → bitC (M.set k false) j = (bitC L j || (decide (a ≤ j ∧ j < b) && decide (j < k + 1))) := fun j hj => by
              rw [bitC_set (by omega)]
              by_cases hjk : j = k
              · subst hjk
                rw [if_pos rfl, decide_eq_true (show j < j + 1 by omega), Bool.and_true, hv]
              · rw [if_neg hjk, hMb j hj, show decide (j < k + 1) = decide (j < k) from decide_eq_decide.2 (by omega)]
            (refine wX ?_)
            (repeat ((first | refine zI (by omega) ?_ | refine zE (by omega) (by omega) ?_ | refine zD (by omega) (by omega) ?_ | refine zY (by omega) ?_ | refine zN (by omega) ?_ | refine amin ?_ | refine amax ?_ | refine zU (by omega) ?_ | refine z8 (by omega) ?_ | refine zX (by omega) (by omega) ?_ | refine zR rfl ?_ | refine acellA ?_ | (apply zL H; (· repeat first | exact .h | apply AtK.t); (· rfl)) | (apply zA H; (· repeat first | exact .h | apply AtK.t)) | (apply zS H; (· repeat first | exact .h | apply AtK.t); (· rfl); (conv => whnf); clear H; intro τ H) | rw [List.length_map]); (refine wX ?_)))
            rcases (show allC M 0 k = false ∨ allC M 0 k = true by cases allC M 0 k <;> simp) with hc | hc
            · rw [hc]
              (refine wX ?_)
              (repeat ((first | refine zI (by omega) ?_ | refine zE (by omega) (by omega) ?_ | refine zD (by omega) (by omega) ?_ | refine zY (by omega) ?_ | refine zN (by omega) ?_ | refine amin ?_ | refine amax ?_ | refine zU (by omega) ?_ | refine z8 (by omega) ?_ | refine zX (by omega) (by omega) ?_ | refine zR rfl ?_ | refine acellA ?_ | (apply zL H; (· repeat first | exact .h | apply AtK.t); (· rfl)) | (apply zA H; (· repeat first | exact .h | apply AtK.t)) | (apply zS H; (· repeat first | exact .h | apply AtK.t); (· rfl); (conv => whnf); clear H; intro τ H) | rw [List.length_map]); (refine wX ?_)))
              refine ⟨(k + 1, M.set k false, τ), ⟨hkn2, by rw [List.length_set]; exact hML, hspec, H⟩, by dsimp only; omega, Sub.refl _, ?_⟩
              rw [allC_snoc (Nat.zero_le _), allC_set (by omega), hc, Bool.false_and]
              (refine wX ?_)
              (repeat' first | with_reducible exact EnvLe.refl _ | (refine EnvLe.node ?_ (by first | exact Or.inl rfl | exact Or.inr (Or.inl rfl) | exact Or.inr (Or.inr ⟨nofun, VLe.slice _ _ _⟩)) ?_))
            · rw [hc]
              (refine wX ?_)
              (repeat ((first | refine zI (by omega) ?_ | refine zE (by omega) (by omega) ?_ | refine zD (by omega) (by omega) ?_ | refine zY (by omega) ?_ | refine zN (by omega) ?_ | refine amin ?_ | refine amax ?_ | refine zU (by omega) ?_ | refine z8 (by omega) ?_ | refine zX (by omega) (by omega) ?_ | refine zR rfl ?_ | refine acellA ?_ | (apply zL H; (· repeat first | exact .h | apply AtK.t); (· rfl)) | (apply zA H; (· repeat first | exact .h | apply AtK.t)) | (apply zS H; (· repeat first | exact .h | apply AtK.t); (· rfl); (conv => whnf); clear H; intro τ H) | rw [List.length_map]); (refine wX ?_)))
              refine hload H (k := 1) rfl (bools_get (by rw [List.length_set]; omega)) ?_
              rw [bitC_set (by omega), if_pos rfl]
              (refine wX ?_)
              (repeat ((first | refine zI (by omega) ?_ | refine zE (by omega) (by omega) ?_ | refine zD (by omega) (by omega) ?_ | refine zY (by omega) ?_ | refine zN (by omega) ?_ | refine amin ?_ | refine amax ?_ | refine zU (by omega) ?_ | refine z8 (by omega) ?_ | refine zX (by omega) (by omega) ?_ | refine zR rfl ?_ | refine acellA ?_ | (apply zL H; (· repeat first | exact .h | apply AtK.t); (· rfl)) | (apply zA H; (· repeat first | exact .h | apply AtK.t)) | (apply zS H; (· repeat first | exact .h | apply AtK.t); (· rfl); (conv => whnf); clear H; intro τ H) | rw [List.length_map]); (refine wX ?_)))
              refine ⟨(k + 1, M.set k false, τ), ⟨hkn2, by rw [List.length_set]; exact hML, hspec, H⟩, by dsimp only; omega, Sub.refl _, ?_⟩
              rw [allC_snoc (Nat.zero_le _), allC_set (by omega), hc, Bool.true_and, bitC_set (by omega), if_pos rfl]
              (refine wX ?_)
              (repeat' first | with_reducible exact EnvLe.refl _ | (refine EnvLe.node ?_ (by first | exact Or.inl rfl | exact Or.inr (Or.inl rfl) | exact Or.inr (Or.inr ⟨nofun, VLe.slice _ _ _⟩)) ?_))
        · obtain rfl : n = k := by omega
          (repeat ((first | refine zI (by omega) ?_ | refine zE (by omega) (by omega) ?_ | refine zD (by omega) (by omega) ?_ | refine zY (by omega) ?_ | refine zN (by omega) ?_ | refine amin ?_ | refine amax ?_ | refine zU (by omega) ?_ | refine z8 (by omega) ?_ | refine zX (by omega) (by omega) ?_ | refine zR rfl ?_ | refine acellA ?_ | (apply zL H; (· repeat first | exact .h | apply AtK.t); (· rfl)) | (apply zA H; (· repeat first | exact .h | apply AtK.t)) | (apply zS H; (· repeat first | exact .h | apply AtK.t); (· rfl); (conv => whnf); clear H; intro τ H) | rw [List.length_map]); (refine wX ?_)))
          have hM2 := hMn M hML fun j hj => by rw [hMb j hj, decide_eq_true hj, Bool.and_true]
          refine acall (xWhole (XL.pushN (A := [_, _, _]) H) ok2 p.sn) ?_
          rintro _ σ_ ⟨rfl, e_⟩
          obtain rfl := e_.symm
          refine ⟨?_, Ext.refl _⟩
          (refine wX ?_)
          (repeat ((first | refine zI (by omega) ?_ | refine zE (by omega) (by omega) ?_ | refine zD (by omega) (by omega) ?_ | refine zY (by omega) ?_ | refine zN (by omega) ?_ | refine amin ?_ | refine amax ?_ | refine zU (by omega) ?_ | refine z8 (by omega) ?_ | refine zX (by omega) (by omega) ?_ | refine zR rfl ?_ | refine acellA ?_ | (apply zL H; (· repeat first | exact .h | apply AtK.t); (· rfl)) | (apply zA H; (· repeat first | exact .h | apply AtK.t)) | (apply zS H; (· repeat first | exact .h | apply AtK.t); (· rfl); (conv => whnf); clear H; intro τ H) | rw [List.length_map]); (refine wX ?_)))
          rcases (show wholeS (pvs X2) p.sn = false ∨ wholeS (pvs X2) p.sn = true by cases wholeS (pvs X2) p.sn <;> simp) with hws | hws
          case' inl =>
            rw [hws]
            (refine wX ?_)
            (repeat ((first | refine zI (by omega) ?_ | refine zE (by omega) (by omega) ?_ | refine zD (by omega) (by omega) ?_ | refine zY (by omega) ?_ | refine zN (by omega) ?_ | refine amin ?_ | refine amax ?_ | refine zU (by omega) ?_ | refine z8 (by omega) ?_ | refine zX (by omega) (by omega) ?_ | refine zR rfl ?_ | refine acellA ?_ | (apply zL H; (· repeat first | exact .h | apply AtK.t); (· rfl)) | (apply zA H; (· repeat first | exact .h | apply AtK.t)) | (apply zS H; (· repeat first | exact .h | apply AtK.t); (· rfl); (conv => whnf); clear H; intro τ H) | rw [List.length_map]); (refine wX ?_)))
          case' inr =>
            rw [hws]
            (refine wX ?_)
            rw [allC_iff.2 fun j _ hj => hM2.whole (by omega) h4000 hws j (by omega)]
            (refine wX ?_)
            (repeat ((first | refine zI (by omega) ?_ | refine zE (by omega) (by omega) ?_ | refine zD (by omega) (by omega) ?_ | refine zY (by omega) ?_ | refine zN (by omega) ?_ | refine amin ?_ | refine amax ?_ | refine zU (by omega) ?_ | refine z8 (by omega) ?_ | refine zX (by omega) (by omega) ?_ | refine zR rfl ?_ | refine acellA ?_ | (apply zL H; (· repeat first | exact .h | apply AtK.t); (· rfl)) | (apply zA H; (· repeat first | exact .h | apply AtK.t)) | (apply zS H; (· repeat first | exact .h | apply AtK.t); (· rfl); (conv => whnf); clear H; intro τ H) | rw [List.length_map]); (refine wX ?_)))
          all_goals
            refine ⟨(i + 1, M, X2, τ), ⟨by dsimp only; omega, hML, H.tail, ok2, by dsimp only; omega, hM2⟩, by dsimp only; omega, Sub.refl _, ?_⟩
            (refine wX ?_)
            (repeat' first | with_reducible exact EnvLe.refl _ | (refine EnvLe.node ?_ (by first | exact Or.inl rfl | exact Or.inr (Or.inl rfl) | exact Or.inr (Or.inr ⟨nofun, VLe.slice _ _ _⟩)) ?_))
  case k =>
    (conv => whnf)
    refine aloop (α := Nat) (fun k => [(s22, i64v k)]) (fun _ => τ) (fun k => k ≤ n ∧ ∀ j, j < k → bitC L j = true) (fun k => n - k) 0 ⟨Nat.zero_le _, fun j hj => absurd hj (Nat.not_lt_zero _)⟩ (Sub.refl _) ?_ ?_
    · (refine wX ?_)
      (repeat' first | with_reducible exact EnvLe.refl _ | (refine EnvLe.node ?_ (by first | exact Or.inl rfl | exact Or.inr (Or.inl rfl) | exact Or.inr (Or.inr ⟨nofun, VLe.slice _ _ _⟩)) ?_))
    rintro k ⟨hk, hall⟩
    (refine wX ?_)
    (repeat ((first | refine zI (by omega) ?_ | refine zE (by omega) (by omega) ?_ | refine zD (by omega) (by omega) ?_ | refine zY (by omega) ?_ | refine zN (by omega) ?_ | refine amin ?_ | refine amax ?_ | refine zU (by omega) ?_ | refine z8 (by omega) ?_ | refine zX (by omega) (by omega) ?_ | refine zR rfl ?_ | refine acellA ?_ | (apply zL H; (· repeat first | exact .h | apply AtK.t); (· rfl)) | (apply zA H; (· repeat first | exact .h | apply AtK.t)) | (apply zS H; (· repeat first | exact .h | apply AtK.t); (· rfl); (conv => whnf); clear H; intro τ H) | rw [List.length_map]); (refine wX ?_)))
    by_cases hkn : k < n
    · (repeat ((first | refine zI (by omega) ?_ | refine zE (by omega) (by omega) ?_ | refine zD (by omega) (by omega) ?_ | refine zY (by omega) ?_ | refine zN (by omega) ?_ | refine amin ?_ | refine amax ?_ | refine zU (by omega) ?_ | refine z8 (by omega) ?_ | refine zX (by omega) (by omega) ?_ | refine zR rfl ?_ | refine acellA ?_ | (apply zL H; (· repeat first | exact .h | apply AtK.t); (· rfl)) | (apply zA H; (· repeat first | exact .h | apply AtK.t)) | (apply zS H; (· repeat first | exact .h | apply AtK.t); (· rfl); (conv => whnf); clear H; intro τ H) | rw [List.length_map]); (refine wX ?_)))
      refine hload H (k := 0) rfl (bools_get (by omega)) ?_
      rcases (show bitC L k = false ∨ bitC L k = true by cases bitC L k <;> simp) with hb | hb
      · rw [hb]
        (refine wX ?_)
        refine acall (alive24 τ) ?_
        rintro _ σ_ ⟨rfl, e_⟩
        obtain rfl := e_.symm
        refine ⟨?_, Ext.refl _⟩
        (refine wX ?_)
        exact aret (VLe.refl _) (Sub.refl _) ⟨rfl, H.left (L := [])⟩
      · rw [hb]
        (refine wX ?_)
        (repeat ((first | refine zI (by omega) ?_ | refine zE (by omega) (by omega) ?_ | refine zD (by omega) (by omega) ?_ | refine zY (by omega) ?_ | refine zN (by omega) ?_ | refine amin ?_ | refine amax ?_ | refine zU (by omega) ?_ | refine z8 (by omega) ?_ | refine zX (by omega) (by omega) ?_ | refine zR rfl ?_ | refine acellA ?_ | (apply zL H; (· repeat first | exact .h | apply AtK.t); (· rfl)) | (apply zA H; (· repeat first | exact .h | apply AtK.t)) | (apply zS H; (· repeat first | exact .h | apply AtK.t); (· rfl); (conv => whnf); clear H; intro τ H) | rw [List.length_map]); (refine wX ?_)))
        refine ⟨k + 1, ⟨by omega, fun j hj => ?_⟩, by omega, Sub.refl _, ?_⟩
        · by_cases e : j = k
          · subst e; exact hb
          · exact hall j (by omega)
        (refine wX ?_)
        (repeat' first | with_reducible exact EnvLe.refl _ | (refine EnvLe.node ?_ (by first | exact Or.inl rfl | exact Or.inr (Or.inl rfl) | exact Or.inr (Or.inr ⟨nofun, VLe.slice _ _ _⟩)) ?_))
    · (repeat ((first | refine zI (by omega) ?_ | refine zE (by omega) (by omega) ?_ | refine zD (by omega) (by omega) ?_ | refine zY (by omega) ?_ | refine zN (by omega) ?_ | refine amin ?_ | refine amax ?_ | refine zU (by omega) ?_ | refine z8 (by omega) ?_ | refine zX (by omega) (by omega) ?_ | refine zR rfl ?_ | refine acellA ?_ | (apply zL H; (· repeat first | exact .h | apply AtK.t); (· rfl)) | (apply zA H; (· repeat first | exact .h | apply AtK.t)) | (apply zS H; (· repeat first | exact .h | apply AtK.t); (· rfl); (conv => whnf); clear H; intro τ H) | rw [List.length_map]); (refine wX ?_)))
      refine acall (xTake (XL.pushN (A := [_, _]) H) ok p.sn) ?_
      clear H
      rintro _ τ2 ⟨rfl, X2, H, hX2, ok2, hl2⟩
      replace H := XL.popN (A := [_, _]) H
      have hT := hM.take (by omega) h4000 hne ⟨hf1, hf2⟩ (fun j hj => hall j (by omega))
      rw [hT.1, hT.2.1]
      rw [← hX2] at hT
      (refine wX ?_)
      (repeat ((first | refine zI (by omega) ?_ | refine zE (by omega) (by omega) ?_ | refine zD (by omega) (by omega) ?_ | refine zY (by omega) ?_ | refine zN (by omega) ?_ | refine amin ?_ | refine amax ?_ | refine zU (by omega) ?_ | refine z8 (by omega) ?_ | refine zX (by omega) (by omega) ?_ | refine zR rfl ?_ | refine acellA ?_ | (apply zL H; (· repeat first | exact .h | apply AtK.t); (· rfl)) | (apply zA H; (· repeat first | exact .h | apply AtK.t)) | (apply zS H; (· repeat first | exact .h | apply AtK.t); (· rfl); (conv => whnf); clear H; intro τ H) | rw [List.length_map]); (refine wX ?_)))
      refine acall (alive24 τ2) ?_
      rintro _ σ_ ⟨rfl, e_⟩
      obtain rfl := e_.symm
      refine ⟨?_, Ext.refl _⟩
      (refine wX ?_)
      (repeat ((first | refine zI (by omega) ?_ | refine zE (by omega) (by omega) ?_ | refine zD (by omega) (by omega) ?_ | refine zY (by omega) ?_ | refine zN (by omega) ?_ | refine amin ?_ | refine amax ?_ | refine zU (by omega) ?_ | refine z8 (by omega) ?_ | refine zX (by omega) (by omega) ?_ | refine zR rfl ?_ | refine acellA ?_ | (apply zL H; (· repeat first | exact .h | apply AtK.t); (· rfl)) | (apply zA H; (· repeat first | exact .h | apply AtK.t)) | (apply zS H; (· repeat first | exact .h | apply AtK.t); (· rfl); (conv => whnf); clear H; intro τ H) | rw [List.length_map]); (refine wX ?_)))
      refine acall (refSameF p.fs p.fs .none .none τ2 (by omega)) ?_
      rintro _ σ_ ⟨rfl, e_⟩
      obtain rfl := e_.symm
      refine ⟨?_, Ext.refl _⟩
      (refine wX ?_)
      rw [decide_eq_true rfl]
      (refine wX ?_)
      (repeat ((first | refine zI (by omega) ?_ | refine zE (by omega) (by omega) ?_ | refine zD (by omega) (by omega) ?_ | refine zY (by omega) ?_ | refine zN (by omega) ?_ | refine amin ?_ | refine amax ?_ | refine zU (by omega) ?_ | refine z8 (by omega) ?_ | refine zX (by omega) (by omega) ?_ | refine zR rfl ?_ | refine acellA ?_ | (apply zL H; (· repeat first | exact .h | apply AtK.t); (· rfl)) | (apply zA H; (· repeat first | exact .h | apply AtK.t)) | (apply zS H; (· repeat first | exact .h | apply AtK.t); (· rfl); (conv => whnf); clear H; intro τ H) | rw [List.length_map]); (refine wX ?_)))
      refine acall (xBytes (XL.pushN (A := [_, _]) H) ok2) ?_
      rintro _ σ_ ⟨rfl, e_⟩
      obtain rfl := e_.symm
      refine ⟨?_, Ext.refl _⟩
      (refine wX ?_)
      rw [hT.2.2]
      (repeat ((first | refine zI (by omega) ?_ | refine zE (by omega) (by omega) ?_ | refine zD (by omega) (by omega) ?_ | refine zY (by omega) ?_ | refine zN (by omega) ?_ | refine amin ?_ | refine amax ?_ | refine zU (by omega) ?_ | refine z8 (by omega) ?_ | refine zX (by omega) (by omega) ?_ | refine zR rfl ?_ | refine acellA ?_ | (apply zL H; (· repeat first | exact .h | apply AtK.t); (· rfl)) | (apply zA H; (· repeat first | exact .h | apply AtK.t)) | (apply zS H; (· repeat first | exact .h | apply AtK.t); (· rfl); (conv => whnf); clear H; intro τ H) | rw [List.length_map]); (refine wX ?_)))
      exact aret (VLe.refl _) (Sub.refl _) ⟨rfl, H.left (L := [])⟩
end Go.Proofs.Ytgobbmdbkmjlnaa
