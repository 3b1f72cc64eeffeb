/-
  Texts of this claim, pack 7: Cresw, Cresq, Crxm, Crxn, Ctra, Cgrow, Cumdb, Clensp, Clensr, Cumdc, Camh, Camg, Clensq, Cumdd, Camr, Camf, Cami, Cglue, Cglueb.
-/
import Derived.Test.YtgbpjbpdpgbngaaK2
import Derived.Test.YtgbpjbpdpgbngaaK3
import Derived.Test.YtgbpjbpdpgbngaaK4
import Derived.Test.YtgbpjbpdpgbngaaK5
import Derived.Test.YtgbpjbpdpgbngaaK6
set_option linter.unusedSimpArgs false
set_option linter.unusedVariables false
/-
  Packets that are cut anew: the walk of the cut.
-/
namespace Go.Proofs.Ytgbpjbpdpgbngaa
open Go Go.Am

theorem bits2 {fi : Int} (h : 0 ≤ fi ∧ fi ≤ 3) : (bitsOp .and .i64 fi 2 = if wth fi = true then 2 else 0) ∧ (bitsOp .and .i64 fi 1 = if ctg fi = true then 1 else 0) := by
  rcases (show fi = 0 ∨ fi = 1 ∨ fi = 2 ∨ fi = 3 by omega) with rfl | rfl | rfl | rfl <;> decide
theorem cutVal {p : Pk} {a t g w fi v n : Int} {x : Nat} {F : List TB} (ha : 0 ≤ a) (e : cutRes p a t g w = (cutPk p a.toNat x, ((x : Nat) : Int), 0)) (hF : F.map (·.2) = pcs p.fs a.toNat x)
    (hfi : fi = if edge p.fs a.toNat = false ∨ (a = 0 ∧ wth p.fi = true) then 2 else 0) (hv : (if edge p.fs x = false ∨ (x = total p.fs ∧ ctg p.fi = true) then (1 : Int) else 0) = v) (hn : n = total p.fs) :
    AVal.tup [.agg [boolv false, i64v (fi + v), i64v p.sn, boolv true, .v (.bool (decide (((x : Nat) : Int) = n))), i64v a, lists .none (F.map (·.2))], i64v ((x : Nat) : Int), i64v 0] = .tup [amV (cutRes p a t g w).1, i64v (cutRes p a t g w).2.1, i64v (cutRes p a t g w).2.2] := by
  rw [e]
  dsimp only [amV, cutPk]
  have h1 : fi + v = cutFi p a.toNat x := by
    unfold cutFi
    rw [hv, hfi]
    congr 1
    by_cases h : edge p.fs a.toNat = false ∨ (a = 0 ∧ wth p.fi = true)
    · rw [if_pos h, if_pos (by rcases h with h | h; exact .inl h; exact .inr ⟨by omega, h.2⟩)]
    · rw [if_neg h, if_neg (fun k => h (by rcases k with k | k; exact .inl k; exact .inr ⟨by omega, k.2⟩))]
  rw [h1, hF, show ((a.toNat : Nat) : Int) = a by omega, show decide (((x : Nat) : Int) = n) = decide (x = total p.fs) from dec_congr (by omega)]
theorem cutVal0 {p : Pk} {a t g w fi n : Int} {x : Nat} {F : List TB} (ha : 0 ≤ a) (e : cutRes p a t g w = (cutPk p a.toNat x, ((x : Nat) : Int), 0)) (hF : F.map (·.2) = pcs p.fs a.toNat x)
    (hfi : fi = if edge p.fs a.toNat = false ∨ (a = 0 ∧ wth p.fi = true) then 2 else 0) (hv : (if edge p.fs x = false ∨ (x = total p.fs ∧ ctg p.fi = true) then (1 : Int) else 0) = 0) (hn : n = total p.fs) :
    AVal.tup [.agg [boolv false, i64v fi, i64v p.sn, boolv true, .v (.bool (decide (((x : Nat) : Int) = n))), i64v a, lists .none (F.map (·.2))], i64v ((x : Nat) : Int), i64v 0] = .tup [amV (cutRes p a t g w).1, i64v (cutRes p a t g w).2.1, i64v (cutRes p a t g w).2.2] := by
  have := cutVal ha e hF hfi hv hn
  rw [Int.add_zero] at this
  exact this
set_option maxRecDepth 20000 in
set_option maxHeartbeats 4000000 in
theorem gCut (p : Pk) (a t g w : Int) (σ : AHeap) (hl : p.fs.length ≤ 9223372036854775807) : ACalls Try.prog i_reseg_Cut [amV p, i64v a, i64v t, i64v g, i64v w] σ fun v σ' => v = .tup [amV (cutRes p a t g w).1, i64v (cutRes p a t g w).2.1, i64v (cutRes p a t g w).2.2] ∧ σ' = σ := by
  refine k_reseg_Cut rfl ?_
  have H := Hp.nil σ
  (refine wX ?_)
  refine hnew H rfl ?_
  clear H
  intro i5 τ H
  (refine wX ?_)
  refine hnew H rfl ?_
  clear H
  intro i10 τ H
  (refine wX ?_)
  refine ascope' (α := Nat × Nat × Nat × Nat × Int × List TB × Tok × AHeap) (fun x => [(s13, sl .none p.fs.flatten), (s14, ints .none (endsL p.fs)), (s15, .ptr x.2.2.2.1 0), (s16, i64v (min g 4000 - amHead true w)), (s17, i64v x.2.2.1), (s18, i64v x.2.1), (s19, bif Nat.beq x.1 0 then i64v (total (p.fs.take x.2.1)) else .top)]) (fun x => x.2.2.2.2.2.2.2) (fun x => x.1)
    (fun x => ¬ noForm p w ∧ ¬ badArg p a t g ∧ ¬ goes p a t g w ∧ x.2.1 < p.fs.length ∧ total (p.fs.take x.2.1) ≤ x.2.2.1 ∧
      Hp σ [.o x.2.2.2.1 (.cells [boolv false, i64v x.2.2.2.2.1, i64v p.sn, boolv true, boolv false, i64v a, .slice 1 (x.2.2.2.2.2.1.map slB) x.2.2.2.2.2.2.1]), .t x.2.2.2.2.2.2.1, .o i10 (.cells [boolv false, i64v 0, i64v 0, boolv false, boolv false, i64v 0, .slice 1 [] .full]), .o i5 (.cells (amV p).cells)] x.2.2.2.2.2.2.2 ∧
      ((x.1 = 0 ∧ (x.2.2.1 : Int) = a ∧ x.2.2.2.2.1 = 0 ∧ x.2.2.2.2.2.1 = []) ∨
       (x.1 = 1 ∧ a.toNat ≤ x.2.2.1 ∧ (x.2.2.1 : Int) < t ∧ x.2.2.1 < total (p.fs.take (x.2.1 + 1)) ∧ (x.2.2.1 = a.toNat ∨ (1 ≤ x.2.1 ∧ x.2.2.1 = total (p.fs.take x.2.1))) ∧ (x.2.2.1 = a.toNat ↔ x.2.2.2.2.2.1 = []) ∧
        x.2.2.2.2.1 = (if edge p.fs a.toNat = false ∨ (a = 0 ∧ wth p.fi = true) then 2 else 0) ∧ x.2.2.2.2.2.1.map (·.2) = pcs p.fs a.toNat x.2.2.1 ∧ ∀ y, a.toNat ≤ y → y < x.2.2.1 → okB p.fs (min g 4000 - amHead true w) (lenW w) a.toNat y)))
    (fun x => 2 * (p.fs.length - x.2.1) + (1 - x.1)) ?_ ?_
  · (refine wX ?_)
    intro hlab
    (refine wX ?_)
    (repeat (((apply zL H; (· repeat first | exact .h | apply AtK.t); (· rfl))); (refine wX ?_)))
    by_cases hpart : p.part = true
    · refine abr_true hpart ?_
      (refine wX ?_)
      (repeat ((first | (apply zA H; (· repeat first | exact .h | apply AtK.t)) | (apply zS H; (· repeat first | exact .h | apply AtK.t); (· rfl); (conv => whnf); clear H; intro τ H)); (refine wX ?_)))
      have e : cutRes p a t g w = (pk0, 0, 3) := if_pos (.inl hpart)
      exact aret_pkt0 H.sub ⟨by rw [e]; rfl, rfl⟩
    refine abr_false (by simpa using hpart) ?_
    (refine wX ?_)
    (repeat (((apply zA H; (· repeat first | exact .h | apply AtK.t))); (refine wX ?_)))
    refine acall (aRight p w τ hl) ?_
    rintro _ σ_ ⟨rfl, e_⟩
    obtain rfl := e_.symm
    refine ⟨?_, Ext.refl _⟩
    (refine wX ?_)
    by_cases hr : amSize p w > 0
    case neg =>
      refine abr_true (by rw [decide_eq_false hr]; rfl) ?_
      (refine wX ?_)
      (repeat ((first | (apply zA H; (· repeat first | exact .h | apply AtK.t)) | (apply zS H; (· repeat first | exact .h | apply AtK.t); (· rfl); (conv => whnf); clear H; intro τ H)); (refine wX ?_)))
      have e : cutRes p a t g w = (pk0, 0, 3) := if_pos (.inr hr)
      exact aret_pkt0 H.sub ⟨by rw [e]; rfl, rfl⟩
    refine abr_false (by rw [decide_eq_true hr]; rfl) ?_
    have hnf : ¬ noForm p w := fun h => h.elim hpart (fun h => h hr)
    obtain ⟨hw, hf1, hf2, hsn, hfo, ho1, ho2, hpl⟩ := amSize_ok hr
    have g1 := hfo.one
    have g2 := hfo.most
    have g3 := hfo.fits
    have hhr := amHead_range p.part w
    have hsz0 := sizeV_range ((p.fs.length : Int) - 1) (lenW w)
    (refine wX ?_)
    (repeat (((apply zA H; (· repeat first | exact .h | apply AtK.t))); (refine wX ?_)))
    refine acall (aData p τ (by omega) (by omega)) ?_
    rintro _ σ_ ⟨rfl, e_⟩
    obtain rfl := e_.symm
    refine ⟨?_, Ext.refl _⟩
    (refine wX ?_)
    refine acall (gEnds p τ (by omega) (by omega)) ?_
    rintro _ σ_ ⟨rfl, e_⟩
    obtain rfl := e_.symm
    refine ⟨?_, Ext.refl _⟩
    (refine wX ?_)
    have hfl : p.fs.flatten.length = total p.fs := rfl
    have bad : ∀ (h : badArg p a t g), cutRes p a t g w = (pk0, 0, 1) := fun h => by unfold cutRes; rw [if_neg hnf, if_pos h]
    by_cases c1 : g < 0
    · (repeat ((first | refine zY (by omega) ?_ | (apply zA H; (· repeat first | exact .h | apply AtK.t)) | (apply zS H; (· repeat first | exact .h | apply AtK.t); (· rfl); (conv => whnf); clear H; intro τ H)); (refine wX ?_)))
      exact aret_pkt0 H.sub ⟨by rw [bad (.inl c1)]; rfl, rfl⟩
    by_cases c2 : g > 4096
    · (repeat ((first | refine zY (by omega) ?_ | refine zN (by omega) ?_ | (apply zA H; (· repeat first | exact .h | apply AtK.t)) | (apply zS H; (· repeat first | exact .h | apply AtK.t); (· rfl); (conv => whnf); clear H; intro τ H)); (refine wX ?_)))
      exact aret_pkt0 H.sub ⟨by rw [bad (.inr (.inl c2))]; rfl, rfl⟩
    by_cases c3 : a < 0
    · (repeat ((first | refine zY (by omega) ?_ | refine zN (by omega) ?_ | (apply zA H; (· repeat first | exact .h | apply AtK.t)) | (apply zS H; (· repeat first | exact .h | apply AtK.t); (· rfl); (conv => whnf); clear H; intro τ H)); (refine wX ?_)))
      exact aret_pkt0 H.sub ⟨by rw [bad (.inr (.inr (.inl c3)))]; rfl, rfl⟩
    by_cases c4 : a ≥ t
    · (repeat ((first | refine zY (by omega) ?_ | refine zN (by omega) ?_ | (apply zA H; (· repeat first | exact .h | apply AtK.t)) | (apply zS H; (· repeat first | exact .h | apply AtK.t); (· rfl); (conv => whnf); clear H; intro τ H)); (refine wX ?_)))
      exact aret_pkt0 H.sub ⟨by rw [bad (.inr (.inr (.inr (.inl c4))))]; rfl, rfl⟩
    (repeat ((first | refine zN (by omega) ?_ | rw [List.length_map]); (refine wX ?_)))
    by_cases c5 : t > total p.fs
    · (repeat ((first | refine zY (by omega) ?_ | (apply zA H; (· repeat first | exact .h | apply AtK.t)) | (apply zS H; (· repeat first | exact .h | apply AtK.t); (· rfl); (conv => whnf); clear H; intro τ H)); (refine wX ?_)))
      exact aret_pkt0 H.sub ⟨by rw [bad (.inr (.inr (.inr (.inr c5))))]; rfl, rfl⟩
    have hnb : ¬ badArg p a t g := by rintro (h | h | h | h | h) <;> omega
    clear bad
    have htn : min g 4000 = (if g < 4000 then g else 4000) ∨ True := .inr trivial
    by_cases hg : goes p a t g w
    · have e : cutRes p a t g w = ({ p with poll := false }, t, 0) := by unfold cutRes; rw [if_neg hnf, if_neg hnb, if_pos hg]
      obtain ⟨e1, e2, e3⟩ := hg
      (repeat ((first | refine zY (by omega) ?_ | refine zN (by omega) ?_ | (apply zA H; (· repeat first | exact .h | apply AtK.t)) | rw [List.length_map]); (refine wX ?_)))
      refine acall (aSize p w τ hl) ?_
      rintro _ σ_ ⟨rfl, e_⟩
      obtain rfl := e_.symm
      refine ⟨?_, Ext.refl _⟩
      (refine wX ?_)
      (repeat ((first | refine zY (by omega) ?_ | (apply zA H; (· repeat first | exact .h | apply AtK.t)) | (apply zS H; (· repeat first | exact .h | apply AtK.t); (· rfl); (conv => whnf); clear H; intro τ H)); (refine wX ?_)))
      rw [e]
      exact aret (VLe.refl _) H.sub ⟨rfl, rfl⟩
    have hng := hg
    have cont : ∀ {K : Prop}, K → K := fun h => h
    have ha2 := amHead_range true w
    by_cases d1 : a = 0
    · by_cases d2 : t = total p.fs
      · have d3 : ¬ amSize p w ≤ g := fun h => hg ⟨d1, d2, h⟩
        (repeat ((first | refine zY (by omega) ?_ | refine zN (by omega) ?_ | (apply zA H; (· repeat first | exact .h | apply AtK.t)) | rw [List.length_map]); (refine wX ?_)))
        refine acall (aSize p w τ hl) ?_
        rintro _ σ_ ⟨rfl, e_⟩
        obtain rfl := e_.symm
        refine ⟨?_, Ext.refl _⟩
        (refine wX ?_)
        (repeat ((first | refine zN (by omega) ?_ | (apply zL H; (· repeat first | exact .h | apply AtK.t); (· rfl))); (refine wX ?_)))
        refine hnew H rfl ?_
        clear H
        intro i15 τ H
        (refine wX ?_)
        (repeat ((first | refine amin ?_ | (apply zS H; (· repeat first | exact .h | apply AtK.t); (· rfl); (conv => whnf); clear H; intro τ H)); (refine wX ?_)))
        refine acall (aHead true w τ) ?_
        rintro _ σ_ ⟨rfl, e_⟩
        obtain rfl := e_.symm
        refine ⟨?_, Ext.refl _⟩
        (refine wX ?_)
        (repeat ((refine zI (by omega) ?_); (refine wX ?_)))
        have hH := H
        refine hlab _ (fun _ _ _ h => h) _ _ _ _ ⟨(0, 0, a.toNat, i15, 0, [], .full, τ), rfl, ⟨hnf, hnb, hng, by dsimp only; omega, Nat.zero_le _, ?_, .inl ⟨rfl, by dsimp only; omega, rfl, rfl⟩⟩, rfl, Sub.refl _, ?_⟩
        · exact (H.cons_full).front (k := 1) rfl
        · rw [show (total (p.fs.take 0) : Int) = 0 from rfl, show ((a.toNat : Nat) : Int) = a by omega]
          (refine wX ?_)
          exact elX

      · (repeat ((first | refine zY (by omega) ?_ | refine zN (by omega) ?_ | (apply zL H; (· repeat first | exact .h | apply AtK.t); (· rfl)) | rw [List.length_map]); (refine wX ?_)))
        refine hnew H rfl ?_
        clear H
        intro i15 τ H
        (refine wX ?_)
        (repeat ((first | refine amin ?_ | (apply zS H; (· repeat first | exact .h | apply AtK.t); (· rfl); (conv => whnf); clear H; intro τ H)); (refine wX ?_)))
        refine acall (aHead true w τ) ?_
        rintro _ σ_ ⟨rfl, e_⟩
        obtain rfl := e_.symm
        refine ⟨?_, Ext.refl _⟩
        (refine wX ?_)
        (repeat ((refine zI (by omega) ?_); (refine wX ?_)))
        have hH := H
        refine hlab _ (fun _ _ _ h => h) _ _ _ _ ⟨(0, 0, a.toNat, i15, 0, [], .full, τ), rfl, ⟨hnf, hnb, hng, by dsimp only; omega, Nat.zero_le _, ?_, .inl ⟨rfl, by dsimp only; omega, rfl, rfl⟩⟩, rfl, Sub.refl _, ?_⟩
        · exact (H.cons_full).front (k := 1) rfl
        · rw [show (total (p.fs.take 0) : Int) = 0 from rfl, show ((a.toNat : Nat) : Int) = a by omega]
          (refine wX ?_)
          exact elX

    · (repeat ((first | refine zN (by omega) ?_ | (apply zL H; (· repeat first | exact .h | apply AtK.t); (· rfl))); (refine wX ?_)))
      refine hnew H rfl ?_
      clear H
      intro i15 τ H
      (refine wX ?_)
      (repeat ((first | refine amin ?_ | (apply zS H; (· repeat first | exact .h | apply AtK.t); (· rfl); (conv => whnf); clear H; intro τ H)); (refine wX ?_)))
      refine acall (aHead true w τ) ?_
      rintro _ σ_ ⟨rfl, e_⟩
      obtain rfl := e_.symm
      refine ⟨?_, Ext.refl _⟩
      (refine wX ?_)
      (repeat ((refine zI (by omega) ?_); (refine wX ?_)))
      have hH := H
      refine hlab _ (fun _ _ _ h => h) _ _ _ _ ⟨(0, 0, a.toNat, i15, 0, [], .full, τ), rfl, ⟨hnf, hnb, hng, by dsimp only; omega, Nat.zero_le _, ?_, .inl ⟨rfl, by dsimp only; omega, rfl, rfl⟩⟩, rfl, Sub.refl _, ?_⟩
      · exact (H.cons_full).front (k := 1) rfl
      · rw [show (total (p.fs.take 0) : Int) = 0 from rfl, show ((a.toNat : Nat) : Int) = a by omega]
        (refine wX ?_)
        exact elX
  · rintro ⟨lb, f, x, pid, fi, F, tk, τ⟩ ⟨hnf, hnb, hng, hf, hfx, H, hlb⟩
    dsimp only at hf hfx H hlb ⊢
    have hr : amSize p w > 0 := Decidable.byContradiction fun h => hnf (.inr h)
    obtain ⟨hw, hf1, hf2, hsn, hfo, ho1, ho2, hpl⟩ := amSize_ok hr
    have g1 := hfo.one
    have g2 := hfo.most
    have g3 := hfo.fits
    have hhr := amHead_range p.part w
    have hht := amHead_range true w
    have hsz0 := sizeV_range ((p.fs.length : Int) - 1) (lenW w)
    obtain ⟨b1, b2⟩ := bits2 ⟨hf1, hf2⟩
    have hba : 0 ≤ a ∧ a < t ∧ t ≤ total p.fs ∧ 0 ≤ g ∧ g ≤ 4096 := by
      refine ⟨?_, ?_, ?_, ?_, ?_⟩ <;> refine Decidable.byContradiction fun h => hnb ?_
      · exact .inr (.inr (.inl (by omega)))
      · exact .inr (.inr (.inr (.inl (by omega))))
      · exact .inr (.inr (.inr (.inr (by omega))))
      · exact .inl (by omega)
      · exact .inr (.inl (by omega))
    have hts := total_take_succ p.fs f hf
    have htl := total_take_le p.fs (f + 1)
    rcases hlb with ⟨rfl, hxa, rfl, rfl⟩ | ⟨rfl, hax, hxt, hx2, hst, hFn, hfi, hF, hall⟩
    · refine ⟨_, rfl, ?_⟩
      (refine wX ?_)
      intro hlab
      (refine wX ?_)
      refine aget (by omega) (get_ends hf) ?_
      (refine wX ?_)
      (repeat ((refine zR rfl ?_); (refine wX ?_)))
      by_cases hs : (total (p.fs.take (f + 1)) : Int) ≤ x
      · have hf2 : f + 1 < p.fs.length := by
          refine Decidable.byContradiction fun h => ?_
          rw [show f + 1 = p.fs.length by omega, List.take_length] at hs
          omega
        (repeat ((refine zY (by omega) ?_); (refine wX ?_)))
        refine aget (by omega) (get_ends hf) ?_
        (refine wX ?_)
        (repeat ((first | refine zI (by omega) ?_ | refine zR rfl ?_); (refine wX ?_)))
        refine ⟨(0, f + 1, x, pid, 0, [], tk, τ), rfl, ⟨hnf, hnb, hng, hf2, by dsimp only; omega, H, .inl ⟨rfl, hxa, rfl, rfl⟩⟩, by dsimp only; omega, Sub.refl _, ?_⟩
        (refine wX ?_)
        exact elX
      have hx2 : x < total (p.fs.take (f + 1)) := by omega
      have hed : edge p.fs a.toNat = decide (x = total (p.fs.take f)) := by
        by_cases e : x = total (p.fs.take f)
        · rw [decide_eq_true e, show a.toNat = x by omega, e]; exact edge_take (by omega)
        · rw [decide_eq_false e, show a.toNat = x by omega]; exact edge_between hf (by omega) hx2
      (repeat ((refine zN (by omega) ?_); (refine wX ?_)))
      have go1 : ∀ (fi2 : Int) (υ : AHeap), (fi2 = if edge p.fs a.toNat = false ∨ (a = 0 ∧ wth p.fi = true) then 2 else 0) → Hp σ [.o pid (.cells [boolv false, i64v fi2, i64v p.sn, boolv true, boolv false, i64v a, .slice 1 (([] : List TB).map slB) tk]), .t tk, .o i10 (.cells [boolv false, i64v 0, i64v 0, boolv false, boolv false, i64v 0, .slice 1 [] .full]), .o i5 (.cells (amV p).cells)] υ →
          True := fun _ _ _ _ => trivial
      by_cases e : x = total (p.fs.take f)
      · have hed1 : edge p.fs a.toNat = true := by rw [hed]; exact decide_eq_true e
        refine abr_no (by omega) ?_
        (refine wX ?_)
        by_cases ha0 : a = 0
        · (repeat ((first | refine zY (by omega) ?_ | (apply zL H; (· repeat first | exact .h | apply AtK.t); (· rfl))); (refine wX ?_)))
          rcases (show wth p.fi = false ∨ wth p.fi = true by cases wth p.fi <;> simp) with hwt | hwt
          · rw [hwt] at b1
            refine abits_eq (m := 0) (by rw [b1]; rfl) ?_
            (refine wX ?_)
            refine hlab _ (fun _ _ _ h => h) _ _ _ _ ⟨(1, f, x, pid, 0, [], tk, τ), rfl, ⟨hnf, hnb, hng, hf, hfx, H, .inr ⟨rfl, by dsimp only; omega, by dsimp only; omega, hx2, .inl (by dsimp only; omega), ⟨fun _ => rfl, fun _ => by dsimp only; omega⟩, ?_, ?_, fun y h1 h2 => by dsimp only at h2; omega⟩⟩, by dsimp only; omega, rfl, Sub.refl _, ?_⟩
            · dsimp only; rw [hed1, hwt]; simp
            · dsimp only; rw [pcs_nil (by omega)]; rfl
            · (refine wX ?_)
              exact elX
          · rw [hwt] at b1
            refine abits_eq (m := 2) (by rw [b1]; rfl) ?_
            (refine wX ?_)
            (repeat (((apply zS H; (· repeat first | exact .h | apply AtK.t); (· rfl); (conv => whnf); clear H; intro τ H)); (refine wX ?_)))
            refine hlab _ (fun _ _ _ h => h) _ _ _ _ ⟨(1, f, x, pid, 2, [], tk, τ), rfl, ⟨hnf, hnb, hng, hf, hfx, H, .inr ⟨rfl, by dsimp only; omega, by dsimp only; omega, hx2, .inl (by dsimp only; omega), ⟨fun _ => rfl, fun _ => by dsimp only; omega⟩, ?_, ?_, fun y h1 h2 => by dsimp only at h2; omega⟩⟩, by dsimp only; omega, rfl, Sub.refl _, ?_⟩
            · dsimp only; rw [hwt, if_pos (.inr ⟨ha0, rfl⟩)]
            · dsimp only; rw [pcs_nil (by omega)]; rfl
            · (refine wX ?_)
              exact elX
        · (repeat ((refine zN (by omega) ?_); (refine wX ?_)))
          refine hlab _ (fun _ _ _ h => h) _ _ _ _ ⟨(1, f, x, pid, 0, [], tk, τ), rfl, ⟨hnf, hnb, hng, hf, hfx, H, .inr ⟨rfl, by dsimp only; omega, by dsimp only; omega, hx2, .inl (by dsimp only; omega), ⟨fun _ => rfl, fun _ => by dsimp only; omega⟩, ?_, ?_, fun y h1 h2 => by dsimp only at h2; omega⟩⟩, by dsimp only; omega, rfl, Sub.refl _, ?_⟩
          · dsimp only; rw [if_neg]; rintro (h | h); rw [hed1] at h; cases h; exact ha0 h.1
          · dsimp only; rw [pcs_nil (by omega)]; rfl
          · (refine wX ?_)
            exact elX
      · have hed0 : edge p.fs a.toNat = false := by rw [hed]; exact decide_eq_false e
        refine abr_yes (by omega) ?_
        (refine wX ?_)
        (repeat (((apply zS H; (· repeat first | exact .h | apply AtK.t); (· rfl); (conv => whnf); clear H; intro τ H)); (refine wX ?_)))
        refine hlab _ (fun _ _ _ h => h) _ _ _ _ ⟨(1, f, x, pid, 2, [], tk, τ), rfl, ⟨hnf, hnb, hng, hf, hfx, H, .inr ⟨rfl, by dsimp only; omega, by dsimp only; omega, hx2, .inl (by dsimp only; omega), ⟨fun _ => rfl, fun _ => by dsimp only; omega⟩, ?_, ?_, fun y h1 h2 => by dsimp only at h2; omega⟩⟩, by dsimp only; omega, rfl, Sub.refl _, ?_⟩
        · dsimp only; rw [if_pos (.inl hed0)]
        · dsimp only; rw [pcs_nil (by omega)]; rfl
        · (refine wX ?_)
          exact elX
    · refine ⟨_, rfl, ?_⟩
      (refine wX ?_)
      intro hlab
      (refine wX ?_)
      (repeat ((first | refine zI (by omega) ?_ | (apply zL H; (· repeat first | exact .h | apply AtK.t); (· rfl)) | rw [List.length_map]); (refine wX ?_)))
      refine acall (gLenWidth w τ) ?_
      rintro _ σ_ ⟨rfl, e_⟩
      obtain rfl := e_.symm
      refine ⟨?_, Ext.refl _⟩
      (refine wX ?_)
      refine acall (lSize (F.length : Int) (lenW w) τ) ?_
      rintro _ σ_ ⟨rfl, e_⟩
      obtain rfl := e_.symm
      refine ⟨?_, Ext.refl _⟩
      (refine wX ?_)
      have hsz := sizeV_range (F.length : Int) (lenW w)
      (repeat ((refine zI (by omega) ?_); (refine wX ?_)))
      refine aget (by omega) (get_ends hf) ?_
      (refine wX ?_)
      (repeat ((first | refine zI (by omega) ?_ | refine amin ?_ | refine zR rfl ?_); (refine wX ?_)))
      have hdl : p.fs.flatten.length = total p.fs := rfl
      obtain ⟨hi, lo, hFlen⟩ : True ∧ True ∧ F.length = (pcs p.fs a.toNat x).length := ⟨trivial, trivial, by rw [← hF, List.length_map]⟩
      have hFle : F.length ≤ p.fs.length := by rw [hFlen]; exact pcs_len
      have hnew : ∀ y, x < y → y ≤ total (p.fs.take (f + 1)) → pcs p.fs a.toNat y = pcs p.fs a.toNat x ++ [(p.fs.flatten.take y).drop x] := fun y h1 h2 =>
        pcs_new hax h1 (by omega) (by rcases hst with h | h; exact .inl h; exact .inr (by rw [h.2]; exact edge_take (by omega))) (fun z h3 h4 => edge_between hf (by omega) (by omega))
      obtain ⟨room, hroom⟩ : ∃ room, room = min g 4000 - amHead true w := ⟨_, rfl⟩
      rw [← hroom] at hall ⊢
      obtain ⟨left, hleft⟩ : ∃ left, left = room - ((x : Int) - a) - sizeV (F.length : Int) (lenW w) := ⟨_, rfl⟩
      rw [← hleft]
      have hok : ∀ y, x ≤ y → y < total (p.fs.take (f + 1)) → (okB p.fs room (lenW w) a.toNat y ↔ (y : Int) < x + left) := fun y h1 h2 => by
        unfold okB
        rw [hnew (y + 1) (by omega) (by omega), List.length_append, ← hFlen, show ((F.length + [((p.fs.flatten.take (y + 1)).drop x)].length : Nat) : Int) - 1 = (F.length : Int) by rw [List.length_singleton]; omega]
        omega
      obtain ⟨n, hn⟩ : ∃ n, n = min (min left ((total (p.fs.take (f + 1)) : Int) - x)) (t - x) := ⟨_, rfl⟩
      rw [← hn]
      have hcA : ∀ {y : Nat}, cutEnd p.fs room (lenW w) a.toNat (t.toNat - a.toNat) a.toNat = y → cutAt p a t g w = y := fun h => by unfold cutAt; rw [← hroom]; exact h
      by_cases hn1 : n ≥ 1
      · (repeat ((first | refine zI (by omega) ?_ | refine zY (by omega) ?_ | (apply zL H; (· repeat first | exact .h | apply AtK.t); (· rfl)) | rw [List.length_map]); (refine wX ?_)))
        refine acut (by omega) (by omega) (by omega) ?_
        (refine wX ?_)
        refine happF H (by rw [List.length_drop, List.length_take, List.length_map]; show (0 + _) * 1 ≤ _; omega) ?_
        clear H
        intro tk1 τ H
        (refine wX ?_)
        apply zP H
        · (repeat first | exact .h | apply AtK.t)
        · exact (by rw [List.length_map]; show (F.length + 1) * 24 ≤ _; omega)
        intro tk2
        (conv => whnf)
        clear H
        intro τ H
        (refine wX ?_)
        obtain ⟨m, hm⟩ : ∃ m : Nat, n = m := ⟨n.toNat, by omega⟩
        have hcut : [] ++ List.drop ((x : Nat) : Int).toNat (List.take ((x : Int) + n).toNat (p.fs.flatten.map byteV)) = ((p.fs.flatten.take (x + m)).drop x).map byteV := by
          rw [List.nil_append, hm, Int.toNat_natCast, show ((x : Int) + (m : Nat)).toNat = x + m by omega, List.map_drop, List.map_take]
        rw [hcut] at *
        have hap : F.map slB ++ [.slice 1 (((p.fs.flatten.take (x + m)).drop x).map byteV) tk1] = (F ++ [(tk1, (p.fs.flatten.take (x + m)).drop x)]).map slB := by rw [List.map_append]; rfl
        rw [hap] at *
        (repeat ((first | refine zI (by omega) ?_ | refine zY (by omega) ?_ | (apply zS H; (· repeat first | exact .h | apply AtK.t); (· rfl); (conv => whnf); clear H; intro τ H)); (refine wX ?_)))
        refine aget (by omega) (get_ends hf) ?_
        (refine wX ?_)
        have hpn := hnew (x + m) (by omega) (by omega)
        have hall2 : ∀ y, a.toNat ≤ y → y < x + m → okB p.fs room (lenW w) a.toNat y := fun y h1 h2 => by
          by_cases hy : y < x
          · exact hall y h1 hy
          · exact (hok y (by omega) (by omega)).2 (by omega)
        have hFl2 : (F ++ [(tk1, (p.fs.flatten.take (x + m)).drop x)]).map (·.2) = pcs p.fs a.toNat (x + m) := by rw [hpn, List.map_append, hF]; rfl
        have hFN2 : x + m = a.toNat ↔ F ++ [(tk1, (p.fs.flatten.take (x + m)).drop x)] = [] := ⟨fun h => by omega, fun h => by simp at h⟩
        rw [show ((x : Int) + n) = ((x + m : Nat) : Int) by omega]
        by_cases e1 : x + m = total (p.fs.take (f + 1)) ∧ ((x + m : Nat) : Int) < t
        · have hf2 : f + 1 < p.fs.length := by
            refine Decidable.byContradiction fun h => ?_
            have := e1.1
            rw [show f + 1 = p.fs.length by omega, List.take_length] at this
            omega
          have hne := (hfo.each (f + 1) hf2).1
          have hts2 := total_take_succ p.fs (f + 1) hf2
          (repeat ((first | refine zI (by omega) ?_ | refine zY (by omega) ?_ | refine zR rfl ?_); (refine wX ?_)))
          refine ⟨(1, f + 1, x + m, pid, fi, F ++ [(tk1, (p.fs.flatten.take (x + m)).drop x)], tk2, τ), rfl, ⟨hnf, hnb, hng, hf2, by dsimp only; omega, H.tail, .inr ⟨rfl, by dsimp only; omega, e1.2, by dsimp only; omega, .inr ⟨by dsimp only; omega, e1.1⟩, hFN2, hfi, hFl2, hall2⟩⟩, by dsimp only; omega, Sub.refl _, ?_⟩
          (refine wX ?_)
          exact elX
        have hnok : ((x + m : Nat) : Int) < t → ¬ okB p.fs room (lenW w) a.toNat (x + m) := fun h => by
          rw [hok (x + m) (by omega) (by omega)]; omega
        have hfl := hf
        have heg : edge p.fs (x + m) = true ↔ x + m = total (p.fs.take (f + 1)) := by
          constructor
          · intro h
            refine Decidable.byContradiction fun hn => ?_
            rw [edge_between hf (by omega) (by omega)] at h; cases h
          · intro h; rw [h]; exact edge_take (by omega)
        by_cases e3 : x + m = total (p.fs.take (f + 1))
        · (repeat ((first | refine zY (by omega) ?_ | refine zN (by omega) ?_ | refine zR rfl ?_ | (apply zL H; (· repeat first | exact .h | apply AtK.t); (· rfl)) | rw [List.length_map]); (refine wX ?_)))
          have hedg : edge p.fs (x + m) = true := heg.2 e3
          have hcx : cutAt p a t g w = (x + m) := hcA (cutEnd_eq (t := t.toNat) (by omega) (by omega) hall2 (fun h => hnok (by omega)))
          by_cases hx0 : (x + m) = a.toNat
          · have hFn2 : F ++ [(tk1, (p.fs.flatten.take (x + m)).drop x)] = [] := hFN2.1 hx0
            have e : cutRes p a t g w = (pk0, 0, 16) := by unfold cutRes; rw [if_neg hnf, if_neg hnb, if_neg hng, hcx, if_pos hx0]
            have hFl0 : (F ++ [(tk1, (p.fs.flatten.take (x + m)).drop x)]).length = 0 := by rw [hFn2]; rfl
            (repeat ((first | refine zY (by omega) ?_ | (apply zA H; (· repeat first | exact .h | apply AtK.t)) | (apply zS H; (· repeat first | exact .h | apply AtK.t); (· rfl); (conv => whnf); clear H; intro τ H)); (refine wX ?_)))
            exact aret_pkt0 H.sub ⟨by rw [e]; rfl, rfl⟩
          have hFne : (F ++ [(tk1, (p.fs.flatten.take (x + m)).drop x)]).length ≠ 0 := fun h => hx0 (hFN2.2 (List.length_eq_zero_iff.1 h))
          have e : cutRes p a t g w = (cutPk p a.toNat ((x + m)), (((x + m) : Nat) : Int), 0) := by unfold cutRes; rw [if_neg hnf, if_neg hnb, if_neg hng, hcx, if_neg hx0]
          (repeat ((refine zN (by omega) ?_); (refine wX ?_)))
          refine aget (by omega) (get_ends hfl) ?_
          (refine wX ?_)
          refine acell rfl ?_
          (refine wX ?_)
          have hfi01 : fi = 0 ∨ fi = 2 := by rw [hfi]; split <;> simp
          have hor : bitsOp .or .i64 fi 1 = fi + 1 := by rcases hfi01 with h | h <;> rw [h] <;> decide
          have hq : (x + m) = total (p.fs.take (f + 1)) := heg.1 hedg
          refine abr_no (by omega) ?_
          (refine wX ?_)
          by_cases hxd : (x + m) = total p.fs
          · (repeat ((first | refine zY (by omega) ?_ | (apply zL H; (· repeat first | exact .h | apply AtK.t); (· rfl)) | rw [List.length_map]); (refine wX ?_)))
            rcases (show ctg p.fi = false ∨ ctg p.fi = true by cases ctg p.fi <;> simp) with hct | hct
            · rw [hct] at b2
              refine abits_eq (m := 0) (by rw [b2]; rfl) ?_
              (refine wX ?_)
              (repeat ((first | (apply zA H; (· repeat first | exact .h | apply AtK.t)) | (apply zS H; (· repeat first | exact .h | apply AtK.t); (· rfl); (conv => whnf); clear H; intro τ H) | rw [List.length_map]); (refine wX ?_)))
              have e2 : (if edge p.fs (x + m) = false ∨ ((x + m) = total p.fs ∧ ctg p.fi = true) then (1 : Int) else 0) = 0 := by rw [if_neg]; rintro (h | h); rw [hedg] at h; cases h; rw [hct] at h; cases h.2
              exact aret_pkt H.sub ⟨cutVal0 hba.1 e hFl2 hfi e2 (by omega), rfl⟩
            · rw [hct] at b2
              refine abits_eq (m := 1) (by rw [b2]; rfl) ?_
              (refine wX ?_)
              (repeat (((apply zL H; (· repeat first | exact .h | apply AtK.t); (· rfl))); (refine wX ?_)))
              refine abits_eq hor ?_
              (refine wX ?_)
              (repeat ((first | (apply zA H; (· repeat first | exact .h | apply AtK.t)) | (apply zS H; (· repeat first | exact .h | apply AtK.t); (· rfl); (conv => whnf); clear H; intro τ H) | rw [List.length_map]); (refine wX ?_)))
              have e2 : (if edge p.fs (x + m) = false ∨ ((x + m) = total p.fs ∧ ctg p.fi = true) then (1 : Int) else 0) = 1 := if_pos (.inr ⟨hxd, hct⟩)
              exact aret_pkt H.sub ⟨cutVal hba.1 e hFl2 hfi e2 (by omega), rfl⟩
          · (repeat ((first | refine zN (by omega) ?_ | (apply zA H; (· repeat first | exact .h | apply AtK.t)) | (apply zS H; (· repeat first | exact .h | apply AtK.t); (· rfl); (conv => whnf); clear H; intro τ H) | rw [List.length_map]); (refine wX ?_)))
            have e2 : (if edge p.fs (x + m) = false ∨ ((x + m) = total p.fs ∧ ctg p.fi = true) then (1 : Int) else 0) = 0 := by rw [if_neg]; rintro (h | h); rw [hedg] at h; cases h; exact hxd h.1
            exact aret_pkt H.sub ⟨cutVal0 hba.1 e hFl2 hfi e2 (by omega), rfl⟩
        · (repeat ((first | refine zN (by omega) ?_ | refine zR rfl ?_ | (apply zL H; (· repeat first | exact .h | apply AtK.t); (· rfl)) | rw [List.length_map]); (refine wX ?_)))
          have hedg : ¬ edge p.fs (x + m) = true := fun h => e3 (heg.1 h)
          have hcx : cutAt p a t g w = (x + m) := hcA (cutEnd_eq (t := t.toNat) (by omega) (by omega) hall2 (fun h => hnok (by omega)))
          by_cases hx0 : (x + m) = a.toNat
          · have hFn2 : F ++ [(tk1, (p.fs.flatten.take (x + m)).drop x)] = [] := hFN2.1 hx0
            have e : cutRes p a t g w = (pk0, 0, 16) := by unfold cutRes; rw [if_neg hnf, if_neg hnb, if_neg hng, hcx, if_pos hx0]
            have hFl0 : (F ++ [(tk1, (p.fs.flatten.take (x + m)).drop x)]).length = 0 := by rw [hFn2]; rfl
            (repeat ((first | refine zY (by omega) ?_ | (apply zA H; (· repeat first | exact .h | apply AtK.t)) | (apply zS H; (· repeat first | exact .h | apply AtK.t); (· rfl); (conv => whnf); clear H; intro τ H)); (refine wX ?_)))
            exact aret_pkt0 H.sub ⟨by rw [e]; rfl, rfl⟩
          have hFne : (F ++ [(tk1, (p.fs.flatten.take (x + m)).drop x)]).length ≠ 0 := fun h => hx0 (hFN2.2 (List.length_eq_zero_iff.1 h))
          have e : cutRes p a t g w = (cutPk p a.toNat ((x + m)), (((x + m) : Nat) : Int), 0) := by unfold cutRes; rw [if_neg hnf, if_neg hnb, if_neg hng, hcx, if_neg hx0]
          (repeat ((refine zN (by omega) ?_); (refine wX ?_)))
          refine aget (by omega) (get_ends hfl) ?_
          (refine wX ?_)
          refine acell rfl ?_
          (refine wX ?_)
          have hfi01 : fi = 0 ∨ fi = 2 := by rw [hfi]; split <;> simp
          have hor : bitsOp .or .i64 fi 1 = fi + 1 := by rcases hfi01 with h | h <;> rw [h] <;> decide
          have hq : (x + m) ≠ total (p.fs.take (f + 1)) := fun h => hedg (heg.2 h)
          refine abr_yes (by omega) ?_
          (refine wX ?_)
          (repeat (((apply zL H; (· repeat first | exact .h | apply AtK.t); (· rfl))); (refine wX ?_)))
          refine abits_eq hor ?_
          (refine wX ?_)
          (repeat ((first | (apply zA H; (· repeat first | exact .h | apply AtK.t)) | (apply zS H; (· repeat first | exact .h | apply AtK.t); (· rfl); (conv => whnf); clear H; intro τ H) | rw [List.length_map]); (refine wX ?_)))
          have e2 : (if edge p.fs (x + m) = false ∨ ((x + m) = total p.fs ∧ ctg p.fi = true) then (1 : Int) else 0) = 1 := if_pos (.inl (by simpa using hedg))
          exact aret_pkt H.sub ⟨cutVal hba.1 e hFl2 hfi e2 (by omega), rfl⟩
      · have hle : left < 1 := by omega
        have hall2 := hall
        have hFN2 := hFn
        have hFl2 := hF
        have hnok : (x : Int) < t → ¬ okB p.fs room (lenW w) a.toNat x := fun h => by
          rw [hok x (Nat.le_refl _) hx2]; omega
        (repeat ((first | refine zN (by omega) ?_ | (apply zL H; (· repeat first | exact .h | apply AtK.t); (· rfl)) | rw [List.length_map]); (refine wX ?_)))
        have hcx : cutAt p a t g w = x := hcA (cutEnd_eq (t := t.toNat) (by omega) (by omega) hall2 (fun h => hnok (by omega)))
        by_cases hx0 : x = a.toNat
        · have hFn2 : F = [] := hFN2.1 hx0
          have e : cutRes p a t g w = (pk0, 0, 16) := by unfold cutRes; rw [if_neg hnf, if_neg hnb, if_neg hng, hcx, if_pos hx0]
          have hFl0 : (F).length = 0 := by rw [hFn2]; rfl
          (repeat ((first | refine zY (by omega) ?_ | (apply zA H; (· repeat first | exact .h | apply AtK.t)) | (apply zS H; (· repeat first | exact .h | apply AtK.t); (· rfl); (conv => whnf); clear H; intro τ H)); (refine wX ?_)))
          exact aret_pkt0 H.sub ⟨by rw [e]; rfl, rfl⟩
        have hFne : (F).length ≠ 0 := fun h => hx0 (hFN2.2 (List.length_eq_zero_iff.1 h))
        have e : cutRes p a t g w = (cutPk p a.toNat (x), ((x : Nat) : Int), 0) := by unfold cutRes; rw [if_neg hnf, if_neg hnb, if_neg hng, hcx, if_neg hx0]
        (repeat ((first | refine zI (by omega) ?_ | refine zY (by omega) ?_ | refine zN (by omega) ?_); (refine wX ?_)))
        obtain ⟨hf1', hxf⟩ : 1 ≤ f ∧ x = total (p.fs.take f) := hst.resolve_left hx0
        have hfl : f - 1 < p.fs.length := by omega
        have heg : edge p.fs x = true ↔ x = total (p.fs.take (f - 1 + 1)) := by
          rw [show f - 1 + 1 = f by omega]
          exact ⟨fun _ => hxf, fun h => by rw [h]; exact edge_take (by omega)⟩
        have hedg : edge p.fs x = true := by rw [hxf]; exact edge_take (by omega)
        rw [show (f : Int) - 1 = ((f - 1 : Nat) : Int) by omega]
        refine aget (by omega) (get_ends hfl) ?_
        (refine wX ?_)
        refine acell rfl ?_
        (refine wX ?_)
        have hfi01 : fi = 0 ∨ fi = 2 := by rw [hfi]; split <;> simp
        have hor : bitsOp .or .i64 fi 1 = fi + 1 := by rcases hfi01 with h | h <;> rw [h] <;> decide
        have hq : x = total (p.fs.take (f - 1 + 1)) := heg.1 hedg
        refine abr_no (by omega) ?_
        (refine wX ?_)
        by_cases hxd : x = total p.fs
        · (repeat ((first | refine zY (by omega) ?_ | (apply zL H; (· repeat first | exact .h | apply AtK.t); (· rfl)) | rw [List.length_map]); (refine wX ?_)))
          rcases (show ctg p.fi = false ∨ ctg p.fi = true by cases ctg p.fi <;> simp) with hct | hct
          · rw [hct] at b2
            refine abits_eq (m := 0) (by rw [b2]; rfl) ?_
            (refine wX ?_)
            (repeat ((first | (apply zA H; (· repeat first | exact .h | apply AtK.t)) | (apply zS H; (· repeat first | exact .h | apply AtK.t); (· rfl); (conv => whnf); clear H; intro τ H) | rw [List.length_map]); (refine wX ?_)))
            have e2 : (if edge p.fs x = false ∨ (x = total p.fs ∧ ctg p.fi = true) then (1 : Int) else 0) = 0 := by rw [if_neg]; rintro (h | h); rw [hedg] at h; cases h; rw [hct] at h; cases h.2
            exact aret_pkt H.sub ⟨cutVal0 hba.1 e hFl2 hfi e2 (by omega), rfl⟩
          · rw [hct] at b2
            refine abits_eq (m := 1) (by rw [b2]; rfl) ?_
            (refine wX ?_)
            (repeat (((apply zL H; (· repeat first | exact .h | apply AtK.t); (· rfl))); (refine wX ?_)))
            refine abits_eq hor ?_
            (refine wX ?_)
            (repeat ((first | (apply zA H; (· repeat first | exact .h | apply AtK.t)) | (apply zS H; (· repeat first | exact .h | apply AtK.t); (· rfl); (conv => whnf); clear H; intro τ H) | rw [List.length_map]); (refine wX ?_)))
            have e2 : (if edge p.fs x = false ∨ (x = total p.fs ∧ ctg p.fi = true) then (1 : Int) else 0) = 1 := if_pos (.inr ⟨hxd, hct⟩)
            exact aret_pkt H.sub ⟨cutVal hba.1 e hFl2 hfi e2 (by omega), rfl⟩
        · (repeat ((first | refine zN (by omega) ?_ | (apply zA H; (· repeat first | exact .h | apply AtK.t)) | (apply zS H; (· repeat first | exact .h | apply AtK.t); (· rfl); (conv => whnf); clear H; intro τ H) | rw [List.length_map]); (refine wX ?_)))
          have e2 : (if edge p.fs x = false ∨ (x = total p.fs ∧ ctg p.fi = true) then (1 : Int) else 0) = 0 := by rw [if_neg]; rintro (h | h); rw [hedg] at h; cases h; exact hxd h.1
          exact aret_pkt H.sub ⟨cutVal0 hba.1 e hFl2 hfi e2 (by omega), rfl⟩
end Go.Proofs.Ytgbpjbpdpgbngaa
/-
  What is so of what goes; plain.
-/
namespace Go.Proofs.Ytgbpjbpdpgbngaa
open Go Go.Am

theorem fieldsBad_no {l : List (List UInt8)} (h : ∀ i, (hi : i < l.length) → fieldBad l i = false) : fieldsBad l l.length = false := by
  refine Bool.eq_false_iff.2 fun hb => ?_
  obtain ⟨i, hi, hb⟩ := List.any_eq_true.1 hb
  rw [h i (List.mem_range.1 hi)] at hb; cases hb
/-- What a call of the cut may give. -/
inductive CutGives (p : Pk) (a t g w : Int) : Pk × Int × Int → Prop
  | no (c : Int) : c ≠ 0 → (c ≠ 16 ∨ g < leastV w) → CutGives p a t g w (pk0, 0, c)
  | whole : a = 0 → t = total p.fs → amSize p w ≤ g → ¬ noForm p w → ¬ badArg p a t g → CutGives p a t g w ({ p with poll := false }, t, 0)
  | part (x : Nat) : ¬ noForm p w → ¬ badArg p a t g → ¬ goes p a t g w → a < x → (x : Int) ≤ t → amSize (cutPk p a.toNat x) w > 0 → amSize (cutPk p a.toNat x) w ≤ g → amSize (cutPk p a.toNat x) w = amHead true w + sizeV (((pcs p.fs a.toNat x).length : Int) - 1) (lenW w) + (x - a) → (1 ≤ (pcs p.fs a.toNat x).length ∧ (pcs p.fs a.toNat x).length ≤ p.fs.length) → CutGives p a t g w (cutPk p a.toNat x, (x : Int), 0)
theorem cutFi_range (p : Pk) (a x : Nat) : 0 ≤ cutFi p a x ∧ cutFi p a x ≤ 3 := by unfold cutFi; repeat' split <;> omega
theorem cut_gives (p : Pk) (a t g w : Int) : CutGives p a t g w (cutRes p a t g w) := by
  unfold cutRes
  by_cases h1 : noForm p w
  · rw [if_pos h1]; exact .no 3 (by decide) (.inl (by decide))
  rw [if_neg h1]
  by_cases h2 : badArg p a t g
  · rw [if_pos h2]; exact .no 1 (by decide) (.inl (by decide))
  rw [if_neg h2]
  by_cases h3 : goes p a t g w
  · rw [if_pos h3]; exact .whole h3.1 h3.2.1 h3.2.2 h1 h2
  rw [if_neg h3]
  have hr : amSize p w > 0 := Decidable.byContradiction fun h => h1 (.inr h)
  obtain ⟨hw, hf1, hf2, hsn, hfo, ho1, ho2, hpl⟩ := amSize_ok hr
  have g1 := hfo.one
  have g2 := hfo.most
  have g3 := hfo.fits
  have hhr := amHead_range p.part w
  have hht := amHead_range true w
  have hsz0 := sizeV_range ((p.fs.length : Int) - 1) (lenW w)
  have hba : 0 ≤ a ∧ a < t ∧ t ≤ total p.fs ∧ 0 ≤ g ∧ g ≤ 4096 := by
    refine ⟨?_, ?_, ?_, ?_, ?_⟩ <;> refine Decidable.byContradiction fun h => h2 ?_
    · exact .inr (.inr (.inl (by omega)))
    · exact .inr (.inr (.inr (.inl (by omega))))
    · exact .inr (.inr (.inr (.inr (by omega))))
    · exact .inl (by omega)
    · exact .inr (.inl (by omega))
  obtain ⟨s1, s2, s3, s4⟩ := cutEnd_spec (fs := p.fs) (room := min g 4000 - amHead true w) (lw := lenW w) (a := a.toNat) (t.toNat - a.toNat) a.toNat
  rw [show cutEnd p.fs (min g 4000 - amHead true w) (lenW w) a.toNat (t.toNat - a.toNat) a.toNat = cutAt p a t g w from rfl] at s1 s2 s3 s4
  by_cases h4 : cutAt p a t g w = a.toNat
  · rw [if_pos h4]
    refine .no 16 (by decide) (.inr ?_)
    have hk := s4 (by omega)
    rw [h4] at hk
    unfold okB at hk
    have hl : (pcs p.fs a.toNat (a.toNat + 1)).length = 1 := by
      have hn := pcs_new (fs := p.fs) (a := a.toNat) (x := a.toNat) (y := a.toNat + 1) (Nat.le_refl _) (Nat.lt_succ_self _) (by omega) (.inl rfl) (fun z h1 h2 => by omega)
      rw [hn, pcs_nil (Nat.le_refl _)]; rfl
    rw [hl] at hk
    have hz : sizeV (((1 : Nat) : Int) - 1) (lenW w) = 0 := by unfold sizeV; rw [if_pos (.inr (.inl (by decide)))]
    rw [hz] at hk
    have hne : amHead true w ≠ 0 := by rcases hw with rfl | rfl <;> decide
    unfold leastV
    rw [if_neg hne]
    omega
  · rw [if_neg h4]
    generalize cutAt p a t g w = x at *
    have hax : a.toNat < x := by omega
    have hk := s3 (x - 1) (by omega) (by omega)
    unfold okB at hk
    rw [show x - 1 + 1 = x by omega] at hk
    have hpl := pcs_len (fs := p.fs) (a := a.toNat) (b := x)
    have hpp := pcs_pos (fs := p.fs) hax (by omega)
    have hpc := pcs_total (fs := p.fs) (a := a.toNat) (b := x) (by omega) (by omega)
    have hst : amSize (cutPk p a.toNat x) w = amHead true w + sizeV (((pcs p.fs a.toNat x).length : Int) - 1) (lenW w) + (x - a) := by
      have hnb : ¬ amBad (cutPk p a.toNat x) w := by
        have hfr := cutFi_range p a.toNat x
        rintro (h | h)
        · rcases h with h | h | h | h
          · rw [amWidth_iff.2 hw] at h; cases h
          · have : cutFi p a.toNat x < 0 := h; omega
          · have : cutFi p a.toNat x > 3 := h; omega
          · rw [show (cutPk p a.toNat x).sn = p.sn from rfl, hsn] at h; cases h
        · rcases h with h | h | h
          · cases h.1
          · have : ((a.toNat : Nat) : Int) < 0 := h; omega
          · have h : ((a.toNat : Nat) : Int) ≥ offTop w := h
            have : offTop w ≥ 32768 := by unfold offTop; split <;> omega
            omega
      unfold amSize
      rw [if_neg hnb]
      show fieldsV (pcs p.fs a.toNat x) (amHead true w) (lenW w) = _
      unfold fieldsV
      rw [if_neg (by omega), fieldsBad_no (fun i hi => ?_), if_neg (by decide), if_neg (by omega)]
      · omega
      · rw [fieldBad_get hi]
        refine decide_eq_false ?_
        rintro (h | ⟨h, h'⟩)
        · exact pcs_ne (List.getElem_mem hi) h
        · have := pcs_bound (B := 2047) (fs := p.fs) (a := a.toNat) (b := x) (fun j hj hj2 => (hfo.each j hj).2 hj2) i hi h'
          omega
    have hsz := sizeV_range (((pcs p.fs a.toNat x).length : Int) - 1) (lenW w)
    exact .part x h1 h2 h3 (by omega) (by omega) (by omega) (by omega) hst ⟨hpp, by omega⟩
end Go.Proofs.Ytgbpjbpdpgbngaa
/-
  What came in parts: a packet's parts, cut anew, make it; plain.
-/
namespace Go.Proofs.Ytgbpjbpdpgbngaa
set_option maxRecDepth 20000
open Go Go.Am

def bitC (c : List Bool) (i : Nat) : Bool := (c[i]?).getD false
theorem edge_pcs : ∀ {fs : List (List UInt8)} {a b k : Nat}, a < k → k < b → b ≤ total fs → edge (pcs fs a b) (k - a) = edge fs k
  | [], a, b, k, h1, h2, h3 => by have : total [] = 0 := rfl; omega
  | f :: fs, a, b, k, h1, h2, h3 => by
    rw [total_cons] at h3
    by_cases ha : f.length ≤ a
    · rw [pcs_skip ha, edge_skip (x := k) (by omega), ← edge_pcs (fs := fs) (a := a - f.length) (b := b - f.length) (k := k - f.length) (by omega) (by omega) (by omega)]
      congr 1; omega
    · rw [pcs_here (by omega) (by omega)]
      have hlen : ((f.take b).drop a).length = min b f.length - a := by rw [List.length_drop, List.length_take]
      by_cases hk : k < f.length
      · rw [edge_in (x := k) (by omega) hk, edge_in (by omega) (by rw [hlen]; omega)]
      · rw [edge_skip (x := k) (by omega), edge_skip (by rw [hlen]; omega), hlen, Nat.min_eq_right (by omega)]
        by_cases hk2 : k = f.length
        · subst hk2
          rw [show f.length - a - (f.length - a) = 0 by omega, Nat.sub_self, edge_zero, edge_zero]
        · rw [← edge_pcs (fs := fs) (a := 0) (b := b - f.length) (k := k - f.length) (by omega) (by omega) (by omega)]
          congr 1; omega
/-- A part of a packet's bytes, from a to b. -/
structure PartOf (p : Pk) (a b : Nat) (q : Pk) : Prop where
  ab : a < b
  bn : b ≤ total p.fs
  sn : q.sn = p.sn
  off : q.off = (a : Int)
  fs : q.fs = pcs p.fs a b
  ends : endsB q = decide (b = total p.fs)
  w : wth q.fi = true ↔ (edge p.fs a = false ∨ (a = 0 ∧ wth p.fi = true))
  c : ctg q.fi = true ↔ (edge p.fs b = false ∨ (b = total p.fs ∧ ctg p.fi = true))
  fi : 0 ≤ q.fi ∧ q.fi ≤ 3
  right : rightB q = true
theorem PartOf.tot {p q : Pk} {a b : Nat} (h : PartOf p a b q) : total q.fs = b - a := by rw [h.fs]; exact pcs_total (by have := h.ab; omega) h.bn
theorem PartOf.span {p q : Pk} {a b : Nat} (h : PartOf p a b q) : spanP q = ((a : Int), (b : Int)) := by
  have := h.tot; have := h.ab
  unfold spanP; rw [h.off]; congr 1; omega
theorem PartOf.data {p q : Pk} {a b : Nat} (h : PartOf p a b q) : q.fs.flatten = (p.fs.flatten.take b).drop a := by rw [h.fs]; exact pcs_flat (by have := h.ab; omega)
/-- What is there of the packet. -/
structure MInv (p : Pk) (came : List Bool) (x : PV) : Prop where
  sn : x.sn = p.sn
  l : ∀ k : Int, hasP x.l k ↔ 0 ≤ k ∧ k < (total p.fs : Int) ∧ bitC came k.toNat = true
  e : x.e = if bitC came (total p.fs - 1) = true then (total p.fs : Int) else -1
  D : ∀ k, k < total p.fs → bitC came k = true → x.D[k]? = p.fs.flatten[k]?
  em1 : ∀ k : Nat, 0 < k → k < total p.fs → hasE x.em k = true → edge p.fs k = true
  em2 : ∀ k : Nat, 0 < k → k < total p.fs → bitC came k = true → edge p.fs k = true → hasE x.em k = true
  fi : x.fi = (if bitC came 0 = true ∧ wth p.fi = true then 2 else 0) + (if bitC came (total p.fs - 1) = true ∧ ctg p.fi = true then 1 else 0)
def allC (c : List Bool) (a b : Nat) : Bool := (List.range (b - a)).all fun i => bitC c (a + i)
theorem allC_iff {c : List Bool} {a b : Nat} : allC c a b = true ↔ ∀ k, a ≤ k → k < b → bitC c k = true := by
  unfold allC
  rw [List.all_eq_true]
  constructor
  · intro h k h1 h2
    have := h (k - a) (List.mem_range.2 (by omega))
    rwa [show a + (k - a) = k by omega] at this
  · intro h i hi
    exact h _ (by omega) (by have := List.mem_range.1 hi; omega)
section
variable {p q : Pk} {a b : Nat} {came : List Bool} {x : PV}
theorem MInv.has (m : MInv p came x) (ok : x.Ok) (h : PartOf p a b q) (hn : total p.fs ≤ 4000) : hasS (spanP q) x.l = allC came a b := by
  have h1 := h.ab; have h2 := h.bn
  have hy := spanP_right h.right
  rw [h.span] at hy ⊢
  have e : hasS ((a : Int), (b : Int)) x.l = true ↔ allC came a b = true := by
    rw [hasS_iff ok.so, allC_iff]
    constructor
    · rintro ⟨_, k⟩ i g1 g2
      have := ((m.l i).1 (k i (by dsimp only; omega) (by dsimp only; omega))).2.2
      simpa using this
    · intro k
      refine ⟨hy, fun i g1 g2 => (m.l i).2 ⟨by dsimp only at g1; omega, by dsimp only at g2; omega, k _ (by dsimp only at g1; omega) (by dsimp only at g1 g2; omega)⟩⟩
  cases h3 : hasS ((a : Int), (b : Int)) x.l <;> cases h4 : allC came a b <;> simp_all
theorem MInv.code (m : MInv p came x) (ok : x.Ok) (h : PartOf p a b q) (hn : total p.fs ≤ 4000) :
    (allC came a b = true ∧ putK q x.l x.e = 12) ∨ (allC came a b = false ∧ (putK q x.l x.e = 0 ∨ putK q x.l x.e = 5)) := by
  have h1 := h.ab; have h2 := h.bn
  have hh := m.has ok h hn
  have hfit : fitsC x.l x.e (spanP q) (endsB q) = if hasS (spanP q) x.l = true then 12 else 0 := by
    unfold fitsC
    rw [if_neg]
    rw [h.ends, h.span]
    dsimp only
    rintro (⟨g1, g2⟩ | ⟨g1, g2⟩)
    · have he := m.e
      by_cases hc : bitC came (total p.fs - 1) = true
      · rw [if_pos hc] at he
        rw [decide_eq_true_iff] at g2
        omega
      · rw [if_neg hc] at he; exact g1 he
    · rw [decide_eq_true_iff] at g1
      have := (topL_le ok.so (b := (b : Int)) (by omega)).2 fun k hk => by have := (m.l k).1 hk; omega
      omega
  unfold putK
  rw [if_neg (by rw [h.right]; simp), hfit, hh]
  cases hc : allC came a b
  · refine .inr ⟨rfl, ?_⟩
    simp only [Bool.false_eq_true, if_false, ne_eq, not_true_eq_false]
    unfold addC spCode
    rw [if_pos (spanP_right h.right)]
    split
    · exact .inr rfl
    · exact .inl rfl
  · exact .inl ⟨rfl, by simp⟩
end
end Go.Proofs.Ytgbpjbpdpgbngaa
/-
  What came in parts: a part more, and the end; plain.
-/
namespace Go.Proofs.Ytgbpjbpdpgbngaa
set_option maxRecDepth 20000
open Go Go.Am

theorem total_pos {fs : List (List UInt8)} (h : ∀ f ∈ fs, f.length ≠ 0) : ∀ {i : Nat}, i < fs.length → total (fs.take i) < total fs := by
  intro i hi
  have h1 := total_get (l := fs.drop i) (i := 0) (by rw [List.length_drop]; omega)
  have h2 : ((fs.drop i)[0]'(by rw [List.length_drop]; omega)).length ≠ 0 := h _ (List.mem_of_mem_drop (List.getElem_mem _))
  have h3 : total fs = total (fs.take i) + total (fs.drop i) := by
    conv => lhs; rw [← List.take_append_drop i fs]
    unfold total; rw [List.flatten_append, List.length_append]
  omega
theorem total_pos0 {fs : List (List UInt8)} (h : ∀ f ∈ fs, f.length ≠ 0) {i : Nat} (h0 : 0 < i) (hi : i ≤ fs.length) : 0 < total (fs.take i) := by
  have := total_pos (fs := fs.take i) (i := 0) (fun f hf => h f (List.mem_of_mem_take hf)) (by rw [List.length_take]; omega)
  omega
theorem cut_part {p : Pk} {a : Nat} {g w : Int} (h1 : p.part = false) (h2 : amSize p w > 0) (h3 : a < total p.fs) (h4 : leastV w ≤ g) (h5 : 0 ≤ g ∧ g ≤ 4096) :
    ∃ q b, cutRes p a (total p.fs) g w = (q, ((b : Nat) : Int), 0) ∧ PartOf p a b q := by
  obtain ⟨hw, hf1, hf2, hsn, hfo, ho1, ho2, hpl⟩ := amSize_ok h2
  obtain ⟨hl, ho⟩ := hpl h1
  have g1 := hfo.one
  have g2 := hfo.most
  have g3 := hfo.fits
  have hr := amHead_range p.part w
  have hsz := sizeV_range ((p.fs.length : Int) - 1) (lenW w)
  have hne : ∀ f ∈ p.fs, f.length ≠ 0 := fun f hf => by
    obtain ⟨i, hi, rfl⟩ := List.getElem_of_mem hf
    have := (hfo.each i hi).1; omega
  have nf : ¬ noForm p w := by rintro (h | h)
                               · rw [h1] at h; cases h
                               · exact h h2
  have nb : ¬ badArg p a (total p.fs) g := by unfold badArg; omega
  have hc : (cutRes p a (total p.fs) g w).2.2 = 0 ∨ (cutRes p a (total p.fs) g w).2.2 = 16 := by
    unfold cutRes
    rw [if_neg nf, if_neg nb]
    repeat' split
    · exact .inl rfl
    · exact .inr rfl
    · exact .inl rfl
  have hg := cut_gives p a (total p.fs) g w
  generalize cutRes p a (total p.fs) g w = r at hc hg
  have hrp : ∀ (q : Pk), (∀ f ∈ q.fs, f.length ≠ 0) → 1 ≤ q.fs.length → q.fs.length ≤ 24 → 0 ≤ q.fi ∧ q.fi ≤ 3 → 0 ≤ q.off → (q.part = true ∨ q.off = 0) → q.off + (total q.fs : Int) ≤ 4000 → rightB q = true := fun q k1 k2 k3 k4 k5 k6 k7 => by
    have hh : hollowB q.fs = false := Bool.eq_false_iff.2 fun hb => by
      obtain ⟨f, hf, he⟩ := List.any_eq_true.1 hb
      exact k1 f hf (by rw [of_decide_eq_true he]; rfl)
    unfold rightB
    simp only [Bool.and_eq_true, Bool.not_eq_true', Bool.or_eq_false_iff, decide_eq_false_iff_not, decide_eq_true_eq, Bool.or_eq_true]
    refine ⟨⟨⟨⟨⟨by omega, by omega⟩, hh⟩, by omega⟩, by omega⟩, ⟨⟨k5, by omega⟩, k6⟩, by omega⟩
  cases hg with
  | no c h0 h => rcases hc with hc | hc <;> dsimp only at hc <;> omega
  | whole q1 q2 q3 q4 q5 =>
    have ha : a = 0 := by omega
    subst ha
    refine ⟨_, _, rfl, ⟨h3, Nat.le_refl _, rfl, by dsimp only; omega, (pcs_all hne).symm, ?_, ?_, ?_, ⟨hf1, hf2⟩, ?_⟩⟩
    · unfold endsB; dsimp only; rw [h1]; simp
    · dsimp only; rw [edge_zero]; simp
    · dsimp only; rw [edge_top]; simp
    · exact hrp _ hne g1 g2 ⟨hf1, hf2⟩ (by dsimp only; omega) (.inr ho) (by dsimp only; omega)
  | part x q1 q2 q3 q4 q5 q6 q7 q8 q9 =>
    have hax : a < x := by omega
    have hxn : x ≤ total p.fs := by omega
    have ht : total (pcs p.fs a x) = x - a := pcs_total (by omega) hxn
    rw [Int.toNat_natCast] at *
    have hfr := cutFi_range p a x
    refine ⟨_, x, rfl, ⟨hax, hxn, rfl, rfl, rfl, ?_, ?_, ?_, hfr, ?_⟩⟩
    · unfold endsB cutPk; simp
    · show wth (cutFi p a x) = true ↔ _
      unfold wth cutFi
      rw [decide_eq_true_iff]
      by_cases e1 : edge p.fs a = false ∨ (a = 0 ∧ wth p.fi = true)
      · rw [if_pos e1]
        refine ⟨fun _ => e1, fun _ => ?_⟩
        split <;> omega
      · rw [if_neg e1]
        refine ⟨fun h => ?_, fun h => absurd h e1⟩
        split at h <;> omega
    · show ctg (cutFi p a x) = true ↔ _
      unfold ctg cutFi
      rw [decide_eq_true_iff]
      by_cases e1 : edge p.fs x = false ∨ (x = total p.fs ∧ ctg p.fi = true)
      · rw [if_pos e1]
        refine ⟨fun _ => e1, fun _ => ?_⟩
        split <;> omega
      · rw [if_neg e1]
        refine ⟨fun h => ?_, fun h => absurd h e1⟩
        split at h <;> omega
    · refine hrp _ (fun f hf => pcs_ne hf) q9.1 (Nat.le_trans q9.2 g2) hfr ?_ (.inl rfl) ?_
      · show 0 ≤ ((a : Nat) : Int); omega
      · show ((a : Nat) : Int) + (total (pcs p.fs a x) : Int) ≤ 4000
        omega
theorem MInv.congr {p : Pk} {c c' : List Bool} {x : PV} (m : MInv p c x) (h : ∀ k, bitC c' k = bitC c k) : MInv p c' x :=
  ⟨m.sn, fun k => by rw [h]; exact m.l k, by rw [h]; exact m.e, fun k hk hc => m.D k hk (by rw [← h]; exact hc), m.em1, fun k h0 hk hc => m.em2 k h0 hk (by rw [← h]; exact hc), by rw [h, h]; exact m.fi⟩
theorem MInv.fresh {p : Pk} {c : List Bool} (h : ∀ k, bitC c k = false) : MInv p c (freshV p.sn) :=
  ⟨rfl, fun k => by rw [h]; simp [freshV, has_nil], by rw [h]; rfl, fun k hk hc => (by rw [h] at hc; cases hc), fun k h0 hk hc => (by cases hc), fun k h0 hk hc => (by rw [h] at hc; cases hc), by rw [h, h]; simp [freshV]⟩
theorem MInv.step {p q : Pk} {a b : Nat} {c c' : List Bool} {x : PV} (m : MInv p c x) (ok : x.Ok) (h : PartOf p a b q) (hn : total p.fs ≤ 4000) (h0 : putK q x.l x.e = 0)
    (hc : ∀ k, k < total p.fs → bitC c' k = (bitC c k || decide (a ≤ k ∧ k < b))) : MInv p c' (updV x q) := by
  obtain ⟨hr, hf, ha⟩ := putK_zero h0
  have hab := h.ab; have hbn := h.bn; have htot := h.tot; have hoff := h.off
  have hfl := h.data
  have hne : ∀ f ∈ q.fs, f.length ≠ 0 := fun f hf => by rw [h.fs] at hf; exact pcs_ne hf
  have hhas : ∀ k : Nat, k < total p.fs → (hasS ((k : Int), (k : Int) + 1) x.l = true ↔ bitC c k = true) := fun k hk => by
    rw [hasS_iff ok.so]
    constructor
    · rintro ⟨_, g⟩
      have := ((m.l k).1 (g k (Int.le_refl _) (by dsimp only; omega))).2.2
      simpa using this
    · intro g
      refine ⟨spRight_iff.2 ⟨by dsimp only; omega, by dsimp only; omega, by dsimp only; omega⟩, fun i g1 g2 => ?_⟩
      dsimp only at g1 g2
      have : i = (k : Int) := by omega
      subst this
      exact (m.l _).2 ⟨by omega, by omega, by simpa using g⟩
  have hends : endsB q = true ↔ b = total p.fs := by rw [h.ends, decide_eq_true_iff]
  refine ⟨m.sn, fun k => ?_, ?_, fun k hk hk' => ?_, fun k hk0 hk hh => ?_, fun k hk0 hk hk' he => ?_, ?_⟩
  · show hasP (addS (spanP q) x.l) k ↔ _
    rw [add_has ok.so ha, m.l k, h.span]
    dsimp only
    constructor
    · rintro (⟨g1, g2, g3⟩ | ⟨g1, g2⟩)
      · exact ⟨g1, g2, by rw [hc _ (by omega), g3]; rfl⟩
      · exact ⟨by omega, by omega, by rw [hc _ (by omega), decide_eq_true (by omega), Bool.or_true]⟩
    · rintro ⟨g1, g2, g3⟩
      rw [hc _ (by omega), Bool.or_eq_true, decide_eq_true_iff] at g3
      rcases g3 with g3 | g3
      · exact .inl ⟨g1, g2, g3⟩
      · exact .inr ⟨by omega, by omega⟩
  · show noteE q (endsB q) x.e = _
    rw [hc _ (by omega)]
    unfold noteE
    by_cases hb : b = total p.fs
    · rw [if_pos (hends.2 hb), decide_eq_true (by omega), Bool.or_true, if_pos rfl, hoff, htot]; omega
    · rw [if_neg (fun g => hb (hends.1 g)), decide_eq_false (by omega), Bool.or_false]
      exact m.e
  · show (fillB x.l q.off.toNat q.fs.flatten x.D)[k]? = _
    have hql : q.fs.flatten.length = b - a := htot
    unfold fillB
    rw [hoff, Int.toNat_natCast, fillN_get (Nat.le_refl _) (by rw [wideB_len]; omega), hql]
    rw [hc k hk, Bool.or_eq_true, decide_eq_true_iff] at hk'
    by_cases hck : bitC c k = true
    · rw [if_neg (fun g => by have := (hhas k hk).2 hck; rw [g.2.2] at this; cases this)]
      have hp := (m.l (k : Int)).2 ⟨by omega, by omega, by simpa using hck⟩
      obtain ⟨y, hy, y1, y2⟩ := hp
      have := ok.inD y hy
      unfold wideB
      split
      · rw [List.getElem?_append_left (by omega)]; exact m.D k hk hck
      · exact m.D k hk hck
    · have hab' : a ≤ k ∧ k < b := hk'.resolve_left hck
      have hs : hasS ((k : Int), (k : Int) + 1) x.l = false := by
        cases e : hasS ((k : Int), (k : Int) + 1) x.l
        · rfl
        · exact absurd ((hhas k hk).1 e) hck
      rw [if_pos ⟨hab'.1, by omega, hs⟩, hfl, List.getElem?_drop, List.getElem?_take_of_lt (by omega)]
      congr 1; omega
  · have hh' : hasE (noteM q (endsB q) x.em) (k : Int) = true := hh
    rw [hasE_noteM] at hh'
    rcases hh' with g | ⟨g1, g2, g3⟩ | ⟨i, g1, g2, g3⟩ | ⟨g1, g2, g3⟩
    · exact m.em1 k hk0 hk g
    · have hka : k = a := by omega
      subst hka
      rw [(bits2 h.fi).1] at g2
      have hw : ¬ wth q.fi = true := fun e => by rw [if_pos e] at g2; cases g2
      rw [h.w] at hw
      cases e : edge p.fs k
      · exact absurd (.inl e) hw
      · rfl
    · have h1 := total_pos hne g2
      have h2 := total_pos0 hne g1 (by omega)
      have hk2 : k = a + total (q.fs.take i) := by omega
      rw [← edge_pcs (a := a) (b := b) (k := k) (by omega) (by omega) hbn, ← h.fs, edge_iff]
      exact ⟨i, by omega, by omega⟩
    · have hkb : k = b := by omega
      subst hkb
      rw [(bits2 h.fi).2] at g2
      have hw : ¬ ctg q.fi = true := fun e => by rw [if_pos e] at g2; cases g2
      rw [h.c] at hw
      cases e : edge p.fs k
      · exact absurd (.inl e) hw
      · rfl
  · show hasE (noteM q (endsB q) x.em) (k : Int) = true
    rw [hasE_noteM]
    by_cases hck : bitC c k = true
    · exact .inl (m.em2 k hk0 hk hck he)
    · rw [hc k hk, Bool.or_eq_true, decide_eq_true_iff] at hk'
      have hab' : a ≤ k ∧ k < b := hk'.resolve_left hck
      by_cases hka : k = a
      · subst hka
        refine .inr (.inl ⟨by omega, ?_, hoff.symm⟩)
        rw [(bits2 h.fi).1, if_neg]
        rw [h.w]
        rintro (g | g)
        · rw [he] at g; cases g
        · omega
      · have e2 := he
        rw [← edge_pcs (a := a) (b := b) (k := k) (by omega) (by omega) hbn, ← h.fs, edge_iff] at e2
        obtain ⟨i, i1, i2⟩ := e2
        refine .inr (.inr (.inl ⟨i, ?_, ?_, by omega⟩))
        · refine Nat.pos_of_ne_zero fun e => ?_
          subst e
          simp [total] at i2; omega
        · refine Nat.lt_of_le_of_ne i1 fun e => ?_
          subst e
          rw [List.take_length] at i2; omega
  · show noteF q (endsB q) x.fi = _
    have hfi : x.fi = fiV (bitC c 0 && wth p.fi) (bitC c (total p.fs - 1) && ctg p.fi) := by
      rw [m.fi]; unfold fiV
      simp only [Bool.and_eq_true]
    have goal : noteF q (endsB q) x.fi = fiV (bitC c' 0 && wth p.fi) (bitC c' (total p.fs - 1) && ctg p.fi) := by
      unfold noteF noteF1
      rw [(bits2 h.fi).1, (bits2 h.fi).2, hfi, hc 0 (by omega), hc _ (by omega), fi_or2]
      have w0 : q.off = 0 → wth q.fi = wth p.fi := fun e => by
        have ha0 : a = 0 := by omega
        have := h.w
        rw [ha0, edge_zero] at this
        cases e1 : wth q.fi <;> cases e2 : wth p.fi <;> simp_all
      have c0 : b = total p.fs → ctg q.fi = ctg p.fi := fun e => by
        have := h.c
        rw [e, edge_top] at this
        cases e1 : ctg q.fi <;> cases e2 : ctg p.fi <;> simp_all
      have d1 : decide (a ≤ 0 ∧ 0 < b) = decide (q.off = 0) := by rw [hoff]; exact decide_eq_decide.2 (by omega)
      have d2 : decide (a ≤ total p.fs - 1 ∧ total p.fs - 1 < b) = endsB q := by rw [h.ends]; exact decide_eq_decide.2 (by omega)
      rw [d1, d2]
      by_cases h1 : q.off = 0
      · rw [if_pos h1, decide_eq_true h1, w0 h1, Bool.or_true, Bool.true_and]
        have e3 : (bitC c 0 && wth p.fi || wth p.fi) = wth p.fi := by cases bitC c 0 <;> cases wth p.fi <;> rfl
        rw [e3]
        by_cases h2 : endsB q = true
        · rw [if_pos h2, h2, c0 (hends.1 h2), Bool.or_true, Bool.true_and, fi_or1]
          congr 1
          cases bitC c (total p.fs - 1) <;> cases ctg p.fi <;> rfl
        · rw [if_neg h2, Bool.eq_false_iff.2 h2, Bool.or_false]
      · rw [if_neg h1, decide_eq_false h1, Bool.or_false]
        by_cases h2 : endsB q = true
        · rw [if_pos h2, h2, c0 (hends.1 h2), Bool.or_true, Bool.true_and, fi_or1]
          congr 1
          cases bitC c (total p.fs - 1) <;> cases ctg p.fi <;> rfl
        · rw [if_neg h2, Bool.eq_false_iff.2 h2, Bool.or_false]
    rw [goal]; unfold fiV
    simp only [Bool.and_eq_true]
/-- All came: it is whole. -/
theorem MInv.whole {p : Pk} {c : List Bool} {x : PV} (m : MInv p c x) (ok : x.Ok) (h0 : 0 < total p.fs) (hn : total p.fs ≤ 4000) : wholeV x.l x.e = true ↔ ∀ k, k < total p.fs → bitC c k = true := by
  unfold wholeV
  rw [Bool.and_eq_true, decide_eq_true_iff]
  constructor
  · rintro ⟨h1, h2⟩ k hk
    have he := m.e
    by_cases hb : bitC c (total p.fs - 1) = true
    · rw [if_pos hb] at he
      have := ((m.l k).1 (((hasS_iff ok.so).1 h2).2 k (by dsimp only; omega) (by dsimp only; omega))).2.2
      simpa using this
    · rw [if_neg hb] at he; omega
  · intro h
    have he : x.e = (total p.fs : Int) := by rw [m.e, if_pos (h _ (by omega))]
    rw [he]
    refine ⟨by omega, (hasS_iff ok.so).2 ⟨spRight_iff.2 ⟨by dsimp only; omega, by dsimp only; omega, by dsimp only; omega⟩, fun i g1 g2 => (m.l i).2 ⟨by dsimp only at g1; omega, by dsimp only at g2; omega, h _ (by dsimp only at g1 g2; omega)⟩⟩⟩
theorem MInv.take {p : Pk} {c : List Bool} {x : PV} (m : MInv p c x) (hall : ∀ k, k < total p.fs → bitC c k = true) : ∀ k, k ≤ total p.fs →
    ∃ s, takeN x.D x.em (total p.fs : Int) k = (pcs p.fs 0 s, s) ∧ s ≤ k ∧ (s = 0 ∨ edge p.fs s = true) ∧ ∀ z, s < z → z ≤ k → edge p.fs z = false
  | 0, _ => ⟨0, by rw [pcs_nil (Nat.le_refl _)]; rfl, Nat.le_refl _, .inl rfl, fun z h1 h2 => by omega⟩
  | k + 1, hk => by
    obtain ⟨s, h1, h2, h3, h4⟩ := MInv.take m hall k (by omega)
    have e : takeN x.D x.em (total p.fs : Int) (k + 1) = if ((k : Int) + 1 = (total p.fs : Int) ∨ hasE x.em ((k : Int) + 1) = true) then ((takeN x.D x.em (total p.fs : Int) k).1 ++ [(x.D.take (k + 1)).drop (takeN x.D x.em (total p.fs : Int) k).2], k + 1) else takeN x.D x.em (total p.fs : Int) k := rfl
    have hcond : ((k : Int) + 1 = (total p.fs : Int) ∨ hasE x.em ((k : Int) + 1) = true) ↔ edge p.fs (k + 1) = true := by
      constructor
      · rintro (g | g)
        · rw [show k + 1 = total p.fs by omega]; exact edge_top _
        · by_cases hl : k + 1 < total p.fs
          · exact m.em1 (k + 1) (by omega) hl (by simpa using g)
          · rw [show k + 1 = total p.fs by omega]; exact edge_top _
      · intro g
        by_cases hl : k + 1 < total p.fs
        · exact .inr (by simpa using m.em2 (k + 1) (by omega) hl (hall _ hl) g)
        · exact .inl (by omega)
    rw [e, h1]
    by_cases hh : edge p.fs (k + 1) = true
    · rw [if_pos (hcond.2 hh)]
      refine ⟨k + 1, ?_, Nat.le_refl _, .inr hh, fun z g1 g2 => by omega⟩
      rw [pcs_new (a := 0) (x := s) (y := k + 1) (Nat.zero_le _) (by omega) hk h3 (fun z g1 g2 => h4 z g1 (by omega))]
      have : x.D.take (k + 1) = p.fs.flatten.take (k + 1) := by
        refine List.ext_getElem? fun j => ?_
        by_cases hj : j < k + 1
        · rw [List.getElem?_take_of_lt hj, List.getElem?_take_of_lt hj]; exact m.D j (by omega) (hall j (by omega))
        · rw [List.getElem?_take_eq_none (by omega), List.getElem?_take_eq_none (by omega)]
      rw [this]
    · rw [if_neg (fun g => hh (hcond.1 g))]
      refine ⟨s, rfl, by omega, h3, fun z g1 g2 => ?_⟩
      by_cases hz : z = k + 1
      · subst hz; exact Bool.eq_false_iff.2 hh
      · exact h4 z g1 (by omega)
theorem MInv.taken {p : Pk} {c : List Bool} {x : PV} (m : MInv p c x) (h0 : 0 < total p.fs) (hne : ∀ f ∈ p.fs, f.length ≠ 0) (hfi : 0 ≤ p.fi ∧ p.fi ≤ 3) (hall : ∀ k, k < total p.fs → bitC c k = true) :
    x.e = (total p.fs : Int) ∧ (takeN x.D x.em x.e x.e.toNat).1 = p.fs ∧ x.fi = p.fi := by
  have he : x.e = (total p.fs : Int) := by rw [m.e, if_pos (hall _ (by omega))]
  refine ⟨he, ?_, ?_⟩
  · obtain ⟨s, h1, h2, h3, h4⟩ := m.take hall (total p.fs) (Nat.le_refl _)
    have hs : s = total p.fs := by
      refine Nat.le_antisymm h2 (Nat.le_of_not_lt fun hlt => ?_)
      have := h4 _ hlt (Nat.le_refl _)
      rw [edge_top] at this; cases this
    rw [he, Int.toNat_natCast, h1, hs]
    exact pcs_all hne
  · rw [m.fi, hall 0 h0, hall _ (by omega)]
    simp only [true_and]
    unfold wth ctg
    obtain ⟨g1, g2⟩ := hfi
    simp only [decide_eq_true_eq]
    repeat' split
    all_goals omega
/-- The pieces that the parts make. -/
def MI (p : Pk) (c : List Bool) (S : List PV) : Prop := (S = [] ∧ ∀ k, bitC c k = false) ∨ ∃ x, S = [x] ∧ x.Ok ∧ MInv p c x
theorem MI.congr {p : Pk} {c c' : List Bool} {S : List PV} (m : MI p c S) (h : ∀ k, bitC c' k = bitC c k) : MI p c' S := by
  rcases m with ⟨rfl, h1⟩ | ⟨x, rfl, h1, h2⟩
  · exact .inl ⟨rfl, fun k => by rw [h]; exact h1 k⟩
  · exact .inr ⟨x, rfl, h1, h2.congr h⟩
theorem MI.put {p q : Pk} {a b : Nat} {c : List Bool} {S : List PV} (m : MI p c S) (hsn : inR p.sn) (h : PartOf p a b q) (hn : total p.fs ≤ 4000) (hok : ∀ x ∈ putV S q, x.Ok) :
    (allC c a b = true ∧ putS S q = 12 ∧ MI p c (putV S q)) ∨ (allC c a b = false ∧ putS S q = 5) ∨
    (allC c a b = false ∧ putS S q = 0 ∧ ∀ c', (∀ k, k < total p.fs → bitC c' k = (bitC c k || decide (a ≤ k ∧ k < b))) → MI p c' (putV S q)) := by
  have hq : q.sn = p.sn := h.sn
  have key : ∃ x, x.Ok ∧ MInv p c x ∧ putS S q = putK q x.l x.e ∧ (putS S q = 0 → putV S q = [updV x q]) := by
    rcases m with ⟨rfl, h1⟩ | ⟨x, rfl, h1, h2⟩
    · refine ⟨freshV p.sn, PV.Ok.fresh hsn, MInv.fresh h1, rfl, fun h0 => ?_⟩
      unfold putV
      rw [if_neg (by simpa using h0), ← hq]
      rfl
    · have hf : findS [x] q.sn = some x := by
        unfold findS
        rw [List.find?_cons]
        simp [hq, h2.sn]
      refine ⟨x, h1, h2, ?_, fun h0 => ?_⟩
      · unfold putS lS eS; rw [hf]
      · unfold putV
        rw [if_neg (by simpa using h0), hf]
        show [if x.sn = q.sn then updV x q else x] = _
        rw [if_pos (by rw [hq, h2.sn])]
  obtain ⟨x, h1, h2, h3, h4⟩ := key
  rcases h2.code h1 h hn with ⟨g1, g2⟩ | ⟨g1, g2 | g2⟩
  · refine .inl ⟨g1, by rw [h3, g2], ?_⟩
    rw [putV_no (by rw [h3, g2]; decide)]; exact m
  · refine .inr (.inr ⟨g1, by rw [h3, g2], fun c' hc' => ?_⟩)
    rw [h4 (by rw [h3, g2])] at hok ⊢
    exact .inr ⟨_, rfl, hok _ (List.mem_singleton.2 rfl), h2.step h1 h hn g2 hc'⟩
  · exact .inr (.inl ⟨g1, by rw [h3, g2]⟩)
theorem MI.whole {p : Pk} {c : List Bool} {S : List PV} (m : MI p c S) (h0 : 0 < total p.fs) (hn : total p.fs ≤ 4000) : wholeS S p.sn = true → ∀ k, k < total p.fs → bitC c k = true := by
  rcases m with ⟨rfl, h1⟩ | ⟨x, rfl, h1, h2⟩
  · intro h; cases h
  · intro h
    have hf : findS [x] p.sn = some x := by unfold findS; rw [List.find?_cons]; simp [h2.sn]
    unfold wholeS at h
    rw [hf] at h
    exact (h2.whole h1 h0 hn).1 h
theorem MI.take {p : Pk} {c : List Bool} {S : List PV} (m : MI p c S) (h0 : 0 < total p.fs) (hn : total p.fs ≤ 4000) (hne : ∀ f ∈ p.fs, f.length ≠ 0) (hfi : 0 ≤ p.fi ∧ p.fi ≤ 3) (hall : ∀ k, k < total p.fs → bitC c k = true) :
    takeF S p.sn = (p.fi, p.fs) ∧ takeC S p.sn = 0 ∧ bytesS (takeS S p.sn) = 0 := by
  rcases m with ⟨rfl, h1⟩ | ⟨x, rfl, h1, h2⟩
  · have := h1 0; rw [hall 0 h0] at this; cases this
  · have hf : findS [x] p.sn = some x := by unfold findS; rw [List.find?_cons]; simp [h2.sn]
    have hw := (h2.whole h1 h0 hn).2 hall
    obtain ⟨t1, t2, t3⟩ := h2.taken h0 hne hfi hall
    unfold takeF takeC takeS wholeS
    rw [hf]
    dsimp only
    rw [if_pos hw, if_pos hw, if_pos hw, t2, t3]
    refine ⟨rfl, rfl, ?_⟩
    simp [h2.sn, bytesS]
end Go.Proofs.Ytgbpjbpdpgbngaa
/-
  Two packets, cut anew: plain.
-/
namespace Go.Proofs.Ytgbpjbpdpgbngaa
set_option maxRecDepth 20000
open Go Go.Am

/-- What came of one packet, in a store. -/
def FI (p : Pk) (c : List Bool) (S : List PV) : Prop := (findS S p.sn = none ∧ ∀ k, bitC c k = false) ∨ ∃ x, findS S p.sn = some x ∧ MInv p c x
theorem nrm_len : ∀ {l : List Sp} {b n : Int}, Nrm b l → (∀ y ∈ l, y.2 ≤ n) → b ≤ n → 2 * (l.length : Int) ≤ n - b
  | [], b, n, _, _, h => by simp; omega
  | y :: l, b, n, ⟨h1, h2, h3, h4⟩, h, _ => by
    have hy := h y (List.mem_cons_self ..)
    have := nrm_len h4 (fun z hz => h z (List.mem_cons_of_mem _ hz)) hy
    rw [List.length_cons]; omega
theorem MInv.notFull {p q : Pk} {a b : Nat} {c : List Bool} {x : PV} (m : MInv p c x) (ok : x.Ok) (h : PartOf p a b q) (hn : total p.fs ≤ 1000) : putK q x.l x.e ≠ 5 := by
  have hab := h.ab; have hbn := h.bn
  have hsp := h.span
  have hsr := spanP_right h.right
  have ha : addC (spanP q) x.l = 0 := by
    unfold addC
    rw [if_pos hsr]
    unfold spCode
    rw [if_neg]
    have hs := addL_spec (x := spanP q) ok.so.n (by rw [hsp]; dsimp only; omega) (by rw [hsp]; dsimp only; omega) (by rw [hsp]; dsimp only; omega)
    have := nrm_len hs.1 (n := 1000) (fun y hy => by
      have g := Nrm.mem hs.1 hy
      have hp : hasP (addL (spanP q) false x.l) (y.2 - 1) := ⟨y, hy, by omega, by omega⟩
      rcases (hs.2 _).1 hp with h1 | h1
      · have := (m.l _).1 h1; omega
      · rw [hsp] at h1; dsimp only at h1; omega) (by omega)
    omega
  unfold putK
  rw [if_neg (by rw [h.right]; simp), ha]
  unfold fitsC
  repeat' split
  all_goals first
    | decide
    | (rename_i g; exact absurd rfl g)
    | simp_all
theorem findS_map {S : List PV} {g : PV → PV} (hg : ∀ x, (g x).sn = x.sn) (sn : Int) : findS (S.map g) sn = (findS S sn).map g := by
  unfold findS
  rw [List.find?_map]
  congr 1
  refine congrArg (fun f => S.find? f) ?_
  funext x
  show ((g x).sn == sn) = (x.sn == sn)
  rw [hg]
theorem findS_sn {S : List PV} {sn : Int} {x : PV} (h : findS S sn = some x) : x.sn = sn ∧ x ∈ S := by
  have h1 := List.find?_some h
  exact ⟨by simpa using h1, List.mem_of_find?_eq_some h⟩
theorem put_same {S : List PV} {q : Pk} (h0 : putS S q = 0) : findS (putV S q) q.sn = some (updV ((findS S q.sn).getD (freshV q.sn)) q) := by
  unfold putV
  rw [if_neg (by simpa using h0)]
  cases hf : findS S q.sn with
  | none =>
    dsimp only
    unfold findS at hf ⊢
    rw [List.find?_append, hf]
    simp [updV, freshV]
  | some x =>
    dsimp only
    have hs := (findS_sn hf).1
    rw [findS_map (fun y => by split <;> rfl), hf]
    simp [hs]
theorem put_other {S : List PV} {q : Pk} {sn : Int} (h : sn ≠ q.sn) : findS (putV S q) sn = findS S sn := by
  unfold putV
  split
  · rfl
  · cases hf : findS S q.sn with
    | none =>
      dsimp only
      unfold findS
      rw [List.find?_append]
      have : ((updV (freshV q.sn) q).sn == sn) = false := by
        show (q.sn == sn) = false
        simpa using fun e => h e.symm
      rw [List.find?_cons, this]
      simp
    | some x =>
      dsimp only
      rw [findS_map (fun y => by split <;> rfl)]
      cases hg : findS S sn with
      | none => rfl
      | some y =>
        have := (findS_sn hg).1
        simp [this, h]
theorem filt_other {sn sn' : Int} (h : sn' ≠ sn) : ∀ S : List PV, findS (S.filter fun x => decide (x.sn ≠ sn)) sn' = findS S sn'
  | [] => rfl
  | x :: S => by
    have ih := filt_other h S
    unfold findS at ih ⊢
    rw [List.filter_cons, List.find?_cons]
    by_cases e : x.sn = sn'
    · rw [if_pos (decide_eq_true (by rw [e]; exact h)), List.find?_cons]
      simp [e]
    · have e2 : (x.sn == sn') = false := by simpa using e
      rw [e2]
      split
      · rw [List.find?_cons, e2]; exact ih
      · exact ih
/-- All of it came. -/
def allIn (p : Pk) (c : List Bool) : Prop := ∀ k, k < total p.fs → bitC c k = true
theorem FI.other {p : Pk} {c : List Bool} {S S' : List PV} (m : FI p c S) (h : findS S' p.sn = findS S p.sn) : FI p c S' := by
  unfold FI at m ⊢
  rw [h]; exact m
theorem bitC_or {c : List Bool} {a b n k : Nat} : bitC ((List.range n).map fun k => bitC c k || decide (a ≤ k ∧ k < b)) k = (decide (k < n) && (bitC c k || decide (a ≤ k ∧ k < b))) := by
  unfold bitC
  rw [List.getElem?_map]
  by_cases h : k < n
  · rw [List.getElem?_range h, decide_eq_true h, Bool.true_and]; rfl
  · rw [List.getElem?_eq_none (by rw [List.length_range]; omega), decide_eq_false h]; rfl
theorem FI.put {p q : Pk} {a b : Nat} {c : List Bool} {S : List PV} (ok : ∀ x ∈ S, x.Ok) (m : FI p c S) (hsn : inR p.sn) (h : PartOf p a b q) (hn : total p.fs ≤ 1000) :
    (putS S q = 0 ∨ putS S q = 12) ∧ ∃ c', FI p c' (putV S q) ∧ (∀ k, a ≤ k → k < b → bitC c' k = true) ∧ ∀ k, bitC c k = true → bitC c' k = true := by
  have hq : q.sn = p.sn := h.sn
  have key : ∃ x, x.Ok ∧ MInv p c x ∧ putS S q = putK q x.l x.e ∧ (findS S q.sn).getD (freshV q.sn) = x := by
    rcases m with ⟨h0, h1⟩ | ⟨x, h0, h1⟩
    · refine ⟨freshV p.sn, PV.Ok.fresh hsn, MInv.fresh h1, ?_, ?_⟩
      · unfold putS lS eS; rw [hq, h0]; rfl
      · rw [hq, h0]; rfl
    · refine ⟨x, ok x (findS_sn h0).2, h1, ?_, ?_⟩
      · unfold putS lS eS; rw [hq, h0]
      · rw [hq, h0]; rfl
  obtain ⟨x, h1, h2, h3, h4⟩ := key
  have hab := h.ab
  have hbn := h.bn
  rcases h2.code h1 h (by omega) with ⟨g1, g2⟩ | ⟨g1, g2 | g2⟩
  · refine ⟨.inr (by rw [h3, g2]), c, ?_, allC_iff.1 g1, fun k hk => hk⟩
    rw [putV_no (by rw [h3, g2]; decide)]; exact m
  · have h0 : putS S q = 0 := by rw [h3, g2]
    refine ⟨.inl h0, (List.range (total p.fs + c.length)).map fun k => bitC c k || decide (a ≤ k ∧ k < b), .inr ⟨updV x q, ?_, h2.step h1 h (by omega) g2 fun k hk => by rw [bitC_or, decide_eq_true (by omega), Bool.true_and]⟩, fun k h5 h6 => ?_, fun k h6 => ?_⟩
    · rw [← hq, put_same h0, h4]
    · rw [bitC_or, decide_eq_true (by omega), Bool.true_and, decide_eq_true ⟨h5, h6⟩, Bool.or_true]
    · have hk : k < c.length := Nat.lt_of_not_le fun hk => by unfold bitC at h6; rw [List.getElem?_eq_none hk] at h6; cases h6
      rw [bitC_or, decide_eq_true (by omega), Bool.true_and, h6, Bool.true_or]
  · exact absurd g2 (h2.notFull h1 h hn)
theorem FI.take {p : Pk} {c : List Bool} {S : List PV} (ok : ∀ x ∈ S, x.Ok) (m : FI p c S) (h0 : 0 < total p.fs) (hn : total p.fs ≤ 1000) (hne : ∀ f ∈ p.fs, f.length ≠ 0) (hfi : 0 ≤ p.fi ∧ p.fi ≤ 3) (hall : allIn p c) :
    takeF S p.sn = (p.fi, p.fs) ∧ takeC S p.sn = 0 ∧ takeS S p.sn = S.filter fun x => decide (x.sn ≠ p.sn) := by
  rcases m with ⟨h1, h2⟩ | ⟨x, h1, h2⟩
  · have := h2 0; rw [hall 0 h0] at this; cases this
  · have hw := (h2.whole (ok x (findS_sn h1).2) h0 (by omega)).2 hall
    obtain ⟨t1, t2, t3⟩ := h2.taken h0 hne hfi hall
    unfold takeF takeC takeS wholeS
    rw [h1]
    dsimp only
    rw [if_pos hw, if_pos hw, if_pos hw, t2, t3]
    exact ⟨rfl, rfl, rfl⟩
/-- Only two numbers are there. -/
def Two (S : List PV) : Prop := ∀ x ∈ S, x.sn = 1 ∨ x.sn = 2
theorem Two.put {S : List PV} (h : Two S) {q : Pk} (hq : q.sn = 1 ∨ q.sn = 2) : Two (putV S q) := by
  unfold putV
  split
  · exact h
  · cases hf : findS S q.sn with
    | none =>
      intro x hx
      rcases List.mem_append.1 hx with hx | hx
      · exact h x hx
      · rw [List.mem_singleton.1 hx]; exact hq
    | some y =>
      intro x hx
      obtain ⟨z, hz, rfl⟩ := List.mem_map.1 hx
      have := h z hz
      split
      · exact this
      · exact this
theorem flds_posT {p : Pk} {w : Int} (h : amSize p w > 0) : 0 < total p.fs ∧ total p.fs ≤ 4000 ∧ p.fs.length ≤ 24 ∧ 1 ≤ p.fs.length ∧ (∀ f ∈ p.fs, f.length ≠ 0) ∧ 0 ≤ p.fi ∧ p.fi ≤ 3 := by
  obtain ⟨hw, hf1, hf2, hsn, hfo, ho1, ho2, hpl⟩ := amSize_ok h
  have g1 := hfo.one
  have g2 := hfo.most
  have g3 := hfo.fits
  have hh := amHead_range p.part w
  have hsz := sizeV_range ((p.fs.length : Int) - 1) (lenW w)
  have hne : ∀ f ∈ p.fs, f.length ≠ 0 := fun f hf => by
    obtain ⟨i, hi, rfl⟩ := List.getElem_of_mem hf
    have := (hfo.each i hi).1; omega
  refine ⟨?_, by omega, g2, g1, hne, hf1, hf2⟩
  have := total_pos hne (i := 0) (by omega)
  omega
end Go.Proofs.Ytgbpjbpdpgbngaa
/-
  Appending to a slice with the right to, whatever else stands beside it.
-/
namespace Go.Proofs.Ytgbpjbpdpgbngaa
open Go Go.Am

theorem aapp_sub {σ σa σ2 : AHeap} {s bytes : Nat} {xs ys : List AVal} {tk : Tok} {K : AVal → AHeap → Prop} (ho : Owned σ σa tk) (hs : Sub σ2 σa) (hl : (xs.length + ys.length) * bytes ≤ 140737488355328)
    (h : ∀ tk' σ3 σ4, Owned σ σ4 tk' → Sub σ3 σ4 → K (.slice s (xs ++ ys) tk') σ3) : AApp σ2 s bytes xs tk ys K := by
  have fresh : ∀ t', σ2 t' = none → σ t' = none := by
    intro t' ht'
    cases e : σ t' with
    | none => rfl
    | some o => rw [hs _ _ (ho.same_of e)] at ht'; cases ht'
  rcases ho with ⟨rfl, rfl⟩ | ⟨t, h0, rfl, rfl⟩
  · exact aapp_full hl fun t ht => h _ _ _ (.tip (fresh t ht)) (Sub.upd hs _ _)
  · refine aapp_tip (hs _ _ (upd_same _ _ _)) hl fun t' ht' => ?_
    refine h _ _ _ (.tip (fresh t' ht')) (Sub.upd ?_ _ _)
    intro i o e
    have hit : i ≠ t := fun k => by subst k; rw [h0] at e; cases e
    rw [del_ne _ hit]
    exact hs _ _ (by rw [upd_ne _ _ hit]; exact e)
/-- What stands above what has the right to append may skip. -/
theorem Owned.less {σ σx σ3 : AHeap} {tk : Tok} (h : Owned σx σ3 tk) (hs : Sub σx σ) : ∃ σ4, Owned σ σ4 tk ∧ Sub σ3 σ4 := by
  rcases h with ⟨rfl, rfl⟩ | ⟨t, h0, rfl, rfl⟩
  · exact ⟨σ, .full _, hs⟩
  · refine ⟨upd σ t .tip, .tip ?_, Sub.upd hs _ _⟩
    cases e : σ t with
    | none => rfl
    | some o => rw [hs _ _ e] at h0; cases h0
theorem aret_sl1 {s : Nat} {xs : List AVal} {t : Tok} {ys : List AVal} {σ σ2 : AHeap} {Q : AVal → AHeap → Prop} (hs : Sub σ σ2) (h : Q (.tup (.slice s xs .none :: ys)) σ2) : ARet (.tup (.slice s xs t :: ys)) σ Q :=
  aret (VLe.tup (VLe.cons (VLe.slice _ _ _) fun _ _ h => h)) hs h
end Go.Proofs.Ytgbpjbpdpgbngaa
/-
  Packets that are not acknowledged: their bytes.
-/
namespace Go.Proofs.Ytgbpjbpdpgbngaa
open Go Go.Am

/-- The lengths of all fields but the last. -/
def lensOf (l : List (List UInt8)) : List Int := (l.take (l.length - 1)).map fun f => (f.length : Int)
theorem lensOf_length (l : List (List UInt8)) : (lensOf l).length = l.length - 1 := by unfold lensOf; rw [List.length_map, List.length_take]; omega

def umMore (l : List (List UInt8)) : Bool := decide (l.length > 1)
def tailB (l : List (List UInt8)) (W : Int) : List UInt8 := (if l.length > 1 then writeBytes (lensOf l) W else []) ++ l.flatten
structure FieldsOk (l : List (List UInt8)) (h w : Int) : Prop where
  one : 1 ≤ l.length
  most : l.length ≤ 24
  each : ∀ i, (hi : i < l.length) → 1 ≤ l[i].length ∧ (i + 1 < l.length → l[i].length ≤ 2047)
  fits : h + sizeV ((l.length : Int) - 1) w + (total l : Int) ≤ 4000
theorem lensOf_code {l : List (List UInt8)} {h w : Int} {W : Int} (hW : W = 11 ∨ W = 15) (k : FieldsOk l h w) (h2 : 1 < l.length) : writeCode (lensOf l) W = 0 := by
  have h24 := k.most
  have hlen := lensOf_length l
  unfold writeCode
  rw [widthOk_iff.2 hW, if_neg (by simp), if_neg (by omega), if_neg (by omega), if_neg]
  intro hb
  obtain ⟨x, hx, hbad⟩ := List.any_eq_true.1 hb
  unfold lensOf at hx
  obtain ⟨f, hf, rfl⟩ := List.mem_map.1 hx
  obtain ⟨i, hi, rfl⟩ := List.getElem_of_mem hf
  rw [List.length_take] at hi
  have he := k.each i (by omega)
  have := of_decide_eq_true hbad
  rw [List.getElem_take] at this
  have hp : 2 ^ 11 ≤ 2 ^ W.toNat := Nat.pow_le_pow_right (by omega) (by omega)
  generalize 2 ^ W.toNat = q at *
  omega

end Go.Proofs.Ytgbpjbpdpgbngaa
/-
  What lengths bits begin with: plain laws.
-/
namespace Go.Proofs.Ytgbpjbpdpgbngaa
open Go Go.Am

def rdLens (x : List Bool) (W : Nat) : Nat → List Int → Nat → List Int × Int × Int
  | 0, _, _ => ([], 0, 2)
  | f + 1, out, k =>
    if x.length < k + (W + 1) then ([], 0, 8)
    else if val 0 ((x.drop (k + 1)).take W) = 0 then ([], 0, 3)
    else if bitD x k = true then (if f = 0 then ([], 0, 2) else rdLens x W f (out ++ [((val 0 ((x.drop (k + 1)).take W) : Nat) : Int)]) (k + (W + 1)))
    else if restOk x (k + (W + 1)) = true then (out ++ [((val 0 ((x.drop (k + 1)).take W) : Nat) : Int)], ((k + (W + 1) + 7) / 8 : Nat), 0) else ([], 0, 3)

theorem bitD_take {l : List Bool} {i M : Nat} (h : i < M) : bitD (l.take M) i = bitD l i := by unfold bitD; rw [List.getElem?_take_of_lt h]
theorem restOk_take {l : List Bool} {k M : Nat} (hk : k ≤ M) (h8 : M % 8 = 0) : restOk (l.take M) k = restOk l k := by
  unfold restOk
  have hp : k + pad k ≤ M := by unfold pad; omega
  rw [List.drop_take, List.take_take, Nat.min_eq_left (by omega)]
theorem rdLens_take (x : List Bool) (W M : Nat) (h8 : M % 8 = 0) : ∀ (f : Nat) (out : List Int) (k : Nat), k + f * (W + 1) ≤ M → rdLens (x.take M) W f out k = rdLens x W f out k
  | 0, _, _, _ => rfl
  | f + 1, out, k, h => by
    rw [Nat.succ_mul] at h
    simp only [rdLens]
    rw [rdLens_take x W M h8 f _ (k + (W + 1)) (by omega), bitD_take (by omega), restOk_take (by omega) h8]
    rw [List.drop_take, List.take_take, Nat.min_eq_left (by omega), List.length_take]
    have e : (min M x.length < k + (W + 1)) ↔ (x.length < k + (W + 1)) := by omega
    by_cases hx : x.length < k + (W + 1)
    · rw [if_pos (e.2 hx), if_pos hx]
    · rw [if_neg (fun h => hx (e.1 h)), if_neg hx]

def readV (b : List UInt8) (w : Int) : List Int × Int × Int := if widthOk w = false then ([], 0, 9) else rdLens (unpack b) w.toNat 23 [] 0
abbrev rdRes (r : List Int × Int × Int) : AVal := .tup [ints .none r.1, i64v r.2.1, i64v r.2.2]

theorem take_one {x : List Bool} {k : Nat} (h : k < x.length) : val 0 ((x.drop k).take 1) = (bitD x k).toNat := by
  rw [List.drop_eq_getElem_cons h, List.take_succ_cons, List.take_zero]
  rw [bitD_get h]
  show 2 * 0 + _ = _
  omega
theorem sizeV_ok {n W : Nat} (hW : W = 11 ∨ W = 15) (h1 : 1 ≤ n) (h2 : n ≤ 23) : sizeV (n : Int) (W : Int) = ((n * (W + 1) + 7) / 8 : Nat) := by
  unfold sizeV
  rw [if_neg]
  · rcases hW with rfl | rfl
    · show (((n : Int) * 12 + 7) / 8) = _
      omega
    · show (((n : Int) * 16 + 7) / 8) = _
      omega
  · rw [widthOk_iff.2 (by omega)]
    rintro (h | h | h)
    · cases h
    · omega
    · omega
end Go.Proofs.Ytgbpjbpdpgbngaa
/-
  How long fields are: what is read.
-/
namespace Go.Proofs.Ytgbpjbpdpgbngaa
open Go Go.Am

theorem owned_has {σ σb : AHeap} {tk : Tok} : Owned σb σ tk ↔ Has (fun A => Owned (fun _ => none) A tk) σ σb := by
  constructor
  · rintro (⟨rfl, rfl⟩ | ⟨t, h, rfl, rfl⟩)
    · exact ⟨_, .inl ⟨rfl, rfl⟩, fun j hj => absurd rfl hj, rfl⟩
    · refine ⟨_, .inr ⟨t, rfl, rfl, rfl⟩, ?_, ?_⟩
      · intro j hj
        by_cases e : j = t
        · subst e; exact h
        · rw [upd_ne _ _ e] at hj; exact absurd rfl hj
      · rw [join_upd, join_none]
  · rintro ⟨A, ⟨rfl, rfl⟩ | ⟨t, _, rfl, rfl⟩, hd, rfl⟩
    · exact .inl ⟨rfl, rfl⟩
    · exact .inr ⟨t, hd t (by rw [upd_same]; nofun), rfl, by rw [join_upd, join_none]⟩
theorem swap_ro {σ2 σ1 σ0 : AHeap} {j k : Nat} {b : List UInt8} {tk : Tok} (h : Rd σ2 j b k σ1) (h' : Owned σ0 σ1 tk) : ∃ σ', Owned σ' σ2 tk ∧ Rd σ' j b k σ0 := by
  obtain ⟨σ', h1, h2⟩ := (Rd.has.1 h).swap (owned_has.1 h'); exact ⟨σ', owned_has.2 h1, Rd.has.2 h2⟩
theorem swap_or {σ2 σ1 σ0 : AHeap} {j k : Nat} {b : List UInt8} {tk : Tok} (h : Owned σ1 σ2 tk) (h' : Rd σ1 j b k σ0) : ∃ σ', Rd σ2 j b k σ' ∧ Owned σ0 σ' tk := by
  obtain ⟨σ', h1, h2⟩ := (owned_has.1 h).swap (Rd.has.1 h'); exact ⟨σ', Rd.has.2 h1, owned_has.2 h2⟩

theorem getCode_short {len k : Nat} {n : Int} (h1 : 0 ≤ n ∧ n ≤ 64) (h2 : n > (len : Int) - k) : getCode len k n = 8 := by unfold getCode; rw [if_neg (by omega), if_pos h2]
theorem getCode_fine {len k : Nat} {n : Int} (h1 : 0 ≤ n ∧ n ≤ 64) (h2 : ¬ n > (len : Int) - k) : getCode len k n = 0 := by unfold getCode; rw [if_neg (by omega), if_neg h2]
theorem getVal_fine {l : List Bool} {k : Nat} {n : Int} (h : getCode l.length k n = 0) : getVal l k n = val 0 ((l.drop k).take n.toNat) := if_pos h
theorem getAt_fine {len k : Nat} {n : Int} (h : getCode len k n = 0) : getAt len k n = k + n.toNat := if_pos h

set_option maxRecDepth 10000 in
theorem lRead (b : List UInt8) (t : Tok) (w : Int) (σ : AHeap) (hl : b.length ≤ 8000) : ACalls Try.prog i_lens_Read [sl t b, i64v w] σ fun v σ' => v = rdRes (readV b w) ∧ σ' = σ := by
  refine k_lens_Read rfl ?_
  (refine wX ?_)
  refine ascope' (α := Nat × List Int × Nat × Tok × AHeap × AHeap × Nat) (fun x => [(s7, ints x.2.2.2.1 x.2.1), (s8, .ptr x.2.2.2.2.2.2 0)]) (fun x => x.2.2.2.2.1) (fun _ => 0)
    (fun x => (w = 11 ∨ w = 15) ∧ x.2.1.length + (x.1 + 1) = 23 ∧ x.2.2.1 = x.2.1.length * (w.toNat + 1) ∧ rdLens (unpack (b.take ((23 * (w.toNat + 1) + 7) / 8))) w.toNat (x.1 + 1) x.2.1 x.2.2.1 = readV b w ∧
      Rd x.2.2.2.2.1 x.2.2.2.2.2.2 (b.take ((23 * (w.toNat + 1) + 7) / 8)) x.2.2.1 x.2.2.2.2.2.1 ∧ Owned σ x.2.2.2.2.2.1 x.2.2.2.1) (fun x => x.1) ?_ ?_
  · (refine wX ?_)
    intro hlab
    (refine wX ?_)
    refine acall (lIsWidth w _) ?_
    rintro _ σ_ ⟨rfl, e_⟩
    obtain rfl := e_.symm
    refine ⟨?_, Ext.refl _⟩
    (refine wX ?_)
    by_cases hw : w = 11 ∨ w = 15
    · rw [widthOk_iff.2 hw]
      obtain ⟨W, rfl⟩ : ∃ W : Nat, w = W := ⟨w.toNat, by omega⟩
      have hW : W = 11 ∨ W = 15 := by omega
      (refine wX ?_)
      rw [List.length_map]
      refine acall (lSize 23 (W : Int) _) ?_
      rintro _ σ_ ⟨rfl, e_⟩
      obtain rfl := e_.symm
      refine ⟨?_, Ext.refl _⟩
      (refine wX ?_)
      rw [show sizeV 23 (W : Int) = ((23 * (W + 1) + 7) / 8 : Nat) from sizeV_ok (n := 23) hW (by omega) (by omega)]
      have hS : (23 * (W + 1) + 7) / 8 ≤ 46 := by omega
      generalize hSe : (23 * (W + 1) + 7) / 8 = S at *
      (repeat ((first | refine amin ?_ | rw [List.length_map]); (refine wX ?_)))
      refine acut (by omega) (by omega) (by omega) ?_
      (refine wX ?_)
      rw [show (min (b.length : Int) (S : Int)).toNat = min b.length S by omega, ← List.map_take]
      have e : b.take (min b.length S) = b.take S := by
        by_cases h : b.length ≤ S
        · rw [Nat.min_eq_left h, List.take_of_length_le (Nat.le_refl _), List.take_of_length_le h]
        · rw [Nat.min_eq_right (by omega)]
      rw [e]
      refine acall (rRead (b.take S) _ _ (by rw [List.length_take]; omega)) ?_
      rintro _ σ1 ⟨id, rfl, r1⟩
      refine ⟨?_, r1.ext⟩
      rw [List.take_of_length_le (l := b.take S) (by rw [List.length_take]; omega)] at r1
      (refine wX ?_)
      refine hlab _ (fun _ _ _ h => h) _ _ _ _ ⟨(22, [], 0, .full, σ1, σ, id), rfl, ⟨hw, rfl, by simp, ?_, ?_, .full _⟩, rfl, Sub.refl _, ?_⟩
      · dsimp only
        rw [Int.toNat_natCast, hSe]
        unfold readV
        rw [widthOk_iff.2 hw, if_neg (by simp), Int.toNat_natCast]
        have := unpack_append (b.take S) (b.drop S)
        have e2 : unpack (b.take S) = (unpack b).take (8 * S) := by
          rw [List.take_append_drop] at this
          rw [this]
          have hul := unpack_length (b.take S)
          by_cases h : b.length ≤ S
          · rw [List.drop_eq_nil_of_le h, List.take_of_length_le h]
            show _ = (unpack b ++ []).take _
            rw [List.append_nil, List.take_of_length_le]
            rw [unpack_length]; omega
          · rw [List.length_take, Nat.min_eq_left (by omega)] at hul
            rw [← hul, List.take_left]
        rw [e2]
        exact rdLens_take _ W (8 * S) (by omega) 23 [] 0 (by omega)
      · dsimp only
        rw [Int.toNat_natCast, hSe]; exact r1
      · (refine wX ?_)
        exact elX
    · have hno := widthNo hw
      rw [hno]
      (refine wX ?_)
      exact aret VLe.tup_sl (Sub.refl _) ⟨by unfold readV; rw [if_pos hno]; rfl, rfl⟩
  · rintro ⟨f, out, k, tk, σ2, σ1, id⟩ ⟨hw, hf, hk, hR, r2, ho⟩
    dsimp only at hw hf hk hR r2 ho ⊢
    refine ⟨_, rfl, ?_⟩
    (refine wX ?_)
    intro hlab
    obtain ⟨W, rfl⟩ : ∃ W : Nat, w = W := ⟨w.toNat, by omega⟩
    have hW : W = 11 ∨ W = 15 := by omega
    rw [Int.toNat_natCast] at hk hR r2
    generalize hB : b.take ((23 * (W + 1) + 7) / 8) = B at *
    have hul := unpack_length B
    have hBl : B.length ≤ 8000 := by rw [← hB, List.length_take]; omega
    simp only [rdLens] at hR
    have sub2 : Sub σ2 σ := r2.sub.trans ho.sub
    (refine wX ?_)
    by_cases h1 : k + 1 ≤ 8 * B.length
    · have c1 : getCode (8 * B.length) k 1 = 0 := getCode_fine (by omega) (by omega)
      refine acall (rGet id B k 1 _ _ r2) ?_
      rintro _ σ3 ⟨rfl, r3⟩
      rw [getAt_fine c1] at r3
      rw [c1, getVal_fine (by rw [hul]; exact c1)]
      rw [show (1 : Int).toNat = 1 from rfl] at r3 ⊢
      rw [take_one (by omega)]
      (refine wX ?_)
      by_cases h2 : k + (W + 1) ≤ 8 * B.length
      · have c2 : getCode (8 * B.length) (k + 1) (W : Int) = 0 := getCode_fine (by omega) (by omega)
        refine acall (rGet id B (k + 1) (W : Int) _ _ r3) ?_
        rintro _ σ4 ⟨rfl, r4⟩
        rw [getAt_fine c2, Int.toNat_natCast, show k + 1 + W = k + (W + 1) by omega] at r4
        rw [c2, getVal_fine (by rw [hul]; exact c2), Int.toNat_natCast]
        rw [if_neg (by omega)] at hR
        have hv := val_lt (((unpack B).drop (k + 1)).take W)
        have hv2 : ((((unpack B).drop (k + 1)).take W)).length ≤ 15 := by rw [List.length_take]; omega
        have hv3 : 2 ^ ((((unpack B).drop (k + 1)).take W)).length ≤ 2 ^ 15 := Nat.pow_le_pow_right (by omega) hv2
        generalize hn : val 0 (((unpack B).drop (k + 1)).take W) = n at *
        (refine wX ?_)
        by_cases h0 : n = 0
        · rw [if_pos h0] at hR
          refine abr_yes (by omega) ?_
          (refine wX ?_)
          exact aret VLe.tup_sl (r4.sub.trans ho.sub) ⟨by rw [← hR]; rfl, rfl⟩
        · rw [if_neg h0] at hR
          refine abr_no (by omega) ?_
          (refine wX ?_)
          (repeat ((refine afit_i64 (by omega) ?_); (refine wX ?_)))
          obtain ⟨σa, hoa, ra⟩ := swap_ro r4 ho
          refine aapp_owned hoa (by rw [List.length_map]; show (out.length + 1) * 8 ≤ _; omega) fun t' tk' ho' _ => ?_
          obtain ⟨σc, r5, hoc⟩ := swap_or ho' ra
          rw [show List.map i64v out ++ [AVal.v (Value.int IntKind.i64 ((n : Nat) : Int))] = List.map i64v (out ++ [(n : Int)]) by simp]
          have hol : (out ++ [(n : Int)]).length = out.length + 1 := by simp
          (refine wX ?_)
          cases hbit : bitD (unpack B) k with
          | true =>
            rw [hbit, if_pos rfl] at hR
            (refine wX ?_)
            (repeat ((rw [List.length_map]); (refine wX ?_)))
            rw [hol]
            by_cases hf0 : f = 0
            · rw [if_pos hf0] at hR
              refine abr_yes (by omega) ?_
              (refine wX ?_)
              exact aret VLe.tup_sl (r5.sub.trans hoc.sub) ⟨by rw [← hR]; rfl, rfl⟩
            · rw [if_neg hf0] at hR
              refine abr_no (by omega) ?_
              (refine wX ?_)
              obtain ⟨f', rfl⟩ : ∃ f', f = f' + 1 := ⟨f - 1, by omega⟩
              refine ⟨(f', out ++ [(n : Int)], k + (W + 1), tk', upd σa t' .tip, σc, id), rfl, ⟨hw, ?_, ?_, ?_, ?_, hoc⟩, by dsimp only; omega, Sub.refl _, ?_⟩
              · dsimp only; rw [hol]; omega
              · dsimp only; rw [hol, Nat.succ_mul, hk]
              · show rdLens (unpack (b.take ((23 * (W + 1) + 7) / 8))) W (f' + 1) _ _ = _; rw [hB]; exact hR
              · show Rd (upd σa t' .tip) id (b.take ((23 * (W + 1) + 7) / 8)) _ _; rw [hB]; exact r5
              · (refine wX ?_)
                exact elX
          | false =>
            rw [hbit, if_neg (by simp)] at hR
            (refine wX ?_)
            refine acall (rRest id B _ _ _ r5) ?_
            rintro _ σ6 ⟨rfl, r6⟩
            (refine wX ?_)
            cases hok : restOk (unpack B) (k + (W + 1)) with
            | true =>
              rw [hok, if_pos rfl] at hR
              simp only [if_true]
              (refine wX ?_)
              (repeat ((rw [List.length_map]); (refine wX ?_)))
              rw [hol]
              refine acall (lSize ((out.length + 1 : Nat) : Int) (W : Int) _) ?_
              rintro _ σ_ ⟨rfl, e_⟩
              obtain rfl := e_.symm
              refine ⟨?_, Ext.refl _⟩
              (refine wX ?_)
              refine aret VLe.tup_sl (r6.sub.trans hoc.sub) ⟨?_, rfl⟩
              rw [← hR, sizeV_ok hW (by omega) (by omega), hk, Nat.succ_mul]
            | false =>
              rw [hok, if_neg (by simp)] at hR
              simp only [Bool.false_eq_true, if_false]
              (refine wX ?_)
              exact aret VLe.tup_sl (r6.sub.trans hoc.sub) ⟨by rw [← hR]; rfl, rfl⟩
      · have c2 : getCode (8 * B.length) (k + 1) (W : Int) = 8 := getCode_short (by omega) (by omega)
        refine acall (rGet id B (k + 1) (W : Int) _ _ r3) ?_
        rintro _ σ4 ⟨rfl, r4⟩
        rw [if_pos (by omega)] at hR
        rw [c2]
        (refine wX ?_)
        exact aret VLe.tup_sl (r4.sub.trans ho.sub) ⟨by rw [← hR]; rfl, rfl⟩
    · have c1 : getCode (8 * B.length) k 1 = 8 := getCode_short (by omega) (by omega)
      refine acall (rGet id B k 1 _ _ r2) ?_
      rintro _ σ3 ⟨rfl, r3⟩
      rw [if_pos (by omega)] at hR
      rw [c1]
      (refine wX ?_)
      exact aret VLe.tup_sl (r3.sub.trans ho.sub) ⟨by rw [← hR]; rfl, rfl⟩
end Go.Proofs.Ytgbpjbpdpgbngaa
/-
  Packets that are not acknowledged: what bytes are.
-/
namespace Go.Proofs.Ytgbpjbpdpgbngaa
open Go Go.Am

def cutF : List Int → List UInt8 → List (List UInt8) → List (List UInt8) × Int
  | [], b, out => if b.length = 0 then ([], 8) else (out ++ [b], 0)
  | n :: l, b, out => if n > b.length then ([], 8) else cutF l (b.drop n.toNat) (out ++ [b.take n.toNat])

end Go.Proofs.Ytgbpjbpdpgbngaa
/-
  Packets that are acknowledged: a head's bits.
-/
namespace Go.Proofs.Ytgbpjbpdpgbngaa
set_option maxRecDepth 20000
open Go Go.Am

theorem aBit (b : Bool) (σ : AHeap) : ACalls Try.prog i_amd_bit [boolv b] σ fun v σ' => v = u64v b.toNat ∧ σ' = σ := by
  refine k_amd_bit rfl ?_
  cases b
  · (refine wX ?_)
    exact aret_same ⟨rfl, rfl⟩
  · (refine wX ?_)
    exact aret_same ⟨rfl, rfl⟩
theorem wBit {id : Nat} {bs : List Bool} {σ σb : AHeap} (h : Wr σ id bs σb) (b : Bool) (hl : bs.length < 65536) : ACalls Try.prog i_bits_Writer_Put [.ptr id 0, u64v b.toNat, i64v 1] σ fun x σ' => x = i64v 0 ∧ Wr σ' id (bs ++ [b]) σb := by
  refine acall_less (wPut id bs b.toNat 1 σ σb h (by cases b <;> decide) (by omega)) ?_
  rintro _ σ' ⟨rfl, w⟩
  obtain ⟨h1, h2⟩ := put_bit bs b hl
  rw [h2] at w
  exact ⟨_, _, VLe.refl _, Sub.refl _, by rw [h1], w⟩
theorem wNum {id : Nat} {bs : List Bool} {σ σb : AHeap} (h : Wr σ id bs σb) (v n : Nat) (hl : bs.length + n ≤ 65536) (hn : n ≤ 16) (hv : v < 2 ^ n) : ACalls Try.prog i_bits_Writer_Put [.ptr id 0, u64v v, i64v n] σ fun x σ' => x = i64v 0 ∧ Wr σ' id (bs ++ numBits v n) σb := by
  have hp : 2 ^ n ≤ 2 ^ 16 := Nat.pow_le_pow_right (by omega) hn
  refine acall_less (wPut id bs v n σ σb h (by omega) (by omega)) ?_
  rintro _ σ' ⟨rfl, w⟩
  obtain ⟨h1, h2⟩ := put_num bs v n hl (by omega) hv
  rw [h2] at w
  exact ⟨_, _, VLe.refl _, Sub.refl _, by rw [h1], w⟩
/-- A head's bits. -/
def amBits (poll part last : Bool) (f m o : Nat) (more : Bool) (w : Int) : List Bool :=
  [true] ++ ([part] ++ ([poll] ++ (numBits f 2 ++ ([more] ++ ((if w = 16 then [last, false] else []) ++ (numBits m w.toNat ++ ((if part = true ∧ w = 10 then [last] else []) ++ (if part = true then numBits o (if w = 10 then 15 else 16) else []))))))))
theorem amBits_len {poll part last : Bool} {f m o : Nat} {more : Bool} {w : Int} (hw : w = 10 ∨ w = 16) : (amBits poll part last f m o more w).length = 8 * (amHead part w).toNat := by
  rcases hw with rfl | rfl <;> cases part <;> simp [amBits, numBits_length, amHead, amWidth]
set_option maxHeartbeats 4000000 in
theorem aHeadB (poll part last : Bool) (f m o : Nat) (fs : List (List UInt8)) (w : Int) (σ : AHeap) (hw : w = 10 ∨ w = 16) (hf : f < 4) (hm : m < 2 ^ w.toNat) (ho : part = true → o < 2 ^ (if w = 10 then 15 else 16)) (hl : fs.length ≤ 1000) :
    ACalls Try.prog i_amd_head [.agg [boolv poll, i64v f, i64v m, boolv part, boolv last, i64v o, lists .none fs], i64v w] σ fun v σ' => ∃ tk, v = sl tk (pack (amBits poll part last f m o (umMore fs) w)) ∧ Hp σ [.t tk] σ' := by
  have hm2 : m < 65536 := Nat.lt_of_lt_of_le hm (by rcases hw with rfl | rfl <;> decide)
  have ho2 : part = true → o < 65536 := fun h => Nat.lt_of_lt_of_le (ho h) (by rcases hw with rfl | rfl <;> decide)
  refine k_amd_head rfl ?_
  have H := Hp.nil σ
  (refine wX ?_)
  refine hnew H rfl ?_
  clear H
  intro i2 τ H
  (refine wX ?_)
  have c0 := H.get (k := 0) rfl
  have hs := H.sub
  refine acall (wNew τ) ?_
  rintro _ σ1 ⟨iw, rfl, w1⟩
  refine ⟨?_, w1.ext⟩
  have b1 := w1.sub _ _ c0
  clear H
  have H := Hp.nil σ1
  (refine wX ?_)
  skip
  refine acall (wBit w1 true (by simp [numBits_length])) ?_
  clear w1 b1 H
  rintro _ σ1 ⟨rfl, w1⟩
  have b1 := w1.sub _ _ c0
  have H := Hp.nil σ1
  (refine wX ?_)
  (repeat ((refine zB H b1 rfl ?_); (refine wX ?_)))
  refine acall (aBit part σ1) ?_
  rintro _ σ_ ⟨rfl, e_⟩
  obtain rfl := e_.symm
  refine ⟨?_, Ext.refl _⟩
  (refine wX ?_)
  refine acall (wBit w1 part (by simp [numBits_length])) ?_
  clear w1 b1 H
  rintro _ σ1 ⟨rfl, w1⟩
  have b1 := w1.sub _ _ c0
  have H := Hp.nil σ1
  (refine wX ?_)
  (repeat ((refine zB H b1 rfl ?_); (refine wX ?_)))
  refine acall (aBit poll σ1) ?_
  rintro _ σ_ ⟨rfl, e_⟩
  obtain rfl := e_.symm
  refine ⟨?_, Ext.refl _⟩
  (refine wX ?_)
  refine acall (wBit w1 poll (by simp [numBits_length])) ?_
  clear w1 b1 H
  rintro _ σ1 ⟨rfl, w1⟩
  have b1 := w1.sub _ _ c0
  have H := Hp.nil σ1
  (refine wX ?_)
  (repeat ((first | refine zU (by omega) ?_ | refine zB H b1 rfl ?_); (refine wX ?_)))
  refine acall (wNum w1 f 2 (by simp [numBits_length]) (by omega) (by omega)) ?_
  clear w1 b1 H
  rintro _ σ1 ⟨rfl, w1⟩
  have b1 := w1.sub _ _ c0
  have H := Hp.nil σ1
  (refine wX ?_)
  (repeat ((first | refine zB H b1 rfl ?_ | rw [List.length_map]); (refine wX ?_)))
  refine acall (aBit _ σ1) ?_
  rintro _ σ_ ⟨rfl, e_⟩
  obtain rfl := e_.symm
  refine ⟨?_, Ext.refl _⟩
  (refine wX ?_)
  refine acall (wBit w1 _ (by simp [numBits_length])) ?_
  clear w1 b1 H
  rintro _ σ1 ⟨rfl, w1⟩
  have b1 := w1.sub _ _ c0
  have H := Hp.nil σ1
  (refine wX ?_)
  skip
  have hmo : ∀ {i : Decidable ((1 : Int) < fs.length)}, @decide ((1 : Int) < fs.length) i = umMore fs := by
    intro i; unfold umMore
    by_cases h : fs.length > 1
    · rw [decide_eq_true h]; exact decide_eq_true (by omega)
    · rw [decide_eq_false h]; exact decide_eq_false (by omega)
  rw [hmo] at w1
  rcases hw with rfl | rfl
  all_goals
    cases part
  case' inl.false =>
    (refine wX ?_)
    (repeat ((first | refine zU (by omega) ?_ | refine zB H b1 rfl ?_); (refine wX ?_)))
    refine acall (wNum w1 m 10 (by simp [numBits_length]) (by omega) (by simpa using hm)) ?_
    clear w1 b1 H
    rintro _ σ1 ⟨rfl, w1⟩
    have b1 := w1.sub _ _ c0
    have H := Hp.nil σ1
    (refine wX ?_)
    (repeat ((refine zB H b1 rfl ?_); (refine wX ?_)))
  case' inl.true =>
    have ho3 := ho2 rfl
    (refine wX ?_)
    (repeat ((first | refine zU (by omega) ?_ | refine zB H b1 rfl ?_); (refine wX ?_)))
    refine acall (wNum w1 m 10 (by simp [numBits_length]) (by omega) (by simpa using hm)) ?_
    clear w1 b1 H
    rintro _ σ1 ⟨rfl, w1⟩
    have b1 := w1.sub _ _ c0
    have H := Hp.nil σ1
    (refine wX ?_)
    (repeat ((refine zB H b1 rfl ?_); (refine wX ?_)))
    refine acall (aBit last σ1) ?_
    rintro _ σ_ ⟨rfl, e_⟩
    obtain rfl := e_.symm
    refine ⟨?_, Ext.refl _⟩
    (refine wX ?_)
    refine acall (wBit w1 last (by simp [numBits_length])) ?_
    clear w1 b1 H
    rintro _ σ1 ⟨rfl, w1⟩
    have b1 := w1.sub _ _ c0
    have H := Hp.nil σ1
    (refine wX ?_)
    (repeat ((first | refine zU (by omega) ?_ | refine zB H b1 rfl ?_); (refine wX ?_)))
    refine acall (aOffWidth 10 σ1) ?_
    rintro _ σ_ ⟨rfl, e_⟩
    obtain rfl := e_.symm
    refine ⟨?_, Ext.refl _⟩
    (refine wX ?_)
    skip
    refine acall (wNum w1 o 15 (by simp [numBits_length]) (by omega) (by simpa using ho rfl)) ?_
    clear w1 b1 H
    rintro _ σ1 ⟨rfl, w1⟩
    have b1 := w1.sub _ _ c0
    have H := Hp.nil σ1
    (refine wX ?_)
    skip
  case' inr.false =>
    (refine wX ?_)
    (repeat ((refine zB H b1 rfl ?_); (refine wX ?_)))
    refine acall (aBit last σ1) ?_
    rintro _ σ_ ⟨rfl, e_⟩
    obtain rfl := e_.symm
    refine ⟨?_, Ext.refl _⟩
    (refine wX ?_)
    refine acall (wBit w1 last (by simp [numBits_length])) ?_
    clear w1 b1 H
    rintro _ σ1 ⟨rfl, w1⟩
    have b1 := w1.sub _ _ c0
    have H := Hp.nil σ1
    (refine wX ?_)
    skip
    refine acall (wBit w1 false (by simp [numBits_length])) ?_
    clear w1 b1 H
    rintro _ σ1 ⟨rfl, w1⟩
    have b1 := w1.sub _ _ c0
    have H := Hp.nil σ1
    (refine wX ?_)
    (repeat ((first | refine zU (by omega) ?_ | refine zB H b1 rfl ?_); (refine wX ?_)))
    refine acall (wNum w1 m 16 (by simp [numBits_length]) (by omega) (by simpa using hm)) ?_
    clear w1 b1 H
    rintro _ σ1 ⟨rfl, w1⟩
    have b1 := w1.sub _ _ c0
    have H := Hp.nil σ1
    (refine wX ?_)
    (repeat ((refine zB H b1 rfl ?_); (refine wX ?_)))
  case' inr.true =>
    have ho3 := ho2 rfl
    (refine wX ?_)
    (repeat ((refine zB H b1 rfl ?_); (refine wX ?_)))
    refine acall (aBit last σ1) ?_
    rintro _ σ_ ⟨rfl, e_⟩
    obtain rfl := e_.symm
    refine ⟨?_, Ext.refl _⟩
    (refine wX ?_)
    refine acall (wBit w1 last (by simp [numBits_length])) ?_
    clear w1 b1 H
    rintro _ σ1 ⟨rfl, w1⟩
    have b1 := w1.sub _ _ c0
    have H := Hp.nil σ1
    (refine wX ?_)
    skip
    refine acall (wBit w1 false (by simp [numBits_length])) ?_
    clear w1 b1 H
    rintro _ σ1 ⟨rfl, w1⟩
    have b1 := w1.sub _ _ c0
    have H := Hp.nil σ1
    (refine wX ?_)
    (repeat ((first | refine zU (by omega) ?_ | refine zB H b1 rfl ?_); (refine wX ?_)))
    refine acall (wNum w1 m 16 (by simp [numBits_length]) (by omega) (by simpa using hm)) ?_
    clear w1 b1 H
    rintro _ σ1 ⟨rfl, w1⟩
    have b1 := w1.sub _ _ c0
    have H := Hp.nil σ1
    (refine wX ?_)
    (repeat ((first | refine zU (by omega) ?_ | refine zB H b1 rfl ?_); (refine wX ?_)))
    refine acall (aOffWidth 16 σ1) ?_
    rintro _ σ_ ⟨rfl, e_⟩
    obtain rfl := e_.symm
    refine ⟨?_, Ext.refl _⟩
    (refine wX ?_)
    skip
    refine acall (wNum w1 o 16 (by simp [numBits_length]) (by omega) (by simpa using ho rfl)) ?_
    clear w1 b1 H
    rintro _ σ1 ⟨rfl, w1⟩
    have b1 := w1.sub _ _ c0
    have H := Hp.nil σ1
    (refine wX ?_)
    skip
  all_goals
    refine acall (wBytesO iw _ _ _ w1 (by simp [numBits_length])) ?_
    rintro _ σ2 ⟨tk, hown, rfl⟩
    refine ⟨?_, hown.ext⟩
    (refine wX ?_)
    refine aret (VLe.refl _) (Sub.refl _) ⟨tk, ?_, Hp.owned ⟨w1.sub.trans hs, .nil, nofun, nofun⟩ hown⟩
    refine congrArg (fun z => sl tk (pack z)) ?_
    simp [amBits]
end Go.Proofs.Ytgbpjbpdpgbngaa
/-
  Packets that are acknowledged: what is written.
-/
namespace Go.Proofs.Ytgbpjbpdpgbngaa
set_option maxRecDepth 20000
open Go Go.Am

/-- A packet's bytes. -/
def amBytes (p : Pk) (w : Int) : List UInt8 := pack (amBits p.poll p.part p.last p.fi.toNat p.sn.toNat p.off.toNat (umMore p.fs) w) ++ tailB p.fs (lenW w)
theorem flds_ok {l : List (List UInt8)} {h w : Int} (k : FldsOk l h w) : FieldsOk l h w := ⟨k.one, k.most, k.each, k.fits⟩
theorem num_lt {w n : Int} (hw : w = 10 ∨ w = 16) (h : isNum w n = true) : 0 ≤ n ∧ n.toNat < 2 ^ w.toNat := by
  have h := of_decide_eq_true h
  rcases hw with rfl | rfl
  · rw [show spaceSize 10 = 1024 by decide] at h
    exact ⟨h.1, by rw [show (2 : Nat) ^ (10 : Int).toNat = 1024 by decide]; omega⟩
  · rw [show spaceSize 16 = 65536 by decide] at h
    exact ⟨h.1, by rw [show (2 : Nat) ^ (16 : Int).toNat = 65536 by decide]; omega⟩
set_option maxHeartbeats 4000000 in
theorem aWrite (p : Pk) (w : Int) (σ : AHeap) (hr : amSize p w > 0) : ACalls Try.prog i_amd_Write [amV p, i64v w] σ fun v σ' => v = .tup [sl .none (amBytes p w), i64v 0] ∧ σ' = σ := by
  obtain ⟨hw, hf1, hf2, hsn, hfo, ho1, ho2, hpl⟩ := amSize_ok hr
  have g1 := hfo.one
  have g2 := hfo.most
  have g3 := hfo.fits
  have hh := amHead_range p.part w
  have hsz := sizeV_range ((p.fs.length : Int) - 1) (lenW w)
  have hW : lenW w = 11 ∨ lenW w = 15 := by unfold lenW; split <;> simp
  have hlc := lensOf_code hW (flds_ok hfo)
  obtain ⟨hs0, hsl⟩ := num_lt hw hsn
  have hlo := lensOf_length p.fs
  have hpb : (pack (amBits p.poll p.part p.last p.fi.toNat p.sn.toNat p.off.toNat (umMore p.fs) w)).length ≤ 5 := by rw [pack_length, amBits_len hw]; omega
  unfold amBytes
  obtain ⟨poll, fi, sn, part, last, off, fs⟩ := p
  dsimp only at *
  obtain ⟨f, rfl⟩ : ∃ f : Nat, fi = f := ⟨fi.toNat, by omega⟩
  obtain ⟨m, rfl⟩ : ∃ m : Nat, sn = m := ⟨sn.toNat, by omega⟩
  obtain ⟨o, rfl⟩ : ∃ o : Nat, off = o := ⟨off.toNat, by omega⟩
  simp only [Int.toNat_natCast] at hsl hpb ⊢
  show ACalls Try.prog i_amd_Write [.agg [boolv poll, i64v f, i64v m, boolv part, boolv last, i64v o, lists .none fs], i64v w] σ _
  refine k_amd_Write rfl ?_
  have H := Hp.nil σ
  (refine wX ?_)
  refine hnew H rfl ?_
  clear H
  intro i2 τ H
  (refine wX ?_)
  skip
  refine acall (aIsWidth w τ) ?_
  rintro _ σ_ ⟨rfl, e_⟩
  obtain rfl := e_.symm
  refine ⟨?_, Ext.refl _⟩
  (refine wX ?_)
  rw [amWidth_iff.2 hw]
  (refine wX ?_)
  (repeat (((apply zA H; (· repeat first | exact .h | apply AtK.t))); (refine wX ?_)))
  refine acall (aRight ⟨poll, f, m, part, last, o, fs⟩ w τ (by dsimp only; omega)) ?_
  rintro _ σ_ ⟨rfl, e_⟩
  obtain rfl := e_.symm
  refine ⟨?_, Ext.refl _⟩
  (refine wX ?_)
  rw [decide_eq_true hr]
  (refine wX ?_)
  (repeat (((apply zA H; (· repeat first | exact .h | apply AtK.t))); (refine wX ?_)))
  refine acall (aHeadB poll part last f m o fs w τ hw (by omega) hsl (fun _ => ?_) (by omega)) ?_
  · unfold offTop at ho2
    rcases hw with rfl | rfl
    · rw [if_pos rfl] at ho2 ⊢; omega
    · rw [if_neg (by decide)] at ho2 ⊢; omega
  rintro _ τ1 ⟨tk, rfl, N⟩
  refine ⟨?_, N.ext⟩
  replace H := H.join N
  clear N
  (refine wX ?_)
  (repeat ((first | refine zI (by omega) ?_ | (apply zL H; (· repeat first | exact .h | apply AtK.t); (· rfl)) | rw [List.length_map]); (refine wX ?_)))
  refine acut (by omega) (by omega) (by omega) ?_
  (refine wX ?_)
  have e1 : ((fs.length : Int) - 1).toNat = fs.length - 1 := by omega
  rw [e1, show (0 : Int).toNat = 0 from rfl, List.drop_zero, ← List.map_take]
  have hl2 : (fs.take (fs.length - 1)).length = fs.length - 1 := by rw [List.length_take]; omega
  have hle : lensOf fs = (fs.take (fs.length - 1)).map fun f => (f.length : Int) := rfl
  generalize hm2 : fs.take (fs.length - 1) = m2 at *
  rw [List.length_map]
  have H := H.cons_full
  refine aloop (α := Nat × Tok × AHeap) (fun y => [(s32, i64v y.1), (s7, ints y.2.1 ((m2.take y.1).map fun f => ((f.length : Nat) : Int)))]) (fun y => y.2.2)
    (fun y => y.1 ≤ m2.length ∧ Hp σ [.t y.2.1, .t tk, .o i2 (.cells [boolv poll, i64v f, i64v m, boolv part, boolv last, i64v o, lists .none fs])] y.2.2) (fun y => m2.length - y.1) (0, .full, τ1) ⟨Nat.zero_le _, H⟩ (Sub.refl _) ?_ ?_
  · (refine wX ?_)
    exact elX
  clear H
  rintro ⟨i, tl, τ⟩ ⟨hi, H⟩
  dsimp only at hi H ⊢
  (refine wX ?_)
  by_cases h : i < m2.length
  · (repeat ((refine zY (by omega) ?_); (refine wX ?_)))
    refine aget (by omega) (get_lists h) ?_
    (refine wX ?_)
    (repeat ((first | refine zR rfl ?_ | rw [List.length_map]); (refine wX ?_)))
    apply zP H
    · (repeat first | exact .h | apply AtK.t)
    · exact (by rw [List.length_map, List.length_map, List.length_take]; show (_ + 1) * 8 ≤ _; omega)
    intro tk2
    (conv => whnf)
    clear H
    intro τ H
    (refine wX ?_)
    rw [show List.map i64v ((m2.take i).map fun f => ((f.length : Nat) : Int)) ++ [i64v m2[i].length] = List.map i64v ((m2.take (i + 1)).map fun f => ((f.length : Nat) : Int)) by rw [List.take_add_one, List.getElem?_eq_getElem h, List.map_append, List.map_append]; rfl]
    (repeat ((refine zI (by omega) ?_); (refine wX ?_)))
    refine ⟨(i + 1, tk2, τ), ⟨by dsimp only; omega, H⟩, by dsimp only; omega, Sub.refl _, ?_⟩
    (refine wX ?_)
    exact elX
  have e : i = m2.length := by omega
  subst e
  rw [List.take_length, ← hle]
  (repeat ((first | refine zN (by omega) ?_ | rw [List.length_map]); (refine wX ?_)))
  by_cases h2 : fs.length > 1
  case' pos =>
    have hwl : (writeBytes (lensOf fs) (lenW w)).length ≤ 100 := by
      unfold writeBytes
      rw [if_pos (hlc h2), pack_length, lenBits_length, hlo]
      have : (lenW w).toNat ≤ 15 := by omega
      have : (fs.length - 1) * ((lenW w).toNat + 1) ≤ 23 * 16 := Nat.mul_le_mul (by omega) (by omega)
      omega
    (repeat ((refine zY (by omega) ?_); (refine wX ?_)))
    refine acall (aLenWidth w τ) ?_
    rintro _ σ_ ⟨rfl, e_⟩
    obtain rfl := e_.symm
    refine ⟨?_, Ext.refl _⟩
    (refine wX ?_)
    refine acall (lWrite (lensOf fs) tl (lenW w) τ (by omega)) ?_
    rintro _ σ_ ⟨rfl, e_⟩
    obtain rfl := e_.symm
    refine ⟨?_, Ext.refl _⟩
    (refine wX ?_)
    rw [hlc h2]
    (repeat ((refine zN (by omega) ?_); (refine wX ?_)))
    apply zP H
    · (repeat first | exact .h | apply AtK.t)
    · exact (by rw [List.length_map, List.length_map]; omega)
    intro tk2
    (conv => whnf)
    clear H
    intro τ H
    (refine wX ?_)
    rw [← List.map_append]
  case' neg =>
    (repeat ((first | refine zN (by omega) ?_ | (apply zA H; (· repeat first | exact .h | apply AtK.t))); (refine wX ?_)))
  all_goals
    (repeat (((apply zA H; (· repeat first | exact .h | apply AtK.t))); (refine wX ?_)))
    refine acall (aData ⟨poll, f, m, part, last, o, fs⟩ τ (by dsimp only; omega) (by dsimp only; omega)) ?_
    rintro _ σ_ ⟨rfl, e_⟩
    obtain rfl := e_.symm
    refine ⟨?_, Ext.refl _⟩
    (refine wX ?_)
    apply zP H
    · (repeat first | exact .h | apply AtK.t)
    · exact (by simp only [List.length_map, List.length_append]; have e9 : fs.flatten.length = total fs := rfl; omega)
    intro tk3
    (conv => whnf)
    clear H
    intro τ H
    (refine wX ?_)
    rw [← List.map_append]
    refine aret_sl1 H.sub ⟨?_, rfl⟩
    unfold tailB
  · rw [if_neg h2, List.nil_append]
  · rw [if_pos h2, List.append_assoc]
end Go.Proofs.Ytgbpjbpdpgbngaa
/-
  Lengths there and back: plain laws.
-/
namespace Go.Proofs.Ytgbpjbpdpgbngaa
open Go Go.Am

theorem writeCode_ok {l : List Int} {w : Int} (h : writeCode l w = 0) : (w = 11 ∨ w = 15) ∧ 1 ≤ l.length ∧ l.length ≤ 23 ∧ ∀ n ∈ l, badLen w.toNat n = false := by
  unfold writeCode at h
  cases e : widthOk w with
  | false => rw [if_pos e] at h; cases h
  | true =>
    rw [e, if_neg (by simp)] at h
    split at h
    · cases h
    · split at h
      · cases h
      · split at h
        · cases h
        · rename_i h0 h23 hb
          refine ⟨widthOk_iff.1 e, by omega, by omega, fun n hn => ?_⟩
          cases hbn : badLen w.toNat n with
          | false => rfl
          | true => exact absurd (List.any_eq_true.2 ⟨n, hn, hbn⟩) hb
theorem goodLen {W : Nat} {n : Int} (h : badLen W n = false) : ∃ v : Nat, n = v ∧ 1 ≤ v ∧ v < 2 ^ W := by
  have := of_decide_eq_false h
  exact ⟨n.toNat, by omega, by omega, by omega⟩

/-- The bits from one length on. -/
theorem lenBits_from (l : List Int) (W i : Nat) : ∀ d, ∃ r, lenBits l W (i + 1 + d) = lenBits l W i ++ ((decide (i + 1 < l.length) :: numBits ((l[i]?.getD 0).toNat) W) ++ r)
  | 0 => ⟨[], by rw [Nat.add_zero, lenBits_succ]; simp⟩
  | d + 1 => by
    obtain ⟨r, hr⟩ := lenBits_from l W i d
    refine ⟨r ++ (decide (i + 1 + d + 1 < l.length) :: numBits ((l[i + 1 + d]?.getD 0).toNat) W), ?_⟩
    rw [show i + 1 + (d + 1) = (i + 1 + d) + 1 by omega, lenBits_succ, hr]
    simp

theorem split_step (y A R : List Bool) (b : Bool) (v W K : Nat) (hy : y = A ++ (b :: (numBits v W ++ R))) (hA : A.length = K) : K + (W + 1) ≤ y.length ∧ (y.drop (K + 1)).take W = numBits v W ∧ bitD y K = b := by
  subst hy; subst hA
  have hn := numBits_length v W
  refine ⟨by simp [hn], ?_, ?_⟩
  · rw [show A ++ b :: (numBits v W ++ R) = (A ++ [b]) ++ (numBits v W ++ R) by simp]
    rw [List.drop_left' (by simp), List.take_left' hn]
  · rw [bitD_append_right (Nat.le_refl _), Nat.sub_self]; rfl

theorem rd_back (l : List Int) (w : Int) (rest : List Bool) (h : writeCode l w = 0) :
    ∀ (f i : Nat), i < l.length → i + (f + 1) = 23 → rdLens (unpack (writeBytes l w) ++ rest) w.toNat (f + 1) (l.take i) (i * (w.toNat + 1)) = (l, ((writeBytes l w).length : Int), 0) := by
  obtain ⟨hw, h1, h2, hg⟩ := writeCode_ok h
  obtain ⟨W, rfl⟩ : ∃ W : Nat, w = W := ⟨w.toNat, by omega⟩
  have hwb : writeBytes l (W : Int) = pack (lenBits l W l.length) := by unfold writeBytes; rw [if_pos h, Int.toNat_natCast]
  rw [hwb, unpack_pack, pack_length, lenBits_length]
  rw [Int.toNat_natCast] at hg ⊢
  have hxl := lenBits_length l W l.length
  have key : ∀ i (hi : i < l.length), ∃ v R, l[i] = ((v : Nat) : Int) ∧ 1 ≤ v ∧ v < 2 ^ W ∧ lenBits l W l.length = lenBits l W i ++ (decide (i + 1 < l.length) :: (numBits v W ++ R)) := by
    intro i hi
    obtain ⟨v, hv, hv1, hv2⟩ := goodLen (hg _ (List.getElem_mem hi))
    obtain ⟨r, hr⟩ := lenBits_from l W i (l.length - (i + 1))
    rw [show i + 1 + (l.length - (i + 1)) = l.length by omega, List.getElem?_eq_getElem hi, Option.getD_some, hv, Int.toNat_natCast] at hr
    exact ⟨v, r, hv, hv1, hv2, by rw [hr]; simp⟩
  intro f
  induction f with
  | zero =>
    intro i hi hf
    obtain ⟨v, R, hv, hv1, hv2, hsplit⟩ := key i hi
    have hlast : ¬ i + 1 < l.length := by omega
    obtain ⟨s1, s2, s3⟩ := split_step (lenBits l W l.length ++ List.replicate (8 * ((l.length * (W + 1) + 7) / 8) - l.length * (W + 1)) false ++ rest) (lenBits l W i) (R ++ (List.replicate (8 * ((l.length * (W + 1) + 7) / 8) - l.length * (W + 1)) false ++ rest)) (decide (i + 1 < l.length)) v W (i * (W + 1)) (by rw [hsplit]; simp) (lenBits_length _ _ _)
    rw [decide_eq_false hlast] at s3
    simp only [rdLens]
    rw [if_neg (by omega), s2, val_numBits, Nat.mod_eq_of_lt hv2, if_neg (by omega), s3, if_neg (by simp), if_pos]
    · rw [← hv, ← take_snoc (List.getElem?_eq_getElem hi), List.take_of_length_le (by omega), ← Nat.succ_mul, show i.succ = l.length by omega]
    · rw [← Nat.succ_mul, show i.succ = l.length by omega]
      refine decide_eq_true ((val_zero _).2 fun b hb => ?_)
      rw [List.append_assoc, List.drop_left' hxl, List.take_append_of_le_length (by rw [List.length_replicate]; unfold pad; omega)] at hb
      exact (List.mem_replicate.1 (List.mem_of_mem_take hb)).2
  | succ f ih =>
    intro i hi hf
    obtain ⟨v, R, hv, hv1, hv2, hsplit⟩ := key i hi
    obtain ⟨s1, s2, s3⟩ := split_step (lenBits l W l.length ++ List.replicate (8 * ((l.length * (W + 1) + 7) / 8) - l.length * (W + 1)) false ++ rest) (lenBits l W i) (R ++ (List.replicate (8 * ((l.length * (W + 1) + 7) / 8) - l.length * (W + 1)) false ++ rest)) (decide (i + 1 < l.length)) v W (i * (W + 1)) (by rw [hsplit]; simp) (lenBits_length _ _ _)
    rw [rdLens]
    rw [if_neg (by omega), s2, val_numBits, Nat.mod_eq_of_lt hv2, if_neg (by omega), s3]
    by_cases hlast : i + 1 < l.length
    · rw [decide_eq_true hlast, if_pos rfl, if_neg (by omega), ← hv, ← take_snoc (List.getElem?_eq_getElem hi), ← Nat.succ_mul]
      exact ih (i + 1) hlast (by omega)
    · rw [decide_eq_false hlast, if_neg (by simp), if_pos]
      · rw [← hv, ← take_snoc (List.getElem?_eq_getElem hi), List.take_of_length_le (by omega), ← Nat.succ_mul, show i.succ = l.length by omega]
      · rw [← Nat.succ_mul, show i.succ = l.length by omega]
        refine decide_eq_true ((val_zero _).2 fun b hb => ?_)
        rw [List.append_assoc, List.drop_left' hxl, List.take_append_of_le_length (by rw [List.length_replicate]; unfold pad; omega)] at hb
        exact (List.mem_replicate.1 (List.mem_of_mem_take hb)).2

theorem read_back (l : List Int) (w : Int) (behind : List UInt8) (h : writeCode l w = 0) : readV (writeBytes l w ++ behind) w = (l, ((writeBytes l w).length : Int), 0) := by
  obtain ⟨hw, h1, h2, hg⟩ := writeCode_ok h
  unfold readV
  rw [widthOk_iff.2 hw, if_neg (by simp), unpack_append]
  have := rd_back l w (unpack behind) h 22 0 (by omega) (by omega)
  rw [Nat.zero_mul] at this
  exact this

end Go.Proofs.Ytgbpjbpdpgbngaa
/-
  Packets that are not acknowledged: what is read.
-/
namespace Go.Proofs.Ytgbpjbpdpgbngaa
open Go Go.Am

end Go.Proofs.Ytgbpjbpdpgbngaa
/-
  Packets that are acknowledged: a head is read.
-/
namespace Go.Proofs.Ytgbpjbpdpgbngaa
set_option maxRecDepth 20000
open Go Go.Am

theorem rd_ofA {σ : AHeap} {ir : Nat} {b : List UInt8} {k : Nat} {tk : Tok} (h : σ ir = some (.cells [sl tk b, i64v k])) (hk : k ≤ 8 * b.length) (hb : b.length ≤ 8192) : Rd σ ir b k (del σ ir) := by
  refine ⟨del_same _ _, hk, hb, tk, ?_⟩
  funext j
  by_cases e : j = ir
  · subst e; rw [upd_same]; exact h
  · rw [upd_ne _ _ e, del_ne _ e]
theorem upd_delA (σ : AHeap) (i : Nat) (x : AObj) : upd (del σ i) i x = upd σ i x := by
  funext j
  unfold upd del
  split <;> rfl
/-- A reader whose next bits are known. -/
structure RdR (ir : Nat) (b : List UInt8) (rest : List Bool) (e : HE) : Prop where
  ex : ∃ tk pre, e = .o ir (.cells [sl tk b, i64v (pre.length : Nat)]) ∧ unpack b = pre ++ rest
section
variable {σb τ : AHeap} {F : List HE} {e : HE} {ir : Nat} {b : List UInt8} {post : List Bool}
theorem rdNum {v n : Nat} (r : RdR ir b (numBits v n ++ post) e) (H : Hp σb (e :: F) τ) (hb : b.length ≤ 8000) (hv : v < 2 ^ n) (hn : n ≤ 16) :
    ACalls Try.prog i_bits_Reader_Get [.ptr ir 0, i64v n] τ fun x σ' => x = .tup [u64v v, i64v 0] ∧ ∃ e', RdR ir b post e' ∧ Hp σb (e' :: F) σ' := by
  obtain ⟨tk, pre, rfl, hu⟩ := r
  have hul := unpack_length b
  have hlen : pre.length + n ≤ 8 * b.length := by rw [← hul, hu, List.length_append, List.length_append, numBits_length]; omega
  have c1 : getCode (8 * b.length) pre.length (n : Int) = 0 := getCode_fine (by omega) (by omega)
  have hval : getVal (unpack b) pre.length (n : Int) = v := by
    rw [getVal_fine (by rw [hul]; exact c1), Int.toNat_natCast, hu, List.drop_left, List.take_append_of_le_length (by rw [numBits_length]; exact Nat.le_refl _)]
    rw [List.take_of_length_le (by rw [numBits_length]; exact Nat.le_refl _), val_numBits, Nat.mod_eq_of_lt hv]
  refine acall_less (rGet ir b pre.length n _ _ (rd_ofA (H.get (k := 0) rfl) (by omega) (by omega))) ?_
  rintro _ σ' ⟨rfl, w⟩
  rw [c1, hval]
  rw [getAt_fine c1, Int.toNat_natCast] at w
  obtain ⟨h1, _, _, tk', rfl⟩ := w
  rw [upd_delA]
  exact ⟨_, _, VLe.refl _, Sub.refl _, rfl, _, ⟨tk', pre ++ numBits v n, by rw [List.length_append, numBits_length], by rw [hu, List.append_assoc]⟩, H.upd_head _⟩
theorem nb1 (c : Bool) : numBits c.toNat 1 = [c] := by cases c <;> rfl
theorem fNum {ib v n : Nat} (r : RdR ir b (numBits v n ++ post) e) (H : Hp σb (e :: F) τ) (hi : τ ib = some (.cells [.ptr ir 0])) (hb : b.length ≤ 8000) (hv : v < 2 ^ n) (hn : n ≤ 16) :
    ACalls Try.prog i_amd_readHead_1 [i64v n, .ptr ib 0] τ fun x σ' => x = u64v v ∧ ∃ e', RdR ir b post e' ∧ Hp σb (e' :: F) σ' := by
  refine k_amd_readHead_1 rfl ?_
  (refine wX ?_)
  refine aload hi rfl ?_
  (refine wX ?_)
  refine acall (rdNum r H hb hv hn) ?_
  rintro _ σ' ⟨rfl, e', r', H'⟩
  (refine wX ?_)
  exact aret (VLe.refl _) (Sub.refl _) ⟨rfl, e', r', H'⟩
theorem fBit {ib : Nat} {c : Bool} (r : RdR ir b ([c] ++ post) e) (H : Hp σb (e :: F) τ) (hi : τ ib = some (.cells [.ptr ir 0])) (hb : b.length ≤ 8000) :
    ACalls Try.prog i_amd_readHead_1 [i64v 1, .ptr ib 0] τ fun x σ' => x = u64v c.toNat ∧ ∃ e', RdR ir b post e' ∧ Hp σb (e' :: F) σ' :=
  fNum (v := c.toNat) (n := 1) (by rw [nb1]; exact r) H hi hb (by cases c <;> decide) (by decide)
end
theorem bits10n (poll last more : Bool) (f m o : Nat) : amBits poll false last f m o more 10 = [true] ++ ([false] ++ ([poll] ++ (numBits f 2 ++ ([more] ++ (numBits m 10 ++ []))))) := by simp [amBits]
theorem bits10p (poll last more : Bool) (f m o : Nat) : amBits poll true last f m o more 10 = [true] ++ ([true] ++ ([poll] ++ (numBits f 2 ++ ([more] ++ (numBits m 10 ++ ([last] ++ (numBits o 15 ++ []))))))) := by simp [amBits]
theorem bits16n (poll last more : Bool) (f m o : Nat) : amBits poll false last f m o more 16 = [true] ++ ([false] ++ ([poll] ++ (numBits f 2 ++ ([more] ++ ([last] ++ ([false] ++ (numBits m 16 ++ []))))))) := by simp [amBits]
theorem bits16p (poll last more : Bool) (f m o : Nat) : amBits poll true last f m o more 16 = [true] ++ ([true] ++ ([poll] ++ (numBits f 2 ++ ([more] ++ ([last] ++ ([false] ++ (numBits m 16 ++ (numBits o 16 ++ [])))))))) := by simp [amBits]
theorem one_bool (c : Bool) : decide ((((c.toNat : Nat) : Int)) = 1) = c := by cases c <;> rfl
set_option maxHeartbeats 8000000 in
theorem aReadHead (poll part last more : Bool) (f m o : Nat) (w : Int) {b : List UInt8} {ir : Nat} {tk : Tok} {F : List HE} {σb σ : AHeap} (hw : w = 10 ∨ w = 16) (hf : f < 4) (hm : m < 2 ^ w.toNat) (ho : part = true → o < 2 ^ (if w = 10 then 15 else 16))
    (hno : part = false → last = false ∧ o = 0) (hu : unpack b = amBits poll part last f m o more w) (hb : b.length ≤ 8000) (H : Hp σb (.o ir (.cells [sl tk b, i64v 0]) :: F) σ) :
    ACalls Try.prog i_amd_readHead [.ptr ir 0, i64v w] σ fun v σ' => v = .tup [.agg [boolv poll, i64v f, i64v m, boolv part, boolv last, i64v o, .slice 1 [] .full], boolv more, boolv true] ∧ Hp σb F σ' := by
  have hm2 : m < 65536 := Nat.lt_of_lt_of_le hm (by rcases hw with rfl | rfl <;> decide)
  have ho2 : part = true → o < 65536 := fun h => Nat.lt_of_lt_of_le (ho h) (by rcases hw with rfl | rfl <;> decide)
  refine k_amd_readHead rfl ?_
  (refine wX ?_)
  refine hnew H rfl ?_
  clear H
  intro ib τ H
  (refine wX ?_)
  refine hnew H rfl ?_
  clear H
  intro i4 τ H
  (refine wX ?_)
  have H := Hp.mid (A := [_, _]) (B := [_]) H
  have r : RdR ir b (amBits poll part last f m o more w) (.o ir (.cells [sl tk b, i64v 0])) := ⟨tk, [], rfl, hu⟩
  generalize HE.o ir (.cells [sl tk b, i64v 0]) = e at r H
  rcases hw with rfl | rfl
  all_goals cases part
  · obtain ⟨rfl, rfl⟩ := hno rfl
    rw [bits10n] at r
    refine ⟨rfl, ?_⟩
    (refine wX ?_)
    refine acall (fBit r H (H.get (k := 2) rfl) hb) ?_
    clear r H
    rintro _ τ ⟨rfl, e, r, H⟩
    (refine wX ?_)
    refine ⟨rfl, ?_⟩
    (refine wX ?_)
    refine acall (fBit r H (H.get (k := 2) rfl) hb) ?_
    clear r H
    rintro _ τ ⟨rfl, e, r, H⟩
    (refine wX ?_)
    (repeat (((apply zS H; (· repeat first | exact .h | apply AtK.t); (· rfl); (conv => whnf); clear H; intro τ H)); (refine wX ?_)))
    refine ⟨rfl, ?_⟩
    (refine wX ?_)
    refine acall (fBit r H (H.get (k := 2) rfl) hb) ?_
    clear r H
    rintro _ τ ⟨rfl, e, r, H⟩
    (refine wX ?_)
    rw [one_bool]
    (refine wX ?_)
    (repeat (((apply zS H; (· repeat first | exact .h | apply AtK.t); (· rfl); (conv => whnf); clear H; intro τ H)); (refine wX ?_)))
    refine ⟨rfl, ?_⟩
    (refine wX ?_)
    refine acall (fNum r H (H.get (k := 2) rfl) hb (by simpa using hf) (by decide)) ?_
    clear r H
    rintro _ τ ⟨rfl, e, r, H⟩
    (refine wX ?_)
    (repeat ((first | refine zI (by omega) ?_ | (apply zS H; (· repeat first | exact .h | apply AtK.t); (· rfl); (conv => whnf); clear H; intro τ H)); (refine wX ?_)))
    refine ⟨rfl, ?_⟩
    (refine wX ?_)
    refine acall (fBit r H (H.get (k := 2) rfl) hb) ?_
    clear r H
    rintro _ τ ⟨rfl, e, r, H⟩
    (refine wX ?_)
    rw [one_bool]
    (refine wX ?_)
    skip
    refine ⟨rfl, ?_⟩
    (refine wX ?_)
    refine acall (fNum r H (H.get (k := 2) rfl) hb (by simpa using hm) (by decide)) ?_
    clear r H
    rintro _ τ ⟨rfl, e, r, H⟩
    (refine wX ?_)
    (repeat ((first | refine zI (by omega) ?_ | (apply zL H; (· repeat first | exact .h | apply AtK.t); (· rfl)) | (apply zA H; (· repeat first | exact .h | apply AtK.t)) | (apply zS H; (· repeat first | exact .h | apply AtK.t); (· rfl); (conv => whnf); clear H; intro τ H)); (refine wX ?_)))
    exact aret (VLe.refl _) (Sub.refl _) ⟨rfl, Hp.rest (A := [_, _, _]) H⟩
  · have ho3 := ho2 rfl
    rw [bits10p] at r
    refine ⟨rfl, ?_⟩
    (refine wX ?_)
    refine acall (fBit r H (H.get (k := 2) rfl) hb) ?_
    clear r H
    rintro _ τ ⟨rfl, e, r, H⟩
    (refine wX ?_)
    refine ⟨rfl, ?_⟩
    (refine wX ?_)
    refine acall (fBit r H (H.get (k := 2) rfl) hb) ?_
    clear r H
    rintro _ τ ⟨rfl, e, r, H⟩
    (refine wX ?_)
    (repeat (((apply zS H; (· repeat first | exact .h | apply AtK.t); (· rfl); (conv => whnf); clear H; intro τ H)); (refine wX ?_)))
    refine ⟨rfl, ?_⟩
    (refine wX ?_)
    refine acall (fBit r H (H.get (k := 2) rfl) hb) ?_
    clear r H
    rintro _ τ ⟨rfl, e, r, H⟩
    (refine wX ?_)
    rw [one_bool]
    (refine wX ?_)
    (repeat (((apply zS H; (· repeat first | exact .h | apply AtK.t); (· rfl); (conv => whnf); clear H; intro τ H)); (refine wX ?_)))
    refine ⟨rfl, ?_⟩
    (refine wX ?_)
    refine acall (fNum r H (H.get (k := 2) rfl) hb (by simpa using hf) (by decide)) ?_
    clear r H
    rintro _ τ ⟨rfl, e, r, H⟩
    (refine wX ?_)
    (repeat ((first | refine zI (by omega) ?_ | (apply zS H; (· repeat first | exact .h | apply AtK.t); (· rfl); (conv => whnf); clear H; intro τ H)); (refine wX ?_)))
    refine ⟨rfl, ?_⟩
    (refine wX ?_)
    refine acall (fBit r H (H.get (k := 2) rfl) hb) ?_
    clear r H
    rintro _ τ ⟨rfl, e, r, H⟩
    (refine wX ?_)
    rw [one_bool]
    (refine wX ?_)
    skip
    refine ⟨rfl, ?_⟩
    (refine wX ?_)
    refine acall (fNum r H (H.get (k := 2) rfl) hb (by simpa using hm) (by decide)) ?_
    clear r H
    rintro _ τ ⟨rfl, e, r, H⟩
    (refine wX ?_)
    (repeat ((first | refine zI (by omega) ?_ | (apply zL H; (· repeat first | exact .h | apply AtK.t); (· rfl)) | (apply zS H; (· repeat first | exact .h | apply AtK.t); (· rfl); (conv => whnf); clear H; intro τ H)); (refine wX ?_)))
    refine ⟨rfl, ?_⟩
    (refine wX ?_)
    refine acall (fBit r H (H.get (k := 2) rfl) hb) ?_
    clear r H
    rintro _ τ ⟨rfl, e, r, H⟩
    (refine wX ?_)
    rw [one_bool]
    (refine wX ?_)
    (repeat ((first | (apply zL H; (· repeat first | exact .h | apply AtK.t); (· rfl)) | (apply zS H; (· repeat first | exact .h | apply AtK.t); (· rfl); (conv => whnf); clear H; intro τ H)); (refine wX ?_)))
    refine acall (aOffWidth 10 τ) ?_
    rintro _ σ_ ⟨rfl, e_⟩
    obtain rfl := e_.symm
    refine ⟨?_, Ext.refl _⟩
    (refine wX ?_)
    refine ⟨rfl, ?_⟩
    (refine wX ?_)
    refine acall (fNum r H (H.get (k := 2) rfl) hb (by simpa using ho rfl) (by decide)) ?_
    clear r H
    rintro _ τ ⟨rfl, e, r, H⟩
    (refine wX ?_)
    (repeat ((first | refine zI (by omega) ?_ | (apply zA H; (· repeat first | exact .h | apply AtK.t)) | (apply zS H; (· repeat first | exact .h | apply AtK.t); (· rfl); (conv => whnf); clear H; intro τ H)); (refine wX ?_)))
    exact aret (VLe.refl _) (Sub.refl _) ⟨rfl, Hp.rest (A := [_, _, _]) H⟩
  · obtain ⟨rfl, rfl⟩ := hno rfl
    rw [bits16n] at r
    refine ⟨rfl, ?_⟩
    (refine wX ?_)
    refine acall (fBit r H (H.get (k := 2) rfl) hb) ?_
    clear r H
    rintro _ τ ⟨rfl, e, r, H⟩
    (refine wX ?_)
    refine ⟨rfl, ?_⟩
    (refine wX ?_)
    refine acall (fBit r H (H.get (k := 2) rfl) hb) ?_
    clear r H
    rintro _ τ ⟨rfl, e, r, H⟩
    (refine wX ?_)
    (repeat (((apply zS H; (· repeat first | exact .h | apply AtK.t); (· rfl); (conv => whnf); clear H; intro τ H)); (refine wX ?_)))
    refine ⟨rfl, ?_⟩
    (refine wX ?_)
    refine acall (fBit r H (H.get (k := 2) rfl) hb) ?_
    clear r H
    rintro _ τ ⟨rfl, e, r, H⟩
    (refine wX ?_)
    rw [one_bool]
    (refine wX ?_)
    (repeat (((apply zS H; (· repeat first | exact .h | apply AtK.t); (· rfl); (conv => whnf); clear H; intro τ H)); (refine wX ?_)))
    refine ⟨rfl, ?_⟩
    (refine wX ?_)
    refine acall (fNum r H (H.get (k := 2) rfl) hb (by simpa using hf) (by decide)) ?_
    clear r H
    rintro _ τ ⟨rfl, e, r, H⟩
    (refine wX ?_)
    (repeat ((first | refine zI (by omega) ?_ | (apply zS H; (· repeat first | exact .h | apply AtK.t); (· rfl); (conv => whnf); clear H; intro τ H)); (refine wX ?_)))
    refine ⟨rfl, ?_⟩
    (refine wX ?_)
    refine acall (fBit r H (H.get (k := 2) rfl) hb) ?_
    clear r H
    rintro _ τ ⟨rfl, e, r, H⟩
    (refine wX ?_)
    rw [one_bool]
    (refine wX ?_)
    skip
    refine ⟨rfl, ?_⟩
    (refine wX ?_)
    refine acall (fBit r H (H.get (k := 2) rfl) hb) ?_
    clear r H
    rintro _ τ ⟨rfl, e, r, H⟩
    (refine wX ?_)
    rw [one_bool]
    (refine wX ?_)
    (repeat (((apply zS H; (· repeat first | exact .h | apply AtK.t); (· rfl); (conv => whnf); clear H; intro τ H)); (refine wX ?_)))
    refine ⟨rfl, ?_⟩
    (refine wX ?_)
    refine acall (fBit r H (H.get (k := 2) rfl) hb) ?_
    clear r H
    rintro _ τ ⟨rfl, e, r, H⟩
    (refine wX ?_)
    (repeat (((apply zL H; (· repeat first | exact .h | apply AtK.t); (· rfl))); (refine wX ?_)))
    refine ⟨rfl, ?_⟩
    (refine wX ?_)
    refine acall (fNum r H (H.get (k := 2) rfl) hb (by simpa using hm) (by decide)) ?_
    clear r H
    rintro _ τ ⟨rfl, e, r, H⟩
    (refine wX ?_)
    (repeat ((first | refine zI (by omega) ?_ | (apply zL H; (· repeat first | exact .h | apply AtK.t); (· rfl)) | (apply zA H; (· repeat first | exact .h | apply AtK.t)) | (apply zS H; (· repeat first | exact .h | apply AtK.t); (· rfl); (conv => whnf); clear H; intro τ H)); (refine wX ?_)))
    exact aret (VLe.refl _) (Sub.refl _) ⟨rfl, Hp.rest (A := [_, _, _]) H⟩
  · have ho3 := ho2 rfl
    rw [bits16p] at r
    refine ⟨rfl, ?_⟩
    (refine wX ?_)
    refine acall (fBit r H (H.get (k := 2) rfl) hb) ?_
    clear r H
    rintro _ τ ⟨rfl, e, r, H⟩
    (refine wX ?_)
    refine ⟨rfl, ?_⟩
    (refine wX ?_)
    refine acall (fBit r H (H.get (k := 2) rfl) hb) ?_
    clear r H
    rintro _ τ ⟨rfl, e, r, H⟩
    (refine wX ?_)
    (repeat (((apply zS H; (· repeat first | exact .h | apply AtK.t); (· rfl); (conv => whnf); clear H; intro τ H)); (refine wX ?_)))
    refine ⟨rfl, ?_⟩
    (refine wX ?_)
    refine acall (fBit r H (H.get (k := 2) rfl) hb) ?_
    clear r H
    rintro _ τ ⟨rfl, e, r, H⟩
    (refine wX ?_)
    rw [one_bool]
    (refine wX ?_)
    (repeat (((apply zS H; (· repeat first | exact .h | apply AtK.t); (· rfl); (conv => whnf); clear H; intro τ H)); (refine wX ?_)))
    refine ⟨rfl, ?_⟩
    (refine wX ?_)
    refine acall (fNum r H (H.get (k := 2) rfl) hb (by simpa using hf) (by decide)) ?_
    clear r H
    rintro _ τ ⟨rfl, e, r, H⟩
    (refine wX ?_)
    (repeat ((first | refine zI (by omega) ?_ | (apply zS H; (· repeat first | exact .h | apply AtK.t); (· rfl); (conv => whnf); clear H; intro τ H)); (refine wX ?_)))
    refine ⟨rfl, ?_⟩
    (refine wX ?_)
    refine acall (fBit r H (H.get (k := 2) rfl) hb) ?_
    clear r H
    rintro _ τ ⟨rfl, e, r, H⟩
    (refine wX ?_)
    rw [one_bool]
    (refine wX ?_)
    skip
    refine ⟨rfl, ?_⟩
    (refine wX ?_)
    refine acall (fBit r H (H.get (k := 2) rfl) hb) ?_
    clear r H
    rintro _ τ ⟨rfl, e, r, H⟩
    (refine wX ?_)
    rw [one_bool]
    (refine wX ?_)
    (repeat (((apply zS H; (· repeat first | exact .h | apply AtK.t); (· rfl); (conv => whnf); clear H; intro τ H)); (refine wX ?_)))
    refine ⟨rfl, ?_⟩
    (refine wX ?_)
    refine acall (fBit r H (H.get (k := 2) rfl) hb) ?_
    clear r H
    rintro _ τ ⟨rfl, e, r, H⟩
    (refine wX ?_)
    (repeat (((apply zL H; (· repeat first | exact .h | apply AtK.t); (· rfl))); (refine wX ?_)))
    refine ⟨rfl, ?_⟩
    (refine wX ?_)
    refine acall (fNum r H (H.get (k := 2) rfl) hb (by simpa using hm) (by decide)) ?_
    clear r H
    rintro _ τ ⟨rfl, e, r, H⟩
    (refine wX ?_)
    (repeat ((first | refine zI (by omega) ?_ | (apply zL H; (· repeat first | exact .h | apply AtK.t); (· rfl)) | (apply zS H; (· repeat first | exact .h | apply AtK.t); (· rfl); (conv => whnf); clear H; intro τ H)); (refine wX ?_)))
    refine acall (aOffWidth 16 τ) ?_
    rintro _ σ_ ⟨rfl, e_⟩
    obtain rfl := e_.symm
    refine ⟨?_, Ext.refl _⟩
    (refine wX ?_)
    refine ⟨rfl, ?_⟩
    (refine wX ?_)
    refine acall (fNum r H (H.get (k := 2) rfl) hb (by simpa using ho rfl) (by decide)) ?_
    clear r H
    rintro _ τ ⟨rfl, e, r, H⟩
    (refine wX ?_)
    (repeat ((first | refine zI (by omega) ?_ | (apply zA H; (· repeat first | exact .h | apply AtK.t)) | (apply zS H; (· repeat first | exact .h | apply AtK.t); (· rfl); (conv => whnf); clear H; intro τ H)); (refine wX ?_)))
    exact aret (VLe.refl _) (Sub.refl _) ⟨rfl, Hp.rest (A := [_, _, _]) H⟩
end Go.Proofs.Ytgbpjbpdpgbngaa
/-
  Packets that are acknowledged: bytes are cut into fields.
-/
namespace Go.Proofs.Ytgbpjbpdpgbngaa
set_option maxRecDepth 20000
open Go Go.Am

theorem tooLong (n : Int) (σ : AHeap) (h : n ≤ 2047) : ACalls Try.prog i_amd_fields_1 [i64v n] σ fun v σ' => v = boolv false ∧ σ' = σ := by
  refine k_amd_fields_1 rfl ?_
  (refine wX ?_)
  have e : ∀ {i : Decidable (2047 < n)}, @decide (2047 < n) i = false := fun {i} => @decide_eq_false _ i (by omega)
  exact aret_same ⟨congrArg boolv e, rfl⟩
theorem iIndex {g : FuncId} (hg : callB Try.prog g = true) (hc : ∀ n σ, n ≤ 2047 → ACalls Try.prog g [i64v n] σ fun v σ' => v = boolv false ∧ σ' = σ) (l : List Int) (t : Tok) (σ : AHeap) (h7 : ∀ v ∈ l, v ≤ 2047) (hl : l.length ≤ 1000) :
    ACalls Try.prog i_slices_IndexFunc_int_int [ints t l, .func g [] []] σ fun v σ' => v = i64v (-1) ∧ σ' = σ := by
  refine k_slices_IndexFunc_int_int rfl ?_
  (refine wX ?_)
  refine aloop (α := Nat) (fun i => [(s8, i64v i)]) (fun _ => σ) (fun i => i ≤ l.length) (fun i => l.length - i) 0 (Nat.zero_le _) (Sub.refl _) ?_ ?_
  · (refine wX ?_)
    exact elX
  intro i hi
  (refine wX ?_)
  rw [List.length_map]
  by_cases h : i < l.length
  · (repeat ((refine abr_yes (by omega) ?_); (refine wX ?_)))
    refine aget (by omega) (get_ints h) ?_
    (refine wX ?_)
    refine acell rfl ?_
    (refine wX ?_)
    refine ⟨hg, ?_⟩
    (refine wX ?_)
    refine acall (hc l[i] σ (h7 _ (List.getElem_mem h))) ?_
    rintro _ σ_ ⟨rfl, e_⟩
    obtain rfl := e_.symm
    (refine wX ?_)
    (repeat ((refine afit_i64 (by omega) ?_); (refine wX ?_)))
    refine ⟨i + 1, h, by omega, Sub.refl _, ?_⟩
    (refine wX ?_)
    exact elX
  · (repeat ((refine abr_no (by omega) ?_); (refine wX ?_)))
    exact aret_same ⟨rfl, rfl⟩
theorem iContains {g : FuncId} (hg : callB Try.prog g = true) (hc : ∀ n σ, n ≤ 2047 → ACalls Try.prog g [i64v n] σ fun v σ' => v = boolv false ∧ σ' = σ) (l : List Int) (t : Tok) (σ : AHeap) (h7 : ∀ v ∈ l, v ≤ 2047) (hl : l.length ≤ 1000) :
    ACalls Try.prog i_slices_ContainsFunc_int_int [ints t l, .func g [] []] σ fun v σ' => v = boolv false ∧ σ' = σ := by
  refine k_slices_ContainsFunc_int_int rfl ?_
  (refine wX ?_)
  refine acall (iIndex hg hc l t σ h7 hl) ?_
  rintro _ σ_ ⟨rfl, e_⟩
  obtain rfl := e_.symm
  refine ⟨?_, Ext.refl _⟩
  (refine wX ?_)
  skip
  have e : ∀ {i : Decidable ((0 : Int) ≤ -1)}, @decide ((0 : Int) ≤ -1) i = false := fun {i} => @decide_eq_false _ i (by omega)
  exact aret_same ⟨congrArg boolv e, rfl⟩
set_option maxRecDepth 20000 in
theorem aFields (b : List UInt8) (l : List Int) (t u : Tok) (σ : AHeap) (hb : b.length ≤ 8000) (hl : l.length ≤ 1000) (h0 : ∀ v ∈ l, 0 ≤ v) (h7 : ∀ v ∈ l, v ≤ 2047) : ACalls Try.prog i_amd_fields [sl t b, ints u l] σ fun v σ' => v = .tup [lists .none (cutF l b []).1, i64v (cutF l b []).2] ∧ σ' = σ := by
  refine k_amd_fields rfl ?_
  (refine wX ?_)
  refine ascope' (α := Nat × List UInt8 × List (List UInt8) × Tok × AHeap) (fun x => [(s0, sl .none x.2.1), (s6, lists x.2.2.2.1 x.2.2.1), (s7, i64v x.1)]) (fun x => x.2.2.2.2) (fun _ => 0) (fun x => x.1 ≤ l.length ∧ x.2.1.length ≤ 8000 ∧ x.2.2.1.length = x.1 ∧ cutF (l.drop x.1) x.2.1 x.2.2.1 = cutF l b [] ∧ Owned σ x.2.2.2.2 x.2.2.2.1) (fun x => l.length - x.1) ?_ ?_
  · (refine wX ?_)
    intro hlab
    (refine wX ?_)
    refine acall (iContains rfl tooLong l u _ h7 hl) ?_
    rintro _ σ_ ⟨rfl, e_⟩
    obtain rfl := e_.symm
    refine ⟨?_, Ext.refl _⟩
    (refine wX ?_)
    refine hlab _ (fun _ _ _ h => h) _ _ _ _ ⟨(0, b, [], .full, σ), rfl, ⟨Nat.zero_le _, hb, rfl, rfl, .full _⟩, rfl, Sub.refl _, ?_⟩
    (refine wX ?_)
    exact elX
  · rintro ⟨i, r, out, tk, σa⟩ ⟨hi, hr, hol, hcut, ho⟩
    dsimp only at hi hr hol hcut ho ⊢
    refine ⟨_, rfl, ?_⟩
    (refine wX ?_)
    intro hlab
    (refine wX ?_)
    by_cases h : i < l.length
    · have hv := h0 _ (List.getElem_mem h)
      rw [List.drop_eq_getElem_cons h, cutF] at hcut
      (repeat ((first | refine abr_yes (by omega) ?_ | rw [List.length_map]); (refine wX ?_)))
      refine aget (by omega) (get_ints h) ?_
      (refine wX ?_)
      refine acell rfl ?_
      (refine wX ?_)
      rw [List.length_map]
      by_cases h1 : l[i] > r.length
      · rw [if_pos h1] at hcut
        refine abr_yes h1 ?_
        (refine wX ?_)
        exact aret_sl1 ho.sub ⟨by rw [← hcut]; rfl, rfl⟩
      · rw [if_neg h1] at hcut
        refine abr_no h1 ?_
        (refine wX ?_)
        refine aget (by omega) (get_ints h) ?_
        (refine wX ?_)
        refine acell rfl ?_
        (refine wX ?_)
        refine aget (by omega) (get_ints h) ?_
        (refine wX ?_)
        refine acell rfl ?_
        (refine wX ?_)
        rw [List.length_map]
        refine acut (by omega) (by omega) (by omega) ?_
        (refine wX ?_)
        refine ⟨rfl, rfl, ?_⟩
        rw [show (0 : Int).toNat = 0 from rfl, List.drop_zero, ← List.map_take]
        (refine wX ?_)
        refine acall_less (Clone (r.take l[i].toNat) _ _ (by rw [List.length_take]; omega)) ?_
        rintro _ σ4 ⟨tk3, ho3, rfl⟩
        refine ⟨sl .none (r.take l[i].toNat), σa, VLe.slice _ _ _, ho3.sub, ?_, Ext.refl _⟩
        (refine wX ?_)
        refine aapp_sub (ys := [sl .none (r.take l[i].toNat)]) ho (Sub.refl _) (by rw [List.length_map]; show (out.length + 1) * 24 ≤ _; omega) fun tk2 σ5 σ6 ho2 hs2 => ?_
        rw [show List.map (sl .none) out ++ [sl .none (r.take l[i].toNat)] = List.map (sl .none) (out ++ [r.take l[i].toNat]) by simp]
        (refine wX ?_)
        refine aget (by omega) (get_ints h) ?_
        (refine wX ?_)
        refine acell rfl ?_
        (refine wX ?_)
        rw [List.length_map]
        refine acut (by omega) (by omega) (by omega) ?_
        (refine wX ?_)
        (repeat ((refine afit_i64 (by omega) ?_); (refine wX ?_)))
        refine ⟨(i + 1, r.drop l[i].toNat, out ++ [r.take l[i].toNat], tk2, σ6), rfl, ⟨h, ?_, ?_, hcut, ho2⟩, by dsimp only; omega, hs2, ?_⟩
        · dsimp only; rw [List.length_drop]; omega
        · dsimp only; rw [List.length_append]; show _ + 1 = _; omega
        · rw [show ((r.length : Nat) : Int).toNat = r.length by omega, List.take_of_length_le (l := r.map byteV) (by rw [List.length_map]; exact Nat.le_refl _), ← List.map_drop]
          (refine wX ?_)
          exact elX
    · obtain rfl : i = l.length := by omega
      rw [List.drop_of_length_le (Nat.le_refl _), cutF] at hcut
      (repeat ((first | refine abr_no (by omega) ?_ | rw [List.length_map]); (refine wX ?_)))
      by_cases h1 : r.length = 0
      · rw [if_pos h1] at hcut
        (repeat ((refine abr_yes (by omega) ?_); (refine wX ?_)))
        exact aret_sl1 ho.sub ⟨by rw [← hcut]; rfl, rfl⟩
      · rw [if_neg h1] at hcut
        (repeat ((refine abr_no (by omega) ?_); (refine wX ?_)))
        refine acall_less (Clone r _ _ (by omega)) ?_
        rintro _ σ4 ⟨tk3, ho3, rfl⟩
        refine ⟨sl .none r, σa, VLe.slice _ _ _, ho3.sub, ?_, Ext.refl _⟩
        (refine wX ?_)
        refine aapp_sub (ys := [sl .none r]) ho (Sub.refl _) (by rw [List.length_map]; show (out.length + 1) * 24 ≤ _; omega) fun tk2 σ5 σ6 ho2 hs2 => ?_
        rw [show List.map (sl .none) out ++ [sl .none r] = List.map (sl .none) (out ++ [r]) by simp]
        (refine wX ?_)
        exact aret_sl1 (hs2.trans ho2.sub) ⟨by rw [← hcut], rfl⟩
end Go.Proofs.Ytgbpjbpdpgbngaa
/-
  Packets that are acknowledged: what is written is read.
-/
namespace Go.Proofs.Ytgbpjbpdpgbngaa
set_option maxRecDepth 20000
open Go Go.Am

theorem lensOf_consA (a b : List UInt8) (r : List (List UInt8)) : lensOf (a :: b :: r) = (a.length : Int) :: lensOf (b :: r) := by
  unfold lensOf
  rw [show (a :: b :: r).length - 1 = (b :: r).length - 1 + 1 from rfl, List.take_succ_cons]; rfl
theorem cut_backA : ∀ (l : List (List UInt8)) (out : List (List UInt8)), (∀ f ∈ l, 1 ≤ f.length) → l ≠ [] → cutF (lensOf l) l.flatten out = (out ++ l, 0)
  | [], _, _, h => absurd rfl h
  | [a], out, h, _ => by
    have ha := h a (List.mem_cons_self ..)
    show cutF [] (a ++ []) out = _
    rw [List.append_nil]
    unfold cutF
    rw [if_neg (by omega)]
  | a :: b :: r, out, h, _ => by
    rw [lensOf_consA, cutF, List.flatten_cons, Int.toNat_natCast, if_neg (by rw [List.length_append]; omega)]
    rw [List.drop_append_of_le_length (Nat.le_refl _), List.drop_of_length_le (Nat.le_refl _), List.nil_append, List.take_append_of_le_length (Nat.le_refl _), List.take_of_length_le (Nat.le_refl _)]
    rw [cut_backA (b :: r) (out ++ [a]) (fun f hf => h f (List.mem_cons_of_mem _ hf)) (by simp), List.append_assoc]; rfl
theorem writeBytes_lenA {l : List Int} {w : Int} (h : writeCode l w = 0) : ((writeBytes l w).length : Int) = sizeV l.length w := by
  obtain ⟨h1, h2, h3, h4⟩ := writeCode_ok h
  unfold writeBytes sizeV
  have hn : ¬ (true = false ∨ (l.length : Int) < 1 ∨ (l.length : Int) > 23) := by
    rintro (e | e | e)
    · cases e
    · omega
    · omega
  rw [if_pos h, pack_length, lenBits_length, widthOk_iff.2 h1, if_neg hn]
  rcases h1 with rfl | rfl
  · show (((l.length * (11 + 1) + 7) / 8 : Nat) : Int) = _; omega
  · show (((l.length * (15 + 1) + 7) / 8 : Nat) : Int) = _; omega
theorem tail_len {l : List (List UInt8)} {h w W : Int} (hW : W = 11 ∨ W = 15) (k : FieldsOk l h w) : ((tailB l W).length : Int) = sizeV ((l.length : Int) - 1) W + (total l : Int) := by
  have g1 := k.one
  have hl := lensOf_length l
  unfold tailB
  rw [List.length_append]
  have e9 : l.flatten.length = total l := rfl
  by_cases h2 : l.length > 1
  · have := writeBytes_lenA (lensOf_code hW k h2)
    rw [hl] at this
    rw [if_pos h2, e9]
    rw [show ((l.length : Int) - 1) = ((l.length - 1 : Nat) : Int) by omega, ← this]
    omega
  · rw [if_neg h2, e9, show (l.length : Int) - 1 = 0 by omega]
    have : sizeV 0 W = 0 := by unfold sizeV; rw [if_pos (.inr (.inl (by decide)))]
    rw [this]; simp
theorem and128 : ∀ x : Nat, x < 256 → bitsOp .and .u8 (x : Int) 128 = if x.testBit 7 then 128 else 0 := by decide +kernel
theorem and64 : ∀ x : Nat, x < 256 → bitsOp .and .u8 (x : Int) 64 = if x.testBit 6 then 64 else 0 := by decide +kernel
theorem byte_two {x : UInt8} {c d : Bool} {r s : List Bool} (h : byteBits x ++ r = [c] ++ ([d] ++ s)) : x.toNat.testBit 7 = c ∧ x.toNat.testBit 6 = d := by
  unfold byteBits numBits numBits at h
  simp only [List.cons_append, List.nil_append, List.cons.injEq] at h
  exact ⟨h.1, h.2.1⟩
set_option maxHeartbeats 8000000 in
theorem aRead (p : Pk) (w : Int) (t : Tok) (σ : AHeap) (hr : amSize p w > 0) : ACalls Try.prog i_amd_Read [sl t (amBytes p w), i64v w] σ fun v σ' => v = .tup [amV p, i64v 0] ∧ σ' = σ := by
  obtain ⟨hw, hf1, hf2, hsn, hfo, ho1, ho2, hpl⟩ := amSize_ok hr
  have g1 := hfo.one
  have g2 := hfo.most
  have g3 := hfo.fits
  have hh := amHead_range p.part w
  have hh2 : 2 ≤ amHead p.part w := by unfold amHead; rw [amWidth_iff.2 hw, if_pos rfl]; repeat' split <;> omega
  have hsz := sizeV_range ((p.fs.length : Int) - 1) (lenW w)
  have hW : lenW w = 11 ∨ lenW w = 15 := by unfold lenW; split <;> simp
  have hlc := lensOf_code hW (flds_ok hfo)
  obtain ⟨hs0, hsl⟩ := num_lt hw hsn
  have hlo := lensOf_length p.fs
  have htl := tail_len hW (flds_ok hfo)
  have hne : ∀ f ∈ p.fs, 1 ≤ f.length := fun f hf => by
    obtain ⟨i, hi, rfl⟩ := List.getElem_of_mem hf
    exact (hfo.each i hi).1
  have hcut := cut_backA p.fs [] hne (by intro e; rw [e] at g1; simp at g1)
  have hl7 : ∀ v ∈ lensOf p.fs, 0 ≤ v ∧ v ≤ 2047 := fun v hv => by
    unfold lensOf at hv
    obtain ⟨f, hf, rfl⟩ := List.mem_map.1 hv
    obtain ⟨i, hi, rfl⟩ := List.getElem_of_mem hf
    rw [List.length_take] at hi
    have := (hfo.each i (by omega)).2 (by omega)
    rw [List.getElem_take]
    omega
  unfold amBytes
  have hbl := amBits_len (poll := p.poll) (part := p.part) (last := p.last) (f := p.fi.toNat) (m := p.sn.toNat) (o := p.off.toNat) (more := umMore p.fs) hw
  have hpl2 := pack_length (amBits p.poll p.part p.last p.fi.toNat p.sn.toNat p.off.toNat (umMore p.fs) w)
  have hun := unpack_pack (amBits p.poll p.part p.last p.fi.toNat p.sn.toNat p.off.toNat (umMore p.fs) w)
  rw [hbl] at hpl2 hun
  rw [show 8 * ((8 * (amHead p.part w).toNat + 7) / 8) - 8 * (amHead p.part w).toNat = 0 by omega, List.replicate_zero, List.append_nil] at hun
  rw [show (8 * (amHead p.part w).toNat + 7) / 8 = (amHead p.part w).toNat by omega] at hpl2
  have hbits : ∃ s, amBits p.poll p.part p.last p.fi.toNat p.sn.toNat p.off.toNat (umMore p.fs) w = [true] ++ ([p.part] ++ s) := ⟨_, rfl⟩
  obtain ⟨s, hbits⟩ := hbits
  obtain ⟨poll, fi, sn, part, last, off, fs⟩ := p
  dsimp only at *
  obtain ⟨f, rfl⟩ : ∃ f : Nat, fi = f := ⟨fi.toNat, by omega⟩
  obtain ⟨m, rfl⟩ : ∃ m : Nat, sn = m := ⟨sn.toNat, by omega⟩
  obtain ⟨o, rfl⟩ : ∃ o : Nat, off = o := ⟨off.toNat, by omega⟩
  simp only [Int.toNat_natCast] at *
  generalize hhd : pack (amBits poll part last f m o (umMore fs) w) = hd at *
  obtain ⟨x, xs, rfl⟩ : ∃ x xs, hd = x :: xs := by
    cases hd with
    | nil => simp at hpl2; omega
    | cons x xs => exact ⟨x, xs, rfl⟩
  have hx : x.toNat.testBit 7 = true ∧ x.toNat.testBit 6 = part := by
    have e : byteBits x ++ unpack xs = [true] ++ ([part] ++ s) := by rw [← hbits, ← hun]; rfl
    exact byte_two e
  have hx256 : x.toNat < 256 := x.toNat_lt
  have ha128 := and128 x.toNat hx256
  have ha64 := and64 x.toNat hx256
  rw [hx.1, if_pos rfl] at ha128
  rw [hx.2] at ha64
  refine k_amd_Read rfl ?_
  have H := Hp.nil σ
  (refine wX ?_)
  refine hnew H rfl ?_
  clear H
  intro i4 τ H
  (refine wX ?_)
  skip
  refine acall (aIsWidth w τ) ?_
  rintro _ σ_ ⟨rfl, e_⟩
  obtain rfl := e_.symm
  refine ⟨?_, Ext.refl _⟩
  (refine wX ?_)
  rw [amWidth_iff.2 hw]
  (refine wX ?_)
  have hlen : (x :: xs ++ tailB fs (lenW w)).length ≤ 4000 := by rw [List.length_append]; omega
  have hlen2 : 2 ≤ (x :: xs ++ tailB fs (lenW w)).length := by rw [List.length_append]; omega
  have hlen3 : amHead part w ≤ ((x :: xs ++ tailB fs (lenW w)).length : Nat) := by rw [List.length_append]; omega
  (repeat ((first | refine zN (by omega) ?_ | rw [List.length_map]); (refine wX ?_)))
  refine aget (x := byteV x) (by omega) rfl ?_
  (refine wX ?_)
  refine acell rfl ?_
  (refine wX ?_)
  refine abits_eq ha128 ?_
  (refine wX ?_)
  skip
  refine aget (x := byteV x) (by omega) rfl ?_
  (refine wX ?_)
  refine acell rfl ?_
  (refine wX ?_)
  refine abits_eq ha64 ?_
  (refine wX ?_)
  have e64 : ∀ {i : Decidable ((if part = true then (64 : Int) else 0) ≠ 0)}, @decide ((if part = true then (64 : Int) else 0) ≠ 0) i = part := by
    intro i
    cases part
    · exact @decide_eq_false _ i (by simp)
    · exact @decide_eq_true _ i (by simp)
  rw [e64]
  (refine wX ?_)
  refine acall (aHead part w τ) ?_
  rintro _ σ_ ⟨rfl, e_⟩
  obtain rfl := e_.symm
  refine ⟨?_, Ext.refl _⟩
  (refine wX ?_)
  (repeat ((first | refine zN (by omega) ?_ | rw [List.length_map]); (refine wX ?_)))
  refine acut (by omega) (by omega) (by omega) ?_
  (refine wX ?_)
  rw [show (((x :: xs ++ tailB fs (lenW w)).map byteV).take (amHead part w).toNat).drop (Int.toNat 0) = (x :: xs).map byteV by
    rw [← List.map_take, List.take_append_of_le_length (by omega), List.take_of_length_le (by omega)]; rfl]
  have hrd := rRead (x :: xs) .none τ (by omega)
  rw [show (x :: xs).take 8192 = x :: xs from List.take_of_length_le (by omega)] at hrd
  refine acall hrd ?_
  clear hrd
  rintro _ τ1 ⟨ir, rfl, hn0, _, _, tkr, rfl⟩
  have H2 := H.cons_o (sub_none (Sub.refl _) hn0) (.cells [sl tkr (x :: xs), i64v ((0 : Nat) : Int)])
  refine ⟨?_, (Hp.nil τ |>.cons_o hn0 _).ext⟩
  (refine wX ?_)
  refine acall (aReadHead poll part last (umMore fs) f m o w hw (by omega) hsl ?_ ?_ hun (by omega) H2) ?_
  · intro _
    unfold offTop at ho2
    rcases hw with rfl | rfl
    · rw [if_pos rfl] at ho2 ⊢; omega
    · rw [if_neg (by decide)] at ho2 ⊢; omega
  · intro hp
    obtain ⟨q1, q2⟩ := hpl hp
    exact ⟨q1, by omega⟩
  clear H H2
  rintro _ τ ⟨rfl, H⟩
  (refine wX ?_)
  refine hnew H rfl ?_
  clear H
  intro i7 τ H
  (refine wX ?_)
  (repeat ((first | (apply zS H; (· repeat first | exact .h | apply AtK.t); (· rfl); (conv => whnf); clear H; intro τ H) | rw [List.length_map]); (refine wX ?_)))
  refine acut (by omega) (by omega) (by omega) ?_
  (refine wX ?_)
  rw [show (((x :: xs ++ tailB fs (lenW w)).map byteV).take (((x :: xs ++ tailB fs (lenW w)).length : Nat) : Int).toNat).drop (amHead part w).toNat = (tailB fs (lenW w)).map byteV by
    rw [Int.toNat_natCast, List.take_of_length_le (by rw [List.length_map]; exact Nat.le_refl _), ← List.map_drop, ← hpl2, List.drop_left]]
  cases hmo : umMore fs
  case true =>
    have h2 : fs.length > 1 := of_decide_eq_true hmo
    have hrb := read_back (lensOf fs) (lenW w) fs.flatten (hlc h2)
    have htb : tailB fs (lenW w) = writeBytes (lensOf fs) (lenW w) ++ fs.flatten := by unfold tailB; rw [if_pos h2]
    (refine wX ?_)
    refine acall (aLenWidth w τ) ?_
    rintro _ σ_ ⟨rfl, e_⟩
    obtain rfl := e_.symm
    refine ⟨?_, Ext.refl _⟩
    (refine wX ?_)
    refine acall (lRead (tailB fs (lenW w)) _ (lenW w) τ (by omega)) ?_
    rintro _ σ_ ⟨rfl, e_⟩
    obtain rfl := e_.symm
    refine ⟨?_, Ext.refl _⟩
    (refine wX ?_)
    have hk : ((writeBytes (lensOf fs) (lenW w)).length : Int) ≤ (tailB fs (lenW w)).length := by rw [htb, List.length_append]; omega
    have hfl : fs.flatten.length ≤ 4000 := by show total fs ≤ 4000; omega
    rw [htb] at hk
    rw [htb, hrb]
    dsimp only
    (refine wX ?_)
    (repeat ((rw [List.length_map]); (refine wX ?_)))
    refine acut (by omega) (by omega) (by omega) ?_
    (refine wX ?_)
    rw [show (((writeBytes (lensOf fs) (lenW w) ++ fs.flatten).map byteV).take (((writeBytes (lensOf fs) (lenW w) ++ fs.flatten).length : Nat) : Int).toNat).drop (((writeBytes (lensOf fs) (lenW w)).length : Nat) : Int).toNat = fs.flatten.map byteV by
      rw [Int.toNat_natCast, List.take_of_length_le (by rw [List.length_map]; exact Nat.le_refl _), ← List.map_drop, List.drop_left]]
    refine acall (aFields fs.flatten (lensOf fs) .none .none τ (by omega) (by omega) (fun v hv => (hl7 v hv).1) (fun v hv => (hl7 v hv).2)) ?_
    rintro _ σ_ ⟨rfl, e_⟩
    obtain rfl := e_.symm
    refine ⟨?_, Ext.refl _⟩
    (refine wX ?_)
    rw [hcut, List.nil_append]
    dsimp only
    (refine wX ?_)
    (repeat ((first | (apply zA H; (· repeat first | exact .h | apply AtK.t)) | (apply zS H; (· repeat first | exact .h | apply AtK.t); (· rfl); (conv => whnf); clear H; intro τ H)); (refine wX ?_)))
    exact aret (VLe.refl _) H.sub ⟨rfl, rfl⟩
  case false =>
    have h2 : ¬ fs.length > 1 := of_decide_eq_false hmo
    have hl0 : lensOf fs = [] := List.eq_nil_of_length_eq_zero (by omega)
    have hfl : fs.flatten.length ≤ 4000 := by show total fs ≤ 4000; omega
    have htb : tailB fs (lenW w) = fs.flatten := by unfold tailB; rw [if_neg h2, List.nil_append]
    rw [hl0] at hcut
    rw [htb]
    (refine wX ?_)
    skip
    refine acall (aFields fs.flatten [] .none .full τ (by omega) (by simp) (by simp) (by simp)) ?_
    rintro _ σ_ ⟨rfl, e_⟩
    obtain rfl := e_.symm
    refine ⟨?_, Ext.refl _⟩
    (refine wX ?_)
    rw [hcut, List.nil_append]
    dsimp only
    (refine wX ?_)
    (repeat ((first | (apply zA H; (· repeat first | exact .h | apply AtK.t)) | (apply zS H; (· repeat first | exact .h | apply AtK.t); (· rfl); (conv => whnf); clear H; intro τ H)); (refine wX ?_)))
    exact aret (VLe.refl _) H.sub ⟨rfl, rfl⟩
end Go.Proofs.Ytgbpjbpdpgbngaa
/-
  What a glue does.
-/
namespace Go.Proofs.Ytgbpjbpdpgbngaa
open Go Go.Am

/-- What a glue holds: a text's beginning, if one is held; how many texts were lost. -/
abbrev GS := Option (List UInt8) × Nat
def glCells (g : GS) (tk : Tok) : List AVal := [boolv true, sl tk (g.1.getD []), boolv g.1.isSome, i64v g.2]
def Gl (σ : AHeap) (id : Nat) (g : GS) (σb : AHeap) : Prop := σb id = none ∧ ∃ tk, σ = upd σb id (.cells (glCells g tk))
theorem Gl.at {σ : AHeap} {id : Nat} {g : GS} {tk : Tok} (h : σ id = some (.cells (glCells g tk))) : Gl σ id g (del σ id) := by
  refine ⟨del_same _ _, tk, ?_⟩
  funext j
  by_cases e : j = id
  · subst e; rw [upd_same]; exact h
  · rw [upd_ne _ _ e, del_ne _ e]
theorem gl_of {σ σb : AHeap} {id : Nat} {g : GS} {tk : Tok} (h : σ id = some (.cells (glCells g tk))) (h1 : σb id = none) (hs : Sub σ σb) : ∃ σ', Sub σ σ' ∧ Gl σ' id g σb := by
  refine ⟨upd σb id (.cells (glCells g tk)), fun j o hj => ?_, h1, tk, rfl⟩
  by_cases e : j = id
  · subst e; rw [upd_same] at hj; rw [← hj]; exact h
  · rw [upd_ne _ _ e] at hj; exact hs _ _ hj
theorem Gl.sub {σ σb : AHeap} {id : Nat} {g : GS} (h : Gl σ id g σb) : Sub σ σb := by
  obtain ⟨h1, tk, rfl⟩ := h
  exact Sub.upd_fresh _ h1
theorem Gl.ext {σ σb : AHeap} {id : Nat} {g : GS} (h : Gl σ id g σb) : Ext σb σ := by
  obtain ⟨h1, tk, rfl⟩ := h
  exact Ext.upd_fresh _ h1
theorem Gl.cell {σ σb : AHeap} {id : Nat} {g : GS} (h : Gl σ id g σb) : ∃ tk, σ id = some (.cells (glCells g tk)) := by
  obtain ⟨h1, tk, rfl⟩ := h
  exact ⟨tk, upd_same _ _ _⟩

theorem gNew (σ : AHeap) : ACalls Try.prog i_glue_New [] σ fun v σ' => ∃ id, v = .ptr id 0 ∧ Gl σ' id (none, 0) σ := by
  refine k_glue_New rfl ?_
  (refine wX ?_)
  refine anew rfl fun id hid => ?_
  (refine wX ?_)
  exact aret_same ⟨id, rfl, hid, .full, rfl⟩
theorem gHeld (id : Nat) (g : GS) (σ σb : AHeap) (h : Gl σ id g σb) : ACalls Try.prog i_glue_Glue_Held [.ptr id 0] σ fun v σ' => v = i64v (g.1.getD []).length ∧ σ' = σ := by
  obtain ⟨tk, hc⟩ := h.cell
  refine k_glue_Glue_Held rfl ?_
  (refine wX ?_)
  refine aload hc rfl ?_
  (refine wX ?_)
  exact aret_same ⟨by rw [List.length_map], rfl⟩
theorem gDrop (id : Nat) (g : GS) (σ σb : AHeap) (h : Gl σ id g σb) : ACalls Try.prog i_glue_Glue_Drop [.ptr id 0] σ fun v σ' => Gl σ' id (none, g.2) σb := by
  obtain ⟨h1, tk, rfl⟩ := h
  refine k_glue_Glue_Drop rfl ?_
  (refine wX ?_)
  refine astore (xs := [.slice 1 [] .full]) (l := [boolv true, sl .full [], boolv g.1.isSome, i64v g.2]) (upd_same _ _ _) (Nat.le_of_ble_eq_true rfl) rfl rfl ?_
  rw [upd_upd]
  (refine wX ?_)
  refine astore (xs := [boolv false]) (l := [boolv true, sl .full [], boolv false, i64v g.2]) (upd_same _ _ _) (Nat.le_of_ble_eq_true rfl) rfl rfl ?_
  rw [upd_upd]
  (refine wX ?_)
  exact aret_same ⟨h1, .full, rfl⟩
def loseG (g : GS) : GS := (none, g.2 + g.1.isSome.toNat)
theorem gLose (id : Nat) (g : GS) (σ σb : AHeap) (h : Gl σ id g σb) (hl : g.2 ≤ 1000000000) : ACalls Try.prog i_glue_Glue_lose [.ptr id 0] σ fun v σ' => Gl σ' id (loseG g) σb := by
  have h0 := h
  obtain ⟨h1, tk, rfl⟩ := h
  refine k_glue_Glue_lose rfl ?_
  (refine wX ?_)
  refine aload (upd_same _ _ _) rfl ?_
  (refine wX ?_)
  obtain ⟨o, n⟩ := g
  cases o with
  | none =>
    (refine wX ?_)
    refine acall (gDrop id _ _ _ h0) ?_
    rintro v σ' w
    (refine wX ?_)
    exact aret_same w
  | some x =>
    (refine wX ?_)
    refine aload (upd_same _ _ _) rfl ?_
    (refine wX ?_)
    refine afit_i64 (by dsimp only at hl ⊢; omega) ?_
    (refine wX ?_)
    refine astore (xs := [i64v ((n : Int) + 1)]) (l := glCells (some x, n + 1) tk) (upd_same _ _ _) (Nat.le_of_ble_eq_true rfl) rfl rfl ?_
    rw [upd_upd]
    (refine wX ?_)
    refine acall (gDrop id (some x, n + 1) _ σb ⟨h1, tk, rfl⟩) ?_
    rintro v σ' w
    (refine wX ?_)
    exact aret_same w

/-- A field is taken: the text that it ends, and what is held behind it. -/
def holdG (g : GS) (b : List UInt8) (begins ends : Bool) : GS :=
  if begins = true then (some b, g.2 + g.1.isSome.toNat) else match g.1 with
    | some h => (some (h ++ b), g.2)
    | none => (none, g.2 + ends.toNat)
def cutG (g : GS) : GS := if (g.1.getD []).length > 1000 then loseG g else g
def endG (g : GS) (ends : Bool) : Option (List UInt8) × GS := if ends = true ∧ g.1.isSome = true then (g.1, (none, g.2)) else (none, g)
def fieldG (g : GS) (b : List UInt8) (begins ends : Bool) : Option (List UInt8) × GS := endG (cutG (holdG g b begins ends)) ends
theorem cutG_held (g : GS) : ((cutG g).1.getD []).length ≤ 1000 := by
  unfold cutG loseG
  split
  · simp
  · omega
theorem fieldG_held (g : GS) (b : List UInt8) (begins ends : Bool) : ((fieldG g b begins ends).2.1.getD []).length ≤ 1000 := by
  unfold fieldG endG
  split
  · simp
  · exact cutG_held _
theorem fieldG_lost (g : GS) (b : List UInt8) (begins ends : Bool) : (fieldG g b begins ends).2.2 ≤ g.2 + 2 := by
  have h1 : (holdG g b begins ends).2 ≤ g.2 + 1 := by
    unfold holdG
    split
    · dsimp only; cases g.1.isSome <;> simp
    · split
      · dsimp only; omega
      · dsimp only; cases ends <;> simp
  have h2 : ∀ x : GS, (cutG x).2 ≤ x.2 + 1 := by
    intro x
    unfold cutG loseG
    split
    · dsimp only; cases x.1.isSome <;> simp
    · omega
  have h3 := h2 (holdG g b begins ends)
  unfold fieldG endG
  split
  · dsimp only; omega
  · dsimp only; omega

theorem hold_lost (g : GS) (b : List UInt8) (begins ends : Bool) : (holdG g b begins ends).2 ≤ g.2 + 1 := by
  unfold holdG
  split
  · dsimp only; cases g.1.isSome <;> simp
  · split
    · dsimp only; omega
    · dsimp only; cases ends <;> simp

set_option maxRecDepth 20000 in
theorem gField (id : Nat) (g : GS) (b : List UInt8) (t : Tok) (begins ends : Bool) (σ σb : AHeap) (h : Gl σ id g σb) (hl : g.2 ≤ 100000000) (hh : (g.1.getD []).length ≤ 1000) (hb : b.length ≤ 140737488351232) :
    ACalls Try.prog i_glue_Glue_field [.ptr id 0, sl t b, boolv begins, boolv ends] σ fun v σ' => v = .tup [sl .none ((fieldG g b begins ends).1.getD []), boolv (fieldG g b begins ends).1.isSome] ∧ Gl σ' id (fieldG g b begins ends).2 σb := by
  have h0 := h
  obtain ⟨h1, tk, hσ⟩ := h
  refine k_glue_Glue_field rfl ?_
  obtain ⟨o, n⟩ := g
  dsimp only at hl hh
  have hlen : (List.map byteV (o.getD [])).length = (o.getD []).length := List.length_map ..
  unfold fieldG
  have hsb : Sub σ σb := h0.sub
  have hc0 : σ id = some (.cells (glCells (o, n) tk)) := by rw [hσ]; exact upd_same _ _ _
  rcases Bool.eq_false_or_eq_true begins with hbe | hbe <;> subst hbe
  case' inl =>
    (refine wX ?_)
    refine acall (gLose id _ _ _ h0 (by dsimp only; omega)) ?_
    rintro v σ1 w1
    (refine wX ?_)
    refine acall (Clone b _ _ (by omega)) ?_
    rintro v σ2 ⟨tk2, ho, rfl⟩
    refine ⟨?_, ho.ext⟩
    (refine wX ?_)
    have hs1 := w1.sub
    obtain ⟨tk3, hc3⟩ := w1.cell
    have hc1 := ho.same_of hc3
    refine astore (xs := [sl tk2 b]) (l := [boolv true, sl tk2 b, boolv false, i64v (n + o.isSome.toNat : Nat)]) hc1 (Nat.le_of_ble_eq_true rfl) rfl rfl ?_
    (refine wX ?_)
    refine astore (xs := [boolv true]) (l := glCells (some b, n + o.isSome.toNat) tk2) (upd_same _ _ _) (Nat.le_of_ble_eq_true rfl) rfl rfl ?_
    rw [upd_upd]
    have hs2 : Sub σ2 σb := ho.sub.trans hs1
    obtain ⟨σ3, hσ3⟩ : ∃ σ3, σ3 = upd σ2 id (.cells (glCells (some b, n + o.isSome.toNat) tk2)) := ⟨_, rfl⟩
    rw [← hσ3]
    have hc3 : ∃ tk3, σ3 id = some (.cells (glCells (holdG (o, n) b true ends) tk3)) := ⟨tk2, by rw [hσ3]; exact upd_same _ _ _⟩
    obtain ⟨g1, hg1⟩ : ∃ g1, g1 = holdG (o, n) b true ends := ⟨_, rfl⟩
    have hg2 : g1.2 ≤ n + 1 := by rw [hg1]; exact hold_lost _ _ _ _
    rw [← hg1] at hc3 ⊢
    clear hg1
    have hs3 : Sub σ3 σb := by
      rw [hσ3]
      intro j x hj
      have hne : j ≠ id := fun e => by subst e; rw [h1] at hj; cases hj
      rw [upd_ne _ _ hne]; exact hs2 _ _ hj
    (refine wX ?_)
    cases ends
  case' inr =>
    (refine wX ?_)
    refine aload hc0 rfl ?_
    cases o
  case' inr.some h =>
    (refine wX ?_)
    refine aload hc0 rfl ?_
    (refine wX ?_)
    refine aload hc0 rfl ?_
    (refine wX ?_)
    refine aload hc0 rfl ?_
    (refine wX ?_)
    rw [List.length_map]
    refine acut (by omega) (by omega) (Int.le_refl _) ?_
    (refine wX ?_)
    refine ⟨rfl, rfl, ?_⟩
    rw [show (0 : Int).toNat = 0 from rfl, List.drop_zero, Int.toNat_natCast, List.take_of_length_le (by rw [List.length_map]; exact Nat.le_refl _)]
    (refine wX ?_)
    refine aapp_full (by rw [List.length_map, List.length_map]; have : h.length ≤ 1000 := hh; show (h.length + b.length) * 1 ≤ _; omega) fun t2 ht2 => ?_
    rw [← List.map_append]
    (refine wX ?_)
    have hne2 : id ≠ t2 := fun e => by subst e; rw [hc0] at ht2; cases ht2
    refine astore (xs := [sl (.tip t2) (h ++ b)]) (l := glCells (some (h ++ b), n) (.tip t2)) (by rw [upd_ne _ _ hne2]; exact hc0) (Nat.le_of_ble_eq_true rfl) rfl rfl ?_
    obtain ⟨σ3, hσ3⟩ : ∃ σ3, σ3 = upd (upd σ t2 .tip) id (.cells (glCells (some (h ++ b), n) (.tip t2))) := ⟨_, rfl⟩
    rw [← hσ3]
    have hc3 : ∃ tk3, σ3 id = some (.cells (glCells (holdG (some h, n) b false ends) tk3)) := ⟨.tip t2, by rw [hσ3]; exact upd_same _ _ _⟩
    obtain ⟨g1, hg1⟩ : ∃ g1, g1 = holdG (some h, n) b false ends := ⟨_, rfl⟩
    have hg2 : g1.2 ≤ n + 1 := by rw [hg1]; exact hold_lost _ _ _ _
    rw [← hg1] at hc3 ⊢
    clear hg1
    have hs3 : Sub σ3 σb := by
      rw [hσ3]
      intro j x hj
      have hne : j ≠ id := fun e => by subst e; rw [h1] at hj; cases hj
      rw [upd_ne _ _ hne]; exact ((Sub.upd_fresh _ ht2).trans hsb) _ _ hj
    (refine wX ?_)
    cases ends
  case' inr.none =>
    (refine wX ?_)
    cases ends
  case' inr.none.false =>
    (refine wX ?_)
    obtain ⟨σ3, hσ3⟩ : ∃ σ3, σ3 = σ := ⟨_, rfl⟩
    rw [← hσ3]
    have hc3 : ∃ tk3, σ3 id = some (.cells (glCells (holdG (none, n) b false false) tk3)) := ⟨tk, by rw [hσ3]; exact hc0⟩
    obtain ⟨g1, hg1⟩ : ∃ g1, g1 = holdG (none, n) b false false := ⟨_, rfl⟩
    have hg2 : g1.2 ≤ n + 1 := by rw [hg1]; exact hold_lost _ _ _ _
    rw [← hg1] at hc3 ⊢
    clear hg1
    have hs3 : Sub σ3 σb := by rw [hσ3]; exact hsb
  case' inr.none.true =>
    (refine wX ?_)
    refine aload hc0 rfl ?_
    (refine wX ?_)
    refine afit_i64 (by omega) ?_
    (refine wX ?_)
    refine astore (xs := [i64v ((n : Int) + 1)]) (l := glCells (none, n + 1) tk) hc0 (Nat.le_of_ble_eq_true rfl) rfl rfl ?_
    obtain ⟨σ3, hσ3⟩ : ∃ σ3, σ3 = upd σ id (.cells (glCells (none, n + 1) tk)) := ⟨_, rfl⟩
    rw [← hσ3]
    have hc3 : ∃ tk3, σ3 id = some (.cells (glCells (holdG (none, n) b false true) tk3)) := ⟨tk, by rw [hσ3]; exact upd_same _ _ _⟩
    obtain ⟨g1, hg1⟩ : ∃ g1, g1 = holdG (none, n) b false true := ⟨_, rfl⟩
    have hg2 : g1.2 ≤ n + 1 := by rw [hg1]; exact hold_lost _ _ _ _
    rw [← hg1] at hc3 ⊢
    clear hg1
    have hs3 : Sub σ3 σb := by
      rw [hσ3]
      intro j x hj
      have hne : j ≠ id := fun e => by subst e; rw [h1] at hj; cases hj
      rw [upd_ne _ _ hne]; exact hsb _ _ hj
    (refine wX ?_)
  all_goals
    obtain ⟨tk3, hc3⟩ := hc3
    refine aload hc3 rfl ?_
    (refine wX ?_)
    rw [List.length_map]
    by_cases hlong : (g1.1.getD []).length > 1000
    · refine abr_yes (by omega) ?_
      (refine wX ?_)
      refine acall (gLose id g1 _ _ (Gl.at hc3) (by omega)) ?_
      rintro _ σ4 w4
      (refine wX ?_)
      obtain ⟨tk4, hc4⟩ := w4.cell
      have hs4 := w4.sub.trans (sub_del hs3 h1)
      rw [show cutG g1 = loseG g1 from if_pos hlong]
      obtain ⟨σ', k1, k2⟩ := gl_of hc4 h1 hs4
      first
        | refine aload hc4 rfl ?_
          (refine wX ?_)
          exact aret VLe.tup_sl k1 ⟨rfl, k2⟩
        | exact aret VLe.tup_sl k1 ⟨rfl, k2⟩
    · refine abr_no (by omega) ?_
      (refine wX ?_)
      rw [show cutG g1 = g1 from if_neg hlong]
      obtain ⟨o1, n1⟩ := g1
      first
        | refine aload hc3 rfl ?_
          (refine wX ?_)
          cases o1 with
          | none =>
            (refine wX ?_)
            obtain ⟨σ', k1, k2⟩ := gl_of hc3 h1 hs3
            exact aret VLe.tup_sl k1 ⟨rfl, k2⟩
          | some x =>
            (refine wX ?_)
            refine aload hc3 rfl ?_
            (refine wX ?_)
            refine acall (gDrop id _ _ _ (Gl.at hc3)) ?_
            rintro _ σ4 w4
            (refine wX ?_)
            obtain ⟨tk4, hc4⟩ := w4.cell
            have hs4 := w4.sub.trans (sub_del hs3 h1)
            obtain ⟨σ', k1, k2⟩ := gl_of hc4 h1 hs4
            exact aret VLe.tup_sl k1 ⟨rfl, k2⟩
        | obtain ⟨σ', k1, k2⟩ := gl_of hc3 h1 hs3
          exact aret VLe.tup_sl k1 ⟨rfl, k2⟩
end Go.Proofs.Ytgbpjbpdpgbngaa
/-
  What a glue does with fields.
-/
namespace Go.Proofs.Ytgbpjbpdpgbngaa
open Go Go.Am

theorem gEmpty (b : List UInt8) (σ : AHeap) : ACalls Try.prog i_glue_Glue_Put_1 [sl .none b] σ fun v σ' => v = boolv (decide (b = [])) ∧ σ' = σ := by
  refine k_glue_Glue_Put_1 rfl ?_
  (refine wX ?_)
  refine aret_same ⟨?_, rfl⟩
  rw [List.length_map]
  exact congrArg boolv (dec_congr ⟨fun h => List.length_eq_zero_iff.1 (by omega), fun h => by subst h; rfl⟩)
/-- Is one of them empty? -/
def hollow (l : List (List UInt8)) : Bool := l.any fun b => decide (b = [])
theorem gIndex (l : List (List UInt8)) (t : Tok) (σ : AHeap) (hl : l.length ≤ 140737488355328) : ACalls Try.prog i_slices_IndexFunc_byte_byte [lists t l, .func i_glue_Glue_Put_1 [] []] σ fun v σ' => (∃ n : Int, v = i64v n ∧ (n ≥ 0 ↔ hollow l = true)) ∧ σ' = σ := by
  refine k_slices_IndexFunc_byte_byte rfl ?_
  (refine wX ?_)
  refine aloop (α := Nat) (fun i => [(s8, i64v i)]) (fun _ => σ) (fun i => i ≤ l.length ∧ hollow (l.take i) = false) (fun i => l.length - i) 0 ⟨Nat.zero_le _, rfl⟩ (Sub.refl _) ?_ ?_
  · (refine wX ?_)
    exact elX
  rintro i ⟨hi, hw⟩
  by_cases h : i < l.length
  · (refine wX ?_)
    (repeat ((first | refine abr_yes (by omega) ?_ | rw [List.length_map]); (refine wX ?_)))
    refine aget (by omega) (get_lists h) ?_
    (refine wX ?_)
    refine acell rfl ?_
    (refine wX ?_)
    refine ⟨rfl, ?_⟩
    (refine wX ?_)
    refine acall (gEmpty l[i] _) ?_
    rintro _ σ_ ⟨rfl, e_⟩
    obtain rfl := e_.symm
    (refine wX ?_)
    have e : hollow (l.take (i + 1)) = decide (l[i] = []) := by unfold hollow at hw ⊢; rw [List.take_add_one, List.getElem?_eq_getElem h, List.any_append, hw]; simp
    by_cases hc : l[i] = []
    · rw [decide_eq_true hc]
      (refine wX ?_)
      refine aret_same ⟨⟨_, rfl, ⟨fun _ => ?_, fun _ => by omega⟩⟩, rfl⟩
      exact List.any_eq_true.2 ⟨l[i], List.getElem_mem h, decide_eq_true hc⟩
    · rw [decide_eq_false hc] at e ⊢
      (refine wX ?_)
      (repeat ((refine afit_i64 (by omega) ?_); (refine wX ?_)))
      refine ⟨i + 1, ⟨by omega, e⟩, by omega, Sub.refl _, ?_⟩
      (refine wX ?_)
      exact elX
  · rw [List.take_of_length_le (by omega)] at hw
    (refine wX ?_)
    (repeat ((first | refine abr_no (by omega) ?_ | rw [List.length_map]); (refine wX ?_)))
    exact aret_same ⟨⟨-1, rfl, ⟨fun h => by omega, fun h => by rw [hw] at h; cases h⟩⟩, rfl⟩
theorem gContains (l : List (List UInt8)) (t : Tok) (σ : AHeap) (hl : l.length ≤ 140737488355328) : ACalls Try.prog i_slices_ContainsFunc_byte_byte [lists t l, .func i_glue_Glue_Put_1 [] []] σ fun v σ' => v = boolv (hollow l) ∧ σ' = σ := by
  refine k_slices_ContainsFunc_byte_byte rfl ?_
  (refine wX ?_)
  refine acall (gIndex l t _ hl) ?_
  rintro _ σ_ ⟨⟨n, rfl, hn⟩, e_⟩
  obtain rfl := e_.symm
  refine ⟨?_, Ext.refl _⟩
  (refine wX ?_)
  have e : hollow l = decide (0 ≤ n) := by
    cases hh : hollow l with
    | true => exact (decide_eq_true (hn.2 hh)).symm
    | false => exact (decide_eq_false (fun k => by rw [hn.1 k] at hh; cases hh)).symm
  rw [e]
  exact aret_same ⟨congrArg boolv (dec_congr Iff.rfl), rfl⟩

def beginsG (fi : Int) (i : Nat) : Bool := decide (0 < i) || decide (fi / 2 = 0)
def endsG (fi : Int) (n i : Nat) : Bool := decide (i + 1 < n) || decide (fi % 2 = 0)
/-- The first fields, taken one by one. -/
def putN (fi : Int) (l : List (List UInt8)) (g : GS) : Nat → List (List UInt8) × GS
  | 0 => ([], g)
  | k + 1 => ((putN fi l g k).1 ++ (fieldG (putN fi l g k).2 (l[k]?.getD []) (beginsG fi k) (endsG fi l.length k)).1.toList, (fieldG (putN fi l g k).2 (l[k]?.getD []) (beginsG fi k) (endsG fi l.length k)).2)
theorem putN_ok (fi : Int) (l : List (List UInt8)) (g : GS) (hg : (g.1.getD []).length ≤ 1000) : ∀ k, (putN fi l g k).1.length ≤ k ∧ ((putN fi l g k).2.1.getD []).length ≤ 1000 ∧ (putN fi l g k).2.2 ≤ g.2 + 2 * k
  | 0 => ⟨Nat.le_refl _, hg, by show g.2 ≤ _; omega⟩
  | k + 1 => by
    obtain ⟨h1, h2, h3⟩ := putN_ok fi l g hg k
    unfold putN
    refine ⟨?_, fieldG_held _ _ _ _, ?_⟩
    · rw [List.length_append]
      have : (fieldG (putN fi l g k).2 (l[k]?.getD []) (beginsG fi k) (endsG fi l.length k)).1.toList.length ≤ 1 := by cases (fieldG (putN fi l g k).2 (l[k]?.getD []) (beginsG fi k) (endsG fi l.length k)).1 <;> simp
      omega
    · have := fieldG_lost (putN fi l g k).2 (l[k]?.getD []) (beginsG fi k) (endsG fi l.length k)
      dsimp only
      omega
def gpBad (fi : Int) (l : List (List UInt8)) : Bool := decide (fi < 0) || decide (fi > 3) || decide (l.length = 0) || decide (l.length > 24) || hollow l
def gapG (g : GS) (gap : Bool) : GS := if gap = true then loseG g else g
def putG (fi : Int) (l : List (List UInt8)) (gap : Bool) (g : GS) : List (List UInt8) × GS := if gpBad fi l = true then ([], g) else putN fi l (gapG g gap) l.length
theorem and2 {fi : Int} (h0 : 0 ≤ fi) (h3 : fi ≤ 3) : bitsOp .and .i64 fi 2 = 2 * (fi / 2) := by
  have : fi = 0 ∨ fi = 1 ∨ fi = 2 ∨ fi = 3 := by omega
  rcases this with rfl | rfl | rfl | rfl <;> decide
theorem and1 {fi : Int} (h0 : 0 ≤ fi) (h3 : fi ≤ 3) : bitsOp .and .i64 fi 1 = fi % 2 := by
  have : fi = 0 ∨ fi = 1 ∨ fi = 2 ∨ fi = 3 := by omega
  rcases this with rfl | rfl | rfl | rfl <;> decide

theorem Gl.tips {σ4 σc : AHeap} {id : Nat} {g : GS} {cs : List AVal} (w : Gl σ4 id g (del σc id)) (hc : σc id = some (.cells cs)) : ∀ t, σc t = some .tip → σ4 t = some .tip := by
  intro t ht
  obtain ⟨_, tk', rfl⟩ := w
  have hne : t ≠ id := fun e => by subst e; rw [hc] at ht; cases ht
  rw [upd_ne _ _ hne, del_ne _ hne]; exact ht

set_option maxRecDepth 20000 in
theorem gPut (id : Nat) (fi : Int) (l : List (List UInt8)) (t : Tok) (gap : Bool) (g : GS) (σ σb : AHeap) (h : Gl σ id g σb) (hl : g.2 ≤ 1000000) (hh : (g.1.getD []).length ≤ 1000) (hlen : l.length ≤ 140737488355328) (hb : ∀ f ∈ l, f.length ≤ 140737488351232) :
    ACalls Try.prog i_glue_Glue_Put [.ptr id 0, i64v fi, lists t l, boolv gap] σ fun v σ' => v = .tup [lists .none (putG fi l gap g).1, i64v (if gpBad fi l = true then 1 else 0)] ∧ Gl σ' id (putG fi l gap g).2 σb := by
  have h1 := h.1
  have hsb := h.sub
  obtain ⟨tk0, hc0⟩ := h.cell
  have hg0 : ((gapG g gap).1.getD []).length ≤ 1000 := by
    unfold gapG loseG; split
    · simp
    · exact hh
  have hg1 : (gapG g gap).2 ≤ g.2 + 1 := by
    unfold gapG loseG; split
    · dsimp only; cases g.1.isSome <;> simp
    · omega
  have hn := putN_ok fi l (gapG g gap) hg0
  refine k_glue_Glue_Put rfl ?_
  (refine wX ?_)
  refine ascope' (α := Nat × Tok × AHeap) (fun x => [(s11, lists x.2.1 (putN fi l (gapG g gap) x.1).1), (s12, i64v x.1), (s13, i64v ((l.length : Int) - 1))]) (fun x => x.2.2) (fun _ => 0)
    (fun x => x.1 < l.length ∧ (∃ tkc, x.2.2 id = some (.cells (glCells (putN fi l (gapG g gap) x.1).2 tkc))) ∧ TokIn x.2.2 σb x.2.1 ∧ Sub x.2.2 σb ∧ (0 ≤ fi ∧ fi ≤ 3 ∧ l.length ≤ 24 ∧ gpBad fi l = false)) (fun x => l.length - x.1) ?_ ?_
  · (refine wX ?_)
    intro hlab
    (refine wX ?_)
    refine aload hc0 rfl ?_
    (refine wX ?_)
    have bad (hb : gpBad fi l = true) : AVal.tup [lists .none [], i64v 1] = .tup [lists .none (putG fi l gap g).1, i64v (if gpBad fi l = true then 1 else 0)] ∧ Gl σ id (putG fi l gap g).2 σb := by
      unfold putG
      rw [if_pos hb, if_pos hb]
      exact ⟨rfl, h⟩
    by_cases b1 : fi < 0
    · (repeat ((refine abr_yes (by omega) ?_); (refine wX ?_)))
      exact aret VLe.tup_sl (Sub.refl _) (bad (by unfold gpBad; rw [decide_eq_true b1]; rfl))
    by_cases b2 : fi > 3
    · (repeat ((first | refine abr_yes (by omega) ?_ | refine abr_no (by omega) ?_); (refine wX ?_)))
      exact aret VLe.tup_sl (Sub.refl _) (bad (by unfold gpBad; rw [decide_eq_true b2]; simp))
    by_cases b3 : l.length = 0
    · (repeat ((first | refine abr_yes (by omega) ?_ | refine abr_no (by omega) ?_ | rw [List.length_map]); (refine wX ?_)))
      exact aret VLe.tup_sl (Sub.refl _) (bad (by unfold gpBad; rw [decide_eq_true b3]; simp))
    by_cases b4 : l.length > 24
    · (repeat ((first | refine abr_yes (by omega) ?_ | refine abr_no (by omega) ?_ | rw [List.length_map]); (refine wX ?_)))
      exact aret VLe.tup_sl (Sub.refl _) (bad (by unfold gpBad; rw [decide_eq_true b4]; simp))
    (repeat ((first | refine abr_no (by omega) ?_ | rw [List.length_map]); (refine wX ?_)))
    refine acall (gContains l t _ (by omega)) ?_
    rintro _ σ_ ⟨rfl, e_⟩
    obtain rfl := e_.symm
    refine ⟨?_, Ext.refl _⟩
    (refine wX ?_)
    cases b5 : hollow l with
    | true =>
      (refine wX ?_)
      exact aret VLe.tup_sl (Sub.refl _) (bad (by unfold gpBad; rw [b5]; simp))
    | false =>
      have hgood : gpBad fi l = false := by unfold gpBad; rw [decide_eq_false b1, decide_eq_false b2, decide_eq_false b3, decide_eq_false b4, b5]; rfl
      (refine wX ?_)
      have key : ∀ σ1, Gl σ1 id (gapG g gap) σb → ∃ tkc, σ1 id = some (.cells (glCells (putN fi l (gapG g gap) 0).2 tkc)) := fun σ1 w => w.cell
      cases gap with
      | false =>
        (refine wX ?_)
        rw [List.length_map]
        (repeat ((refine afit_i64 (by omega) ?_); (refine wX ?_)))
        refine hlab _ (fun _ _ _ h => h) _ _ _ _ ⟨(0, .full, σ), rfl, ⟨by dsimp only; omega, key _ h, .full _ _, hsb, by omega, by omega, by omega, hgood⟩, rfl, Sub.refl _, ?_⟩
        (refine wX ?_)
        exact elX
      | true =>
        (refine wX ?_)
        refine acall (gLose id g _ _ h (by omega)) ?_
        rintro _ σ1 w1
        (refine wX ?_)
        rw [List.length_map]
        (repeat ((refine afit_i64 (by omega) ?_); (refine wX ?_)))
        refine hlab _ (fun _ _ _ h => h) _ _ _ _ ⟨(0, .full, σ1), rfl, ⟨by dsimp only; omega, key _ w1, .full _ _, w1.sub, by omega, by omega, by omega, hgood⟩, rfl, Sub.refl _, ?_⟩
        (refine wX ?_)
        exact elX
  · rintro ⟨i, tk, σc⟩ ⟨hi, ⟨tkc, hc⟩, hto, hs, hf0, hf3, h24, hgood⟩
    dsimp only at hi hc hto hs ⊢
    obtain ⟨n1, n2, n3⟩ := hn i
    have hli := hb _ (List.getElem_mem hi)
    refine ⟨_, rfl, ?_⟩
    (refine wX ?_)
    intro hlab
    (refine wX ?_)
    refine aget (by omega) (get_lists hi) ?_
    (refine wX ?_)
    refine acell rfl ?_
    (refine wX ?_)
    obtain ⟨P, hP⟩ : ∃ P, P = fieldG (putN fi l (gapG g gap) i).2 (l[i]?.getD []) (beginsG fi i) (endsG fi l.length i) := ⟨_, rfl⟩
    have hstep : putN fi l (gapG g gap) (i + 1) = ((putN fi l (gapG g gap) i).1 ++ P.1.toList, P.2) := by rw [hP]; rfl
    have key : ∀ X Y, X = beginsG fi i → Y = endsG fi l.length i → ACalls Try.prog i_glue_Glue_field [.ptr id 0, sl .none l[i], boolv X, boolv Y] σc (fun v σ' => v = .tup [sl .none (P.1.getD []), boolv P.1.isSome] ∧ Gl σ' id P.2 (del σc id)) := by
      rintro _ _ rfl rfl
      have := gField id (putN fi l (gapG g gap) i).2 l[i] .none (beginsG fi i) (endsG fi l.length i) σc _ (Gl.at hc) (by omega) n2 hli
      rw [List.getElem?_eq_getElem hi, Option.getD_some] at hP
      rw [← hP] at this
      exact this
    clear hP
    have eb1 : 0 < i → true = beginsG fi i := fun h => by unfold beginsG; rw [decide_eq_true h]; rfl
    have eb2 : ¬ 0 < i → decide (2 * (fi / 2) = 0) = beginsG fi i := fun h => by unfold beginsG; rw [decide_eq_false h, Bool.false_or]; exact dec_congr (by omega)
    have ee1 : i + 1 < l.length → true = endsG fi l.length i := fun h => by unfold endsG; rw [decide_eq_true h]; rfl
    have ee2 : ¬ i + 1 < l.length → decide (fi % 2 = 0) = endsG fi l.length i := fun h => by unfold endsG; rw [decide_eq_false h, Bool.false_or]
    rcases Classical.em (0 < i) with hi0 | hi0 <;> rcases Classical.em (i + 1 < l.length) with hil | hil
    case' inl.inl =>
      (repeat ((refine abr_yes (by omega) ?_); (refine wX ?_)))
      refine acall (key _ _ (eb1 hi0) (ee1 hil)) ?_
    case' inl.inr =>
      (repeat ((first | refine abr_yes (by omega) ?_ | refine abr_no (by omega) ?_); (refine wX ?_)))
      refine abits_eq (and1 hf0 hf3) ?_
      (refine wX ?_)
      refine acall (key _ _ (eb1 hi0) (ee2 hil)) ?_
    case' inr.inl =>
      (repeat ((refine abr_no (by omega) ?_); (refine wX ?_)))
      refine abits_eq (and2 hf0 hf3) ?_
      (refine wX ?_)
      (repeat ((refine abr_yes (by omega) ?_); (refine wX ?_)))
      refine acall (key _ _ (eb2 hi0) (ee1 hil)) ?_
    case' inr.inr =>
      (repeat ((refine abr_no (by omega) ?_); (refine wX ?_)))
      refine abits_eq (and2 hf0 hf3) ?_
      (refine wX ?_)
      (repeat ((refine abr_no (by omega) ?_); (refine wX ?_)))
      refine abits_eq (and1 hf0 hf3) ?_
      (refine wX ?_)
      refine acall (key _ _ (eb2 hi0) (ee2 hil)) ?_
    all_goals
      rintro _ σ4 ⟨rfl, w4⟩
      obtain ⟨tk4, hc4⟩ := w4.cell
      have hs4 := w4.sub.trans (sub_del hs h1)
      have hto4 := hto.ext (w4.tips hc)
      obtain ⟨r, g4⟩ := P
      dsimp only at hc4
      cases r with
      | none =>
        have hst : putN fi l (gapG g gap) (i + 1) = ((putN fi l (gapG g gap) i).1, g4) := by rw [hstep]; simp
        (refine wX ?_)
        (repeat ((first | refine afit_i64 (by omega) ?_ | refine abr_yes (by omega) ?_ | refine abr_no (by omega) ?_); (refine wX ?_)))
        first
          | refine ⟨(i + 1, tk, σ4), rfl, ⟨by dsimp only; omega, ⟨tk4, by dsimp only; rw [hst]; exact hc4⟩, hto4, hs4, hf0, hf3, h24, hgood⟩, by dsimp only; omega, Sub.refl _, ?_⟩
            (refine wX ?_)
            rw [hst]
            exact elX
          | have hG : putG fi l gap g = putN fi l (gapG g gap) (i + 1) := by unfold putG; rw [if_neg (by rw [hgood]; simp), show l.length = i + 1 by omega]
            obtain ⟨σ', k1, k2⟩ := gl_of hc4 h1 hs4
            refine aret VLe.tup_sl k1 ⟨?_, ?_⟩
            · rw [hG, hst, hgood]; rfl
            · rw [hG, hst]; exact k2
      | some x =>
        have hst : putN fi l (gapG g gap) (i + 1) = ((putN fi l (gapG g gap) i).1 ++ [x], g4) := hstep
        (refine wX ?_)
        refine aapp_in (ys := [sl .none x]) hto4 hs4 (by rw [List.length_map]; show (_ + 1) * 24 ≤ _; omega) fun t5 σ5 hx5 hs5 hto5 => ?_
        rw [show List.map (sl .none) (putN fi l (gapG g gap) i).1 ++ [sl .none x] = List.map (sl .none) ((putN fi l (gapG g gap) i).1 ++ [x]) by simp]
        have hc5 := hx5 id _ rfl hc4
        (refine wX ?_)
        (repeat ((first | refine afit_i64 (by omega) ?_ | refine abr_yes (by omega) ?_ | refine abr_no (by omega) ?_); (refine wX ?_)))
        first
          | refine ⟨(i + 1, .tip t5, σ5), rfl, ⟨by dsimp only; omega, ⟨tk4, by dsimp only; rw [hst]; exact hc5⟩, hto5, hs5, hf0, hf3, h24, hgood⟩, by dsimp only; omega, Sub.refl _, ?_⟩
            (refine wX ?_)
            rw [hst]
            exact elX
          | have hG : putG fi l gap g = putN fi l (gapG g gap) (i + 1) := by unfold putG; rw [if_neg (by rw [hgood]; simp), show l.length = i + 1 by omega]
            obtain ⟨σ', k1, k2⟩ := gl_of hc5 h1 hs5
            refine aret VLe.tup_sl k1 ⟨?_, ?_⟩
            · rw [hG, hst, hgood]; rfl
            · rw [hG, hst]; exact k2
end Go.Proofs.Ytgbpjbpdpgbngaa
